import PyProof.Rows.All
import Wide.All
import OpenK.AllK
import Wide.FinOn
import HandS.ForMost
import HandS.Deep
import HandS.Lambda
import HandS.Nested
import HandS.Codes
import HandS.TupAny
import HandS.Wide
import HandS.Star
import HandS.Style
import HandS.IsInst
import HandS.Conv
import PyProof.Rows.ListStrD
import HandS.RevTup
import KE.GoesEnum
import HandS.DictComp
import HandS.Walk
import HandS.Small
import HandS.Property
import HandS.MakeKwOnly
import HandS.SlotsOwn
import HandS.HeadHook4
import HandS.HeadWalk
import HandS.EndTab
import HandS.HeadEnd
import HandS.Head2
import PySem.Challenge.RW_mendtrees_k05_whole_grammars_looked_thro
set_option Elab.async false
set_option linter.all false
set_option maxRecDepth 100000
set_option maxHeartbeats 1000000
/-! MTa: values, stores, the relation of values to the abstract heap. -/
namespace MT
open PySem PySem.Spec PyProof.Rows L2

/-- a value as a tree; obj n: the n-th changing object; fn i c: the i-th function with what it has captured -/
inductive D where
  | non | bl (b : Bool) | int (i : Int) | str (s : List Nat)
  | tup (l : List D) | lst (l : List D) | ro (l : List D) | dct (l : List (D × D)) | obj (n : Nat) | fn (i : Nat) (c : List D)
  deriving Inhabited

/-- a changing object -/
inductive Ob where
  | lst (l : List D) | dct (l : List (D × D)) | ins (c : Nat) (fs : List (Nat × D))
  deriving Inhabited
abbrev Store := List Ob
abbrev Envr := List (Option D)

/-- a lambda of the text -/
structure LamI where
  qual : Str
  params : Arguments
  body : Expr
  scope : Scope
  frees : List Str
/-- a function: a global's name, or a lambda -/
inductive FnK where
  | glo (x : Str) | met (a : Addr) | lam (L : LamI)

/-- what is fixed through a law -/
structure Cst where
  P : Program
  w : World
  K : PySem.W.Frag
  mg : Str → Option Value
  fk : List FnK
  /-- the classes' names, the fields' names -/
  cls : List Str
  fld : List Str
  /-- calls with keywords: the function, how many come first, the keywords, the order -/
  kwl : List (Nat × Nat × List Str × List Nat)
  /-- tables of code objects -/
  T : List NdefX.NTab

/-- frozen objects; the changing objects' places -/
structure Wd where
  F : Hp
  m : List Addr

/-- the world without some frozen objects -/
noncomputable def Wd.drop (W : Wd) (N : Addr → Prop) : Wd := ⟨fun b => open Classical in if N b then none else W.F b, W.m⟩
/-- the cells of a closure -/
def cellsN (cl : List (Str × Addr)) : Addr → Prop := fun b => ∃ y, cl.lookup y = some b
/-- an object of which all is known -/
def PinO (a : Addr) (o : Obj) : HO := .ext fun h => h.get? a = some o
/-- the captured cells: pinned, holding these values -/
structure CellsF (F : Hp) (cl : List (Str × Addr)) (fr : List Str) (vs : List V) : Prop where
  len : vs.length = fr.length
  all : ∀ y c, cl.lookup y = some c → ∃ o v, F c = some (PinO c o) ∧ o.data = .cell v
  inj : ∀ x y c, cl.lookup x = some c → cl.lookup y = some c → x = y
  only : ∀ y c, cl.lookup y = some c → y ∈ fr
  has : ∀ (i : Nat) (y : Str), fr[i]? = some y → ∃ c o u v, cl.lookup y = some c ∧ F c = some (PinO c o) ∧ o.data = .cell (some u) ∧ vs[i]? = some v ∧ RelV v u

def dkey : D → Option Key
  | .int i => some (.inl i)
  | .str s => some (.inr ⟨s.toArray⟩)
  | _ => none
/-- no text, no row is longer -/
def LIM : Nat := 1000000
def Asc (s : List Nat) : Prop := (∀ c ∈ s, c < 128) ∧ s.length ≤ LIM
/-- a key of a dict -/
def RepK : D → Key → Prop
  | .int i, k => k = .inl i
  | .str s, k => k = .inr ⟨s.toArray⟩ ∧ Asc s
  | _, _ => False

mutual
def Rep (C : Cst) : Wd → D → V → Prop
  | _, .non, v => v = .non
  | _, .bl b, v => v = .bl b
  | _, .int i, v => v = .int i
  | _, .str s, v => v = .str ⟨s.toArray⟩ ∧ Asc s
  | W, .tup ds, v => ∃ a xs, v = .ref a ∧ SqT C.K W.F a xs ∧ RepL C W ds xs
  | W, .lst ds, v => ∃ a xs, v = .ref a ∧ W.F a = some (.lst xs) ∧ RepL C W ds xs
  | W, .ro ds, v => ∃ a xs, v = .ref a ∧ SqL C.K W.F a xs ∧ RepL C W ds xs
  | W, .dct ps, v => ∃ a kvs, v = .ref a ∧ W.F a = some (.dK kvs) ∧ RepP C W ps kvs
  | W, .obj n, v => ∃ a, v = .ref a ∧ W.m[n]? = some a
  | W, .fn i cs, v => match C.fk[i]? with
    | some (.glo x) => cs = [] ∧ ∃ a, v = .ref a ∧ C.mg x = some (.ref a) ∧ PySem.W.keepIn C.K (.ref a) = true
    | some (.lam L) => ∃ f c cl pm ctv vs o, v = .ref f ∧ W.F f = some (PinO f o) ∧ o = PySem.W.kla_obj "<lambda>" L.qual L.params L.body L.scope cl pm c ctv ∧
        W.F c = some (LamX.CodeO c L.qual) ∧ CellsF W.F cl L.frees vs ∧ RepL C (W.drop (cellsN cl)) cs vs
    | _ => False
def RepL (C : Cst) : Wd → List D → List V → Prop
  | _, [], vs => vs = []
  | W, d :: ds, vs => ∃ v r, vs = v :: r ∧ Rep C W d v ∧ RepL C W ds r
def RepP (C : Cst) : Wd → List (D × D) → List (Key × V) → Prop
  | _, [], kvs => kvs = []
  | W, (k, d) :: ps, kvs => ∃ k' v r, kvs = (k', v) :: r ∧ RepK k k' ∧ Rep C W d v ∧ RepP C W ps r
end

/-- an object's content: a list or a dict of known values -/
def RepH (C : Cst) (W : Wd) : D → HO → Prop
  | .lst ds, o => ∃ xs, o = .lst xs ∧ RepL C W ds xs
  | .dct ps, o => ∃ kvs, o = .dK kvs ∧ RepP C W ps kvs
  | _, _ => False
/-- fields of an instance -/
def RepFs (C : Cst) (W : Wd) (fs : List (Nat × D)) (fv : List (Str × V)) : Prop :=
  fv.length ≤ fs.length ∧ (∀ x v, fv.lookup x = some v → ∃ k d, C.fld[k]? = some x ∧ fs.lookup k = some d) ∧
    ∀ k d, fs.lookup k = some d → ∃ x v, C.fld[k]? = some x ∧ fv.lookup x = some v ∧ Rep C W d v
/-- a changing object's content -/
def RepO (C : Cst) (W : Wd) : Ob → HO → Prop
  | .lst ds, o => ∃ xs, o = .lst xs ∧ RepL C W ds xs
  | .dct ps, o => ∃ kvs, o = .dK kvs ∧ RepP C W ps kvs
  | .ins c fs, o => ∃ A dx fv, o = .ins A dx fv ∧ (∃ x, C.cls[c]? = some x ∧ C.mg x = some (.ref A)) ∧ RepFs C W fs fv

/-! ### growing worlds -/
theorem drop_F {W : Wd} {N : Addr → Prop} {b : Addr} {o : HO} : (W.drop N).F b = some o ↔ ¬ N b ∧ W.F b = some o := by
  unfold Wd.drop
  by_cases h : N b
  · simp [h]
  · simp [h]
theorem drop_none {W : Wd} {N : Addr → Prop} {b : Addr} (h : N b) : (W.drop N).F b = none := by
  unfold Wd.drop
  simp [h]
def FLe (F F' : Hp) : Prop := ∀ a o, F a = some o → F' a = some o
theorem FLe.refl (F : Hp) : FLe F F := fun _ _ h => h
theorem FLe.trans {F G H : Hp} (a : FLe F G) (b : FLe G H) : FLe F H := fun x o h => b x o (a x o h)
structure WLe (W W' : Wd) : Prop where
  f : FLe W.F W'.F
  m : ∀ (n : Nat) (a : Addr), W.m[n]? = some a → W'.m[n]? = some a
theorem WLe.refl (W : Wd) : WLe W W := ⟨.refl _, fun _ _ h => h⟩
theorem WLe.trans {W W' W'' : Wd} (a : WLe W W') (b : WLe W' W'') : WLe W W'' := ⟨a.f.trans b.f, fun n x h => b.m n x (a.m n x h)⟩

theorem WLe.drop {W W' : Wd} (e : WLe W W') (N : Addr → Prop) : WLe (W.drop N) (W'.drop N) := ⟨fun a o h => by
  obtain ⟨h1, h2⟩ := drop_F.mp h
  exact drop_F.mpr ⟨h1, e.f a o h2⟩, e.m⟩
theorem rd_mono {F F' : Hp} (e : FLe F F') {a : Addr} {u : HO} (h : Rd F a u) : Rd F' a u := by
  rcases h with h | ⟨o, h⟩
  · exact .inl (e _ _ h)
  · exact .inr ⟨o, e _ _ h⟩
theorem sql_mono {K : PySem.W.Frag} {F F' : Hp} (e : FLe F F') {a : Addr} {xs : List V} (h : SqL K F a xs) : SqL K F' a xs := by
  rcases h with h | h
  · exact .inl (rd_mono e h)
  · exact .inr h
theorem sqt_mono {K : PySem.W.Frag} {F F' : Hp} (e : FLe F F') {a : Addr} {xs : List V} (h : SqT K F a xs) : SqT K F' a xs := by
  rcases h with h | h
  · exact .inl (rd_mono e h)
  · exact .inr h
theorem CellsF.mono {F F' : Hp} (e : FLe F F') {cl : List (Str × Addr)} {fr : List Str} {vs : List V} (h : CellsF F cl fr vs) : CellsF F' cl fr vs := by
  refine ⟨h.len, fun y c q => ?_, h.inj, h.only, fun i y q => ?_⟩
  · obtain ⟨o, v, h1, h2⟩ := h.all y c q
    exact ⟨o, v, e _ _ h1, h2⟩
  · obtain ⟨c, o, u, v, h1, h2, h3, h4, h5⟩ := h.has i y q
    exact ⟨c, o, u, v, h1, e _ _ h2, h3, h4, h5⟩
section
variable {C : Cst} {W W' : Wd}
mutual
theorem Rep.mono {W W' : Wd} (e : WLe W W') : ∀ (d : D) (v : V), Rep C W d v → Rep C W' d v
  | .non, v, h => by rw [Rep] at h ⊢; exact h
  | .bl b, v, h => by rw [Rep] at h ⊢; exact h
  | .int i, v, h => by rw [Rep] at h ⊢; exact h
  | .str s, v, h => by rw [Rep] at h ⊢; exact h
  | .tup ds, v, h => by
    rw [Rep] at h ⊢
    obtain ⟨a, xs, h1, h2, h3⟩ := h
    exact ⟨a, xs, h1, sqt_mono e.f h2, RepL.mono e ds xs h3⟩
  | .lst ds, v, h => by
    rw [Rep] at h ⊢
    obtain ⟨a, xs, h1, h2, h3⟩ := h
    exact ⟨a, xs, h1, e.f _ _ h2, RepL.mono e ds xs h3⟩
  | .ro ds, v, h => by
    rw [Rep] at h ⊢
    obtain ⟨a, xs, h1, h2, h3⟩ := h
    exact ⟨a, xs, h1, sql_mono e.f h2, RepL.mono e ds xs h3⟩
  | .dct ps, v, h => by
    rw [Rep] at h ⊢
    obtain ⟨a, xs, h1, h2, h3⟩ := h
    exact ⟨a, xs, h1, e.f _ _ h2, RepP.mono e ps xs h3⟩
  | .obj n, v, h => by
    rw [Rep] at h ⊢
    obtain ⟨a, h1, h2⟩ := h
    exact ⟨a, h1, e.m _ _ h2⟩
  | .fn i cs, v, h => by
    rw [Rep] at h ⊢
    split at h
    · exact h
    · obtain ⟨f, c, cl, pm, ctv, vs, o, h1, h2, h3, h4, h5, h6⟩ := h
      exact ⟨f, c, cl, pm, ctv, vs, o, h1, e.f _ _ h2, h3, e.f _ _ h4, h5.mono e.f, RepL.mono (e.drop _) cs vs h6⟩
    · exact h
theorem RepL.mono {W W' : Wd} (e : WLe W W') : ∀ (ds : List D) (vs : List V), RepL C W ds vs → RepL C W' ds vs
  | [], vs, h => by rw [RepL] at h ⊢; exact h
  | d :: ds, vs, h => by
    rw [RepL] at h ⊢
    obtain ⟨v, r, h1, h2, h3⟩ := h
    exact ⟨v, r, h1, Rep.mono e d v h2, RepL.mono e ds r h3⟩
theorem RepP.mono {W W' : Wd} (e : WLe W W') : ∀ (ps : List (D × D)) (kvs : List (Key × V)), RepP C W ps kvs → RepP C W' ps kvs
  | [], vs, h => by rw [RepP] at h ⊢; exact h
  | (k, d) :: ps, vs, h => by
    rw [RepP] at h ⊢
    obtain ⟨k', v, r, h1, h2, h3, h4⟩ := h
    exact ⟨k', v, r, h1, h2, Rep.mono e d v h3, RepP.mono e ps r h4⟩
end
theorem RepH.mono (e : WLe W W') {d : D} {o : HO} (h : RepH C W d o) : RepH C W' d o := by
  unfold RepH at h ⊢
  split at h
  · obtain ⟨xs, h1, h2⟩ := h
    exact ⟨xs, h1, RepL.mono e _ _ h2⟩
  · obtain ⟨xs, h1, h2⟩ := h
    exact ⟨xs, h1, RepP.mono e _ _ h2⟩
  · exact h.elim
theorem RepFs.mono (e : WLe W W') {fs : List (Nat × D)} {fv : List (Str × V)} (h : RepFs C W fs fv) : RepFs C W' fs fv := by
  refine ⟨h.1, h.2.1, fun k d q => ?_⟩
  obtain ⟨x, v, h1, h2, h3⟩ := h.2.2 k d q
  exact ⟨x, v, h1, h2, Rep.mono e d v h3⟩
theorem RepO.mono (e : WLe W W') {d : Ob} {o : HO} (h : RepO C W d o) : RepO C W' d o := by
  unfold RepO at h ⊢
  split at h
  · obtain ⟨xs, h1, h2⟩ := h
    exact ⟨xs, h1, RepL.mono e _ _ h2⟩
  · obtain ⟨xs, h1, h2⟩ := h
    exact ⟨xs, h1, RepP.mono e _ _ h2⟩
  · obtain ⟨A, dx, fv, h1, h2, h3⟩ := h
    exact ⟨A, dx, fv, h1, h2, h3.mono e⟩

/-! ### lists of values -/
theorem RepL.length : ∀ {ds : List D} {vs : List V}, RepL C W ds vs → ds.length = vs.length
  | [], vs, h => by rw [RepL] at h; subst h; rfl
  | d :: ds, vs, h => by
    rw [RepL] at h
    obtain ⟨v, r, h1, h2, h3⟩ := h
    subst h1
    simp [RepL.length h3]
theorem RepL.nil : RepL C W [] [] := by rw [RepL]
theorem RepL.cons {d : D} {v : V} {ds : List D} {vs : List V} (h : Rep C W d v) (t : RepL C W ds vs) : RepL C W (d :: ds) (v :: vs) := by
  rw [RepL]; exact ⟨v, vs, rfl, h, t⟩
theorem RepL.uncons {d : D} {v : V} {ds : List D} {vs : List V} (h : RepL C W (d :: ds) (v :: vs)) : Rep C W d v ∧ RepL C W ds vs := by
  rw [RepL] at h
  obtain ⟨v', r, h1, h2, h3⟩ := h
  cases h1
  exact ⟨h2, h3⟩
theorem RepL.append : ∀ {ds es : List D} {vs us : List V}, RepL C W ds vs → RepL C W es us → RepL C W (ds ++ es) (vs ++ us)
  | [], _, vs, _, h, t => by rw [RepL] at h; subst h; exact t
  | d :: ds, _, vs, _, h, t => by
    rw [RepL] at h
    obtain ⟨v, r, h1, h2, h3⟩ := h
    subst h1
    exact .cons h2 (RepL.append h3 t)
theorem RepL.get : ∀ {ds : List D} {vs : List V} {i : Nat} {d : D}, RepL C W ds vs → ds[i]? = some d → ∃ v, vs[i]? = some v ∧ Rep C W d v
  | [], _, _, _, _, e => by simp at e
  | d :: ds, vs, i, d', h, e => by
    rw [RepL] at h
    obtain ⟨v, r, h1, h2, h3⟩ := h
    subst h1
    cases i with
    | zero =>
      simp at e
      subst e
      exact ⟨v, by simp, h2⟩
    | succ i =>
      obtain ⟨u, q1, q2⟩ := RepL.get (i := i) h3 (by simpa using e)
      exact ⟨u, by simpa using q1, q2⟩
theorem RepL.get' {ds : List D} {vs : List V} {i : Nat} {v : V} (h : RepL C W ds vs) (e : vs[i]? = some v) : ∃ d, ds[i]? = some d ∧ Rep C W d v := by
  have hl := h.length
  have hi : i < vs.length := (List.getElem?_eq_some_iff.mp e).1
  have hd : ds[i]? = some ds[i] := List.getElem?_eq_getElem (by omega)
  obtain ⟨u, q1, q2⟩ := h.get hd
  rw [e] at q1
  cases q1
  exact ⟨_, hd, q2⟩
theorem RepL.take : ∀ {ds : List D} {vs : List V} (n : Nat), RepL C W ds vs → RepL C W (ds.take n) (vs.take n)
  | [], vs, n, h => by rw [RepL] at h; subst h; simp; exact .nil
  | d :: ds, vs, n, h => by
    rw [RepL] at h
    obtain ⟨v, r, h1, h2, h3⟩ := h
    subst h1
    cases n with
    | zero => exact .nil
    | succ n => exact .cons h2 (RepL.take n h3)
theorem RepL.drop : ∀ {ds : List D} {vs : List V} (n : Nat), RepL C W ds vs → RepL C W (ds.drop n) (vs.drop n)
  | [], vs, n, h => by rw [RepL] at h; subst h; simp; exact .nil
  | d :: ds, vs, n, h => by
    rw [RepL] at h
    obtain ⟨v, r, h1, h2, h3⟩ := h
    subst h1
    cases n with
    | zero => exact .cons h2 h3
    | succ n => exact RepL.drop n h3
theorem RepL.set : ∀ {ds : List D} {vs : List V} (n : Nat) {d : D} {v : V}, RepL C W ds vs → Rep C W d v → RepL C W (ds.set n d) (vs.set n v)
  | [], vs, n, _, _, h, _ => by rw [RepL] at h; subst h; simp; exact .nil
  | d :: ds, vs, n, _, _, h, k => by
    rw [RepL] at h
    obtain ⟨v, r, h1, h2, h3⟩ := h
    subst h1
    cases n with
    | zero => exact .cons k h3
    | succ n => exact .cons h2 (RepL.set n h3 k)
theorem RepL.reverse : ∀ {ds : List D} {vs : List V}, RepL C W ds vs → RepL C W ds.reverse vs.reverse
  | [], vs, h => by rw [RepL] at h; subst h; exact .nil
  | d :: ds, vs, h => by
    rw [RepL] at h
    obtain ⟨v, r, h1, h2, h3⟩ := h
    subst h1
    simp only [List.reverse_cons]
    exact RepL.append (RepL.reverse h3) (.cons h2 .nil)
theorem RepL.ints : ∀ (ns : List Int), RepL C W (ns.map D.int) (ns.map V.int)
  | [] => .nil
  | n :: ns => .cons (by rw [Rep]) (RepL.ints ns)
end
end MT

set_option maxRecDepth 100000
set_option maxHeartbeats 1000000
/-! MTb: the small language and its evaluator. -/
namespace MT
open PySem PySem.Spec PyProof.Rows L2

inductive BinO where | add | sub | mul | fdiv | mod | pow deriving DecidableEq
inductive CmpO where | eq | ne | lt | le | gt | ge | isin | notin deriving DecidableEq
inductive Ty where | str | int | bool | tuple | list | dict | cls (c : Nat) deriving DecidableEq
inductive Blt where | len | all | any | tuple | list | int | abs | divmod | max | min | sum | str | dict | sorted deriving DecidableEq
inductive Mth where | get | join | split | keys | values | index | count deriving DecidableEq

mutual
inductive Tg where
  | nm (i : Nat) | tp (l : Tgs)
inductive Tgs where
  | nil | cons (t : Tg) (r : Tgs)
end
mutual
inductive E where
  | var (i : Nat) | cst (d : D)
  | neg (a : E) | not (a : E) | bin (o : BinO) (a b : E) | cmp (o : CmpO) (a b : E) | eqo (ng : Bool) (a b : E) | cmp2 (o p : CmpO) (a b c : E) | isn (ng : Bool) (a : E)
  | and (a b : E) | or (a b : E) | ite (c a b : E)
  | tup (l : Es) | lst (l : Es) | newl (l : Es) | dct0 | newd
  | idx (a i : E) | sl (a : E) (lo hi : Eo) | rev (a : E)
  | comp (x : E) (t : Tg) (i : It) (c : Eo) (w : List Nat)
  | comp2 (x : E) (t : Tg) (i : It) (c : Eo) (t1 : Tg) (i1 : It) (c1 : Eo) (w w1 : List Nat)
  | dcomp (k v : E) (t : Tg) (i : It) (c : Eo) (w : List Nat)
  | call (f : Nat) (l : Es) | callk (f : Nat) (l lk : Es) (p : List Nat) | callv (i : Nat) (l : Es) | calll (f : Nat) (l : Es) (g : Nat) (caps : List Nat) | new (c : Nat) (f : Nat) (l : Es) | newk (c : Nat) (f : Nat) (l lk : Es) (p : List Nat)
  | att (a : E) (k : Nat) | meth (a : E) (k : Nat) (l : Es)
  | blt (b : Blt) (l : Es) | isi (t : Ty) (a : E) | mth (m : Mth) (a : E) (l : Es)
  | box (a : E) | popo (a : E) | emp (ng : Bool) (a : E) | getd (a k d : E)
inductive Es where
  | nil | cons (e : E) (r : Es) | star (e : E) (r : Es)
inductive Eo where
  | non | som (e : E)
inductive It where
  | e (a : E) | rng1 (a : E) | rng2 (a b : E) | enum (a : E) | zip (l : Es) | items (a : E)
end
inductive TgS where
  | nm (i : Nat) | ix (o k : E)
mutual
inductive Sm where
  | set (i : Nat) (e : E) | setn (i : Nat) (e : E) | retv (i : Nat) | unp (t : Tg) (e : E) | par (l : List Nat) (es : Es) | asg (l : List TgS) (e : E)
  | ret (e : E) | retn | exp (e : E)
  | app (i : Nat) (e : E) | ext (i : Nat) (e : E) | upd (i : Nat) (e : E) | seti (i : Nat) (k v : E) | pop (t : Tg) (i : Nat)
  | seto (o k v : E) | setf (o : E) (k : Nat) (v : E) | appo (o e : E) | exto (o e : E)
  | iff (c : E) (a b : Ss) | fr (t : Tg) (i : It) (b : Ss) | whl (c : E) (b : Ss) | brk | cnt | pass | stuck
inductive Ss where
  | nil | cons (s : Sm) (r : Ss)
end

/-! ### values -/
def bnd {α β γ : Type} (x : Option (α × β)) (f : α → β → Option γ) : Option γ := match x with
  | some (a, b) => f a b
  | none => none
@[simp] theorem bnd_some {α β γ : Type} (a : α) (b : β) (f : α → β → Option γ) : bnd (some (a, b)) f = f a b := rfl
@[simp] theorem bnd_none {α β γ : Type} (f : α → β → Option γ) : bnd none f = none := rfl

mutual
/-- as the library's data; of a value that holds no dict, object, function -/
def pd : D → PyData
  | .bl b => .bool b
  | .int i => .int i
  | .str s => .str ⟨s.toArray⟩
  | .tup l => .tuple (pds l)
  | .lst l => .list (pds l)
  | _ => .none
def pds : List D → List PyData
  | [] => []
  | d :: ds => pd d :: pds ds
end
mutual
def D.dep : D → Nat
  | .tup l => D.deps l + 1
  | .lst l => D.deps l + 1
  | _ => 0
def D.deps : List D → Nat
  | [] => 0
  | d :: ds => Nat.max (D.dep d) (D.deps ds)
end
/-! Python's ==, of values that hold no dict, object, function -/
mutual
def D.eqv : D → D → Bool
  | .non, .non => true
  | .bl a, .bl b => a == b
  | .bl a, .int j => (if a then 1 else 0) == j
  | .int i, .bl b => i == (if b then 1 else 0)
  | .int i, .int j => i == j
  | .str x, .str y => decide (x = y)
  | .lst xs, .lst ys => D.eqvs xs ys
  | .tup xs, .tup ys => D.eqvs xs ys
  | _, _ => false
def D.eqvs : List D → List D → Bool
  | [], [] => true
  | x :: xs, y :: ys => D.eqv x y && D.eqvs xs ys
  | _, _ => false
end
mutual
/-- no dict, object, function within -/
def D.flat : D → Bool
  | .tup l => D.flats l
  | .lst l => D.flats l
  | .ro _ => false
  | .dct _ => false
  | .obj _ => false
  | .fn _ _ => false
  | _ => true
def D.flats : List D → Bool
  | [] => true
  | d :: ds => D.flat d && D.flats ds
end
def eqD (x y : D) : Option Bool := if D.flat x && D.flat y && decide (Nat.min (D.dep x) (D.dep y) ≤ 60) then some (D.eqv x y) else none
/-- x in ys, a list or a tuple -/
def inD (x : D) (ys : List D) : Option Bool := if D.flat x && D.flats ys && decide (D.dep x ≤ 60) then some (ys.any fun y => D.eqv y x) else none

def ixn (n : Nat) (i : Int) : Option Nat := if 0 ≤ i then (if i < n then some i.toNat else none) else if -(n : Int) ≤ i then some (i + n).toNat else none
def atD {α : Type} (xs : List α) (i : Int) : Option α := (ixn xs.length i).bind fun j => xs[j]?
/-- a slice's bound -/
abbrev sIx : Nat → Nat → Option Int → Nat := HT.sIx
def cut {α : Type} (xs : List α) (lo hi : Option Int) : List α := (xs.drop (sIx xs.length 0 lo)).take (sIx xs.length xs.length hi - sIx xs.length 0 lo)

def kEq : D → D → Bool
  | .int i, .int j => i == j
  | .str s, .str t => decide (s = t)
  | _, _ => false
def isKey : D → Bool
  | .int _ => true
  | .str _ => true
  | _ => false
def dGet (k : D) : List (D × D) → Option D
  | [] => none
  | (k', v) :: r => if kEq k k' then some v else dGet k r
def dPut (k v : D) (ps : List (D × D)) : List (D × D) :=
  if (ps.any fun p => kEq k p.1) = true then ps.map (fun p => if kEq k p.1 = true then (p.1, v) else p) else ps ++ [(k, v)]

/-- not too large; in this form the kernel never counts down a literal -/
def smI (n : Int) (b : Nat) : Bool := Nat.ble n.natAbs b
theorem smI_le {n : Int} {b : Nat} (h : smI n b = true) : n.natAbs ≤ b := Nat.le_of_ble_eq_true h
theorem smI_of {n : Int} {b : Nat} (h : n.natAbs ≤ b) : smI n b = true := Nat.ble_eq_true_of_le h
@[simp] theorem smI_iff {n : Int} {b : Nat} : smI n b = true ↔ n.natAbs ≤ b := ⟨smI_le, smI_of⟩
def binD : BinO → D → D → Option D
  | .add, .int i, .int j => some (.int (i + j))
  | .add, .str s, .str t => if s.length + t.length ≤ LIM then some (.str (s ++ t)) else none
  | .add, .tup s, .tup t => if s.length + t.length ≤ LIM then some (.tup (s ++ t)) else none
  | .add, .lst s, .lst t => if s.length + t.length ≤ LIM then some (.lst (s ++ t)) else none
  | .sub, .int i, .int j => some (.int (i - j))
  | .mul, .int i, .int j => if (smI i 18446744073709551615 || smI j 18446744073709551615) = true then some (.int (i * j)) else none
  | .fdiv, .int i, .int j => if 0 < j ∧ smI j 1073741823 = true then some (.int (i / j)) else none
  | .mod, .int i, .int j => if 0 < j then some (.int (i % j)) else none
  | .pow, .int i, .int j => if 0 ≤ j ∧ j ≤ 100 ∧ i.natAbs < 2 ^ 64 then some (.int (i ^ j.toNat)) else none
  | _, _, _ => none
def cmpD : CmpO → D → D → Option Bool
  | .eq, x, y => eqD x y
  | .ne, x, y => (eqD x y).map (!·)
  | .lt, .int i, .int j => some (decide (i < j))
  | .le, .int i, .int j => some (decide (i ≤ j))
  | .gt, .int i, .int j => some (decide (j < i))
  | .ge, .int i, .int j => some (decide (j ≤ i))
  | .isin, .str [c], .str t => some (decide (c ∈ t))
  | .isin, x, .lst ys => inD x ys
  | .isin, x, .tup ys => inD x ys
  | .isin, x, .dct ps => if isKey x then some ((dGet x ps).isSome) else none
  | .notin, .str [c], .str t => some (!decide (c ∈ t))
  | .notin, x, .lst ys => (inD x ys).map (!·)
  | .notin, x, .tup ys => (inD x ys).map (!·)
  | .notin, x, .dct ps => if isKey x then some (!(dGet x ps).isSome) else none
  | _, _, _ => none
def tyD (S : Store) : Ty → D → Bool
  | .str, .str _ => true
  | .int, .int _ => true
  | .int, .bl _ => true
  | .bool, .bl _ => true
  | .tuple, .tup _ => true
  | .list, .lst _ => true
  | .list, .ro _ => true
  | .dict, .dct _ => true
  | .cls c, .obj n => match S[n]? with
    | some (.ins c' _) => c == c'
    | _ => false
  | .list, .obj n => match S[n]? with
    | some (.lst _) => true
    | _ => false
  | .dict, .obj n => match S[n]? with
    | some (.dct _) => true
    | _ => false
  | _, _ => false
def isiD (S : Store) (t : Ty) (d : D) : Option Bool := match d with
  | .fn _ _ => none
  | .obj n => match S[n]? with
    | some _ => some (tyD S t d)
    | none => none
  | d => some (tyD S t d)
def allBl : List D → Option Bool
  | [] => some true
  | .bl b :: r => (allBl r).map (b && ·)
  | _ :: _ => none
def anyBl : List D → Option Bool
  | [] => some false
  | .bl b :: r => (anyBl r).map (b || ·)
  | _ :: _ => none
def itemsD : D → Option (List D)
  | .tup l => some l
  | .lst l => some l
  | .ro l => some l
  | .str s => some (s.map fun c => .str [c])
  | .dct ps => some (ps.map (·.1))
  | _ => none
def allStr : List D → Option (List (List Nat))
  | [] => some []
  | .str s :: r => (allStr r).map (s :: ·)
  | _ :: _ => none
def bltD : Blt → List D → Option D
  | .len, [.str s] => some (.int s.length)
  | .len, [.tup s] => some (.int s.length)
  | .len, [.lst s] => some (.int s.length)
  | .len, [.ro s] => some (.int s.length)
  | .len, [.dct s] => some (.int s.length)
  | .all, [.lst l] => (allBl l).map .bl
  | .any, [.lst l] => (anyBl l).map .bl
  | .tuple, [.lst l] => some (.tup l)
  | .tuple, [.tup l] => some (.tup l)
  | .list, [d] => (itemsD d).map .lst
  | .dict, [.dct l] => some (.dct l)
  | .int, [.int i] => some (.int i)
  | .int, [.bl b] => some (.int (if b then 1 else 0))
  | .abs, [.int i] => some (.int (if i < 0 then -i else i))
  | .divmod, [.int i, .int j] => if 0 < j ∧ smI j 1073741823 = true then some (.tup [.int (i / j), .int (i % j)]) else none
  | .max, [.int i, .int j] => some (.int (if j > i then j else i))
  | .min, [.int i, .int j] => some (.int (if j < i then j else i))
  | _, _ => none
def mthD : Mth → D → List D → Option D
  | .get, .dct ps, [k, d] => if isKey k then some ((dGet k ps).getD d) else none
  | .get, .dct ps, [k] => if isKey k then some ((dGet k ps).getD .non) else none
  | .join, .str s, [.lst l] => (allStr l).bind fun ws => if (TL.joinL s ws).length ≤ LIM ∧ (ws.map (·.length)).sum + ws.length * s.length ≤ LIM then some (.str (TL.joinL s ws)) else none
  | .join, .str s, [.tup l] => (allStr l).bind fun ws => if (TL.joinL s ws).length ≤ LIM ∧ (ws.map (·.length)).sum + ws.length * s.length ≤ LIM then some (.str (TL.joinL s ws)) else none
  | .split, .str s, [.str b] => if b ≠ [] ∧ s.length + 2 ≤ LIM then some (.lst ((TL.spl b 0 [] s).map .str)) else none
  | _, _, _ => none

/-! ### the evaluator -/
def wipeE (ρ : Envr) : List Nat → Envr
  | [] => ρ
  | v :: vs => (wipeE ρ vs).set v none
mutual
def bindT : Tg → D → Envr → Option Envr
  | .nm i, d, ρ => some (ρ.set i (some d))
  | .tp l, .tup ds, ρ => bindTs l ds ρ
  | _, _, _ => none
def bindTs : Tgs → List D → Envr → Option Envr
  | .nil, [], ρ => some ρ
  | .cons t r, d :: ds, ρ => (bindT t d ρ).bind fun ρ' => bindTs r ds ρ'
  | _, _, _ => none
end
def compG (f : D → Store → Option (Option D × Store)) : List D → Store → Option (List D × Store)
  | [], S => some ([], S)
  | d :: ds, S => bnd (f d S) fun o S1 => bnd (compG f ds S1) fun l S2 => match o with
    | some x => some (x :: l, S2)
    | none => some (l, S2)
def compG2 (f : D → Store → Option (List D × Store)) : List D → Store → Option (List D × Store)
  | [], S => some ([], S)
  | d :: ds, S => bnd (f d S) fun o S1 => bnd (compG2 f ds S1) fun l S2 => some (o ++ l, S2)
def dcompG (f : D → Store → Option (Option (D × D) × Store)) : List D → List (D × D) → Store → Option (List (D × D) × Store)
  | [], acc, S => some (acc, S)
  | d :: ds, acc, S => bnd (f d S) fun o S1 => match o with
    | some (k, v) => if isKey k && decide (acc.length < LIM) then dcompG f ds (dPut k v acc) S1 else none
    | none => dcompG f ds acc S1
def rngD : Int → Nat → List D
  | _, 0 => []
  | a, n + 1 => .int a :: rngD (a + 1) n
def enumD : Nat → List D → List D
  | _, [] => []
  | n, d :: ds => .tup [.int n, d] :: enumD (n + 1) ds
def zipD : List (List D) → List D
  | [a, b] => (a.zip b).map fun p => .tup [p.1, p.2]
  | [a, b, c] => (a.zip (b.zip c)).map fun p => .tup [p.1, p.2.1, p.2.2]
  | _ => []
def capsD (ρ : Envr) : List Nat → Option (List D)
  | [] => some []
  | i :: is => match ρ[i]?, capsD ρ is with
    | some (some d), some ds => some (d :: ds)
    | _, _ => none
def permD {α : Type} (ds : List α) : List Nat → Option (List α)
  | [] => some []
  | i :: is => match ds[i]?, permD ds is with
    | some d, some r => some (d :: r)
    | _, _ => none

/-- the program's tables: of a class and an attribute's name the property, the method; a class's == -/
structure Prg where
  /-- of a class: its instances' own attributes -/
  fld : List (Nat × Nat)
  prop : List ((Nat × Nat) × Nat)
  meth : List ((Nat × Nat) × Nat)
  eqm : List (Nat × Nat)
abbrev Call := Nat → List D → List D → Store → Option (D × Store)
def clsOf (S : Store) (n : Nat) : Option (Nat × List (Nat × D)) := match S[n]? with
  | some (.ins c fs) => some (c, fs)
  | _ => none
def dBl : D → Option Bool
  | .bl b => some b
  | _ => none
/-- a changing list or dict, looked into -/
def deref (S : Store) : D → D
  | .obj n => match S[n]? with
    | some (.lst l) => .lst l
    | some (.dct ps) => .dct ps
    | _ => .obj n
  | d => d
/-- a comparison; behind in the right side may be a changing list or dict -/
def cmpT (o : CmpO) (x y : D) (S : Store) : Option Bool := match o with
  | .isin => cmpD .isin x (deref S y)
  | .notin => cmpD .notin x (deref S y)
  | o => cmpD o x y
mutual
/-- no function with captured values within -/
def noLam : D → Bool
  | .fn _ cs => cs.isEmpty
  | .tup l => noLams l
  | .lst l => noLams l
  | .ro l => noLams l
  | .dct l => noLamP l
  | _ => true
def noLams : List D → Bool
  | [] => true
  | d :: ds => noLam d && noLams ds
def noLamP : List (D × D) → Bool
  | [] => true
  | (_, d) :: ds => noLam d && noLamP ds
end
def noLamF : List (Nat × D) → Bool
  | [] => true
  | (_, d) :: ds => noLam d && noLamF ds
def noLamO : Ob → Bool
  | .lst l => noLams l
  | .dct l => noLamP l
  | .ins _ fs => noLamF fs
def noLamS (S : Store) : Bool := S.all noLamO
def eqOk (S : Store) : D → Bool
  | .fn _ _ => false
  | .obj n => (clsOf S n).isSome
  | _ => true
/-- == , != of an instance whose class has its own == -/
def eqoS (G : Prg) (cl : Call) (ng : Bool) (x y : D) (S : Store) : Option (D × Store) := match x with
  | .obj n => (match clsOf S n with
    | some (c, _) => (match G.eqm.lookup c with
      | some f => if eqOk S y then bnd (cl f [] [x, y] S) fun r S1 => (dBl r).map fun b => (.bl (ng ^^ b), S1) else none
      | none => none)
    | none => none)
  | _ => none
def idxD (S : Store) : D → D → Option D
  | .tup l, .int i => atD l i
  | .lst l, .int i => atD l i
  | .ro l, .int i => atD l i
  | .str l, .int i => (atD l i).map fun c => .str [c]
  | .dct ps, k => if isKey k then dGet k ps else none
  | .obj n, k => match S[n]?, k with
    | some (.lst l), .int i => atD l i
    | some (.dct ps), k => if isKey k then dGet k ps else none
    | _, _ => none
  | _, _ => none
def slD : D → Option Int → Option Int → Option D
  | .tup l, a, b => some (.tup (cut l a b))
  | .lst l, a, b => some (.lst (cut l a b))
  | .ro l, a, b => some (.lst (cut l a b))
  | .str l, a, b => some (.str (cut l a b))
  | _, _, _ => none
def revD : D → Option D
  | .tup l => some (.tup l.reverse)
  | .lst l => some (.lst l.reverse)
  | _ => none
def attS (G : Prg) (cl : Call) (k : Nat) : D → Store → Option (D × Store)
  | .obj n, S => (match clsOf S n with
    | some (c, fs) => if G.fld.contains (c, k) then (fs.lookup k).map fun d => (d, S) else (match G.prop.lookup (c, k) with
        | some f => cl f [] [.obj n] S
        | none => none)
    | none => none)
  | _, _ => none
def rng1D : D → Option (List D)
  | .int n => if smI n 4611686018427387903 = true then some (rngD 0 n.toNat) else none
  | _ => none
def rng2D : D → D → Option (List D)
  | .int a, .int n => if (smI n 4611686018427387903 && smI a 4611686018427387903) = true then some (rngD a (n - a).toNat) else none
  | _, _ => none
def walkD : D → Option (List D)
  | .tup l => some l
  | .lst l => some l
  | .ro l => some l
  | .str s => some (s.map fun c => .str [c])
  | _ => none
def seqD : D → Option (List D)
  | .tup l => some l
  | .lst l => some l
  | .ro l => some l
  | _ => none
def starD : D → Option (List D)
  | .tup l => some l
  | .lst l => some l
  | _ => none
def itemsAll : List D → Option (List (List D))
  | [] => some []
  | d :: ds => match itemsD d, itemsAll ds with
    | some x, some xs => some (x :: xs)
    | _, _ => none

def boxS : D → Store → Option (D × Store)
  | .lst l, S => some (.obj S.length, S ++ [.lst l])
  | .dct l, S => some (.obj S.length, S ++ [.dct l])
  | _, _ => none
def popS : D → Store → Option (D × Store)
  | .obj n, S => (match S[n]? with
    | some (.lst l) => l.getLast?.map fun y => (y, S.set n (.lst l.dropLast))
    | _ => none)
  | _, _ => none
def empS (ng : Bool) (x : D) (S : Store) : Option (D × Store) := match deref S x with
  | .lst l => if D.flats l then some (.bl (ng ^^ l.isEmpty), S) else none
  | _ => none
def isDct : D → Bool
  | .dct _ => true
  | _ => false
def isLst : D → Bool
  | .lst _ => true
  | _ => false
def getS (x y z : D) (S : Store) : Option (D × Store) := match deref S x with
  | .dct ps => if isKey y then some ((dGet y ps).getD z, S) else none
  | _ => none
def appS (a x : D) (S : Store) : Option Store := match a with
  | .obj n => (match S[n]? with
    | some (.lst l) => if l.length < LIM then some (S.set n (.lst (l ++ [x]))) else none
    | _ => none)
  | _ => none
def extS (a x : D) (S : Store) : Option Store := match a, x with
  | .obj n, .lst m => (match S[n]? with
    | some (.lst l) => if l.length + m.length ≤ LIM then some (S.set n (.lst (l ++ m))) else none
    | _ => none)
  | _, _ => none
section
variable (G : Prg) (cl : Call)
mutual
def evE : E → Envr → Store → Option (D × Store)
  | .var i, ρ, S => (match ρ[i]? with
    | some (some d) => some (d, S)
    | _ => none)
  | .cst d, _, S => some (d, S)
  | .neg a, ρ, S => bnd (evE a ρ S) fun x S => (match x with
    | .int i => some (.int (-i), S)
    | _ => none)
  | .not a, ρ, S => bnd (evE a ρ S) fun x S => (dBl x).map fun b => (.bl (!b), S)
  | .bin o a b, ρ, S => bnd (evE a ρ S) fun x S => bnd (evE b ρ S) fun y S => (binD o x y).map fun z => (z, S)
  | .cmp o a b, ρ, S => bnd (evE a ρ S) fun x S => bnd (evE b ρ S) fun y S => (cmpT o x y S).map fun b => (.bl b, S)
  | .eqo ng a b, ρ, S => bnd (evE a ρ S) fun x S => bnd (evE b ρ S) fun y S => eqoS G cl ng x y S
  | .cmp2 o p a b c, ρ, S => bnd (evE a ρ S) fun x S => bnd (evE b ρ S) fun y S => (match cmpT o x y S with
    | some true => bnd (evE c ρ S) fun z S => (cmpT p y z S).map fun r => (.bl r, S)
    | some false => some (.bl false, S)
    | none => none)
  | .isn ng a, ρ, S => bnd (evE a ρ S) fun x S => (match x with
    | .non => some (.bl (!ng), S)
    | _ => some (.bl ng, S))
  | .and a b, ρ, S => bnd (evE a ρ S) fun x S => (match dBl x with
    | some true => bnd (evE b ρ S) fun y S => (dBl y).map fun c => (.bl c, S)
    | some false => some (.bl false, S)
    | none => none)
  | .or a b, ρ, S => bnd (evE a ρ S) fun x S => (match dBl x with
    | some true => some (.bl true, S)
    | some false => bnd (evE b ρ S) fun y S => (dBl y).map fun c => (.bl c, S)
    | none => none)
  | .ite c a b, ρ, S => bnd (evE c ρ S) fun x S => (match dBl x with
    | some true => evE a ρ S
    | some false => evE b ρ S
    | none => none)
  | .tup l, ρ, S => bnd (evL l ρ S) fun ds S => if ds.length ≤ LIM then some (.tup ds, S) else none
  | .lst l, ρ, S => bnd (evL l ρ S) fun ds S => if ds.length ≤ LIM then some (.lst ds, S) else none
  | .newl l, ρ, S => bnd (evL l ρ S) fun ds S => if ds.length ≤ LIM then some (.obj S.length, S ++ [.lst ds]) else none
  | .dct0, _, S => some (.dct [], S)
  | .newd, _, S => some (.obj S.length, S ++ [.dct []])
  | .idx a i, ρ, S => bnd (evE a ρ S) fun x S => bnd (evE i ρ S) fun y S => (idxD S x y).map fun z => (z, S)
  | .sl a lo hi, ρ, S => bnd (evE a ρ S) fun x S => bnd (evO lo ρ S) fun l S => bnd (evO hi ρ S) fun h S => (slD x l h).map fun z => (z, S)
  | .rev a, ρ, S => bnd (evE a ρ S) fun x S => (revD x).map fun z => (z, S)
  | .comp x t i c w, ρ, S => bnd (evI i ρ S) fun items S => bnd (compG (fun d S => (bindT t d (wipeE ρ w)).bind fun ρ1 => bnd (evC c ρ1 S) fun b S => if b then bnd (evE x ρ1 S) fun y S => some (some y, S) else some (none, S)) items S)
      fun l S => if l.length ≤ LIM then some (.lst l, S) else none
  | .comp2 x t i c t1 i1 c1 w w1, ρ, S => bnd (evI i ρ S) fun items S => bnd (compG2 (fun d S => (bindT t d (wipeE ρ w)).bind fun ρ1 => bnd (evC c ρ1 S) fun b S => if b then
        bnd (evI i1 ρ1 S) fun items1 S => compG (fun d S => (bindT t1 d (wipeE ρ1 w1)).bind fun ρ2 => bnd (evC c1 ρ2 S) fun b S => if b then bnd (evE x ρ2 S) fun y S => some (some y, S) else some (none, S)) items1 S
      else some ([], S)) items S)
      fun l S => if l.length ≤ LIM then some (.lst l, S) else none
  | .dcomp k v t i c w, ρ, S => bnd (evI i ρ S) fun items S => bnd (dcompG (fun d S => (bindT t d (wipeE ρ w)).bind fun ρ1 => bnd (evC c ρ1 S) fun b S => if b then bnd (evE k ρ1 S) fun y S => bnd (evE v ρ1 S) fun z S => some (some (y, z), S) else some (none, S)) items [] S)
      fun l S => if l.length ≤ LIM then some (.dct l, S) else none
  | .call f l, ρ, S => bnd (evL l ρ S) fun ds S => cl f [] ds S
  | .callk f l lk p, ρ, S => bnd (evL l ρ S) fun ds S => bnd (evL lk ρ S) fun es S => (permD (ds ++ es) p).bind fun ds => cl f [] ds S
  | .callv i l, ρ, S => (match ρ[i]? with
    | some (some (.fn f cs)) => bnd (evL l ρ S) fun ds S => cl f cs ds S
    | _ => none)
  | .calll f l g caps, ρ, S => bnd (evL l ρ S) fun ds S => (capsD ρ caps).bind fun cs => bnd (cl f [] (ds ++ [.fn g cs]) S) fun r S => if noLam r && noLamS S then some (r, S) else none
  | .new c f l, ρ, S => bnd (evL l ρ S) fun ds S => bnd (cl f [] (.obj S.length :: ds) (S ++ [.ins c []])) fun r S1 => (match r with
    | .non => some (.obj S.length, S1)
    | _ => none)
  | .newk c f l lk p, ρ, S => bnd (evL l ρ S) fun ds S => bnd (evL lk ρ S) fun es S => (permD (ds ++ es) p).bind fun ds => bnd (cl f [] (.obj S.length :: ds) (S ++ [.ins c []])) fun r S1 => (match r with
    | .non => some (.obj S.length, S1)
    | _ => none)
  | .att a k, ρ, S => bnd (evE a ρ S) fun x S => attS G cl k x S
  | .meth a k l, ρ, S => bnd (evE a ρ S) fun x S => (match x with
    | .obj n => (match clsOf S n with
      | some (c, fs) => (match fs.lookup k, G.meth.lookup (c, k) with
        | none, some f => bnd (evL l ρ S) fun ds S => cl f [] (.obj n :: ds) S
        | _, _ => none)
      | none => none)
    | _ => none)
  | .blt b l, ρ, S => bnd (evL l ρ S) fun ds S => (bltD b ds).map fun z => (z, S)
  | .isi t a, ρ, S => bnd (evE a ρ S) fun x S => (isiD S t x).map fun b => (.bl b, S)
  | .mth m a l, ρ, S => bnd (evE a ρ S) fun x S => bnd (evL l ρ S) fun ds S => (mthD m x ds).map fun z => (z, S)
  | .box a, ρ, S => bnd (evE a ρ S) fun x S => boxS x S
  | .popo a, ρ, S => bnd (evE a ρ S) fun x S => popS x S
  | .emp ng a, ρ, S => bnd (evE a ρ S) fun x S => empS ng x S
  | .getd a k d, ρ, S => bnd (evE a ρ S) fun x S => if isDct (deref S x) then bnd (evE k ρ S) fun y S => bnd (evE d ρ S) fun z S => getS x y z S else none
def evL : Es → Envr → Store → Option (List D × Store)
  | .nil, _, S => some ([], S)
  | .cons e r, ρ, S => bnd (evE e ρ S) fun x S => bnd (evL r ρ S) fun xs S => some (x :: xs, S)
  | .star e r, ρ, S => bnd (evE e ρ S) fun x S => (starD x).bind fun ys => bnd (evL r ρ S) fun xs S => some (ys ++ xs, S)
def evO : Eo → Envr → Store → Option (Option Int × Store)
  | .non, _, S => some (none, S)
  | .som e, ρ, S => bnd (evE e ρ S) fun x S => (match x with
    | .int i => some (some i, S)
    | _ => none)
def evC : Eo → Envr → Store → Option (Bool × Store)
  | .non, _, S => some (true, S)
  | .som e, ρ, S => bnd (evE e ρ S) fun x S => (dBl x).map fun b => (b, S)
def evI : It → Envr → Store → Option (List D × Store)
  | .e a, ρ, S => bnd (evE a ρ S) fun x S => (walkD x).map fun l => (l, S)
  | .rng1 a, ρ, S => bnd (evE a ρ S) fun x S => (rng1D x).map fun l => (l, S)
  | .rng2 a b, ρ, S => bnd (evE a ρ S) fun x S => bnd (evE b ρ S) fun y S => (rng2D x y).map fun l => (l, S)
  | .enum a, ρ, S => bnd (evE a ρ S) fun x S => (seqD x).map fun l => (enumD 0 l, S)
  | .zip l, ρ, S => bnd (evL l ρ S) fun ds S => (itemsAll ds).map fun l => (zipD l, S)
  | .items a, ρ, S => bnd (evE a ρ S) fun x S => (match x with
    | .dct ps => some (ps.map fun p => .tup [p.1, p.2], S)
    | _ => none)
end

/-! ### statements -/
inductive Fl where | nx | brk | cnt | ret (d : D)
abbrev SR3 := Option (Fl × Envr × Store)
def bnd3 {α : Type} (x : SR3) (f : Fl → Envr → Store → Option α) : Option α := match x with
  | some (a, b, c) => f a b c
  | none => none
@[simp] theorem bnd3_some {α : Type} (a : Fl) (b : Envr) (c : Store) (f : Fl → Envr → Store → Option α) : bnd3 (some (a, b, c)) f = f a b c := rfl
@[simp] theorem bnd3_none {α : Type} (f : Fl → Envr → Store → Option α) : bnd3 none f = none := rfl
def forG (step : D → Envr → Store → SR3) : List D → Envr → Store → SR3
  | [], ρ, S => some (.nx, ρ, S)
  | d :: ds, ρ, S => bnd3 (step d ρ S) fun fl ρ S => match fl with
    | .nx => forG step ds ρ S
    | .cnt => forG step ds ρ S
    | .brk => some (.nx, ρ, S)
    | .ret r => some (.ret r, ρ, S)
def whlG (c : Envr → Store → Option (Bool × Store)) (step : Envr → Store → SR3) : Nat → Envr → Store → SR3
  | 0, _, _ => none
  | n + 1, ρ, S => bnd (c ρ S) fun b S => if b then bnd3 (step ρ S) fun fl ρ S => (match fl with
    | .nx => whlG c step n ρ S
    | .cnt => whlG c step n ρ S
    | .brk => some (.nx, ρ, S)
    | .ret r => some (.ret r, ρ, S)) else some (.nx, ρ, S)
def setPar : List Nat → List D → Envr → Option Envr
  | [], [], ρ => some ρ
  | i :: is, d :: ds, ρ => setPar is ds (ρ.set i (some d))
  | _, _, _ => none
def setObD (o k v : D) (S : Store) : Option Store := match o with
  | .obj n => (match S[n]?, k with
    | some (.lst l), .int i => (ixn l.length i).map fun j => S.set n (.lst (l.set j v))
    | some (.dct ps), k => if isKey k && decide (ps.length < LIM) then some (S.set n (.dct (dPut k v ps))) else none
    | _, _ => none)
  | _ => none
def asgG : List TgS → List D → Envr → Store → Option (Envr × Store)
  | [], [], ρ, S => some (ρ, S)
  | .nm i :: r, d :: ds, ρ, S => asgG r ds (ρ.set i (some d)) S
  | .ix o k :: r, d :: ds, ρ, S => bnd (evE G cl o ρ S) fun x S => bnd (evE G cl k ρ S) fun y S => (setObD x y d S).bind fun S => asgG r ds ρ S
  | _, _, _, _ => none
def setInD (y x : D) : D → Option D
  | .lst l => (match y with
    | .int j => (ixn l.length j).map fun j => .lst (l.set j x)
    | _ => none)
  | .dct ps => if isKey y && decide (ps.length < LIM) then some (.dct (dPut y x ps)) else none
  | _ => none
def boxD : D → Bool
  | .lst _ => true
  | .dct _ => true
  | _ => false
def fsPut (k : Nat) (v : D) : List (Nat × D) → List (Nat × D)
  | [] => [(k, v)]
  | (k', v') :: r => if k = k' then (k', v) :: r else (k', v') :: fsPut k v r
variable (fu : Nat)
mutual
def exS : Sm → Envr → Store → SR3
  | .set i e, ρ, S => bnd (evE G cl e ρ S) fun x S => some (.nx, ρ.set i (some x), S)
  | .setn i e, ρ, S => bnd (evE G cl e ρ S) fun x S => if boxD x then some (.nx, ρ.set i (some x), S) else none
  | .retv i, ρ, S => (match ρ[i]? with
    | some (some x) => some (.ret x, ρ, S)
    | _ => none)
  | .unp t e, ρ, S => bnd (evE G cl e ρ S) fun x S => (bindT t x ρ).map fun ρ => (.nx, ρ, S)
  | .par l es, ρ, S => bnd (evL G cl es ρ S) fun ds S => (setPar l ds ρ).map fun ρ => (.nx, ρ, S)
  | .asg l e, ρ, S => bnd (evE G cl e ρ S) fun x S => (match x with
    | .tup ds => bnd (asgG G cl l ds ρ S) fun ρ S => some (.nx, ρ, S)
    | _ => none)
  | .ret e, ρ, S => bnd (evE G cl e ρ S) fun x S => some (.ret x, ρ, S)
  | .retn, ρ, S => some (.ret .non, ρ, S)
  | .exp e, ρ, S => bnd (evE G cl e ρ S) fun _ S => some (.nx, ρ, S)
  | .app i e, ρ, S => bnd (evE G cl e ρ S) fun x S => (match ρ[i]? with
    | some (some (.lst l)) => if l.length < LIM then some (.nx, ρ.set i (some (.lst (l ++ [x]))), S) else none
    | _ => none)
  | .ext i e, ρ, S => bnd (evE G cl e ρ S) fun x S => (match ρ[i]?, x with
    | some (some (.lst l)), .lst m => if l.length + m.length ≤ LIM then some (.nx, ρ.set i (some (.lst (l ++ m))), S) else none
    | _, _ => none)
  | .upd i e, ρ, S => none
  | .seti i k v, ρ, S => bnd (evE G cl v ρ S) fun x S => bnd (evE G cl k ρ S) fun y S => (match ρ[i]? with
    | some (some d) => (setInD y x d).map fun d => (.nx, ρ.set i (some d), S)
    | _ => none)
  | .pop t i, ρ, S => (match ρ[i]? with
    | some (some (.lst l)) => (match l.getLast? with
      | some x => (bindT t x (ρ.set i (some (.lst l.dropLast)))).map fun ρ => (.nx, ρ, S)
      | none => none)
    | _ => none)
  | .seto o k v, ρ, S => bnd (evE G cl v ρ S) fun x S => bnd (evE G cl o ρ S) fun a S => bnd (evE G cl k ρ S) fun y S => (setObD a y x S).map fun S => (.nx, ρ, S)
  | .setf o k v, ρ, S => bnd (evE G cl v ρ S) fun x S => bnd (evE G cl o ρ S) fun a S => (match a with
    | .obj n => (match clsOf S n with
      | some (c, fs) => if G.fld.contains (c, k) && decide (fs.length < 100) then some (.nx, ρ, S.set n (.ins c (fsPut k x fs))) else none
      | none => none)
    | _ => none)
  | .appo o e, ρ, S => bnd (evE G cl o ρ S) fun a S => if isLst (deref S a) then bnd (evE G cl e ρ S) fun x S => (appS a x S).map fun S => (.nx, ρ, S) else none
  | .exto o e, ρ, S => bnd (evE G cl o ρ S) fun a S => if isLst (deref S a) then bnd (evE G cl e ρ S) fun x S => (extS a x S).map fun S => (.nx, ρ, S) else none
  | .iff c a b, ρ, S => bnd (evE G cl c ρ S) fun x S => (match dBl x with
    | some true => exSs a ρ S
    | some false => exSs b ρ S
    | none => none)
  | .fr t i b, ρ, S => bnd (evI G cl i ρ S) fun items S => forG (fun d ρ S => (bindT t d ρ).bind fun ρ => exSs b ρ S) items ρ S
  | .whl c b, ρ, S => whlG (fun ρ S => bnd (evE G cl c ρ S) fun x S => (dBl x).map fun b => (b, S)) (fun ρ S => exSs b ρ S) fu ρ S
  | .brk, ρ, S => some (.brk, ρ, S)
  | .cnt, ρ, S => some (.cnt, ρ, S)
  | .pass, ρ, S => some (.nx, ρ, S)
  | .stuck, _, _ => none
def exSs : Ss → Envr → Store → SR3
  | .nil, ρ, S => some (.nx, ρ, S)
  | .cons s r, ρ, S => bnd3 (exS s ρ S) fun fl ρ S => (match fl with
    | .nx => exSs r ρ S
    | fl => some (fl, ρ, S))
end
end

/-! ### functions -/
structure FnD where
  /-- a lambda: what it gets, and the store, bear no closures -/
  lam : Bool
  np : Nat
  nc : Nat
  n : Nat
  body : Ss
def runF (G : Prg) (cl : Call) (fu : Nat) (fd : FnD) (cs ds : List D) (S : Store) : Option (D × Store) :=
  if ds.length = fd.np ∧ cs.length = fd.nc ∧ (fd.lam = true → noLams ds = true ∧ noLamS S = true) then
    bnd3 (exSs G cl fu fd.body ((ds ++ cs).map some ++ List.replicate (fd.n - fd.np - fd.nc) none) S) fun fl _ S => (match fl with
      | .ret d => some (d, S)
      | .nx => some (.non, S)
      | _ => none)
  else none
def callG (G : Prg) (fns : List FnD) (fu : Nat) : Nat → Call
  | 0 => fun _ _ _ _ => none
  | k + 1 => fun i cs ds S => match fns[i]? with
    | some fd => runF G (callG G fns fu k) fu fd cs ds S
    | none => none
end MT

set_option maxRecDepth 100000
set_option maxHeartbeats 1000000
/-! MTc: states, readings, the judgement EV. -/
namespace MT
open PySem PySem.Spec PyProof.Rows L2

inductive Mo where | frz | own | bor deriving DecidableEq

structure Ext (W : Wd) (H : Hp) (W' : Wd) (H' : Hp) : Prop where
  w : WLe W W'
  keep : ∀ a o, H a = some o → a ∉ W.m → (∀ ps, o ≠ .tbl ps) → H' a = some o
  dom : ∀ a, H' a = none → H a = none
  mnew : ∀ a, a ∈ W'.m → a ∈ W.m ∨ H a = none
  fnew : ∀ a o, W'.F a = some o → W.F a = some o ∨ H a = none
theorem Ext.refl (W : Wd) (H : Hp) : Ext W H W H := ⟨.refl _, fun _ _ h _ _ => h, fun _ h => h, fun _ h => .inl h, fun _ _ h => .inl h⟩
theorem Ext.trans {W W1 W2 : Wd} {H H1 H2 : Hp} (a : Ext W H W1 H1) (b : Ext W1 H1 W2 H2) : Ext W H W2 H2 := by
  refine ⟨a.w.trans b.w, fun x o h n t => ?_, fun x h => a.dom x (b.dom x h), fun x h => ?_, fun x o h => ?_⟩
  · refine b.keep x o (a.keep x o h n t) (fun z => ?_) t
    rcases a.mnew x z with z | z
    · exact n z
    · rw [h] at z; cases z
  · rcases b.mnew x h with z | z
    · exact a.mnew x z
    · exact .inr (a.dom x z)
  · rcases b.fnew x o h with z | z
    · exact a.fnew x o z
    · exact .inr (a.dom x z)
theorem Ext.mem {W W1 : Wd} {H H1 : Hp} (a : Ext W H W1 H1) {x : Addr} {o : HO} (h : H x = some o) (n : x ∉ W.m) : x ∉ W1.m := fun z => by
  rcases a.mnew x z with z | z
  · exact n z
  · rw [h] at z; cases z
theorem Ext.nof {W W1 : Wd} {H H1 : Hp} (a : Ext W H W1 H1) {x : Addr} {o : HO} (h : H x = some o) (n : W.F x = none) : W1.F x = none := by
  cases e : W1.F x with
  | none => rfl
  | some u =>
    rcases a.fnew x u e with z | z
    · rw [n] at z; cases z
    · rw [h] at z; cases z

/-- the world holds: what is frozen stands, the changing objects stand as the store says -/
structure SW (C : Cst) (W : Wd) (S : Store) (H : Hp) : Prop where
  sub : ∀ a o, W.F a = some o → H a = some o ∧ a ∉ W.m ∧ ∀ ps, o ≠ .tbl ps
  tabs : NdefX.TabsN C.T H
  codes : ∀ c q, H c = some (LamX.CodeO c q) → W.F c = some (LamX.CodeO c q)
  nd : W.m.Nodup
  len : W.m.length = S.length
  st : ∀ (n : Nat) (ob : Ob), S[n]? = some ob → ∃ a o, W.m[n]? = some a ∧ H a = some o ∧ RepO C W ob o
/-- a value that may be read now -/
def RepB (C : Cst) (W : Wd) (H : Hp) (d : D) (v : V) : Prop := Rep C W d v ∨ ∃ a o, v = .ref a ∧ H a = some o ∧ RepH C W d o ∧ a ∉ W.m
theorem RepH.tbl {C : Cst} {W : Wd} {d : D} {o : HO} (h : RepH C W d o) : ∀ ps, o ≠ .tbl ps := by
  intro ps e
  subst e
  unfold RepH at h
  split at h
  · obtain ⟨_, h1, _⟩ := h; cases h1
  · obtain ⟨_, h1, _⟩ := h; cases h1
  · exact h
/-- the slots of a frame, by their modes; H₀: the heap at the def's entry -/
structure SV (C : Cst) (md : Nat → Mo) (W : Wd) (ρ : Envr) (σ : L2.St) (H H0 : Hp) : Prop where
  len : ρ.length = σ.length
  loc : ∀ (i : Nat) (d : D), ρ[i]? = some (some d) → ∃ v, σ[i]? = some (some v) ∧ match md i with
    | .own => ∃ a o, v = .ref a ∧ H a = some o ∧ RepH C W d o ∧ a ∉ W.m ∧ W.F a = none ∧ H0 a = none
    | _ => Rep C W d v
  sep : ∀ (i j : Nat) (d e : D) (v : V), i ≠ j → md i = .own → md j = .own → ρ[i]? = some (some d) → ρ[j]? = some (some e) → σ[i]? = some (some v) → σ[j]? = some (some v) → False
section
variable {C : Cst} {W W' : Wd} {H H' H0 : Hp} {S S' : Store} {md : Nat → Mo} {ρ : Envr} {σ : L2.St} {d : D} {v : V}
theorem RepB.ext (h : RepB C W H d v) (e : Ext W H W' H') : RepB C W' H' d v := by
  rcases h with h | ⟨a, o, h1, h2, h3, h4⟩
  · exact .inl (Rep.mono e.w _ _ h)
  · exact .inr ⟨a, o, h1, e.keep a o h2 h4 h3.tbl, RepH.mono e.w h3, e.mem h2 h4⟩
theorem SV.ext (h : SV C md W ρ σ H H0) (e : Ext W H W' H') : SV C md W' ρ σ H' H0 := by
  refine ⟨h.len, fun i d q => ?_, h.sep⟩
  obtain ⟨v, h1, h2⟩ := h.loc i d q
  refine ⟨v, h1, ?_⟩
  split at h2
  · obtain ⟨a, o, k1, k2, k3, k4, k5, k6⟩ := h2
    exact ⟨a, o, k1, e.keep a o k2 k4 k3.tbl, RepH.mono e.w k3, e.mem k2 k4, e.nof k2 k5, k6⟩
  · exact Rep.mono e.w _ _ h2
/-- a new object that nobody else knows, or no list, no dict -/
abbrev isBox : D → Bool := boxD
def RepN (C : Cst) (W : Wd) (H : Hp) (W' : Wd) (H' : Hp) (d : D) (v : V) : Prop :=
  (∃ a o, v = .ref a ∧ H a = none ∧ H' a = some o ∧ RepH C W' d o ∧ a ∉ W'.m ∧ W'.F a = none) ∨ (isBox d = false ∧ Rep C W' d v)
def Post (C : Cst) (mo : Mo) (W : Wd) (H : Hp) (W' : Wd) (H' : Hp) (d : D) (v : V) : Prop := match mo with
  | .frz => Rep C W' d v
  | .bor => RepB C W' H' d v
  | .own => RepN C W H W' H' d v
/-- the reading of an expression with the meaning g -/
def TI (C : Cst) (md : Nat → Mo) (H0 : Hp) (mo : Mo) (g : Envr → Store → Option (D × Store)) : TE := fun σ H Q =>
  ∃ W ρ S d S', SW C W S H ∧ SV C md W ρ σ H H0 ∧ g ρ S = some (d, S') ∧ ∀ v H' W', Ext W H W' H' → SW C W' S' H' → Post C mo W H W' H' d v → Q v H'
structure EV (X : Cx) (C : Cst) (md : Nat → Mo) (H0 : Hp) (mo : Mo) (e : Expr) (g : Envr → Store → Option (D × Store)) : Prop where
  pe : PE X e (TI C md H0 mo g)
theorem PE.imp {X : Cx} {e : Expr} {t t' : TE} (h : PE X e t) (k : ∀ σ H Q, t' σ H Q → t σ H Q) : PE X e t' := ⟨fun pins s σ H Q I q => h.run pins s σ H Q I (k σ H Q q)⟩
theorem PT.imp {X : Cx} {e : Expr} {t t' : TT} (h : PT X e t) (k : ∀ σ H Q, t' σ H Q → t σ H Q) : PT X e t' := ⟨fun pins s σ H Q I q => h.run pins s σ H Q I (k σ H Q q)⟩
theorem PW.imp {X : Cx} {e : Expr} {t t' : TT} (h : PW X e t) (k : ∀ σ H Q, t' σ H Q → t σ H Q) : PW X e t' := ⟨fun wh pins s σ H Q I q => h.run wh pins s σ H Q I (k σ H Q q)⟩
theorem PA.imp {X : Cx} {e : List Expr} {t t' : TA} (h : PA X e t) (k : ∀ σ H Q, t' σ H Q → t σ H Q) : PA X e t' := ⟨fun pos pins s σ H Q I q => h.run pos pins s σ H Q I (k σ H Q q)⟩
theorem PS.imp {X : Cx} {e : Stmt} {t t' : TS} (h : PS X e t) (k : ∀ D σ H, t' D σ H → t D σ H) : PS X e t' := ⟨fun pins s σ H D I q => h.run pins s σ H D I (k D σ H q)⟩
theorem PSs.imp {X : Cx} {e : List Stmt} {t t' : TS} (h : PSs X e t) (k : ∀ D σ H, t' D σ H → t D σ H) : PSs X e t' := ⟨fun pins s σ H D I q => h.run pins s σ H D I (k D σ H q)⟩

/-- freezing one object more -/
def Wd.fz (W : Wd) (a : Addr) (o : HO) : Wd := ⟨fun b => if b = a then some o else W.F b, W.m⟩
theorem fz_le {W : Wd} {a : Addr} {o : HO} (h : W.F a = none) : WLe W (W.fz a o) := ⟨fun b u e => by
  show (if b = a then some o else W.F b) = some u
  rw [if_neg (fun z => by rw [z, h] at e; cases e)]
  exact e, fun _ _ e => e⟩
theorem fz_at {W : Wd} {a : Addr} {o : HO} : (W.fz a o).F a = some o := if_pos rfl
theorem SW.fz {a : Addr} {o : HO} (h : SW C W S H) (ha : H a = some o) (hm : a ∉ W.m) (hf : W.F a = none) (ht : ∀ ps, o ≠ .tbl ps) : SW C (W.fz a o) S H := by
  refine ⟨fun b u e => ?_, h.tabs, fun c q e => ?_, h.nd, h.len, fun n ob e => ?_⟩
  · by_cases hb : b = a
    · subst hb
      rw [fz_at] at e
      cases e
      exact ⟨ha, hm, ht⟩
    · have e' : (if b = a then some o else W.F b) = some u := e
      rw [if_neg hb] at e'
      exact h.sub b u e'
  · exact (fz_le hf).f _ _ (h.codes c q e)
  · obtain ⟨x, y, h1, h2, h3⟩ := h.st n ob e
    exact ⟨x, y, h1, h2, RepO.mono (fz_le hf) h3⟩
theorem Ext.fz {a : Addr} {o : HO} (h : Ext W H W' H') (ha : H a = none) (hf : W'.F a = none) : Ext W H (W'.fz a o) H' := by
  refine ⟨h.w.trans (fz_le hf), h.keep, h.dom, h.mnew, fun b u e => ?_⟩
  by_cases hb : b = a
  · subst hb; exact .inr ha
  · have e' : (if b = a then some o else W'.F b) = some u := e
    rw [if_neg hb] at e'
    exact h.fnew b u e'
theorem RepH.toRep {a : Addr} {o : HO} (h : RepH C W d o) (hF : W.F a = some o) : Rep C W d (.ref a) := by
  unfold RepH at h
  split at h
  · obtain ⟨xs, h1, h2⟩ := h
    subst h1
    rw [Rep]
    exact ⟨a, xs, rfl, hF, h2⟩
  · obtain ⟨xs, h1, h2⟩ := h
    subst h1
    rw [Rep]
    exact ⟨a, xs, rfl, hF, h2⟩
  · exact h.elim
/-- what is new may be frozen -/
theorem RepN.freeze (h : RepN C W H W' H' d v) (e : Ext W H W' H') (w : SW C W' S' H') : ∃ W2, Ext W H W2 H' ∧ SW C W2 S' H' ∧ Rep C W2 d v := by
  rcases h with ⟨a, o, h1, h2, h3, h4, h5, h6⟩ | ⟨_, h⟩
  · subst h1
    exact ⟨W'.fz a o, e.fz h2 h6, w.fz h3 h5 h6 h4.tbl, (RepH.mono (fz_le h6) h4).toRep fz_at⟩
  · exact ⟨W', e, w, h⟩
end
section
variable {X : Cx} {C : Cst} {md : Nat → Mo} {H0 : Hp} {e : Expr} {g g' : Envr → Store → Option (D × Store)}
theorem EV.toF (h : EV X C md H0 .own e g) : EV X C md H0 .frz e g := ⟨PE.imp h.pe fun σ H Q ⟨W, ρ, S, d, S', hw, hv, hg, k⟩ =>
  ⟨W, ρ, S, d, S', hw, hv, hg, fun v H' W' e w p => by
    obtain ⟨W2, e2, w2, r⟩ := RepN.freeze p e w
    exact k v H' W2 e2 w2 r⟩⟩
theorem EV.toB (h : EV X C md H0 .frz e g) : EV X C md H0 .bor e g := ⟨PE.imp h.pe fun σ H Q ⟨W, ρ, S, d, S', hw, hv, hg, k⟩ =>
  ⟨W, ρ, S, d, S', hw, hv, hg, fun v H' W' e w p => k v H' W' e w (.inl p)⟩⟩
theorem EV.congr (h : EV X C md H0 .frz e g) (hg : g' = g) : EV X C md H0 .frz e g' := hg ▸ h
/-- sharper than freezing: the new one is borrowed -/
theorem EV.nToB (h : EV X C md H0 .own e g) : EV X C md H0 .bor e g := h.toF.toB

/-! ### operations -/
/-- an operation's rule r keeps the meaning f -/
def Op2 (C : Cst) (mo : Mo) (r : R2) (f : D → D → Store → Option (D × Store)) : Prop :=
  ∀ (W : Wd) (S : Store) (H : Hp) (x y : V) (dx dy d : D) (S' : Store) (Q : VK), SW C W S H → RepB C W H dx x → RepB C W H dy y → f dx dy S = some (d, S') →
    (∀ v H' W', Ext W H W' H' → SW C W' S' H' → Post C mo W H W' H' d v → Q v H') → r x y H Q
def Op1 (C : Cst) (mo : Mo) (r : V → Hp → VK → Prop) (f : D → Store → Option (D × Store)) : Prop :=
  ∀ (W : Wd) (S : Store) (H : Hp) (x : V) (dx d : D) (S' : Store) (Q : VK), SW C W S H → RepB C W H dx x → f dx S = some (d, S') →
    (∀ v H' W', Ext W H W' H' → SW C W' S' H' → Post C mo W H W' H' d v → Q v H') → r x H Q
theorem bnd_eq {α β γ : Type} {x : Option (α × β)} {f : α → β → Option γ} {r : γ} (h : bnd x f = some r) : ∃ a b, x = some (a, b) ∧ f a b = some r := by
  cases x with
  | none => cases h
  | some p => exact ⟨p.1, p.2, rfl, h⟩
theorem Post.base {mo : Mo} {W W1 W' : Wd} {H H1 H' : Hp} {d : D} {v : V} (e : Ext W H W1 H1) (p : Post C mo W1 H1 W' H' d v) : Post C mo W H W' H' d v := by
  cases mo with
  | frz => exact p
  | bor => exact p
  | own =>
    rcases p with ⟨a, o, h1, h2, h3⟩ | h
    · exact .inl ⟨a, o, h1, e.dom a h2, h3⟩
    · exact .inr h
theorem ti_op2 {mo : Mo} {ta tb : TE} {r : R2} {f : D → D → Store → Option (D × Store)} {ga gb : Envr → Store → Option (D × Store)} (ha : ta = TI C md H0 .bor ga) (hb : tb = TI C md H0 .bor gb) (ho : Op2 C mo r f) :
    ∀ σ H Q, TI C md H0 mo (fun ρ S => bnd (ga ρ S) fun x S => bnd (gb ρ S) fun y S => f x y S) σ H Q → tOp r ta tb σ H Q := by
  intro σ H Q ⟨W, ρ, S, d, S', hw, hv, hg, k⟩
  subst ha hb
  obtain ⟨dx, S1, g1, hg⟩ := bnd_eq hg
  obtain ⟨dy, S2, g2, hg⟩ := bnd_eq hg
  refine ⟨W, ρ, S, dx, S1, hw, hv, g1, fun x H1 W1 e1 w1 p1 => ?_⟩
  refine ⟨W1, ρ, S1, dy, S2, w1, hv.ext e1, g2, fun y H2 W2 e2 w2 p2 => ?_⟩
  exact ho W2 S2 H2 x y dx dy d S' Q w2 (RepB.ext p1 e2) p2 hg fun v H' W' e w p => k v H' W' ((e1.trans e2).trans e) w (Post.base (e1.trans e2) p)
theorem ti_op1 {mo : Mo} {ta : TE} {r : V → Hp → VK → Prop} {f : D → Store → Option (D × Store)} {ga : Envr → Store → Option (D × Store)} (ha : ta = TI C md H0 .bor ga) (ho : Op1 C mo r f) :
    ∀ σ H Q, TI C md H0 mo (fun ρ S => bnd (ga ρ S) fun x S => f x S) σ H Q → tUn r ta σ H Q := by
  intro σ H Q ⟨W, ρ, S, d, S', hw, hv, hg, k⟩
  subst ha
  obtain ⟨dx, S1, g1, hg⟩ := bnd_eq hg
  refine ⟨W, ρ, S, dx, S1, hw, hv, g1, fun x H1 W1 e1 w1 p1 => ?_⟩
  exact ho W1 S1 H1 x dx d S' Q w1 p1 hg fun v H' W' e w p => k v H' W' (e1.trans e) w (Post.base e1 p)
end
end MT

set_option maxRecDepth 100000
set_option maxHeartbeats 1000000
/-! MTd: operations on values. -/
namespace MT
open PySem PySem.Spec PyProof.Rows L2

theorem lim_line {n : Nat} (h : n ≤ LIM) : n ≤ sizeLine := Nat.le_trans h (by rw [sizeLine_eq]; decide)
section
variable {C : Cst} {W W' : Wd} {H H' : Hp} {S S' : Store} {v : V} {d : D}
/-! ### what a value is -/
theorem SW.rd (h : SW C W S H) {a : Addr} {u : HO} (r : Rd W.F a u) : Rd H a u := by
  rcases r with r | ⟨o, r⟩
  · exact .inl (h.sub _ _ r).1
  · exact .inr ⟨o, (h.sub _ _ r).1⟩
theorem SW.sqt (h : SW C W S H) {a : Addr} {xs : List V} (r : SqT C.K W.F a xs) : SqT C.K H a xs := by
  rcases r with r | r
  · exact .inl (h.rd r)
  · exact .inr r
theorem SW.sql (h : SW C W S H) {a : Addr} {xs : List V} (r : SqL C.K W.F a xs) : SqL C.K H a xs := by
  rcases r with r | r
  · exact .inl (h.rd r)
  · exact .inr r
theorem rb_non (h : RepB C W H .non v) : v = .non := by
  rcases h with h | ⟨a, o, _, _, h, _⟩
  · rw [Rep] at h; exact h
  · exact h.elim
theorem rb_bl {b : Bool} (h : RepB C W H (.bl b) v) : v = .bl b := by
  rcases h with h | ⟨a, o, _, _, h, _⟩
  · rw [Rep] at h; exact h
  · exact h.elim
theorem rb_int {i : Int} (h : RepB C W H (.int i) v) : v = .int i := by
  rcases h with h | ⟨a, o, _, _, h, _⟩
  · rw [Rep] at h; exact h
  · exact h.elim
theorem rb_str {s : List Nat} (h : RepB C W H (.str s) v) : v = .str ⟨s.toArray⟩ ∧ Asc s := by
  rcases h with h | ⟨a, o, _, _, h, _⟩
  · rw [Rep] at h; exact h
  · exact h.elim
theorem rb_tup {l : List D} (w : SW C W S H) (h : RepB C W H (.tup l) v) : ∃ a xs, v = .ref a ∧ SqT C.K H a xs ∧ RepL C W l xs := by
  rcases h with h | ⟨a, o, _, _, h, _⟩
  · rw [Rep] at h
    obtain ⟨a, xs, h1, h2, h3⟩ := h
    exact ⟨a, xs, h1, w.sqt h2, h3⟩
  · exact h.elim
theorem rb_ro {l : List D} (w : SW C W S H) (h : RepB C W H (.ro l) v) : ∃ a xs, v = .ref a ∧ SqL C.K H a xs ∧ RepL C W l xs := by
  rcases h with h | ⟨a, o, _, _, h, _⟩
  · rw [Rep] at h
    obtain ⟨a, xs, h1, h2, h3⟩ := h
    exact ⟨a, xs, h1, w.sql h2, h3⟩
  · exact h.elim
theorem rb_lst {l : List D} (w : SW C W S H) (h : RepB C W H (.lst l) v) : ∃ a xs, v = .ref a ∧ H a = some (.lst xs) ∧ RepL C W l xs := by
  rcases h with h | ⟨a, o, h1, h2, h, _⟩
  · rw [Rep] at h
    obtain ⟨a, xs, h1, h2, h3⟩ := h
    exact ⟨a, xs, h1, (w.sub _ _ h2).1, h3⟩
  · obtain ⟨xs, e, h3⟩ := h
    subst e
    exact ⟨a, xs, h1, h2, h3⟩
theorem rb_dct {l : List (D × D)} (w : SW C W S H) (h : RepB C W H (.dct l) v) : ∃ a kvs, v = .ref a ∧ H a = some (.dK kvs) ∧ RepP C W l kvs := by
  rcases h with h | ⟨a, o, h1, h2, h, _⟩
  · rw [Rep] at h
    obtain ⟨a, xs, h1, h2, h3⟩ := h
    exact ⟨a, xs, h1, (w.sub _ _ h2).1, h3⟩
  · obtain ⟨xs, e, h3⟩ := h
    subst e
    exact ⟨a, xs, h1, h2, h3⟩
theorem rb_obj {n : Nat} (h : RepB C W H (.obj n) v) : ∃ a, v = .ref a ∧ W.m[n]? = some a := by
  rcases h with h | ⟨a, o, _, _, h, _⟩
  · rw [Rep] at h; exact h
  · exact h.elim
theorem rep_int (i : Int) : Rep C W (.int i) (.int i) := by rw [Rep]
theorem rep_bl (b : Bool) : Rep C W (.bl b) (.bl b) := by rw [Rep]
theorem rep_non : Rep C W .non .non := by rw [Rep]
theorem rep_str {s : List Nat} (h : Asc s) : Rep C W (.str s) (.str ⟨s.toArray⟩) := by rw [Rep]; exact ⟨rfl, h⟩
theorem rep_tup {l : List D} {a : Addr} {xs : List V} (h : W.F a = some (.tup xs)) (r : RepL C W l xs) : Rep C W (.tup l) (.ref a) := by
  rw [Rep]; exact ⟨a, xs, rfl, .inl (.inl h), r⟩

/-! ### new objects -/
theorem new_ext {p : Addr} {o : HO} (hp : H p = none) : Ext W H W (upd H p o) := by
  refine ⟨.refl _, fun a u e _ _ => by rw [upd_ne (ne_of_none e hp)]; exact e, fun a e => ?_, fun _ h => .inl h, fun _ _ h => .inl h⟩
  by_cases ha : a = p
  · subst ha; exact hp
  · rw [upd_ne ha] at e; exact e
theorem new_sw {p : Addr} {o : HO} (w : SW C W S H) (hp : H p = none) (ht : ∀ ps, o ≠ .tbl ps) (hc : ∀ c q, o ≠ LamX.CodeO c q := by intro c q z; unfold LamX.CodeO at z; cases z) : SW C W S (upd H p o) := by
  have k : ∀ a u, H a = some u → upd H p o a = some u := fun a u e => by rw [upd_ne (ne_of_none e hp)]; exact e
  refine ⟨fun a u e => ⟨k _ _ (w.sub a u e).1, (w.sub a u e).2⟩, w.tabs.ext k, fun c q e => ?_, w.nd, w.len, fun n ob e => ?_⟩
  · by_cases z : c = p
    · rw [z, upd_same] at e
      exact absurd (Option.some.inj e) (hc _ _)
    · rw [upd_ne z] at e
      exact w.codes c q e
  obtain ⟨a, u, h1, h2, h3⟩ := w.st n ob e
  exact ⟨a, u, h1, k _ _ h2, h3⟩
theorem SW.notm (w : SW C W S H) {p : Addr} (hp : H p = none) : p ∉ W.m := fun z => by
  obtain ⟨n, hn⟩ := List.mem_iff_getElem?.mp z
  have hl : n < S.length := by rw [← w.len]; exact (List.getElem?_eq_some_iff.mp hn).1
  obtain ⟨a, o, h1, h2, _⟩ := w.st n _ (List.getElem?_eq_getElem hl)
  rw [hn] at h1
  cases h1
  rw [hp] at h2
  cases h2
theorem SW.notF (w : SW C W S H) {p : Addr} (hp : H p = none) : W.F p = none := by
  cases e : W.F p with
  | none => rfl
  | some u => rw [(w.sub p u e).1] at hp; cases hp
/-- a new list -/
theorem new_lst {p : Addr} {xs : List V} {l : List D} {Q : VK} (w : SW C W S H) (hp : H p = none) (r : RepL C W l xs)
    (k : ∀ v H' W', Ext W H W' H' → SW C W' S H' → Post C .own W H W' H' (.lst l) v → Q v H') : Q (.ref p) (upd H p (.lst xs)) :=
  k _ _ W (new_ext hp) (new_sw w hp fun _ z => by cases z) (.inl ⟨p, _, rfl, hp, upd_same, ⟨xs, rfl, r⟩, w.notm hp, w.notF hp⟩)
theorem new_dct {p : Addr} {kvs : List (Key × V)} {l : List (D × D)} {Q : VK} (w : SW C W S H) (hp : H p = none) (r : RepP C W l kvs)
    (k : ∀ v H' W', Ext W H W' H' → SW C W' S H' → Post C .own W H W' H' (.dct l) v → Q v H') : Q (.ref p) (upd H p (.dK kvs)) :=
  k _ _ W (new_ext hp) (new_sw w hp fun _ z => by cases z) (.inl ⟨p, _, rfl, hp, upd_same, ⟨kvs, rfl, r⟩, w.notm hp, w.notF hp⟩)
/-- a new tuple -/
theorem new_tup {p : Addr} {xs : List V} {l : List D} {Q : VK} (w : SW C W S H) (hp : H p = none) (r : RepL C W l xs)
    (k : ∀ v H' W', Ext W H W' H' → SW C W' S H' → Rep C W' (.tup l) v → Q v H') : Q (.ref p) (upd H p (.tup xs)) := by
  have w1 : SW C W S (upd H p (.tup xs)) := new_sw w hp fun _ z => by cases z
  refine k _ _ (W.fz p (.tup xs)) ((new_ext hp).fz hp (w.notF hp)) (w1.fz upd_same (w.notm hp) (w.notF hp) fun _ z => by cases z) ?_
  exact rep_tup fz_at (RepL.mono (fz_le (w.notF hp)) _ _ r)
theorem keep_post {mo : Mo} {Q : VK} {v : V} (w : SW C W S H) (b : isBox d = false) (r : Rep C W d v)
    (k : ∀ v H' W', Ext W H W' H' → SW C W' S H' → Post C mo W H W' H' d v → Q v H') : Q v H := by
  refine k v H W (.refl _ _) w ?_
  cases mo with
  | frz => exact r
  | bor => exact .inl r
  | own => exact .inr ⟨b, r⟩
theorem post_of {mo : Mo} (b : isBox d = false) (r : Rep C W' d v) : Post C mo W H W' H' d v := by
  cases mo with
  | frz => exact r
  | bor => exact .inl r
  | own => exact .inr ⟨b, r⟩
theorem RepL.lst_lim {l : List D} {xs : List V} (r : RepL C W l xs) {n : Nat} (h : l.length ≤ n) : xs.length ≤ n := r.length ▸ h
end

theorem asc_app {s t : List Nat} (h : Asc s) (k : Asc t) (hl : s.length + t.length ≤ LIM) : Asc (s ++ t) := ⟨fun c hc => (List.mem_append.mp hc).elim (h.1 c) (k.1 c), by rw [List.length_append]; exact hl⟩
theorem str_app (s t : List Nat) : (⟨s.toArray⟩ : Str) ++ ⟨t.toArray⟩ = ⟨(s ++ t).toArray⟩ := by
  apply PySem.Str.ext'
  show s.toArray ++ t.toArray = (s ++ t).toArray
  simp
theorem str_len (s : List Nat) : (⟨s.toArray⟩ : Str).length = s.length := by simp [Str.length]

section
variable {C : Cst} {X : Cx}
abbrev lft (f : D → D → Option D) : D → D → Store → Option (D × Store) := fun x y S => (f x y).map fun z => (z, S)
theorem map_eq {α β : Type} {x : Option α} {f : α → β} {r : β} (h : x.map f = some r) : ∃ a, x = some a ∧ f a = r := Option.map_eq_some_iff.mp h
theorem Op2.or {mo : Mo} {r r' : R2} {f g : D → D → Store → Option (D × Store)} (a : Op2 C mo r f) (b : Op2 C mo r' g) :
    Op2 C mo (fun x y H Q => r x y H Q ∨ r' x y H Q) (fun x y S => (f x y S).or (g x y S)) := by
  intro W S H x y dx dy d S' Q w hx hy hf k
  have hf : (f dx dy S).or (g dx dy S) = some (d, S') := hf
  cases e : f dx dy S with
  | some p =>
    rw [e] at hf
    have e2 : p = (d, S') := by simpa using hf
    exact .inl (a W S H x y dx dy d S' Q w hx hy (e.trans (congrArg some e2)) k)
  | none =>
    rw [e] at hf
    exact .inr (b W S H x y dx dy d S' Q w hx hy (by simpa using hf) k)
theorem Op2.congr {mo : Mo} {r : R2} {f g : D → D → Store → Option (D × Store)} (a : Op2 C mo r f) (e : ∀ x y S z, g x y S = some z → f x y S = some z) : Op2 C mo r g := by
  intro W S H x y dx dy d S' Q w hx hy hf k
  exact a W S H x y dx dy d S' Q w hx hy (e _ _ _ _ hf) k

/-! ### ints -/
def fI (c : Int → Int → Prop) [∀ i j, Decidable (c i j)] (f : Int → Int → D) : D → D → Store → Option (D × Store)
  | .int i, .int j, S => if c i j then some (f i j, S) else none
  | _, _, _ => none
theorem fI_some {c : Int → Int → Prop} [∀ i j, Decidable (c i j)] {f : Int → Int → D} {x y : D} {S : Store} {z : D × Store} (h : fI c f x y S = some z) : ∃ i j, x = .int i ∧ y = .int j ∧ c i j ∧ z = (f i j, S) := by
  cases x with
  | int i =>
    cases y with
    | int j =>
      have h : (if c i j then some (f i j, S) else none) = some z := h
      by_cases hc : c i j
      · rw [if_pos hc] at h
        exact ⟨i, j, rfl, rfl, hc, (Option.some.inj h).symm⟩
      · rw [if_neg hc] at h
        cases h
    | _ => cases h
  | _ => cases h
theorem fI_at {c : Int → Int → Prop} [∀ i j, Decidable (c i j)] {f : Int → Int → D} {i j : Int} {S : Store} (h : c i j) : fI c f (.int i) (.int j) S = some (f i j, S) := by
  show (if c i j then some (f i j, S) else none) = _
  rw [if_pos h]
theorem op2_rI {c : Int → Int → Prop} [∀ i j, Decidable (c i j)] {c' : Int → Int → Prop} (hc : ∀ i j, c i j → c' i j) {f : Int → Int → D} {g : Int → Int → V} {mo : Mo} (hb : ∀ i j, isBox (f i j) = false) (hg : ∀ W i j, Rep C W (f i j) (g i j)) :
    Op2 C mo (rI c' g) (fI c f) := by
  intro W S H x y dx dy d S' Q w hx hy hf k
  obtain ⟨i, j, rfl, rfl, hij, e⟩ := fI_some hf
  cases e
  exact ⟨i, j, rb_int hx, rb_int hy, hc i j hij, keep_post w (hb i j) (hg W i j) k⟩
theorem op2_rI0 {f : Int → Int → D} {g : Int → Int → V} {mo : Mo} (hb : ∀ i j, isBox (f i j) = false) (hg : ∀ W i j, Rep C W (f i j) (g i j)) :
    Op2 C mo (rI0 g) (fI (fun _ _ => True) f) := by
  intro W S H x y dx dy d S' Q w hx hy hf k
  obtain ⟨i, j, rfl, rfl, hij, e⟩ := fI_some hf
  cases e
  exact ⟨i, j, rb_int hx, rb_int hy, keep_post w (hb i j) (hg W i j) k⟩
theorem o_sub : ∃ r, OpR X (binaryOp .Sub) r ∧ Op2 C .own r (lft (binD .sub)) := ⟨_, op_sub, (op2_rI0 (f := fun i j => .int (i - j)) (fun _ _ => rfl) fun _ _ _ => rep_int _).congr fun x y S z h => by
  obtain ⟨a, h1, h2⟩ := map_eq h
  unfold binD at h1
  split at h1 <;> first | contradiction | skip
  cases h1
  simpa [fI] using h2⟩
theorem o_fdiv : ∃ r, OpR X (binaryOp .FloorDiv) r ∧ Op2 C .own r (lft (binD .fdiv)) := ⟨_, op_fdiv, (op2_rI (c := fun _ j => 0 < j ∧ smI j 1073741823 = true) (c' := CDiv) (fun _ j h => ⟨h.1, by have := smI_le h.2; omega⟩) (f := fun i j => .int (i / j)) (fun _ _ => rfl) fun _ _ _ => rep_int _).congr fun x y S z h => by
  obtain ⟨a, h1, h2⟩ := map_eq h
  unfold binD at h1
  split at h1 <;> first | contradiction | skip
  split at h1 <;> first | contradiction | skip
  rename_i hc
  cases h1
  rw [← h2]
  exact fI_at (c := fun _ j => 0 < j ∧ smI j 1073741823 = true) hc⟩
theorem o_mod : ∃ r, OpR X (binaryOp .Mod) r ∧ Op2 C .own r (lft (binD .mod)) := ⟨_, op_mod, (op2_rI (c := fun _ j => 0 < j) (fun _ _ h => h) (f := fun i j => .int (i % j)) (fun _ _ => rfl) fun _ _ _ => rep_int _).congr fun x y S z h => by
  obtain ⟨a, h1, h2⟩ := map_eq h
  unfold binD at h1
  split at h1 <;> first | contradiction | skip
  split at h1 <;> first | contradiction | skip
  rename_i hc
  cases h1
  simpa [fI, hc] using h2⟩
theorem o_pow : ∃ r, OpR X (binaryOp .Pow) r ∧ Op2 C .own r (lft (binD .pow)) := ⟨_, op_pow, (op2_rI (c := fun i j => 0 ≤ j ∧ j ≤ 100 ∧ i.natAbs < 2 ^ 64) (c' := CPow) (fun _ _ h => ⟨h.1, by omega, h.2.2⟩) (f := fun i j => .int (i ^ j.toNat)) (fun _ _ => rfl) fun _ _ _ => rep_int _).congr fun x y S z h => by
  obtain ⟨a, h1, h2⟩ := map_eq h
  unfold binD at h1
  split at h1 <;> first | contradiction | skip
  split at h1 <;> first | contradiction | skip
  rename_i hc
  cases h1
  rw [← h2]
  exact fI_at (c := fun i j => 0 ≤ j ∧ j ≤ 100 ∧ i.natAbs < 2 ^ 64) hc⟩
theorem o_mul : ∃ r, OpR X (binaryOp .Mult) r ∧ Op2 C .own r (lft (binD .mul)) := ⟨_, op_mul, (op2_rI (c := fun i j => (smI i 18446744073709551615 || smI j 18446744073709551615) = true) (c' := CMul) (fun i j h => (Bool.or_eq_true _ _ ▸ h).imp (fun h => by have := smI_le h; omega) (fun h => by have := smI_le h; omega)) (f := fun i j => .int (i * j)) (fun _ _ => rfl) fun _ _ _ => rep_int _).congr fun x y S z h => by
  obtain ⟨a, h1, h2⟩ := map_eq h
  unfold binD at h1
  split at h1 <;> first | contradiction | skip
  split at h1 <;> first | contradiction | skip
  rename_i hc
  cases h1
  rw [← h2]
  exact fI_at (c := fun i j => (smI i 18446744073709551615 || smI j 18446744073709551615) = true) hc⟩
/-! ### + -/
def fS : D → D → Store → Option (D × Store)
  | .str s, .str t, S => if s.length + t.length ≤ LIM then some (.str (s ++ t), S) else none
  | _, _, _ => none
def fT : D → D → Store → Option (D × Store)
  | .tup s, .tup t, S => if s.length + t.length ≤ LIM then some (.tup (s ++ t), S) else none
  | _, _, _ => none
def fL : D → D → Store → Option (D × Store)
  | .lst s, .lst t, S => if s.length + t.length ≤ LIM then some (.lst (s ++ t), S) else none
  | _, _, _ => none
theorem op2_str {mo : Mo} : Op2 C mo (fun x y H Q => ∃ i j, x = .str i ∧ y = .str j ∧ i.length + j.length ≤ sizeLine ∧ Q (.str (i ++ j)) H) fS := by
  intro W S H x y dx dy d S' Q w hx hy hf k
  unfold fS at hf
  split at hf
  · split at hf
    · rename_i S0 s t hl
      cases hf
      obtain ⟨e1, a1⟩ := rb_str hx
      obtain ⟨e2, a2⟩ := rb_str hy
      refine ⟨_, _, e1, e2, by rw [str_len, str_len]; exact lim_line hl, ?_⟩
      rw [str_app]
      exact keep_post w rfl (rep_str (asc_app a1 a2 hl)) k
    · cases hf
  · cases hf
theorem op2_tup {mo : Mo} : Op2 C mo (rCatA C.K) fT := by
  intro W S H x y dx dy d S' Q w hx hy hf k
  unfold fT at hf
  split at hf
  · split at hf
    · rename_i S0 s t hl
      cases hf
      obtain ⟨a, xs, rfl, h1, r1⟩ := rb_tup w hx
      obtain ⟨b, ys, rfl, h2, r2⟩ := rb_tup w hy
      have ra : Rep C W (.tup s) (.ref a) := by
        rcases hx with z | ⟨_, _, _, _, z, _⟩
        · exact z
        · exact z.elim
      have rb : Rep C W (.tup t) (.ref b) := by
        rcases hy with z | ⟨_, _, _, _, z, _⟩
        · exact z
        · exact z.elim
      refine ⟨a, b, xs, ys, rfl, rfl, h1, h2, by rw [← r1.length, ← r2.length]; exact lim_line hl, fun e => ?_, fun _ e => ?_, fun _ _ p hp => ?_⟩
      · subst e
        have : s = [] := by simpa using r1.length
        subst this
        exact keep_post w rfl rb k
      · subst e
        have : t = [] := by simpa using r2.length
        subst this
        exact keep_post w rfl (by simpa using ra) k
      · exact new_tup w hp (r1.append r2) fun v H' W' e w' r => k v H' W' e w' (post_of rfl r)
    · cases hf
  · cases hf
theorem op2_lst : Op2 C .own rCat fL := by
  intro W S H x y dx dy d S' Q w hx hy hf k
  unfold fL at hf
  split at hf
  · split at hf
    · rename_i S0 s t hl
      cases hf
      obtain ⟨a, xs, rfl, h1, r1⟩ := rb_lst w hx
      obtain ⟨b, ys, rfl, h2, r2⟩ := rb_lst w hy
      exact ⟨a, b, xs, ys, rfl, rfl, h1, h2, by rw [← r1.length, ← r2.length]; exact lim_line hl, fun p hp => new_lst w hp (r1.append r2) k⟩
    · cases hf
  · cases hf
theorem o_add (hK : X.K = C.K) : ∃ r, OpR X (binaryOp .Add) r ∧ Op2 C .own r (lft (binD .add)) := by
  refine ⟨_, op_add.or (op_add_str.or ((hK ▸ op_catA).or op_cat)), ((op2_rI0 (f := fun i j => .int (i + j)) (fun _ _ => rfl) fun _ _ _ => rep_int _).or (op2_str.or (op2_tup.or op2_lst))).congr fun x y S z h => ?_⟩
  obtain ⟨a, h1, h2⟩ := map_eq h
  unfold binD at h1
  split at h1 <;> first | contradiction | skip
  · cases h1
    simpa [fI, fS, fT, fL] using h2
  · split at h1 <;> first | contradiction | skip
    rename_i hc
    cases h1
    simpa [fI, fS, fT, fL, hc] using h2
  · split at h1 <;> first | contradiction | skip
    rename_i hc
    cases h1
    simpa [fI, fS, fT, fL, hc] using h2
  · split at h1 <;> first | contradiction | skip
    rename_i hc
    cases h1
    simpa [fI, fS, fT, fL, hc] using h2
end
end MT

set_option maxRecDepth 100000
set_option maxHeartbeats 1000000
/-! MTe: comparisons. -/
namespace MT
open PySem PySem.Spec PyProof.Rows L2

section
variable {C : Cst} {W W' : Wd} {H H' : Hp} {S S' : Store} {v : V} {d : D}
mutual
theorem dp_of (w : SW C W S H) : ∀ (d : D) (v : V), D.flat d = true → Rep C W d v → Dp C.K H v (pd d)
  | .non, v, _, h => by rw [Rep] at h; subst h; exact .non
  | .bl b, v, _, h => by rw [Rep] at h; subst h; exact .bl b
  | .int i, v, _, h => by rw [Rep] at h; subst h; exact .int i
  | .str s, v, _, h => by rw [Rep] at h; obtain ⟨h, _⟩ := h; subst h; exact .str _
  | .tup l, v, f, h => by
    rw [Rep] at h
    obtain ⟨a, xs, h1, h2, h3⟩ := h
    subst h1
    exact .tup (w.sqt h2) (dps_of w l xs f h3)
  | .lst l, v, f, h => by
    rw [Rep] at h
    obtain ⟨a, xs, h1, h2, h3⟩ := h
    subst h1
    exact .lst (SqL.of (w.sub _ _ h2).1) (dps_of w l xs f h3)
  | .ro _, _, f, _ => by cases f
  | .dct _, _, f, _ => by cases f
  | .obj _, _, f, _ => by cases f
  | .fn _ _, _, f, _ => by cases f
theorem dps_of (w : SW C W S H) : ∀ (l : List D) (vs : List V), D.flats l = true → RepL C W l vs → DpAll C.K H vs (pds l)
  | [], vs, _, h => by rw [RepL] at h; subst h; exact .nil
  | d :: l, vs, f, h => by
    rw [RepL] at h
    obtain ⟨v, r, h1, h2, h3⟩ := h
    subst h1
    have f' : (D.flat d && D.flats l) = true := f
    rw [Bool.and_eq_true] at f'
    exact .cons (dp_of w d v f'.1 h2) (dps_of w l r f'.2 h3)
end
theorem dpb_of (w : SW C W S H) (f : D.flat d = true) (h : RepB C W H d v) : Dp C.K H v (pd d) := by
  rcases h with h | ⟨a, o, h1, h2, h3, _⟩
  · exact dp_of w d v f h
  · unfold RepH at h3
    split at h3
    · obtain ⟨xs, e, r⟩ := h3
      subst e h1
      exact .lst (SqL.of h2) (dps_of w _ xs f r)
    · cases f
    · exact h3.elim
mutual
theorem lay_of : ∀ (d : D) (v : V), D.flat d = true → Rep C W d v → (pd d).canLay0 = true
  | .non, v, _, h => rfl
  | .bl b, v, _, h => rfl
  | .int i, v, _, h => rfl
  | .str s, v, _, h => by
    rw [Rep] at h
    show PyData.strOk ⟨s.toArray⟩ = true
    unfold PyData.strOk
    simp only [List.all_toArray, List.all_eq_true, decide_eq_true_eq]
    intro c hc
    have := h.2.1 c hc
    omega
  | .tup l, v, f, h => by
    rw [Rep] at h
    obtain ⟨a, xs, h1, h2, h3⟩ := h
    show PyData.canLayAll0 (pds l) = true
    exact lays_of l xs f h3
  | .lst l, v, f, h => by
    rw [Rep] at h
    obtain ⟨a, xs, h1, h2, h3⟩ := h
    show PyData.canLayAll0 (pds l) = true
    exact lays_of l xs f h3
  | .ro _, _, f, _ => by cases f
  | .dct _, _, f, _ => by cases f
  | .obj _, _, f, _ => by cases f
  | .fn _ _, _, f, _ => by cases f
theorem lays_of : ∀ (l : List D) (vs : List V), D.flats l = true → RepL C W l vs → PyData.canLayAll0 (pds l) = true
  | [], vs, _, h => rfl
  | d :: l, vs, f, h => by
    rw [RepL] at h
    obtain ⟨v, r, h1, h2, h3⟩ := h
    have f' : (D.flat d && D.flats l) = true := f
    rw [Bool.and_eq_true] at f'
    show ((pd d).canLay0 && PyData.canLayAll0 (pds l)) = true
    rw [lay_of d v f'.1 h2, lays_of l r f'.2 h3]
    rfl
end
theorem layb_of (f : D.flat d = true) (h : RepB C W H d v) : (pd d).canLay0 = true := by
  rcases h with h | ⟨a, o, h1, h2, h3, _⟩
  · exact lay_of d v f h
  · unfold RepH at h3
    split at h3
    · obtain ⟨xs, e, r⟩ := h3
      exact lays_of _ xs f r
    · cases f
    · exact h3.elim
mutual
theorem dep_pd : ∀ d : D, D.flat d = true → (pd d).depth = d.dep
  | .non, _ => rfl
  | .bl _, _ => rfl
  | .int _, _ => rfl
  | .str _, _ => rfl
  | .tup l, f => by
    show PyData.depthAll (pds l) + 1 = D.deps l + 1
    rw [deps_pd l f]
  | .lst l, f => by
    show PyData.depthAll (pds l) + 1 = D.deps l + 1
    rw [deps_pd l f]
  | .ro _, f => by cases f
  | .dct _, f => by cases f
  | .obj _, f => by cases f
  | .fn _ _, f => by cases f
theorem deps_pd : ∀ l : List D, D.flats l = true → PyData.depthAll (pds l) = D.deps l
  | [], _ => rfl
  | d :: l, f => by
    have f' : (D.flat d && D.flats l) = true := f
    rw [Bool.and_eq_true] at f'
    show max (pd d).depth (PyData.depthAll (pds l)) = Nat.max (D.dep d) (D.deps l)
    rw [dep_pd d f'.1, deps_pd l f'.2]
end
theorem str_beq (s t : List Nat) : ((⟨s.toArray⟩ : Str) == ⟨t.toArray⟩) = decide (s = t) := by
  by_cases e : s = t
  · subst e; simp
  · have n : (⟨s.toArray⟩ : Str) ≠ ⟨t.toArray⟩ := fun z => e (by
      have := congrArg Str.cps z
      simpa using this)
    rw [decide_eq_false e]
    exact beq_eq_false_iff_ne.mpr n
mutual
theorem eqv_pd : ∀ x y : D, D.flat x = true → D.flat y = true → PyData.eqv (pd x) (pd y) = D.eqv x y
  | .non, y, _, f => by cases y <;> first | rfl | cases f
  | .bl a, y, _, f => by cases y <;> first | rfl | cases f
  | .int i, y, _, f => by cases y <;> first | rfl | cases f
  | .str s, y, _, f => by
    cases y with
    | str t => exact str_beq s t
    | _ => first | rfl | cases f
  | .tup l, y, fx, f => by
    cases y with
    | tup m => exact eqvs_pd l m fx f
    | _ => first | rfl | cases f
  | .lst l, y, fx, f => by
    cases y with
    | lst m => exact eqvs_pd l m fx f
    | _ => first | rfl | cases f
  | .ro _, _, f, _ => by cases f
  | .dct _, _, f, _ => by cases f
  | .obj _, _, f, _ => by cases f
  | .fn _ _, _, f, _ => by cases f
theorem eqvs_pd : ∀ l m : List D, D.flats l = true → D.flats m = true → PyData.eqvAll (pds l) (pds m) = D.eqvs l m
  | [], [], _, _ => rfl
  | [], _ :: _, _, _ => rfl
  | _ :: _, [], _, _ => rfl
  | x :: l, y :: m, f, g => by
    have f' : (D.flat x && D.flats l) = true := f
    have g' : (D.flat y && D.flats m) = true := g
    rw [Bool.and_eq_true] at f' g'
    show (PyData.eqv (pd x) (pd y) && PyData.eqvAll (pds l) (pds m)) = (D.eqv x y && D.eqvs l m)
    rw [eqv_pd x y f'.1 g'.1, eqvs_pd l m f'.2 g'.2]
end
theorem flat_mem : ∀ {l : List D}, D.flats l = true → ∀ y ∈ l, D.flat y = true
  | [], _, _, h => by cases h
  | d :: l, f, y, h => by
    have f' : (D.flat d && D.flats l) = true := f
    rw [Bool.and_eq_true] at f'
    rcases List.mem_cons.mp h with e | h
    · rw [e]; exact f'.1
    · exact flat_mem f'.2 y h
theorem any_pd {x : D} (fx : D.flat x = true) : ∀ l : List D, D.flats l = true → ((pds l).any fun y => PyData.eqv y (pd x)) = l.any fun y => D.eqv y x
  | [], _ => rfl
  | d :: l, f => by
    have f' : (D.flat d && D.flats l) = true := f
    rw [Bool.and_eq_true] at f'
    show (PyData.eqv (pd d) (pd x) || (pds l).any _) = (D.eqv d x || l.any _)
    rw [eqv_pd d x f'.1 fx, any_pd fx l f'.2]
end

section
variable {X : Cx} {C : Cst}
/-! ### ==, != -/
def rEqM (K : PySem.W.Frag) (ng : Bool) : R2 := fun x y H Q => ∃ d e, Dp K H x d ∧ Dp K H y e ∧ d.canLay0 = true ∧ e.canLay0 = true ∧ min d.depth e.depth ≤ 60 ∧ Q (.bl (ng ^^ PyData.eqv d e)) H
theorem op_eqM (hu : X.A.units + 65 < cLine) : OpR X (compareOp .Eq) (rEqM X.K false) := by
  intro pins s σ H x y v u Q I rx ry h
  obtain ⟨d, e, hd, he, sd, se, hm, q⟩ := h
  obtain ⟨as, r1⟩ := Dp.reads I d x v hd rx
  obtain ⟨bs, r2⟩ := Dp.reads I e y u he ry
  refine SeqAt.compareEq_reads r1 r2 sd se (by omega) ⟨.bl _, H, I, rfl, ?_⟩
  simpa using q
theorem op_neM (hu : X.A.units + 65 < cLine) : OpR X (compareOp .NotEq) (rEqM X.K true) := by
  intro pins s σ H x y v u Q I rx ry h
  obtain ⟨d, e, hd, he, sd, se, hm, q⟩ := h
  obtain ⟨as, r1⟩ := Dp.reads I d x v hd rx
  obtain ⟨bs, r2⟩ := Dp.reads I e y u he ry
  refine SeqAt.compareNe_reads r1 r2 sd se (by omega) ⟨.bl _, H, I, rfl, ?_⟩
  simpa using q
theorem eqD_some {x y : D} {b : Bool} (h : eqD x y = some b) : D.flat x = true ∧ D.flat y = true ∧ Nat.min x.dep y.dep ≤ 60 ∧ b = D.eqv x y := by
  unfold eqD at h
  split at h
  · rename_i hc
    simp only [Bool.and_eq_true, decide_eq_true_eq] at hc
    exact ⟨hc.1.1, hc.1.2, hc.2, (Option.some.inj h).symm⟩
  · cases h
def cB (f : D → D → Option Bool) : D → D → Store → Option (D × Store) := fun x y S => (f x y).map fun b => (.bl b, S)
theorem cB_some {f : D → D → Option Bool} {x y : D} {S : Store} {z : D × Store} (h : cB f x y S = some z) : ∃ b, f x y = some b ∧ z = (.bl b, S) := by
  obtain ⟨b, h1, h2⟩ := map_eq h
  exact ⟨b, h1, h2.symm⟩
theorem op2_eqM {mo : Mo} (ng : Bool) : Op2 C mo (rEqM C.K ng) (cB fun x y => (eqD x y).map (ng ^^ ·)) := by
  intro W S H x y dx dy d S' Q w hx hy hf k
  obtain ⟨b, h1, h2⟩ := cB_some hf
  cases h2
  obtain ⟨c, h1, h2⟩ := map_eq h1
  obtain ⟨f1, f2, hm, e⟩ := eqD_some h1
  subst h2 e
  refine ⟨pd dx, pd dy, dpb_of w f1 hx, dpb_of w f2 hy, layb_of f1 hx, layb_of f2 hy, by rw [dep_pd _ f1, dep_pd _ f2]; exact hm, ?_⟩
  rw [eqv_pd _ _ f1 f2]
  exact keep_post w rfl (rep_bl _) k
/-! ### in, not in -/
def rInM (K : PySem.W.Frag) (ng : Bool) : R2 := fun x y H Q => ∃ d ds, Dp K H x d ∧ (Dp K H y (.list ds) ∨ Dp K H y (.tuple ds)) ∧ d.canLay0 = true ∧ PyData.canLayAll0 ds = true ∧ d.depth ≤ 60 ∧ Q (.bl (ng ^^ ds.any fun z => PyData.eqv z d)) H
theorem op_inM (hu : X.A.units + 65 < cLine) : OpR X (compareOp .In) (rInM X.K false) := by
  intro pins s σ H x y v u Q I rx ry h
  obtain ⟨d, ds, hd, he, sd, se, hm, q⟩ := h
  obtain ⟨as, r1⟩ := Dp.reads I d x v hd rx
  have hu2 : X.A.units + 1 + min (PyData.depthAll ds) d.depth < cLine := by
    have := Nat.min_le_right (PyData.depthAll ds) d.depth
    omega
  rcases he with he | he
  · obtain ⟨bs, r2⟩ := Dp.reads I (.list ds) y u he ry
    refine SeqAt.in_list_reads r2 r1 se sd hu2 ⟨.bl _, H, I, rfl, ?_⟩
    simpa using q
  · obtain ⟨bs, r2⟩ := Dp.reads I (.tuple ds) y u he ry
    refine SeqAt.in_tuple_reads r2 r1 se sd hu2 ⟨.bl _, H, I, rfl, ?_⟩
    simpa using q
theorem op_notInM (hu : X.A.units + 65 < cLine) : OpR X (compareOp .NotIn) (rInM X.K true) := by
  intro pins s σ H x y v u Q I rx ry h
  obtain ⟨d, ds, hd, he, sd, se, hm, q⟩ := h
  obtain ⟨as, r1⟩ := Dp.reads I d x v hd rx
  have hu2 : X.A.units + 1 + min (PyData.depthAll ds) d.depth < cLine := by
    have := Nat.min_le_right (PyData.depthAll ds) d.depth
    omega
  rcases he with he | he
  · obtain ⟨bs, r2⟩ := Dp.reads I (.list ds) y u he ry
    refine SeqAt.notIn_list_reads r2 r1 se sd hu2 ⟨.bl _, H, I, rfl, ?_⟩
    simpa using q
  · obtain ⟨bs, r2⟩ := Dp.reads I (.tuple ds) y u he ry
    refine SeqAt.notIn_tuple_reads r2 r1 se sd hu2 ⟨.bl _, H, I, rfl, ?_⟩
    simpa using q
theorem inD_some {x : D} {l : List D} {b : Bool} (h : inD x l = some b) : D.flat x = true ∧ D.flats l = true ∧ x.dep ≤ 60 ∧ b = l.any fun y => D.eqv y x := by
  unfold inD at h
  split at h
  · rename_i hc
    simp only [Bool.and_eq_true, decide_eq_true_eq] at hc
    exact ⟨hc.1.1, hc.1.2, hc.2, (Option.some.inj h).symm⟩
  · cases h
def inSeqD (ng : Bool) : D → D → Option Bool
  | x, .lst ys => (inD x ys).map (ng ^^ ·)
  | x, .tup ys => (inD x ys).map (ng ^^ ·)
  | _, _ => none
theorem op2_inM {mo : Mo} (ng : Bool) : Op2 C mo (rInM C.K ng) (cB (inSeqD ng)) := by
  intro W S H x y dx dy d S' Q w hx hy hf k
  obtain ⟨b, h1, h2⟩ := cB_some hf
  cases h2
  cases dy with
  | lst l =>
    obtain ⟨c, h1, h2⟩ := map_eq (show (inD dx l).map (ng ^^ ·) = some b from h1)
    obtain ⟨f1, f2, hm, e⟩ := inD_some h1
    subst h2 e
    refine ⟨pd dx, pds l, dpb_of w f1 hx, .inl (dpb_of (d := .lst l) w f2 hy), layb_of f1 hx, layb_of (d := .lst l) f2 hy, by rw [dep_pd _ f1]; exact hm, ?_⟩
    rw [any_pd f1 l f2]
    exact keep_post w rfl (rep_bl _) k
  | tup l =>
    obtain ⟨c, h1, h2⟩ := map_eq (show (inD dx l).map (ng ^^ ·) = some b from h1)
    obtain ⟨f1, f2, hm, e⟩ := inD_some h1
    subst h2 e
    refine ⟨pd dx, pds l, dpb_of w f1 hx, .inr (dpb_of (d := .tup l) w f2 hy), layb_of f1 hx, layb_of (d := .tup l) f2 hy, by rw [dep_pd _ f1]; exact hm, ?_⟩
    rw [any_pd f1 l f2]
    exact keep_post w rfl (rep_bl _) k
  | _ => cases h1
def inStrD (ng : Bool) : D → D → Option Bool
  | .str [c], .str t => some (ng ^^ decide (c ∈ t))
  | _, _ => none
theorem op2_inS {mo : Mo} : Op2 C mo (fun x y H Q => ∃ (c : Nat) (z : Str), x = .str ⟨#[c]⟩ ∧ y = .str z ∧ Q (.bl (decide (c ∈ z.cps.toList))) H) (cB (inStrD false)) := by
  intro W S H x y dx dy d S' Q w hx hy hf k
  obtain ⟨b, h1, h2⟩ := cB_some hf
  cases h2
  unfold inStrD at h1
  split at h1
  · cases h1
    obtain ⟨e1, _⟩ := rb_str hx
    obtain ⟨e2, _⟩ := rb_str hy
    refine ⟨_, _, e1, e2, ?_⟩
    simpa using keep_post w rfl (rep_bl _) k
  · cases h1
theorem op2_notInS {mo : Mo} : Op2 C mo (fun x y H Q => ∃ (c : Nat) (z : Str), x = .str ⟨#[c]⟩ ∧ y = .str z ∧ Q (.bl (!decide (c ∈ z.cps.toList))) H) (cB (inStrD true)) := by
  intro W S H x y dx dy d S' Q w hx hy hf k
  obtain ⟨b, h1, h2⟩ := cB_some hf
  cases h2
  unfold inStrD at h1
  split at h1
  · cases h1
    obtain ⟨e1, _⟩ := rb_str hx
    obtain ⟨e2, _⟩ := rb_str hy
    refine ⟨_, _, e1, e2, ?_⟩
    have := keep_post w rfl (rep_bl _) k
    simpa using this
  · cases h1
end
end MT

set_option maxRecDepth 100000
set_option maxHeartbeats 1000000
/-! MTf: expressions without calls. -/
namespace MT
open PySem PySem.Spec PyProof.Rows L2

section
variable {X : Cx} {C : Cst} {md : Nat → Mo} {H0 : Hp} {mo : Mo} {a b c e : Expr} {pos : Pos} {ga gb gc : Envr → Store → Option (D × Store)}
abbrev Gv := Envr → Store → Option (D × Store)
def gVar (i : Nat) : Gv := fun ρ S => match ρ[i]? with
  | some (some d) => some (d, S)
  | _ => none
theorem gVar_some {i : Nat} {ρ : Envr} {S : Store} {z : D × Store} (h : gVar i ρ S = some z) : ∃ d, ρ[i]? = some (some d) ∧ z = (d, S) := by
  unfold gVar at h
  split at h
  · rename_i d hd
    exact ⟨d, hd, (Option.some.inj h).symm⟩
  · cases h
theorem ti_var {i : Nat} (hm : md i = .frz) : ∀ σ H Q, TI C md H0 .frz (gVar i) σ H Q → tVar i σ H Q := by
  intro σ H Q ⟨W, ρ, S, d, S', hw, hv, hg, k⟩
  obtain ⟨d', h1, h2⟩ := gVar_some hg
  cases h2
  obtain ⟨v, h3, h4⟩ := hv.loc i d h1
  rw [hm] at h4
  exact ⟨v, h3, k v H W (.refl _ _) hw h4⟩
theorem ti_bor {i : Nat} : ∀ σ H Q, TI C md H0 .bor (gVar i) σ H Q → tVar i σ H Q := by
  intro σ H Q ⟨W, ρ, S, d, S', hw, hv, hg, k⟩
  obtain ⟨d', h1, h2⟩ := gVar_some hg
  cases h2
  obtain ⟨v, h3, h4⟩ := hv.loc i d h1
  refine ⟨v, h3, k v H W (.refl _ _) hw ?_⟩
  split at h4
  · obtain ⟨a, o, k1, k2, k3, k4, k5, k6⟩ := h4
    exact .inr ⟨a, o, k1, k2, k3, k4⟩
  · exact .inl h4
theorem ev_var {i : Nat} {x : Str} (hN : X.N[i]? = some x) (hv : Vis X.env.scope x) (hd : (x == ("__debug__" : Str)) = false) (hcd : (x == ("__classdict__" : Str)) = false) (hm : md i = .frz) : EV X C md H0 .frz (.Name x pos) (gVar i) :=
  ⟨PE.imp (pe_var hN hv hd hcd) (ti_var hm)⟩
theorem ev_bor {i : Nat} {x : Str} (hN : X.N[i]? = some x) (hv : Vis X.env.scope x) (hd : (x == ("__debug__" : Str)) = false) (hcd : (x == ("__classdict__" : Str)) = false) : EV X C md H0 .bor (.Name x pos) (gVar i) :=
  ⟨PE.imp (pe_var hN hv hd hcd) ti_bor⟩
/-! ### constants -/
def gC (d : D) : Gv := fun _ S => some (d, S)
theorem ti_c {d : D} {v : V} (h : ∀ W, Rep C W d v) : ∀ σ H Q, TI C md H0 .frz (gC d) σ H Q → tC v σ H Q := by
  intro σ H Q ⟨W, ρ, S, d', S', hw, hv, hg, k⟩
  cases hg
  exact k v H W (.refl _ _) hw (h W)
theorem ev_int {i : Int} {j : Nat} : EV X C md H0 .frz (.Constant (.int i) j pos) (gC (.int i)) := ⟨PE.imp pe_int (ti_c fun _ => rep_int i)⟩
theorem ev_bl {b : Bool} {j : Nat} : EV X C md H0 .frz (.Constant (.bool b) j pos) (gC (.bl b)) := ⟨PE.imp pe_bl (ti_c fun _ => rep_bl b)⟩
theorem ev_non {j : Nat} : EV X C md H0 .frz (.Constant .none j pos) (gC .non) := ⟨PE.imp pe_non (ti_c fun _ => rep_non)⟩
def ascB (s : List Nat) : Bool := (s.all fun c => c < 128) && decide (s.length ≤ LIM)
theorem asc_of {s : List Nat} (h : ascB s = true) : Asc s := by
  unfold ascB at h
  simp only [Bool.and_eq_true, List.all_eq_true, decide_eq_true_eq] at h
  exact h
theorem ev_str {x : Str} {j : Nat} (h : ascB x.cps.toList = true) : EV X C md H0 .frz (.Constant (.str x) j pos) (gC (.str x.cps.toList)) := by
  refine ⟨PE.imp pe_str (ti_c fun W => ?_)⟩
  have := rep_str (C := C) (W := W) (asc_of h)
  simpa using this
/-- a module's name that holds a fixed value -/
theorem ev_glob {x : Str} {d : D} {v : V} {u : Value} (hmg : X.mg = C.mg) (hg : Gl X x) (hm : C.mg x = some u) (r : RelV v u) (hr : ∀ W, Rep C W d v) (hd : (x == ("__debug__" : Str)) = false) : EV X C md H0 .frz (.Name x pos) (gC d) :=
  ⟨PE.imp (pe_glob hg (by rw [hmg]; exact hm) r hd) (ti_c hr)⟩

/-! ### operators -/
theorem ev_op2 {op : Operator} {f : D → D → Store → Option (D × Store)} (ha : EV X C md H0 .bor a ga) (hb : EV X C md H0 .bor b gb) (ho : ∃ r, OpR X (binaryOp op) r ∧ Op2 C mo r f) :
    EV X C md H0 mo (.BinOp a op b pos) (fun ρ S => bnd (ga ρ S) fun x S => bnd (gb ρ S) fun y S => f x y S) := by
  obtain ⟨r, h1, h2⟩ := ho
  exact ⟨PE.imp (pe_op h1 ha.pe hb.pe) (ti_op2 rfl rfl h2)⟩
theorem ev_cmp {op : CmpOp} {f : D → D → Store → Option (D × Store)} (ha : EV X C md H0 .bor a ga) (hb : EV X C md H0 .bor b gb) (ho : ∃ r, OpR X (compareOp op) r ∧ Op2 C mo r f) (hm : behindInMarks op b = false) :
    EV X C md H0 mo (.Compare a [op] [b] pos) (fun ρ S => bnd (ga ρ S) fun x S => bnd (gb ρ S) fun y S => f x y S) := by
  obtain ⟨r, h1, h2⟩ := ho
  exact ⟨PE.imp (pe_cmpR h1 ha.pe hb.pe hm) (ti_op2 rfl rfl h2)⟩
def negD (x : D) (S : Store) : Option (D × Store) := match x with
  | .int i => some (.int (-i), S)
  | _ => none
theorem ev_neg (ha : EV X C md H0 .bor a ga) : EV X C md H0 .frz (.UnaryOp .USub a pos) (fun ρ S => bnd (ga ρ S) fun x S => negD x S) := by
  refine ⟨PE.imp (pe_un un_neg ha.pe) (ti_op1 rfl fun W S H x dx d S' Q w hx hf k => ?_)⟩
  unfold negD at hf
  split at hf
  · cases hf
    exact ⟨_, rb_int hx, k _ _ W (.refl _ _) w (rep_int (C := C) (W := W) _)⟩
  · cases hf
def isnD (ng : Bool) (x : D) (S : Store) : Option (D × Store) := match x with
  | .non => some (.bl (!ng), S)
  | _ => some (.bl ng, S)
theorem rep_ne_non {W : Wd} {H : Hp} {S : Store} {d : D} (w : SW C W S H) (h : RepB C W H d .non) : d = .non := by
  rcases h with h | ⟨a, o, h1, _⟩
  · cases d with
    | non => rfl
    | bl b => rw [Rep] at h; cases h
    | int b => rw [Rep] at h; cases h
    | str b => rw [Rep] at h; cases h.1
    | tup b => rw [Rep] at h; obtain ⟨_, _, h, _⟩ := h; cases h
    | lst b => rw [Rep] at h; obtain ⟨_, _, h, _⟩ := h; cases h
    | ro b => rw [Rep] at h; obtain ⟨_, _, h, _⟩ := h; cases h
    | dct b => rw [Rep] at h; obtain ⟨_, _, h, _⟩ := h; cases h
    | obj b => rw [Rep] at h; obtain ⟨_, h, _⟩ := h; cases h
    | fn i cs =>
      rw [Rep] at h
      split at h
      · obtain ⟨_, _, h, _⟩ := h; cases h
      · obtain ⟨_, _, _, _, _, _, _, h, _⟩ := h; cases h
      · exact h.elim
  · cases h1
theorem ti_isn {ng : Bool} {t : TE} (ht : t = if ng then tNotN (TI C md H0 .bor ga) else tIsN (TI C md H0 .bor ga)) : ∀ σ H Q, TI C md H0 .frz (fun ρ S => bnd (ga ρ S) fun x S => isnD ng x S) σ H Q → t σ H Q := by
  intro σ H Q ⟨W, ρ, S, d, S', hw, hv, hg, k⟩
  obtain ⟨dx, S1, g1, hg⟩ := bnd_eq hg
  have fin : ∀ x H1 W1, Ext W H W1 H1 → SW C W1 S1 H1 → RepB C W1 H1 dx x → Q (.bl (ng ^^ decide (x = .non))) H1 := fun x H1 W1 e w p => by
    unfold isnD at hg
    split at hg
    · cases hg
      have := rb_non p
      subst this
      have z := k (.bl (!ng)) H1 W1 e w (rep_bl (C := C) (W := W1) _)
      cases ng <;> simpa using z
    · rename_i hne
      cases hg
      have n : x ≠ .non := fun z => by
        subst z
        exact hne (rep_ne_non w p)
      rw [decide_eq_false n]
      have z := k (.bl ng) H1 W1 e w (rep_bl (C := C) (W := W1) _)
      simpa using z
  subst ht
  cases ng with
  | true => exact ⟨W, ρ, S, dx, S1, hw, hv, g1, fun x H1 W1 e1 w1 p1 => by simpa using fin x H1 W1 e1 w1 p1⟩
  | false => exact ⟨W, ρ, S, dx, S1, hw, hv, g1, fun x H1 W1 e1 w1 p1 => by simpa using fin x H1 W1 e1 w1 p1⟩
theorem ev_isN {j pos'} (ha : EV X C md H0 .bor a ga) : EV X C md H0 .frz (.Compare a [.Is] [.Constant .none j pos'] pos) (fun ρ S => bnd (ga ρ S) fun x S => isnD false x S) :=
  ⟨PE.imp (pe_cmp (pc_isN ha.pe) rfl) (ti_isn rfl)⟩
theorem ev_notN {j pos'} (ha : EV X C md H0 .bor a ga) : EV X C md H0 .frz (.Compare a [.IsNot] [.Constant .none j pos'] pos) (fun ρ S => bnd (ga ρ S) fun x S => isnD true x S) :=
  ⟨PE.imp (pe_cmp (pc_notN ha.pe) rfl) (ti_isn rfl)⟩

/-! ### tests: a reading of truth -/
def TT' (C : Cst) (md : Nat → Mo) (H0 : Hp) (g : Gv) : TT := fun σ H Q =>
  ∃ W ρ S b S', SW C W S H ∧ SV C md W ρ σ H H0 ∧ g ρ S = some (.bl b, S') ∧ ∀ H' W', Ext W H W' H' → SW C W' S' H' → Q b H'
structure ET (X : Cx) (C : Cst) (md : Nat → Mo) (H0 : Hp) (e : Expr) (g : Gv) : Prop where
  pt : PT X e (TT' C md H0 g)
structure EW (X : Cx) (C : Cst) (md : Nat → Mo) (H0 : Hp) (e : Expr) (g : Gv) : Prop where
  pw : PW X e (TT' C md H0 g)
theorem EW.et {g : Gv} (h : EW X C md H0 e g) : ET X C md H0 e g := ⟨h.pw.pt⟩
theorem rep_b {W W' : Wd} {H H' : Hp} {v : V} {b : Bool} (h : Post C .frz W H W' H' (.bl b) v) : v = .bl b := by
  have h : Rep C W' (.bl b) v := h
  rw [Rep] at h; exact h
theorem tt_tb {g : Gv} {t : TE} (ht : t = TI C md H0 .frz g) : ∀ σ H Q, TT' C md H0 g σ H Q → tB t σ H Q := by
  intro σ H Q ⟨W, ρ, S, b, S', hw, hv, hg, k⟩
  subst ht
  exact ⟨W, ρ, S, _, S', hw, hv, hg, fun v H' W' e w p => ⟨b, rep_b p, k H' W' e w⟩⟩
/-- any expression that is no and, or, not, comparison -/
theorem et_val {g : Gv} (h : EV X C md H0 .frz e g) (he : ∀ whole, isTrue e X.env whole = (do let v ← whole; standAt e.pos; holding [v] (truthy v))) : ET X C md H0 e g :=
  ⟨PT.imp (pt_val h.pe he) (tt_tb rfl)⟩
theorem tt_cmp {mo : Mo} {ta tb : TE} {r : R2} {f : D → D → Store → Option (D × Store)} (ha : ta = TI C md H0 .bor ga) (hb : tb = TI C md H0 .bor gb) (ho : Op2 C .frz r f) :
    ∀ σ H Q, TT' C md H0 (fun ρ S => bnd (ga ρ S) fun x S => bnd (gb ρ S) fun y S => f x y S) σ H Q → tTest (tOp r ta tb) σ H Q := by
  intro σ H Q ⟨W, ρ, S, b, S', hw, hv, hg, k⟩
  exact ti_op2 (mo := .frz) ha hb ho σ H _ ⟨W, ρ, S, _, S', hw, hv, hg, fun v H' W' e w p => ⟨b, rep_b p, k H' W' e w⟩⟩
theorem et_cmp {op : CmpOp} {f : D → D → Store → Option (D × Store)} (ha : EV X C md H0 .bor a ga) (hb : EV X C md H0 .bor b gb) (ho : ∃ r, OpR X (compareOp op) r ∧ Op2 C .frz r f) (hm : behindInMarks op b = false) :
    ET X C md H0 (.Compare a [op] [b] pos) (fun ρ S => bnd (ga ρ S) fun x S => bnd (gb ρ S) fun y S => f x y S) := by
  obtain ⟨r, h1, h2⟩ := ho
  exact ⟨PT.imp (pt_cmpR h1 ha.pe hb.pe hm) (tt_cmp (mo := .frz) rfl rfl h2)⟩
theorem tt_isn {ng : Bool} {t : TE} (ht : t = if ng then tNotN (TI C md H0 .bor ga) else tIsN (TI C md H0 .bor ga)) : ∀ σ H Q, TT' C md H0 (fun ρ S => bnd (ga ρ S) fun x S => isnD ng x S) σ H Q → tB t σ H Q := by
  intro σ H Q ⟨W, ρ, S, b, S', hw, hv, hg, k⟩
  exact ti_isn ht σ H _ ⟨W, ρ, S, _, S', hw, hv, hg, fun v H' W' e w p => ⟨b, rep_b p, k H' W' e w⟩⟩
theorem et_isN {j pos'} (ha : EV X C md H0 .bor a ga) : ET X C md H0 (.Compare a [.Is] [.Constant .none j pos'] pos) (fun ρ S => bnd (ga ρ S) fun x S => isnD false x S) :=
  ⟨PT.imp (pt_cmp (pc_isN ha.pe) rfl) (tt_isn rfl)⟩
theorem et_notN {j pos'} (ha : EV X C md H0 .bor a ga) : ET X C md H0 (.Compare a [.IsNot] [.Constant .none j pos'] pos) (fun ρ S => bnd (ga ρ S) fun x S => isnD true x S) :=
  ⟨PT.imp (pt_cmp (pc_notN ha.pe) rfl) (tt_isn rfl)⟩
/-! ### and, or, not, a if c else b -/
def gAnd (ga gb : Gv) : Gv := fun ρ S => bnd (ga ρ S) fun x S => match dBl x with
  | some true => bnd (gb ρ S) fun y S => (dBl y).map fun c => (.bl c, S)
  | some false => some (.bl false, S)
  | none => none
def gOr (ga gb : Gv) : Gv := fun ρ S => bnd (ga ρ S) fun x S => match dBl x with
  | some true => some (.bl true, S)
  | some false => bnd (gb ρ S) fun y S => (dBl y).map fun c => (.bl c, S)
  | none => none
def gNot (ga : Gv) : Gv := fun ρ S => bnd (ga ρ S) fun x S => (dBl x).map fun b => (.bl (!b), S)
def gIte (gc ga gb : Gv) : Gv := fun ρ S => bnd (gc ρ S) fun x S => match dBl x with
  | some true => ga ρ S
  | some false => gb ρ S
  | none => none
theorem dBl_some {x : D} {b : Bool} (h : dBl x = some b) : x = .bl b := by
  unfold dBl at h
  split at h
  · cases h; rfl
  · cases h
theorem gAnd_some {ρ : Envr} {S : Store} {z : D × Store} (h : gAnd ga gb ρ S = some z) : ∃ b S1, ga ρ S = some (.bl b, S1) ∧ ((b = false ∧ z = (.bl false, S1)) ∨ (b = true ∧ ∃ c S2, gb ρ S1 = some (.bl c, S2) ∧ z = (.bl c, S2))) := by
  obtain ⟨x, S1, h1, h⟩ := bnd_eq h
  split at h
  · rename_i hb
    rw [dBl_some hb] at h1
    obtain ⟨y, S2, h2, h⟩ := bnd_eq h
    obtain ⟨c, h3, h4⟩ := map_eq h
    rw [dBl_some h3] at h2
    exact ⟨true, S1, h1, .inr ⟨rfl, c, S2, h2, h4.symm⟩⟩
  · rename_i hb
    rw [dBl_some hb] at h1
    cases h
    exact ⟨false, S1, h1, .inl ⟨rfl, rfl⟩⟩
  · cases h
theorem gOr_some {ρ : Envr} {S : Store} {z : D × Store} (h : gOr ga gb ρ S = some z) : ∃ b S1, ga ρ S = some (.bl b, S1) ∧ ((b = true ∧ z = (.bl true, S1)) ∨ (b = false ∧ ∃ c S2, gb ρ S1 = some (.bl c, S2) ∧ z = (.bl c, S2))) := by
  obtain ⟨x, S1, h1, h⟩ := bnd_eq h
  split at h
  · rename_i hb
    rw [dBl_some hb] at h1
    cases h
    exact ⟨true, S1, h1, .inl ⟨rfl, rfl⟩⟩
  · rename_i hb
    rw [dBl_some hb] at h1
    obtain ⟨y, S2, h2, h⟩ := bnd_eq h
    obtain ⟨c, h3, h4⟩ := map_eq h
    rw [dBl_some h3] at h2
    exact ⟨false, S1, h1, .inr ⟨rfl, c, S2, h2, h4.symm⟩⟩
  · cases h
theorem gNot_some {ρ : Envr} {S : Store} {z : D × Store} (h : gNot ga ρ S = some z) : ∃ b S1, ga ρ S = some (.bl b, S1) ∧ z = (.bl (!b), S1) := by
  obtain ⟨x, S1, h1, h⟩ := bnd_eq h
  obtain ⟨b, h2, h3⟩ := map_eq h
  rw [dBl_some h2] at h1
  exact ⟨b, S1, h1, h3.symm⟩
theorem gIte_some {ρ : Envr} {S : Store} {z : D × Store} (h : gIte gc ga gb ρ S = some z) : ∃ b S1, gc ρ S = some (.bl b, S1) ∧ (if b then ga ρ S1 else gb ρ S1) = some z := by
  obtain ⟨x, S1, h1, h⟩ := bnd_eq h
  split at h
  · rename_i hb
    rw [dBl_some hb] at h1
    exact ⟨true, S1, h1, h⟩
  · rename_i hb
    rw [dBl_some hb] at h1
    exact ⟨false, S1, h1, h⟩
  · cases h
variable {rest : List Expr}
theorem ev_and (ha : EV X C md H0 .frz a ga) (hb : EV X C md H0 .frz (.BoolOp .And (b :: rest) pos) gb) : EV X C md H0 .frz (.BoolOp .And (a :: b :: rest) pos) (gAnd ga gb) := by
  refine ⟨PE.imp (pe_and ha.pe hb.pe) fun σ H Q ⟨W, ρ, S, d, S', hw, hv, hg, k⟩ => ?_⟩
  obtain ⟨c, S1, h1, h2⟩ := gAnd_some hg
  refine ⟨W, ρ, S, _, S1, hw, hv, h1, fun x H1 W1 e1 w1 p1 => ⟨c, rep_b p1, ?_⟩⟩
  rcases h2 with ⟨rfl, z⟩ | ⟨rfl, c2, S2, h3, z⟩
  · cases z
    exact k _ H1 W1 e1 w1 (rep_bl (C := C) (W := W1) _)
  · cases z
    exact ⟨W1, ρ, _, _, _, w1, hv.ext e1, h3, fun v H' W' e w p => k v H' W' (e1.trans e) w p⟩
theorem ev_or (ha : EV X C md H0 .frz a ga) (hb : EV X C md H0 .frz (.BoolOp .Or (b :: rest) pos) gb) : EV X C md H0 .frz (.BoolOp .Or (a :: b :: rest) pos) (gOr ga gb) := by
  refine ⟨PE.imp (pe_or ha.pe hb.pe) fun σ H Q ⟨W, ρ, S, d, S', hw, hv, hg, k⟩ => ?_⟩
  obtain ⟨c, S1, h1, h2⟩ := gOr_some hg
  refine ⟨W, ρ, S, _, S1, hw, hv, h1, fun x H1 W1 e1 w1 p1 => ⟨c, rep_b p1, ?_⟩⟩
  rcases h2 with ⟨rfl, z⟩ | ⟨rfl, c2, S2, h3, z⟩
  · cases z
    exact k _ H1 W1 e1 w1 (rep_bl (C := C) (W := W1) _)
  · cases z
    exact ⟨W1, ρ, _, _, _, w1, hv.ext e1, h3, fun v H' W' e w p => k v H' W' (e1.trans e) w p⟩
theorem ev_not (ha : EV X C md H0 .frz a ga) : EV X C md H0 .frz (.UnaryOp .Not a pos) (gNot ga) := by
  refine ⟨PE.imp (pe_not ha.pe) fun σ H Q ⟨W, ρ, S, d, S', hw, hv, hg, k⟩ => ?_⟩
  obtain ⟨c, S1, h1, h2⟩ := gNot_some hg
  cases h2
  exact ⟨W, ρ, S, _, _, hw, hv, h1, fun x H1 W1 e1 w1 p1 => ⟨c, rep_b p1, k _ H1 W1 e1 w1 (rep_bl (C := C) (W := W1) _)⟩⟩
theorem ev_one {op : BoolOp} (ha : EV X C md H0 .frz a ga) : EV X C md H0 .frz (.BoolOp op [a] pos) ga := ⟨pe_one ha.pe⟩
theorem ev_ite (hc : ET X C md H0 c gc) (ha : EV X C md H0 mo a ga) (hb : EV X C md H0 mo b gb) : EV X C md H0 mo (.IfExp c a b pos) (gIte gc ga gb) := by
  refine ⟨PE.imp (pe_ifExp hc.pt ha.pe hb.pe) fun σ H Q ⟨W, ρ, S, d, S', hw, hv, hg, k⟩ => ?_⟩
  obtain ⟨b, S1, h1, h2⟩ := gIte_some hg
  refine ⟨W, ρ, S, b, S1, hw, hv, h1, fun H1 W1 e1 w1 => ?_⟩
  cases b with
  | true => exact ⟨W1, ρ, S1, d, S', w1, hv.ext e1, by simpa using h2, fun v H' W' e w p => k v H' W' (e1.trans e) w (Post.base e1 p)⟩
  | false => exact ⟨W1, ρ, S1, d, S', w1, hv.ext e1, by simpa using h2, fun v H' W' e w p => k v H' W' (e1.trans e) w (Post.base e1 p)⟩
theorem et_not (ha : ET X C md H0 a ga) : ET X C md H0 (.UnaryOp .Not a pos) (gNot ga) := by
  refine ⟨PT.imp (pt_not ha.pt) fun σ H Q ⟨W, ρ, S, d, S', hw, hv, hg, k⟩ => ?_⟩
  obtain ⟨c, S1, h1, h2⟩ := gNot_some hg
  cases h2
  exact ⟨W, ρ, S, _, _, hw, hv, h1, fun H1 W1 e1 w1 => k H1 W1 e1 w1⟩
theorem ew_and1 (ha : ET X C md H0 a ga) : EW X C md H0 (.BoolOp .And [a] pos) ga := ⟨pw_and1 ha.pt⟩
theorem ew_or1 (ha : ET X C md H0 a ga) : EW X C md H0 (.BoolOp .Or [a] pos) ga := ⟨pw_or1 ha.pt⟩
theorem ew_and (ha : ET X C md H0 a ga) (hb : EW X C md H0 (.BoolOp .And (b :: rest) pos) gb) : EW X C md H0 (.BoolOp .And (a :: b :: rest) pos) (gAnd ga gb) := by
  refine ⟨PW.imp (pw_and ha.pt hb.pw) fun σ H Q ⟨W, ρ, S, d, S', hw, hv, hg, k⟩ => ?_⟩
  obtain ⟨c, S1, h1, h2⟩ := gAnd_some hg
  refine ⟨W, ρ, S, _, S1, hw, hv, h1, fun H1 W1 e1 w1 => ?_⟩
  rcases h2 with ⟨rfl, z⟩ | ⟨rfl, c2, S2, h3, z⟩
  · cases z
    exact k H1 W1 e1 w1
  · cases z
    exact ⟨W1, ρ, _, _, _, w1, hv.ext e1, h3, fun H' W' e w => k H' W' (e1.trans e) w⟩
theorem ew_or (ha : ET X C md H0 a ga) (hb : EW X C md H0 (.BoolOp .Or (b :: rest) pos) gb) : EW X C md H0 (.BoolOp .Or (a :: b :: rest) pos) (gOr ga gb) := by
  refine ⟨PW.imp (pw_or ha.pt hb.pw) fun σ H Q ⟨W, ρ, S, d, S', hw, hv, hg, k⟩ => ?_⟩
  obtain ⟨c, S1, h1, h2⟩ := gOr_some hg
  refine ⟨W, ρ, S, _, S1, hw, hv, h1, fun H1 W1 e1 w1 => ?_⟩
  rcases h2 with ⟨rfl, z⟩ | ⟨rfl, c2, S2, h3, z⟩
  · cases z
    exact k H1 W1 e1 w1
  · cases z
    exact ⟨W1, ρ, _, _, _, w1, hv.ext e1, h3, fun H' W' e w => k H' W' (e1.trans e) w⟩
end
end MT

set_option maxRecDepth 100000
set_option maxHeartbeats 1000000
/-! MTg: rows of arguments, displays, places, slices. -/
namespace MT
open PySem PySem.Spec PyProof.Rows L2

/-! ### the text's forms -/
def isStar : Expr → Bool
  | .Starred .. => true
  | _ => false
theorem starEach_ns {e : Expr} {es : List Expr} {env : Env} (h : isStar e = false) : starEach (e :: es) env = (false, eval e env) :: starEach es env := by
  cases e <;> first | rfl | cases h
def noStar (es : List Expr) : Bool := es.all fun e => !isStar e
theorem noStar_cons {e : Expr} {es : List Expr} (h : noStar (e :: es) = true) : isStar e = false ∧ noStar es = true := by
  unfold noStar at h ⊢
  simpa using h
theorem backTo_plain {pos : Pos} {env : Env} : ∀ {es : List Expr}, noStar es = true → (backTo pos (starEach es env)).any (·.1) = false
  | [], _ => rfl
  | e :: es, h => by
    obtain ⟨h1, h2⟩ := noStar_cons h
    rw [starEach_ns h1]
    show ((false || (backTo pos (starEach es env)).any (·.1))) = false
    rw [backTo_plain h2]
    rfl
def isSuper : Expr → Bool
  | .Call (.Name id _) [] [] _ => id == ("super" : Str)
  | _ => false
theorem attrBase {o : Expr} {m : Str} {env : Env} {wh : Sem Value} (h : isSuper o = false) : attributeBase o m env wh = wh := by
  unfold attributeBase
  split
  · rename_i id pos1 pos
    have h : (id == ("super" : Str)) = false := h
    rw [if_pos (by simp [bne, h])]
  · rfl
def isSl : Expr → Bool
  | .Slice .. => true
  | _ => false
theorem plainIx {b : Expr} (h : isSl b = false) : PlainIx b := fun o i => by
  cases b <;> first | rfl | cases h

section
variable {X : Cx} {C : Cst} {md : Nat → Mo} {H0 : Hp} {mo : Mo} {a b c e : Expr} {es : List Expr} {pos : Pos} {ga gb gc : Gv}
/-! ### rows of expressions -/
abbrev Gl' := Envr → Store → Option (List D × Store)
def TL (C : Cst) (md : Nat → Mo) (H0 : Hp) (g : Gl') : TA := fun σ H Q =>
  ∃ W ρ S ds S', SW C W S H ∧ SV C md W ρ σ H H0 ∧ g ρ S = some (ds, S') ∧ ∀ vs H' W', Ext W H W' H' → SW C W' S' H' → RepL C W' ds vs → Q vs H'
structure EL (X : Cx) (C : Cst) (md : Nat → Mo) (H0 : Hp) (es : List Expr) (g : Gl') : Prop where
  pa : PA X es (TL C md H0 g)
def glNil : Gl' := fun _ S => some ([], S)
def glCons (ga : Gv) (gl : Gl') : Gl' := fun ρ S => bnd (ga ρ S) fun x S => bnd (gl ρ S) fun xs S => some (x :: xs, S)
def glStar (ga : Gv) (gl : Gl') : Gl' := fun ρ S => bnd (ga ρ S) fun x S => (starD x).bind fun ys => bnd (gl ρ S) fun xs S => some (ys ++ xs, S)
theorem el_nil : EL X C md H0 [] glNil := ⟨PA.imp pa_nil fun σ H Q ⟨W, ρ, S, ds, S', hw, hv, hg, k⟩ => by
  cases hg
  exact k [] H W (.refl _ _) hw .nil⟩
theorem el_cons {gl : Gl'} (ha : EV X C md H0 .frz e ga) (hl : EL X C md H0 es gl) (hs : isStar e = false) : EL X C md H0 (e :: es) (glCons ga gl) := by
  refine ⟨PA.imp (pa_cons ha.pe hl.pa (starEach_ns hs)) fun σ H Q ⟨W, ρ, S, ds, S', hw, hv, hg, k⟩ => ?_⟩
  obtain ⟨x, S1, h1, hg⟩ := bnd_eq hg
  obtain ⟨xs, S2, h2, hg⟩ := bnd_eq hg
  cases hg
  refine ⟨W, ρ, S, x, S1, hw, hv, h1, fun v H1 W1 e1 w1 p1 => ⟨W1, ρ, S1, xs, _, w1, hv.ext e1, h2, fun vs H2 W2 e2 w2 p2 => ?_⟩⟩
  exact k (v :: vs) H2 W2 (e1.trans e2) w2 (.cons (Rep.mono e2.w _ _ p1) p2)
theorem el_star {gl : Gl'} {p : Pos} (hK : X.K = C.K) (ha : EV X C md H0 .bor e ga) (hl : EL X C md H0 es gl) : EL X C md H0 (.Starred e p :: es) (glStar ga gl) := by
  refine ⟨PA.imp (StX.pa_star ha.pe hl.pa rfl) fun σ H Q ⟨W, ρ, S, ds, S', hw, hv, hg, k⟩ => ?_⟩
  obtain ⟨x, S1, h1, hg⟩ := bnd_eq hg
  obtain ⟨ys, hy, hg⟩ := Option.bind_eq_some_iff.mp hg
  obtain ⟨xs, S2, h2, hg⟩ := bnd_eq hg
  cases hg
  refine ⟨W, ρ, S, x, S1, hw, hv, h1, fun v H1 W1 e1 w1 p1 => ?_⟩
  cases x with
  | lst l =>
    cases hy
    obtain ⟨p, us, rfl, hp, r⟩ := rb_lst w1 p1
    refine ⟨p, us, rfl, .inr (SqL.of hp), W1, ρ, S1, xs, _, w1, hv.ext e1, h2, fun vs H2 W2 e2 w2 p2 => ?_⟩
    exact k (us ++ vs) H2 W2 (e1.trans e2) w2 ((RepL.mono e2.w _ _ r).append p2)
  | tup l =>
    cases hy
    obtain ⟨p, us, rfl, hp, r⟩ := rb_tup w1 p1
    refine ⟨p, us, rfl, .inl (by rw [hK]; exact hp), W1, ρ, S1, xs, _, w1, hv.ext e1, h2, fun vs H2 W2 e2 w2 p2 => ?_⟩
    exact k (us ++ vs) H2 W2 (e1.trans e2) w2 ((RepL.mono e2.w _ _ r).append p2)
  | _ => cases hy
/-! ### displays -/
def gTup (gl : Gl') : Gv := fun ρ S => bnd (gl ρ S) fun ds S => if ds.length ≤ LIM then some (.tup ds, S) else none
def gLst (gl : Gl') : Gv := fun ρ S => bnd (gl ρ S) fun ds S => if ds.length ≤ LIM then some (.lst ds, S) else none
theorem ev_tup {gl : Gl'} {x1} (h : EL X C md H0 es gl) : EV X C md H0 .frz (.Tuple es x1 pos) (gTup gl) := by
  refine ⟨PE.imp (pe_tup h.pa) fun σ H Q ⟨W, ρ, S, d, S', hw, hv, hg, k⟩ => ?_⟩
  obtain ⟨ds, S1, h1, hg⟩ := bnd_eq hg
  by_cases hl : ds.length ≤ LIM
  · rw [if_pos hl] at hg
    cases hg
    refine ⟨W, ρ, S, ds, _, hw, hv, h1, fun vs H1 W1 e1 w1 p1 => ⟨by rw [← p1.length]; exact lim_line hl, fun p hp => ?_⟩⟩
    exact new_tup w1 hp p1 fun v H' W' e w r => k v H' W' (e1.trans e) w r
  · rw [if_neg hl] at hg
    cases hg
theorem ev_lst {gl : Gl'} (h : EL X C md H0 es gl) : EV X C md H0 .own (.List es pos) (gLst gl) := by
  refine ⟨PE.imp (pe_lst h.pa) fun σ H Q ⟨W, ρ, S, d, S', hw, hv, hg, k⟩ => ?_⟩
  obtain ⟨ds, S1, h1, hg⟩ := bnd_eq hg
  by_cases hl : ds.length ≤ LIM
  · rw [if_pos hl] at hg
    cases hg
    refine ⟨W, ρ, S, ds, _, hw, hv, h1, fun vs H1 W1 e1 w1 p1 => ⟨by rw [← p1.length]; exact lim_line hl, fun p hp => ?_⟩⟩
    exact new_lst w1 hp p1 fun v H' W' e w r => k v H' W' (e1.trans e) w (Post.base e1 r)
  · rw [if_neg hl] at hg
    cases hg
theorem ev_dct0 : EV X C md H0 .own (.Dict [] [] pos) (gC (.dct [])) := by
  refine ⟨PE.imp pe_dnewK fun σ H Q ⟨W, ρ, S, d, S', hw, hv, hg, k⟩ => ?_⟩
  cases hg
  intro p hp
  exact new_dct hw hp (by rw [RepP]) k
/-! ### changing objects made here -/
theorem add_obj {W : Wd} {S : Store} {H : Hp} {a : Addr} {o : HO} {ob : Ob} (w : SW C W S H) (ha : H a = none) (ht : ∀ ps, o ≠ .tbl ps) (r : RepO C W ob o) (hc : ∀ c q, o ≠ LamX.CodeO c q := by intro c q z; unfold LamX.CodeO at z; cases z) :
    Ext W H ⟨W.F, W.m ++ [a]⟩ (upd H a o) ∧ SW C ⟨W.F, W.m ++ [a]⟩ (S ++ [ob]) (upd H a o) ∧ Rep C ⟨W.F, W.m ++ [a]⟩ (.obj S.length) (.ref a) := by
  have le : WLe W ⟨W.F, W.m ++ [a]⟩ := ⟨.refl _, fun n x e => by rw [List.getElem?_append_left (List.getElem?_eq_some_iff.mp e).1]; exact e⟩
  have e0 := new_ext (W := W) (o := o) ha
  have w0 := new_sw (o := o) w ha ht hc
  have nm := w.notm ha
  have at_ : (W.m ++ [a])[S.length]? = some a := by rw [← w.len]; simp
  refine ⟨⟨le, e0.keep, e0.dom, fun x hx => ?_, e0.fnew⟩, ⟨fun b u q => ?_, w0.tabs, w0.codes, ?_, by simp [w.len], fun n u q => ?_⟩, by rw [Rep]; exact ⟨a, rfl, at_⟩⟩
  · rcases List.mem_append.mp hx with z | z
    · exact .inl z
    · rw [List.mem_singleton.mp z]; exact .inr ha
  · obtain ⟨q1, q2, q3⟩ := w0.sub b u q
    refine ⟨q1, fun z => ?_, q3⟩
    rcases List.mem_append.mp z with z | z
    · exact q2 z
    · rw [List.mem_singleton.mp z, w.notF ha] at q
      cases q
  · refine List.nodup_append.mpr ⟨w.nd, by simp, fun x hx y hy => ?_⟩
    rw [List.mem_singleton.mp hy]
    rintro rfl
    exact nm hx
  · by_cases hn : n < S.length
    · rw [List.getElem?_append_left hn] at q
      obtain ⟨x, y, h1, h2, h3⟩ := w0.st n u q
      exact ⟨x, y, le.m n x h1, h2, RepO.mono le h3⟩
    · have hn2 : n = S.length := by
        have := (List.getElem?_eq_some_iff.mp q).1
        simp at this
        omega
      subst hn2
      rw [List.getElem?_append_right (Nat.le_refl _)] at q
      simp at q
      subst q
      exact ⟨a, o, at_, upd_same, RepO.mono le r⟩
def gNewl (gl : Gl') : Gv := fun ρ S => bnd (gl ρ S) fun ds S => if ds.length ≤ LIM then some (.obj S.length, S ++ [.lst ds]) else none
def gNewd : Gv := fun _ S => some (.obj S.length, S ++ [.dct []])
theorem ev_newl {gl : Gl'} (h : EL X C md H0 es gl) : EV X C md H0 .frz (.List es pos) (gNewl gl) := by
  refine ⟨PE.imp (pe_lst h.pa) fun σ H Q ⟨W, ρ, S, d, S', hw, hv, hg, k⟩ => ?_⟩
  obtain ⟨ds, S1, h1, hg⟩ := bnd_eq hg
  by_cases hl : ds.length ≤ LIM
  · rw [if_pos hl] at hg
    cases hg
    refine ⟨W, ρ, S, ds, S1, hw, hv, h1, fun vs H1 W1 e1 w1 p1 => ⟨by rw [← p1.length]; exact lim_line hl, fun p hp => ?_⟩⟩
    obtain ⟨x1, x2, x3⟩ := add_obj (ob := .lst ds) (o := .lst vs) w1 hp (fun _ z => by cases z) ⟨vs, rfl, p1⟩
    exact k _ _ _ (e1.trans x1) x2 x3
  · rw [if_neg hl] at hg
    cases hg
theorem ev_newd : EV X C md H0 .frz (.Dict [] [] pos) gNewd := by
  refine ⟨PE.imp pe_dnewK fun σ H Q ⟨W, ρ, S, d, S', hw, hv, hg, k⟩ => ?_⟩
  cases hg
  intro p hp
  obtain ⟨x1, x2, x3⟩ := add_obj (ob := .dct []) (o := .dK []) hw hp (fun _ z => by cases z) ⟨[], rfl, by rw [RepP]⟩
  exact k _ _ _ x1 x2 x3
/-! ### places -/
theorem ixn_eq : ixn = ixN := rfl
theorem atD_get {W : Wd} {l : List D} {xs : List V} {i : Int} {d : D} (r : RepL C W l xs) (h : atD l i = some d) : ∃ v, atI xs i = some v ∧ Rep C W d v := by
  unfold atD at h
  obtain ⟨j, h1, h2⟩ := Option.bind_eq_some_iff.mp h
  obtain ⟨v, h3, h4⟩ := r.get h2
  refine ⟨v, ?_, h4⟩
  unfold atI
  rw [← r.length, ← ixn_eq, h1]
  exact h3
theorem repP_get {W : Wd} : ∀ {ps : List (D × D)} {kvs : List (Key × V)} {k : D} {k' : Key}, RepP C W ps kvs → RepK k k' → (∀ d, dGet k ps = some d → ∃ v, valV kvs k' = some v ∧ Rep C W d v) ∧ (dGet k ps = none → valV kvs k' = none)
  | [], kvs, k, k', h, _ => by
    rw [RepP] at h
    subst h
    exact ⟨fun d e => (nomatch (show (none : Option D) = some d from e)), fun _ => rfl⟩
  | (k1, d1) :: ps, kvs, k, k', h, hk => by
    rw [RepP] at h
    obtain ⟨k2, v, r, h1, h2, h3, h4⟩ := h
    subst h1
    obtain ⟨i1, i2⟩ := repP_get h4 hk
    have key : kEq k k1 = true ↔ k2 = k' := by
      cases k with
      | int i =>
        have hk : k' = .inl i := hk
        cases k1 with
        | int j =>
          have h2 : k2 = .inl j := h2
          subst hk h2
          show (i == j) = true ↔ _
          rw [beq_iff_eq]
          exact ⟨fun e => by rw [e], fun e => (Sum.inl.inj e).symm⟩
        | str t =>
          have h2 : k2 = .inr ⟨t.toArray⟩ ∧ Asc t := h2
          subst hk
          rw [h2.1]
          exact ⟨fun e => (by cases e), fun e => (by cases e)⟩
        | _ => exact h2.elim
      | str s =>
        have hk : k' = .inr ⟨s.toArray⟩ ∧ Asc s := hk
        cases k1 with
        | int j =>
          have h2 : k2 = .inl j := h2
          rw [hk.1, h2]
          exact ⟨fun e => (by cases e), fun e => (by cases e)⟩
        | str t =>
          have h2 : k2 = .inr ⟨t.toArray⟩ ∧ Asc t := h2
          rw [hk.1, h2.1]
          show decide (s = t) = true ↔ _
          rw [decide_eq_true_eq]
          refine ⟨fun e => by rw [e], fun e => ?_⟩
          have := congrArg (fun z : Str => z.cps.toList) (Sum.inr.inj e)
          simpa using this.symm
        | _ => exact h2.elim
      | _ => exact hk.elim
    by_cases e : kEq k k1 = true
    · have e2 := key.mp e
      refine ⟨fun d hd => ?_, fun hd => ?_⟩
      · have hd : (if kEq k k1 then some d1 else dGet k ps) = some d := hd
        rw [if_pos e] at hd
        cases hd
        exact ⟨v, valV_pos e2, h3⟩
      · have hd : (if kEq k k1 then some d1 else dGet k ps) = none := hd
        rw [if_pos e] at hd
        cases hd
    · have e2 : ¬ k2 = k' := fun z => e (key.mpr z)
      refine ⟨fun d hd => ?_, fun hd => ?_⟩
      · have hd : (if kEq k k1 then some d1 else dGet k ps) = some d := hd
        rw [if_neg e] at hd
        rw [valV_neg (p := (k2, v)) e2]
        exact i1 d hd
      · have hd : (if kEq k k1 then some d1 else dGet k ps) = none := hd
        rw [if_neg e] at hd
        rw [valV_neg (p := (k2, v)) e2]
        exact i2 hd
theorem rb_key {W : Wd} {H : Hp} {k : D} {v : V} (hk : isKey k = true) (h : RepB C W H k v) : ∃ k', RepK k k' ∧ v = kV k' := by
  cases k with
  | int i => exact ⟨.inl i, rfl, rb_int h⟩
  | str s =>
    obtain ⟨h1, h2⟩ := rb_str h
    exact ⟨.inr ⟨s.toArray⟩, ⟨rfl, h2⟩, h1⟩
  | _ => cases hk
def rIxD : R2 := fun x y H Q => ∃ a v, x = .ref a ∧ DGet H a y (some v) ∧ Q v H
theorem ix_dict (hu : X.A.units + 1 < cLine) : IxR X rIxD := by
  intro value slice pins s σ H x y v u Q I rx ry h hs
  obtain ⟨a, w', rfl, g, q⟩ := h
  obtain rfl : v = Value.ref a := rx
  refine subscriptTail_any_dict I g hs (d_getItem hu I g ry fun w2 s3 I3 rw2 => ⟨w', H, I3, rw2, q⟩)
where
  subscriptTail_any_dict {pins : List (Addr × Obj)} {s : Shared} {σ : L2.St} {H : Hp} {a : Addr} {y : V} {o : Option V} {value slice : Expr} {u : Value} {Q : Value → Shared → Prop} (I : Inv X pins σ H s) (g : DGet H a y o)
      (hs : subscripted slice false (.ref a) u = operate [.ref a, u] (getItem (.ref a) u)) (h : wpAny (model X.prog X.w) X.A (getItem (.ref a) u) Q X.xe s) : wpAny (model X.prog X.w) X.A (subscriptTail value slice (.ref a) u) Q X.xe s :=
    tail_any (dict_typeIs I g) PySem.F.slot_dict_getitem.lookup h hs
def ixF (x y : D) (S : Store) : Option (D × Store) := (idxD S x y).map fun z => (z, S)
theorem o_ix (hK : X.K = C.K) (hu : X.A.units + 1 < cLine) : ∃ r, IxR X r ∧ Op2 C .frz r ixF := by
  refine ⟨_, (hK ▸ ix_list (X := X)).or ((hK ▸ ix_tup (X := X)).or (ix_str.or (ix_dict hu))), ?_⟩
  intro W S H x y dx dy d S' Q w hx hy hf k
  obtain ⟨z, h1, h2⟩ := map_eq hf
  cases h2
  have fin : ∀ v, Rep C W d v → Q v H := fun v r => k v H W (.refl _ _) w r
  cases dx with
  | tup l =>
    obtain ⟨a, xs, rfl, h2, r⟩ := rb_tup w hx
    cases dy with
    | int i =>
      obtain ⟨v, h3, h4⟩ := atD_get r (show atD l i = some d from h1)
      exact .inr (.inl ⟨a, xs, i, v, rfl, rb_int hy, h2, h3, fin v h4⟩)
    | _ => cases h1
  | lst l =>
    obtain ⟨a, xs, rfl, h2, r⟩ := rb_lst w hx
    cases dy with
    | int i =>
      obtain ⟨v, h3, h4⟩ := atD_get r (show atD l i = some d from h1)
      exact .inl ⟨a, xs, i, v, rfl, rb_int hy, SqL.of h2, h3, fin v h4⟩
    | _ => cases h1
  | ro l =>
    obtain ⟨a, xs, rfl, h2, r⟩ := rb_ro w hx
    cases dy with
    | int i =>
      obtain ⟨v, h3, h4⟩ := atD_get r (show atD l i = some d from h1)
      exact .inl ⟨a, xs, i, v, rfl, rb_int hy, h2, h3, fin v h4⟩
    | _ => cases h1
  | str l =>
    obtain ⟨e, ha⟩ := rb_str hx
    cases dy with
    | int i =>
      obtain ⟨c, h3, h4⟩ := map_eq (show (atD l i).map (fun c => D.str [c]) = some d from h1)
      subst h4
      refine .inr (.inr (.inl ⟨_, i, c, e, rb_int hy, by rw [str_len]; exact lim_line ha.2, ?_, ?_⟩))
      · unfold atD at h3
        unfold atI
        simpa [ixn_eq] using h3
      · refine fin _ (rep_str (s := [c]) ⟨fun z hz => ?_, by show 1 ≤ LIM; decide⟩)
        rw [List.mem_singleton.mp hz]
        unfold atD at h3
        obtain ⟨j, _, h5⟩ := Option.bind_eq_some_iff.mp h3
        exact ha.1 c (List.mem_of_getElem? h5)
    | _ => cases h1
  | dct ps =>
    obtain ⟨a, kvs, rfl, h2, r⟩ := rb_dct w hx
    have h1 : (if isKey dy then dGet dy ps else none) = some d := h1
    by_cases hk : isKey dy = true
    · rw [if_pos hk] at h1
      obtain ⟨k', hk', rfl⟩ := rb_key hk hy
      obtain ⟨v, h3, h4⟩ := (repP_get r hk').1 d h1
      exact .inr (.inr (.inr ⟨a, v, rfl, h3 ▸ DGet.k h2, fin v h4⟩))
    · rw [if_neg hk] at h1
      cases h1
  | obj n =>
    obtain ⟨a, rfl, hm⟩ := rb_obj hx
    simp only [idxD] at h1
    split at h1
    · rename_i l i hS
      obtain ⟨a', o, q1, q2, q3⟩ := w.st n _ hS
      rw [hm] at q1
      cases q1
      obtain ⟨xs, rfl, r⟩ := q3
      obtain ⟨v, h3, h4⟩ := atD_get r h1
      exact .inl ⟨a, xs, i, v, rfl, rb_int hy, SqL.of q2, h3, fin v h4⟩
    · rename_i ky _ _ ps hS
      obtain ⟨a', o, q1, q2, q3⟩ := w.st n _ hS
      rw [hm] at q1
      cases q1
      obtain ⟨kvs, rfl, r⟩ := q3
      by_cases hk : isKey ky = true
      · rw [if_pos hk] at h1
        obtain ⟨k', hk', rfl⟩ := rb_key hk hy
        obtain ⟨v, h3, h4⟩ := (repP_get r hk').1 d h1
        exact .inr (.inr (.inr ⟨a, v, rfl, h3 ▸ DGet.k q2, fin v h4⟩))
      · rw [if_neg hk] at h1
        cases h1
    · cases h1
  | _ => cases h1
theorem ev_ix (hK : X.K = C.K) (hu : X.A.units + 1 < cLine) (ha : EV X C md H0 .bor a ga) (hb : EV X C md H0 .bor b gb) (hs : isSl b = false) :
    EV X C md H0 .frz (.Subscript a b pos) (fun ρ S => bnd (ga ρ S) fun x S => bnd (gb ρ S) fun y S => ixF x y S) := by
  obtain ⟨r, h1, h2⟩ := o_ix (X := X) (C := C) hK hu
  exact ⟨PE.imp (pe_ix h1 ha.pe hb.pe (plainIx hs)) (ti_op2 rfl rfl h2)⟩
/-! ### slices -/
abbrev Go := Envr → Store → Option (Option Int × Store)
def TO' (C : Cst) (md : Nat → Mo) (H0 : Hp) (g : Go) : TO := fun σ H Q =>
  ∃ W ρ S o S', SW C W S H ∧ SV C md W ρ σ H H0 ∧ g ρ S = some (o, S') ∧ ∀ H' W', Ext W H W' H' → SW C W' S' H' → Q o H'
structure EO (X : Cx) (C : Cst) (md : Nat → Mo) (H0 : Hp) (e : Option Expr) (g : Go) : Prop where
  po : PO X e (TO' C md H0 g)
theorem PO.imp {e : Option Expr} {t t' : TO} (h : PO X e t) (k : ∀ σ H Q, t' σ H Q → t σ H Q) : PO X e t' := ⟨fun pins s σ H Q I q => h.run pins s σ H Q I (k σ H Q q)⟩
def goNon : Go := fun _ S => some (none, S)
def goSom (ga : Gv) : Go := fun ρ S => bnd (ga ρ S) fun x S => match x with
  | .int i => some (some i, S)
  | _ => none
theorem eo_non : EO X C md H0 none goNon := ⟨PO.imp po_none fun σ H Q ⟨W, ρ, S, o, S', hw, hv, hg, k⟩ => by
  cases hg
  exact k H W (.refl _ _) hw⟩
theorem eo_som (ha : EV X C md H0 .bor a ga) : EO X C md H0 (some a) (goSom ga) := ⟨PO.imp (po_some ha.pe) fun σ H Q ⟨W, ρ, S, o, S', hw, hv, hg, k⟩ => by
  obtain ⟨x, S1, h1, hg⟩ := bnd_eq hg
  split at hg
  · rename_i i
    cases hg
    exact ⟨W, ρ, S, _, _, hw, hv, h1, fun v H1 W1 e1 w1 p1 => ⟨i, rb_int p1, k H1 W1 e1 w1⟩⟩
  · cases hg⟩
def gSl (ga : Gv) (gl gh : Go) : Gv := fun ρ S => bnd (ga ρ S) fun x S => bnd (gl ρ S) fun l S => bnd (gh ρ S) fun h S => (slD x l h).map fun z => (z, S)
theorem repl_cut {W : Wd} {l : List D} {xs : List V} (r : RepL C W l xs) (lo hi : Option Int) : RepL C W (cut l lo hi) (cutV xs lo hi) := by
  unfold cut cutV
  rw [r.length]
  exact (r.drop _).take _
theorem asc_cut {l : List Nat} (h : Asc l) (lo hi : Option Int) : Asc (cut l lo hi) := by
  refine ⟨fun c hc => h.1 c ((List.drop_sublist _ _).subset ((List.take_sublist _ _).subset hc)), ?_⟩
  have : (cut l lo hi).length ≤ l.length := by
    unfold cut
    rw [List.length_take, List.length_drop]
    omega
  exact Nat.le_trans this h.2
theorem ev_sl {lo hi : Option Expr} {gl gh : Go} {p2 : Pos} (hK : X.K = C.K) (ha : EV X C md H0 .bor a ga) (hl : EO X C md H0 lo gl) (hh : EO X C md H0 hi gh) :
    EV X C md H0 .own (.Subscript a (.Slice lo hi none p2) pos) (gSl ga gl gh) := by
  have hr := (sl_list (X := X)).or ((sl_tupA (X := X)).or sl_str)
  refine ⟨PE.imp (pe_slice hr ha.pe hl.po hh.po) fun σ H Q ⟨W, ρ, S, d, S', hw, hv, hg, k⟩ => ?_⟩
  obtain ⟨x, S1, h1, hg⟩ := bnd_eq hg
  obtain ⟨l, S2, h2, hg⟩ := bnd_eq hg
  obtain ⟨h, S3, h3, hg⟩ := bnd_eq hg
  obtain ⟨z, h4, h5⟩ := map_eq hg
  cases h5
  refine ⟨W, ρ, S, x, S1, hw, hv, h1, fun v H1 W1 e1 w1 p1 => ⟨W1, ρ, S1, l, S2, w1, hv.ext e1, h2, fun H2 W2 e2 w2 => ⟨W2, ρ, S2, h, _, w2, (hv.ext e1).ext e2, h3, fun H3 W3 e3 w3 => ?_⟩⟩⟩
  have p3 := (p1 : RepB C W1 H1 x v).ext (e2.trans e3)
  have e13 := (e1.trans e2).trans e3
  cases x with
  | tup ds =>
    cases h4
    obtain ⟨a, xs, rfl, q, r⟩ := rb_tup w3 p3
    refine .inr (.inl ⟨a, xs, rfl, by rw [hK]; exact q, fun hw => ?_, fun hw p hp => ?_⟩)
    · have ra : Rep C W3 (.tup ds) (.ref a) := by
        rcases p3 with z | ⟨_, _, _, _, z, _⟩
        · exact z
        · exact z.elim
      have e : cut ds l h = ds := by
        unfold cut sIx
        rw [r.length, hw.1, hw.2]
        simp only [Nat.sub_zero, List.drop_zero]
        exact List.take_of_length_le (Nat.le_of_eq r.length)
      rw [e] at k
      exact k _ H3 W3 e13 w3 (post_of rfl ra)
    · exact new_tup w3 hp (repl_cut r l h) fun v H' W' e w r => k v H' W' (e13.trans e) w (post_of rfl r)
  | lst ds =>
    cases h4
    obtain ⟨a, xs, rfl, q, r⟩ := rb_lst w3 p3
    exact .inl ⟨a, xs, rfl, SqL.of q, fun p hp => new_lst w3 hp (repl_cut r l h) fun v H' W' e w r => k v H' W' (e13.trans e) w (Post.base e13 r)⟩
  | ro ds =>
    cases h4
    obtain ⟨a, xs, rfl, q, r⟩ := rb_ro w3 p3
    exact .inl ⟨a, xs, rfl, by rw [hK]; exact q, fun p hp => new_lst w3 hp (repl_cut r l h) fun v H' W' e w r => k v H' W' (e13.trans e) w (Post.base e13 r)⟩
  | str s =>
    cases h4
    obtain ⟨q, r⟩ := rb_str p3
    refine .inr (.inr ⟨_, q, by rw [str_len]; exact lim_line r.2, ?_⟩)
    have e : cutS ⟨s.toArray⟩ l h = ⟨(cut s l h).toArray⟩ := by
      unfold cutS cut
      simp [str_len]
    rw [e]
    exact k _ H3 W3 e13 w3 (post_of rfl (rep_str (asc_cut r l h)))
  | _ => cases h4
end
end MT

set_option maxRecDepth 100000
set_option maxHeartbeats 1000000
/-! MTh: calls of built-in functions and types. -/
namespace MT
open PySem PySem.Spec PyProof.Rows L2

section
variable {X : Cx} {C : Cst} {md : Nat → Mo} {H0 : Hp} {mo : Mo} {a b c e : Expr} {es : List Expr} {pos : Pos} {ga gb gc : Gv}
/-! ### rows of arguments that are read -/
def RepBL (C : Cst) (W : Wd) (H : Hp) : List D → List V → Prop
  | [], vs => vs = []
  | d :: ds, vs => ∃ v r, vs = v :: r ∧ RepB C W H d v ∧ RepBL C W H ds r
theorem RepBL.ext {W W' : Wd} {H H' : Hp} (e : Ext W H W' H') : ∀ {ds : List D} {vs : List V}, RepBL C W H ds vs → RepBL C W' H' ds vs
  | [], _, h => h
  | _ :: _, _, ⟨v, r, h1, h2, h3⟩ => ⟨v, r, h1, h2.ext e, RepBL.ext e h3⟩
def TB (C : Cst) (md : Nat → Mo) (H0 : Hp) (g : Gl') : TA := fun σ H Q =>
  ∃ W ρ S ds S', SW C W S H ∧ SV C md W ρ σ H H0 ∧ g ρ S = some (ds, S') ∧ ∀ vs H' W', Ext W H W' H' → SW C W' S' H' → RepBL C W' H' ds vs → Q vs H'
structure EB (X : Cx) (C : Cst) (md : Nat → Mo) (H0 : Hp) (es : List Expr) (g : Gl') : Prop where
  pa : PA X es (TB C md H0 g)
theorem eb_nil : EB X C md H0 [] glNil := ⟨PA.imp pa_nil fun σ H Q ⟨W, ρ, S, ds, S', hw, hv, hg, k⟩ => by
  cases hg
  exact k [] H W (.refl _ _) hw rfl⟩
theorem eb_cons {gl : Gl'} (ha : EV X C md H0 .bor e ga) (hl : EB X C md H0 es gl) (hs : isStar e = false) : EB X C md H0 (e :: es) (glCons ga gl) := by
  refine ⟨PA.imp (pa_cons ha.pe hl.pa (starEach_ns hs)) fun σ H Q ⟨W, ρ, S, ds, S', hw, hv, hg, k⟩ => ?_⟩
  obtain ⟨x, S1, h1, hg⟩ := bnd_eq hg
  obtain ⟨xs, S2, h2, hg⟩ := bnd_eq hg
  cases hg
  refine ⟨W, ρ, S, x, S1, hw, hv, h1, fun v H1 W1 e1 w1 p1 => ⟨W1, ρ, S1, xs, _, w1, hv.ext e1, h2, fun vs H2 W2 e2 w2 p2 => ?_⟩⟩
  exact k (v :: vs) H2 W2 (e1.trans e2) w2 ⟨v, vs, rfl, RepB.ext p1 e2, p2⟩
def OpC (C : Cst) (mo : Mo) (r : List V → Hp → VK → Prop) (f : List D → Store → Option (D × Store)) : Prop :=
  ∀ (W : Wd) (S : Store) (H : Hp) (xs : List V) (ds : List D) (d : D) (S' : Store) (Q : VK), SW C W S H → RepBL C W H ds xs → f ds S = some (d, S') →
    (∀ v H' W', Ext W H W' H' → SW C W' S' H' → Post C mo W H W' H' d v → Q v H') → r xs H Q
theorem ti_opC {mo : Mo} {r : List V → Hp → VK → Prop} {f : List D → Store → Option (D × Store)} {gl : Gl'} {t : TA} (ht : t = TB C md H0 gl) (ho : OpC C mo r f) :
    ∀ σ H Q, TI C md H0 mo (fun ρ S => bnd (gl ρ S) fun ds S => f ds S) σ H Q → tCB r t σ H Q := by
  intro σ H Q ⟨W, ρ, S, d, S', hw, hv, hg, k⟩
  subst ht
  obtain ⟨ds, S1, h1, hg⟩ := bnd_eq hg
  exact ⟨W, ρ, S, ds, S1, hw, hv, h1, fun vs H1 W1 e1 w1 p1 => ho W1 S1 H1 vs ds d S' Q w1 p1 hg fun v H' W' e w p => k v H' W' (e1.trans e) w (Post.base e1 p)⟩
theorem ev_callB {x : Str} {id : String} {f : List D → Store → Option (D × Store)} {gl : Gl'} {p : Pos} (hmg : X.mg = C.mg) (ho : ∃ r, CallR X (.builtin id) r ∧ OpC C mo r f) (hg : Gl X x) (hm : C.mg x = none) (hv : bootBuiltins x = some (.builtin id)) (ha : EB X C md H0 (e :: es) gl) (hn : x ≠ "__name__") (hdb : (x == ("__debug__" : Str)) = false)
    (hs : noStar (e :: es) = true) : EV X C md H0 mo (.Call (.Name x p) (e :: es) [] pos) (fun ρ S => bnd (gl ρ S) fun ds S => f ds S) := by
  obtain ⟨r, h1, h2⟩ := ho
  obtain ⟨s1, s2⟩ := noStar_cons hs
  exact ⟨PE.imp (pe_callB h1 hg (by rw [hmg]; exact hm) hv ha.pa hn hdb (starEach_ns s1) (backTo_plain s2)) (ti_opC rfl h2)⟩
theorem ev_callTy {x : Str} {T : String} {f : List D → Store → Option (D × Store)} {gl : Gl'} {p : Pos} (hmg : X.mg = C.mg) (ho : ∃ r, CallR X (.type T) r ∧ OpC C mo r f) (hg : Gl X x) (hm : C.mg x = none) (hv : bootBuiltins x = some (.type T)) (ha : EB X C md H0 (e :: es) gl) (hn : x ≠ "__name__") (hdb : (x == ("__debug__" : Str)) = false)
    (hs : noStar (e :: es) = true) : EV X C md H0 mo (.Call (.Name x p) (e :: es) [] pos) (fun ρ S => bnd (gl ρ S) fun ds S => f ds S) := by
  obtain ⟨r, h1, h2⟩ := ho
  obtain ⟨s1, s2⟩ := noStar_cons hs
  exact ⟨PE.imp (pe_callTy h1 hg (by rw [hmg]; exact hm) hv ha.pa hn hdb (starEach_ns s1) (backTo_plain s2)) (ti_opC rfl h2)⟩
theorem OpC.or {r r' : List V → Hp → VK → Prop} {f g : List D → Store → Option (D × Store)} (a : OpC C mo r f) (b : OpC C mo r' g) : OpC C mo (fun xs H Q => r xs H Q ∨ r' xs H Q) (fun ds S => (f ds S).or (g ds S)) := by
  intro W S H xs ds d S' Q w hx hf k
  have hf : (f ds S).or (g ds S) = some (d, S') := hf
  cases e : f ds S with
  | some p =>
    rw [e] at hf
    have e2 : p = (d, S') := by simpa using hf
    exact .inl (a W S H xs ds d S' Q w hx (e.trans (congrArg some e2)) k)
  | none =>
    rw [e] at hf
    exact .inr (b W S H xs ds d S' Q w hx (by simpa using hf) k)
theorem OpC.congr {r : List V → Hp → VK → Prop} {f g : List D → Store → Option (D × Store)} (a : OpC C mo r f) (e : ∀ ds S z, g ds S = some z → f ds S = some z) : OpC C mo r g := by
  intro W S H xs ds d S' Q w hx hf k
  exact a W S H xs ds d S' Q w hx (e _ _ _ hf) k
abbrev blF (b : Blt) : List D → Store → Option (D × Store) := fun ds S => (bltD b ds).map fun z => (z, S)
theorem blF_some {b : Blt} {ds : List D} {S : Store} {z : D × Store} (h : blF b ds S = some z) : ∃ d, bltD b ds = some d ∧ z = (d, S) := by
  obtain ⟨d, h1, h2⟩ := map_eq h
  exact ⟨d, h1, h2.symm⟩
theorem bl1 {W : Wd} {H : Hp} {d : D} {xs : List V} (h : RepBL C W H [d] xs) : ∃ v, xs = [v] ∧ RepB C W H d v := by
  obtain ⟨v, r, h1, h2, h3⟩ := h
  have h3 : r = [] := h3
  subst h3 h1
  exact ⟨v, rfl, h2⟩
theorem bl2 {W : Wd} {H : Hp} {d d' : D} {xs : List V} (h : RepBL C W H [d, d'] xs) : ∃ v u, xs = [v, u] ∧ RepB C W H d v ∧ RepB C W H d' u := by
  obtain ⟨v, r, h1, h2, u, r', h3, h4, h5⟩ := h
  have h5 : r' = [] := h5
  subst h5 h3 h1
  exact ⟨v, u, rfl, h2, h4⟩
/-- len -/
theorem call_lenD' : CallR X (.builtin "len") (fun xs H Q => ∃ a kvs, xs = [.ref a] ∧ H a = some (.dK kvs) ∧ Q (.int kvs.length) H) := by
  intro pins s σ H xs us Q I r h
  obtain ⟨a, kvs, rfl, e, q⟩ := h
  obtain ⟨u, rfl, rx⟩ := vals1 r
  cases rx
  exact d_len I (.inl e) fun t s' I' => ⟨.int kvs.length, H, I', ⟨t, rfl⟩, q⟩
theorem RepP.length {W : Wd} : ∀ {ps : List (D × D)} {kvs : List (Key × V)}, RepP C W ps kvs → ps.length = kvs.length
  | [], _, h => by rw [RepP] at h; subst h; rfl
  | (k, d) :: ps, _, h => by
    rw [RepP] at h
    obtain ⟨k', v, r, h1, h2, h3, h4⟩ := h
    subst h1
    simp [RepP.length h4]
theorem o_len (hK : X.K = C.K) : ∃ r, CallR X (.builtin "len") r ∧ OpC C .own r (blF .len) := by
  refine ⟨_, (hK ▸ call_len (X := X)).or call_lenD', fun W S H xs ds d S' Q w hx hf k => ?_⟩
  obtain ⟨z, h1, h2⟩ := blF_some hf
  cases h2
  unfold bltD at h1
  split at h1 <;> first | contradiction | skip
  all_goals cases h1
  all_goals obtain ⟨v, rfl, r⟩ := bl1 hx
  · obtain ⟨rfl, ha⟩ := rb_str r
    refine .inl ⟨_, _, rfl, ⟨by rw [str_len]; exact lim_line ha.2, rfl⟩, ?_⟩
    rw [str_len]
    exact keep_post w rfl (rep_int _) k
  · obtain ⟨a, ys, rfl, h, r⟩ := rb_tup w r
    refine .inl ⟨_, _, rfl, .inr ⟨ys, h, rfl⟩, ?_⟩
    rw [← r.length]
    exact keep_post w rfl (rep_int _) k
  · obtain ⟨a, ys, rfl, h, r⟩ := rb_lst w r
    refine .inl ⟨_, _, rfl, .inl ⟨ys, SqL.of h, rfl⟩, ?_⟩
    rw [← r.length]
    exact keep_post w rfl (rep_int _) k
  · obtain ⟨a, ys, rfl, h, r⟩ := rb_ro w r
    refine .inl ⟨_, _, rfl, .inl ⟨ys, h, rfl⟩, ?_⟩
    rw [← r.length]
    exact keep_post w rfl (rep_int _) k
  · obtain ⟨a, kvs, rfl, h, r⟩ := rb_dct w r
    refine .inr ⟨_, kvs, rfl, h, ?_⟩
    rw [← r.length]
    exact keep_post w rfl (rep_int _) k
theorem allBl_eq {W : Wd} : ∀ {l : List D} {xs : List V} {b : Bool}, allBl l = some b → RepL C W l xs → ∃ bs : List Bool, xs = bs.map V.bl ∧ b = bs.all id
  | [], xs, b, h, r => by
    rw [RepL] at r
    cases h
    exact ⟨[], r, rfl⟩
  | d :: l, xs, b, h, r => by
    rw [RepL] at r
    obtain ⟨v, r', h1, h2, h3⟩ := r
    cases d with
    | bl c =>
      obtain ⟨b', h4, h5⟩ := map_eq (show (allBl l).map (c && ·) = some b from h)
      obtain ⟨bs, e1, e2⟩ := allBl_eq h4 h3
      rw [Rep] at h2
      subst h1 h2 e1 e2
      exact ⟨c :: bs, rfl, h5.symm⟩
    | _ => cases h
theorem anyBl_eq {W : Wd} : ∀ {l : List D} {xs : List V} {b : Bool}, anyBl l = some b → RepL C W l xs → ∃ bs : List Bool, xs = bs.map V.bl ∧ b = bs.any id
  | [], xs, b, h, r => by
    rw [RepL] at r
    cases h
    exact ⟨[], r, rfl⟩
  | d :: l, xs, b, h, r => by
    rw [RepL] at r
    obtain ⟨v, r', h1, h2, h3⟩ := r
    cases d with
    | bl c =>
      obtain ⟨b', h4, h5⟩ := map_eq (show (anyBl l).map (c || ·) = some b from h)
      obtain ⟨bs, e1, e2⟩ := anyBl_eq h4 h3
      rw [Rep] at h2
      subst h1 h2 e1 e2
      exact ⟨c :: bs, rfl, h5.symm⟩
    | _ => cases h
theorem o_all (hK : X.K = C.K) (hc : X.calm = true) : ∃ r, CallR X (.builtin "all") r ∧ OpC C .own r (blF .all) := by
  refine ⟨_, cr_all hc, fun W S H xs ds d S' Q w hx hf k => ?_⟩
  obtain ⟨z, h1, h2⟩ := blF_some hf
  cases h2
  unfold bltD at h1
  split at h1 <;> first | contradiction | skip
  obtain ⟨b, h2, h3⟩ := map_eq h1
  subst h3
  obtain ⟨v, rfl, r⟩ := bl1 hx
  obtain ⟨a, ys, rfl, h, r⟩ := rb_lst w r
  obtain ⟨bs, rfl, rfl⟩ := allBl_eq h2 r
  exact ⟨a, bs, rfl, SqL.of h, keep_post w rfl (rep_bl _) k⟩
theorem o_any (hK : X.K = C.K) (hc : X.calm = true) : ∃ r, CallR X (.builtin "any") r ∧ OpC C .own r (blF .any) := by
  refine ⟨_, cr_any hc, fun W S H xs ds d S' Q w hx hf k => ?_⟩
  obtain ⟨z, h1, h2⟩ := blF_some hf
  cases h2
  unfold bltD at h1
  split at h1 <;> first | contradiction | skip
  obtain ⟨b, h2, h3⟩ := map_eq h1
  subst h3
  obtain ⟨v, rfl, r⟩ := bl1 hx
  obtain ⟨a, ys, rfl, h, r⟩ := rb_lst w r
  obtain ⟨bs, rfl, rfl⟩ := anyBl_eq h2 r
  exact ⟨a, bs, rfl, SqL.of h, keep_post w rfl (rep_bl _) k⟩
theorem o_tuple (hK : X.K = C.K) : ∃ r, CallR X (.type "tuple") r ∧ OpC C .own r (blF .tuple) := by
  refine ⟨_, hK ▸ call_tuple_of (X := X), fun W S H xs ds d S' Q w hx hf k => ?_⟩
  obtain ⟨z, h1, h2⟩ := blF_some hf
  cases h2
  unfold bltD at h1
  split at h1 <;> first | contradiction | skip
  all_goals cases h1
  all_goals obtain ⟨v, rfl, r⟩ := bl1 hx
  · obtain ⟨a, ys, rfl, h, r⟩ := rb_lst w r
    exact ⟨a, ys, rfl, .inl ⟨SqL.of h, fun p hp => new_tup w hp r fun v H' W' e w r => k v H' W' e w (post_of rfl r)⟩⟩
  · have rr := r
    obtain ⟨a, ys, rfl, h, r⟩ := rb_tup w r
    refine ⟨a, ys, rfl, .inr ⟨h, ?_⟩⟩
    rcases rr with z | ⟨_, _, _, _, z, _⟩
    · exact keep_post w rfl z k
    · exact z.elim
theorem o_int : ∃ r, CallR X (.type "int") r ∧ OpC C .own r (blF .int) := by
  refine ⟨_, call_int1, fun W S H xs ds d S' Q w hx hf k => ?_⟩
  obtain ⟨z, h1, h2⟩ := blF_some hf
  cases h2
  unfold bltD at h1
  split at h1 <;> first | contradiction | skip
  all_goals cases h1
  all_goals obtain ⟨v, rfl, r⟩ := bl1 hx
  · exact .inl ⟨_, by rw [rb_int r], keep_post w rfl (rep_int _) k⟩
  · exact .inr ⟨_, by rw [rb_bl r], keep_post w rfl (rep_int _) k⟩
theorem o_abs : ∃ r, CallR X (.builtin "abs") r ∧ OpC C .own r (blF .abs) := by
  refine ⟨_, call_abs, fun W S H xs ds d S' Q w hx hf k => ?_⟩
  obtain ⟨z, h1, h2⟩ := blF_some hf
  cases h2
  unfold bltD at h1
  split at h1 <;> first | contradiction | skip
  cases h1
  obtain ⟨v, rfl, r⟩ := bl1 hx
  exact ⟨_, by rw [rb_int r], keep_post w rfl (rep_int _) k⟩
theorem o_max (hc : X.calm = true) : ∃ r, CallR X (.builtin "max") r ∧ OpC C .own r (blF .max) := by
  refine ⟨_, call_max2 hc, fun W S H xs ds d S' Q w hx hf k => ?_⟩
  obtain ⟨z, h1, h2⟩ := blF_some hf
  cases h2
  unfold bltD at h1
  split at h1 <;> first | contradiction | skip
  cases h1
  obtain ⟨v, u, rfl, r1, r2⟩ := bl2 hx
  exact ⟨_, _, by rw [rb_int r1, rb_int r2], keep_post w rfl (rep_int _) k⟩
theorem o_min (hc : X.calm = true) : ∃ r, CallR X (.builtin "min") r ∧ OpC C .own r (blF .min) := by
  refine ⟨_, call_min2 hc, fun W S H xs ds d S' Q w hx hf k => ?_⟩
  obtain ⟨z, h1, h2⟩ := blF_some hf
  cases h2
  unfold bltD at h1
  split at h1 <;> first | contradiction | skip
  cases h1
  obtain ⟨v, u, rfl, r1, r2⟩ := bl2 hx
  exact ⟨_, _, by rw [rb_int r1, rb_int r2], keep_post w rfl (rep_int _) k⟩
theorem o_divmod : ∃ r, CallR X (.builtin "divmod") r ∧ OpC C .own r (blF .divmod) := by
  refine ⟨_, call_divmod, fun W S H xs ds d S' Q w hx hf k => ?_⟩
  obtain ⟨z, h1, h2⟩ := blF_some hf
  cases h2
  unfold bltD at h1
  split at h1 <;> first | contradiction | skip
  split at h1 <;> first | contradiction | skip
  rename_i hc
  cases h1
  obtain ⟨v, u, rfl, r1, r2⟩ := bl2 hx
  exact ⟨_, _, by rw [rb_int r1, rb_int r2], ⟨hc.1, by have := smI_le hc.2; omega⟩, fun p hp => new_tup w hp (.cons (rep_int _) (.cons (rep_int _) .nil)) fun v H' W' e w r => k v H' W' e w (post_of rfl r)⟩
/-! ### list(..) -/
theorem call_listS (hc : X.calm = true) : CallR X (.type "list") (fun xs H Q => ∃ z : Str, xs = [.str z] ∧ z.length ≤ sizeLine ∧ ∀ q, H q = none → Q (.ref q) (upd H q (.lst (z.cps.toList.map fun c => V.str ⟨#[c]⟩)))) := by
  intro pins s σ H xs us Q I r h
  obtain ⟨z, rfl, hz, q⟩ := h
  obtain ⟨u, rfl, t, rfl⟩ := vals1 r
  refine call_list_str (hn := hz) (I.ok.hd hc) z t fun h' tk acc' c' hk hS hacc => ?_
  have hsz : acc'.size = z.cps.size := hacc.1
  refine ⟨.ref s.heap.objs.size, _, I.laid hk (Nat.le_refl _) (show ObjOk X.prog X.w _ _ _ (.lst (z.cps.toList.map fun c => V.str ⟨#[c]⟩)) from ⟨?_, acc'.toList, c', ?_, ?_⟩), rfl, q _ (I.hok.fresh (Nat.le_refl _))⟩
  · rw [List.length_map, Array.length_toList]; exact hz
  · refine vals_of_at (by rw [List.length_map, Array.length_toList, Array.length_toList, hsz]) fun j x w h1 h2 => ?_
    obtain ⟨c, u, hc2, rfl⟩ := hacc.2 j w (by rw [← Array.getElem?_toList]; exact h2)
    rw [List.getElem?_map, Array.getElem?_toList, hc2] at h1
    cases h1
    exact ⟨u, rfl⟩
  · rw [Array.toArray_toList]; exact hS
theorem keys_rep {W : Wd} : ∀ {ps : List (D × D)} {kvs : List (Key × V)}, RepP C W ps kvs → RepL C W (ps.map (·.1)) (kvs.map fun kv => kV kv.1)
  | [], _, h => by rw [RepP] at h; subst h; exact .nil
  | (k, d) :: ps, _, h => by
    rw [RepP] at h
    obtain ⟨k', v, r, h1, h2, h3, h4⟩ := h
    subst h1
    refine .cons ?_ (keys_rep h4)
    cases k with
    | int i =>
      have h2 : k' = .inl i := h2
      subst h2
      exact rep_int i
    | str s =>
      have h2 : k' = .inr ⟨s.toArray⟩ ∧ Asc s := h2
      rw [h2.1]
      exact rep_str h2.2
    | _ => exact h2.elim
theorem signs_rep {W : Wd} {s : List Nat} (h : Asc s) : RepL C W (s.map fun c => D.str [c]) (s.map fun c => V.str ⟨#[c]⟩) := by
  have : ∀ l : List Nat, (∀ c ∈ l, c < 128) → RepL C W (l.map fun c => D.str [c]) (l.map fun c => V.str ⟨#[c]⟩) := by
    intro l
    induction l with
    | nil => intro _; exact .nil
    | cons c l ih =>
      intro hl
      refine .cons (rep_str (s := [c]) ⟨fun z hz => ?_, by show 1 ≤ LIM; decide⟩) (ih fun z hz => hl z (List.mem_cons_of_mem _ hz))
      rw [List.mem_singleton.mp hz]
      exact hl c List.mem_cons_self
  exact this s h.1
theorem o_list (hK : X.K = C.K) (hc : X.calm = true) : ∃ r, CallR X (.type "list") r ∧ OpC C .own r (blF .list) := by
  refine ⟨_, (hK ▸ call_list_of (X := X)).or ((call_list_dK hc).or (call_listS hc)), fun W S H xs ds d S' Q w hx hf k => ?_⟩
  obtain ⟨z, h1, h2⟩ := blF_some hf
  cases h2
  unfold bltD at h1
  split at h1 <;> first | contradiction | skip
  rename_i dd _
  obtain ⟨l, h2, h3⟩ := map_eq h1
  subst h3
  obtain ⟨v, rfl, r⟩ := bl1 hx
  cases dd with
  | tup m =>
    cases h2
    obtain ⟨a, ys, rfl, h, r⟩ := rb_tup w r
    exact .inl ⟨a, ys, rfl, .inr h, fun p hp => new_lst w hp r k⟩
  | lst m =>
    cases h2
    obtain ⟨a, ys, rfl, h, r⟩ := rb_lst w r
    exact .inl ⟨a, ys, rfl, .inl (SqL.of h), fun p hp => new_lst w hp r k⟩
  | ro m =>
    cases h2
    obtain ⟨a, ys, rfl, h, r⟩ := rb_ro w r
    exact .inl ⟨a, ys, rfl, .inl h, fun p hp => new_lst w hp r k⟩
  | dct ps =>
    cases h2
    obtain ⟨a, kvs, rfl, h, r⟩ := rb_dct w r
    exact .inr (.inl ⟨a, kvs, rfl, h, fun p hp => new_lst w hp (keys_rep r) k⟩)
  | str s =>
    cases h2
    obtain ⟨rfl, ha⟩ := rb_str r
    refine .inr (.inr ⟨_, rfl, by rw [str_len]; exact lim_line ha.2, fun p hp => new_lst w hp ?_ k⟩)
    simpa using signs_rep ha
  | _ => cases h2
end
end MT

set_option maxRecDepth 100000
set_option maxHeartbeats 1000000
/-! MTi: comparisons of all kinds, chains, isinstance, reversed slices. -/
namespace MT
open PySem PySem.Spec PyProof.Rows L2

section
variable {X : Cx} {C : Cst} {md : Nat → Mo} {H0 : Hp} {mo : Mo} {a b c e : Expr} {es : List Expr} {pos : Pos} {ga gb gc : Gv}
/-! ### in, not in a dict -/
theorem op_dIn (hu : X.A.units + 1 < cLine) : OpR X (compareOp .In) (fun x y H Q => ∃ a o, y = .ref a ∧ DGet H a x o ∧ Q (.bl o.isSome) H) := by
  intro pins s σ H x y v u Q I rx ry h
  obtain ⟨a, o, rfl, g, q⟩ := h
  cases ry
  exact d_in hu I g rx fun s' I' => ⟨.bl o.isSome, H, I', rfl, q⟩
theorem op_dNotIn (hu : X.A.units + 1 < cLine) : OpR X (compareOp .NotIn) (fun x y H Q => ∃ a o, y = .ref a ∧ DGet H a x o ∧ Q (.bl (!o.isSome)) H) := by
  intro pins s σ H x y v u Q I rx ry h
  obtain ⟨a, o, rfl, g, q⟩ := h
  cases ry
  exact d_notIn hu I g rx fun s' I' => ⟨.bl (!o.isSome), H, I', rfl, q⟩
theorem OpR.or {f : Value → Value → Sem Value} {r r' : R2} (a : OpR X f r) (b : OpR X f r') : OpR X f (fun x y H Q => r x y H Q ∨ r' x y H Q) := by
  intro pins s σ H x y v u Q I rx ry h
  rcases h with h | h
  · exact a pins s σ H x y v u Q I rx ry h
  · exact b pins s σ H x y v u Q I rx ry h
def cop : CmpO → CmpOp
  | .eq => .Eq | .ne => .NotEq | .lt => .Lt | .le => .LtE | .gt => .Gt | .ge => .GtE | .isin => .In | .notin => .NotIn
abbrev cT (o : CmpO) : D → D → Store → Option (D × Store) := fun x y S => (cmpT o x y S).map fun b => (.bl b, S)
theorem cT_some {o : CmpO} {x y : D} {S : Store} {z : D × Store} (h : cT o x y S = some z) : ∃ b, cmpT o x y S = some b ∧ z = (.bl b, S) := by
  obtain ⟨b, h1, h2⟩ := map_eq h
  exact ⟨b, h1, h2.symm⟩

section
variable {W : Wd} {S : Store} {H : Hp} {d : D} {v : V}
theorem rd_lst (w : SW C W S H) (h : RepB C W H d v) {l : List D} (e : deref S d = .lst l) : ∃ a xs, v = .ref a ∧ H a = some (.lst xs) ∧ RepL C W l xs := by
  unfold deref at e
  split at e
  · rename_i n
    obtain ⟨a, rfl, hm⟩ := rb_obj h
    split at e
    · rename_i l' hS
      cases e
      obtain ⟨a', u, q1, q2, q3⟩ := w.st n _ hS
      rw [hm] at q1
      cases q1
      obtain ⟨xs, rfl, r⟩ := q3
      exact ⟨a, xs, rfl, q2, r⟩
    · cases e
    · cases e
  · subst e
    exact rb_lst w h
theorem rd_dct (w : SW C W S H) (h : RepB C W H d v) {l : List (D × D)} (e : deref S d = .dct l) : ∃ a kvs, v = .ref a ∧ H a = some (.dK kvs) ∧ RepP C W l kvs := by
  unfold deref at e
  split at e
  · rename_i n
    obtain ⟨a, rfl, hm⟩ := rb_obj h
    split at e
    · cases e
    · rename_i l' hS
      cases e
      obtain ⟨a', u, q1, q2, q3⟩ := w.st n _ hS
      rw [hm] at q1
      cases q1
      obtain ⟨xs, rfl, r⟩ := q3
      exact ⟨a, xs, rfl, q2, r⟩
    · cases e
  · subst e
    exact rb_dct w h
theorem rd_tup (w : SW C W S H) (h : RepB C W H d v) {l : List D} (e : deref S d = .tup l) : ∃ a xs, v = .ref a ∧ SqT C.K H a xs ∧ RepL C W l xs := by
  unfold deref at e
  split at e
  · split at e <;> cases e
  · subst e
    exact rb_tup w h
theorem rd_str (h : RepB C W H d v) {l : List Nat} (e : deref S d = .str l) : v = .str ⟨l.toArray⟩ ∧ Asc l := by
  unfold deref at e
  split at e
  · split at e <;> cases e
  · subst e
    exact rb_str h
end
/-- in, not in: signs in texts, values in lists and tuples, keys in dicts -/
def rIn3 (K : PySem.W.Frag) (ng : Bool) : R2 := fun x y H Q => rInM K ng x y H Q ∨ (∃ a o, y = .ref a ∧ DGet H a x o ∧ Q (.bl (ng ^^ o.isSome)) H) ∨
  ∃ (c : Nat) (z : Str), x = .str ⟨#[c]⟩ ∧ y = .str z ∧ Q (.bl (ng ^^ decide (c ∈ z.cps.toList))) H
theorem op_in3 (hu : X.A.units + 65 < cLine) : OpR X (compareOp .In) (rIn3 X.K false) := by
  have := (op_inM hu).or ((op_dIn (X := X) (by omega)).or op_in_sign)
  intro pins s σ H x y v u Q I rx ry h
  refine this pins s σ H x y v u Q I rx ry ?_
  rcases h with h | ⟨a, o, h1, h2, h3⟩ | ⟨c, z, h1, h2, h3⟩
  · exact .inl h
  · exact .inr (.inl ⟨a, o, h1, h2, by simpa using h3⟩)
  · exact .inr (.inr ⟨c, z, h1, h2, by simpa using h3⟩)
theorem op_notIn3 (hu : X.A.units + 65 < cLine) : OpR X (compareOp .NotIn) (rIn3 X.K true) := by
  have := (op_notInM hu).or ((op_dNotIn (X := X) (by omega)).or op_notIn_sign)
  intro pins s σ H x y v u Q I rx ry h
  refine this pins s σ H x y v u Q I rx ry ?_
  rcases h with h | ⟨a, o, h1, h2, h3⟩ | ⟨c, z, h1, h2, h3⟩
  · exact .inl h
  · exact .inr (.inl ⟨a, o, h1, h2, by simpa using h3⟩)
  · exact .inr (.inr ⟨c, z, h1, h2, by simpa using h3⟩)
def inOp (ng : Bool) : CmpO := if ng then .notin else .isin
theorem in_cases {ng : Bool} {x y : D} {r : Bool} (h : cmpD (inOp ng) x y = some r) :
    (∃ c t, x = .str [c] ∧ y = .str t ∧ r = (ng ^^ decide (c ∈ t))) ∨ (∃ l b, (y = .lst l ∨ y = .tup l) ∧ inD x l = some b ∧ r = (ng ^^ b)) ∨ ∃ ps, y = .dct ps ∧ isKey x = true ∧ r = (ng ^^ (dGet x ps).isSome) := by
  cases ng with
  | false =>
    have h : cmpD .isin x y = some r := h
    unfold cmpD at h
    split at h <;> first | contradiction | skip
    all_goals try (rename_i e; cases e; done)
    · cases h; exact .inl ⟨_, _, rfl, rfl, by simp⟩
    · exact .inr (.inl ⟨_, r, .inl rfl, h, by simp⟩)
    · exact .inr (.inl ⟨_, r, .inr rfl, h, by simp⟩)
    · split at h
      · rename_i hk
        cases h
        exact .inr (.inr ⟨_, rfl, hk, by simp⟩)
      · cases h
  | true =>
    have h : cmpD .notin x y = some r := h
    unfold cmpD at h
    split at h <;> first | contradiction | skip
    all_goals try (rename_i e; cases e; done)
    · cases h; exact .inl ⟨_, _, rfl, rfl, by simp⟩
    · obtain ⟨b, h1, h2⟩ := map_eq h
      exact .inr (.inl ⟨_, b, .inl rfl, h1, by rw [← h2]; simp⟩)
    · obtain ⟨b, h1, h2⟩ := map_eq h
      exact .inr (.inl ⟨_, b, .inr rfl, h1, by rw [← h2]; simp⟩)
    · split at h
      · rename_i hk
        cases h
        exact .inr (.inr ⟨_, rfl, hk, by simp⟩)
      · cases h
theorem op2_in3 (ng : Bool) : Op2 C .own (rIn3 C.K ng) (cT (inOp ng)) := by
  intro W S H x y dx dy d S' Q w hx hy hf k
  obtain ⟨b, h1, h2⟩ := cT_some hf
  cases h2
  have h1 : cmpD (inOp ng) dx (deref S dy) = some b := by cases ng <;> exact h1
  rcases in_cases h1 with ⟨c, t, rfl, hy2, rfl⟩ | ⟨l, b', hy2, hi, rfl⟩ | ⟨ps, hy2, hk, rfl⟩
  · obtain ⟨e1, _⟩ := rb_str hx
    obtain ⟨e2, _⟩ := rd_str hy hy2
    refine .inr (.inr ⟨c, _, e1, e2, ?_⟩)
    simpa using keep_post w rfl (rep_bl _) k
  · obtain ⟨f1, f2, hm, e⟩ := inD_some hi
    subst e
    have hD : Dp C.K H y (.list (pds l)) ∨ Dp C.K H y (.tuple (pds l)) := by
      rcases hy2 with hy2 | hy2
      · obtain ⟨a, xs, rfl, q, r⟩ := rd_lst w hy hy2
        exact .inl (.lst (SqL.of q) (dps_of w l xs f2 r))
      · obtain ⟨a, xs, rfl, q, r⟩ := rd_tup w hy hy2
        exact .inr (.tup q (dps_of w l xs f2 r))
    have hl : PyData.canLayAll0 (pds l) = true := by
      rcases hy2 with hy2 | hy2
      · obtain ⟨a, xs, rfl, q, r⟩ := rd_lst w hy hy2
        exact lays_of l xs f2 r
      · obtain ⟨a, xs, rfl, q, r⟩ := rd_tup w hy hy2
        exact lays_of l xs f2 r
    refine .inl ⟨pd dx, pds l, dpb_of w f1 hx, hD, layb_of f1 hx, hl, by rw [dep_pd _ f1]; exact hm, ?_⟩
    rw [any_pd f1 l f2]
    exact keep_post w rfl (rep_bl _) k
  · obtain ⟨a, kvs, rfl, q, r⟩ := rd_dct w hy hy2
    obtain ⟨k', hk', rfl⟩ := rb_key hk hx
    refine .inr (.inl ⟨a, _, rfl, DGet.k q, ?_⟩)
    have g := repP_get r hk'
    have e : (valV kvs k').isSome = (dGet dx ps).isSome := by
      cases hg : dGet dx ps with
      | none => rw [g.2 hg]; rfl
      | some d =>
        obtain ⟨v, h3, _⟩ := g.1 d hg
        rw [h3]; rfl
    rw [e]
    exact keep_post w rfl (rep_bl _) k
theorem op2_eq3 (ng : Bool) : Op2 C .own (rEqM C.K ng) (cT (if ng then .ne else .eq)) := by
  refine (op2_eqM (C := C) ng).congr fun x y S z h => ?_
  cases ng with
  | false =>
    have h : (eqD x y).map (fun b => (D.bl b, S)) = some z := h
    show ((eqD x y).map (false ^^ ·)).map (fun b => (D.bl b, S)) = some z
    rw [← h]
    cases eqD x y <;> simp
  | true =>
    have h : ((eqD x y).map (!·)).map (fun b => (D.bl b, S)) = some z := h
    show ((eqD x y).map (true ^^ ·)).map (fun b => (D.bl b, S)) = some z
    rw [← h]
    cases eqD x y <;> simp
theorem ci_some {f : Int → Int → Bool} {o : CmpO} (ho : ∀ x y S, cmpT o x y S = cmpD o x y) (hf : ∀ x y b, cmpD o x y = some b → ∃ i j, x = .int i ∧ y = .int j ∧ b = f i j) :
    Op2 C .own (rI0 fun i j => .bl (f i j)) (cT o) := by
  intro W S H x y dx dy d S' Q w hx hy hg k
  obtain ⟨b, h1, h2⟩ := cT_some hg
  cases h2
  rw [ho] at h1
  obtain ⟨i, j, rfl, rfl, rfl⟩ := hf _ _ _ h1
  exact ⟨i, j, rb_int hx, rb_int hy, keep_post w rfl (rep_bl _) k⟩
/-- all comparisons -/
theorem o_cmp (hK : X.K = C.K) (hu : X.A.units + 65 < cLine) : ∀ o : CmpO, ∃ r, OpR X (compareOp (cop o)) r ∧ Op2 C .own r (cT o)
  | .eq => ⟨_, hK ▸ op_eqM hu, op2_eq3 false⟩
  | .ne => ⟨_, hK ▸ op_neM hu, op2_eq3 true⟩
  | .isin => ⟨_, hK ▸ op_in3 hu, op2_in3 false⟩
  | .notin => ⟨_, hK ▸ op_notIn3 hu, op2_in3 true⟩
  | .lt => ⟨_, op_lt, ci_some (fun _ _ _ => rfl) fun x y b h => by
      unfold cmpD at h
      split at h <;> first | contradiction | skip
      all_goals try (rename_i e; cases e; done)
      cases h; exact ⟨_, _, rfl, rfl, rfl⟩⟩
  | .le => ⟨_, op_le, ci_some (fun _ _ _ => rfl) fun x y b h => by
      unfold cmpD at h
      split at h <;> first | contradiction | skip
      all_goals try (rename_i e; cases e; done)
      cases h; exact ⟨_, _, rfl, rfl, rfl⟩⟩
  | .gt => ⟨_, op_gt, ci_some (fun _ _ _ => rfl) fun x y b h => by
      unfold cmpD at h
      split at h <;> first | contradiction | skip
      all_goals try (rename_i e; cases e; done)
      cases h; exact ⟨_, _, rfl, rfl, rfl⟩⟩
  | .ge => ⟨_, op_ge, ci_some (fun _ _ _ => rfl) fun x y b h => by
      unfold cmpD at h
      split at h <;> first | contradiction | skip
      all_goals try (rename_i e; cases e; done)
      cases h; exact ⟨_, _, rfl, rfl, rfl⟩⟩
/-! ### a op b op c -/
def gCmp2 (o p : CmpO) (ga gb gc : Gv) : Gv := fun ρ S => bnd (ga ρ S) fun x S => bnd (gb ρ S) fun y S => (match cmpT o x y S with
    | some true => bnd (gc ρ S) fun z S => (cmpT p y z S).map fun r => (.bl r, S)
    | some false => some (.bl false, S)
    | none => none)
theorem ti_chain {o p : CmpO} {r r' : R2} {ta tb tc : TE} (ha : ta = TI C md H0 .bor ga) (hb : tb = TI C md H0 .bor gb) (hc : tc = TI C md H0 .bor gc) (h1 : Op2 C .own r (cT o)) (h2 : Op2 C .own r' (cT p)) :
    ∀ σ H Q, TI C md H0 .frz (gCmp2 o p ga gb gc) σ H Q → tChain r r' ta tb tc σ H Q := by
  intro σ H Q ⟨W, ρ, S, d, S', hw, hv, hg, k⟩
  subst ha hb hc
  obtain ⟨dx, S1, g1, hg⟩ := bnd_eq hg
  obtain ⟨dy, S2, g2, hg⟩ := bnd_eq hg
  refine ⟨W, ρ, S, dx, S1, hw, hv, g1, fun x H1 W1 e1 w1 p1 => ⟨W1, ρ, S1, dy, S2, w1, hv.ext e1, g2, fun y H2 W2 e2 w2 p2 => ?_⟩⟩
  have p2 : RepB C W2 H2 dy y := p2
  cases hc : cmpT o dx dy S2 with
  | none => rw [hc] at hg; cases hg
  | some b =>
    rw [hc] at hg
    refine h1 W2 S2 H2 x y dx dy (.bl b) S2 _ w2 (RepB.ext p1 e2) p2 (by unfold cT; rw [hc]; rfl) fun v H3 W3 e3 w3 p3 => ⟨b, ?_, ?_⟩
    · rcases p3 with ⟨a, o, _, _, _, z, _⟩ | ⟨_, z⟩
      · exact z.elim
      · rw [Rep] at z; exact z
    · cases b with
      | false =>
        cases hg
        exact k _ H3 W3 ((e1.trans e2).trans e3) w3 (rep_bl (C := C) (W := W3) _)
      | true =>
        obtain ⟨dz, S3, g3, hg⟩ := bnd_eq hg
        refine ⟨W3, ρ, S2, dz, S3, w3, ((hv.ext e1).ext e2).ext e3, g3, fun z H4 W4 e4 w4 p4 => ?_⟩
        refine h2 W4 S3 H4 y z dy dz d S' Q w4 (RepB.ext p2 (e3.trans e4)) p4 hg fun v H5 W5 e5 w5 p5 => ?_
        refine EV_own_frz p5 (fun W6 e6 w6 r6 => k v H5 W6 ((((e1.trans e2).trans e3).trans e4).trans e6) w6 r6) e5 w5
where
  EV_own_frz {W W' : Wd} {H H' : Hp} {S' : Store} {d : D} {v : V} {R : Prop} (p : Post C .own W H W' H' d v) (k : ∀ W6, Ext W H W6 H' → SW C W6 S' H' → Rep C W6 d v → R) (e : Ext W H W' H') (w : SW C W' S' H') : R := by
    obtain ⟨W2, e2, w2, r⟩ := RepN.freeze p e w
    exact k W2 e2 w2 r
theorem ev_cmp2 {o p : CmpO} (hK : X.K = C.K) (hu : X.A.units + 65 < cLine) (ha : EV X C md H0 .bor a ga) (hb : EV X C md H0 .bor b gb) (hc : EV X C md H0 .bor c gc) (hm : lastMarks [cop o, cop p] [b, c] = false) :
    EV X C md H0 .frz (.Compare a [cop o, cop p] [b, c] pos) (gCmp2 o p ga gb gc) := by
  obtain ⟨r, h1, h2⟩ := o_cmp hK hu o
  obtain ⟨r', h3, h4⟩ := o_cmp hK hu p
  exact ⟨PE.imp (pe_chain h1 h3 ha.pe hb.pe hc.pe hm) (ti_chain rfl rfl rfl h2 h4)⟩
theorem et_cmp2 {o p : CmpO} (hK : X.K = C.K) (hu : X.A.units + 65 < cLine) (ha : EV X C md H0 .bor a ga) (hb : EV X C md H0 .bor b gb) (hc : EV X C md H0 .bor c gc) (hm : lastMarks [cop o, cop p] [b, c] = false) :
    ET X C md H0 (.Compare a [cop o, cop p] [b, c] pos) (gCmp2 o p ga gb gc) := by
  obtain ⟨r, h1, h2⟩ := o_cmp hK hu o
  obtain ⟨r', h3, h4⟩ := o_cmp hK hu p
  exact ⟨PT.imp (pt_chain h1 h3 ha.pe hb.pe hc.pe hm) fun σ H Q ⟨W, ρ, S, b, S', hw, hv, hg, k⟩ =>
    ti_chain rfl rfl rfl h2 h4 σ H _ ⟨W, ρ, S, _, S', hw, hv, hg, fun v H' W' e w p => ⟨b, rep_b p, k H' W' e w⟩⟩⟩
end
end MT

set_option maxRecDepth 100000
set_option maxHeartbeats 1000000
/-! MTj: isinstance, reversed slices. -/
namespace MT
open PySem PySem.Spec PyProof.Rows L2

section
variable {X : Cx} {C : Cst} {md : Nat → Mo} {H0 : Hp} {mo : Mo} {a b c e : Expr} {es : List Expr} {pos : Pos} {ga gb gc : Gv}
/-! ### isinstance -/
def tyName : Ty → Option String
  | .str => some "str" | .int => some "int" | .bool => some "bool" | .tuple => some "tuple" | .list => some "list" | .dict => some "dict" | .cls _ => none
/-- what is known of the own classes -/
structure ClsOk (C : Cst) : Prop where
  ins : ∀ (c : Nat) (x : Str) (A : Addr), C.cls[c]? = some x → C.mg x = some (.ref A) → C8.InsC C.K A
  no : ∀ (c : Nat) (x : Str) (A : Addr) (t : Ty) (n : String), C.cls[c]? = some x → C.mg x = some (.ref A) → tyName t = some n → PySem.W.kitOne C.K (.ref A) (.type n) = some false
  ty : ∀ (c : Nat) (x : Str) (A : Addr) (n : String), C.cls[c]? = some x → C.mg x = some (.ref A) → n ∈ ["NoneType", "bool", "int", "str", "tuple", "list", "dict"] → PySem.W.kitOne C.K (.type n) (.ref A) = some false
  two : ∀ (c c' : Nat) (x x' : Str) (A A' : Addr), C.cls[c]? = some x → C.mg x = some (.ref A) → C.cls[c']? = some x' → C.mg x' = some (.ref A') → PySem.W.kitOne C.K (.ref A) (.ref A') = some (c' == c)
/-- the second argument -/
def TyV (C : Cst) : Ty → V → Value → Prop
  | .cls c, v, u => ∃ x A, C.cls[c]? = some x ∧ C.mg x = some (.ref A) ∧ v = .ref A ∧ u = .ref A
  | t, v, u => ∃ n, tyName t = some n ∧ v = .ty n ∧ u = .type n
theorem TyV.cv {t : Ty} {v : V} {u : Value} (h : TyV C t v u) : ClsV v u := by
  cases t with
  | cls c => obtain ⟨x, A, _, _, rfl, rfl⟩ := h; exact .own A
  | _ => obtain ⟨n, _, rfl, rfl⟩ := h; exact .ty n
theorem kit_b (K : PySem.W.Frag) {T : String} (hT : T ∈ ["NoneType", "bool", "int", "str", "tuple", "list", "dict"]) {t : Ty} {n : String} (h : tyName t = some n) : PySem.W.kitOne K (.type T) (.type n) = some ((T == n) || (T == "bool" && n == "int")) := by
  simp only [List.mem_cons, List.not_mem_nil, or_false] at hT
  rcases hT with rfl | rfl | rfl | rfl | rfl | rfl | rfl <;> (cases t <;> cases h <;> exact kit_ty (by decide +kernel))
theorem tyX_seqT {W : Wd} {H : Hp} {a : Addr} {xs : List V} (h : SqT C.K H a xs) : TyX C.K H (.ref a) (.type "tuple") := by
  rcases h with (h | ⟨o, h⟩) | ⟨o, its, n, h1, h2, _⟩
  · exact .base (.tup h)
  · exact .fTuple h
  · exact .kTuple h1 h2
theorem tyX_seqL {W : Wd} {H : Hp} {a : Addr} {xs : List V} (h : SqL C.K H a xs) : TyX C.K H (.ref a) (.type "list") := by
  rcases h with (h | ⟨o, h⟩) | ⟨o, its, n, h1, h2, _⟩
  · exact .base (.lst h)
  · exact .base (.frz h)
  · exact .kList h1 h2
/-- a value's type and the answer -/
theorem isi_at (ck : ClsOk C) {W : Wd} {S : Store} {H : Hp} {d : D} {v cv : V} {u : Value} {t : Ty} {r : Bool} (w : SW C W S H) (h : RepB C W H d v) (ht : TyV C t cv u) (hr : isiD S t d = some r) :
    ∃ T, TyX C.K H v T ∧ PySem.W.kitOne C.K T u = some r := by
  have bt : ∀ (T : String), T ∈ ["NoneType", "bool", "int", "str", "tuple", "list", "dict"] → (r = match tyName t with
      | some n => (T == n) || (T == "bool" && n == "int")
      | none => false) → PySem.W.kitOne C.K (.type T) u = some r := by
    intro T hT hr
    cases t with
    | cls c =>
      obtain ⟨x, A, h1, h2, rfl, rfl⟩ := ht
      have hr : r = false := hr
      rw [hr]
      exact ck.ty c x A T h1 h2 hT
    | _ =>
      obtain ⟨n, hn, rfl, rfl⟩ := ht
      rw [kit_b C.K hT hn, hr, hn]
  cases d with
  | non =>
    have hv := rb_non h
    subst hv
    have hr : some (tyD S t .non) = some r := hr
    refine ⟨_, .base .non, bt "NoneType" (by simp) ?_⟩
    rw [← Option.some.inj hr]
    cases t <;> rfl
  | bl b =>
    have hv := rb_bl h
    subst hv
    have hr : some (tyD S t (.bl b)) = some r := hr
    refine ⟨_, .base (.bl b), bt "bool" (by simp) ?_⟩
    rw [← Option.some.inj hr]
    cases t <;> rfl
  | int i =>
    have hv := rb_int h
    subst hv
    have hr : some (tyD S t (.int i)) = some r := hr
    refine ⟨_, .base (.int i), bt "int" (by simp) ?_⟩
    rw [← Option.some.inj hr]
    cases t <;> rfl
  | str s =>
    have hv := (rb_str h).1
    subst hv
    have hr : some (tyD S t (.str s)) = some r := hr
    refine ⟨_, .base (.str _), bt "str" (by simp) ?_⟩
    rw [← Option.some.inj hr]
    cases t <;> rfl
  | tup l =>
    obtain ⟨a, xs, rfl, q, _⟩ := rb_tup w h
    have hr : some (tyD S t (.tup l)) = some r := hr
    refine ⟨_, tyX_seqT (W := W) q, bt "tuple" (by simp) ?_⟩
    rw [← Option.some.inj hr]
    cases t <;> rfl
  | lst l =>
    obtain ⟨a, xs, rfl, q, _⟩ := rb_lst w h
    have hr : some (tyD S t (.lst l)) = some r := hr
    refine ⟨_, tyX_seqL (W := W) (SqL.of q), bt "list" (by simp) ?_⟩
    rw [← Option.some.inj hr]
    cases t <;> rfl
  | ro l =>
    obtain ⟨a, xs, rfl, q, _⟩ := rb_ro w h
    have hr : some (tyD S t (.ro l)) = some r := hr
    refine ⟨_, tyX_seqL (W := W) q, bt "list" (by simp) ?_⟩
    rw [← Option.some.inj hr]
    cases t <;> rfl
  | dct l =>
    obtain ⟨a, xs, rfl, q, _⟩ := rb_dct w h
    have hr : some (tyD S t (.dct l)) = some r := hr
    refine ⟨_, .base (.dK q), bt "dict" (by simp) ?_⟩
    rw [← Option.some.inj hr]
    cases t <;> rfl
  | obj n =>
    obtain ⟨a, rfl, hm⟩ := rb_obj h
    have hr : (match S[n]? with | some _ => some (tyD S t (.obj n)) | none => none) = some r := hr
    cases hS : S[n]? with
    | none => rw [hS] at hr; cases hr
    | some ob =>
      rw [hS] at hr
      have hr2 : tyD S t (.obj n) = r := Option.some.inj hr
      obtain ⟨a', u', q1, q2, q3⟩ := w.st n _ hS
      rw [hm] at q1
      cases q1
      cases ob with
      | lst l =>
        obtain ⟨xs, rfl, _⟩ := q3
        refine ⟨_, .base (.lst q2), bt "list" (by simp) ?_⟩
        rw [← hr2]
        cases t <;> simp [tyD, hS, tyName]
      | dct l =>
        obtain ⟨xs, rfl, _⟩ := q3
        refine ⟨_, .base (.dK q2), bt "dict" (by simp) ?_⟩
        rw [← hr2]
        cases t <;> simp [tyD, hS, tyName]
      | ins c fs =>
        obtain ⟨A, dx, fv, rfl, ⟨x, hx, hA⟩, _⟩ := q3
        have ic := ck.ins c x A hx hA
        refine ⟨.ref A, .base (.ins q2 ic.cl ic.ha ic.hn ic.htk ic.hm), ?_⟩
        cases t with
        | cls c' =>
          obtain ⟨x', A', h1, h2, rfl, rfl⟩ := ht
          rw [ck.two c c' x x' A A' hx hA h1 h2, ← hr2]
          simp [tyD, hS]
        | _ =>
          obtain ⟨n', hn, rfl, rfl⟩ := ht
          rw [ck.no c x A _ n' hx hA hn, ← hr2]
          simp [tyD, hS]
  | fn i cs => cases hr
theorem ev_isi {t : Ty} {cv : V} {cu : Value} {p : Pos} (hmg : X.mg = C.mg) (hK : X.K = C.K) (ck : ClsOk C) (hg : Gl X "isinstance") (hm : C.mg "isinstance" = none) (ht : TyV C t cv cu) (ha : EV X C md H0 .bor a ga) (hb : PE X b (tC cv)) (sa : isStar a = false) (sb : isStar b = false) :
    EV X C md H0 .frz (.Call (.Name "isinstance" p) [a, b] [] pos) (fun ρ S => bnd (ga ρ S) fun x S => (isiD S t x).map fun b => (.bl b, S)) := by
  have hrow : PA X [a, b] (tCons (TI C md H0 .bor ga) (tCons (tC cv) tNil)) := pa_cons ha.pe (pa_cons hb pa_nil (starEach_ns sb)) (starEach_ns sa)
  refine ⟨PE.imp (pe_callB call_isi hg (by rw [hmg]; exact hm) PyProof.Rows.boot_isinstance hrow (by decide) (by decide) (starEach_ns sa) (backTo_plain (by simp [noStar, sb]))) fun σ H Q ⟨W, ρ, S, d, S', hw, hv, hg, k⟩ => ?_⟩
  obtain ⟨x, S1, h1, hg⟩ := bnd_eq hg
  obtain ⟨r, h2, h3⟩ := map_eq hg
  cases h3
  refine ⟨W, ρ, S, x, _, hw, hv, h1, fun v H1 W1 e1 w1 p1 => ?_⟩
  obtain ⟨T, q1, q2⟩ := isi_at ck w1 p1 ht h2
  exact ⟨v, cv, T, cu, r, rfl, ht.cv, hK ▸ q1, hK ▸ q2, k _ H1 W1 e1 w1 (rep_bl (C := C) (W := W1) _)⟩
end
end MT

set_option maxRecDepth 100000
set_option maxHeartbeats 4000000
/-! MTk: reversed slices. -/
namespace MT
open PySem PySem.Spec PyProof.Rows HT
section
variable {prog : Program} {w : World} {A : Around} {E : Value → Shared → Prop} {s : Shared}
theorem sliceApplied_rev {sl : Addr} {u : Tok} {n : Nat} {Q : Int × Int × Nat → Shared → Prop} (hs : s.heap.IsSliceOf sl .none .none (.int (-1) u))
    (h : Q ((n : Int) - 1, -1, n) s) : wpAny (model prog w) A (Builtin.Slice.sliceApplied (.ref sl) (pure (n : Int))) Q E s := by
  obtain ⟨os, hos, hcs, hds⟩ := id hs
  unfold Builtin.Slice.sliceApplied Builtin.Slice.sliceFields
  refine wpAny_bind (wpAny_bind (wpAny_field hos hds (x := .none) rfl (wpAny_bind (wpAny_field hos hds (x := .none) rfl (wpAny_bind (wpAny_field hos hds (x := .int (-1) u) rfl (wpAny_pure ?_)))))))
  refine wpAny_bind (slicePart_int ?_)
  show wpAny _ _ (if (((-1) : Int) == 0) = true then _ else _) _ _ s
  rw [if_neg (by decide)]
  refine wpAny_bind (slicePart_none (wpAny_bind (slicePart_none (wpAny_bind (wpAny_pure ?_)))))
  show wpAny _ _ (match Builtin.Slice.sliceAdjust none none (-1) (n : Int) with | (lo, hi) => pure (lo, (-1 : Int), Builtin.Slice.slicePlaces lo hi (-1))) _ _ s
  have e1 : Builtin.Slice.sliceAdjust none none (-1) (n : Int) = ((n : Int) - 1, -1) := by
    unfold Builtin.Slice.sliceAdjust
    simp
  rw [e1]
  show wpAny _ _ (pure ((n : Int) - 1, (-1 : Int), Builtin.Slice.slicePlaces ((n : Int) - 1) (-1) (-1))) _ _ s
  have e2 : Builtin.Slice.slicePlaces ((n : Int) - 1) (-1) (-1) = n := by
    unfold Builtin.Slice.slicePlaces
    simp
    split <;> omega
  rw [e2]
  exact wpAny_pure h
theorem pick_rev (xs : Array Value) : ((List.range xs.size).filterMap fun (m : Nat) => xs[(((xs.size : Int) - 1) + (m : Int) * (-1)).toNat]?).toArray = xs.toList.reverse.toArray := by
  have e : ((List.range xs.size).filterMap fun (m : Nat) => xs[(((xs.size : Int) - 1) + (m : Int) * (-1)).toNat]?) = ((List.range xs.size).map fun k => xs.size - 1 - k).filterMap (xs[·]?) := by
    rw [List.filterMap_map]
    have : ∀ l : List Nat, (∀ m ∈ l, m < xs.size) → l.filterMap (fun (m : Nat) => xs[(((xs.size : Int) - 1) + (m : Int) * (-1)).toNat]?) = l.filterMap ((xs[·]?) ∘ fun k => xs.size - 1 - k) := by
      intro l
      induction l with
      | nil => intro _; rfl
      | cons m l ih =>
        intro hl
        have hm := hl m List.mem_cons_self
        have e : (((xs.size : Int) - 1) + (m : Int) * (-1)).toNat = xs.size - 1 - m := by omega
        rw [List.filterMap_cons, List.filterMap_cons, ih fun z hz => hl z (List.mem_cons_of_mem _ hz)]
        rw [e]
        rfl
    exact this _ fun m hm => List.mem_range.mp hm
  rw [e, PySem.W.krv_range, List.filterMap_reverse, PySem.W.krv_all]
theorem getItem_tuple_rev {t sl : Addr} {items : Array Value} {u : Tok} {Q : Value → Shared → Prop} (ht : IsTup s.heap t items) (hs : s.heap.IsSliceOf sl .none .none (.int (-1) u))
    (h : Q (.ref s.heap.objs.size) { s with heap := s.heap.push { cls := .type "tuple", data := .seq items.toList.reverse.toArray } })
    (hsz : items.size ≤ sizeLine) : wpAny (model prog w) A (getItem (.ref t) (.ref sl)) Q E s := by
  have htake : sizeOk (.seq items.toList.reverse.toArray) := by
    show items.toList.reverse.toArray.size ≤ sizeLine
    rw [List.size_toArray, List.length_reverse, Array.length_toList]
    exact hsz
  obtain ⟨os, hos, hcs, hds⟩ := id hs
  have hTs : s.TypeIs (.ref sl) "slice" := ⟨os, hos, hcs⟩
  unfold getItem
  try with_reducible refine wpAny_holding ?_
  first | refine wpAny_bind (wpAny_pure ?_) | skip
  refine wpAny_bind (wpAny_sequenceKey ht.typeIs (by decide) ?_)
  refine wpAny_bind (wpAny_callSpecial?_slot (name := Str.ofString "__getitem__") ht.typeIs PyProof.Rows.slot_tuple_getitem
    (wpAny_call_entry PyProof.Rows.slot_tuple_getitem ht.typeIs entry_tuple_getitem ?_ (args_tuple_getitem _ _)))
  show wpAny _ _ (Builtin.Tuple.tupleItemsOf (.ref t) >>= _) _ _ s
  refine wpAny_bind (tupleItemsOf_ ht ?_)
  refine wpAny_bind (wpAny_typeOf hTs ?_)
  rw [if_pos (by decide)]
  refine wpAny_bind (sliceApplied_rev hs ?_)
  have hno : ¬ ((((items.size : Int) - 1) == 0 && (-1 : Int) == 1 && items.size == items.size) = true) := by simp
  show wpAny _ _ (if (((items.size : Int) - 1) == 0 && (-1 : Int) == 1 && items.size == items.size) = true then _ else _) _ _ s
  rw [if_neg hno, pick_rev]
  first
    | exact wpAny_bind (m := Builtin.Tuple.tupleExact _) (wpAny_newObj_type (wpAny_pure ⟨_, rfl, wpAny_pure h⟩) htake)
    | exact wpAny_bind (m := Builtin.Tuple.tupleExact _) (wpAny_newObj_type (wpAny_bind (wpAny_pure (wpAny_pure ⟨_, rfl, wpAny_pure h⟩))) htake)
    | exact wpAny_bind (wpAny_bind (m := Builtin.Tuple.tupleExact _) (wpAny_newObj_type (wpAny_pure (wpAny_pure ⟨_, rfl, wpAny_pure h⟩)) htake))
    | exact wpAny_bind (wpAny_bind (m := Builtin.Tuple.tupleExact _) (wpAny_newObj_type (wpAny_pure ⟨_, rfl, wpAny_pure h⟩) htake))
end
open L2
def tRev (K : PySem.W.Frag) (te : TE) : TE := fun σ H Q => te σ H fun x H1 => (∃ a xs, x = .ref a ∧ SqL K H1 a xs ∧ ∀ p, H1 p = none → Q (.ref p) (upd H1 p (.lst xs.reverse))) ∨
  ∃ a xs, x = .ref a ∧ SqT K H1 a xs ∧ ∀ p, H1 p = none → Q (.ref p) (upd H1 p (.tup xs.reverse))
section
variable {X : Cx} {C : Cst} {md : Nat → Mo} {H0 : Hp} {mo : Mo} {a b c e : Expr} {es : List Expr} {pos : Pos} {ga gb gc : Gv}
theorem pe_rev {e : Expr} {te : TE} {k : Nat} {p1 p2 p3 pos : Pos} (he : PE X e te) : PE X (.Subscript e (.Slice none none (some (.UnaryOp .USub (.Constant (.int 1) k p1) p2)) p3) pos) (tRev X.K te) := by
  refine ⟨fun pins s σ H Q I h => ?_⟩
  refine Subscript_ (thn (he.run pins s σ H _ I h) fun v s1 ⟨x, H1, I1, r1, q1⟩ => ?_)
  have hst : PO X (some (.UnaryOp .USub (.Constant (.int 1) k p1) p2)) (tPart (tUn (rU fun i => .int (-i)) (tC (.int 1)))) := po_some (pe_un un_neg pe_int)
  refine wpAny_Slice (thn (po_none.run pins s1 σ H1 (fun o H2 => o = none ∧ H2 = H1) I1 ⟨rfl, rfl⟩) fun vl s2 ⟨l, H2, I2, pl, el, e2⟩ => ?_)
  subst el e2
  refine thn (po_none.run pins s2 σ H2 (fun o H3 => o = none ∧ H3 = H2) I2 ⟨rfl, rfl⟩) fun vu s3 ⟨u, H3, I3, pu, eu, e3⟩ => ?_
  subst eu e3
  refine thn (hst.run pins s3 σ H3 (fun o H4 => o = some (-1) ∧ H4 = H3) I3 ⟨1, rfl, -1, rfl, rfl, rfl⟩) fun vs s4 ⟨o, H4, I4, ps, eo, e4⟩ => ?_
  subst eo e4
  have I5 : Inv X pins σ H4 { s4 with heap := s4.heap.push { cls := .type "slice", data := .fields #[vl, vu, vs] } } := I4.kept (t' := s4.toks) fun b ob q => Heap.get?_push_of_some _ q
  cases pl
  cases pu
  cases ps with
  | int i tk =>
  rcases q1 with ⟨a, xs, ex, hx, q⟩ | ⟨a, xs, ex, hx, q⟩
  · subst ex
    cases r1
    obtain ⟨its, r, ht, hz⟩ := I5.list hx
    show wpAny (model X.prog X.w) X.A (subscriptTail e (.Slice none none (some (.UnaryOp .USub (.Constant (.int 1) k p1) p2)) p3) (.ref a) (.ref s4.heap.objs.size)) (EP X pins σ Q) X.xe _
    refine tail_any (ops := [.ref a, .ref s4.heap.objs.size]) ht.isList.typeIs (PySem.slot_list_getitem.lookup) ?_ (by with_unfolding_all rfl)
    refine wpAny_getItem_list_slice ht.isList (Heap.IsSliceOf.new _ _ _ _) .none .none (.int (-1) tk) (by decide) ?_ (by rw [List.size_toArray]; have := r.length; omega)
    rw [PySem.W.krv_pick]
    refine ⟨.ref _, _, I5.laid (t' := s4.toks) (o := .lst xs.reverse) (fun b ob q => Heap.get?_push_of_some _ q) (Nat.le_refl _) ?_, rfl, q _ (I5.hok.fresh (Nat.le_refl _))⟩
    exact ⟨by rw [List.length_reverse]; exact hz, _, 0, r.reverse, Heap.get?_push_size _ rfl⟩
  · subst ex
    cases r1
    obtain ⟨its, r, ht, hz⟩ := I5.tuple hx
    show wpAny (model X.prog X.w) X.A (subscriptTail e (.Slice none none (some (.UnaryOp .USub (.Constant (.int 1) k p1) p2)) p3) (.ref a) (.ref s4.heap.objs.size)) (EP X pins σ Q) X.xe _
    refine tail_any (ops := [.ref a, .ref s4.heap.objs.size]) ht.typeIs (PyProof.Rows.slot_tuple_getitem.lookup) ?_ (by with_unfolding_all rfl)
    refine getItem_tuple_rev ht (Heap.IsSliceOf.new _ _ _ _) ?_ (by rw [List.size_toArray]; have := r.length; omega)
    refine ⟨.ref _, _, I5.laid (t' := s4.toks) (o := .tup xs.reverse) (fun b ob q => Heap.get?_push_of_some _ q) (Nat.le_refl _) ?_, rfl, q _ (I5.hok.fresh (Nat.le_refl _))⟩
    exact ⟨by rw [List.length_reverse]; exact hz, _, r.reverse, _, Heap.get?_push_size _ rfl, rfl, _, rfl⟩
def revD2 (x : D) (S : Store) : Option (D × Store) := (revD x).map fun z => (z, S)
theorem ev_rev {k : Nat} {p1 p2 p3 : Pos} (hK : X.K = C.K) (ha : EV X C md H0 .bor a ga) :
    EV X C md H0 .own (.Subscript a (.Slice none none (some (.UnaryOp .USub (.Constant (.int 1) k p1) p2)) p3) pos) (fun ρ S => bnd (ga ρ S) fun x S => revD2 x S) := by
  refine ⟨PE.imp (pe_rev ha.pe) fun σ H Q ⟨W, ρ, S, d, S', hw, hv, hg, q⟩ => ?_⟩
  obtain ⟨x, S1, g1, hg⟩ := bnd_eq hg
  obtain ⟨z, h1, h2⟩ := map_eq (show (revD x).map (fun z => (z, S1)) = some (d, S') from hg)
  cases h2
  refine ⟨W, ρ, S, x, _, hw, hv, g1, fun v H1 W1 e1 w1 p1 => ?_⟩
  cases x with
  | tup l =>
    cases h1
    obtain ⟨a, xs, rfl, hx, r⟩ := rb_tup w1 p1
    exact .inr ⟨a, xs, rfl, by rw [hK]; exact hx, fun p hp => new_tup w1 hp r.reverse fun v H' W' e w r => q v H' W' (e1.trans e) w (post_of rfl r)⟩
  | lst l =>
    cases h1
    obtain ⟨a, xs, rfl, hx, r⟩ := rb_lst w1 p1
    exact .inl ⟨a, xs, rfl, SqL.of hx, fun p hp => new_lst w1 hp r.reverse fun v H' W' e w r => q v H' W' (e1.trans e) w (Post.base e1 r)⟩
  | _ => cases h1
end
end MT

set_option maxRecDepth 100000
set_option maxHeartbeats 4000000
/-! MTl: enumerate(tuple). -/
namespace MT
open PySem PySem.Spec PyProof.Rows L2
theorem meets_enumerate_newT (t : Addr) (items : Array Value) :
    Meets (Builtin.«enumerate.__new__» ⟨[.type "enumerate", .ref t], []⟩) (fun _ R s => s.heap.IsTuple t items ∧
      R (.ok (.ret (.ref (s.heap.push { cls := .type "tuple_iterator", data := .fields #[.ref t, .int 0 0] }).objs.size)))
        { s with heap := (s.heap.push { cls := .type "tuple_iterator", data := .fields #[.ref t, .int 0 0] }).push { cls := .type "enumerate", data := .fields #[.none, .bool false, .ref s.heap.objs.size, rawInt 0, .none, .none] } }) :=
  .of_wp fun prog w A R s h => by
    obtain ⟨hp, g, d, tk, os⟩ := s; obtain ⟨h1, h⟩ := h
    have hsub := sub_enumerate
    have q1 : ∀ {A' : Around} {E : Value → Shared → Prop} {Q : Value → Shared → Prop}, Q (.ref hp.objs.size) ⟨hp.push { cls := .type "tuple_iterator", data := .fields #[.ref t, .int 0 0] }, g, d, tk, os⟩ → wpAny (model prog w) A' (pyIter (.ref t)) Q E ⟨hp, g, d, tk, os⟩ :=
      fun q => wpAny_pyIter_tuple h1 q
    wp_walk using q1
    refine wpAny_stack_any fun st => wpAny_pure ?_
    split
    · rename_i c _ _ _ _ _
      cases (c == Value.type "enumerate")
      · wp_walk using q1
        exact ⟨_, rfl, h⟩
      · wp_walk using q1
        exact ⟨_, rfl, h⟩
    · wp_walk using q1
      exact ⟨_, rfl, h⟩
section
variable {prog : Program} {w : World} {A : Around} {E : Value → Shared → Prop} {s : Shared}
theorem call_enumerate_tuple {t : Addr} {items : Array Value} {Q : Value → Shared → Prop} (hT : s.heap.IsTuple t items)
    (h : ∀ h', IsEnum h' (s.heap.objs.size + 1) s.heap.objs.size 0 .none → h'.IsTupleIter s.heap.objs.size t 0 → h'.objs.size = s.heap.objs.size + 2 →
      (∀ b o, s.heap.get? b = some o → h'.get? b = some o) → Q (.ref (s.heap.objs.size + 1)) { s with heap := h' }) :
    wpAny (model prog w) A (call (.type "enumerate") [.ref t]) Q E s := by
  refine callType_new F.called_enumerate (by decide) (F.typeCall_enumerate_1 _) (F.newCall_enumerate_1 _) (fun obj => F.args_object_init_2 obj _) F.entry_enumerate_new
    (meets_enumerate_newT t items) ⟨hT, ?_⟩
  have hz : (s.heap.push { cls := .type "tuple_iterator", data := .fields #[.ref t, .int 0 0] }).objs.size = s.heap.objs.size + 1 := Heap.size_push ..
  show _ ∧ _
  rw [hz]
  have he : IsEnum ((s.heap.push { cls := .type "tuple_iterator", data := .fields #[.ref t, .int 0 0] }).push
      { cls := .type "enumerate", data := .fields #[.none, .bool false, .ref s.heap.objs.size, rawInt 0, .none, .none] }) (s.heap.objs.size + 1) s.heap.objs.size 0 .none := by
    have := Heap.get?_push_size (s.heap.push { cls := .type "tuple_iterator", data := .fields #[.ref t, .int 0 0] })
      (o := { cls := .type "enumerate", data := .fields #[.none, .bool false, .ref s.heap.objs.size, rawInt 0, .none, .none] }) rfl
    rw [hz] at this; exact this
  refine ⟨⟨_, he, rfl⟩, h _ he ?_ (by rw [Heap.size_push, hz]) fun b o x => Heap.get?_push_of_some _ (Heap.get?_push_of_some _ x)⟩
  exact ⟨_, Heap.get?_push_of_some _ (Heap.get?_push_size _ rfl), rfl, rfl⟩
end
/-- the tuple at a, each item in a new pair -/
def IteT (K : PySem.W.Frag) (a : Addr) : L2.It :=
  ⟨fun i H => ∃ (xs : List V) (x : V), SqT K H a xs ∧ xs[i]? = some x, fun i H v H' => ∃ T x, v = .ref T ∧ H T = none ∧ H' = upd H T (.tup [.int (i : Nat), x]) ∧ ∀ xs, SqT K H a xs → xs[i]? = some x, fun i H => ∃ xs : List V, SqT K H a xs ∧ xs.length = i⟩
theorem turn_enumT {P : Program} {w : World} {K : PySem.W.Frag} {elts : List Expr} {kk : Nat} {tpos : Pos} (a e it : Addr) (hai : a ≠ it) (hae : a ≠ e) :
    Turn P w K (.Tuple elts kk tpos) (IteT K a) [e, it] e (fun i h => (∃ old, IsEnum h e it ((i : Nat) : Int) old) ∧ h.IsTupleIter it a i ∧ e ≠ it) where
  mem := by simp
  obj := fun i h st b hb => by
    obtain ⟨⟨old, he⟩, ⟨o, ho, hc, hd⟩, _⟩ := st
    have e' : b = e ∨ b = it := by simpa using hb
    rcases e' with z | z
    · rw [z]; exact ⟨_, he, fun v q => nomatch q⟩
    · rw [z]; exact ⟨o, ho, fun v q => by rw [hd] at q; cases q⟩
  keep := fun i h h' st k => let ⟨⟨old, he⟩, hi, hne⟩ := st; ⟨⟨old, k e (by simp) _ he⟩, hi.at fun o q => k it (by simp) o q, hne⟩
  item := by
    intro X hP hw hK hc i pins s σ H E I hf st hg
    subst hP hw hK
    obtain ⟨⟨old, he⟩, hit, hne⟩ := st
    obtain ⟨xs, x, hq, hx⟩ := hg
    obtain ⟨its, rv, p, hz⟩ := I.tuple hq
    obtain ⟨u, hu, ru⟩ := rv.get hx
    have hel : e < s.heap.objs.size := Heap.lt_size he
    have hil : it < s.heap.objs.size := by obtain ⟨_, q, _⟩ := hit; exact Heap.lt_size q
    have hlt : i < its.toArray.size := by simpa using (List.getElem?_eq_some_iff.mp hu).1
    refine wpAny_pyNext_enum_itemD (fp := [it, a]) (Draws.tuple (A := X.A.in1) (I.ok.hd hc) it a hai its.toArray) he ⟨hit, p⟩ hlt hne (by simp [hne, Ne.symm hae]) fun y h' tk hy ho hst' hT hsz hk => ?_
    obtain rfl : y = u := by
      have hy : its.toArray[i]? = some y := hy
      have : its[i]? = some y := by simpa using hy
      rw [hu] at this
      exact (Option.some.inj this).symm
    refine ⟨_, rfl, wpAny_letOwnedTupleGo_enum (s := { s with heap := h', toks := tk + 1 }) ho fun h'' he' sb => ?_⟩
    have hT2 : h''.get? s.heap.objs.size = some { cls := .type "tuple", data := .seq #[.int i tk, y] } := (sb.2 _ (Nat.ne_of_gt hel)).trans hT
    have new : ObjOk X.prog X.w (upd H s.heap.objs.size (.tup [.int (i : Nat), x])) h'' s.heap.objs.size (.tup [.int (i : Nat), x]) :=
      ⟨by show 2 ≤ sizeLine; decide, [.int i tk, y], .cons ⟨_, rfl⟩ (.cons ru .nil), ⟨_, hT2, rfl, _, rfl⟩⟩
    have I1 : Inv X pins σ (upd H s.heap.objs.size (.tup [.int (i : Nat), x])) { s with heap := h'', toks := tk + 1 } :=
      I.turnedNew (ch := [e, it]) (fun b ob hb q => (sb.2 b (fun z => hb (by simp [z]))).trans (hk b ob (fun z => hb (by simp [z])) (fun z => hb (by simp [z])) q)) hf (Nat.le_refl _) new
    refine ⟨.ref s.heap.objs.size, _, I1, rfl, ⟨_, x, rfl, I.hok.fresh (Nat.le_refl _), rfl, fun ys hy => by rw [I.tuple_inj hy hq]; exact hx⟩, ⟨⟨y, ?_⟩, hst'.1.at fun o q => (sb.2 it (Ne.symm hne)).trans q, hne⟩, fun b hb => ?_⟩
    · have e1 : ((i + 1 : Nat) : Int) = (i : Int) + 1 := by omega
      rw [e1]; exact he'
    · have hb' : b < s.heap.objs.size := by
        have e' : b = e ∨ b = it := by simpa using hb
        rcases e' with z | z
        · rw [z]; exact hel
        · rw [z]; exact hil
      rw [upd_ne (Nat.ne_of_lt hb')]
      exact (hf b hb).1
  done := by
    intro X hP hw hK hc i pins s σ H E I hf st hg
    subst hP hw hK
    obtain ⟨⟨old, he⟩, hit, hne⟩ := st
    obtain ⟨xs, hq, hx⟩ := hg
    obtain ⟨its, rv, p, hz⟩ := I.tuple hq
    obtain ⟨f0, f1, f2, f3, f4, f5⟩ := hf it (by simp)
    have hl := rv.length
    obtain rfl : i = its.toArray.size := by rw [List.size_toArray]; omega
    exact wpAny_pyNext_enum_endD (fp := [it, a]) (Draws.tuple (A := X.A.in1) (I.ok.hd hc) it a hai its.toArray) he ⟨hit, p⟩ fun h' eb => ⟨rfl, I.turned (t' := s.toks) (fun b o hb q => eb b o hb q) f0 f1 f3 f4 f5⟩
  self := fun A i s Q E st h => let ⟨⟨_, he⟩, _⟩ := st; wpAny_pyIter_enum he h
def iEnumA (K : PySem.W.Frag) (te : TE) : L2.TI := fun σ H R => te σ H fun v H1 => (∃ a xs, v = .ref a ∧ SqL K H1 a xs ∧ R (Ite K a) H1) ∨ ∃ a xs, v = .ref a ∧ SqT K H1 a xs ∧ R (IteT K a) H1
theorem pi_enumA {X : Cx} {e : Expr} {te : TE} {p pos tpos : Pos} {elts : List Expr} {kk : Nat} (hg : Gl X "enumerate") (hm : X.mg "enumerate" = none) (ha : PE X e te) (hs : isStar e = false) :
    PI X (.Tuple elts kk tpos) (.Call (.Name "enumerate" p) [e] [] pos) (iEnumA X.K te) := by
  refine ⟨fun pins s σ H R I h => ?_⟩
  have hrow : PA X [e] (tCons te tNil) := pa_cons ha pa_nil (starEach_ns hs)
  have h : tCons te tNil σ H (fun vs H1 => match vs with
    | [v] => ((∃ a xs, v = .ref a ∧ SqL X.K H1 a xs ∧ R (Ite X.K a) H1) ∨ ∃ a xs, v = .ref a ∧ SqT X.K H1 a xs ∧ R (IteT X.K a) H1)
    | _ => False) := h
  refine Call_ (ld_blt I hg (by exact hm) boot_enumerate (PyProof.Rows.callWith_type1 (thn (hrow.run pos pins s σ H _ I h) fun us s1 ⟨vs, H1, I1, r1, q1⟩ => ?_) (starEach_ns hs) rfl))
  dsimp only at q1
  split at q1
  rotate_left
  · exact q1.elim
  rename_i v
  obtain ⟨u, rfl, r⟩ := vals1 r1
  rcases q1 with ⟨a, xs, ex, hq, q⟩ | ⟨a, xs, ex, hq, q⟩
  · subst ex
    cases r
    obtain ⟨its, rv, p', hz⟩ := I1.list hq
    refine call_enumerate_list p'.isList fun h' he hit hsz hk => wpAny_pyIter_enum he ?_
    have I2 : Inv X pins σ H1 { s1 with heap := h' } := I1.kept (t' := s1.toks) hk
    refine ⟨s1.heap.objs.size + 1, [s1.heap.objs.size + 1, s1.heap.objs.size], _, _, H1, rfl, I2, turn_enum a (s1.heap.objs.size + 1) s1.heap.objs.size, ⟨⟨.none, he⟩, hit, Nat.succ_ne_self _⟩, fun b hb => ?_, q⟩
    have e' : b = s1.heap.objs.size + 1 ∨ b = s1.heap.objs.size := by simpa using hb
    have hle : s1.heap.objs.size ≤ b := by
      rcases e' with z | z
      · rw [z]; exact Nat.le_add_right _ _
      · rw [z]; exact Nat.le_refl _
    exact I1.fpOk hle (I1.hok.fresh hle)
  · subst ex
    cases r
    obtain ⟨its, rv, p', hz⟩ := I1.tuple hq
    have hlt : a < s1.heap.objs.size := p'.lt
    refine call_enumerate_tuple p' fun h' he hit hsz hk => wpAny_pyIter_enum he ?_
    have I2 : Inv X pins σ H1 { s1 with heap := h' } := I1.kept (t' := s1.toks) hk
    refine ⟨s1.heap.objs.size + 1, [s1.heap.objs.size + 1, s1.heap.objs.size], _, _, H1, rfl, I2, turn_enumT a (s1.heap.objs.size + 1) s1.heap.objs.size (Nat.ne_of_lt hlt) (Nat.ne_of_lt (Nat.lt_succ_of_lt hlt)), ⟨⟨.none, he⟩, hit, Nat.succ_ne_self _⟩, fun b hb => ?_, q⟩
    have e' : b = s1.heap.objs.size + 1 ∨ b = s1.heap.objs.size := by simpa using hb
    have hle : s1.heap.objs.size ≤ b := by
      rcases e' with z | z
      · rw [z]; exact Nat.le_add_right _ _
      · rw [z]; exact Nat.le_refl _
    exact I1.fpOk hle (I1.hok.fresh hle)
end MT

set_option maxRecDepth 100000
set_option maxHeartbeats 4000000
/-! MTm: what is walked, targets, comprehensions. -/
namespace MT
open PySem PySem.Spec PyProof.Rows L2

/-! ### a change at an object that nobody else knows -/
section
variable {C : Cst} {W W' W1 : Wd} {H H' H0 H1 : Hp} {S S' : Store} {md : Nat → Mo} {ρ : Envr} {σ : L2.St} {d : D} {v : V}
theorem tabs_upd {T : List NdefX.NTab} {a : Addr} {o u : HO} (h : NdefX.TabsN T H) (ha : H a = some u) (n1 : ∀ ps, u ≠ .tbl ps) (n2 : ∀ c q, u ≠ LamX.CodeO c q) : NdefX.TabsN T (upd H a o) := fun p hp => by
  obtain ⟨ps, h1, h2, h3⟩ := h p hp
  refine ⟨ps, ?_, h2, fun pos cv hc => ?_⟩
  · rw [upd_ne]
    · exact h1
    · intro e
      rw [e, ha] at h1
      exact n1 ps (Option.some.inj h1)
  · obtain ⟨c, e1, e2⟩ := h3 pos cv hc
    refine ⟨c, e1, ?_⟩
    rw [upd_ne]
    · exact e2
    · intro e
      rw [e, ha] at e2
      exact n2 _ _ (Option.some.inj e2)
theorem codeO_lst {c : Addr} {q : Str} {xs : List V} : HO.lst xs ≠ LamX.CodeO c q := fun z => by unfold LamX.CodeO at z; cases z
theorem codeO_dK {c : Addr} {q : Str} {xs : List (Key × V)} : HO.dK xs ≠ LamX.CodeO c q := fun z => by unfold LamX.CodeO at z; cases z
theorem RepH.code {d : D} {o : HO} (h : RepH C W d o) : ∀ c q, o ≠ LamX.CodeO c q := by
  intro c q
  unfold RepH at h
  split at h
  · obtain ⟨xs, rfl, _⟩ := h
    exact codeO_lst
  · obtain ⟨xs, rfl, _⟩ := h
    exact codeO_dK
  · exact h.elim
theorem SW.upd {a : Addr} {o u : HO} (w : SW C W S H) (ha : H a = some u) (hm : a ∉ W.m) (hf : W.F a = none) (n1 : ∀ ps, u ≠ .tbl ps) (n2 : ∀ c q, u ≠ LamX.CodeO c q) (n3 : ∀ c q, o ≠ LamX.CodeO c q := by intro c q z; unfold LamX.CodeO at z; cases z) : SW C W S (L2.upd H a o) := by
  refine ⟨fun b x e => ?_, tabs_upd w.tabs ha n1 n2, fun c q e => ?_, w.nd, w.len, fun n ob e => ?_⟩
  · obtain ⟨h1, h2, h3⟩ := w.sub b x e
    refine ⟨?_, h2, h3⟩
    rw [upd_ne]
    · exact h1
    · intro z; rw [z, hf] at e; cases e
  · by_cases z : c = a
    · rw [z, upd_same] at e
      exact absurd (Option.some.inj e) (n3 _ _)
    · rw [upd_ne z] at e
      exact w.codes c q e
  · obtain ⟨b, x, h1, h2, h3⟩ := w.st n ob e
    refine ⟨b, x, h1, ?_, h3⟩
    rw [upd_ne]
    · exact h2
    · intro z; rw [z] at h1; exact hm (List.mem_of_getElem? h1)
theorem Ext.upd {W0' : Wd} {a : Addr} {o u : HO} (e : Ext W0' H0 W H) (ha : H a = some u) (h0 : H0 a = none) : Ext W0' H0 W (L2.upd H a o) := by
  refine ⟨e.w, fun b x h n t => ?_, fun b h => ?_, e.mnew, e.fnew⟩
  · rw [upd_ne]
    · exact e.keep b x h n t
    · intro z; rw [z, h0] at h; cases h
  · refine e.dom b ?_
    by_cases z : b = a
    · rw [z, upd_same] at h; cases h
    · rw [upd_ne z] at h; exact h
theorem Ext.upd_none {W0' : Wd} {a : Addr} {o : HO} (e : Ext W0' H0 W H) (ha : H a = none) : Ext W0' H0 W (L2.upd H a o) := e.trans (new_ext ha)
/-! ### wiped slots -/
theorem SV.wipe1 (h : SV C md W ρ σ H H0) (i : Nat) : SV C md W (ρ.set i none) (σ.set i none) H H0 := by
  refine ⟨by rw [List.length_set, List.length_set]; exact h.len, fun j d e => ?_, fun j k d e v hjk h1 h2 h3 h4 h5 h6 => ?_⟩
  · by_cases hj : i = j
    · subst hj
      rw [List.getElem?_set] at e
      simp at e
    · rw [List.getElem?_set_ne hj] at e
      obtain ⟨v, q1, q2⟩ := h.loc j d e
      exact ⟨v, by rw [List.getElem?_set_ne hj]; exact q1, q2⟩
  · have ne : ∀ (k : Nat) (d : D), (ρ.set i none)[k]? = some (some d) → i ≠ k := fun k d e z => by
      subst z
      rw [List.getElem?_set] at e
      simp at e
    have n1 := ne _ _ h3
    have n2 := ne _ _ h4
    rw [List.getElem?_set_ne n1] at h3 h5
    rw [List.getElem?_set_ne n2] at h4 h6
    exact h.sep j k d e v hjk h1 h2 h3 h4 h5 h6
theorem SV.wipe (h : SV C md W ρ σ H H0) : ∀ vs : List Nat, SV C md W (wipeE ρ vs) (L2.wipe σ vs) H H0
  | [] => h
  | v :: vs => (SV.wipe h vs).wipe1 v
/-! ### a slot set -/
theorem SV.setF {i : Nat} (h : SV C md W ρ σ H H0) (hm : md i = .frz) (r : Rep C W d v) (hi : i < σ.length) : SV C md W (ρ.set i (some d)) (σ.set i (some v)) H H0 := by
  refine ⟨by rw [List.length_set, List.length_set]; exact h.len, fun j d' e => ?_, fun j k d' e' v' hjk h1 h2 h3 h4 h5 h6 => ?_⟩
  · by_cases hj : i = j
    · subst hj
      rw [List.getElem?_set_self (by rw [h.len]; exact hi)] at e
      cases e
      refine ⟨v, List.getElem?_set_self hi, ?_⟩
      rw [hm]
      exact r
    · rw [List.getElem?_set_ne hj] at e ⊢
      exact h.loc j d' e
  · have n1 : i ≠ j := fun z => by rw [z, h1] at hm; cases hm
    have n2 : i ≠ k := fun z => by rw [z, h2] at hm; cases hm
    rw [List.getElem?_set_ne n1] at h3 h5
    rw [List.getElem?_set_ne n2] at h4 h6
    exact h.sep j k d' e' v' hjk h1 h2 h3 h4 h5 h6
end
/-- agreeing but at is -/
def Agr (is : List Nat) (σ σ' : L2.St) : Prop := σ'.length = σ.length ∧ ∀ i, i ∉ is → σ'[i]? = σ[i]?
theorem Agr.refl (is : List Nat) (σ : L2.St) : Agr is σ σ := ⟨rfl, fun _ _ => rfl⟩
theorem Agr.trans {is js : List Nat} {a b c : L2.St} (h : Agr is a b) (k : Agr js b c) : Agr (is ++ js) a c :=
  ⟨k.1.trans h.1, fun i hi => (k.2 i fun z => hi (List.mem_append_right _ z)).trans (h.2 i fun z => hi (List.mem_append_left _ z))⟩
theorem Agr.set {i : Nat} {σ : L2.St} {v : Option V} : Agr [i] σ (σ.set i v) := ⟨List.length_set, fun j hj => List.getElem?_set_ne fun z => hj (by simp [z])⟩
theorem wipe_in {σ : L2.St} : ∀ {vs : List Nat} {i : Nat}, i ∈ vs → i < σ.length → (L2.wipe σ vs)[i]? = some none
  | v :: vs, i, h, hi => by
    unfold L2.wipe
    by_cases e : v = i
    · subst e
      exact List.getElem?_set_self (by rw [wipe_length]; exact hi)
    · rw [List.getElem?_set_ne e]
      exact wipe_in ((List.mem_cons.mp h).resolve_left fun z => e z.symm) hi
theorem Agr.wipe {is vs : List Nat} {σ σ' : L2.St} (h : Agr is σ σ') (hs : ∀ i ∈ is, i ∈ vs) : L2.wipe σ' vs = L2.wipe σ vs := by
  apply List.ext_getElem?
  intro i
  by_cases hi : i ∈ vs
  · by_cases hl : i < σ.length
    · rw [wipe_in hi (by rw [h.1]; exact hl), wipe_in hi hl]
    · rw [List.getElem?_eq_none (by rw [wipe_length, h.1]; omega), List.getElem?_eq_none (by rw [wipe_length]; omega)]
  · rw [wipe_out hi, wipe_out hi]
    exact h.2 i fun z => hi (hs i z)
theorem wipe_wipe {σ : L2.St} (vs : List Nat) : L2.wipe (L2.wipe σ vs) vs = L2.wipe σ vs := by
  apply List.ext_getElem?
  intro i
  by_cases hi : i ∈ vs
  · by_cases hl : i < σ.length
    · rw [wipe_in hi (by rw [wipe_length]; exact hl), wipe_in hi hl]
    · rw [List.getElem?_eq_none (by rw [wipe_length, wipe_length]; omega), List.getElem?_eq_none (by rw [wipe_length]; omega)]
  · rw [wipe_out hi]

/-! ### what is walked -/
def stab (mo : Mo) (W1 : Wd) (H1 : Hp) (W : Wd) (H : Hp) : Prop := match mo with
  | .frz => WLe W1 W
  | _ => Ext W1 H1 W H
/-- an iterator that gives the items -/
structure Wlk (C : Cst) (mo : Mo) (J : L2.It) (W1 : Wd) (H1 : Hp) (items : List D) : Prop where
  goes : ∀ i H W S, i < items.length → SW C W S H → stab mo W1 H1 W H → J.go i H
  stops : ∀ H W S, SW C W S H → stab mo W1 H1 W H → J.stop items.length H
  yields : ∀ i H x H' W S, i < items.length → SW C W S H → stab mo W1 H1 W H → J.yld i H x H' → ∃ W' d, Ext W H W' H' ∧ SW C W' S H' ∧ items[i]? = some d ∧ Rep C W' d x
theorem Wlk.bor {C : Cst} {J : L2.It} {W1 : Wd} {H1 : Hp} {items : List D} (h : Wlk C .frz J W1 H1 items) : Wlk C .bor J W1 H1 items :=
  ⟨fun i H W S hi w e => h.goes i H W S hi w e.w, fun H W S w e => h.stops H W S w e.w, fun i H x H' W S hi w e y => h.yields i H x H' W S hi w e.w y⟩
section
variable {C : Cst} {mo : Mo} {W1 : Wd} {H1 : Hp}
theorem wlk_seqL {a : Addr} {l : List D} {xs : List V} (r : RepL C W1 l xs) (st : ∀ W H S, SW C W S H → stab mo W1 H1 W H → SqL C.K H a xs) (le : ∀ W H, stab mo W1 H1 W H → WLe W1 W) : Wlk C mo (Itl C.K a) W1 H1 l := by
  refine ⟨fun i H W S hi w e => ⟨xs, xs[i]'(by rw [← r.length]; exact hi), st W H S w e, by simp⟩, fun H W S w e => ⟨xs, st W H S w e, by rw [r.length]; exact Nat.le_refl _⟩, fun i H x H' W S hi w e y => ?_⟩
  obtain ⟨e1, e2⟩ := y
  subst e1
  obtain ⟨d, h1, h2⟩ := r.get' (e2 xs (st W _ S w e))
  exact ⟨W, d, .refl _ _, w, h1, Rep.mono (le W _ e) _ _ h2⟩
theorem wlk_seqT {a : Addr} {l : List D} {xs : List V} (r : RepL C W1 l xs) (st : ∀ W H S, SW C W S H → stab mo W1 H1 W H → SqT C.K H a xs) (le : ∀ W H, stab mo W1 H1 W H → WLe W1 W) : Wlk C mo (Itt C.K a) W1 H1 l := by
  refine ⟨fun i H W S hi w e => ⟨xs, xs[i]'(by rw [← r.length]; exact hi), st W H S w e, by simp⟩, fun H W S w e => ⟨xs, st W H S w e, by rw [r.length]; exact Nat.le_refl _⟩, fun i H x H' W S hi w e y => ?_⟩
  obtain ⟨e1, e2⟩ := y
  subst e1
  obtain ⟨d, h1, h2⟩ := r.get' (e2 xs (st W _ S w e))
  exact ⟨W, d, .refl _ _, w, h1, Rep.mono (le W _ e) _ _ h2⟩
theorem stab_le : ∀ W H, stab mo W1 H1 W H → WLe W1 W := fun W H e => by
  cases mo with
  | frz => exact e
  | own => exact e.w
  | bor => exact e.w
theorem enumD_get : ∀ {l : List D} {n i : Nat} {d : D}, l[i]? = some d → (enumD n l)[i]? = some (.tup [.int ((n + i : Nat) : Int), d])
  | [], _, _, _, h => by simp at h
  | x :: l, n, 0, d, h => by
    simp at h
    subst h
    rfl
  | x :: l, n, i + 1, d, h => by
    have := enumD_get (n := n + 1) (i := i) (by simpa using h)
    show (enumD (n + 1) l)[i]? = _
    rw [this]
    have e : n + 1 + i = n + (i + 1) := by omega
    rw [e]
theorem enumD_length : ∀ (l : List D) (n : Nat), (enumD n l).length = l.length
  | [], _ => rfl
  | x :: l, n => by show (enumD (n + 1) l).length + 1 = l.length + 1; rw [enumD_length]
theorem new_pair {W : Wd} {S : Store} {H : Hp} {T : Addr} {x y : V} {dx dy : D} (w : SW C W S H) (hT : H T = none) (rx : Rep C W dx x) (ry : Rep C W dy y) :
    ∃ W', Ext W H W' (upd H T (.tup [x, y])) ∧ SW C W' S (upd H T (.tup [x, y])) ∧ Rep C W' (.tup [dx, dy]) (.ref T) := by
  have e0 := new_ext (W := W) (o := HO.tup [x, y]) hT
  have w0 := new_sw (o := HO.tup [x, y]) w hT (fun _ z => by cases z)
  have hf := w.notF hT
  refine ⟨W.fz T (.tup [x, y]), e0.fz hT hf, w0.fz upd_same (w.notm hT) hf (fun _ z => by cases z), ?_⟩
  exact rep_tup (xs := [x, y]) fz_at (.cons (Rep.mono (fz_le hf) _ _ rx) (.cons (Rep.mono (fz_le hf) _ _ ry) .nil))
theorem wlk_enumL {a : Addr} {l : List D} {xs : List V} (r : RepL C W1 l xs) (st : ∀ W H S, SW C W S H → stab mo W1 H1 W H → SqL C.K H a xs) : Wlk C mo (Ite C.K a) W1 H1 (enumD 0 l) := by
  refine ⟨fun i H W S hi w e => ⟨xs, xs[i]'(by rw [← r.length]; rw [enumD_length] at hi; exact hi), st W H S w e, by simp⟩, fun H W S w e => ⟨xs, st W H S w e, by rw [enumD_length, r.length]; exact Nat.le_refl _⟩, fun i H x H' W S hi w e y => ?_⟩
  obtain ⟨T, x', rfl, hT, rfl, hx⟩ := y
  obtain ⟨d, h1, h2⟩ := r.get' (hx xs (st W _ S w e))
  obtain ⟨W', e', w', r'⟩ := new_pair w hT (rep_int (i : Nat)) (Rep.mono (stab_le W _ e) _ _ h2)
  exact ⟨W', _, e', w', by rw [enumD_get h1, Nat.zero_add], r'⟩
theorem wlk_enumT {a : Addr} {l : List D} {xs : List V} (r : RepL C W1 l xs) (st : ∀ W H S, SW C W S H → stab mo W1 H1 W H → SqT C.K H a xs) : Wlk C mo (IteT C.K a) W1 H1 (enumD 0 l) := by
  refine ⟨fun i H W S hi w e => ⟨xs, xs[i]'(by rw [← r.length]; rw [enumD_length] at hi; exact hi), st W H S w e, by simp⟩, fun H W S w e => ⟨xs, st W H S w e, by rw [enumD_length, r.length]⟩, fun i H x H' W S hi w e y => ?_⟩
  obtain ⟨T, x', rfl, hT, rfl, hx⟩ := y
  obtain ⟨d, h1, h2⟩ := r.get' (hx xs (st W _ S w e))
  obtain ⟨W', e', w', r'⟩ := new_pair w hT (rep_int (i : Nat)) (Rep.mono (stab_le W _ e) _ _ h2)
  exact ⟨W', _, e', w', by rw [enumD_get h1, Nat.zero_add], r'⟩
theorem wlk_str {s : List Nat} (h : Asc s) : Wlk C mo (Its ⟨s.toArray⟩) W1 H1 (s.map fun c => .str [c]) := by
  refine ⟨fun i H W S hi w e => by simpa [Its] using hi, fun H W S w e => by simp [Its], fun i H x H' W S hi w e y => ?_⟩
  obtain ⟨rfl, c, hc, rfl⟩ := y
  have hc : s[i]? = some c := by simpa using hc
  refine ⟨W, .str [c], .refl _ _, w, by simp [hc], rep_str (s := [c]) ⟨fun z hz => ?_, by show 1 ≤ LIM; decide⟩⟩
  rw [List.mem_singleton.mp hz]
  exact h.1 c (List.mem_of_getElem? hc)
theorem rngD_get : ∀ {n : Nat} {a : Int} {i : Nat}, i < n → (rngD a n)[i]? = some (.int (a + i))
  | 0, _, _, h => by omega
  | n + 1, a, 0, _ => by show some (D.int a) = _; simp
  | n + 1, a, i + 1, h => by
    show (rngD (a + 1) n)[i]? = _
    rw [rngD_get (by omega)]
    have e : a + 1 + (i : Int) = a + ((i + 1 : Nat) : Int) := by omega
    rw [e]
theorem rngD_length : ∀ (n : Nat) (a : Int), (rngD a n).length = n
  | 0, _ => rfl
  | n + 1, a => by show (rngD (a + 1) n).length + 1 = n + 1; rw [rngD_length]
theorem wlk_rng {a : Int} {n : Nat} : Wlk C mo (Itr a n) W1 H1 (rngD a n) := by
  refine ⟨fun i H W S hi w e => by rw [rngD_length] at hi; exact hi, fun H W S w e => by rw [rngD_length]; exact Nat.le_refl n, fun i H x H' W S hi w e y => ?_⟩
  obtain ⟨rfl, rfl⟩ := y
  rw [rngD_length] at hi
  exact ⟨W, _, .refl _ _, w, rngD_get hi, rep_int _⟩
end
/-- the reading of an iterable -/
def TW (C : Cst) (md : Nat → Mo) (H0 : Hp) (mo : Mo) (gi : Gl') : L2.TI := fun σ H R =>
  ∃ W ρ S items S', SW C W S H ∧ SV C md W ρ σ H H0 ∧ gi ρ S = some (items, S') ∧ ∀ J H1 W1, Ext W H W1 H1 → SW C W1 S' H1 → Wlk C mo J W1 H1 items → R J H1
structure EI (X : Cx) (C : Cst) (md : Nat → Mo) (H0 : Hp) (mo : Mo) (tg iter : Expr) (gi : Gl') : Prop where
  pi : PI X tg iter (TW C md H0 mo gi)
theorem PI.imp {X : Cx} {tg e : Expr} {t t' : L2.TI} (h : PI X tg e t) (k : ∀ σ H Q, t' σ H Q → t σ H Q) : PI X tg e t' := ⟨fun pins s σ H Q I q => h.run pins s σ H Q I (k σ H Q q)⟩
def iAny (K : PySem.W.Frag) (te : TE) : L2.TI := fun σ H R => te σ H fun v H1 => (∃ a xs, v = .ref a ∧ SqL K H1 a xs ∧ R (Itl K a) H1) ∨ (∃ a xs, v = .ref a ∧ SqT K H1 a xs ∧ R (Itt K a) H1) ∨ ∃ z, v = .str z ∧ R (Its z) H1
section
variable {X : Cx} {C : Cst} {md : Nat → Mo} {H0 H0' : Hp} {W0 : Wd} {mo : Mo} {a b c e tg : Expr} {es : List Expr} {pos : Pos} {ga gb gc : Gv}
theorem pi_any {l : Expr} {tl : TE} (hl : PE X l tl) : PI X tg l (iAny X.K tl) := by
  refine ⟨fun pins s σ H R I h => ?_⟩
  refine thn (hl.run pins s σ H _ I h) fun v s1 ⟨x, H1, I1, r1, q1⟩ => ?_
  rcases q1 with ⟨a, xs, ex, hq, q⟩ | ⟨a, xs, ex, hq, q⟩ | ⟨z, ex, q⟩
  · subst ex
    cases r1
    obtain ⟨its, rv, p, hz⟩ := I1.list hq
    refine wpAny_pyIter_list p.isList ?_
    refine ⟨s1.heap.objs.size, [s1.heap.objs.size], _, _, H1, rfl, I1.kept (t' := s1.toks) fun b o e => Heap.get?_push_of_some _ e, turn_list a _, ⟨_, Heap.get?_push_size _ rfl, rfl, rfl⟩, fun b hb => ?_, q⟩
    have e : b = s1.heap.objs.size := by simpa using hb
    subst e
    exact I1.fpOk (Nat.le_refl _) (I1.hok.fresh (Nat.le_refl _))
  · subst ex
    cases r1
    obtain ⟨its, rv, p, hz⟩ := I1.tuple hq
    refine wpAny_pyIter_tuple (show s1.heap.IsTuple a its.toArray from p) ?_
    refine ⟨s1.heap.objs.size, [s1.heap.objs.size], _, _, H1, rfl, I1.kept (t' := s1.toks) fun b o e => Heap.get?_push_of_some _ e, turn_tuple a _, ⟨_, Heap.get?_push_size _ rfl, rfl, rfl⟩, fun b hb => ?_, q⟩
    have e : b = s1.heap.objs.size := by simpa using hb
    subst e
    exact I1.fpOk (Nat.le_refl _) (I1.hok.fresh (Nat.le_refl _))
  · subst ex
    obtain ⟨t, rfl⟩ := r1
    cases ha : z.cps.all (· < 128)
    · exact wpAny_pyIter_wide ha (pi_one (tk := s1.toks) I1 _ (turn_str _ z t "str_iterator" (.inr rfl)) ⟨_, Heap.get?_push_size _ rfl, rfl, rfl⟩ q)
    · exact wpAny_pyIter_ascii ha (pi_one (tk := s1.toks) I1 _ (turn_str _ z t "str_ascii_iterator" (.inl rfl)) ⟨_, Heap.get?_push_size _ rfl, rfl, rfl⟩ q)

/-- what is read stays as it is -/
theorem stab_L {W1 : Wd} {H1 : Hp} {S1 : Store} {l : List D} {v : V} (hmo : mo = .frz ∨ mo = .bor) (w1 : SW C W1 S1 H1) (p1 : Post C mo W0 H0' W1 H1 (.lst l) v) :
    ∃ a xs, v = .ref a ∧ H1 a = some (.lst xs) ∧ RepL C W1 l xs ∧ ∀ W H S, SW C W S H → stab mo W1 H1 W H → SqL C.K H a xs := by
  have fz : Rep C W1 (.lst l) v → ∃ a xs, v = .ref a ∧ H1 a = some (.lst xs) ∧ RepL C W1 l xs ∧ ∀ W H S, SW C W S H → stab mo W1 H1 W H → SqL C.K H a xs := by
    intro z
    rw [Rep] at z
    obtain ⟨a, xs, e1, e2, r⟩ := z
    exact ⟨a, xs, e1, (w1.sub _ _ e2).1, r, fun W H S w st => SqL.of (w.sub _ _ ((stab_le W H st).f _ _ e2)).1⟩
  rcases hmo with rfl | rfl
  · exact fz p1
  · rcases (p1 : RepB C W1 H1 _ v) with z | ⟨a, o, e1, e2, ⟨xs, e3, r⟩, e4⟩
    · exact fz z
    · subst e3
      exact ⟨a, xs, e1, e2, r, fun W H S w st => SqL.of ((show Ext W1 H1 W H from st).keep _ _ e2 e4 (fun _ z => by cases z))⟩
theorem stab_T {W1 : Wd} {H1 : Hp} {S1 : Store} {l : List D} {v : V} (hmo : mo = .frz ∨ mo = .bor) (w1 : SW C W1 S1 H1) (p1 : Post C mo W0 H0' W1 H1 (.tup l) v) :
    ∃ a xs, v = .ref a ∧ SqT C.K H1 a xs ∧ RepL C W1 l xs ∧ ∀ W H S, SW C W S H → stab mo W1 H1 W H → SqT C.K H a xs := by
  have z : Rep C W1 (.tup l) v := by
    rcases hmo with rfl | rfl
    · exact p1
    · rcases (p1 : RepB C W1 H1 _ v) with z | ⟨_, _, _, _, z, _⟩
      · exact z
      · exact z.elim
  rw [Rep] at z
  obtain ⟨a, xs, e1, q, r⟩ := z
  exact ⟨a, xs, e1, w1.sqt q, r, fun W H S w e => w.sqt (sqt_mono (stab_le W H e).f q)⟩
theorem stab_R {W1 : Wd} {H1 : Hp} {S1 : Store} {l : List D} {v : V} (hmo : mo = .frz ∨ mo = .bor) (w1 : SW C W1 S1 H1) (p1 : Post C mo W0 H0' W1 H1 (.ro l) v) :
    ∃ a xs, v = .ref a ∧ SqL C.K H1 a xs ∧ RepL C W1 l xs ∧ ∀ W H S, SW C W S H → stab mo W1 H1 W H → SqL C.K H a xs := by
  have z : Rep C W1 (.ro l) v := by
    rcases hmo with rfl | rfl
    · exact p1
    · rcases (p1 : RepB C W1 H1 _ v) with z | ⟨_, _, _, _, z, _⟩
      · exact z
      · exact z.elim
  rw [Rep] at z
  obtain ⟨a, xs, e1, q, r⟩ := z
  exact ⟨a, xs, e1, w1.sql q, r, fun W H S w e => w.sql (sql_mono (stab_le W H e).f q)⟩
def gItems (ga : Gv) : Gl' := fun ρ S => bnd (ga ρ S) fun x S => (walkD x).map fun l => (l, S)
theorem ei_any (hK : X.K = C.K) (hmo : mo = .frz ∨ mo = .bor) (ha : EV X C md H0 mo a ga) : EI X C md H0 mo tg a (gItems ga) := by
  refine ⟨PI.imp (pi_any ha.pe) fun σ H R ⟨W, ρ, S, items, S', hw, hv, hg, k⟩ => ?_⟩
  obtain ⟨x, S1, g1, hg⟩ := bnd_eq hg
  obtain ⟨l, h1, h2⟩ := map_eq hg
  cases h2
  refine ⟨W, ρ, S, x, _, hw, hv, g1, fun v H1 W1 e1 w1 p1 => ?_⟩
  rw [hK]
  cases x with
  | tup m =>
    cases h1
    obtain ⟨a, xs, rfl, q, r, st⟩ := stab_T hmo w1 p1
    exact .inr (.inl ⟨a, xs, rfl, q, k _ _ _ e1 w1 (wlk_seqT r st stab_le)⟩)
  | lst m =>
    cases h1
    obtain ⟨a, xs, rfl, q, r, st⟩ := stab_L hmo w1 p1
    exact .inl ⟨a, xs, rfl, SqL.of q, k _ _ _ e1 w1 (wlk_seqL r st stab_le)⟩
  | ro m =>
    cases h1
    obtain ⟨a, xs, rfl, q, r, st⟩ := stab_R hmo w1 p1
    exact .inl ⟨a, xs, rfl, q, k _ _ _ e1 w1 (wlk_seqL r st stab_le)⟩
  | str s =>
    cases h1
    have pb : RepB C W1 H1 (.str s) v := by
      rcases hmo with rfl | rfl
      · exact .inl p1
      · exact p1
    obtain ⟨rfl, ha⟩ := rb_str pb
    exact .inr (.inr ⟨_, rfl, k _ _ _ e1 w1 (wlk_str ha)⟩)
  | _ => cases h1
def gEnum (ga : Gv) : Gl' := fun ρ S => bnd (ga ρ S) fun x S => (seqD x).map fun l => (enumD 0 l, S)
theorem ei_enum {elts : List Expr} {kk : Nat} {tpos p : Pos} (hK : X.K = C.K) (hmg : X.mg = C.mg) (hg : Gl X "enumerate") (hm : C.mg "enumerate" = none) (hmo : mo = .frz ∨ mo = .bor) (ha : EV X C md H0 mo a ga) (hs : isStar a = false) :
    EI X C md H0 mo (.Tuple elts kk tpos) (.Call (.Name "enumerate" p) [a] [] pos) (gEnum ga) := by
  refine ⟨PI.imp (pi_enumA hg (by rw [hmg]; exact hm) ha.pe hs) fun σ H R ⟨W, ρ, S, items, S', hw, hv, hg, k⟩ => ?_⟩
  obtain ⟨x, S1, g1, hg⟩ := bnd_eq hg
  obtain ⟨l, h1, h2⟩ := map_eq hg
  cases h2
  refine ⟨W, ρ, S, x, _, hw, hv, g1, fun v H1 W1 e1 w1 p1 => ?_⟩
  rw [hK]
  cases x with
  | tup m =>
    cases h1
    obtain ⟨a, xs, rfl, q, r, st⟩ := stab_T hmo w1 p1
    exact .inr ⟨a, xs, rfl, q, k _ _ _ e1 w1 (wlk_enumT r st)⟩
  | lst m =>
    cases h1
    obtain ⟨a, xs, rfl, q, r, st⟩ := stab_L hmo w1 p1
    exact .inl ⟨a, xs, rfl, SqL.of q, k _ _ _ e1 w1 (wlk_enumL r st)⟩
  | ro m =>
    cases h1
    obtain ⟨a, xs, rfl, q, r, st⟩ := stab_R hmo w1 p1
    exact .inl ⟨a, xs, rfl, q, k _ _ _ e1 w1 (wlk_enumL r st)⟩
  | _ => cases h1
def gRng1 (ga : Gv) : Gl' := fun ρ S => bnd (ga ρ S) fun x S => (rng1D x).map fun l => (l, S)
theorem ei_rng1 {p : Pos} (hmg : X.mg = C.mg) (hg : Gl X "range") (hm : C.mg "range" = none) (ha : EV X C md H0 .bor a ga) (hs : isStar a = false) : EI X C md H0 mo tg (.Call (.Name "range" p) [a] [] pos) (gRng1 ga) := by
  have row : PA X [a] (tCons (TI C md H0 .bor ga) tNil) := pa_cons ha.pe pa_nil (starEach_ns hs)
  refine ⟨PI.imp (pi_range1 hg (by rw [hmg]; exact hm) row (starEach_ns hs)) fun σ H R ⟨W, ρ, S, items, S', hw, hv, hg, k⟩ => ?_⟩
  obtain ⟨x, S1, g1, hg⟩ := bnd_eq hg
  obtain ⟨l, h1, h2⟩ := map_eq hg
  cases h2
  refine ⟨W, ρ, S, x, _, hw, hv, g1, fun v H1 W1 e1 w1 p1 => ?_⟩
  unfold rng1D at h1
  split at h1
  · rename_i n
    split at h1
    · rename_i hn
      cases h1
      have hn := smI_le hn
      exact ⟨n, by rw [rb_int p1], by omega, by omega, k _ _ _ e1 w1 wlk_rng⟩
    · cases h1
  · cases h1
def gRng2 (ga gb : Gv) : Gl' := fun ρ S => bnd (ga ρ S) fun x S => bnd (gb ρ S) fun y S => (rng2D x y).map fun l => (l, S)
theorem ei_rng2 {p : Pos} (hmg : X.mg = C.mg) (hg : Gl X "range") (hm : C.mg "range" = none) (ha : EV X C md H0 .bor a ga) (hb : EV X C md H0 .bor b gb) (hs : isStar a = false) (hs2 : isStar b = false) : EI X C md H0 mo tg (.Call (.Name "range" p) [a, b] [] pos) (gRng2 ga gb) := by
  have row : PA X [a, b] (tCons (TI C md H0 .bor ga) (tCons (TI C md H0 .bor gb) tNil)) := pa_cons ha.pe (pa_cons hb.pe pa_nil (starEach_ns hs2)) (starEach_ns hs)
  refine ⟨PI.imp (pi_range2 hg (by rw [hmg]; exact hm) row (by rw [starEach_ns hs, starEach_ns hs2]; rfl) (starEach_ns hs2)) fun σ H R ⟨W, ρ, S, items, S', hw, hv, hg, k⟩ => ?_⟩
  obtain ⟨x, S1, g1, hg⟩ := bnd_eq hg
  obtain ⟨y, S2, g2, hg⟩ := bnd_eq hg
  obtain ⟨l, h1, h2⟩ := map_eq hg
  cases h2
  refine ⟨W, ρ, S, x, _, hw, hv, g1, fun v H1 W1 e1 w1 p1 => ⟨W1, ρ, _, y, _, w1, hv.ext e1, g2, fun u H2 W2 e2 w2 p2 => ?_⟩⟩
  unfold rng2D at h1
  split at h1
  · split at h1
    · rename_i hn
      cases h1
      obtain ⟨q1, q2⟩ := (Bool.and_eq_true _ _ ▸ hn : _ ∧ _)
      have q1 := smI_le q1
      have q2 := smI_le q2
      exact ⟨_, _, by rw [rb_int (RepB.ext p1 e2), rb_int p2], ⟨by omega, by omega, by omega, by omega⟩, k _ _ _ (e1.trans e2) w2 wlk_rng⟩
    · cases h1
  · cases h1
end
end MT

set_option maxRecDepth 100000
set_option maxHeartbeats 4000000
/-! MTn: targets, comprehensions. -/
namespace MT
open PySem PySem.Spec PyProof.Rows L2

mutual
def tgVars : Tg → List Nat
  | .nm i => [i]
  | .tp l => tgsVars l
def tgsVars : Tgs → List Nat
  | .nil => []
  | .cons t r => tgVars t ++ tgsVars r
end
def tgsLen : Tgs → Nat
  | .nil => 0
  | .cons _ r => tgsLen r + 1
theorem bindTs_len : ∀ {ts : Tgs} {ds : List D} {ρ ρ' : Envr}, bindTs ts ds ρ = some ρ' → ds.length = tgsLen ts
  | .nil, [], _, _, _ => rfl
  | .nil, _ :: _, _, ρ', h => nomatch (show (none : Option Envr) = some ρ' from h)
  | .cons t r, [], _, ρ', h => nomatch (show (none : Option Envr) = some ρ' from h)
  | .cons t r, d :: ds, ρ, ρ', h => by
    rw [bindTs] at h
    obtain ⟨ρ1, _, h2⟩ := Option.bind_eq_some_iff.mp h
    show ds.length + 1 = tgsLen r + 1
    rw [bindTs_len h2]
/-- the reading of a target -/
def TGt (C : Cst) (md : Nat → Mo) (H0 : Hp) (t : Tg) : L2.TG := fun v σ H Q => ∃ W ρ S d ρ', SW C W S H ∧ SV C md W ρ σ H H0 ∧ Rep C W d v ∧ bindT t d ρ = some ρ' ∧ ∀ σ', SV C md W ρ' σ' H H0 → Agr (tgVars t) σ σ' → Q σ' H
def TGts (C : Cst) (md : Nat → Mo) (H0 : Hp) (t : Tgs) : L2.TGs := fun vs σ H Q => ∃ W ρ S ds ρ', SW C W S H ∧ SV C md W ρ σ H H0 ∧ RepL C W ds vs ∧ bindTs t ds ρ = some ρ' ∧ ∀ σ', SV C md W ρ' σ' H H0 → Agr (tgsVars t) σ σ' → Q σ' H
structure BG (X : Cx) (C : Cst) (md : Nat → Mo) (H0 : Hp) (tg : Expr) (t : Tg) : Prop where
  pg : PG X tg (TGt C md H0 t)
structure BGs (X : Cx) (C : Cst) (md : Nat → Mo) (H0 : Hp) (tgs : List Expr) (t : Tgs) : Prop where
  pg : PGs X tgs (TGts C md H0 t)
theorem PG.imp {X : Cx} {e : Expr} {t t' : L2.TG} (h : PG X e t) (k : ∀ v σ H Q, t' v σ H Q → t v σ H Q) : PG X e t' := ⟨fun pins s σ H v u Q I r q => h.run pins s σ H v u Q I r (k v σ H Q q)⟩
theorem PGs.imp {X : Cx} {e : List Expr} {t t' : L2.TGs} (h : PGs X e t) (k : ∀ v σ H Q, t' v σ H Q → t v σ H Q) : PGs X e t' := ⟨fun pins s σ H v u Q I r q => h.run pins s σ H v u Q I r (k v σ H Q q)⟩
section
variable {X : Cx} {C : Cst} {md : Nat → Mo} {H0 : Hp} {mo : Mo} {a b c e tg : Expr} {es : List Expr} {pos : Pos} {ga gb gc : Gv}
theorem SV.setF' {W : Wd} {ρ : Envr} {σ : L2.St} {H : Hp} {d : D} {v : V} {i : Nat} (h : SV C md W ρ σ H H0) (hm : md i = .frz) (r : Rep C W d v) : SV C md W (ρ.set i (some d)) (σ.set i (some v)) H H0 := by
  by_cases hi : i < σ.length
  · exact h.setF hm r hi
  · rw [List.set_eq_of_length_le (by rw [h.len]; omega), List.set_eq_of_length_le (by omega)]
    exact h
theorem b_name {i : Nat} {x : Str} (hN : X.N.Nodup) (hi : X.N[i]? = some x) (hx : Loc X.env.scope x) (hf : X.fn x = true ∨ X.env.scope.names.lookup x = some .local) (hm : md i = .frz) : BG X C md H0 (.Name x pos) (.nm i) := by
  refine ⟨PG.imp (pg_name hN hi hx hf) fun v σ H Q ⟨W, ρ, S, d, ρ', hw, hv, hr, hb, k⟩ => ?_⟩
  rw [bindT] at hb
  cases hb
  exact k _ (hv.setF' hm hr) Agr.set
theorem bs_nil : BGs X C md H0 [] .nil := by
  refine ⟨PGs.imp pgs_nil fun vs σ H Q ⟨W, ρ, S, ds, ρ', hw, hv, hr, hb, k⟩ => ?_⟩
  cases ds with
  | nil =>
    rw [bindTs] at hb
    cases hb
    rw [RepL] at hr
    exact ⟨hr, k σ hv (Agr.refl _ _)⟩
  | cons d ds => exact nomatch (show (none : Option Envr) = some ρ' from hb)
theorem bs_cons {t : Tg} {r : Tgs} (h1 : BG X C md H0 e t) (h2 : BGs X C md H0 es r) (hs : (assignEach (e :: es) X.env).map (·.2) = assign e X.env :: (assignEach es X.env).map (·.2)) : BGs X C md H0 (e :: es) (.cons t r) := by
  refine ⟨PGs.imp (pgs_cons h1.pg h2.pg hs) fun vs σ H Q ⟨W, ρ, S, ds, ρ', hw, hv, hr, hb, k⟩ => ?_⟩
  cases ds with
  | nil => exact nomatch (show (none : Option Envr) = some ρ' from hb)
  | cons d ds =>
    rw [bindTs] at hb
    obtain ⟨ρ1, hb1, hb2⟩ := Option.bind_eq_some_iff.mp hb
    rw [RepL] at hr
    obtain ⟨v, vr, e1, r1, r2⟩ := hr
    refine ⟨v, vr, e1, W, ρ, S, d, ρ1, hw, hv, r1, hb1, fun σ1 sv1 ag1 => ⟨W, ρ1, S, ds, ρ', hw, sv1, r2, hb2, fun σ2 sv2 ag2 => k σ2 sv2 (ag1.trans ag2)⟩⟩
theorem b_tup {k : Nat} {ts : Tgs} (hc : X.calm = true) (hK : X.K = C.K) (h : BGs X C md H0 es ts) (hn : (assignEach es X.env).length = tgsLen ts) (hst : (assignEach es X.env).findIdx? (·.1) = none) : BG X C md H0 (.Tuple es k pos) (.tp ts) := by
  refine ⟨PG.imp (pg_tup hc h.pg hn hst) fun v σ H Q ⟨W, ρ, S, d, ρ', hw, hv, hr, hb, k⟩ => ?_⟩
  cases d with
  | tup ds =>
    rw [bindT] at hb
    obtain ⟨a, xs, rfl, q, r⟩ := rb_tup hw (.inl hr)
    refine ⟨a, xs, rfl, by rw [hK]; exact q, by rw [← r.length]; exact bindTs_len hb, W, ρ, S, ds, ρ', hw, hv, r, hb, k⟩
  | _ => exact nomatch (show (none : Option Envr) = some ρ' from hb)
/-! ### tests of a comprehension -/
abbrev Gc := Envr → Store → Option (Bool × Store)
def TCs (C : Cst) (md : Nat → Mo) (H0 : Hp) (g : Gc) : TT := fun σ H Q => ∃ W ρ S b S', SW C W S H ∧ SV C md W ρ σ H H0 ∧ g ρ S = some (b, S') ∧ ∀ H' W', Ext W H W' H' → SW C W' S' H' → Q b H'
structure EC (X : Cx) (C : Cst) (md : Nat → Mo) (H0 : Hp) (ifs : List Expr) (g : Gc) : Prop where
  pts : PTs X ifs (TCs C md H0 g)
theorem PTs.imp {X : Cx} {e : List Expr} {t t' : TT} (h : PTs X e t) (k : ∀ σ H Q, t' σ H Q → t σ H Q) : PTs X e t' := ⟨fun pins s σ H Q I q => h.run pins s σ H Q I (k σ H Q q)⟩
def gcNil : Gc := fun _ S => some (true, S)
def gcOne (ga : Gv) : Gc := fun ρ S => bnd (ga ρ S) fun x S => (dBl x).map fun b => (b, S)
theorem ec_nil : EC X C md H0 [] gcNil := ⟨PTs.imp pts_nil fun σ H Q ⟨W, ρ, S, b, S', hw, hv, hg, k⟩ => by
  cases hg
  exact k H W (.refl _ _) hw⟩
theorem ec_one (h : ET X C md H0 c gc) : EC X C md H0 [c] (gcOne gc) := ⟨PTs.imp (pts_one h.pt) fun σ H Q ⟨W, ρ, S, b, S', hw, hv, hg, k⟩ => by
  obtain ⟨x, S1, g1, hg⟩ := bnd_eq hg
  obtain ⟨b', h1, h2⟩ := map_eq hg
  cases h2
  rw [dBl_some h1] at g1
  exact ⟨W, ρ, S, b, _, hw, hv, g1, k⟩⟩
/-! ### list comprehensions -/
def turnF (t : Tg) (gc : Gc) (ge : Gv) (w : List Nat) (ρ : Envr) : D → Store → Option (Option D × Store) :=
  fun d S => (bindT t d (wipeE ρ w)).bind fun ρ1 => bnd (gc ρ1 S) fun b S => if b then bnd (ge ρ1 S) fun y S => some (some y, S) else some (none, S)
def gComp (gi : Gl') (t : Tg) (gc : Gc) (ge : Gv) (w : List Nat) : Gv := fun ρ S => bnd (gi ρ S) fun items S => bnd (compG (turnF t gc ge w ρ) items S) fun l S => if l.length ≤ LIM then some (.lst l, S) else none
theorem ti_comp {wi : L2.TI} {g : L2.TG} {tt : TT} {te : TE} {gi : Gl'} {t : Tg} {gc : Gc} {ge : Gv} {w : List Nat} (h1 : wi = TW C md H0 .bor gi) (h2 : g = TGt C md H0 t) (h3 : tt = TCs C md H0 gc) (h4 : te = TI C md H0 .frz ge) (hw : ∀ i ∈ tgVars t, i ∈ w) :
    ∀ σ H Q, TI C md H0 .own (gComp gi t gc ge w) σ H Q → tLc wi g tt te w σ H Q := by
  intro σ H Q ⟨W, ρ, S, d, S2, sw, sv, hg, k⟩
  subst h1 h2 h3 h4
  obtain ⟨items, S1, g1, hg⟩ := bnd_eq hg
  obtain ⟨l, S3, g2, hg⟩ := bnd_eq hg
  split at hg
  rotate_left
  · cases hg
  rename_i hl
  cases hg
  refine ⟨W, ρ, S, items, S1, sw, sv, g1, fun J H1 W1 e1 w1 wk D hD => ?_⟩
  have sv1 := sv.ext e1
  refine lc_it (G := fun H => ∃ W S, SW C W S H ∧ Ext W1 H1 W H) (Y := fun i H x H' => ∀ W S, SW C W S H → Ext W1 H1 W H → ∃ W' d, Ext W H W' H' ∧ SW C W' S H' ∧ items[i]? = some d ∧ Rep C W' d x) (n := items.length)
    ⟨fun i H hi ⟨W, S, w, e⟩ => wk.goes i H W S hi w e, fun H ⟨W, S, w, e⟩ => wk.stops H W S w e, fun i H x H' hi _ y W S w e => wk.yields i H x H' W S hi w e y⟩
    (fun i H => ∃ W' S' pre rest acc, Ext W1 H1 W' H ∧ SW C W' S' H ∧ compG (turnF t gc ge w ρ) (items.drop i) S' = some (rest, S2) ∧ pre ++ rest = l ∧ H D = some (.lst acc) ∧ RepL C W' pre acc ∧ D ∉ W'.m ∧ W'.F D = none)
    ⟨W1, S1, [], l, [], new_ext hD, new_sw w1 hD (fun _ z => by cases z), by simpa using g2, rfl, upd_same, .nil, w1.notm hD, w1.notF hD⟩ (fun i σ hi ⟨W', S', _, _, _, e, w, _⟩ => ⟨W', S', w, e⟩) ?_ ?_
  · rintro i x Ha Hb hi ⟨W', S', pre, rest, acc, ea, wa, hc, hpr, hDa, ra, ma, fa⟩ y
    obtain ⟨W2, d, e2, w2, hd, rd⟩ := y W' S' wa ea
    have hdrop : items.drop i = d :: items.drop (i + 1) := by
      rw [List.drop_eq_getElem_cons hi]
      rw [List.getElem?_eq_getElem hi] at hd
      rw [Option.some.inj hd]
    rw [hdrop] at hc
    obtain ⟨o, S3, hf, hc⟩ := bnd_eq (show bnd (turnF t gc ge w ρ d S') _ = _ from hc)
    obtain ⟨rest', S4, hc2, hc⟩ := bnd_eq hc
    obtain ⟨ρ1, hb, hf⟩ := Option.bind_eq_some_iff.mp (show (bindT t d (wipeE ρ w)).bind _ = _ from hf)
    obtain ⟨b, S5, hgc, hf⟩ := bnd_eq hf
    have ea2 := ea.trans e2
    refine ⟨W2, wipeE ρ w, S', d, ρ1, w2, (sv1.ext ea2).wipe w, rd, hb, fun σ2 sv2 ag => ⟨(ag.wipe hw).trans (wipe_wipe w), W2, ρ1, S', b, S5, w2, sv2, hgc, fun H3 W3 e3 w3 => ?_⟩⟩
    cases b with
    | false =>
      rw [if_neg Bool.false_ne_true]
      have hf : some ((none : Option MT.D), S5) = some (o, S3) := hf
      cases hf
      have hc : some (rest', S4) = some (rest, S2) := hc
      cases hc
      refine ⟨W3, _, pre, _, acc, ea2.trans e3, w3, hc2, hpr, (e2.trans e3).keep D _ hDa ma (fun _ z => by cases z), RepL.mono (e2.trans e3).w _ _ ra, (e2.trans e3).mem hDa ma, (e2.trans e3).nof hDa fa⟩
    | true =>
      rw [if_pos rfl]
      obtain ⟨yv, S6, hge, hf⟩ := bnd_eq (show bnd (ge ρ1 S5) _ = _ from hf)
      cases hf
      have hc : some (yv :: rest', S4) = some (rest, S2) := hc
      cases hc
      refine ⟨W3, ρ1, S5, yv, S3, w3, sv2.ext e3, hge, fun v H4 W4 e4 w4 p4 => ?_⟩
      have e34 := (e2.trans e3).trans e4
      have hD4 := e34.keep D _ hDa ma (fun _ z => by cases z)
      have m4 := e34.mem hDa ma
      have f4 := e34.nof hDa fa
      have hlen : pre.length < LIM := by
        have := congrArg List.length hpr
        rw [List.length_append, List.length_cons] at this
        omega
      refine ⟨acc, hD4, by rw [← ra.length]; exact Nat.lt_of_lt_of_le hlen (lim_line (Nat.le_refl _)), W4, S3, pre ++ [yv], rest', acc ++ [v], (ea.trans e34).upd hD4 hD, w4.upd hD4 m4 f4 (fun _ z => by cases z) (fun _ _ => codeO_lst), hc2, by rw [List.append_assoc]; exact hpr, upd_same, (RepL.mono e34.w _ _ ra).append (.cons p4 .nil), m4, f4⟩
  · rintro Ha ⟨W', S', pre, rest, acc, ea, wa, hc, hpr, hDa, ra, ma, fa⟩
    rw [List.drop_length] at hc
    cases hc
    rw [List.append_nil] at hpr
    subst hpr
    exact k _ Ha W' (e1.trans ea) wa (.inl ⟨D, _, rfl, e1.dom D hD, hDa, ⟨acc, rfl, ra⟩, ma, fa⟩)
section
variable {elt iter : Expr} {ifs : List Expr} {scope : Scope} {own : List (Str × Nat)} {gi : Gl'} {t : Tg} {gq : Gc} {ge : Gv}
theorem ev_comp (hc : X.calm = true) (hN : X.N.Nodup) (hi : EI X C md H0 .bor tg iter gi) (ok : BlkOk X.N X.env.scope scope own)
    (hg : ∀ (s : Shared) (H : Hp) (A : Addr) (cl : List (Str × Addr)) (fp : List Addr), BG (X.blk s H scope (compEnvC scope cl A X.env) fp) C md H0 tg t)
    (ht : ∀ (s : Shared) (H : Hp) (A : Addr) (cl : List (Str × Addr)) (fp : List Addr), EC (X.blk s H scope (compEnvC scope cl A X.env) fp) C md H0 ifs gq)
    (he : ∀ (s : Shared) (H : Hp) (A : Addr) (cl : List (Str × Addr)) (fp : List Addr), EV (X.blk s H scope (compEnvC scope cl A X.env) fp) C md H0 .frz elt ge)
    (hs : ∀ x, foldedSetIterable iter X.env x = pure x) (hw : ∀ i ∈ tgVars t, i ∈ own.map (·.2)) : EV X C md H0 .own (.ListComp elt [⟨tg, iter, ifs, 0⟩] scope pos) (gComp gi t gq ge (own.map (·.2))) :=
  ⟨PE.imp (pe_lc hc hN hi.pi ok (fun s H A cl fp => (hg s H A cl fp).pg) (fun s H A cl fp => (ht s H A cl fp).pts) (fun s H A cl fp => (he s H A cl fp).pe) hs) (ti_comp rfl rfl rfl rfl hw)⟩
end
/-! ### dict comprehensions -/
def turnD (t : Tg) (gc : Gc) (gk gv : Gv) (w : List Nat) (ρ : Envr) : D → Store → Option (Option (D × D) × Store) :=
  fun d S => (bindT t d (wipeE ρ w)).bind fun ρ1 => bnd (gc ρ1 S) fun b S => if b then bnd (gk ρ1 S) fun y S => bnd (gv ρ1 S) fun z S => some (some (y, z), S) else some (none, S)
def gDcomp (gi : Gl') (t : Tg) (gc : Gc) (gk gv : Gv) (w : List Nat) : Gv := fun ρ S => bnd (gi ρ S) fun items S => bnd (dcompG (turnD t gc gk gv w ρ) items [] S) fun l S => if l.length ≤ LIM then some (.dct l, S) else none
theorem kEq_iff {k k1 : D} {k' k1' : Key} (h : RepK k k') (h1 : RepK k1 k1') : kEq k k1 = true ↔ k1' = k' := by
  cases k with
  | int i =>
    have h : k' = .inl i := h
    cases k1 with
    | int j =>
      have h1 : k1' = .inl j := h1
      subst h h1
      show (i == j) = true ↔ _
      rw [beq_iff_eq]
      exact ⟨fun e => by rw [e], fun e => (Sum.inl.inj e).symm⟩
    | str t =>
      have h1 : k1' = .inr ⟨t.toArray⟩ ∧ Asc t := h1
      subst h
      rw [h1.1]
      exact ⟨fun e => (by cases e), fun e => (by cases e)⟩
    | _ => exact h1.elim
  | str s =>
    have h : k' = .inr ⟨s.toArray⟩ ∧ Asc s := h
    cases k1 with
    | int j =>
      have h1 : k1' = .inl j := h1
      rw [h.1, h1]
      exact ⟨fun e => (by cases e), fun e => (by cases e)⟩
    | str t =>
      have h1 : k1' = .inr ⟨t.toArray⟩ ∧ Asc t := h1
      rw [h.1, h1.1]
      show decide (s = t) = true ↔ _
      rw [decide_eq_true_eq]
      refine ⟨fun e => by rw [e], fun e => ?_⟩
      have := congrArg (fun z : Str => z.cps.toList) (Sum.inr.inj e)
      simpa using this.symm
    | _ => exact h1.elim
  | _ => exact h.elim
theorem repP_any {W : Wd} : ∀ {ps : List (D × D)} {kvs : List (Key × V)} {k : D} {k' : Key}, RepP C W ps kvs → RepK k k' → (ps.any fun p => kEq k p.1) = kvs.any fun kv => decide (kv.1 = k')
  | [], _, _, _, h, _ => by rw [RepP] at h; subst h; rfl
  | (k1, d1) :: ps, _, k, k', h, hk => by
    rw [RepP] at h
    obtain ⟨k2, v, r, h1, h2, h3, h4⟩ := h
    subst h1
    rw [List.any_cons, List.any_cons, repP_any h4 hk]
    congr 1
    rw [Bool.eq_iff_iff, decide_eq_true_eq]
    exact kEq_iff hk h2
theorem repP_map {W : Wd} : ∀ {ps : List (D × D)} {kvs : List (Key × V)} {k d : D} {k' : Key} {v : V}, RepP C W ps kvs → RepK k k' → Rep C W d v →
    RepP C W (ps.map fun p => if kEq k p.1 = true then (p.1, d) else p) (kvs.map fun kv => if kv.1 = k' then (kv.1, v) else kv)
  | [], _, _, _, _, _, h, _, _ => by rw [RepP] at h; subst h; show RepP C W [] []; rw [RepP]
  | (k1, d1) :: ps, _, k, d, k', v, h, hk, hd => by
    rw [RepP] at h
    obtain ⟨k2, v1, r, h1, h2, h3, h4⟩ := h
    subst h1
    rw [List.map_cons, List.map_cons]
    have ih := repP_map h4 hk hd
    by_cases e : kEq k k1 = true
    · rw [if_pos e, if_pos ((kEq_iff hk h2).mp e), RepP]
      exact ⟨_, _, _, rfl, h2, hd, ih⟩
    · rw [if_neg e, if_neg fun z => e ((kEq_iff hk h2).mpr z), RepP]
      exact ⟨_, _, _, rfl, h2, h3, ih⟩
theorem repP_app {W : Wd} : ∀ {ps qs : List (D × D)} {kvs kws : List (Key × V)}, RepP C W ps kvs → RepP C W qs kws → RepP C W (ps ++ qs) (kvs ++ kws)
  | [], _, _, _, h, k => by rw [RepP] at h; subst h; exact k
  | (k1, d1) :: ps, _, _, _, h, k => by
    rw [RepP] at h
    obtain ⟨k2, v1, r, h1, h2, h3, h4⟩ := h
    subst h1
    show RepP C W ((k1, d1) :: (ps ++ _)) _
    rw [RepP]
    exact ⟨_, _, _, rfl, h2, h3, repP_app h4 k⟩
theorem repP_put {W : Wd} {ps : List (D × D)} {kvs : List (Key × V)} {k d : D} {k' : Key} {v : V} (h : RepP C W ps kvs) (hk : RepK k k') (hd : Rep C W d v) : RepP C W (dPut k d ps) (putK kvs k' v) := by
  unfold dPut putK
  rw [repP_any h hk]
  by_cases e : (kvs.any fun kv => decide (kv.1 = k')) = true
  · rw [if_pos e, if_pos e]
    exact repP_map h hk hd
  · rw [if_neg e, if_neg e]
    refine repP_app h ?_
    rw [RepP]
    exact ⟨_, _, _, rfl, hk, hd, by rw [RepP]⟩
theorem dPut_len (k v : D) (ps : List (D × D)) : (dPut k v ps).length ≤ ps.length + 1 := by
  unfold dPut
  split
  · simp
  · simp
theorem ti_dcomp {wi : L2.TI} {g : L2.TG} {tt : TT} {tk tv : TE} {gi : Gl'} {t : Tg} {gc : Gc} {gk gv : Gv} {w : List Nat} (h1 : wi = TW C md H0 .bor gi) (h2 : g = TGt C md H0 t) (h3 : tt = TCs C md H0 gc) (h4 : tk = TI C md H0 .frz gk) (h5 : tv = TI C md H0 .frz gv) (hw : ∀ i ∈ tgVars t, i ∈ w) :
    ∀ σ H Q, TI C md H0 .own (gDcomp gi t gc gk gv w) σ H Q → tDc wi g tt tk tv w σ H Q := by
  intro σ H Q ⟨W, ρ, S, d, S2, sw, sv, hg, k⟩
  subst h1 h2 h3 h4 h5
  obtain ⟨items, S1, g1, hg⟩ := bnd_eq hg
  obtain ⟨l, S3, g2, hg⟩ := bnd_eq hg
  split at hg
  rotate_left
  · cases hg
  rename_i hl
  cases hg
  refine ⟨W, ρ, S, items, S1, sw, sv, g1, fun J H1 W1 e1 w1 wk D hD => ?_⟩
  have sv1 := sv.ext e1
  let Pv : Nat → Hp → Prop := fun i H => ∃ W' S' acc kvs, Ext W1 H1 W' H ∧ SW C W' S' H ∧ dcompG (turnD t gc gk gv w ρ) (items.drop i) acc S' = some (l, S2) ∧ H D = some (.dK kvs) ∧ RepP C W' acc kvs ∧ D ∉ W'.m ∧ W'.F D = none
  have h0 : Pv 0 (upd H1 D (.dK [])) := ⟨W1, S1, [], [], new_ext hD, new_sw w1 hD (fun _ z => by cases z), by simpa using g2, upd_same, by rw [RepP], w1.notm hD, w1.notF hD⟩
  refine ⟨fun i m H => m = items.length - i ∧ i ≤ items.length ∧ Pv i H, ⟨items.length, by simp, Nat.zero_le _, h0⟩, ?_⟩
  rintro i m Ha ⟨rfl, hi, W', S', acc, kvs, ea, wa, hc, hDa, ra, ma, fa⟩
  by_cases hlt : i < items.length
  · refine .inr ⟨wk.goes i Ha W' S' hlt wa ea, Pv (i + 1), fun H' p' => ⟨items.length - (i + 1), by omega, rfl, hlt, p'⟩, fun x Hb y => ?_⟩
    obtain ⟨W2, d, e2, w2, hd, rd⟩ := wk.yields i Ha x Hb W' S' hlt wa ea y
    have hdrop : items.drop i = d :: items.drop (i + 1) := by
      rw [List.drop_eq_getElem_cons hlt]
      rw [List.getElem?_eq_getElem hlt] at hd
      rw [Option.some.inj hd]
    rw [hdrop] at hc
    obtain ⟨o, S3, hf, hc⟩ := bnd_eq (show bnd (turnD t gc gk gv w ρ d S') _ = _ from hc)
    obtain ⟨ρ1, hb, hf⟩ := Option.bind_eq_some_iff.mp (show (bindT t d (wipeE ρ w)).bind _ = _ from hf)
    obtain ⟨b, S5, hgc, hf⟩ := bnd_eq hf
    have ea2 := ea.trans e2
    refine ⟨W2, wipeE ρ w, S', d, ρ1, w2, (sv1.ext ea2).wipe w, rd, hb, fun σ2 sv2 ag => ⟨(ag.wipe hw).trans (wipe_wipe w), W2, ρ1, S', b, S5, w2, sv2, hgc, fun H3 W3 e3 w3 => ?_⟩⟩
    cases b with
    | false =>
      rw [if_neg Bool.false_ne_true]
      have hf : some ((none : Option (MT.D × MT.D)), S5) = some (o, S3) := hf
      cases hf
      exact ⟨W3, _, acc, kvs, ea2.trans e3, w3, hc, (e2.trans e3).keep D _ hDa ma (fun _ z => by cases z), RepP.mono (e2.trans e3).w _ _ ra, (e2.trans e3).mem hDa ma, (e2.trans e3).nof hDa fa⟩
    | true =>
      rw [if_pos rfl]
      obtain ⟨yv, S6, hgk, hf⟩ := bnd_eq (show bnd (gk ρ1 S5) _ = _ from hf)
      obtain ⟨zv, S7, hgv, hf⟩ := bnd_eq hf
      cases hf
      have hc : (if isKey yv && decide (acc.length < LIM) then dcompG (turnD t gc gk gv w ρ) (items.drop (i + 1)) (dPut yv zv acc) S3 else none) = some (l, S2) := hc
      split at hc
      rotate_left
      · cases hc
      rename_i hcond
      rw [Bool.and_eq_true, decide_eq_true_eq] at hcond
      refine ⟨W3, ρ1, S5, yv, S6, w3, sv2.ext e3, hgk, fun v H4 W4 e4 w4 p4 => ⟨W4, ρ1, S6, zv, S3, w4, (sv2.ext e3).ext e4, hgv, fun u H5 W5 e5 w5 p5 => ?_⟩⟩
      have e345 := ((e2.trans e3).trans e4).trans e5
      obtain ⟨k', hk', rfl⟩ := rb_key (W := W4) (H := H4) hcond.1 (.inl p4)
      have hD5 := e345.keep D _ hDa ma (fun _ z => by cases z)
      have m5 := e345.mem hDa ma
      have f5 := e345.nof hDa fa
      have ra5 := RepP.mono e345.w _ _ ra
      refine ⟨kvs, k', rfl, hD5, by rw [← ra.length]; exact Nat.lt_of_lt_of_le hcond.2 (lim_line (Nat.le_refl _)), W5, S3, dPut yv zv acc, putK kvs k' u, (ea.trans e345).upd hD5 hD, w5.upd hD5 m5 f5 (fun _ z => by cases z) (fun _ _ => codeO_dK), hc, upd_same, repP_put ra5 hk' p5, m5, f5⟩
  · have e : i = items.length := by omega
    subst e
    refine .inl ⟨wk.stops Ha W' S' wa ea, ?_⟩
    rw [List.drop_length] at hc
    cases hc
    exact k _ Ha W' (e1.trans ea) wa (.inl ⟨D, _, rfl, e1.dom D hD, hDa, ⟨kvs, rfl, ra⟩, ma, fa⟩)
theorem ev_dcomp {elt kx iter : Expr} {ifs : List Expr} {scope : Scope} {own : List (Str × Nat)} {gi : Gl'} {t : Tg} {gq : Gc} {gk ge : Gv} (hc : X.calm = true) (hN : X.N.Nodup) (hi : EI X C md H0 .bor tg iter gi) (ok : BlkOk X.N X.env.scope scope own)
    (hg : ∀ (s : Shared) (H : Hp) (A : Addr) (cl : List (Str × Addr)) (fp : List Addr), BG (X.blk s H scope (compEnvC scope cl A X.env) fp) C md H0 tg t)
    (ht : ∀ (s : Shared) (H : Hp) (A : Addr) (cl : List (Str × Addr)) (fp : List Addr), EC (X.blk s H scope (compEnvC scope cl A X.env) fp) C md H0 ifs gq)
    (hk : ∀ (s : Shared) (H : Hp) (A : Addr) (cl : List (Str × Addr)) (fp : List Addr), EV (X.blk s H scope (compEnvC scope cl A X.env) fp) C md H0 .frz kx gk)
    (he : ∀ (s : Shared) (H : Hp) (A : Addr) (cl : List (Str × Addr)) (fp : List Addr), EV (X.blk s H scope (compEnvC scope cl A X.env) fp) C md H0 .frz elt ge)
    (hs : ∀ x, foldedSetIterable iter X.env x = pure x) (hw : ∀ i ∈ tgVars t, i ∈ own.map (·.2)) : EV X C md H0 .own (.DictComp kx elt [⟨tg, iter, ifs, 0⟩] scope pos) (gDcomp gi t gq gk ge (own.map (·.2))) :=
  ⟨PE.imp (pe_dc hc hN hi.pi ok (fun s H A cl fp => (hg s H A cl fp).pg) (fun s H A cl fp => (ht s H A cl fp).pts) (fun s H A cl fp => (hk s H A cl fp).pe) (fun s H A cl fp => (he s H A cl fp).pe) hs) (ti_dcomp rfl rfl rfl rfl rfl hw)⟩
end
end MT

set_option maxRecDepth 100000
set_option maxHeartbeats 4000000
/-! MTo: statements. -/
namespace MT
open PySem PySem.Spec PyProof.Rows L2

abbrev Mn := Envr → Store → SR3
/-- how a statement's meaning ends -/
def FinD (C : Cst) (md : Nat → Mo) (W0 : Wd) (H0 : Hp) (W : Wd) (r : Fl × Envr × Store) (D : Ends) : Prop := match r.1 with
  | .nx => ∀ σ' H' W', WLe W W' → SW C W' r.2.2 H' → SV C md W' r.2.1 σ' H' H0 → MT.Ext W0 H0 W' H' → D.nx σ' H'
  | .brk => ∀ σ' H' W', WLe W W' → SW C W' r.2.2 H' → SV C md W' r.2.1 σ' H' H0 → MT.Ext W0 H0 W' H' → D.bk σ' H'
  | .cnt => ∀ σ' H' W', WLe W W' → SW C W' r.2.2 H' → SV C md W' r.2.1 σ' H' H0 → MT.Ext W0 H0 W' H' → D.ct σ' H'
  | .ret d => ∀ v H' W', WLe W W' → SW C W' r.2.2 H' → MT.Ext W0 H0 W' H' → Rep C W' d v → D.rt v H'
theorem FinD.le {C : Cst} {md : Nat → Mo} {W0 W W' : Wd} {H0 : Hp} {r : Fl × Envr × Store} {D : Ends} (h : FinD C md W0 H0 W r D) (e : WLe W W') : FinD C md W0 H0 W' r D := by
  unfold FinD at h ⊢
  split at h
  · exact fun σ' H' W2 l => h σ' H' W2 (e.trans l)
  · exact fun σ' H' W2 l => h σ' H' W2 (e.trans l)
  · exact fun σ' H' W2 l => h σ' H' W2 (e.trans l)
  · exact fun v H' W2 l => h v H' W2 (e.trans l)
def TSt (C : Cst) (md : Nat → Mo) (W0 : Wd) (H0 : Hp) (m : Mn) : TS := fun D σ H => ∃ W ρ S r, SW C W S H ∧ SV C md W ρ σ H H0 ∧ MT.Ext W0 H0 W H ∧ m ρ S = some r ∧ FinD C md W0 H0 W r D
structure ES (X : Cx) (C : Cst) (md : Nat → Mo) (W0 : Wd) (H0 : Hp) (st : Stmt) (m : Mn) : Prop where
  ps : PS X st (TSt C md W0 H0 m)
structure ESs (X : Cx) (C : Cst) (md : Nat → Mo) (W0 : Wd) (H0 : Hp) (st : List Stmt) (m : Mn) : Prop where
  ps : PSs X st (TSt C md W0 H0 m)
section
variable {X : Cx} {C : Cst} {md : Nat → Mo} {W0 : Wd} {H0 : Hp} {mo : Mo} {a b c e tg : Expr} {es : List Expr} {pos pos' : Pos} {ga gb gc : Gv} {st : Stmt} {sts sts' : List Stmt} {m m1 m2 : Mn}
theorem bnd3_eq {α : Type} {x : SR3} {f : Fl → Envr → Store → Option α} {r : α} (h : bnd3 x f = some r) : ∃ a b c, x = some (a, b, c) ∧ f a b c = some r := by
  cases x with
  | none => cases h
  | some p => exact ⟨p.1, p.2.1, p.2.2, rfl, h⟩
def mNil : Mn := fun ρ S => some (.nx, ρ, S)
def mCons (m1 m2 : Mn) : Mn := fun ρ S => bnd3 (m1 ρ S) fun fl ρ S => (match fl with
    | .nx => m2 ρ S
    | fl => some (fl, ρ, S))
theorem s_nil : ESs X C md W0 H0 [] mNil := ⟨PSs.imp pss_nil fun D σ H ⟨W, ρ, S, r, hw, hv, he, hm, k⟩ => by
  cases hm
  exact k σ H W (.refl _) hw hv he⟩
theorem s_cons (h1 : ES X C md W0 H0 st m1) (h2 : ESs X C md W0 H0 sts m2) : ESs X C md W0 H0 (st :: sts) (mCons m1 m2) := ⟨PSs.imp (pss_cons h1.ps h2.ps) fun D σ H ⟨W, ρ, S, r, hw, hv, he, hm, k⟩ => by
  obtain ⟨fl, ρ1, S1, g1, g2⟩ := bnd3_eq hm
  refine ⟨W, ρ, S, (fl, ρ1, S1), hw, hv, he, g1, ?_⟩
  cases fl with
  | nx => exact fun σ' H' W' le w v e => ⟨W', ρ1, S1, r, w, v, e, g2, k.le le⟩
  | brk => cases g2; exact k
  | cnt => cases g2; exact k
  | ret d => cases g2; exact k⟩
def mIf (gc : Gv) (m1 m2 : Mn) : Mn := fun ρ S => bnd (gc ρ S) fun x S => (match dBl x with
    | some true => m1 ρ S
    | some false => m2 ρ S
    | none => none)
theorem s_if (hc : ET X C md H0 c gc) (h1 : ESs X C md W0 H0 sts m1) (h2 : ESs X C md W0 H0 sts' m2) : ES X C md W0 H0 (.If c sts sts' pos) (mIf gc m1 m2) := ⟨PS.imp (ps_if hc.pt h1.ps h2.ps) fun D σ H ⟨W, ρ, S, r, hw, hv, he, hm, k⟩ => by
  obtain ⟨x, S1, g1, g2⟩ := bnd_eq hm
  split at g2
  · rename_i hb
    rw [dBl_some hb] at g1
    refine ⟨W, ρ, S, true, S1, hw, hv, g1, fun H1 W1 e1 w1 => ?_⟩
    show (if true = true then _ else _)
    rw [if_pos rfl]
    exact ⟨W1, ρ, S1, r, w1, hv.ext e1, he.trans e1, g2, k.le e1.w⟩
  · rename_i hb
    rw [dBl_some hb] at g1
    refine ⟨W, ρ, S, false, S1, hw, hv, g1, fun H1 W1 e1 w1 => ?_⟩
    show (if false = true then _ else _)
    rw [if_neg Bool.false_ne_true]
    exact ⟨W1, ρ, S1, r, w1, hv.ext e1, he.trans e1, g2, k.le e1.w⟩
  · cases g2⟩
def mExp (ga : Gv) : Mn := fun ρ S => bnd (ga ρ S) fun _ S => some (.nx, ρ, S)
theorem s_exp (ha : EV X C md H0 .frz a ga) (hs : swapsWith a none pos.line X.env = pure false) : ES X C md W0 H0 (.Expr a pos) (mExp ga) := ⟨PS.imp (ps_expr ha.pe hs) fun D σ H ⟨W, ρ, S, r, hw, hv, he, hm, k⟩ => by
  obtain ⟨x, S1, g1, g2⟩ := bnd_eq hm
  cases g2
  exact ⟨W, ρ, S, x, S1, hw, hv, g1, fun v H1 W1 e1 w1 p1 => k σ H1 W1 e1.w w1 (hv.ext e1) (he.trans e1)⟩⟩
theorem s_doc {x j} : ES X C md W0 H0 (.Expr (.Constant (.str x) j pos) pos') mNil := ⟨PS.imp ps_doc fun D σ H ⟨W, ρ, S, r, hw, hv, he, hm, k⟩ => by
  cases hm
  exact k σ H W (.refl _) hw hv he⟩
theorem s_pass : ES X C md W0 H0 (.Pass pos) mNil := ⟨PS.imp ps_pass fun D σ H ⟨W, ρ, S, r, hw, hv, he, hm, k⟩ => by
  cases hm
  exact k σ H W (.refl _) hw hv he⟩
def mBrk : Mn := fun ρ S => some (.brk, ρ, S)
def mCnt : Mn := fun ρ S => some (.cnt, ρ, S)
def mStuck : Mn := fun _ _ => none
theorem s_brk : ES X C md W0 H0 (.Break pos) mBrk := ⟨PS.imp ps_break fun D σ H ⟨W, ρ, S, r, hw, hv, he, hm, k⟩ => by
  cases hm
  exact k σ H W (.refl _) hw hv he⟩
theorem s_cnt : ES X C md W0 H0 (.Continue pos) mCnt := ⟨PS.imp ps_continue fun D σ H ⟨W, ρ, S, r, hw, hv, he, hm, k⟩ => by
  cases hm
  exact k σ H W (.refl _) hw hv he⟩
/-- a statement that is never come to -/
theorem s_stuck : ES X C md W0 H0 st mStuck := ⟨PS.imp ps_never fun D σ H ⟨W, ρ, S, r, hw, hv, he, hm, k⟩ => by cases hm⟩
def mRet (ga : Gv) : Mn := fun ρ S => bnd (ga ρ S) fun x S => some (.ret x, ρ, S)
theorem s_ret (ha : EV X C md H0 .frz a ga) : ES X C md W0 H0 (.Return (some a) pos) (mRet ga) := ⟨PS.imp (ps_ret ha.pe) fun D σ H ⟨W, ρ, S, r, hw, hv, he, hm, k⟩ => by
  obtain ⟨x, S1, g1, g2⟩ := bnd_eq hm
  cases g2
  exact ⟨W, ρ, S, x, S1, hw, hv, g1, fun v H1 W1 e1 w1 p1 => k v H1 W1 e1.w w1 (he.trans e1) p1⟩⟩
def mRetn : Mn := fun ρ S => some (.ret .non, ρ, S)
theorem s_retn : ES X C md W0 H0 (.Return none pos) mRetn := ⟨PS.imp ps_retN fun D σ H ⟨W, ρ, S, r, hw, hv, he, hm, k⟩ => by
  cases hm
  exact k .non H W (.refl _) hw he (rep_non)⟩
def mRetv (i : Nat) : Mn := fun ρ S => (match ρ[i]? with
    | some (some x) => some (.ret x, ρ, S)
    | _ => none)
/-- an own list or dict is given away -/
theorem s_retv {i : Nat} {x : Str} {p : Pos} (hN : X.N[i]? = some x) (hv : Vis X.env.scope x) (hd : (x == ("__debug__" : Str)) = false) (hcd : (x == ("__classdict__" : Str)) = false) (hm : md i = .own) : ES X C md W0 H0 (.Return (some (.Name x p)) pos) (mRetv i) :=
  ⟨PS.imp (ps_ret (pe_var hN hv hd hcd)) fun D σ H ⟨W, ρ, S, r, hw, hv, he, hmm, k⟩ => by
    unfold mRetv at hmm
    split at hmm
    · rename_i d hρ
      cases hmm
      obtain ⟨v, h1, h2⟩ := hv.loc i d hρ
      rw [hm] at h2
      obtain ⟨a, o, rfl, k2, k3, k4, k5, k6⟩ := h2
      exact ⟨_, h1, k _ H (W.fz a o) (fz_le k5) (hw.fz k2 k4 k5 k3.tbl) (he.fz k6 k5) ((RepH.mono (fz_le k5) k3).toRep fz_at)⟩
    · cases hmm⟩
/-! ### stores -/
def mSet (i : Nat) (ga : Gv) : Mn := fun ρ S => bnd (ga ρ S) fun x S => some (.nx, ρ.set i (some x), S)
theorem ts_set {i : Nat} {te : TE} (ht : te = TI C md H0 .frz ga) (hm : md i = .frz) : ∀ D σ H, TSt C md W0 H0 (mSet i ga) D σ H → tAsg te (gName i) D σ H := fun D σ H ⟨W, ρ, S, r, hw, hv, he, hm', k⟩ => by
  subst ht
  obtain ⟨x, S1, g1, g2⟩ := bnd_eq hm'
  cases g2
  exact ⟨W, ρ, S, x, S1, hw, hv, g1, fun v H1 W1 e1 w1 p1 => k _ H1 W1 e1.w w1 ((hv.ext e1).setF' hm p1) (he.trans e1)⟩
theorem s_set {i : Nat} {x : Str} (hN : X.N.Nodup) (hi : X.N[i]? = some x) (hx : Loc X.env.scope x) (hf : X.fn x = true ∨ X.env.scope.names.lookup x = some .local) (hm : md i = .frz) (ha : EV X C md H0 .frz a ga) (hs : swapsWith a (some (.Name x pos')) pos.line X.env = pure false) :
    ES X C md W0 H0 (.Assign [.Name x pos'] a pos) (mSet i ga) := ⟨PS.imp (ps_set hN hi hx ha.pe hs hf) (ts_set rfl hm)⟩
def mSetn (i : Nat) (ga : Gv) : Mn := fun ρ S => bnd (ga ρ S) fun x S => if boxD x then some (.nx, ρ.set i (some x), S) else none
/-- a new own list or dict in a slot -/
theorem SV.setN {W W1 : Wd} {ρ : Envr} {σ : L2.St} {H H1 : Hp} {d : D} {v : V} {i : Nat} (h : SV C md W ρ σ H H0) (e : MT.Ext W H W1 H1) (he : MT.Ext W0 H0 W H) (p : RepN C W H W1 H1 d v) (hb : boxD d = true) (hm : md i = .own) :
    SV C md W1 (ρ.set i (some d)) (σ.set i (some v)) H1 H0 := by
  rcases p with ⟨a, o, rfl, p1, p2, p3, p4, p5⟩ | ⟨z, _⟩
  rotate_left
  · rw [show isBox d = boxD d from rfl, hb] at z
    cases z
  have h1 := h.ext e
  by_cases hi : i < σ.length
  rotate_left
  · rw [List.set_eq_of_length_le (by rw [h.len]; omega), List.set_eq_of_length_le (by omega)]
    exact h1
  refine ⟨by rw [List.length_set, List.length_set]; exact h.len, fun j d' q => ?_, fun j k d' e' v' hjk q1 q2 q3 q4 q5 q6 => ?_⟩
  · by_cases hj : i = j
    · subst hj
      rw [List.getElem?_set_self (by rw [h.len]; exact hi)] at q
      cases q
      refine ⟨.ref a, List.getElem?_set_self hi, ?_⟩
      rw [hm]
      exact ⟨a, o, rfl, p2, p3, p4, p5, he.dom a p1⟩
    · rw [List.getElem?_set_ne hj] at q ⊢
      exact h1.loc j d' q
  · -- an old slot's object stands in H, the new one does not
    have old : ∀ (j : Nat) (d' : MT.D) (u : V), i ≠ j → md j = .own → ρ[j]? = some (some d') → σ[j]? = some (some u) → u ≠ .ref a := by
      intro j d' u hj hmj r1 r2 z
      obtain ⟨v0, s1, s2⟩ := h.loc j d' r1
      rw [r2] at s1
      cases s1
      subst z
      rw [hmj] at s2
      obtain ⟨a', o', t1, t2, _⟩ := s2
      cases t1
      rw [p1] at t2
      cases t2
    by_cases hj : i = j
    · subst hj
      have hk : i ≠ k := hjk
      rw [List.getElem?_set_ne hk] at q4 q6
      rw [List.getElem?_set_self hi] at q5
      cases q5
      exact old k e' _ hk q2 q4 q6 rfl
    · rw [List.getElem?_set_ne hj] at q3 q5
      by_cases hk : i = k
      · subst hk
        rw [List.getElem?_set_self hi] at q6
        cases q6
        exact old j d' _ hj q1 q3 q5 rfl
      · rw [List.getElem?_set_ne hk] at q4 q6
        exact h1.sep j k d' e' v' hjk q1 q2 q3 q4 q5 q6
theorem ts_setn {i : Nat} {te : TE} (ht : te = TI C md H0 .own ga) (hm : md i = .own) : ∀ D σ H, TSt C md W0 H0 (mSetn i ga) D σ H → tAsg te (gName i) D σ H := fun D σ H ⟨W, ρ, S, r, hw, hv, he, hm', k⟩ => by
  subst ht
  obtain ⟨x, S1, g1, g2⟩ := bnd_eq hm'
  split at g2
  · rename_i hb
    cases g2
    exact ⟨W, ρ, S, x, S1, hw, hv, g1, fun v H1 W1 e1 w1 p1 => k _ H1 W1 e1.w w1 (hv.setN e1 he p1 hb hm) (he.trans e1)⟩
  · cases g2
theorem s_setn {i : Nat} {x : Str} (hN : X.N.Nodup) (hi : X.N[i]? = some x) (hx : Loc X.env.scope x) (hf : X.fn x = true ∨ X.env.scope.names.lookup x = some .local) (hm : md i = .own) (ha : EV X C md H0 .own a ga) (hs : swapsWith a (some (.Name x pos')) pos.line X.env = pure false) :
    ES X C md W0 H0 (.Assign [.Name x pos'] a pos) (mSetn i ga) := ⟨PS.imp (ps_set hN hi hx ha.pe hs hf) (ts_setn rfl hm)⟩
section
variable {elt iter : Expr} {ifs : List Expr} {scope : Scope} {own : List (Str × Nat)} {gi : Gl'} {t : Tg} {gq : Gc} {ge : Gv} {lpos py : Pos}
/-- name = [..], on one line -/
theorem s_setc {i : Nat} {x : Str} (hc : X.calm = true) (hN : X.N.Nodup) (hy : X.N[i]? = some x) (hyl : X.env.scope.names.lookup x = some .local) (hm : md i = .frz)
    (hsw : swapsWith (.ListComp elt [⟨tg, iter, ifs, 0⟩] scope lpos) (some (.Name x py)) pos.line X.env = pure true) (hi : EI X C md H0 .bor tg iter gi) (ok : BlkOk X.N X.env.scope scope own)
    (hg : ∀ (s : Shared) (H : Hp) (A : Addr) (cl : List (Str × Addr)) (fp : List Addr), BG (X.blk s H scope (compEnvC scope cl A X.env) fp) C md H0 tg t)
    (ht : ∀ (s : Shared) (H : Hp) (A : Addr) (cl : List (Str × Addr)) (fp : List Addr), EC (X.blk s H scope (compEnvC scope cl A X.env) fp) C md H0 ifs gq)
    (he : ∀ (s : Shared) (H : Hp) (A : Addr) (cl : List (Str × Addr)) (fp : List Addr), EV (X.blk s H scope (compEnvC scope cl A X.env) fp) C md H0 .frz elt ge)
    (hs : ∀ x, foldedSetIterable iter X.env x = pure x) (hw : ∀ i ∈ tgVars t, i ∈ own.map (·.2)) :
    ES X C md W0 H0 (.Assign [.Name x py] (.ListComp elt [⟨tg, iter, ifs, 0⟩] scope lpos) pos) (mSet i (gComp gi t gq ge (own.map (·.2)))) :=
  ⟨PS.imp (ps_setLc hc hN hy hyl hsw hi.pi ok (fun s H A cl fp => (hg s H A cl fp).pg) (fun s H A cl fp => (ht s H A cl fp).pts) (fun s H A cl fp => (he s H A cl fp).pe) hs) fun D σ H h => by
    obtain ⟨W, ρ, S, r, hw', hv, hee, hm', k⟩ := h
    obtain ⟨x, S1, g1, g2⟩ := bnd_eq hm'
    cases g2
    refine ti_comp (C := C) (md := md) (H0 := H0) rfl rfl rfl rfl hw σ H _ ⟨W, ρ, S, x, S1, hw', hv, g1, fun v H1 W1 e1 w1 p1 => ?_⟩
    obtain ⟨W2, e2, w2, r2⟩ := RepN.freeze p1 e1 w1
    exact k _ H1 W2 e2.w w2 ((hv.ext e2).setF' hm r2) (hee.trans e2)⟩
theorem s_setcn {i : Nat} {x : Str} (hc : X.calm = true) (hN : X.N.Nodup) (hy : X.N[i]? = some x) (hyl : X.env.scope.names.lookup x = some .local) (hm : md i = .own)
    (hsw : swapsWith (.ListComp elt [⟨tg, iter, ifs, 0⟩] scope lpos) (some (.Name x py)) pos.line X.env = pure true) (hi : EI X C md H0 .bor tg iter gi) (ok : BlkOk X.N X.env.scope scope own)
    (hg : ∀ (s : Shared) (H : Hp) (A : Addr) (cl : List (Str × Addr)) (fp : List Addr), BG (X.blk s H scope (compEnvC scope cl A X.env) fp) C md H0 tg t)
    (ht : ∀ (s : Shared) (H : Hp) (A : Addr) (cl : List (Str × Addr)) (fp : List Addr), EC (X.blk s H scope (compEnvC scope cl A X.env) fp) C md H0 ifs gq)
    (he : ∀ (s : Shared) (H : Hp) (A : Addr) (cl : List (Str × Addr)) (fp : List Addr), EV (X.blk s H scope (compEnvC scope cl A X.env) fp) C md H0 .frz elt ge)
    (hs : ∀ x, foldedSetIterable iter X.env x = pure x) (hw : ∀ i ∈ tgVars t, i ∈ own.map (·.2)) :
    ES X C md W0 H0 (.Assign [.Name x py] (.ListComp elt [⟨tg, iter, ifs, 0⟩] scope lpos) pos) (mSetn i (gComp gi t gq ge (own.map (·.2)))) :=
  ⟨PS.imp (ps_setLc hc hN hy hyl hsw hi.pi ok (fun s H A cl fp => (hg s H A cl fp).pg) (fun s H A cl fp => (ht s H A cl fp).pts) (fun s H A cl fp => (he s H A cl fp).pe) hs) fun D σ H h => by
    obtain ⟨W, ρ, S, r, hw', hv, hee, hm', k⟩ := h
    obtain ⟨x, S1, g1, g2⟩ := bnd_eq hm'
    split at g2
    · rename_i hb
      cases g2
      exact ti_comp (C := C) (md := md) (H0 := H0) rfl rfl rfl rfl hw σ H _ ⟨W, ρ, S, x, S1, hw', hv, g1, fun v H1 W1 e1 w1 p1 => k _ H1 W1 e1.w w1 (hv.setN e1 hee p1 hb hm) (hee.trans e1)⟩
    · cases g2⟩
end
def mUnp (t : Tg) (ga : Gv) : Mn := fun ρ S => bnd (ga ρ S) fun x S => (bindT t x ρ).map fun ρ => (.nx, ρ, S)
theorem s_unp {t : Tg} (ha : EV X C md H0 .frz a ga) (hb : BG X C md H0 tg t) (hs : swapsWithSole [tg] a pos.line X.env = pure false) (hw : swappedStores [tg] a X.env = pure none) (h1 : (assignEach [tg] X.env).map (·.2) = [assign tg X.env]) :
    ES X C md W0 H0 (.Assign [tg] a pos) (mUnp t ga) := ⟨PS.imp (ps_asg ha.pe hb.pg hs hw h1) fun D σ H ⟨W, ρ, S, r, hw, hv, he, hm', k⟩ => by
  obtain ⟨x, S1, g1, g2⟩ := bnd_eq hm'
  obtain ⟨ρ', g3, g4⟩ := map_eq g2
  cases g4
  exact ⟨W, ρ, S, x, S1, hw, hv, g1, fun v H1 W1 e1 w1 p1 => ⟨W1, ρ, S1, x, ρ', w1, hv.ext e1, p1, g3, fun σ' sv _ => k _ H1 W1 e1.w w1 sv (he.trans e1)⟩⟩⟩
end
end MT

set_option maxRecDepth 100000
set_option maxHeartbeats 4000000
/-! MTp: loops, stores into lists, dicts, instances. -/
namespace MT
open PySem PySem.Spec PyProof.Rows L2
section
variable {X : Cx} {C : Cst} {md : Nat → Mo} {W0 : Wd} {H0 : Hp} {mo : Mo} {a b c e o tg iter : Expr} {es : List Expr} {pos pos' : Pos} {ga gb gc : Gv} {st : Stmt} {sts sts' : List Stmt} {m m1 m2 : Mn}
/-! ### a, b = x, y -/
def mPar (l : List Nat) (gl : Gl') : Mn := fun ρ S => bnd (gl ρ S) fun ds S => (setPar l ds ρ).map fun ρ => (.nx, ρ, S)
theorem s_par2 {i j : Nat} {x y : Str} {gl : Gl'} {px py pt : Pos} {kt k2 pt2} (hc : X.calm = true) (hN : X.N.Nodup) (hi : X.N[i]? = some x) (hj : X.N[j]? = some y) (hij : i ≠ j) (hx : X.env.scope.names.lookup x = some .local) (hy : X.env.scope.names.lookup y = some .local) (ha : EL X C md H0 [a, b] gl)
    (hw : swappedStores [.Tuple [.Name x px, .Name y py] kt pt] (.Tuple [a, b] k2 pt2) X.env = pure (some [x, y])) (hs : swapsWithSole [.Tuple [.Name x px, .Name y py] kt pt] (.Tuple [a, b] k2 pt2) pos.line X.env = pure false) (hmi : md i = .frz) (hmj : md j = .frz) :
    ES X C md W0 H0 (.Assign [.Tuple [.Name x px, .Name y py] kt pt] (.Tuple [a, b] k2 pt2) pos) (mPar [i, j] gl) := ⟨PS.imp (ps_par hc hN hi hj hij hx hy ha.pa hw hs) fun D σ H ⟨W, ρ, S, r, hw, hv, he, hm', k⟩ => by
  obtain ⟨ds, S1, g1, g2⟩ := bnd_eq hm'
  obtain ⟨ρ', g3, g4⟩ := map_eq g2
  cases g4
  refine ⟨W, ρ, S, ds, S1, hw, hv, g1, fun vs H1 W1 e1 w1 p1 => ?_⟩
  match ds, g3, p1 with
  | [d1, d2], g3, p1 =>
    cases g3
    rw [RepL] at p1
    obtain ⟨v1, r1, rfl, q1, p1⟩ := p1
    rw [RepL] at p1
    obtain ⟨v2, r2, rfl, q2, p1⟩ := p1
    rw [RepL] at p1
    subst p1
    exact ⟨v1, v2, rfl, k _ H1 W1 e1.w w1 (((hv.ext e1).setF' hmi q1).setF' hmj q2) (he.trans e1)⟩⟩
theorem s_par3 {i j l : Nat} {x y z : Str} {gl : Gl'} {px py pz pt : Pos} {kt k2 pt2} (hc : X.calm = true) (hN : X.N.Nodup) (hi : X.N[i]? = some x) (hj : X.N[j]? = some y) (hl : X.N[l]? = some z) (hij : i ≠ j) (hil : i ≠ l) (hjl : j ≠ l) (hx : X.env.scope.names.lookup x = some .local) (hy : X.env.scope.names.lookup y = some .local) (hz : X.env.scope.names.lookup z = some .local) (ha : EL X C md H0 [a, b, c] gl)
    (hw : swappedStores [.Tuple [.Name x px, .Name y py, .Name z pz] kt pt] (.Tuple [a, b, c] k2 pt2) X.env = pure (some [x, y, z])) (hs : swapsWithSole [.Tuple [.Name x px, .Name y py, .Name z pz] kt pt] (.Tuple [a, b, c] k2 pt2) pos.line X.env = pure false) (hmi : md i = .frz) (hmj : md j = .frz) (hml : md l = .frz) :
    ES X C md W0 H0 (.Assign [.Tuple [.Name x px, .Name y py, .Name z pz] kt pt] (.Tuple [a, b, c] k2 pt2) pos) (mPar [i, j, l] gl) := ⟨PS.imp (ps_par3 hc hN hi hj hl hij hil hjl hx hy hz ha.pa hw hs) fun D σ H ⟨W, ρ, S, r, hw, hv, he, hm', k⟩ => by
  obtain ⟨ds, S1, g1, g2⟩ := bnd_eq hm'
  obtain ⟨ρ', g3, g4⟩ := map_eq g2
  cases g4
  refine ⟨W, ρ, S, ds, S1, hw, hv, g1, fun vs H1 W1 e1 w1 p1 => ?_⟩
  match ds, g3, p1 with
  | [d1, d2, d3], g3, p1 =>
    cases g3
    rw [RepL] at p1
    obtain ⟨v1, r1, rfl, q1, p1⟩ := p1
    rw [RepL] at p1
    obtain ⟨v2, r2, rfl, q2, p1⟩ := p1
    rw [RepL] at p1
    obtain ⟨v3, r3, rfl, q3, p1⟩ := p1
    rw [RepL] at p1
    subst p1
    exact ⟨v1, v2, v3, rfl, k _ H1 W1 e1.w w1 ((((hv.ext e1).setF' hmi q1).setF' hmj q2).setF' hml q3) (he.trans e1)⟩⟩
/-! ### while -/
def mWhl (gc : Gv) (m : Mn) (fu : Nat) : Mn := fun ρ S => whlG (fun ρ S => bnd (gc ρ S) fun x S => (dBl x).map fun b => (b, S)) (fun ρ S => m ρ S) fu ρ S
theorem s_whl {fu : Nat} (hx : X.xe = fun _ _ => False) (hc : ET X C md H0 c gc) (hb : ESs X C md W0 H0 sts m) : ES X C md W0 H0 (.While c sts [] pos) (mWhl gc m fu) := ⟨PS.imp (ps_while (by rw [hx]; exact .never) hc.pt hb.ps) fun D σ H ⟨W, ρ, S, r, hw, hv, he, hm', k⟩ => by
  refine ⟨fun n σ H => ∃ W ρ S, SW C W S H ∧ SV C md W ρ σ H H0 ∧ MT.Ext W0 H0 W H ∧ mWhl gc m n ρ S = some r ∧ FinD C md W0 H0 W r D, ⟨fu, W, ρ, S, hw, hv, he, hm', k⟩, ?_⟩
  rintro n σ H ⟨W, ρ, S, hw, hv, he, hm', k⟩
  cases n with
  | zero => cases hm'
  | succ n =>
    obtain ⟨b, S1, g1, g2⟩ := bnd_eq (show bnd (bnd (gc ρ S) fun x S => (dBl x).map fun b => (b, S)) _ = some r from hm')
    obtain ⟨x, S2, g0, g1⟩ := bnd_eq g1
    obtain ⟨b', h1, h2⟩ := map_eq g1
    cases h2
    rw [dBl_some h1] at g0
    refine ⟨W, ρ, S, b, _, hw, hv, g0, fun H1 W1 e1 w1 => ?_⟩
    cases b with
    | false =>
      show (if false = true then _ else _)
      rw [if_neg Bool.false_ne_true]
      have g2 : some (Fl.nx, ρ, S1) = some r := g2
      cases g2
      exact k σ H1 W1 e1.w w1 (hv.ext e1) (he.trans e1)
    | true =>
      show (if true = true then _ else _)
      rw [if_pos rfl]
      obtain ⟨fl, ρ2, S2, g3, g4⟩ := bnd3_eq (show bnd3 (m ρ S1) _ = some r from g2)
      refine ⟨fun σ H => ∃ W ρ S, SW C W S H ∧ SV C md W ρ σ H H0 ∧ MT.Ext W0 H0 W H ∧ mWhl gc m n ρ S = some r ∧ FinD C md W0 H0 W r D, fun σ' H' q => ⟨n, Nat.lt_succ_self n, q⟩, W1, ρ, S1, (fl, ρ2, S2), w1, hv.ext e1, he.trans e1, g3, ?_⟩
      cases fl with
      | nx => exact fun σ' H' W' le w v e => ⟨W', ρ2, S2, w, v, e, g4, k.le (e1.w.trans le)⟩
      | cnt => exact fun σ' H' W' le w v e => ⟨W', ρ2, S2, w, v, e, g4, k.le (e1.w.trans le)⟩
      | brk =>
        cases g4
        exact fun σ' H' W' le w v e => k σ' H' W' (e1.w.trans le) w v e
      | ret d =>
        cases g4
        exact fun v H' W' le w e p => k v H' W' (e1.w.trans le) w e p⟩
/-! ### for -/
def mFor (gi : Gl') (t : Tg) (m : Mn) : Mn := fun ρ S => bnd (gi ρ S) fun items S => forG (fun d ρ S => (bindT t d ρ).bind fun ρ => m ρ S) items ρ S
theorem s_for {gi : Gl'} {t : Tg} (hx : X.xe = fun _ _ => False) (hc : X.calm = true) (hi : EI X C md H0 .frz tg iter gi) (hg : BG X C md H0 tg t) (hb : ESs X C md W0 H0 sts m) (hs : ∀ x, foldedSetIterable iter X.env x = pure x) :
    ES X C md W0 H0 (.For tg iter sts [] pos) (mFor gi t m) := ⟨PS.imp (ps_for (by rw [hx]; exact .never) hc hi.pi hg.pg hb.ps hs) fun D σ H ⟨W, ρ, S, r, hw, hv, he, hm', k⟩ => by
  obtain ⟨items, S1, g1, g2⟩ := bnd_eq hm'
  refine ⟨W, ρ, S, items, S1, hw, hv, g1, fun J H1 W1 e1 w1 wk => ?_⟩
  let Pv : Nat → L2.St → Hp → Prop := fun i σ H => ∃ W ρ S, WLe W1 W ∧ SW C W S H ∧ SV C md W ρ σ H H0 ∧ MT.Ext W0 H0 W H ∧ forG (fun d ρ S => (bindT t d ρ).bind fun ρ => m ρ S) (items.drop i) ρ S = some r ∧ FinD C md W0 H0 W r D
  have h0 : Pv 0 σ H1 := ⟨W1, ρ, S1, .refl _, w1, hv.ext e1, he.trans e1, by simpa using g2, k.le e1.w⟩
  refine ⟨fun i m σ H => m = items.length - i ∧ i ≤ items.length ∧ Pv i σ H, ⟨items.length, by simp, Nat.zero_le _, h0⟩, ?_⟩
  rintro i n σa Ha ⟨rfl, hi, W', ρ', S', le, wa, va, ea, hf, ka⟩
  by_cases hlt : i < items.length
  · refine .inr ⟨wk.goes i Ha W' S' hlt wa le, Pv (i + 1), fun σ' H' p' => ⟨items.length - (i + 1), by omega, rfl, hlt, p'⟩, fun x Hb y => ?_⟩
    obtain ⟨W2, d, e2, w2, hd, rd⟩ := wk.yields i Ha x Hb W' S' hlt wa le y
    have hdrop : items.drop i = d :: items.drop (i + 1) := by
      rw [List.drop_eq_getElem_cons hlt]
      rw [List.getElem?_eq_getElem hlt] at hd
      rw [Option.some.inj hd]
    rw [hdrop] at hf
    obtain ⟨fl, ρ3, S3, g3, g4⟩ := bnd3_eq (show bnd3 ((bindT t d ρ').bind fun ρ => m ρ S') _ = some r from hf)
    obtain ⟨ρ2, hb2, g3⟩ := Option.bind_eq_some_iff.mp g3
    refine ⟨W2, ρ', S', d, ρ2, w2, va.ext e2, rd, hb2, fun σ2 sv2 _ => ⟨W2, ρ2, S', (fl, ρ3, S3), w2, sv2, ea.trans e2, g3, ?_⟩⟩
    have ka2 := ka.le e2.w
    cases fl with
    | nx => exact fun σ' H' W3 le3 w v e => ⟨W3, ρ3, S3, (le.trans e2.w).trans le3, w, v, e, g4, ka2.le le3⟩
    | cnt => exact fun σ' H' W3 le3 w v e => ⟨W3, ρ3, S3, (le.trans e2.w).trans le3, w, v, e, g4, ka2.le le3⟩
    | brk =>
      cases g4
      exact ka2
    | ret d =>
      cases g4
      exact ka2
  · have e : i = items.length := by omega
    subst e
    rw [List.drop_length] at hf
    cases hf
    exact .inl ⟨wk.stops Ha W' S' wa le, ka σa Ha W' (.refl _) wa va ea⟩⟩
/-! ### own lists and dicts, changed -/
theorem SV.updO {W : Wd} {ρ : Envr} {σ : L2.St} {H : Hp} {d d' : D} {i : Nat} {ad : Addr} {o' : HO} (h : SV C md W ρ σ H H0) (hm : md i = .own) (h1 : ρ[i]? = some (some d)) (h2 : σ[i]? = some (some (.ref ad))) (r : RepH C W d' o') :
    SV C md W (ρ.set i (some d')) σ (upd H ad o') H0 := by
  obtain ⟨v0, q1, q2⟩ := h.loc i d h1
  rw [h2] at q1
  cases q1
  rw [hm] at q2
  obtain ⟨a', o, t1, t2, t3, t4, t5, t6⟩ := q2
  cases t1
  have hi : i < ρ.length := (List.getElem?_eq_some_iff.mp h1).1
  refine ⟨by rw [List.length_set]; exact h.len, fun j d2 q => ?_, fun j k d2 e2 v' hjk q1 q2 q3 q4 q5 q6 => ?_⟩
  · by_cases hj : i = j
    · subst hj
      rw [List.getElem?_set_self hi] at q
      cases q
      refine ⟨.ref ad, h2, ?_⟩
      rw [hm]
      exact ⟨ad, o', rfl, upd_same, r, t4, t5, t6⟩
    · rw [List.getElem?_set_ne hj] at q
      obtain ⟨v, s1, s2⟩ := h.loc j d2 q
      refine ⟨v, s1, ?_⟩
      split at s2
      · rename_i hmj
        obtain ⟨b, u, z1, z2, z3⟩ := s2
        subst z1
        refine ⟨b, u, rfl, ?_, z3⟩
        rw [upd_ne]
        · exact z2
        · intro z
          subst z
          exact h.sep i j d d2 _ hj hm hmj h1 q h2 s1
      · exact s2
  · by_cases hj : i = j
    · subst hj
      have hk : i ≠ k := hjk
      rw [List.getElem?_set_ne hk] at q4
      exact h.sep i k d e2 v' hk hm q2 h1 q4 q5 q6
    · rw [List.getElem?_set_ne hj] at q3
      by_cases hk : i = k
      · subst hk
        exact h.sep j i d2 d v' hjk q1 hm q3 h1 q5 q6
      · rw [List.getElem?_set_ne hk] at q4
        exact h.sep j k d2 e2 v' hjk q1 q2 q3 q4 q5 q6
/-- an own slot's object -/
theorem SV.own {W : Wd} {ρ : Envr} {σ : L2.St} {H : Hp} {d : D} {i : Nat} (h : SV C md W ρ σ H H0) (hm : md i = .own) (h1 : ρ[i]? = some (some d)) : ∃ ad o, σ[i]? = some (some (.ref ad)) ∧ H ad = some o ∧ RepH C W d o ∧ ad ∉ W.m ∧ W.F ad = none ∧ H0 ad = none := by
  obtain ⟨v, q1, q2⟩ := h.loc i d h1
  rw [hm] at q2
  obtain ⟨a, o, rfl, q⟩ := q2
  exact ⟨a, o, q1, q⟩
theorem own_nx {W : Wd} {ρ : Envr} {σ : L2.St} {H : Hp} {S : Store} {d d' : D} {i : Nat} {ad : Addr} {o o' : HO} (w : SW C W S H) (h : SV C md W ρ σ H H0) (he : MT.Ext W0 H0 W H) (hm : md i = .own) (h1 : ρ[i]? = some (some d)) (h2 : σ[i]? = some (some (.ref ad))) (h3 : H ad = some o) (h4 : RepH C W d o) (h5 : ad ∉ W.m) (h6 : W.F ad = none) (h7 : H0 ad = none) (r : RepH C W d' o') :
    SW C W S (upd H ad o') ∧ SV C md W (ρ.set i (some d')) σ (upd H ad o') H0 ∧ MT.Ext W0 H0 W (upd H ad o') :=
  ⟨w.upd h3 h5 h6 h4.tbl h4.code r.code, h.updO hm h1 h2 r, he.upd h3 h7⟩
def mApp (i : Nat) (ga : Gv) : Mn := fun ρ S => bnd (ga ρ S) fun x S => (match ρ[i]? with
    | some (some (.lst l)) => if l.length < LIM then some (.nx, ρ.set i (some (.lst (l ++ [x]))), S) else none
    | _ => none)
theorem lt_line {n : Nat} (h : n < LIM) : n < sizeLine := Nat.lt_of_lt_of_le h (lim_line (Nat.le_refl _))
/-- a method call's text -/
def fewOk (es : List Expr) : Bool := noStar es && decide (es.length < 20)
theorem fold_few {cpos : Pos} {env : Env} {es : List Expr} (h : fewOk es = true) : ((backTo cpos (starEach es env)).all (fun x => !x.1) && (backToKw cpos (keywordEach [] env)).all (fun x => x.1.isSome)
      && decide (es.length + ([] : List Keyword).length + (if ([] : List Keyword).isEmpty then 0 else 1) < 30)) = true := by
  unfold fewOk at h
  rw [Bool.and_eq_true, decide_eq_true_eq] at h
  have key : ∀ es : List Expr, noStar es = true → (backTo cpos (starEach es env)).all (fun x => !x.1) = true := by
    intro es
    induction es with
    | nil => intro _; rfl
    | cons e es ih =>
      intro h
      obtain ⟨s1, s2⟩ := noStar_cons h
      rw [starEach_ns s1]
      show (!false && (backTo cpos (starEach es env)).all (fun x => !x.1)) = true
      rw [ih s2]
      rfl
  rw [key es h.1, Bool.true_and, Bool.and_eq_true, decide_eq_true_eq]
  refine ⟨rfl, ?_⟩
  have := h.2
  show es.length + 0 + 0 < 30
  omega
theorem ho_lst {W : Wd} {l : List D} {o : HO} (h : RepH C W (.lst l) o) : ∃ xs, o = .lst xs ∧ RepL C W l xs := h
theorem ho_dct {W : Wd} {l : List (D × D)} {o : HO} (h : RepH C W (.dct l) o) : ∃ kvs, o = .dK kvs ∧ RepP C W l kvs := h
theorem s_app {i : Nat} {x : Str} {p apos cpos : Pos} (hK : X.K = C.K) (hi : X.N[i]? = some x) (hv : Vis X.env.scope x) (hd : (x == ("__debug__" : Str)) = false) (hcd : (x == ("__classdict__" : Str)) = false) (hm : md i = .own) (ha : EV X C md H0 .frz a ga) (hs : isStar a = false)
    (hline : (apos.endLine == cpos.line) = true) (hsw : swapsWith (.Call (.Attribute (.Name x p) "append" apos) [a] [] cpos) none pos.line X.env = pure false) :
    ES X C md W0 H0 (.Expr (.Call (.Attribute (.Name x p) "append" apos) [a] [] cpos) pos) (mApp i ga) := by
  have row : PA X [a] (tCons (TI C md H0 .frz ga) tNil) := pa_cons ha.pe pa_nil (starEach_ns hs)
  have hpe := pe_bm (cpos := cpos) (apos := apos) PySem.F.plainAttrs_list PySem.F.slot_list_append PySem.F.type_list_append mt_append (pe_var (pos := p) hi hv hd hcd) row (attrBase (by rfl)) (fold_few (by simp [fewOk, noStar, hs])) hline (starEach_ns hs) rfl
  refine ⟨PS.imp (ps_expr hpe hsw) fun D σ H ⟨W, ρ, S, r, hw, sv, he, hm', k⟩ => ?_⟩
  obtain ⟨x1, S1, g1, g2⟩ := bnd_eq hm'
  split at g2
  · rename_i l hρ
    split at g2
    · rename_i hl
      cases g2
      obtain ⟨ad, ob, q1, q2, q3, q4, q5, q6⟩ := sv.own hm hρ
      obtain ⟨xs, rfl, r⟩ := ho_lst q3
      refine ⟨.ref ad, q1, .inl ⟨rfl, xs, SqL.of q2⟩, W, ρ, S, x1, S1, hw, sv, g1, fun v H1 W1 e1 w1 p1 => ?_⟩
      have p1 : Rep C W1 x1 v := p1
      have k2 := e1.keep ad _ q2 q4 (fun _ z => by cases z)
      have r1 := RepL.mono e1.w _ _ r
      obtain ⟨z1, z2, z3⟩ := own_nx (d' := .lst (l ++ [x1])) (o' := .lst (xs ++ [v])) w1 (sv.ext e1) (he.trans e1) hm hρ q1 k2 ⟨xs, rfl, r1⟩ (e1.mem q2 q4) (e1.nof q2 q5) q6 ⟨_, rfl, r1.append (.cons p1 .nil)⟩
      exact ⟨ad, xs, v, rfl, rfl, k2, by rw [← r.length]; exact lt_line hl, k σ _ W1 e1.w z1 z2 z3⟩
    · cases g2
  · cases g2
def mExt (i : Nat) (ga : Gv) : Mn := fun ρ S => bnd (ga ρ S) fun x S => (match ρ[i]?, x with
    | some (some (.lst l)), .lst m => if l.length + m.length ≤ LIM then some (.nx, ρ.set i (some (.lst (l ++ m))), S) else none
    | _, _ => none)
theorem s_ext {i : Nat} {x : Str} {p apos cpos : Pos} (hK : X.K = C.K) (hi : X.N[i]? = some x) (hv : Vis X.env.scope x) (hd : (x == ("__debug__" : Str)) = false) (hcd : (x == ("__classdict__" : Str)) = false) (hm : md i = .own) (ha : EV X C md H0 .bor a ga) (hs : isStar a = false)
    (hline : (apos.endLine == cpos.line) = true) (hsw : swapsWith (.Call (.Attribute (.Name x p) "extend" apos) [a] [] cpos) none pos.line X.env = pure false) :
    ES X C md W0 H0 (.Expr (.Call (.Attribute (.Name x p) "extend" apos) [a] [] cpos) pos) (mExt i ga) := by
  have row : PA X [a] (tCons (TI C md H0 .bor ga) tNil) := pa_cons ha.pe pa_nil (starEach_ns hs)
  have hpe := pe_bm (cpos := cpos) (apos := apos) PySem.F.plainAttrs_list PySem.F.slot_list_extend PySem.F.type_list_extend mt_extend (pe_var (pos := p) hi hv hd hcd) row (attrBase (by rfl)) (fold_few (by simp [fewOk, noStar, hs])) hline (starEach_ns hs) rfl
  refine ⟨PS.imp (ps_expr hpe hsw) fun D σ H ⟨W, ρ, S, r, hw, sv, he, hm', k⟩ => ?_⟩
  obtain ⟨x1, S1, g1, g2⟩ := bnd_eq hm'
  split at g2
  · rename_i l m hρ
    split at g2
    · rename_i hl
      cases g2
      obtain ⟨ad, ob, q1, q2, q3, q4, q5, q6⟩ := sv.own hm hρ
      obtain ⟨xs, rfl, r⟩ := ho_lst q3
      refine ⟨.ref ad, q1, .inl ⟨rfl, xs, SqL.of q2⟩, W, ρ, S, _, S1, hw, sv, g1, fun v H1 W1 e1 w1 p1 => ?_⟩
      obtain ⟨b, zs, rfl, hb, rz⟩ := rb_lst w1 p1
      have k2 := e1.keep ad _ q2 q4 (fun _ z => by cases z)
      have r1 := RepL.mono e1.w _ _ r
      obtain ⟨z1, z2, z3⟩ := own_nx (d' := .lst (l ++ m)) (o' := .lst (xs ++ zs)) w1 (sv.ext e1) (he.trans e1) hm hρ q1 k2 ⟨xs, rfl, r1⟩ (e1.mem q2 q4) (e1.nof q2 q5) q6 ⟨_, rfl, r1.append rz⟩
      exact ⟨ad, b, xs, zs, rfl, rfl, k2, hb, by rw [← r.length, ← rz.length]; exact lim_line hl, k σ _ W1 e1.w z1 z2 z3⟩
    · cases g2
  · cases g2
end
end MT

set_option maxRecDepth 100000
set_option maxHeartbeats 4000000
/-! MTq: stores into places. -/
namespace MT
open PySem PySem.Spec PyProof.Rows L2
section
variable {X : Cx} {C : Cst} {G : Prg} {cl : Call} {md : Nat → Mo} {W0 : Wd} {H0 : Hp} {mo : Mo} {a b c e o tg iter : Expr} {es : List Expr} {pos pos' : Pos} {ga gb gc go : Gv} {st : Stmt} {sts sts' : List Stmt} {m m1 m2 : Mn}
/-! ### own[k] = v -/
/-- what a store does to a list or dict -/
theorem setIn_rep {W : Wd} {d d' dx dy : D} {o : HO} {x y : V} {H : Hp} {ad : Addr} (hH : H ad = some o) (r : RepH C W d o) (rx : Rep C W dx x) (ry : RepB C W H dy y) (h : setInD dy dx d = some d') :
    ∃ o', RepH C W d' o' ∧ ((∃ xs k j, y = .int k ∧ o = .lst xs ∧ ixN xs.length k = some j ∧ o' = .lst (xs.set j x)) ∨ ∃ kvs k', o = .dK kvs ∧ y = kV k' ∧ kvs.length < sizeLine ∧ o' = .dK (putK kvs k' x)) := by
  unfold setInD at h
  split at h
  · rename_i l
    obtain ⟨xs, rfl, r2⟩ := ho_lst r
    split at h
    · rename_i j
      obtain ⟨n, h1, h2⟩ := map_eq h
      subst h2
      exact ⟨_, ⟨_, rfl, r2.set n rx⟩, .inl ⟨xs, j, n, rb_int ry, rfl, by rw [← r2.length, ← ixn_eq]; exact h1, rfl⟩⟩
    · cases h
  · rename_i ps
    obtain ⟨kvs, rfl, r2⟩ := ho_dct r
    split at h
    · rename_i hc
      cases h
      rw [Bool.and_eq_true, decide_eq_true_eq] at hc
      obtain ⟨k', hk, rfl⟩ := rb_key hc.1 ry
      exact ⟨_, ⟨_, rfl, repP_put r2 hk rx⟩, .inr ⟨kvs, k', rfl, rfl, by rw [← r2.length]; exact lt_line hc.2, rfl⟩⟩
    · cases h
  · cases h
def rSet2 : TSet := fun o i v H Q => rSetL o i v H Q ∨ rSetD o i v H Q
theorem set_any (hu : X.A.units + 1 < cLine) : PSet X rSet2 := by
  intro pins s σ H o i v ov iv u Q I ro ri rv h
  rcases h with h | h
  · exact set_list pins s σ H o i v ov iv u Q I ro ri rv h
  · exact set_dict hu pins s σ H o i v ov iv u Q I ro ri rv h
theorem rSet2_of {H : Hp} {ad : Addr} {o o' : HO} {x y : V} {Q : Hp → Prop} (hH : H ad = some o) (h : (∃ xs k j, y = .int k ∧ o = .lst xs ∧ ixN xs.length k = some j ∧ o' = .lst (xs.set j x)) ∨ ∃ kvs k', o = .dK kvs ∧ y = kV k' ∧ kvs.length < sizeLine ∧ o' = .dK (putK kvs k' x))
    (q : Q (upd H ad o')) : rSet2 (.ref ad) y x H Q := by
  rcases h with ⟨xs, k, j, rfl, rfl, h3, rfl⟩ | ⟨kvs, k', rfl, rfl, h3, rfl⟩
  · exact .inl ⟨ad, xs, k, j, rfl, rfl, hH, h3, q⟩
  · exact .inr ⟨ad, _, rfl, DPut.k hH h3, q⟩
def mSeti (i : Nat) (gk gv : Gv) : Mn := fun ρ S => bnd (gv ρ S) fun x S => bnd (gk ρ S) fun y S => (match ρ[i]? with
    | some (some d) => (setInD y x d).map fun d => (.nx, ρ.set i (some d), S)
    | _ => none)
theorem sub_assign {env : Env} {i : Expr} (h : isSl i = false) : ∀ v, assign (.Subscript o i pos) env v = (do
      let ov ← holding [v] (eval o env)
      let iv ← holding [v, ov] (eval i env)
      standAt pos
      holding [v, ov, iv] (setItem ov iv v)
      release [v, ov, iv] []) := fun v => by
  cases i <;> first | rfl | cases h
theorem s_seti {i : Nat} {x : Str} {p tpos : Pos} (hu : X.A.units + 1 < cLine) (hi : X.N[i]? = some x) (hv : Vis X.env.scope x) (hd : (x == ("__debug__" : Str)) = false) (hcd : (x == ("__classdict__" : Str)) = false) (hm : md i = .own) (hk : EV X C md H0 .bor b gb) (ha : EV X C md H0 .frz a ga) (hsl : isSl b = false)
    (hs : swapsWithSole [.Subscript (.Name x p) b tpos] a pos.line X.env = pure false) (hw : swappedStores [.Subscript (.Name x p) b tpos] a X.env = pure none) (h1 : (assignEach [.Subscript (.Name x p) b tpos] X.env).map (·.2) = [assign (.Subscript (.Name x p) b tpos) X.env]) :
    ES X C md W0 H0 (.Assign [.Subscript (.Name x p) b tpos] a pos) (mSeti i gb ga) := by
  refine ⟨PS.imp (ps_asg ha.pe (pg_sub (pe_var (pos := p) hi hv hd hcd) hk.pe (set_any hu) (sub_assign hsl)) hs hw h1) fun D σ H ⟨W, ρ, S, r, hw, sv, he, hm', k⟩ => ?_⟩
  obtain ⟨x1, S1, g1, f1⟩ := bnd_eq hm'
  obtain ⟨y1, S2, g2, f2⟩ := bnd_eq f1
  split at f2
  · rename_i d hρ
    obtain ⟨d', g4, g5⟩ := map_eq f2
    cases g5
    obtain ⟨ad, ob, q1, q2, q3, q4, q5, q6⟩ := sv.own hm hρ
    refine ⟨W, ρ, S, x1, S1, hw, sv, g1, fun v H1 W1 e1 w1 p1 => ⟨.ref ad, q1, W1, ρ, S1, y1, _, w1, sv.ext e1, g2, fun u H2 W2 e2 w2 p2 => ?_⟩⟩
    have e12 := e1.trans e2
    have k2 := e12.keep ad _ q2 q4 q3.tbl
    have r2 := RepH.mono e12.w q3
    obtain ⟨o', r', h'⟩ := setIn_rep k2 r2 (Rep.mono e2.w _ _ p1) p2 g4
    obtain ⟨z1, z2, z3⟩ := own_nx w2 (sv.ext e12) (he.trans e12) hm hρ q1 k2 r2 (e12.mem q2 q4) (e12.nof q2 q5) q6 r'
    exact rSet2_of k2 h' (k σ _ W2 e12.w z1 z2 z3)
  · cases f2
/-! ### a changing object, changed -/
theorem set_obj {W : Wd} {S : Store} {H : Hp} {n : Nat} {ob ob' : Ob} {ad : Addr} {o o' : HO} (w : SW C W S H) (hS : S[n]? = some ob) (ha : W.m[n]? = some ad) (hH : H ad = some o) (ht : ∀ ps, o ≠ .tbl ps) (hc : ∀ c q, o ≠ LamX.CodeO c q) (r : RepO C W ob' o') (hc' : ∀ c q, o' ≠ LamX.CodeO c q := by intro c q z; unfold LamX.CodeO at z; cases z) :
    SW C W (S.set n ob') (upd H ad o') ∧ MT.Ext W H W (upd H ad o') := by
  have hn : n < S.length := (List.getElem?_eq_some_iff.mp hS).1
  have hm : ad ∈ W.m := List.mem_of_getElem? ha
  refine ⟨⟨fun b u q => ?_, tabs_upd w.tabs hH ht hc, fun c q e => ?_, w.nd, by rw [List.length_set]; exact w.len, fun j u q => ?_⟩, ⟨.refl _, fun b u q nb _ => ?_, fun b q => ?_, fun _ q => .inl q, fun _ _ q => .inl q⟩⟩
  · obtain ⟨q1, q2, q3⟩ := w.sub b u q
    refine ⟨?_, q2, q3⟩
    rw [upd_ne]
    · exact q1
    · intro z
      rw [z] at q2
      exact q2 hm
  · by_cases z : c = ad
    · rw [z, upd_same] at e
      exact absurd (Option.some.inj e) (hc' _ _)
    · rw [upd_ne z] at e
      exact w.codes c q e
  · by_cases hj : n = j
    · subst hj
      rw [List.getElem?_set_self hn] at q
      cases q
      exact ⟨ad, o', ha, upd_same, r⟩
    · rw [List.getElem?_set_ne hj] at q
      obtain ⟨b, u', h1, h2, h3⟩ := w.st j u q
      refine ⟨b, u', h1, ?_, h3⟩
      rw [upd_ne]
      · exact h2
      · intro z
        subst z
        have h4 : n < W.m.length := (List.getElem?_eq_some_iff.mp ha).1
        exact hj ((List.getElem?_inj h4 w.nd).mp (ha.trans h1.symm))
  · rw [upd_ne]
    · exact q
    · intro z
      rw [z] at nb
      exact nb hm
  · by_cases z : b = ad
    · rw [z, upd_same] at q
      cases q
    · rw [upd_ne z] at q
      exact q
def obD : Ob → Option D
  | .lst l => some (.lst l)
  | .dct ps => some (.dct ps)
  | _ => none
def dOb : D → Option Ob
  | .lst l => some (.lst l)
  | .dct ps => some (.dct ps)
  | _ => none
theorem setObD_some {x y z : D} {S S' : Store} (h : setObD x y z S = some S') : ∃ n ob d d' ob', x = .obj n ∧ S[n]? = some ob ∧ obD ob = some d ∧ setInD y z d = some d' ∧ dOb d' = some ob' ∧ S' = S.set n ob' := by
  unfold setObD at h
  split at h
  · rename_i n
    split at h
    · rename_i l i hS
      obtain ⟨j, h1, h2⟩ := map_eq h
      exact ⟨n, _, _, .lst (l.set j z), .lst (l.set j z), rfl, hS, rfl, by simp [setInD, h1], rfl, h2.symm⟩
    · rename_i hS
      split at h
      · rename_i hc
        cases h
        exact ⟨n, _, _, _, _, rfl, hS, rfl, if_pos hc, rfl, rfl⟩
      · cases h
    · cases h
  · cases h
theorem repO_of {W : Wd} {ob : Ob} {d : D} {o : HO} (h : obD ob = some d) : RepO C W ob o ↔ RepH C W d o := by
  cases ob with
  | lst l => cases h; exact Iff.rfl
  | dct l => cases h; exact Iff.rfl
  | ins c fs => cases h
theorem repO_to {W : Wd} {ob : Ob} {d : D} {o : HO} (h : dOb d = some ob) : RepO C W ob o ↔ RepH C W d o := by
  cases d with
  | lst l => cases h; exact Iff.rfl
  | dct l => cases h; exact Iff.rfl
  | _ => cases h
/-- the store o[k] = v of a changing object -/
theorem setOb_at {W : Wd} {S S' : Store} {H : Hp} {dx dy dz : D} {x y z : V} {Q : Hp → Prop} (w : SW C W S H) (rx : RepB C W H dx x) (ry : RepB C W H dy y) (rz : Rep C W dz z) (h : setObD dx dy dz S = some S')
    (k : ∀ H', MT.Ext W H W H' → SW C W S' H' → Q H') : rSet2 x y z H Q := by
  obtain ⟨n, ob, d, d', ob', rfl, hS, h1, h2, h3, rfl⟩ := setObD_some h
  obtain ⟨ad, rfl, hm⟩ := rb_obj rx
  obtain ⟨a', o, q1, q2, q3⟩ := w.st n _ hS
  rw [hm] at q1
  cases q1
  have q4 := (repO_of h1).mp q3
  obtain ⟨o', r', h'⟩ := setIn_rep q2 q4 rz ry h2
  obtain ⟨z1, z2⟩ := set_obj w hS hm q2 q4.tbl q4.code ((repO_to h3).mpr r') r'.code
  exact rSet2_of q2 h' (k _ z2 z1)
def mSeto (go gk gv : Gv) : Mn := fun ρ S => bnd (gv ρ S) fun x S => bnd (go ρ S) fun a S => bnd (gk ρ S) fun y S => (setObD a y x S).map fun S => (.nx, ρ, S)
theorem s_seto {tpos : Pos} (hu : X.A.units + 1 < cLine) (ho : EV X C md H0 .bor o go) (hk : EV X C md H0 .bor b gb) (ha : EV X C md H0 .frz a ga) (hsl : isSl b = false)
    (hs : swapsWithSole [.Subscript o b tpos] a pos.line X.env = pure false) (hw : swappedStores [.Subscript o b tpos] a X.env = pure none) (h1 : (assignEach [.Subscript o b tpos] X.env).map (·.2) = [assign (.Subscript o b tpos) X.env]) :
    ES X C md W0 H0 (.Assign [.Subscript o b tpos] a pos) (mSeto go gb ga) := by
  refine ⟨PS.imp (ps_asg ha.pe (pg_sub ho.pe hk.pe (set_any hu) (sub_assign hsl)) hs hw h1) fun D σ H ⟨W, ρ, S, r, hw, sv, he, hm', k⟩ => ?_⟩
  obtain ⟨x1, S1, g1, f1⟩ := bnd_eq hm'
  obtain ⟨a1, S2, g2, f2⟩ := bnd_eq f1
  obtain ⟨y1, S3, g3, f3⟩ := bnd_eq f2
  obtain ⟨S4, g4, g5⟩ := map_eq f3
  cases g5
  refine ⟨W, ρ, S, x1, S1, hw, sv, g1, fun v H1 W1 e1 w1 p1 => ⟨W1, ρ, S1, a1, S2, w1, sv.ext e1, g2, fun u H2 W2 e2 w2 p2 => ⟨W2, ρ, S2, y1, S3, w2, (sv.ext e1).ext e2, g3, fun y H3 W3 e3 w3 p3 => ?_⟩⟩⟩
  refine setOb_at w3 (RepB.ext p2 e3) p3 (Rep.mono (e2.trans e3).w _ _ p1) g4 fun H' e' w' => ?_
  exact k σ H' W3 ((e1.w.trans e2.w).trans e3.w) w' ((((sv.ext e1).ext e2).ext e3).ext e') ((((he.trans e1).trans e2).trans e3).trans e')
/-! ### several targets -/
/-- the reading of a row of targets -/
def TAs (C : Cst) (G : Prg) (cl : Call) (md : Nat → Mo) (H0 : Hp) (l : List TgS) : L2.TGs := fun vs σ H Q => ∃ W ρ S ds ρ' S', SW C W S H ∧ SV C md W ρ σ H H0 ∧ RepL C W ds vs ∧ asgG G cl l ds ρ S = some (ρ', S') ∧
  ∀ σ' H' W', MT.Ext W H W' H' → SW C W' S' H' → SV C md W' ρ' σ' H' H0 → Q σ' H'
structure BA (X : Cx) (C : Cst) (G : Prg) (cl : Call) (md : Nat → Mo) (H0 : Hp) (tgs : List Expr) (l : List TgS) : Prop where
  pg : PGs X tgs (TAs C G cl md H0 l)
theorem ba_nil : BA X C G cl md H0 [] [] := by
  refine ⟨PGs.imp pgs_nil fun vs σ H Q ⟨W, ρ, S, ds, ρ', S', hw, hv, hr, hb, k⟩ => ?_⟩
  cases ds with
  | nil =>
    cases hb
    rw [RepL] at hr
    exact ⟨hr, k σ H W (.refl _ _) hw hv⟩
  | cons d ds => exact nomatch (show (none : Option (Envr × Store)) = some _ from hb)
theorem ba_name {i : Nat} {x : Str} {l : List TgS} (hN : X.N.Nodup) (hi : X.N[i]? = some x) (hx : Loc X.env.scope x) (hf : X.fn x = true ∨ X.env.scope.names.lookup x = some .local) (hm : md i = .frz) (h2 : BA X C G cl md H0 es l)
    (hs : (assignEach (.Name x pos :: es) X.env).map (·.2) = assign (.Name x pos) X.env :: (assignEach es X.env).map (·.2)) : BA X C G cl md H0 (.Name x pos :: es) (.nm i :: l) := by
  refine ⟨PGs.imp (pgs_cons (pg_name hN hi hx hf) h2.pg hs) fun vs σ H Q ⟨W, ρ, S, ds, ρ', S', hw, hv, hr, hb, k⟩ => ?_⟩
  cases ds with
  | nil => exact nomatch (show (none : Option (Envr × Store)) = some _ from hb)
  | cons d ds =>
    rw [RepL] at hr
    obtain ⟨v, vr, e1, r1, r2⟩ := hr
    exact ⟨v, vr, e1, W, _, S, ds, ρ', S', hw, hv.setF' hm r1, r2, hb, k⟩
theorem ba_ix {l : List TgS} {io ik : MT.E} (hu : X.A.units + 1 < cLine) (ho : EV X C md H0 .bor o (evE G cl io)) (hk : EV X C md H0 .bor b (evE G cl ik)) (hsl : isSl b = false) (h2 : BA X C G cl md H0 es l)
    (hs : (assignEach (.Subscript o b pos :: es) X.env).map (·.2) = assign (.Subscript o b pos) X.env :: (assignEach es X.env).map (·.2)) : BA X C G cl md H0 (.Subscript o b pos :: es) (.ix io ik :: l) := by
  refine ⟨PGs.imp (pgs_cons (pg_sub ho.pe hk.pe (set_any hu) (sub_assign hsl)) h2.pg hs) fun vs σ H Q ⟨W, ρ, S, ds, ρ', S', hw, hv, hr, hb, k⟩ => ?_⟩
  cases ds with
  | nil => exact nomatch (show (none : Option (Envr × Store)) = some _ from hb)
  | cons d ds =>
    rw [RepL] at hr
    obtain ⟨v, vr, e1, r1, r2⟩ := hr
    obtain ⟨x1, S1, g1, g2⟩ := bnd_eq (show bnd (evE G cl io ρ S) _ = some (ρ', S') from hb)
    obtain ⟨y1, S2, g2, g3⟩ := bnd_eq g2
    obtain ⟨S3, g3, g4⟩ := Option.bind_eq_some_iff.mp g3
    refine ⟨v, vr, e1, W, ρ, S, x1, S1, hw, hv, g1, fun u H1 W1 e1 w1 p1 => ⟨W1, ρ, S1, y1, S2, w1, hv.ext e1, g2, fun y H2 W2 e2 w2 p2 => ?_⟩⟩
    refine setOb_at w2 (RepB.ext p1 e2) p2 (Rep.mono (e1.trans e2).w _ _ r1) g3 fun H' e' w' => ?_
    have ee := (e1.trans e2).trans e'
    exact ⟨W2, ρ, S3, ds, ρ', S', w', hv.ext ee, RepL.mono ee.w _ _ r2, g4, fun σ' H3 W3 e3 w3 sv3 => k σ' H3 W3 (ee.trans e3) w3 sv3⟩
theorem asgG_len : ∀ {l : List TgS} {ds : List D} {ρ : Envr} {S : Store} {r : Envr × Store}, asgG G cl l ds ρ S = some r → ds.length = l.length
  | [], [], _, _, _, _ => rfl
  | [], _ :: _, _, _, _, h => nomatch (show (none : Option (Envr × Store)) = some _ from h)
  | .nm i :: l, [], _, _, _, h => nomatch (show (none : Option (Envr × Store)) = some _ from h)
  | .ix _ _ :: l, [], _, _, _, h => nomatch (show (none : Option (Envr × Store)) = some _ from h)
  | .nm i :: l, d :: ds, ρ, S, r, h => by
    show ds.length + 1 = l.length + 1
    rw [asgG_len (show asgG G cl l ds (ρ.set i (some d)) S = some r from h)]
  | .ix io ik :: l, d :: ds, ρ, S, r, h => by
    obtain ⟨x1, S1, g1, g2⟩ := bnd_eq (show bnd (evE G cl io ρ S) _ = some r from h)
    obtain ⟨y1, S2, g2, g3⟩ := bnd_eq g2
    obtain ⟨S3, g3, g4⟩ := Option.bind_eq_some_iff.mp g3
    show ds.length + 1 = l.length + 1
    rw [asgG_len g4]
def mAsg (G : Prg) (cl : Call) (l : List TgS) (ga : Gv) : Mn := fun ρ S => bnd (ga ρ S) fun x S => (match x with
    | .tup ds => bnd (asgG G cl l ds ρ S) fun ρ S => some (.nx, ρ, S)
    | _ => none)
theorem s_asg {l : List TgS} {kk : Nat} {tpos : Pos} (hc : X.calm = true) (hK : X.K = C.K) (ha : EV X C md H0 .frz a ga) (hb : BA X C G cl md H0 es l) (hn : (assignEach es X.env).length = l.length) (hst : (assignEach es X.env).findIdx? (·.1) = none)
    (hs : swapsWithSole [.Tuple es kk tpos] a pos.line X.env = pure false) (hw : swappedStores [.Tuple es kk tpos] a X.env = pure none) (h1 : (assignEach [.Tuple es kk tpos] X.env).map (·.2) = [assign (.Tuple es kk tpos) X.env]) :
    ES X C md W0 H0 (.Assign [.Tuple es kk tpos] a pos) (mAsg G cl l ga) := by
  refine ⟨PS.imp (ps_asg ha.pe (pg_tup hc hb.pg hn hst) hs hw h1) fun D σ H ⟨W, ρ, S, r, hw, sv, he, hm', k⟩ => ?_⟩
  obtain ⟨x1, S1, g1, g2⟩ := bnd_eq hm'
  cases x1 with
  | tup ds =>
    obtain ⟨ρ', S', g3, g4⟩ := bnd_eq (show bnd (asgG G cl l ds ρ S1) _ = some r from g2)
    cases g4
    refine ⟨W, ρ, S, _, S1, hw, sv, g1, fun v H1 W1 e1 w1 p1 => ?_⟩
    obtain ⟨ad, xs, rfl, q, r⟩ := rb_tup w1 (.inl p1)
    exact ⟨ad, xs, rfl, by rw [hK]; exact q, by rw [← r.length]; exact asgG_len g3, W1, ρ, S1, ds, ρ', S', w1, sv.ext e1, r, g3, fun σ' H' W' e w v => k σ' H' W' (e1.w.trans e.w) w v ((he.trans e1).trans e)⟩
  | _ => exact nomatch (show (none : SR3) = some _ from g2)
end
end MT

set_option maxRecDepth 100000
set_option maxHeartbeats 4000000
/-! MTr: calls. -/
namespace MT
open PySem PySem.Spec PyProof.Rows L2
/-- a promise by values -/
def spD (C : Cst) (g : List D → Store → Option (D × Store)) : Sp := fun vs H Q E => ∃ W S ds d S', SW C W S H ∧ RepL C W ds vs ∧ g ds S = some (d, S') ∧ ∀ v H' W', MT.Ext W H W' H' → SW C W' S' H' → Rep C W' d v → Q v H'
/-- the promise of a function value -/
def spV (C : Cst) (cl : Call) (i : Nat) (cs : List D) (x : V) : Sp := fun vs H Q E => ∃ W S ds d S', SW C W S H ∧ Rep C W (.fn i cs) x ∧ RepL C W ds vs ∧ cl i cs ds S = some (d, S') ∧ ∀ v H' W', MT.Ext W H W' H' → SW C W' S' H' → Rep C W' d v → Q v H'
def Runs (P : Program) (w : World) (K : PySem.W.Frag) (mg : Str → Option Value) (base : Heap) (k : Nat) (f : Value) (sp : Sp) : Prop :=
  ∀ (A : Around) (outer : List Env) (s : Shared) (H : Hp) (us : List Value) (vs : List V) (Q : VK) (E : XK), Room k A → Env0 P w K mg base A outer s H → Vals vs us → sp vs H Q E →
    codeAny (model P w) A (.call f ⟨us, []⟩) (CR C8.CX0 outer P w H s Q E) s
def RunsK (P : Program) (w : World) (K : PySem.W.Frag) (mg : Str → Option Value) (base : Heap) (k : Nat) (f : Value) (n : Nat) (ks : List Str) (p : List Nat) (sp : Sp) : Prop :=
  ∀ (A : Around) (outer : List Env) (s : Shared) (H : Hp) (us ws : List Value) (vs zs xs : List V) (Q : VK) (E : XK), Room k A → Env0 P w K mg base A outer s H → Vals vs us → Vals zs ws → vs.length = n → zs.length = ks.length → permD (vs ++ zs) p = some xs → sp xs H Q E →
    codeAny (model P w) A (.call f ⟨us, ks.zip ws⟩) (CR C8.CX0 outer P w H s Q E) s
/-- where the i-th function stands -/
def fnAddr (C : Cst) (i : Nat) : Option Addr := match C.fk[i]? with
  | some (.glo x) => match C.mg x with
    | some (.ref a) => some a
    | _ => none
  | some (.met a) => some a
  | _ => none
/-- what the functions promise, one level below -/
structure FnsOk (P : Program) (w : World) (K : PySem.W.Frag) (mg : Str → Option Value) (base : Heap) (C : Cst) (k : Nat) (cl : Call) : Prop where
  dir : ∀ i a, fnAddr C i = some a → Runs P w K mg base k (.ref a) (spD C (cl i []))
  kw : ∀ i a n ks p, fnAddr C i = some a → (i, n, ks, p) ∈ C.kwl → RunsK P w K mg base k (.ref a) n ks p (spD C (cl i []))
  val : ∀ i cs x u, RelV x u → Runs P w K mg base k u (spV C cl i cs x)
/-- the facts that a body's context has -/
structure Fx where
  C : Cst
  k : Nat
  N : List Str
  sc : Scope
  md : Nat → Mo
  G : Prg
  cl : Call
  fu : Nat
structure Ctx (F : Fx) (X : Cx) : Prop where
  K : X.K = F.C.K
  mg : X.mg = F.C.mg
  calm : X.calm = true
  room : Room (F.k + 1) X.A
  N : X.N = F.N
  sc : X.env.scope = F.sc
  xe : X.xe = fun _ _ => False
  fns : FnsOk X.prog X.w X.K X.mg X.base F.C F.k F.cl
section
variable {X : Cx} {C : Cst} {G : Prg} {cl : Call} {k : Nat} {md : Nat → Mo} {W0 : Wd} {H0 : Hp} {mo : Mo} {a b c e o tg iter : Expr} {es : List Expr} {pos pos' : Pos} {ga gb gc go : Gv} {gl : Gl'}
/-- behind a call: the value -/
theorem call_back {pins : List (Addr × Obj)} {σ : L2.St} {H : Hp} {s : Shared} {Q : VK} {E : XK} {f : Value} {args : Args} (I : L2.Inv X pins σ H s) (h : codeAny (model X.prog X.w) X.A (.call f args) (CR C8.CX0 X.stack X.prog X.w H s Q E) s) :
    wpAny (model X.prog X.w) X.A (call f args.pos args.kw) (EP X pins σ Q) X.xe s := by
  refine wpAny_call (codeAny_mono h fun r s' hq => ?_)
  cases r with
  | error e => exact False.elim hq
  | ok fl =>
    cases fl with
    | ret u => exact I.after hq
    | next => exact False.elim hq
    | brk => exact False.elim hq
    | cont => exact False.elim hq
def gCall (cl : Call) (i : Nat) (gl : Gl') : Gv := fun ρ S => bnd (gl ρ S) fun ds S => cl i [] ds S
/-- a call's reading -/
theorem tl_call {i : Nat} : ∀ σ H Q, TI C md H0 .frz (gCall cl i gl) σ H Q → TL C md H0 gl σ H fun vs H1 => spD C (cl i []) vs H1 Q (fun _ _ _ => False) := by
  intro σ H Q ⟨W, ρ, S, d, S', hw, hv, hg, q⟩
  obtain ⟨ds, S1, g1, g2⟩ := bnd_eq hg
  exact ⟨W, ρ, S, ds, S1, hw, hv, g1, fun vs H1 W1 e1 w1 p1 => ⟨W1, S1, ds, d, S', w1, p1, g2, fun v H' W' e w p => q v H' W' (e1.trans e) w p⟩⟩
theorem ev_call {i : Nat} {x : Str} {ad : Addr} {p : Pos} (hmg : X.mg = C.mg) (hK : X.K = C.K) (R : Runs X.prog X.w X.K X.mg X.base k (.ref ad) (spD C (cl i []))) (hr : Room k X.A) (hg : Gl X x) (hm : C.mg x = some (.ref ad)) (hk : PySem.W.keepIn C.K (.ref ad) = true)
    (ha : EL X C md H0 (e :: es) gl) (hdb : (x == ("__debug__" : Str)) = false) (hs : noStar (e :: es) = true) : EV X C md H0 .frz (.Call (.Name x p) (e :: es) [] pos) (gCall cl i gl) := by
  obtain ⟨s1, s2⟩ := noStar_cons hs
  refine ⟨⟨fun pins s σ H Q I h => ?_⟩⟩
  refine wpAny_Call_Name_kw (ld_glob I hg (by rw [hmg]; exact hm) ?_ hdb)
  refine PySem.W.callWith_K (h₀ := X.base) I.ok.mod.kin (by rw [hK]; exact hk) (thn (ha.pa.run pos pins s σ H _ I (tl_call σ H Q h)) fun us s1 ⟨vs, H1, I1, r, q⟩ => ⟨I1.kIn, ?_⟩) (starEach_ns s1) (backTo_plain s2)
  exact call_back I1 (R X.A X.stack s1 H1 us vs Q _ hr I1.env0 r q)
theorem ev_call0 {i : Nat} {x : Str} {ad : Addr} {p : Pos} (hmg : X.mg = C.mg) (hK : X.K = C.K) (R : Runs X.prog X.w X.K X.mg X.base k (.ref ad) (spD C (cl i []))) (hr : Room k X.A) (hg : Gl X x) (hm : C.mg x = some (.ref ad)) (hk : PySem.W.keepIn C.K (.ref ad) = true)
    (hdb : (x == ("__debug__" : Str)) = false) : EV X C md H0 .frz (.Call (.Name x p) [] [] pos) (gCall cl i glNil) := by
  refine ⟨⟨fun pins s σ H Q I h => ?_⟩⟩
  refine wpAny_Call_Name_kw (ld_glob I hg (by rw [hmg]; exact hm) ?_ hdb)
  refine PySem.W.callWith_K0 I.kIn (by rw [hK]; exact hk) ?_
  obtain ⟨W, ρ, S, ds, S1, hw, hv, g1, q⟩ := tl_call σ H Q h
  cases g1
  exact call_back (args := ⟨[], []⟩) I (R X.A X.stack s H [] [] Q _ hr I.env0 .nil (q [] H W (.refl _ _) hw .nil))
/-! ### a value that is a function -/
def gCallv (cl : Call) (i : Nat) (gl : Gl') : Gv := fun ρ S => (match ρ[i]? with
    | some (some (.fn f cs)) => bnd (gl ρ S) fun ds S => cl f cs ds S
    | _ => none)
theorem ev_callv {i : Nat} {x : Str} {p : Pos} (hmg : X.mg = C.mg) (hK : X.K = C.K) (R : ∀ j cs y u, RelV y u → Runs X.prog X.w X.K X.mg X.base k u (spV C cl j cs y)) (hr : Room k X.A) (hN : X.N[i]? = some x) (hv : Vis X.env.scope x) (hm : md i = .frz)
    (ha : EL X C md H0 (e :: es) gl) (hd : (x == ("__debug__" : Str)) = false) (hcd : (x == ("__classdict__" : Str)) = false) (hs : noStar (e :: es) = true) : EV X C md H0 .frz (.Call (.Name x p) (e :: es) [] pos) (gCallv cl i gl) := by
  obtain ⟨s1', s2'⟩ := noStar_cons hs
  refine ⟨⟨fun pins s σ H Q I h => ?_⟩⟩
  obtain ⟨W, ρ, S, d, S', hw, sv, hg, k⟩ := h
  unfold gCallv at hg
  split at hg
  rotate_left
  · cases hg
  rename_i f cs hρ
  obtain ⟨ds, S1, g1, g2⟩ := bnd_eq hg
  obtain ⟨y, h1, h2⟩ := sv.loc i _ hρ
  rw [hm] at h2
  have h2 : Rep C W (.fn f cs) y := h2
  refine wpAny_Call_Name_kw (thn ((pe_var (pos := p) hN hv hd hcd).run pins s σ H (fun v H1 => v = y ∧ H1 = H) I ⟨y, h1, rfl, rfl⟩) fun u s1 ⟨v, H1, I1, r1, q1⟩ => ?_)
  obtain ⟨rfl, eH⟩ := q1
  have I1 : L2.Inv X pins σ H s1 := eH ▸ I1
  have fin : ∀ us s2, AP X pins σ (fun vs H2 => ∃ W2, MT.Ext W H W2 H2 ∧ SW C W2 S1 H2 ∧ RepL C W2 ds vs) us s2 → wpAny (model X.prog X.w) X.A (call u us) (EP X pins σ Q) X.xe s2 := by
    intro us s2 ⟨vs, H2, I2, r2, W2, e2, w2, p2⟩
    exact call_back (args := ⟨us, []⟩) I2 (R f cs v u r1 X.A X.stack s2 H2 us vs Q (fun _ _ _ => False) hr I2.env0 r2 ⟨W2, S1, ds, d, S', w2, Rep.mono e2.w _ _ h2, p2, g2, fun v' H' W' e w p => k v' H' W' (e2.trans e) w p⟩)
  have row := ha.pa.run pos pins s1 σ H (fun vs H2 => ∃ W2, MT.Ext W H W2 H2 ∧ SW C W2 S1 H2 ∧ RepL C W2 ds vs) I1 ⟨W, ρ, S, ds, S1, hw, sv, g1, fun vs H' W' e w p => ⟨W', e, w, p⟩⟩
  have h3 := h2
  rw [Rep] at h3
  split at h3
  · obtain ⟨_, ad, rfl, _, h4⟩ := h3
    cases (show u = Value.ref ad from r1)
    refine PySem.W.callWith_K (h₀ := X.base) I.ok.mod.kin (by rw [hK]; exact h4) (thn row fun us s2 q => ⟨?_, fin us s2 q⟩) (starEach_ns s1') (backTo_plain s2')
    obtain ⟨_, _, I2, _⟩ := q
    exact I2.kIn
  · obtain ⟨fa, c, cl', pm, ctv, vs, ob, rfl, h4, h5, _⟩ := h3
    cases (show u = Value.ref fa from r1)
    have at_ : ∀ {σ' : L2.St} {H' : Hp} {s' : Shared}, L2.Inv X pins σ' H' s' → H' fa = some (PinO fa ob) → PySem.W.FnAt fa s'.heap := fun {σ' H' s'} I' e' => by
      obtain ⟨z, _, _⟩ := I'.hok fa _ e'
      have z : s'.heap.get? fa = some ob := z
      rw [h5] at z
      exact ⟨_, _, _, _, z⟩
    refine PySem.W.callWith_F (first := []) (at_ I1 (hw.sub _ _ h4).1) (thn row fun us s2 q => ⟨?_, fin us s2 q⟩) (starEach_ns s1') (backTo_plain s2')
    obtain ⟨_, _, I2, _, W2, e2, w2, _⟩ := q
    exact at_ I2 (w2.sub _ _ (e2.w.f _ _ h4)).1
  · exact h3.elim
end
end MT

set_option maxRecDepth 100000
set_option maxHeartbeats 4000000
/-! MTs: keywords, new instances, attributes, own ==. -/
namespace MT
open PySem PySem.Spec PyProof.Rows L2
section
variable {X : Cx} {C : Cst} {G : Prg} {cl : Call} {k : Nat} {md : Nat → Mo} {W0 : Wd} {H0 : Hp} {mo : Mo} {a b c e o tg iter : Expr} {es : List Expr} {pos pos' kpos : Pos} {ga gb gc go : Gv} {gl gk : Gl'} {kws : List Keyword} {nm : Option Str}
/-! ### keywords -/
structure EK (X : Cx) (C : Cst) (md : Nat → Mo) (H0 : Hp) (kws : List Keyword) (g : Gl') : Prop where
  pk : PK X kws (TL C md H0 g)
theorem PK.imp {kws : List Keyword} {t t' : TA} (h : PK X kws t) (k : ∀ σ H Q, t' σ H Q → t σ H Q) : PK X kws t' := ⟨fun pos pins s σ H Q I q => h.run pos pins s σ H Q I (k σ H Q q)⟩
theorem ek_nil : EK X C md H0 [] glNil := ⟨PK.imp pk_nil fun σ H Q ⟨W, ρ, S, ds, S', hw, hv, hg, k⟩ => by
  cases hg
  exact k [] H W (.refl _ _) hw .nil⟩
theorem ek_cons (ha : EV X C md H0 .frz e ga) (hl : EK X C md H0 kws gl) : EK X C md H0 (⟨nm, e, kpos⟩ :: kws) (glCons ga gl) := by
  refine ⟨PK.imp (pk_cons ha.pe hl.pk) fun σ H Q ⟨W, ρ, S, ds, S', hw, hv, hg, k⟩ => ?_⟩
  obtain ⟨x, S1, h1, hg⟩ := bnd_eq hg
  obtain ⟨xs, S2, h2, hg⟩ := bnd_eq hg
  cases hg
  refine ⟨W, ρ, S, x, S1, hw, hv, h1, fun v H1 W1 e1 w1 p1 => ⟨W1, ρ, S1, xs, _, w1, hv.ext e1, h2, fun vs H2 W2 e2 w2 p2 => ?_⟩⟩
  exact k (v :: vs) H2 W2 (e1.trans e2) w2 (.cons (Rep.mono e2.w _ _ p1) p2)
theorem RepL.perm {W : Wd} {ds : List D} {vs : List V} (r : RepL C W ds vs) : ∀ {p : List Nat} {es : List D}, permD ds p = some es → ∃ xs, permD vs p = some xs ∧ RepL C W es xs
  | [], es, h => by cases h; exact ⟨[], rfl, .nil⟩
  | i :: p, es, h => by
    unfold permD at h
    split at h
    · rename_i d r' h1 h2
      cases h
      obtain ⟨v, q1, q2⟩ := r.get h1
      obtain ⟨xs, q3, q4⟩ := RepL.perm r h2
      exact ⟨v :: xs, by unfold permD; rw [q1, q3], .cons q2 q4⟩
    · cases h
def gCallk (cl : Call) (i : Nat) (gl gk : Gl') (p : List Nat) : Gv := fun ρ S => bnd (gl ρ S) fun ds S => bnd (gk ρ S) fun es S => (permD (ds ++ es) p).bind fun ds => cl i [] ds S
theorem ev_callk0 {i : Nat} {x : Str} {ad : Addr} {ks : List Str} {p : List Nat} {pp : Pos} (hmg : X.mg = C.mg) (hK : X.K = C.K) (R : RunsK X.prog X.w X.K X.mg X.base k (.ref ad) 0 ks p (spD C (cl i []))) (hr : Room k X.A) (hg : Gl X x) (hm : C.mg x = some (.ref ad)) (hk : PySem.W.keepIn C.K (.ref ad) = true)
    (ha : EK X C md H0 kws gk) (hall : (backToKw pos (keywordEach kws X.env)).all (·.1.isSome) = true) (hks : (backToKw pos (keywordEach kws X.env)).filterMap (·.1) = ks) (hlen : ∀ ρ S ds S', gk ρ S = some (ds, S') → ds.length = ks.length) (hdb : (x == ("__debug__" : Str)) = false)
    (hpl : ((backTo pos (starEach [] X.env)).any (·.1) || (backToKw pos (keywordEach kws X.env)).any (·.1.isNone)) = false) : EV X C md H0 .frz (.Call (.Name x pp) [] kws pos) (gCallk cl i glNil gk p) := by
  refine ⟨⟨fun pins s σ H Q I h => ?_⟩⟩
  refine wpAny_Call_Name_kw (ld_glob I hg (by rw [hmg]; exact hm) ?_ hdb)
  refine PySem.W.callWith_KW0 (h₀ := X.base) I.ok.mod.kin (by rw [hK]; exact hk) hall ?_ hpl
  obtain ⟨W, ρ, S, d, S', hw, sv, hg2, q⟩ := h
  obtain ⟨ds, S1, g1, g2⟩ := bnd_eq hg2
  cases g1
  obtain ⟨es, S2, g2, g3⟩ := bnd_eq g2
  obtain ⟨ds2, g3, g4⟩ := Option.bind_eq_some_iff.mp g3
  refine thn (ha.pk.run pos pins s σ H (fun vs H1 => ∃ W1, MT.Ext W H W1 H1 ∧ SW C W1 S2 H1 ∧ RepL C W1 es vs) I ⟨W, ρ, _, es, S2, hw, sv, g2, fun vs H1 W1 e1 w1 p1 => ⟨W1, e1, w1, p1⟩⟩) fun ws s2 ⟨zs, H2, I2, rz, W2, e2, w2, p2⟩ => ⟨I2.kIn, ?_⟩
  rw [hks]
  obtain ⟨xs, q1, q2⟩ := RepL.perm p2 (by simpa using g3)
  exact call_back (args := ⟨[], ks.zip ws⟩) I2 (R X.A X.stack s2 H2 [] ws [] zs xs Q (fun _ _ _ => False) hr I2.env0 .nil rz rfl (by rw [← p2.length]; exact hlen _ _ _ _ g2) q1 ⟨W2, S2, ds2, d, S', w2, q2, g4, fun v H' W' e w p => q v H' W' (e2.trans e) w p⟩)
/-! ### a new instance -/
theorem repFs_nil {W : Wd} : RepFs C W [] [] := ⟨Nat.le_refl _, fun _ _ z => by simp [List.lookup] at z, fun _ _ z => by simp [List.lookup] at z⟩
theorem new_obj {W : Wd} {S : Store} {H : Hp} {x dx A : Addr} {c : Nat} {nmc : Str} (w : SW C W S H) (hx : H x = none) (hdx : H dx = none) (ne : dx ≠ x) (hc : C.cls[c]? = some nmc) (hm : C.mg nmc = some (.ref A)) :
    MT.Ext W H ⟨W.F, W.m ++ [x]⟩ (upd (upd H dx (.own x)) x (.ins A dx [])) ∧ SW C ⟨W.F, W.m ++ [x]⟩ (S ++ [.ins c []]) (upd (upd H dx (.own x)) x (.ins A dx [])) ∧ Rep C ⟨W.F, W.m ++ [x]⟩ (.obj S.length) (.ref x) := by
  have e1 := new_ext (W := W) (o := HO.own x) hdx
  have w1 := new_sw (o := HO.own x) w hdx (fun _ z => by cases z)
  have hx1 : upd H dx (.own x) x = none := by rw [upd_ne (Ne.symm ne)]; exact hx
  obtain ⟨e2, w2, r2⟩ := add_obj (ob := .ins c []) (o := .ins A dx []) w1 hx1 (fun _ z => by cases z) ⟨A, dx, [], rfl, ⟨nmc, hc, hm⟩, repFs_nil⟩
  exact ⟨e1.trans e2, w2, r2⟩
def gNew (cl : Call) (c f : Nat) (gl : Gl') : Gv := fun ρ S => bnd (gl ρ S) fun ds S => bnd (cl f [] (.obj S.length :: ds) (S ++ [.ins c []])) fun r S1 => (match r with
    | .non => some (.obj S.length, S1)
    | _ => none)
theorem run_new {pins : List (Addr × Obj)} {σ : L2.St} {H : Hp} {s : Shared} {Q : VK} {us ws : List Value} {ks : List Str} {A g : Addr} {sp : Sp} {vs : List V} (M : Mk X.K A g) (I : L2.Inv X pins σ H s)
    (h : ∀ x dx, H x = none → H dx = none → dx ≠ x → ∀ s', Env0 X.prog X.w X.K X.mg X.base (X.A.under (.builtin "type.__call__" ⟨.ref A :: us, ks.zip ws⟩)) X.stack s' (upd (upd H dx (.own x)) x (.ins A dx [])) →
      codeAny (model X.prog X.w) (X.A.under (.builtin "type.__call__" ⟨.ref A :: us, ks.zip ws⟩)) (.call (.ref g) ⟨.ref x :: us, ks.zip ws⟩) (CR C8.CX0 X.stack X.prog X.w (upd (upd H dx (.own x)) x (.ins A dx [])) s' (fun v H2 => v = .non ∧ Q (.ref x) H2) fun _ _ _ => False) s') :
    wpAny (model X.prog X.w) X.A (call (.ref A) us (ks.zip ws)) (EP X pins σ Q) X.xe s := by
  have I2 := Inv.made (C := A) I
  have hq := h (s.heap.objs.size + 1) s.heap.objs.size (I.hok.fresh (Nat.le_succ _)) (I.hok.fresh (Nat.le_refl _)) (Nat.ne_of_lt (Nat.lt_succ_self _)) _ (I2.env0.make A us (ks.zip ws))
  refine wpAny_call (make_map (f := g) I.kIn M.makes M.init (beq_iff_eq.mp M.fn) (codeAny_mono hq fun r s' hq' => ?_))
  cases r with
  | error e => exact False.elim hq'
  | ok fl =>
    cases fl with
    | ret u =>
      obtain ⟨v, H', I3, rv, ev, q3⟩ := I2.after hq'
      subst ev
      exact ⟨rv, ⟨V.ref (s.heap.objs.size + 1), H', I3, rfl, q3⟩⟩
    | next => exact False.elim hq'
    | brk => exact False.elim hq'
    | cont => exact False.elim hq'
theorem ev_new {c f : Nat} {x : Str} {A g : Addr} {p : Pos} (hmg : X.mg = C.mg) (hK : X.K = C.K) (R : Runs X.prog X.w X.K X.mg X.base k (.ref g) (spD C (cl f []))) (hr : Room (k + 1) X.A) (hg : Gl X x) (hm : C.mg x = some (.ref A)) (hc : C.cls[c]? = some x) (M : Mk C.K A g)
    (ha : EL X C md H0 (e :: es) gl) (hdb : (x == ("__debug__" : Str)) = false) (hs : noStar (e :: es) = true) : EV X C md H0 .frz (.Call (.Name x p) (e :: es) [] pos) (gNew cl c f gl) := by
  obtain ⟨s1', s2'⟩ := noStar_cons hs
  refine ⟨⟨fun pins s σ H Q I h => ?_⟩⟩
  obtain ⟨W, ρ, S, d, S', hw, sv, hg2, q⟩ := h
  obtain ⟨ds, S1, g1, g2⟩ := bnd_eq hg2
  obtain ⟨r, S2, g2, g3⟩ := bnd_eq g2
  refine wpAny_Call_Name_kw (ld_glob I hg (by rw [hmg]; exact hm) ?_ hdb)
  refine PySem.W.callWith_K (h₀ := X.base) I.ok.mod.kin (by rw [hK]; exact M.kp) (thn (ha.pa.run pos pins s σ H (fun vs H1 => ∃ W1, MT.Ext W H W1 H1 ∧ SW C W1 S1 H1 ∧ RepL C W1 ds vs) I ⟨W, ρ, S, ds, S1, hw, sv, g1, fun vs H1 W1 e1 w1 p1 => ⟨W1, e1, w1, p1⟩⟩) fun us s1 ⟨vs, H1, I1, rv, W1, e1, w1, p1⟩ => ⟨I1.kIn, ?_⟩) (starEach_ns s1') (backTo_plain s2')
  refine run_new (ks := []) (ws := []) (sp := spD C (cl f [])) (vs := vs) (by rw [hK]; exact M) I1 fun y dy hy hdy ne s' e0 => ?_
  obtain ⟨e2, w2, r2⟩ := new_obj w1 hy hdy ne hc hm
  refine R _ X.stack s' _ (.ref y :: us) (.ref y :: vs) _ _ (hr.make A us []) e0 (.cons rfl rv) ⟨⟨W1.F, W1.m ++ [y]⟩, _, .obj S1.length :: ds, r, S2, w2, .cons r2 (RepL.mono e2.w _ _ p1), g2, fun v H' W' e w p => ?_⟩
  cases r with
  | non =>
    have g3 : some (D.obj S1.length, S2) = some (d, S') := g3
    cases g3
    rw [Rep] at p
    exact ⟨p, q _ H' W' ((e1.trans e2).trans e) w (Rep.mono e.w _ _ r2)⟩
  | _ => exact nomatch (show (none : Option (D × Store)) = some _ from g3)
def gNewk (cl : Call) (c f : Nat) (gl gk : Gl') (p : List Nat) : Gv := fun ρ S => bnd (gl ρ S) fun ds S => bnd (gk ρ S) fun es S => (permD (ds ++ es) p).bind fun ds => bnd (cl f [] (.obj S.length :: ds) (S ++ [.ins c []])) fun r S1 => (match r with
    | .non => some (.obj S.length, S1)
    | _ => none)
theorem ev_newk0 {c f : Nat} {x : Str} {A g : Addr} {ks : List Str} {p : List Nat} {pp : Pos} (hmg : X.mg = C.mg) (hK : X.K = C.K) (R : RunsK X.prog X.w X.K X.mg X.base k (.ref g) 1 ks (0 :: p.map (· + 1)) (spD C (cl f []))) (hr : Room (k + 1) X.A) (hg : Gl X x) (hm : C.mg x = some (.ref A)) (hc : C.cls[c]? = some x) (M : Mk C.K A g)
    (ha : EK X C md H0 kws gk) (hall : (backToKw pos (keywordEach kws X.env)).all (·.1.isSome) = true) (hks : (backToKw pos (keywordEach kws X.env)).filterMap (·.1) = ks) (hlen : ∀ ρ S ds S', gk ρ S = some (ds, S') → ds.length = ks.length) (hdb : (x == ("__debug__" : Str)) = false)
    (hpl : ((backTo pos (starEach [] X.env)).any (·.1) || (backToKw pos (keywordEach kws X.env)).any (·.1.isNone)) = false) : EV X C md H0 .frz (.Call (.Name x pp) [] kws pos) (gNewk cl c f glNil gk p) := by
  refine ⟨⟨fun pins s σ H Q I h => ?_⟩⟩
  refine wpAny_Call_Name_kw (ld_glob I hg (by rw [hmg]; exact hm) ?_ hdb)
  refine PySem.W.callWith_KW0 (h₀ := X.base) I.ok.mod.kin (by rw [hK]; exact M.kp) hall ?_ hpl
  obtain ⟨W, ρ, S, d, S', hw, sv, hg2, q⟩ := h
  obtain ⟨ds, S1, g1, g2⟩ := bnd_eq hg2
  cases g1
  obtain ⟨es, S2, g2, g3⟩ := bnd_eq g2
  obtain ⟨ds2, g3, g4⟩ := Option.bind_eq_some_iff.mp g3
  obtain ⟨r, S3, g4, g5⟩ := bnd_eq g4
  refine thn (ha.pk.run pos pins s σ H (fun vs H1 => ∃ W1, MT.Ext W H W1 H1 ∧ SW C W1 S2 H1 ∧ RepL C W1 es vs) I ⟨W, ρ, _, es, S2, hw, sv, g2, fun vs H1 W1 e1 w1 p1 => ⟨W1, e1, w1, p1⟩⟩) fun ws s2 ⟨zs, H2, I2, rz, W2, e2, w2, p2⟩ => ⟨I2.kIn, ?_⟩
  rw [hks]
  obtain ⟨xs, q1, q2⟩ := RepL.perm p2 (by simpa using g3)
  refine run_new (ks := ks) (ws := ws) (us := []) (sp := spD C (cl f [])) (vs := []) (by rw [hK]; exact M) I2 fun y dy hy hdy ne s' e0 => ?_
  obtain ⟨e3, w3, r3⟩ := new_obj w2 hy hdy ne hc hm
  have hp : ∀ (p : List Nat) (xs : List V), permD zs p = some xs → permD ([V.ref y] ++ zs) (p.map (· + 1)) = some xs := by
    intro p
    induction p with
    | nil => intro xs h; cases h; rfl
    | cons i p ih =>
      intro xs h
      unfold permD at h
      split at h
      · rename_i v r' h1 h2
        cases h
        have : ([V.ref y] ++ zs)[i + 1]? = some v := by simpa using h1
        rw [List.map_cons]
        unfold permD
        rw [ih _ h2, this]
      · cases h
  refine R _ X.stack s' _ [.ref y] ws [.ref y] zs (.ref y :: xs) _ _ (hr.make A [] (ks.zip ws)) e0 (.cons rfl .nil) rz rfl (by rw [← p2.length]; exact hlen _ _ _ _ g2) ?_ ⟨⟨W2.F, W2.m ++ [y]⟩, _, .obj S2.length :: ds2, r, S3, w3, .cons r3 (RepL.mono e3.w _ _ q2), g4, fun v H' W' e w p => ?_⟩
  · unfold permD
    rw [hp p xs q1]
    rfl
  · cases r with
    | non =>
      have g5 : some (D.obj S2.length, S3) = some (d, S') := g5
      cases g5
      rw [Rep] at p
      exact ⟨p, q _ H' W' ((e2.trans e3).trans e) w (Rep.mono e.w _ _ r3)⟩
    | _ => exact nomatch (show (none : Option (D × Store)) = some _ from g5)
end
end MT

set_option maxRecDepth 100000
set_option maxHeartbeats 4000000
/-! MTt: attributes, own ==. -/
namespace MT
open PySem PySem.Spec PyProof.Rows L2
/-- what the program's tables say of the classes -/
structure GOk (C : Cst) (G : Prg) : Prop where
  ck : ClsOk C
  fnd : C.fld.Nodup
  fl : ∀ (c : Nat) (x : Str) (A : Addr) (j : Nat) (y : Str), C.cls[c]? = some x → C.mg x = some (.ref A) → C.fld[j]? = some y → G.fld.contains (c, j) = true → NoAttr C.K A y
  pr : ∀ (c : Nat) (x : Str) (A : Addr) (j : Nat) (y : Str) (f : Nat), C.cls[c]? = some x → C.mg x = some (.ref A) → C.fld[j]? = some y → G.prop.lookup (c, j) = some f → ∃ p g, fnAddr C f = some g ∧ PropOf C.K A y p g
  eq : ∀ (c : Nat) (x : Str) (A : Addr) (f : Nat), C.cls[c]? = some x → C.mg x = some (.ref A) → G.eqm.lookup c = some f → ∃ g : Addr, fnAddr C f = some g ∧ PySem.W.findIn C.K (.ref A) "__eq__" = some (some (.ref g)) ∧ PySem.W.isFn C.K (.ref g) = true ∧ PySem.W.findIn C.K (.ref A) "__ne__" = some (some (.builtin "object.__ne__")) ∧
    (∀ n ∈ ["NoneType", "bool", "int", "str", "tuple", "list", "dict"], PySem.W.notFirst C.K A (.type n) = true) ∧ ∀ (c' : Nat) (x' : Str) (A' : Addr), C.cls[c']? = some x' → C.mg x' = some (.ref A') → PySem.W.notFirst C.K A (.ref A') = true
section
variable {X : Cx} {C : Cst} {G : Prg} {cl : Call} {k : Nat} {md : Nat → Mo} {W0 : Wd} {H0 : Hp} {mo : Mo} {a b c e o tg iter : Expr} {es : List Expr} {pos pos' kpos : Pos} {ga gb gc go : Gv} {gl gk : Gl'}
theorem clsOf_some {S : Store} {n c : Nat} {fs : List (Nat × D)} (h : clsOf S n = some (c, fs)) : S[n]? = some (.ins c fs) := by
  unfold clsOf at h
  split at h
  · rename_i hS
    cases h
    exact hS
  · cases h
/-- an instance looked at -/
theorem rb_ins {W : Wd} {S : Store} {H : Hp} {n c : Nat} {fs : List (Nat × D)} {v : V} (w : SW C W S H) (h : RepB C W H (.obj n) v) (hc : clsOf S n = some (c, fs)) :
    ∃ ad A dx fv x, v = .ref ad ∧ W.m[n]? = some ad ∧ H ad = some (.ins A dx fv) ∧ C.cls[c]? = some x ∧ C.mg x = some (.ref A) ∧ RepFs C W fs fv := by
  obtain ⟨ad, rfl, hm⟩ := rb_obj h
  obtain ⟨a', u, q1, q2, A, dx, fv, rfl, ⟨x, h1, h2⟩, h3⟩ := w.st n _ (clsOf_some hc)
  rw [hm] at q1
  cases q1
  exact ⟨ad, A, dx, fv, x, rfl, hm, q2, h1, h2, h3⟩
theorem getprop_run {pins : List (Addr × Obj)} {σ : L2.St} {H : Hp} {s : Shared} {Q : VK} {b : Bool} {E' : Value → Shared → Prop} {A p g ad dx : Addr} {fv : List (Str × V)} {f : Str} {sp : Sp} (I : L2.Inv X pins σ H s) (ea : H ad = some (.ins A dx fv)) (c : Cls X.K A) (hp : PropOf X.K A f p g)
    (R : Runs X.prog X.w X.K X.mg X.base k (.ref g) sp) (hr : Room (k + 1) X.A) (h : sp [.ref ad] H Q (fun _ _ _ => False)) :
    wpAny (model X.prog X.w) X.A (getAttr (.ref ad) f b) (EP X pins σ Q) E' s := by
  obtain ⟨mA, O, _, _, _, _⟩ := ins_get I.hok ea
  obtain ⟨od, J, _⟩ := O.look
  obtain ⟨rest, hrec⟩ := hp.rec_
  have I1 := I.tok (s.toks + 1)
  have hc : (PySem.W.clsIn X.K A).isSome = true := by
    obtain ⟨cd, hc, _⟩ := PySem.W.any_some c.hd
    rw [hc]
    rfl
  refine PySem.W.get_bind I.kIn J (PySem.W.plainGet_of (c.get f)).1 (PySem.W.findObj_data hc hp.at_ hp.get hp.tak) (PySem.W.plainGet_of (c.get f)).2 (wpAny_call (PySem.W.prop_get (s := { s with toks := s.toks + 1 }) I.kIn hrec ?_))
  refine codeAny_mono (R X.A.in1 X.stack { s with toks := s.toks + 1 } H [.ref ad] [.ref ad] Q _ hr.in1 I1.env0.in1 (.cons rfl .nil) h) fun r s' hq => ?_
  cases r with
  | error er => exact False.elim hq
  | ok fl =>
    cases fl with
    | ret u =>
      obtain ⟨v, H', I3, rv, q3⟩ := I1.after hq
      show wpAny _ _ (handedOut u) _ _ _
      rw [PySem.W.handedOut_of (handed_of rv)]
      exact wpAny_pure ⟨v, H', I3, rv, q3⟩
    | next => exact False.elim hq
    | brk => exact False.elim hq
    | cont => exact False.elim hq
def gAtt (G : Prg) (cl : Call) (j : Nat) (ga : Gv) : Gv := fun ρ S => bnd (ga ρ S) fun x S => attS G cl j x S
theorem ev_att {j : Nat} {y : Str} (hK : X.K = C.K) (ok : GOk C G) (R : ∀ i ad, fnAddr C i = some ad → Runs X.prog X.w X.K X.mg X.base k (.ref ad) (spD C (cl i []))) (hr : Room (k + 1) X.A) (hy : C.fld[j]? = some y) (ha : EV X C md H0 .bor a ga) (hsup : isSuper a = false) :
    EV X C md H0 .frz (.Attribute a y pos) (gAtt G cl j ga) := by
  refine ⟨⟨fun pins s σ H Q I h => ?_⟩⟩
  obtain ⟨W, ρ, S, d, S', hw, sv, hg, q⟩ := h
  obtain ⟨x, S1, g1, g2⟩ := bnd_eq hg
  refine attr_of (attrBase hsup) (thn (ha.pe.run pins s σ H (fun v H1 => ∃ W1, MT.Ext W H W1 H1 ∧ SW C W1 S1 H1 ∧ RepB C W1 H1 x v) I ⟨W, ρ, S, x, S1, hw, sv, g1, fun v H1 W1 e1 w1 p1 => ⟨W1, e1, w1, p1⟩⟩) fun u s1 ⟨v, H1, I1, r1, W1, e1, w1, p1⟩ => ?_)
  unfold attS at g2
  split at g2
  rotate_left
  · cases g2
  rename_i n
  split at g2
  rotate_left
  · cases g2
  rename_i c fs hcl
  obtain ⟨ad, A, dx, fv, xn, rfl, hm, hH, h1, h2, h3⟩ := rb_ins w1 p1 hcl
  obtain rfl : u = Value.ref ad := r1
  have ic := ok.ck.ins c xn A h1 h2
  split at g2
  · rename_i hfl
    obtain ⟨d', g3, g4⟩ := map_eq g2
    cases g4
    obtain ⟨y', v, q1, q2, q3⟩ := h3.2.2 j _ g3
    rw [hy] at q1
    cases q1
    refine getattr_ok I1 hH (by rw [hK]; exact ic.cl) (by rw [hK]; exact ok.fl c xn A j y h1 h2 hy hfl) q2 fun u' s2 I2 ru => ⟨v, H1, I2, ru, q v H1 W1 e1 w1 q3⟩
  · split at g2
    · rename_i f hpr
      obtain ⟨p, g, q1, q2⟩ := ok.pr c xn A j y f h1 h2 hy hpr
      refine getprop_run I1 hH (by rw [hK]; exact ic.cl) (by rw [hK]; exact q2) (R f g q1) hr ⟨W1, S1, [.obj _], d, S', w1, .cons (by rw [Rep]; exact ⟨ad, rfl, hm⟩) .nil, g2, fun v H' W' e w p => q v H' W' (e1.trans e) w p⟩
    · cases g2
/-! ### self.f = v -/
def mSetf (G : Prg) (go : Gv) (j : Nat) (ga : Gv) : Mn := fun ρ S => bnd (ga ρ S) fun x S => bnd (go ρ S) fun a S => (match a with
    | .obj n => (match clsOf S n with
      | some (c, fs) => if G.fld.contains (c, j) && decide (fs.length < 100) then some (.nx, ρ, S.set n (.ins c (fsPut j x fs))) else none
      | none => none)
    | _ => none)
theorem fsPut_get (j i : Nat) (x : D) : ∀ fs : List (Nat × D), (fsPut j x fs).lookup i = if i = j then some x else fs.lookup i
  | [] => by
    show List.lookup i [(j, x)] = _
    by_cases h : i = j
    · simp [List.lookup, h]
    · have : (i == j) = false := by simpa using h
      simp [List.lookup, this, h]
  | (k', v') :: r => by
    have ih := fsPut_get j i x r
    show (if j = k' then (k', x) :: r else (k', v') :: fsPut j x r).lookup i = _
    by_cases hk : j = k'
    · subst hk
      rw [if_pos rfl]
      by_cases h : i = j
      · simp [List.lookup, h]
      · have : (i == j) = false := by simpa using h
        simp [List.lookup, this, h]
    · rw [if_neg hk]
      by_cases h2 : i = k'
      · subst h2
        have : ¬ i = j := fun z => hk z.symm
        simp [List.lookup, this]
      · have h3 : (i == k') = false := by simpa using h2
        simp only [List.lookup, h3]
        exact ih
theorem fsPut_len (j : Nat) (x : D) : ∀ fs : List (Nat × D), (fsPut j x fs).length = fs.length + if (fs.lookup j).isSome then 0 else 1
  | [] => rfl
  | (k', v') :: r => by
    have ih := fsPut_len j x r
    show (if j = k' then (k', x) :: r else (k', v') :: fsPut j x r).length = _
    by_cases hk : j = k'
    · subst hk
      rw [if_pos rfl]
      simp [List.lookup]
    · have h3 : (j == k') = false := by simpa using hk
      rw [if_neg hk]
      simp only [List.lookup, h3, List.length_cons, ih]
      omega
theorem putF_len (y : Str) (v : V) : ∀ fs : List (Str × V), (putF y v fs).length = fs.length + if (fs.lookup y).isSome then 0 else 1
  | [] => rfl
  | (k', v') :: r => by
    have ih := putF_len y v r
    rw [show putF y v ((k', v') :: r) = (if k' = y then (k', v) :: r else (k', v') :: putF y v r) from rfl]
    by_cases hk : k' = y
    · subst hk
      rw [if_pos rfl]
      simp [List.lookup]
    · have h3 : (y == k') = false := beq_eq_false_iff_ne.mpr (Ne.symm hk)
      rw [if_neg hk]
      simp only [List.lookup, h3, List.length_cons, ih]
      omega
theorem repFs_put {W : Wd} {fs : List (Nat × D)} {fv : List (Str × V)} {j : Nat} {y : Str} {x : D} {v : V} (nd : C.fld.Nodup) (hy : C.fld[j]? = some y) (h : RepFs C W fs fv) (r : Rep C W x v) : RepFs C W (fsPut j x fs) (putF y v fv) := by
  have inj : ∀ i z, C.fld[i]? = some z → (z = y ↔ i = j) := fun i z hi => ⟨fun e => by
    subst e
    exact (List.getElem?_inj (List.getElem?_eq_some_iff.mp hi).1 nd).mp (hi.trans hy.symm), fun e => by
    subst e
    rw [hy] at hi
    exact (Option.some.inj hi).symm⟩
  refine ⟨?_, fun z u hz => ?_, fun i d hi => ?_⟩
  · rw [fsPut_len, putF_len]
    have h1 := h.1
    have h2 : (fs.lookup j).isSome = true → (fv.lookup y).isSome = true := fun q => by
      obtain ⟨d, hd⟩ := Option.isSome_iff_exists.mp q
      obtain ⟨z, u, q1, q2, _⟩ := h.2.2 j d hd
      rw [hy] at q1
      cases q1
      rw [q2]; rfl
    split <;> split <;> first | omega | (rename_i q1 q2; exact absurd (h2 q2) q1)
  · rw [lookup_putF] at hz
    by_cases e : z = y
    · subst e
      exact ⟨j, x, hy, by rw [fsPut_get, if_pos rfl]⟩
    · rw [if_neg e] at hz
      obtain ⟨i, d, q1, q2⟩ := h.2.1 z u hz
      refine ⟨i, d, q1, ?_⟩
      rw [fsPut_get, if_neg fun q => e ((inj i z q1).mpr q)]
      exact q2
  · rw [fsPut_get] at hi
    by_cases e : i = j
    · rw [if_pos e] at hi
      cases hi
      subst e
      exact ⟨y, v, hy, by rw [lookup_putF, if_pos rfl], r⟩
    · rw [if_neg e] at hi
      obtain ⟨z, u, q1, q2, q3⟩ := h.2.2 i d hi
      refine ⟨z, u, q1, ?_, q3⟩
      rw [lookup_putF, if_neg fun q => e ((inj i z q1).mp q)]
      exact q2
theorem codeO_ins {c : Addr} {q : Str} {A dx : Addr} {fv : List (Str × V)} : HO.ins A dx fv ≠ LamX.CodeO c q := fun z => by unfold LamX.CodeO at z; cases z
theorem s_setf {j : Nat} {y : Str} {apos : Pos} (hK : X.K = C.K) (ok : GOk C G) (hy : C.fld[j]? = some y) (ho : EV X C md H0 .bor o go) (ha : EV X C md H0 .frz a ga) (hs : swapsWith a (some (.Attribute o y apos)) pos.line X.env = pure false) :
    ES X C md W0 H0 (.Assign [.Attribute o y apos] a pos) (mSetf G go j ga) := ⟨PS.imp (ps_fld ho.pe ha.pe hs) fun D σ H ⟨W, ρ, S, r, hw, sv, he, hm', k⟩ => by
  obtain ⟨x1, S1, g1, f1⟩ := bnd_eq hm'
  obtain ⟨a1, S2, g2, f2⟩ := bnd_eq f1
  split at f2
  rotate_left
  · cases f2
  rename_i n
  split at f2
  rotate_left
  · cases f2
  rename_i c fs hcl
  split at f2
  rotate_left
  · cases f2
  rename_i hc
  cases f2
  rw [Bool.and_eq_true, decide_eq_true_eq] at hc
  refine ⟨W, ρ, S, x1, S1, hw, sv, g1, fun v H1 W1 e1 w1 p1 => ⟨W1, ρ, S1, _, S2, w1, sv.ext e1, g2, fun u H2 W2 e2 w2 p2 => ?_⟩⟩
  obtain ⟨ad, A, dx, fv, xn, rfl, hm, hH, h1, h2, h3⟩ := rb_ins w2 p2 hcl
  have ic := ok.ck.ins c xn A h1 h2
  have r' := repFs_put ok.fnd hy h3 (Rep.mono e2.w _ _ p1)
  obtain ⟨z1, z2⟩ := set_obj (ob' := .ins c (fsPut j x1 fs)) (o' := .ins A dx (putF y v fv)) w2 (clsOf_some hcl) hm hH (fun _ z => by cases z) (fun _ _ => codeO_ins) ⟨A, dx, _, rfl, ⟨xn, h1, h2⟩, r'⟩
  refine ⟨ad, A, dx, fv, rfl, hH, by rw [hK]; exact ic.cl, by rw [hK]; exact ok.fl c xn A j y h1 h2 hy hc.1, ?_, k σ _ W2 (e1.w.trans e2.w) z1 (((sv.ext e1).ext e2).ext z2) (((he.trans e1).trans e2).trans z2)⟩
  have := h3.1
  have := hc.2
  omega⟩
/-! ### x == y, x != y of an instance whose class has its own == -/
theorem ty_look {W : Wd} {S : Store} {H : Hp} {d : D} {v : V} {u : Value} {pins : List (Addr × Obj)} {σ : L2.St} {s : Shared} {A : Addr} (I : L2.Inv X pins σ H s) (hK : X.K = C.K) (w : SW C W S H) (h : RepB C W H d v) (r : RelV v u) (hd : eqOk S d = true)
    (n1 : ∀ n ∈ ["NoneType", "bool", "int", "str", "tuple", "list", "dict"], PySem.W.notFirst C.K A (.type n) = true) (n2 : ∀ (c' : Nat) (x' : Str) (A' : Addr), C.cls[c']? = some x' → C.mg x' = some (.ref A') → PySem.W.notFirst C.K A (.ref A') = true) :
    ∃ tb, PySem.W.Looks (model X.prog X.w) s.heap (typeOf u) tb ∧ PySem.W.notFirst C.K A tb = true := by
  have lk : ∀ {n : String} {ad : Addr} {ob : Obj}, s.heap.get? ad = some ob → ob.cls = .type n → PySem.W.Looks (model X.prog X.w) s.heap (typeOf (.ref ad)) (.type n) := fun {n ad ob} h1 h2 => h2 ▸ (PySem.W.Looks.ld h1).andThen .now
  cases d with
  | non =>
    have hv := rb_non h
    subst hv
    obtain rfl : u = Value.none := r
    exact ⟨_, fun A Q E s' _ q => wpAny_typeOf (show s'.TypeIs .none "NoneType" from rfl) q, n1 "NoneType" (by simp)⟩
  | bl b =>
    have hv := rb_bl h
    subst hv
    obtain rfl : u = Value.bool b := r
    exact ⟨_, fun A Q E s' _ q => wpAny_typeOf (show s'.TypeIs (.bool b) "bool" from rfl) q, n1 "bool" (by simp)⟩
  | int i =>
    have hv := rb_int h
    subst hv
    obtain ⟨t, rfl⟩ := r
    exact ⟨_, fun A Q E s' _ q => wpAny_typeOf (typeIs_int s' i t) q, n1 "int" (by simp)⟩
  | str z =>
    have hv := (rb_str h).1
    subst hv
    obtain ⟨t, rfl⟩ := r
    exact ⟨_, fun A Q E s' _ q => wpAny_typeOf (typeIs_str s' _ t) q, n1 "str" (by simp)⟩
  | tup l =>
    obtain ⟨ad, xs, rfl, q, _⟩ := rb_tup w h
    obtain rfl : u = Value.ref ad := r
    obtain ⟨its, _, ⟨ob, h1, h2, _⟩, _⟩ := I.tuple (by rw [hK]; exact q)
    exact ⟨_, lk h1 h2, n1 "tuple" (by simp)⟩
  | lst l =>
    obtain ⟨ad, xs, rfl, q, _⟩ := rb_lst w h
    obtain rfl : u = Value.ref ad := r
    obtain ⟨_, its, n, _, h1⟩ := I.hok ad _ q
    exact ⟨_, lk h1 rfl, n1 "list" (by simp)⟩
  | ro l =>
    obtain ⟨ad, xs, rfl, q, _⟩ := rb_ro w h
    obtain rfl : u = Value.ref ad := r
    obtain ⟨its, _, ⟨ob, n, h1, h2, _⟩, _⟩ := I.list (by rw [hK]; exact q)
    exact ⟨_, lk h1 h2, n1 "list" (by simp)⟩
  | dct l =>
    obtain ⟨ad, xs, rfl, q, _⟩ := rb_dct w h
    obtain rfl : u = Value.ref ad := r
    obtain ⟨_, _, vs, _, ob, es, ep, h1, h2, _⟩ := I.hok ad _ q
    exact ⟨_, lk h1 h2.1, n1 "dict" (by simp)⟩
  | obj n =>
    obtain ⟨⟨c, fs⟩, hcl⟩ := Option.isSome_iff_exists.mp (show (clsOf S n).isSome = true from hd)
    obtain ⟨ad, A', dx, fv, xn, rfl, hm, hH, h1, h2, h3⟩ := rb_ins w h hcl
    obtain rfl : u = Value.ref ad := r
    obtain ⟨mA, O, _⟩ := ins_get I.hok hH
    obtain ⟨od, J, _⟩ := O.look
    exact ⟨_, J.type, n2 c xn A' h1 h2⟩
  | fn i cs => cases hd
/-- != by object's, with an own == -/
theorem ne_run {pins : List (Addr × Obj)} {σ : L2.St} {H : Hp} {s : Shared} {Q : Value → Shared → Prop} {E : Value → Shared → Prop} {A g ad : Addr} {ox : Obj} {od : Option Obj} {u : Value} {A1 : Around} (I : L2.Inv X pins σ H s) (hu : A1.units < cLine) (J : PySem.W.InstAt s.heap ad ox A od)
    (hm : PySem.W.mroIn X.K A (.type "object") = some true) (hs : PySem.W.findIn X.K (.ref A) "__ne__" = some (some (.builtin "object.__ne__"))) (he : PySem.W.findIn X.K (.ref A) "__eq__" = some (some (.ref g))) (hf : PySem.W.isFn X.K (.ref g) = true) (hu1 : A1.in1.units < cLine)
    (h : wpAny (model X.prog X.w) A1.in1 (call (.ref g) [.ref ad, u]) (fun v s' => ∃ b, v = .bool b ∧ Q (.bool (!b)) s') E s) :
    wpAny (model X.prog X.w) A1 (tryCompare (.ref ad) "__ne__" u) (fun r s' => ∃ v, r = some v ∧ Q v s') E s := by
  have entry : wpAny (model X.prog X.w) A1.in1 (Builtin.«object.__ne__» ⟨[.ref ad, u], []⟩) (fun fin s' => ∃ b, fin = .done (.ret (.bool b)) ∧ Q (.bool b) s') E s := by
    unfold Builtin.«object.__ne__»
    refine wpAny_bind (wpAny_pure ?_)
    show wpAny _ _ (cRoomFor "comparison" [.ref ad, u] >>= _) _ _ _
    refine wpAny_bind (wpAny_cRoomFor hu1 ?_)
    refine wpAny_bind (PySem.W.ifBound_K I.kIn J he hf (wpAny_mono h (fun v s' hv => ?_) fun _ _ e => e))
    obtain ⟨b, rfl, q⟩ := hv
    show wpAny _ _ (truthy (.bool b) >>= _) _ _ _
    exact wpAny_bind (wpAny_truthy_bool (wpAny_pure ⟨_, rfl, q⟩))
  have called : wpAny (model X.prog X.w) A1 (call (.builtin "object.__ne__") [.ref ad, u]) (fun v s' => ∃ b, v = .bool b ∧ Q (.bool b) s') E s := by
    refine wpAny_call (codeAny_call_builtin F.cmp_object.ne.plain F.cmpEntry_ne (PySem.W.check_slot F.cmpKind_ne F.cmpSplit_ne (J.type.andThen (PySem.W.looks_mroIn I.kIn hm)) (F.cmpArgs_ne _ _) (wpAny_mono entry (fun fin s' hv => ?_) fun _ _ e => e)))
    obtain ⟨b, rfl, q⟩ := hv
    exact ⟨b, rfl, q⟩
  unfold tryCompare
  refine wpAny_bind ?_
  simp only [callSpecialIfBound?, bindSpecialIfBound?]
  refine wpAny_holding (wpAny_bind (wpAny_bind (wpAny_bind (J.type.here ((PySem.W.looks_findIn I.kIn hs).here ?_)))))
  refine wpAny_bind (wpAny_askSetting (wpAny_ite ?_))
  have fin : wpAny (model X.prog X.w) A1 (call (.builtin "object.__ne__") ([.ref ad] ++ [u]) >>= fun v => pure (some v)) (fun r s' => ∃ b, r = some (.bool b) ∧ Q (.bool b) s') E s := wpAny_bind (wpAny_mono called (fun v s' ⟨b, e1, q⟩ => wpAny_pure ⟨b, by rw [e1], q⟩) fun _ _ h' => h')
  have back : ∀ r s', (∃ b, r = some (Value.bool b) ∧ Q (.bool b) s') → wpAny (model X.prog X.w) A1 (match r with | some .notImplemented | none => pure none | some v => pure (some v)) (fun r s' => ∃ v, r = some v ∧ Q v s') E s' := by
    rintro r s' ⟨b, rfl, q⟩
    exact wpAny_pure ⟨_, rfl, q⟩
  split
  · exact wpAny_bind (wpAny_of_eq (F.cmp_object.ne.bind _) (wpAny_pure (by exact wpAny_mono fin (fun r s' q => back r s' q) fun _ _ e => e)))
  · exact wpAny_tryCatch (wpAny_bind (wpAny_of_eq (F.cmp_object.ne.bind _) (wpAny_pure (by exact wpAny_mono fin (fun r s' q => back r s' q) fun _ _ e => e))))
def gEqo (G : Prg) (cl : Call) (ng : Bool) (ga gb : Gv) : Gv := fun ρ S => bnd (ga ρ S) fun x S => bnd (gb ρ S) fun y S => eqoS G cl ng x y S
theorem ev_eqo {ng : Bool} (hK : X.K = C.K) (ok : GOk C G) (R : ∀ i ad, fnAddr C i = some ad → Runs X.prog X.w X.K X.mg X.base k (.ref ad) (spD C (cl i []))) (hr : Room (k + 1) X.A) (ha : EV X C md H0 .bor a ga) (hb : EV X C md H0 .frz b gb) (hm : behindInMarks (if ng then .NotEq else .Eq) b = false) :
    EV X C md H0 .frz (.Compare a [if ng then .NotEq else .Eq] [b] pos) (gEqo G cl ng ga gb) := by
  refine ⟨⟨fun pins s σ H Q I h => ?_⟩⟩
  obtain ⟨W, ρ, S, d, S', hw, sv, hg, q⟩ := h
  obtain ⟨x, S1, g1, f1⟩ := bnd_eq hg
  obtain ⟨y, S2, g2, f2⟩ := bnd_eq f1
  refine wpAny_Compare1 (thn (ha.pe.run pins s σ H (fun v H1 => ∃ W1, MT.Ext W H W1 H1 ∧ SW C W1 S1 H1 ∧ RepB C W1 H1 x v) I ⟨W, ρ, S, x, S1, hw, sv, g1, fun v H1 W1 e1 w1 p1 => ⟨W1, e1, w1, p1⟩⟩) fun v s1 ⟨xv, H1, I1, r1, W1, e1, w1, p1⟩ =>
    thn (hb.pe.run pins s1 σ H1 (fun v H2 => ∃ W2, MT.Ext W1 H1 W2 H2 ∧ SW C W2 S2 H2 ∧ Rep C W2 y v) I1 ⟨W1, ρ, S1, y, S2, w1, sv.ext e1, g2, fun v H2 W2 e2 w2 p2 => ⟨W2, e2, w2, p2⟩⟩) fun u s2 ⟨yv, H2, I2, r2, W2, e2, w2, p2⟩ => ?_) hm
  unfold eqoS at f2
  split at f2
  rotate_left
  · cases f2
  split at f2
  rotate_left
  · cases f2
  rename_i c fs hcl
  split at f2
  rotate_left
  · cases f2
  rename_i f hf
  split at f2
  rotate_left
  · cases f2
  rename_i hy
  obtain ⟨r, S3, g3, f3⟩ := bnd_eq f2
  obtain ⟨bb, h3, h4⟩ := map_eq f3
  cases h4
  rw [dBl_some h3] at g3
  have p1' := RepB.ext p1 e2
  obtain ⟨ad, A, dx, fv, xn, rfl, hm', hH, h1, h2, _⟩ := rb_ins w2 p1' hcl
  obtain rfl : v = Value.ref ad := r1
  have ic := ok.ck.ins c xn A h1 h2
  obtain ⟨g, k1, k2, k3, k4, k5, k6⟩ := ok.eq c xn A f h1 h2 hf
  obtain ⟨mA, O, _⟩ := ins_get I2.hok hH
  obtain ⟨od, J, _⟩ := O.look
  obtain ⟨m, hF⟩ := I2.fr
  obtain ⟨tb, hb1, hb2⟩ := ty_look (A := A) I2 hK w2 (.inl p2) r2 hy k5 k6
  have run : ∀ {A1 : Around} (P : Bool → Prop), Room k A1 → Env0 X.prog X.w X.K X.mg X.base A1 X.stack s2 H2 → wpAny (model X.prog X.w) A1 (call (.ref g) [.ref ad, u]) (fun v s' => ∃ b, v = .bool b ∧ EP X pins σ Q (.bool (ng ^^ b)) s') X.xe s2 := by
    intro A1 P hr1 he0
    refine wpAny_call (codeAny_mono (R f g k1 A1 X.stack s2 H2 [.ref ad, u] [.ref ad, yv] (fun z H' => ∃ b, z = .bl b ∧ Q (.bl (ng ^^ b)) H') (fun _ _ _ => False) hr1 he0 (.cons rfl (.cons r2 .nil)) ⟨W2, S2, [_, y], .bl bb, _, w2, .cons (by rw [Rep]; exact ⟨ad, rfl, hm'⟩) (.cons p2 .nil), g3, fun v H' W' e w p => ?_⟩) fun r s' hq => ?_)
    · have p : v = .bl bb := by rw [Rep] at p; exact p
      exact ⟨bb, p, q _ H' W' ((e1.trans e2).trans e) w (rep_bl (C := C) (W := W') _)⟩
    · cases r with
      | error e => exact False.elim hq
      | ok fl =>
        cases fl with
        | ret z =>
          obtain ⟨v, H', I3, rv, b, rfl, q3⟩ := I2.after hq
          obtain rfl : z = Value.bool b := rv
          exact ⟨b, rfl, .bl (ng ^^ b), H', I3, rfl, q3⟩
        | next => exact False.elim hq
        | brk => exact False.elim hq
        | cont => exact False.elim hq
  have u0 := hr.units0
  cases ng with
  | false =>
    show wpAny _ _ (richCompare .Eq (.ref ad) u) _ _ _
    refine PySem.W.cmp_K (op := .Eq) (tb := tb) u0 hF I2.ok.mod.kin J hb1 (by rw [hK]; exact hb2) (by rw [hK]; exact k2) (by rw [hK]; exact k3) (wpAny_mono (run (fun _ => True) (hr.mono (Nat.le_succ k)) I2.env0) (fun w' s' hv => ?_) fun _ _ x => x)
    obtain ⟨b, rfl, q3⟩ := hv
    show EP X pins σ Q (.bool b) s'
    simpa using q3
  | true =>
    show wpAny _ _ (richCompare .NotEq (.ref ad) u) _ _ _
    have hr1 : Room k X.A.in1 := hr.in1
    have one := ne_run (Q := EP X pins σ Q) (E := X.xe) (A1 := X.A) (u := u) I2 u0 J (by rw [hK]; exact ic.hm) (by rw [hK]; exact k4) (by rw [hK]; exact k2) (by rw [hK]; exact k3) hr1.units0 (wpAny_mono (run (fun _ => True) hr1 I2.env0.in1) (fun w' s' ⟨b, e, q3⟩ => ⟨b, e, by simpa using q3⟩) fun _ _ x => x)
    unfold richCompare
    simp only [oneThing_ref]
    refine wpAny_holding (wpAny_bind (wpAny_cRoomFor u0 ?_))
    rw [cmpInfo_NotEq]
    dsimp only
    refine wpAny_bind (J.type.here (wpAny_bind (hb1.here ?_)))
    split
    · rename_i qq
      have e : PySem.W.subIn C.K tb (.ref A) = some false := by
        rcases Bool.or_eq_true_iff.mp hb2 with e | e
        · rw [beq_iff_eq.mp e] at qq; simp at qq
        · exact beq_iff_eq.mp e
      refine wpAny_bind ((PySem.W.looks_subIn (hK ▸ I2.kIn) e).here ?_)
      simp only [Bool.false_eq_true, if_false]
      refine wpAny_bind (wpAny_mono one (fun r s' z => ?_) fun _ _ e => e)
      obtain ⟨v, rfl, hq⟩ := z
      exact wpAny_pure hq
    · refine wpAny_bind (wpAny_pure ?_)
      simp only [Bool.false_eq_true, if_false]
      refine wpAny_bind (wpAny_mono one (fun r s' z => ?_) fun _ _ e => e)
      obtain ⟨v, rfl, hq⟩ := z
      exact wpAny_pure hq
end
end MT

set_option maxRecDepth 100000
set_option maxHeartbeats 4000000
/-! MTu: cells pinned and unpinned. -/
namespace MT
open PySem PySem.Spec PyProof.Rows L2
/-- cells: pinned in the frozen part -/
structure Pins (W : Wd) (N : Addr → Prop) : Prop where
  at_ : ∀ c, N c → ∃ (o : Obj) (v : Option Value), W.F c = some (PinO c o) ∧ o.data = .cell v
noncomputable def dropH (H : Hp) (N : Addr → Prop) : Hp := fun b => open Classical in if N b then none else H b
theorem dropH_in {H : Hp} {N : Addr → Prop} {b : Addr} (h : N b) : dropH H N b = none := by unfold dropH; simp [h]
theorem dropH_out {H : Hp} {N : Addr → Prop} {b : Addr} (h : ¬ N b) : dropH H N b = H b := by unfold dropH; simp [h]
theorem dropH_some {H : Hp} {N : Addr → Prop} {b : Addr} {o : HO} : dropH H N b = some o ↔ ¬ N b ∧ H b = some o := by
  by_cases h : N b
  · rw [dropH_in h]; simp [h]
  · rw [dropH_out h]; simp [h]
section
variable {C : Cst} {P : Program} {w : World} {W : Wd} {H : Hp} {h : Heap} {S : Store} {N : Addr → Prop}
/-- what a pinned cell is not -/
theorem pin_ne {o : HO} {b : Addr} (p : Pins W N) (sub : ∀ a o, W.F a = some o → H a = some o) (hN : N b) (hb : H b = some o) : ∃ oc v, o = PinO b oc ∧ oc.data = .cell v := by
  obtain ⟨oc, v, h1, h2⟩ := p.at_ b hN
  have := sub _ _ h1
  rw [hb] at this
  exact ⟨oc, v, Option.some.inj this, h2⟩
theorem pin_get {b : Addr} {oc : Obj} (ok : HOk P w H h) (hb : H b = some (PinO b oc)) : h.get? b = some oc := by
  obtain ⟨z, _, _⟩ := ok b _ hb
  exact z
theorem pinO_lst {b : Addr} {oc : Obj} {xs : List V} : HO.lst xs ≠ PinO b oc := fun z => by unfold PinO at z; cases z
theorem pinO_dK {b : Addr} {oc : Obj} {xs : List (Key × V)} : HO.dK xs ≠ PinO b oc := fun z => by unfold PinO at z; cases z
theorem pinO_tup {b : Addr} {oc : Obj} {xs : List V} : HO.tup xs ≠ PinO b oc := fun z => by unfold PinO at z; cases z
theorem pinO_frz {b : Addr} {oc o : Obj} {u : HO} : HO.frz o u ≠ PinO b oc := fun z => by unfold PinO at z; cases z
theorem pinO_tbl {b : Addr} {oc : Obj} {ps : Array Value} : HO.tbl ps ≠ PinO b oc := fun z => by unfold PinO at z; cases z
theorem not_cell {o : HO} {b : Addr} (p : Pins W N) (hb : W.F b = some o) (n : ∀ oc, o ≠ PinO b oc) : ¬ N b := fun hN => by
  obtain ⟨oc, v, h1, h2⟩ := p.at_ b hN
  rw [hb] at h1
  exact n oc (Option.some.inj h1)
/-- a code object is no cell -/
theorem code_nc {b : Addr} {q : Str} (ok : HOk P w H h) (p : Pins W N) (sub : ∀ a o, W.F a = some o → H a = some o) (hb : H b = some (LamX.CodeO b q)) : ¬ N b := fun hN => by
  obtain ⟨oc, v, h1, h2⟩ := p.at_ b hN
  have e1 := pin_get ok (sub _ _ h1)
  obtain ⟨⟨o2, vs, t, e2, e3, _⟩, _, _⟩ := ok b _ hb
  rw [e1] at e2
  cases e2
  rw [h2] at e3
  cases e3
/-- a function is no cell -/
theorem fn_nc {b : Addr} {o : Obj} {fd : FuncData} (ok : HOk P w H h) (p : Pins W N) (sub : ∀ a o, W.F a = some o → H a = some o) (hb : H b = some (PinO b o)) (hd : o.data = .func fd) : ¬ N b := fun hN => by
  obtain ⟨oc, v, h1, h2⟩ := p.at_ b hN
  have e1 := pin_get ok (sub _ _ h1)
  have e2 := pin_get ok hb
  rw [e1] at e2
  cases e2
  rw [h2] at hd
  cases hd
theorem sqt_drop {K : PySem.W.Frag} {a : Addr} {xs : List V} (p : Pins W N) (q : SqT K W.F a xs) : SqT K (W.drop N).F a xs := by
  rcases q with (q | ⟨o, q⟩) | q
  · exact .inl (.inl (drop_F.mpr ⟨not_cell p q fun _ => pinO_tup, q⟩))
  · exact .inl (.inr ⟨o, drop_F.mpr ⟨not_cell p q fun _ => pinO_frz, q⟩⟩)
  · exact .inr q
theorem sql_drop {K : PySem.W.Frag} {a : Addr} {xs : List V} (p : Pins W N) (q : SqL K W.F a xs) : SqL K (W.drop N).F a xs := by
  rcases q with (q | ⟨o, q⟩) | q
  · exact .inl (.inl (drop_F.mpr ⟨not_cell p q fun _ => pinO_lst, q⟩))
  · exact .inl (.inr ⟨o, drop_F.mpr ⟨not_cell p q fun _ => pinO_frz, q⟩⟩)
  · exact .inr q
mutual
theorem rep_drop (ok : HOk P w H h) (p : Pins W N) (sub : ∀ a o, W.F a = some o → H a = some o) : ∀ (d : D) (v : V), noLam d = true → Rep C W d v → Rep C (W.drop N) d v
  | .non, v, _, r => by rw [Rep] at r ⊢; exact r
  | .bl b, v, _, r => by rw [Rep] at r ⊢; exact r
  | .int i, v, _, r => by rw [Rep] at r ⊢; exact r
  | .str s, v, _, r => by rw [Rep] at r ⊢; exact r
  | .tup l, v, n, r => by
    rw [Rep] at r ⊢
    obtain ⟨a, xs, h1, h2, h3⟩ := r
    exact ⟨a, xs, h1, sqt_drop p h2, repL_drop ok p sub l xs n h3⟩
  | .lst l, v, n, r => by
    rw [Rep] at r ⊢
    obtain ⟨a, xs, h1, h2, h3⟩ := r
    exact ⟨a, xs, h1, drop_F.mpr ⟨not_cell p h2 fun _ => pinO_lst, h2⟩, repL_drop ok p sub l xs n h3⟩
  | .ro l, v, n, r => by
    rw [Rep] at r ⊢
    obtain ⟨a, xs, h1, h2, h3⟩ := r
    exact ⟨a, xs, h1, sql_drop p h2, repL_drop ok p sub l xs n h3⟩
  | .dct l, v, n, r => by
    rw [Rep] at r ⊢
    obtain ⟨a, xs, h1, h2, h3⟩ := r
    exact ⟨a, xs, h1, drop_F.mpr ⟨not_cell p h2 fun _ => pinO_dK, h2⟩, repP_drop ok p sub l xs n h3⟩
  | .obj n, v, _, r => by
    rw [Rep] at r ⊢
    exact r
  | .fn i cs, v, n, r => by
    rw [Rep] at r ⊢
    have n : cs.isEmpty = true := n
    obtain rfl : cs = [] := by simpa using n
    split at r
    · exact r
    · rename_i L hL
      obtain ⟨f, c, cl, pm, ctv, vs, o, h1, h2, h3, h4, h5, h6⟩ := r
      rw [RepL] at h6
      subst h6
      have fe : L.frees = [] := List.eq_nil_of_length_eq_zero h5.len.symm
      have none_ : ∀ y c, cl.lookup y = some c → False := fun y c z => by
        have := h5.only y c z
        rw [fe] at this
        cases this
      exact ⟨f, c, cl, pm, ctv, [], o, h1, drop_F.mpr ⟨fn_nc ok p sub (sub _ _ h2) (by rw [h3]), h2⟩, h3, drop_F.mpr ⟨code_nc ok p sub (sub _ _ h4), h4⟩, ⟨h5.len, fun y c z => (none_ y c z).elim, h5.inj, h5.only, fun i y z => by
        rw [fe] at z
        exact absurd z (by simp)⟩, by rw [RepL]⟩
    · exact r
theorem repL_drop (ok : HOk P w H h) (p : Pins W N) (sub : ∀ a o, W.F a = some o → H a = some o) : ∀ (ds : List D) (vs : List V), noLams ds = true → RepL C W ds vs → RepL C (W.drop N) ds vs
  | [], vs, _, r => by rw [RepL] at r ⊢; exact r
  | d :: ds, vs, n, r => by
    rw [RepL] at r ⊢
    obtain ⟨v, t, h1, h2, h3⟩ := r
    have n : (noLam d && noLams ds) = true := n
    rw [Bool.and_eq_true] at n
    exact ⟨v, t, h1, rep_drop ok p sub d v n.1 h2, repL_drop ok p sub ds t n.2 h3⟩
theorem repP_drop (ok : HOk P w H h) (p : Pins W N) (sub : ∀ a o, W.F a = some o → H a = some o) : ∀ (ps : List (D × D)) (kvs : List (Key × V)), noLamP ps = true → RepP C W ps kvs → RepP C (W.drop N) ps kvs
  | [], vs, _, r => by rw [RepP] at r ⊢; exact r
  | (k, d) :: ds, vs, n, r => by
    rw [RepP] at r ⊢
    obtain ⟨k', v, t, h1, h2, h3, h4⟩ := r
    have n : (noLam d && noLamP ds) = true := n
    rw [Bool.and_eq_true] at n
    exact ⟨k', v, t, h1, h2, rep_drop ok p sub d v n.1 h3, repP_drop ok p sub ds t n.2 h4⟩
end
theorem noLamF_get : ∀ {fs : List (Nat × D)} {k : Nat} {d : D}, noLamF fs = true → fs.lookup k = some d → noLam d = true
  | [], _, _, _, e => by simp [List.lookup] at e
  | (j, x) :: r, k, d, n, e => by
    have n : (noLam x && noLamF r) = true := n
    rw [Bool.and_eq_true] at n
    by_cases h : k == j
    · simp only [List.lookup, h] at e
      cases e
      exact n.1
    · simp only [List.lookup, h] at e
      exact noLamF_get n.2 e
theorem repO_drop (ok : HOk P w H h) (p : Pins W N) (sub : ∀ a o, W.F a = some o → H a = some o) {ob : Ob} {o : HO} (n : noLamO ob = true) (r : RepO C W ob o) : RepO C (W.drop N) ob o := by
  cases ob with
  | lst l =>
    obtain ⟨xs, h1, h2⟩ := r
    exact ⟨xs, h1, repL_drop ok p sub l xs n h2⟩
  | dct l =>
    obtain ⟨xs, h1, h2⟩ := r
    exact ⟨xs, h1, repP_drop ok p sub l xs n h2⟩
  | ins c fs =>
    obtain ⟨A, dx, fv, h1, h2, h3⟩ := r
    refine ⟨A, dx, fv, h1, h2, h3.1, h3.2.1, fun k d e => ?_⟩
    obtain ⟨x, v, q1, q2, q3⟩ := h3.2.2 k d e
    exact ⟨x, v, q1, q2, rep_drop ok p sub d v (noLamF_get n e) q3⟩
theorem SW.subs (sw : SW C W S H) : ∀ a o, W.F a = some o → H a = some o := fun a o e => (sw.sub a o e).1
/-- the world without the pins -/
theorem SW.drop (sw : SW C W S H) (ok : HOk P w H h) (p : Pins W N) (n : noLamS S = true) : SW C (W.drop N) S (dropH H N) := by
  refine ⟨fun a o e => ?_, fun q hq => ?_, fun c q e => ?_, sw.nd, sw.len, fun j ob e => ?_⟩
  · obtain ⟨h1, h2⟩ := drop_F.mp e
    obtain ⟨q1, q2, q3⟩ := sw.sub a o h2
    exact ⟨by rw [dropH_out h1]; exact q1, q2, q3⟩
  · obtain ⟨ps, h1, h2, h3⟩ := sw.tabs q hq
    refine ⟨ps, ?_, h2, fun pos cv hc => ?_⟩
    · rw [dropH_out]
      · exact h1
      · intro z
        obtain ⟨oc, v, e1, _⟩ := pin_ne p sw.subs z h1
        exact pinO_tbl e1
    · obtain ⟨c, e1, e2⟩ := h3 pos cv hc
      exact ⟨c, e1, by rw [dropH_out (code_nc ok p sw.subs e2)]; exact e2⟩
  · obtain ⟨h1, h2⟩ := dropH_some.mp e
    exact drop_F.mpr ⟨h1, sw.codes c q h2⟩
  · obtain ⟨a, o, h1, h2, h3⟩ := sw.st j ob e
    refine ⟨a, o, h1, ?_, repO_drop ok p sw.subs (List.all_eq_true.mp n ob (List.mem_of_getElem? e)) h3⟩
    rw [dropH_out]
    · exact h2
    · intro z
      obtain ⟨oc, v, e1, _⟩ := p.at_ a z
      exact (sw.sub a _ e1).2.1 (List.mem_of_getElem? h1)
theorem dropH_ok (ok : HOk P w H h) (hp : ∀ c, N c → ∃ oc, H c = some (PinO c oc)) : HOk P w (dropH H N) h := fun a o e => by
  obtain ⟨h1, h2⟩ := dropH_some.mp e
  have out : ∀ b u, H b = some u → (∀ oc, u ≠ PinO b oc) → dropH H N b = some u := fun b u q n => by
    rw [dropH_out]
    · exact q
    · intro z
      obtain ⟨oc, z⟩ := hp b z
      rw [q] at z
      exact n oc (Option.some.inj z)
  exact (ok a o h2).stay (fun b u _ q => q) (fun b q => out b _ q fun oc z => by unfold PinO at z; cases z) fun b xs q => out b _ q fun oc => pinO_tup
theorem pin_ok {a : Addr} {oc : Obj} (hg : h.get? a = some oc) : ObjOk P w H h a (PinO a oc) := ⟨hg, ⟨oc, hg⟩, fun _ _ q st => st _ q⟩
/-- pins put back -/
noncomputable def rePin (H : Hp) (N : Addr → Prop) (H' : Hp) : Hp := fun b => open Classical in if N b then H b else H' b
theorem rePin_in {H H' : Hp} {b : Addr} (h : N b) : rePin H N H' b = H b := by unfold rePin; simp [h]
theorem rePin_out {H H' : Hp} {b : Addr} (h : ¬ N b) : rePin H N H' b = H' b := by unfold rePin; simp [h]
section
variable {fs : List Addr} {H' : Hp} {h' : Heap}
theorem un_down (un : Un fs [] (dropH H N) H' h h') (ok : HOk P w H h) (ok' : HOk P w H' h') (hp : ∀ c, N c → ∃ oc, H c = some (PinO c oc)) (frf : ∀ b ∈ fs, H b = none) :
    (∀ c, N c → H' c = none) ∧ Un fs [] H (rePin H N H') h h' ∧ HOk P w (rePin H N H') h' := by
  have cell : ∀ c, N c → ∃ oc, H c = some (PinO c oc) ∧ h.get? c = some oc ∧ h'.get? c = some oc ∧ H' c = none := fun c hc => by
    obtain ⟨oc, e⟩ := hp c hc
    have g := pin_get ok e
    have nf : c ∉ fs := fun z => by rw [frf c z] at e; cases e
    exact ⟨oc, e, g, un.keep c oc g (dropH_in hc) nf (by simp), un.free c oc g (dropH_in hc) (by simp)⟩
  have out : ∀ b u, H b = some u → (∀ oc, u ≠ PinO b oc) → ¬ N b := fun b u q n z => by
    obtain ⟨oc, z⟩ := hp b z
    rw [q] at z
    exact n oc (Option.some.inj z)
  have nN : ∀ b, H b = none → ¬ N b := fun b q z => by
    obtain ⟨oc, z⟩ := hp b z
    rw [q] at z
    cases z
  refine ⟨fun c hc => (cell c hc).choose_spec.2.2.2, ⟨fun b o q n h1 h2 => un.keep b o q (by rw [dropH_out (nN b n)]; exact n) h1 h2, fun b o q n h1 h2 => un.slot b o q (by rw [dropH_out (nN b n)]; exact n) h1 h2, fun b o q n h2 => by rw [rePin_out (nN b n)]; exact un.free b o q (by rw [dropH_out (nN b n)]; exact n) h2,
    un.there, fun b xs q => ?_, fun b o u q => ?_, fun b ps q => ?_⟩, fun a o e => ?_⟩
  · have n := out b _ q fun _ => pinO_tup
    rw [rePin_out n]
    exact un.tups b xs (by rw [dropH_out n]; exact q)
  · have n := out b _ q fun _ => pinO_frz
    rw [rePin_out n]
    exact un.frzs b o u (by rw [dropH_out n]; exact q)
  · have n := out b _ q fun _ => pinO_tbl
    rw [rePin_out n]
    exact un.tbls b ps (by rw [dropH_out n]; exact q)
  · by_cases hN : N a
    · rw [rePin_in hN] at e
      obtain ⟨oc, e1, _, e3, _⟩ := cell a hN
      rw [e1] at e
      cases e
      exact pin_ok e3
    · rw [rePin_out hN] at e
      have ot : ∀ b u, H' b = some u → rePin H N H' b = some u := fun b u q => by
        rw [rePin_out]
        · exact q
        · intro z
          obtain ⟨_, _, _, _, z⟩ := cell b z
          rw [q] at z
          cases z
      exact (ok' a o e).stay (fun b u _ q => q) (fun b q => ot b _ q) fun b xs q => ot b _ q
/-- pins put in -/
noncomputable def putPin (ob : Addr → Obj) (N : Addr → Prop) (H : Hp) : Hp := fun b => open Classical in if N b then some (PinO b (ob b)) else H b
theorem putPin_in {ob : Addr → Obj} {b : Addr} (h : N b) : putPin ob N H b = some (PinO b (ob b)) := by unfold putPin; simp [h]
theorem putPin_out {ob : Addr → Obj} {b : Addr} (h : ¬ N b) : putPin ob N H b = H b := by unfold putPin; simp [h]
theorem putPin_ok {ob : Addr → Obj} (ok : HOk P w H h) (hc : ∀ c, N c → H c = none ∧ h.get? c = some (ob c)) : HOk P w (putPin ob N H) h := fun a o e => by
  by_cases hN : N a
  · rw [putPin_in hN] at e
    cases e
    exact pin_ok (hc a hN).2
  · rw [putPin_out hN] at e
    have ot : ∀ b u, H b = some u → putPin ob N H b = some u := fun b u q => by
      rw [putPin_out]
      · exact q
      · intro z
        rw [(hc b z).1] at q
        cases q
    exact (ok a o e).stay (fun b u _ q => q) (fun b q => ot b _ q) fun b xs q => ot b _ q
theorem un_up {ob : Addr → Obj} (un : Un fs [] (putPin ob N H) H' h h') (ok' : HOk P w H' h') (hc : ∀ c, N c → H c = none ∧ h.get? c = some (ob c)) (hk : ∀ c, N c → H' c = some (PinO c (ob c))) :
    Un fs [] H (dropH H' N) h h' ∧ HOk P w (dropH H' N) h' := by
  have nN : ∀ b u, H b = some u → ¬ N b := fun b u q z => by
    rw [(hc b z).1] at q
    cases q
  have at' : ∀ b o, N b → h.get? b = some o → h'.get? b = some o := fun b o z q => by
    rw [(hc b z).2] at q
    cases q
    exact pin_get ok' (hk b z)
  refine ⟨⟨fun b o q n h1 h2 => ?_, fun b o q n h1 h2 => ?_, fun b o q n h2 => ?_, fun b o q h2 => un.there b o q h2, fun b xs q => ?_, fun b o u q => ?_, fun b ps q => ?_⟩, dropH_ok ok' fun c z => ⟨_, hk c z⟩⟩
  · by_cases z : N b
    · exact at' b o z q
    · exact un.keep b o q (by rw [putPin_out z]; exact n) h1 h2
  · by_cases z : N b
    · exact ⟨o.slots, at' b o z q⟩
    · exact un.slot b o q (by rw [putPin_out z]; exact n) h1 h2
  · by_cases z : N b
    · exact dropH_in z
    · rw [dropH_out z]
      exact un.free b o q (by rw [putPin_out z]; exact n) h2
  · have z := nN b _ q
    rw [dropH_out z]
    exact un.tups b xs (by rw [putPin_out z]; exact q)
  · have z := nN b _ q
    rw [dropH_out z]
    exact un.frzs b o u (by rw [putPin_out z]; exact q)
  · have z := nN b _ q
    rw [dropH_out z]
    exact un.tbls b ps (by rw [putPin_out z]; exact q)
end
end
end MT

set_option maxRecDepth 100000
set_option maxHeartbeats 4000000
/-! MTv: functions keep their promises. -/
namespace MT
open PySem PySem.Spec PyProof.Rows L2
section
variable {C : Cst} {P : Program} {w : World} {K : PySem.W.Frag} {mg : Str → Option Value} {base : Heap} {k : Nat} {md : Nat → Mo}
noncomputable def Wd.repin (W : Wd) (N : Addr → Prop) (W' : Wd) : Wd := ⟨rePin W.F N W'.F, W'.m⟩
theorem SV.start {W : Wd} {all : List D} {xs : List V} {H H0 : Hp} (r : RepL C W all xs) (n : Nat) (hm : ∀ i < all.length, md i = .frz) : SV C md W (all.map some ++ List.replicate n none) (xs.map some ++ List.replicate n none) H H0 := by
  have at_ : ∀ (i : Nat) (d : D), (all.map some ++ List.replicate n none)[i]? = some (some d) → i < all.length ∧ all[i]? = some d := fun i d e => by
    by_cases hi : i < all.length
    · rw [List.getElem?_append_left (by rw [List.length_map]; exact hi), List.getElem?_map] at e
      refine ⟨hi, ?_⟩
      cases q : all[i]? with
      | none => rw [q] at e; cases e
      | some z => rw [q] at e; cases e; rfl
    · rw [List.getElem?_append_right (by rw [List.length_map]; omega), List.getElem?_replicate] at e
      split at e <;> cases e
  refine ⟨by simp [r.length], fun i d e => ?_, fun i j d e v hij h1 h2 h3 h4 h5 h6 => ?_⟩
  · obtain ⟨hi, e⟩ := at_ i d e
    obtain ⟨v, q1, q2⟩ := r.get e
    refine ⟨v, ?_, ?_⟩
    · rw [List.getElem?_append_left (by rw [List.length_map, ← r.length]; exact hi), List.getElem?_map, q1]
      rfl
    · rw [hm i hi]
      exact q2
  · have := hm i (at_ i d h3).1
    rw [h1] at this
    cases this
/-- a def of the text, by its body -/
theorem runs_fn {i : Nat} {x qual : Str} {st : Stmt} {f : Addr} {fd : FuncData} {N ps : List Str} {m : Mn} {cl : Call} {g : List D → Store → Option (D × Store)} (F : C8.Fun K x qual st f fd) (S : FnScope N ps (C8.fnScope st)) (b : Binds K fd ps [])
    (hg : ∀ ds S z, g ds S = some z → ds.length = ps.length ∧ ∃ fl ρ' S', m (ds.map some ++ List.replicate (N.length - ps.length) none) S = some (fl, ρ', S') ∧ ((∃ d, fl = .ret d ∧ z = (d, S')) ∨ (fl = .nx ∧ z = (.non, S'))))
    (hm : ∀ i < ps.length, md i = .frz)
    (body : ∀ (cdv : Value) (A : Around) (outer : List Env) (s : Shared) (H : Hp) (E : XK) (W0 : Wd), Room k (A.deeper (envOfC qual (C8.fnScope st) s.heap.objs.size f cdv)) → ESs (cxOf C8.CX0 P w K mg base N qual (C8.fnScope st) f cdv A outer s H E).nox C md W0 H (C8.fnBody st) m) :
    FnOk P w K mg base C8.CX0 (k + 1) f fd ps (spD C g) := by
  refine C8.fn0 F S (fun vs H Q E ⟨W, S, ds, d, S', sw, r, hg', _⟩ => ?_) fun cdv A outer s H vs Q E hr ⟨W, S0, ds, d, S', sw, r, hg', q⟩ => ?_
  · rw [← r.length]
    exact (hg _ _ _ hg').1
  · obtain ⟨hl, fl, ρ', S1, h1, h2⟩ := hg _ _ _ hg'
    refine ⟨_, (body cdv A outer s H E W hr).ps, W, _, S0, (fl, ρ', S1), sw, ?_, .refl _ _, h1, ?_⟩
    · have := SV.start (md := md) (H := H) (H0 := H) r (N.length - ps.length) (by rw [hl]; exact hm)
      unfold L2.start
      rw [← r.length, hl]
      exact this
    · rcases h2 with ⟨d', rfl, e⟩ | ⟨rfl, e⟩
      · cases e
        exact fun v H' W' _ w e p => q v H' W' e w p
      · cases e
        exact fun σ' H' W' _ w _ e => q .non H' W' e w rep_non
/-- a lambda, by its body -/
theorem runs_lam {i : Nat} {L : LamI} {N ps : List Str} {gb : Gv} {cl : Call} (hfk : C.fk[i]? = some (.lam L)) (S : NdefX.NScope N ps L.frees L.scope)
    (hb : ∀ (q : Str) (cl : List (Str × Addr)) (pm cv ctv : Value) (us : List Value), us.length = ps.length → bindArgs (PySem.W.kla_fn "<lambda>" q L.params L.body L.scope cl pm cv ctv) ⟨us, []⟩ = pure (ps.zip us))
    (hg : ∀ cs ds S z, cl i cs ds S = some z → ds.length = ps.length ∧ cs.length = L.frees.length ∧ noLams ds = true ∧ noLamS S = true ∧ gb ((ds ++ cs).map some ++ List.replicate (N.length - ps.length - L.frees.length) none) S = some z)
    (hm : ∀ i < ps.length + L.frees.length, md i = .frz)
    (body : ∀ (F : NdefX.NF) (f : Addr) (A : Around) (outer : List Env) (s : Shared) (H : Hp) (E : XK), F.scope = L.scope → F.qual = L.qual → Room k (A.deeper (NdefX.envF F f s.heap.objs.size)) → EV (NdefX.ncx C8.CX0 P w K mg base N F f A outer s H E).nox C md H .frz L.body gb)
    (cs : List D) (x : V) (u : Value) (ru : L2.RelV x u) : Runs P w K mg base (k + 1) u (spV C cl i cs x) := by
  intro A outer s H us vs Q E hr e0 r ⟨W, S0, ds, d, S', sw, rep, rl, hcl, q⟩
  obtain ⟨hl1, hl2, nl1, nl2, hgb⟩ := hg _ _ _ _ hcl
  rw [Rep] at rep
  rw [hfk] at rep
  obtain ⟨f, c, cel, pm, ctv, vsC, o, rfl, h2, h3, h4, cf, rc⟩ := rep
  obtain rfl : u = Value.ref f := ru
  have sub := sw.subs
  have pins : Pins W (cellsN cel) := ⟨fun b ⟨y, hy⟩ => by
    obtain ⟨oc, v, q1, q2⟩ := cf.all y b hy
    exact ⟨oc, v, q1, q2⟩⟩
  have hp : ∀ b, cellsN cel b → ∃ oc, H b = some (PinO b oc) := fun b hb => by
    obtain ⟨oc, v, q1, _⟩ := pins.at_ b hb
    exact ⟨oc, sub _ _ q1⟩
  have ok := e0.hok
  have swD := sw.drop ok pins nl2
  have rlD := repL_drop ok pins sub ds vs nl1 rl
  have okD : HOk P w (dropH H (cellsN cel)) s.heap := dropH_ok ok hp
  have hof : s.heap.get? f = some o := pin_get ok (sub _ _ h2)
  obtain ⟨⟨oc, cvs, t, hoc, hdc, hvc⟩, _, _⟩ := ok c _ (sub _ _ h4)
  have nD : ∀ b, H b = none → dropH H (cellsN cel) b = none := fun b z => by
    by_cases y : cellsN cel b
    · exact dropH_in y
    · rw [dropH_out y]; exact z
  have e0D : Env0 P w K mg base A outer s (dropH H (cellsN cel)) := ⟨e0.frames, e0.mod, fun b o z => ⟨(e0.bs b o z).1, nD b (e0.bs b o z).2⟩, e0.bsz, e0.funs, fun b z => nD b (e0.frf b z), okD, e0.bare⟩
  have cells : NdefX.CellsAt cel L.frees (vsC.map some) s.heap (dropH H (cellsN cel)) := by
    refine ⟨by rw [List.length_map]; exact cf.len, fun y b hy => ?_, cf.inj, fun j y hj => ?_⟩
    · obtain ⟨ob, v, q1, q2⟩ := cf.all y b hy
      exact ⟨dropH_in ⟨y, hy⟩, v, ob, pin_get ok (sub _ _ q1), q2⟩
    · obtain ⟨b, ob, u, v, q1, q2, q3, q4, q5⟩ := cf.has j y hj
      refine ⟨b, q1, fun v' hv' => ⟨u, ?_, ob, pin_get ok (sub _ _ q2), q3⟩⟩
      rw [List.getElem?_map, q4] at hv'
      have hv' : some (some v) = some (some v') := hv'
      cases hv'
      exact q5
  have lim : s.heap.NoLimit := e0.mod.nolimit.keeps fun b o e => (e0.bs b o e).1
  have rp : vs.length = ps.length := by rw [← rl.length]; exact hl1
  subst h3
  refine PySem.W.kla_callFunE hr.depth hof rfl S.co S.gen rfl ⟨c, oc, cvs, t, rfl, hoc, hdc, hvc⟩ ?_
  rw [hb _ _ _ _ _ us (by rw [← r.length]; exact rp)]
  refine wpAny_pure (wpAny_newFunctionEnv S.nocell (fun ⟨n, _⟩ hy => S.par n (List.of_mem_zip hy).1) (fun h₁ hns hsb => ⟨lim.fresh _ hsb, ?_⟩) S.kind)
  let F : NdefX.NF := ⟨"<lambda>", L.qual, L.params, [], L.scope, cel, c⟩
  show codeAny _ _ (.expr L.body (NdefX.envF F f s.heap.objs.size)) _ _
  have kp : ∀ b o, s.heap.get? b = some o → h₁.get? b = some o := fun b o e => hsb.extBut b o (Nat.ne_of_lt (Heap.lt_size e)) (Heap.get?_push_of_some _ e)
  have J : L2.Inv (NdefX.ncx C8.CX0 P w K mg base N F f A outer s (dropH H (cellsN cel)) E) [] (NdefX.startF N vs (vsC.map some)) (dropH H (cellsN cel)) { s with heap := h₁, toks := s.toks + (ps.zip us).length } := NdefX.inv_startN S hr.hd e0D rp r cells hns kp
  have sv : SV C md (W.drop (cellsN cel)) ((ds ++ cs).map some ++ List.replicate (N.length - ps.length - L.frees.length) none) (NdefX.startF N vs (vsC.map some)) (dropH H (cellsN cel)) (dropH H (cellsN cel)) := by
    have := SV.start (md := md) (H := dropH H (cellsN cel)) (H0 := dropH H (cellsN cel)) (rlD.append rc) (N.length - ps.length - L.frees.length) (by rw [List.length_append, hl1, hl2]; exact hm)
    unfold NdefX.startF
    rw [List.length_map, cf.len, rp, ← List.append_assoc]
    rw [List.map_append (f := some) (l₁ := vs)] at this
    exact this
  have hE := (body F f A outer s (dropH H (cellsN cel)) E rfl rfl (hr.deeper _)).pe.nox
  refine PySem.W.kla_codeExpr (wpAny_mono (hE.run [] _ _ _ (fun v H' => ∃ W', MT.Ext (W.drop (cellsN cel)) (dropH H (cellsN cel)) W' H' ∧ SW C W' S' H' ∧ Rep C W' d v) J ⟨W.drop (cellsN cel), _, S0, d, S', swD, sv, hgb, fun v H' W' e w p => ⟨W', e, w, p⟩⟩) (fun v s' hq => ?_) fun e s' hq => hq)
  obtain ⟨y, H', J', ry, W', e', w', p'⟩ := hq
  obtain ⟨cn, un2, ok2⟩ := un_down J'.base ok J'.hok hp e0.frf
  have cnm : ∀ b, cellsN cel b → b ∉ W'.m ∧ W'.F b = none := fun b hb => ⟨w'.notm (cn b hb), w'.notF (cn b hb)⟩
  let W2 : Wd := W.repin (cellsN cel) W'
  have F2i : ∀ {b}, cellsN cel b → W2.F b = W.F b := fun {b} hb => rePin_in hb
  have F2o : ∀ {b}, ¬ cellsN cel b → W2.F b = W'.F b := fun {b} hb => rePin_out hb
  have le2 : WLe W' W2 := ⟨fun b o hb => by
    rw [F2o]
    · exact hb
    · intro z
      rw [(cnm b z).2] at hb
      exact (nomatch hb), fun _ _ z => z⟩
  have pw : ∀ b o, cellsN cel b → H b = some o → ∃ oc, o = PinO b oc := fun b o hb z => by
    obtain ⟨oc, q⟩ := hp b hb
    rw [z] at q
    exact ⟨oc, Option.some.inj q⟩
  refine ⟨y, rePin H (cellsN cel) H', J'.os, J'.bare, un2, ok2, ry, q y _ W2 ⟨⟨fun b o hb => ?_, e'.w.m⟩, fun b o hb nb nt => ?_, fun b hb => ?_, fun b hb => ?_, fun b o hb => ?_⟩ ⟨fun b o hb => ?_, fun p hp' => ?_, fun c2 q2 hc2 => ?_, w'.nd, w'.len, fun j ob hj => ?_⟩ (Rep.mono le2 _ _ p')⟩
  · by_cases z : cellsN cel b
    · rw [F2i z]; exact hb
    · rw [F2o z]
      exact e'.w.f b o (drop_F.mpr ⟨z, hb⟩)
  · by_cases z : cellsN cel b
    · rw [rePin_in z]; exact hb
    · rw [rePin_out z]
      exact e'.keep b o (by rw [dropH_out z]; exact hb) nb nt
  · by_cases z : cellsN cel b
    · rw [rePin_in z] at hb; exact hb
    · rw [rePin_out z] at hb
      have := e'.dom b hb
      rw [dropH_out z] at this
      exact this
  · by_cases z : cellsN cel b
    · exact absurd hb (cnm b z).1
    · rcases e'.mnew b hb with h | h
      · exact .inl h
      · rw [dropH_out z] at h
        exact .inr h
  · by_cases z : cellsN cel b
    · rw [F2i z] at hb; exact .inl hb
    · rw [F2o z] at hb
      rcases e'.fnew b o hb with h | h
      · exact .inl (drop_F.mp h).2
      · rw [dropH_out z] at h
        exact .inr h
  · by_cases z : cellsN cel b
    · rw [F2i z] at hb
      rw [rePin_in z]
      obtain ⟨q1, q2, q3⟩ := sw.sub b o hb
      exact ⟨q1, (cnm b z).1, q3⟩
    · rw [F2o z] at hb
      rw [rePin_out z]
      exact w'.sub b o hb
  · have out : ∀ b o, H' b = some o → rePin H (cellsN cel) H' b = some o := fun b o z => by
      rw [rePin_out]
      · exact z
      · intro y
        rw [cn b y] at z
        cases z
    obtain ⟨tp, q1, q2, q3⟩ := w'.tabs p hp'
    refine ⟨tp, out _ _ q1, q2, fun pos cv hc => ?_⟩
    obtain ⟨c2, z1, z2⟩ := q3 pos cv hc
    exact ⟨c2, z1, out _ _ z2⟩
  · by_cases z : cellsN cel c2
    · rw [rePin_in z] at hc2
      rw [F2i z]
      exact sw.codes c2 q2 hc2
    · rw [rePin_out z] at hc2
      rw [F2o z]
      exact w'.codes c2 q2 hc2
  · obtain ⟨b, o, q1, q2, q3⟩ := w'.st j ob hj
    refine ⟨b, o, q1, ?_, RepO.mono le2 q3⟩
    rw [rePin_out]
    · exact q2
    · intro y
      rw [cn b y] at q2
      cases q2
end
end MT

set_option maxRecDepth 100000
set_option maxHeartbeats 4000000
/-! MTw: lambdas made and handed over. -/
namespace MT
open PySem PySem.Spec PyProof.Rows L2 LamX NdefX
/-- lambda ..: a new function, its code object new or found in the table -/
def tLmb (T : List NdefX.NTab) (q : Str) (params : Arguments) (body : Expr) (scope : Scope) (cl : List (Str × Addr)) : TE := fun σ H Q => NdefX.TabsN T H ∧ ∀ (f c' : Addr) (pm ctv : Value) (H1 : Hp), ExtN H H1 → (∀ b, H1 b = none → H b = none) → NdefX.TabsN T H1 →
  (∀ b q', H1 b = some (CodeO b q') → H b = some (CodeO b q') ∨ (b = c' ∧ H b = none)) → H1 f = none → H1 c' = some (CodeO c' q) → (H c' = none ∨ H c' = some (CodeO c' q)) → Q (.ref f) (upd H1 f (PinO f (PySem.W.kla_obj "<lambda>" q params body scope cl pm c' ctv)))
section
variable {X : Cx}
theorem pe_lmb {T : List NdefX.NTab} {nm : Nat → Nat → Str} {c P : Addr} {params : Arguments} {body : Expr} {scope : Scope} {pos : Pos} (TB : TabB X.base X.mg c P) (hcode : X.env.code = .ref c) (hm : (P, nm) ∈ T) (hn : nm pos.line pos.col = X.env.qual ++ "<lambda>") (hu : ∀ p ∈ T, p.1 = P → p.2 = nm)
    (hdef : defaultsOf params X.env = ([], [])) (hfree : X.Ok → ∀ y ∈ scope.names, y.2 = .free → ∃ c, X.env.cells.lookup y.1 = some c) :
    PE X (.Lambda params body scope pos) (tLmb T (X.env.qual ++ "<lambda>") params body scope (cloFrom X.env.cells scope.names [])) := by
  refine ⟨fun pins s σ H Q I ⟨hT, h⟩ => ?_⟩
  obtain ⟨ps, hP, ht, ha⟩ := (show NdefX.TabN H P nm from hT _ hm)
  refine PySem.W.kla_eval hdef ?_
  have hfree := hfree I.ok
  have bP : s.heap.BuiltinsAt X.mg P := TB.bm.keeps I.bk
  have hP' : s.heap.get? P = some { cls := .none, data := .fields ps } := I.hok P _ hP
  have laid : ∀ {H1 : Hp} {h' : Heap} {tk : Nat} {o : Obj}, L2.Inv X pins σ H1 { s with heap := h', toks := tk } → o.isFreed = false → L2.Inv X pins σ (upd H1 h'.objs.size (PinO h'.objs.size o)) { s with heap := h'.push o, toks := tk } := fun {H1 h' tk o} J ho =>
    J.laid (t' := tk) (fun b u e => Heap.get?_push_of_some _ e) (Nat.le_refl _) (pin_ok (Heap.get?_push_size _ ho))
  cases hc : codeAmong pos ps.toList with
  | none =>
    refine PySem.W.kla_makeFunction (mg := X.mg) (c := c) (P := P) (ps := ps) (closure_ok hfree) I.ok.glob (I.mod.glob.keeps I.bk) hcode (TB.code.keeps I.bk) hP' ht hc TB.gP bP fun c' ctv h' tk hx hge hlt hrec htb => ?_
    obtain ⟨c2, oc, vs, t, e2, hoc, hd, hv⟩ := hrec
    cases e2
    have hsz : s.heap.objs.size ≤ h'.objs.size := Nat.le_trans hge (Nat.le_of_lt hlt)
    have nC : H c' = none := I.hok.fresh hge
    have I1 := inv_table (t' := tk) (more := #[rawInt pos.line, rawInt pos.col, .ref c']) (h' := h') I hP (fun b o hb e => hx b o hb e) htb hge ⟨oc, vs, t, hoc, hd, hv⟩
    have hE : ExtN H (upd (upd H P (.tbl (ps ++ #[rawInt pos.line, rawInt pos.col, .ref c']))) c' (CodeO c' (X.env.qual ++ "<lambda>"))) := fun b o e n => by
      rw [upd_ne (ne_of_none e nC), upd_ne (fun z => n ps (Option.some.inj (e.symm.trans (by rw [z]; exact hP))))]
      exact e
    have eL : (ps ++ #[rawInt pos.line, rawInt pos.col, .ref c']).toList = ps.toList ++ [rawInt pos.line, rawInt pos.col, .ref c'] := by simp
    have T1 : NdefX.TabsN T (upd (upd H P (.tbl (ps ++ #[rawInt pos.line, rawInt pos.col, .ref c']))) c' (CodeO c' (X.env.qual ++ "<lambda>"))) := fun p hp => by
      by_cases hb : p.1 = P
      · rw [hu p hp hb, hb]
        refine ⟨_, by rw [upd_ne (ne_of_none hP nC), upd_same], by rw [eL]; exact PySem.TriplesOk_snoc _ _ _ _ ht, fun p' cv hcv => ?_⟩
        rw [eL] at hcv
        rcases among_app2 _ ht hcv with z | ⟨z, z1, z2⟩
        · obtain ⟨c0, e1, e2⟩ := ha p' cv z
          exact ⟨c0, e1, hE _ _ e2 codeO_ne⟩
        · refine ⟨c', z, ?_⟩
          rw [← z1, ← z2, hn]
          exact upd_same
      · obtain ⟨ps', a1, a2, a3⟩ := hT p hp
        refine ⟨ps', by rw [upd_ne (ne_of_none a1 nC), upd_ne hb]; exact a1, a2, fun p' cv hcv => ?_⟩
        obtain ⟨c0, e1, e2⟩ := a3 p' cv hcv
        exact ⟨c0, e1, hE _ _ e2 codeO_ne⟩
    have nF := I1.hok.fresh (Nat.le_refl _)
    refine ⟨.ref h'.objs.size, _, laid I1 rfl, rfl, h h'.objs.size c' ((X.mg "__name__").getD .none) ctv _ hE (fun b e => upd_none (upd_none e)) T1 (fun b q' e => ?_) nF upd_same (.inl nC)⟩
    by_cases hb : b = c'
    · exact .inr ⟨hb, by rw [hb]; exact nC⟩
    · rw [upd_ne hb] at e
      by_cases hb2 : b = P
      · rw [hb2, upd_same] at e
        exact absurd (Option.some.inj e).symm (codeO_ne _)
      · rw [upd_ne hb2] at e
        exact .inl e
  | some cv =>
    obtain ⟨c', e, hco⟩ := ha pos cv hc
    subst e
    rw [hn] at hco
    refine PySem.W.kla_makeFunctionHit (mg := X.mg) (c := c) (P := P) (ps := ps) (closure_ok hfree) I.ok.glob (I.mod.glob.keeps I.bk) hcode (TB.code.keeps I.bk) hP' ht hc bP fun ctv h' tk hx hsz => ?_
    have I1 : L2.Inv X pins σ H { s with heap := h', toks := tk } := I.kept hx
    exact ⟨.ref h'.objs.size, _, laid I1 rfl, rfl, h h'.objs.size c' ((X.mg "__name__").getD .none) ctv H (ExtN.refl H) (fun _ z => z) hT (fun b q' z => .inl z) (I1.hok.fresh (Nat.le_refl _)) hco (.inr hco)⟩
end
/-- the world behind: the code object and the function frozen -/
theorem lmb_world {C : Cst} {W : Wd} {S : Store} {H H1 : Hp} {f c' : Addr} {q : Str} {o : Obj} (w : SW C W S H) (e1 : ExtN H H1) (e2 : ∀ b, H1 b = none → H b = none) (hT : NdefX.TabsN C.T H1) (hcd : ∀ b q', H1 b = some (CodeO b q') → H b = some (CodeO b q') ∨ (b = c' ∧ H b = none)) (hf : H1 f = none) (hc : H1 c' = some (CodeO c' q)) (ho : H c' = none ∨ H c' = some (CodeO c' q)) :
    ∃ W', MT.Ext W H W' (upd H1 f (PinO f o)) ∧ SW C W' S (upd H1 f (PinO f o)) ∧ W'.F f = some (PinO f o) ∧ W'.F c' = some (CodeO c' q) := by
  have cne : ∀ (ps : Array Value), CodeO c' q ≠ HO.tbl ps := codeO_ne
  have hfH : H f = none := e2 f hf
  -- the heap with the code object
  have mno : ∀ b ∈ W.m, ∃ o, H b = some o ∧ ∀ ps, o ≠ .tbl ps := fun b hb => by
    obtain ⟨n, hn⟩ := List.mem_iff_getElem?.mp hb
    have hl : n < S.length := by rw [← w.len]; exact (List.getElem?_eq_some_iff.mp hn).1
    obtain ⟨b', u, h1, h2, h3⟩ := w.st n _ (List.getElem?_eq_getElem hl)
    rw [hn] at h1
    cases h1
    refine ⟨u, h2, fun ps z => ?_⟩
    subst z
    unfold RepO at h3
    split at h3
    · obtain ⟨_, z, _⟩ := h3; cases z
    · obtain ⟨_, z, _⟩ := h3; cases z
    · obtain ⟨_, _, _, z, _⟩ := h3; cases z
  have keepM : ∀ (n : Nat) (ob : Ob), S[n]? = some ob → ∃ a o, W.m[n]? = some a ∧ H1 a = some o ∧ RepO C W ob o := fun n ob hn => by
    obtain ⟨b, u, h1, h2, h3⟩ := w.st n ob hn
    obtain ⟨u', q1, q2⟩ := mno b (List.mem_of_getElem? h1)
    rw [h2] at q1
    cases q1
    exact ⟨b, u, h1, e1 b u h2 q2, h3⟩
  -- with the code object frozen
  have step1 : ∃ W1, MT.Ext W H W1 H1 ∧ SW C W1 S H1 ∧ W1.F c' = some (CodeO c' q) := by
    have subK : ∀ a o, W.F a = some o → H1 a = some o ∧ a ∉ W.m ∧ ∀ ps, o ≠ .tbl ps := fun a o z => by
      obtain ⟨q1, q2, q3⟩ := w.sub a o z
      exact ⟨e1 a o q1 q3, q2, q3⟩
    rcases ho with ho | ho
    · have nF := w.notF ho
      have nm := w.notm ho
      have le := fz_le (o := CodeO c' q) nF
      refine ⟨W.fz c' (CodeO c' q), ⟨le, fun a o h _ t => e1 a o h t, e2, fun _ z => .inl z, fun a u z => ?_⟩, ⟨fun a u z => ?_, hT, fun b q' z => ?_, w.nd, w.len, fun n ob hn => ?_⟩, fz_at⟩
      · by_cases y : a = c'
        · subst y; exact .inr ho
        · have z : (if a = c' then some (CodeO c' q) else W.F a) = some u := z
          rw [if_neg y] at z
          exact .inl z
      · by_cases y : a = c'
        · subst y
          rw [fz_at] at z
          cases z
          exact ⟨hc, nm, cne⟩
        · have z : (if a = c' then some (CodeO c' q) else W.F a) = some u := z
          rw [if_neg y] at z
          exact subK a u z
      · rcases hcd b q' z with y | ⟨y, _⟩
        · exact le.f _ _ (w.codes b q' y)
        · subst y
          rw [hc] at z
          rw [fz_at]
          exact z
      · obtain ⟨a, o, h1, h2, h3⟩ := keepM n ob hn
        exact ⟨a, o, h1, h2, RepO.mono le h3⟩
    · refine ⟨W, ⟨.refl _, fun a o h _ t => e1 a o h t, e2, fun _ z => .inl z, fun _ _ z => .inl z⟩, ⟨subK, hT, fun b q' z => ?_, w.nd, w.len, keepM⟩, w.codes _ _ ho⟩
      rcases hcd b q' z with y | ⟨y, y2⟩
      · exact w.codes b q' y
      · subst y
        rw [ho] at y2
        cases y2
  obtain ⟨W1, x1, s1, hc1⟩ := step1
  have pne : ∀ (ps : Array Value), PinO f o ≠ HO.tbl ps := fun ps z => pinO_tbl z.symm
  have nF1 := s1.notF hf
  have nm1 := s1.notm hf
  have e3 := new_ext (W := W1) (o := PinO f o) hf
  have le1 := fz_le (o := PinO f o) nF1
  have k2 : ∀ a u, H1 a = some u → upd H1 f (PinO f o) a = some u := fun a u e => by rw [upd_ne (ne_of_none e hf)]; exact e
  refine ⟨W1.fz f (PinO f o), x1.trans (e3.fz hf nF1), ⟨fun a u z => ?_, s1.tabs.ext k2, fun b q' z => ?_, s1.nd, s1.len, fun n ob hn => ?_⟩, fz_at, le1.f _ _ hc1⟩
  · by_cases y : a = f
    · subst y
      rw [fz_at] at z
      cases z
      exact ⟨upd_same, nm1, pne⟩
    · have z : (if a = f then some (PinO f o) else W1.F a) = some u := z
      rw [if_neg y] at z
      obtain ⟨q1, q2, q3⟩ := s1.sub a u z
      exact ⟨k2 _ _ q1, q2, q3⟩
  · by_cases y : b = f
    · subst y
      rw [upd_same] at z
      rw [fz_at]
      exact z
    · rw [upd_ne y] at z
      exact le1.f _ _ (s1.codes b q' z)
  · obtain ⟨a, u, h1, h2, h3⟩ := s1.st n ob hn
    exact ⟨a, u, h1, k2 _ _ h2, RepO.mono le1 h3⟩
end MT

set_option maxRecDepth 100000
set_option maxHeartbeats 4000000
/-! MTx: a call that is given a lambda. -/
namespace MT
open PySem PySem.Spec PyProof.Rows L2 LamX NdefX
/-- what stands of a lambda just made -/
def LamAt (W : Wd) (q : Str) (L : LamI) (cel : List (Str × Addr)) (f : Addr) : Prop := ∃ c' pm ctv, W.F f = some (PinO f (PySem.W.kla_obj "<lambda>" q L.params L.body L.scope cel pm c' ctv)) ∧ W.F c' = some (CodeO c' q)
/-- a row that ends with a lambda -/
def TLm (C : Cst) (md : Nat → Mo) (H0 : Hp) (q : Str) (L : LamI) (cel : List (Str × Addr)) (g : Gl') : TA := fun σ H Q =>
  ∃ W ρ S ds S', SW C W S H ∧ SV C md W ρ σ H H0 ∧ g ρ S = some (ds, S') ∧ ∀ vs f H' W', MT.Ext W H W' H' → SW C W' S' H' → RepL C W' ds vs → LamAt W' q L cel f → Q (vs ++ [.ref f]) H'
structure EM (X : Cx) (C : Cst) (md : Nat → Mo) (H0 : Hp) (L : LamI) (es : List Expr) (g : Gl') : Prop where
  pa : PA X es (TLm C md H0 L.qual L (cloFrom X.env.cells L.scope.names []) g)
section
variable {X : Cx} {C : Cst} {md : Nat → Mo} {H0 : Hp} {L : LamI} {e : Expr} {es : List Expr} {ga : Gv} {gl : Gl'} {pos lpos : Pos}
theorem em_lam {nm : Nat → Nat → Str} {c P : Addr} (TB : TabB X.base X.mg c P) (hcode : X.env.code = .ref c) (hm : (P, nm) ∈ C.T) (hq : X.env.qual ++ "<lambda>" = L.qual) (hn : nm lpos.line lpos.col = L.qual) (hu : ∀ p ∈ C.T, p.1 = P → p.2 = nm)
    (hdef : defaultsOf L.params X.env = ([], [])) (hfree : ∀ y ∈ L.scope.names, y.2 = .free → X.env.scope.names.lookup y.1 = some .cell ∨ X.env.scope.names.lookup y.1 = some .free) : EM X C md H0 L [.Lambda L.params L.body L.scope lpos] glNil := by
  have hp := pe_lmb (X := X) (T := C.T) (params := L.params) (body := L.body) (scope := L.scope) (pos := lpos) TB hcode hm (by rw [hq]; exact hn) hu hdef fun ok y hy z => (hfree y hy z).elim (fun k => ok.has _ (.inl k)) fun k => ok.has _ (.inr k)
  refine ⟨PA.imp (pa_cons hp pa_nil rfl) fun σ H Q ⟨W, ρ, S, ds, S', hw, hv, hg, k⟩ => ?_⟩
  cases hg
  rw [hq]
  refine ⟨hw.tabs, fun f c' pm ctv H1 e1 e2 hT hcd hf hc ho => ?_⟩
  obtain ⟨W', x1, x2, x3, x4⟩ := lmb_world (o := PySem.W.kla_obj "<lambda>" L.qual L.params L.body L.scope (cloFrom X.env.cells L.scope.names []) pm c' ctv) hw e1 e2 hT hcd hf hc ho
  exact k [] f _ W' x1 x2 .nil ⟨c', pm, ctv, x3, x4⟩
theorem em_cons (ha : EV X C md H0 .frz e ga) (hl : EM X C md H0 L es gl) (hs : isStar e = false) : EM X C md H0 L (e :: es) (glCons ga gl) := by
  refine ⟨PA.imp (pa_cons ha.pe hl.pa (starEach_ns hs)) fun σ H Q ⟨W, ρ, S, ds, S', hw, hv, hg, k⟩ => ?_⟩
  obtain ⟨x, S1, h1, hg⟩ := bnd_eq hg
  obtain ⟨xs, S2, h2, hg⟩ := bnd_eq hg
  cases hg
  refine ⟨W, ρ, S, x, S1, hw, hv, h1, fun v H1 W1 e1 w1 p1 => ⟨W1, ρ, S1, xs, _, w1, hv.ext e1, h2, fun vs f H2 W2 e2 w2 p2 l2 => ?_⟩⟩
  exact k (v :: vs) f H2 W2 (e1.trans e2) w2 (.cons (Rep.mono e2.w _ _ p1) p2) l2
theorem caps_get {W : Wd} {ρ : Envr} {σ : L2.St} {H : Hp} (sv : SV C md W ρ σ H H0) : ∀ {caps : List Nat} {cs : List D}, (∀ i ∈ caps, md i = .frz) → capsD ρ caps = some cs → ∃ vs, RepL C W cs vs ∧ ∀ (j i : Nat), caps[j]? = some i → ∃ v, vs[j]? = some v ∧ σ[i]? = some (some v)
  | [], cs, _, h => by
    cases h
    exact ⟨[], .nil, fun j i z => by simp at z⟩
  | i :: caps, cs, hm, h => by
    unfold capsD at h
    split at h
    · rename_i d ds h1 h2
      cases h
      obtain ⟨v, q1, q2⟩ := sv.loc i d h1
      rw [hm i List.mem_cons_self] at q2
      obtain ⟨vs, r1, r2⟩ := caps_get sv (fun i hi => hm i (List.mem_cons_of_mem _ hi)) h2
      refine ⟨v :: vs, .cons q2 r1, fun j i' hj => ?_⟩
      cases j with
      | zero =>
        simp at hj
        subst hj
        exact ⟨v, by simp, q1⟩
      | succ j =>
        obtain ⟨u, z1, z2⟩ := r2 j i' (by simpa using hj)
        exact ⟨u, by simpa using z1, z2⟩
    · cases h
theorem capsD_len {ρ : Envr} : ∀ {caps : List Nat} {cs : List D}, capsD ρ caps = some cs → cs.length = caps.length
  | [], _, h => by cases h; rfl
  | i :: caps, cs, h => by
    unfold capsD at h
    split at h
    · rename_i d ds h1 h2
      cases h
      rw [List.length_cons, List.length_cons, capsD_len h2]
    · cases h
def gCalll (cl : Call) (i : Nat) (gl : Gl') (g : Nat) (caps : List Nat) : Gv := fun ρ S => bnd (gl ρ S) fun ds S => (capsD ρ caps).bind fun cs => bnd (cl i [] (ds ++ [.fn g cs]) S) fun r S => if noLam r && noLamS S then some (r, S) else none
theorem ev_calll {k i g : Nat} {cl : Call} {x : Str} {ad : Addr} {p : Pos} {caps : List Nat} (hmg : X.mg = C.mg) (hK : X.K = C.K) (hfn : X.fn = fun _ => true) (R : Runs X.prog X.w X.K X.mg X.base k (.ref ad) (spD C (cl i []))) (hr : Room k X.A) (hg : Gl X x) (hm : C.mg x = some (.ref ad)) (hk : PySem.W.keepIn C.K (.ref ad) = true)
    (hfk : C.fk[g]? = some (.lam L)) (S : ∃ N ps, NScope N ps L.frees L.scope) (hcell : ∀ y ∈ L.frees, X.env.scope.names.lookup y = some .cell) (hcaps : caps.map (fun j => X.N[j]?) = L.frees.map some) (hmd : ∀ i ∈ caps, md i = .frz)
    (ha : EM X C md H0 L (e :: es) gl) (hdb : (x == ("__debug__" : Str)) = false) (hs : noStar (e :: es) = true) : EV X C md H0 .frz (.Call (.Name x p) (e :: es) [] pos) (gCalll cl i gl g caps) := by
  obtain ⟨s1', s2'⟩ := noStar_cons hs
  obtain ⟨Nn, ps, S⟩ := S
  refine ⟨⟨fun pins s σ H Q I h => ?_⟩⟩
  obtain ⟨W, ρ, S0, d, S', hw, sv, hg2, q⟩ := h
  obtain ⟨ds, S1, g1, f1⟩ := bnd_eq hg2
  obtain ⟨cs, g2, f2⟩ := Option.bind_eq_some_iff.mp f1
  obtain ⟨r, S2, g3, f3⟩ := bnd_eq f2
  split at f3
  rotate_left
  · cases f3
  rename_i hnl
  cases f3
  rw [Bool.and_eq_true] at hnl
  refine wpAny_Call_Name_kw (ld_glob I hg (by rw [hmg]; exact hm) ?_ hdb)
  refine PySem.W.callWith_K (h₀ := X.base) I.ok.mod.kin (by rw [hK]; exact hk) (thn (ha.pa.run pos pins s σ H (fun us H1 => ∃ vs f W1, us = vs ++ [.ref f] ∧ MT.Ext W H W1 H1 ∧ SW C W1 S1 H1 ∧ RepL C W1 ds vs ∧ LamAt W1 L.qual L (cloFrom X.env.cells L.scope.names []) f) I
    ⟨W, ρ, S0, ds, S1, hw, sv, g1, fun vs f H1 W1 e1 w1 p1 l1 => ⟨vs, f, W1, rfl, e1, w1, p1, l1⟩⟩) fun us s1 ⟨vs0, H1, I1, rv, vs, f, W1, ev, e1, w1, p1, l1⟩ => ⟨I1.kIn, ?_⟩) (starEach_ns s1') (backTo_plain s2')
  subst ev
  obtain ⟨c', pm, ctv, lf, lc⟩ := l1
  have sv1 := sv.ext e1
  obtain ⟨vsC, rC, hC⟩ := caps_get sv1 hmd g2
  -- the cells
  have frees : ∀ y ∈ L.scope.names, y.2 = .free → ∃ c, X.env.cells.lookup y.1 = some c := fun y hy z => I1.ok.has _ (.inl (hcell _ (S.free y hy z)))
  generalize hcel : cloFrom X.env.cells L.scope.names [] = cel at lf
  have cm : ∀ {y c}, cel.lookup y = some c → X.env.cells.lookup y = some c := fun {y c} z => by
    rw [← hcel] at z
    exact clo_cm frees z
  let ob : Addr → Obj := fun c => (s1.heap.get? c).getD { cls := .none, data := .fields #[] }
  have cellAt : ∀ c, cellsN cel c → (H1 c = none ∧ s1.heap.get? c = some (ob c)) ∧ ∃ v, (ob c).data = .cell v := fun c ⟨y, hy⟩ => by
    obtain ⟨v, o, ho, hd⟩ := I1.cell y c (cm hy)
    have e : ob c = o := by show (s1.heap.get? c).getD _ = o; rw [ho]; rfl
    rw [e]
    exact ⟨⟨I1.freeC y c (cm hy), ho⟩, v, hd⟩
  have hcN : ∀ c, cellsN cel c → H1 c = none ∧ s1.heap.get? c = some (ob c) := fun c z => (cellAt c z).1
  have big : ∀ c, cellsN cel c → X.s_0.heap.objs.size ≤ c := fun c ⟨y, hy⟩ => I1.ok.cab y c (by rw [hfn]) (cm hy)
  have okU : HOk X.prog X.w (putPin ob (cellsN cel) H1) s1.heap := putPin_ok I1.hok hcN
  have nN : ∀ b o, H1 b = some o → ¬ cellsN cel b := fun b o z y => by
    rw [(hcN b y).1] at z
    cases z
  have e0 := I1.env0
  have e0U : Env0 X.prog X.w X.K X.mg X.base X.A X.stack s1 (putPin ob (cellsN cel) H1) := by
    refine ⟨e0.frames, e0.mod, fun b o z => ⟨(e0.bs b o z).1, ?_⟩, e0.bsz, e0.funs, fun b z => ?_, okU, e0.bare⟩
    · rw [putPin_out]
      · exact (e0.bs b o z).2
      · intro y
        exact absurd (Nat.lt_of_lt_of_le (Heap.lt_size (I1.ok.bs b o z).1) (big b y)) (Nat.lt_irrefl _)
    · rw [putPin_out]
      · exact e0.frf b z
      · intro y
        rcases List.mem_cons.mp (I1.stkSub b z) with e | e
        · obtain ⟨y', hy'⟩ := y
          exact I1.cne y' b (cm hy') e
        · obtain ⟨_, o, ho, _⟩ := I1.ok.funs.mem e
          exact absurd (Nat.lt_of_lt_of_le (Heap.lt_size ho) (big b y)) (Nat.lt_irrefl _)
  let WU : Wd := ⟨putPin ob (cellsN cel) W1.F, W1.m⟩
  have wF : ∀ b o, W1.F b = some o → WU.F b = some o := fun b o z => by
    show putPin ob (cellsN cel) W1.F b = some o
    rw [putPin_out (nN b o (w1.sub b o z).1)]
    exact z
  have leU : WLe W1 WU := ⟨wF, fun _ _ z => z⟩
  have hU : ∀ b o, H1 b = some o → putPin ob (cellsN cel) H1 b = some o := fun b o z => by rw [putPin_out (nN b o z)]; exact z
  have swU : SW C WU S1 (putPin ob (cellsN cel) H1) := by
    refine ⟨fun b o z => ?_, w1.tabs.ext hU, fun b q' z => ?_, w1.nd, w1.len, fun n o z => ?_⟩
    · by_cases y : cellsN cel b
      · have z : putPin ob (cellsN cel) W1.F b = some o := z
        rw [putPin_in y] at z
        cases z
        exact ⟨putPin_in y, w1.notm (hcN b y).1, fun ps z => pinO_tbl z.symm⟩
      · have z : putPin ob (cellsN cel) W1.F b = some o := z
        rw [putPin_out y] at z
        obtain ⟨q1, q2, q3⟩ := w1.sub b o z
        exact ⟨hU b o q1, q2, q3⟩
    · by_cases y : cellsN cel b
      · exfalso
        obtain ⟨⟨oc, vs, t, h1, h2, _⟩, _, _⟩ := okU b _ z
        obtain ⟨⟨_, h3⟩, v, h4⟩ := cellAt b y
        rw [h3] at h1
        cases h1
        rw [h4] at h2
        cases h2
      · rw [putPin_out y] at z
        exact wF _ _ (w1.codes b q' z)
    · obtain ⟨a, u, h1, h2, h3⟩ := w1.st n o z
      exact ⟨a, u, h1, hU a u h2, RepO.mono leU h3⟩
  have repF : Rep C WU (.fn g cs) (.ref f) := by
    rw [Rep, hfk]
    refine ⟨f, c', cel, pm, ctv, vsC, _, rfl, wF _ _ lf, rfl, wF _ _ lc, ⟨?_, fun y c z => ?_, fun x y c z1 z2 => I1.ok.inj x y c (cm z1) (cm z2), fun y c z => ?_, fun j y hj => ?_⟩, ?_⟩
    · have e1 := rC.length
      have e2 : cs.length = caps.length := capsD_len g2
      have e3 := congrArg List.length hcaps
      rw [List.length_map, List.length_map] at e3
      omega
    · obtain ⟨⟨_, _⟩, v, h4⟩ := cellAt c ⟨y, z⟩
      exact ⟨ob c, v, putPin_in ⟨y, z⟩, h4⟩
    · rw [← hcel] at z
      rcases cloFrom_mem (PySem.mem_of_lookup z) with hm | ⟨h1, _⟩
      · cases hm
      · exact S.free _ h1 rfl
    · have hk := hcell y (List.mem_of_getElem? hj)
      have hcj : caps[j]?.map (fun j => X.N[j]?) = some (some y) := by
        have := congrArg (fun l : List (Option Str) => l[j]?) hcaps
        rw [List.getElem?_map, List.getElem?_map, hj] at this
        exact this
      obtain ⟨i', hi', hN⟩ := Option.map_eq_some_iff.mp hcj
      obtain ⟨v, z1, z2⟩ := hC j i' hi'
      obtain ⟨m, _, hl⟩ := I1.loc
      obtain ⟨u, ru, lk⟩ := hl i' y v hN z2 (.inr (.inl hk))
      rcases lk with ⟨k', _⟩ | ⟨_, c, k1, o, k2, k3⟩
      · have k' : X.env.scope.names.lookup y = some .local := k'
        rw [hk] at k'
        cases k'
      · have hcl : cel.lookup y = some c := by
          rw [← hcel]
          exact clo_has frees (PySem.mem_of_lookup (S.frk y (List.mem_of_getElem? hj))) k1
        have e : ob c = o := by show (s1.heap.get? c).getD _ = o; rw [k2]; rfl
        exact ⟨c, ob c, u, v, hcl, putPin_in ⟨y, hcl⟩, by rw [e]; exact k3, z1, ru⟩
    · exact RepL.mono ⟨fun b o z => drop_F.mpr ⟨nN b o (w1.sub b o z).1, wF b o z⟩, fun _ _ z => z⟩ _ _ rC
  refine wpAny_call (codeAny_mono (R X.A X.stack s1 _ us (vs ++ [.ref f]) (fun v H' => ∃ W', MT.Ext WU (putPin ob (cellsN cel) H1) W' H' ∧ SW C W' S' H' ∧ Rep C W' d v) (fun _ _ _ => False) hr e0U rv ⟨WU, S1, ds ++ [.fn g cs], d, S', swU, (RepL.mono leU _ _ p1).append (.cons repF .nil), g3, fun v H' W' e w p => ⟨W', e, w, p⟩⟩) fun r' s' hq => ?_)
  cases r' with
  | error er => exact False.elim hq
  | ok fl =>
    cases fl with
    | next => exact False.elim hq
    | brk => exact False.elim hq
    | cont => exact False.elim hq
    | ret u =>
      obtain ⟨v, H', hos, hb, un, hok, r1, W', e', w', p'⟩ := hq
      have hkp : ∀ c, cellsN cel c → H' c = some (PinO c (ob c)) := fun c z => e'.keep c _ (putPin_in z) (w1.notm (hcN c z).1) (fun ps y => pinO_tbl y.symm)
      obtain ⟨un2, ok2⟩ := un_up un hok hcN hkp
      have pins' : Pins W' (cellsN cel) := ⟨fun c z => by
        obtain ⟨_, v, h4⟩ := cellAt c z
        exact ⟨ob c, v, e'.w.f c _ (putPin_in z), h4⟩⟩
      have sw2 := w'.drop hok pins' hnl.2
      have p2 := rep_drop hok pins' w'.subs d v hnl.1 p'
      refine I1.after ⟨v, dropH H' (cellsN cel), hos, hb, un2, ok2, r1, q v _ (W'.drop (cellsN cel)) (e1.trans ⟨⟨fun b o z => drop_F.mpr ⟨nN b o (w1.sub b o z).1, e'.w.f b o (wF b o z)⟩, e'.w.m⟩, fun b o z nb nt => ?_, fun b z => ?_, fun b z => ?_, fun b o z => ?_⟩) sw2 p2⟩
      · rw [dropH_out (nN b o z)]
        exact e'.keep b o (hU b o z) nb nt
      · by_cases y : cellsN cel b
        · exact (hcN b y).1
        · rw [dropH_out y] at z
          have := e'.dom b z
          rw [putPin_out y] at this
          exact this
      · rcases e'.mnew b z with h | h
        · exact .inl h
        · by_cases y : cellsN cel b
          · exact .inr (hcN b y).1
          · rw [putPin_out y] at h
            exact .inr h
      · obtain ⟨y, z⟩ := drop_F.mp z
        rcases e'.fnew b o z with h | h
        · have h : putPin ob (cellsN cel) W1.F b = some o := h
          rw [putPin_out y] at h
          exact .inl h
        · rw [putPin_out y] at h
          exact .inr h
end
end MT

set_option maxRecDepth 100000
set_option maxHeartbeats 1000000
/-! MTy: the rules by the small language's forms. -/
namespace MT
open PySem PySem.Spec PyProof.Rows L2
abbrev XE (F : Fx) (X : Cx) (H0 : Hp) (mo : Mo) (e : Expr) (ir : MT.E) : Prop := EV X F.C F.md H0 mo e (evE F.G F.cl ir)
abbrev XT (F : Fx) (X : Cx) (H0 : Hp) (e : Expr) (ir : MT.E) : Prop := ET X F.C F.md H0 e (evE F.G F.cl ir)
abbrev XW (F : Fx) (X : Cx) (H0 : Hp) (e : Expr) (ir : MT.E) : Prop := EW X F.C F.md H0 e (evE F.G F.cl ir)
abbrev XL (F : Fx) (X : Cx) (H0 : Hp) (es : List Expr) (il : Es) : Prop := EL X F.C F.md H0 es (evL F.G F.cl il)
abbrev XB (F : Fx) (X : Cx) (H0 : Hp) (es : List Expr) (il : Es) : Prop := EB X F.C F.md H0 es (evL F.G F.cl il)
abbrev XK (F : Fx) (X : Cx) (H0 : Hp) (es : List Keyword) (il : Es) : Prop := EK X F.C F.md H0 es (evL F.G F.cl il)
abbrev XM (F : Fx) (X : Cx) (H0 : Hp) (L : LamI) (es : List Expr) (il : Es) : Prop := EM X F.C F.md H0 L es (evL F.G F.cl il)
abbrev XO (F : Fx) (X : Cx) (H0 : Hp) (e : Option Expr) (io : Eo) : Prop := EO X F.C F.md H0 e (evO F.G F.cl io)
abbrev XI (F : Fx) (X : Cx) (H0 : Hp) (mo : Mo) (tg e : Expr) (it : MT.It) : Prop := EI X F.C F.md H0 mo tg e (evI F.G F.cl it)
abbrev XC (F : Fx) (X : Cx) (H0 : Hp) (es : List Expr) (io : Eo) : Prop := EC X F.C F.md H0 es (evC F.G F.cl io)
abbrev XG (F : Fx) (X : Cx) (H0 : Hp) (tg : Expr) (t : Tg) : Prop := BG X F.C F.md H0 tg t
abbrev XGs (F : Fx) (X : Cx) (H0 : Hp) (tg : List Expr) (t : Tgs) : Prop := BGs X F.C F.md H0 tg t
abbrev XA (F : Fx) (X : Cx) (H0 : Hp) (tg : List Expr) (l : List TgS) : Prop := BA X F.C F.G F.cl F.md H0 tg l
abbrev XS (F : Fx) (X : Cx) (W0 : Wd) (H0 : Hp) (st : Stmt) (s : Sm) : Prop := ES X F.C F.md W0 H0 st (exS F.G F.cl F.fu s)
abbrev XSs (F : Fx) (X : Cx) (W0 : Wd) (H0 : Hp) (st : List Stmt) (s : Ss) : Prop := ESs X F.C F.md W0 H0 st (exSs F.G F.cl F.fu s)
/-! ### looks at the text -/
def glB (sc : Scope) (x : Str) : Bool := decide (sc.names.lookup x = some .globalImplicit)
def visB (sc : Scope) (x : Str) : Bool := decide (sc.names.lookup x = some .local) || (decide (sc.names.lookup x = some .cell) || decide (sc.names.lookup x = some .free))
def plainN (x : Str) : Bool := !(x == ("__debug__" : Str)) && !(x == ("__classdict__" : Str))
/-- the slot i is the name x -/
def slB (N : List Str) (sc : Scope) (i : Nat) (x : Str) : Bool := decide (N[i]? = some x) && (visB sc x && plainN x)
/-- the slot i is the name x, one's own -/
def slL (N : List Str) (sc : Scope) (i : Nat) (x : Str) : Bool := decide (N[i]? = some x) && (decide N.Nodup && decide (sc.names.lookup x = some .local))
def slC (N : List Str) (sc : Scope) (i : Nat) (x : Str) : Bool := decide (N[i]? = some x) && (decide N.Nodup && (decide (sc.names.lookup x = some .local) || decide (sc.names.lookup x = some .cell)))
section
variable {F : Fx} {X : Cx} {H0 : Hp} {W0 : Wd} {mo : Mo} {a b c e o tg iter : Expr} {es : List Expr} {pos pos' p p1 p2 p3 : Pos} {ia ib ic ie io : MT.E} {il il2 : Es}
theorem Ctx.gl (cx : Ctx F X) {x : Str} (h : glB F.sc x = true) : Gl X x := by
  show X.env.scope.names.lookup x = _
  rw [cx.sc]
  exact of_decide_eq_true h
theorem Ctx.vis (cx : Ctx F X) {x : Str} (h : visB F.sc x = true) : Vis X.env.scope x := by
  unfold visB at h
  simp only [Bool.or_eq_true, decide_eq_true_eq] at h
  rw [cx.sc]
  exact h
theorem Ctx.sl (cx : Ctx F X) {i : Nat} {x : Str} (h : slB F.N F.sc i x = true) : X.N[i]? = some x ∧ Vis X.env.scope x ∧ (x == ("__debug__" : Str)) = false ∧ (x == ("__classdict__" : Str)) = false := by
  unfold slB plainN at h
  simp only [Bool.and_eq_true, decide_eq_true_eq, Bool.not_eq_true'] at h
  exact ⟨by rw [cx.N]; exact h.1, cx.vis h.2.1, h.2.2.1, h.2.2.2⟩
theorem Ctx.slL (cx : Ctx F X) {i : Nat} {x : Str} (h : MT.slL F.N F.sc i x = true) : X.N[i]? = some x ∧ X.N.Nodup ∧ X.env.scope.names.lookup x = some .local := by
  unfold MT.slL at h
  simp only [Bool.and_eq_true, decide_eq_true_eq] at h
  rw [cx.N, cx.sc]
  exact ⟨h.1, h.2.1, h.2.2⟩
theorem Ctx.slC (cx : Ctx F X) {i : Nat} {x : Str} (h : MT.slC F.N F.sc i x = true) : X.N[i]? = some x ∧ X.N.Nodup ∧ L2.Loc X.env.scope x := by
  unfold MT.slC at h
  simp only [Bool.and_eq_true, Bool.or_eq_true, decide_eq_true_eq] at h
  unfold L2.Loc
  rw [cx.N, cx.sc]
  exact ⟨h.1, h.2.1, h.2.2⟩
theorem Ctx.hu (cx : Ctx F X) : X.A.units + 65 < cLine := by have := cx.room.un; omega
theorem Ctx.hu1 (cx : Ctx F X) : X.A.units + 1 < cLine := by have := cx.room.un; omega
/-! ### expressions -/
theorem c_var {i : Nat} {x : Str} (cx : Ctx F X) (h : slB F.N F.sc i x = true) (hm : F.md i = .frz) : XE F X H0 .frz (.Name x p) (.var i) := let ⟨h1, h2, h3, h4⟩ := cx.sl h; ev_var h1 h2 h3 h4 hm
theorem c_bor {i : Nat} {x : Str} (cx : Ctx F X) (h : slB F.N F.sc i x = true) : XE F X H0 .bor (.Name x p) (.var i) := let ⟨h1, h2, h3, h4⟩ := cx.sl h; ev_bor h1 h2 h3 h4
theorem c_int {i : Int} {j : Nat} : XE F X H0 .frz (.Constant (.int i) j p) (.cst (.int i)) := ev_int
theorem c_bl {i : Bool} {j : Nat} : XE F X H0 .frz (.Constant (.bool i) j p) (.cst (.bl i)) := ev_bl
theorem c_non {j : Nat} : XE F X H0 .frz (.Constant .none j p) (.cst .non) := ev_non
theorem c_str {x : Str} {l : List Nat} {j : Nat} (h : (ascB x.cps.toList && decide (x.cps.toList = l)) = true) : XE F X H0 .frz (.Constant (.str x) j p) (.cst (.str l)) := by
  simp only [Bool.and_eq_true, decide_eq_true_eq] at h
  rw [← h.2]
  exact ev_str h.1
theorem c_gstr {x z : Str} {l : List Nat} (cx : Ctx F X) (hg : glB F.sc x = true) (hm : ∃ u, F.C.mg x = some u ∧ L2.RelV (.str z) u) (h : (ascB z.cps.toList && (decide (z.cps.toList = l) && plainN x)) = true) : XE F X H0 .frz (.Name x p) (.cst (.str l)) := by
  unfold plainN at h
  simp only [Bool.and_eq_true, decide_eq_true_eq, Bool.not_eq_true'] at h
  obtain ⟨u, h1, h2⟩ := hm
  have e : z = ⟨l.toArray⟩ := by rw [← h.2.1]
  refine ev_glob cx.mg (cx.gl hg) h1 h2 (fun W => ?_) h.2.2.1
  rw [e]
  refine rep_str ?_
  rw [← h.2.1]
  exact asc_of h.1
theorem c_gint {x : Str} {i : Int} (cx : Ctx F X) (hg : glB F.sc x = true) (hm : ∃ u, F.C.mg x = some u ∧ L2.RelV (.int i) u) (h : plainN x = true) : XE F X H0 .frz (.Name x p) (.cst (.int i)) := by
  unfold plainN at h
  simp only [Bool.and_eq_true, Bool.not_eq_true'] at h
  obtain ⟨u, h1, h2⟩ := hm
  exact ev_glob cx.mg (cx.gl hg) h1 h2 (fun W => rep_int i) h.1
theorem c_add (cx : Ctx F X) (ha : XE F X H0 .bor a ia) (hb : XE F X H0 .bor b ib) : XE F X H0 .own (.BinOp a .Add b p) (.bin .add ia ib) := ev_op2 ha hb (o_add cx.K)
theorem c_sub (cx : Ctx F X) (ha : XE F X H0 .bor a ia) (hb : XE F X H0 .bor b ib) : XE F X H0 .own (.BinOp a .Sub b p) (.bin .sub ia ib) := ev_op2 ha hb o_sub
theorem c_mul (cx : Ctx F X) (ha : XE F X H0 .bor a ia) (hb : XE F X H0 .bor b ib) : XE F X H0 .own (.BinOp a .Mult b p) (.bin .mul ia ib) := ev_op2 ha hb o_mul
theorem c_fdiv (cx : Ctx F X) (ha : XE F X H0 .bor a ia) (hb : XE F X H0 .bor b ib) : XE F X H0 .own (.BinOp a .FloorDiv b p) (.bin .fdiv ia ib) := ev_op2 ha hb o_fdiv
theorem c_mod (cx : Ctx F X) (ha : XE F X H0 .bor a ia) (hb : XE F X H0 .bor b ib) : XE F X H0 .own (.BinOp a .Mod b p) (.bin .mod ia ib) := ev_op2 ha hb o_mod
theorem c_pow (cx : Ctx F X) (ha : XE F X H0 .bor a ia) (hb : XE F X H0 .bor b ib) : XE F X H0 .own (.BinOp a .Pow b p) (.bin .pow ia ib) := ev_op2 ha hb o_pow
theorem c_neg (cx : Ctx F X) (ha : XE F X H0 .bor a ia) : XE F X H0 .frz (.UnaryOp .USub a p) (.neg ia) := ev_neg ha
theorem c_cmp (o : CmpO) (cx : Ctx F X) (ha : XE F X H0 .bor a ia) (hb : XE F X H0 .bor b ib) (hm : behindInMarks (cop o) b = false) : XE F X H0 .own (.Compare a [cop o] [b] p) (.cmp o ia ib) := ev_cmp ha hb (o_cmp cx.K cx.hu o) hm
theorem t_cmp (o : CmpO) (cx : Ctx F X) (ha : XE F X H0 .bor a ia) (hb : XE F X H0 .bor b ib) (hm : behindInMarks (cop o) b = false) : XT F X H0 (.Compare a [cop o] [b] p) (.cmp o ia ib) := by
  obtain ⟨r, h1, h2⟩ := o_cmp (X := X) cx.K cx.hu o
  refine et_cmp ha hb ⟨r, h1, fun W S H x y dx dy d S' Q w hx hy hf k => h2 W S H x y dx dy d S' Q w hx hy hf fun v H' W' e w' p => ?_⟩ hm
  obtain ⟨W2, e2, w2, r2⟩ := RepN.freeze p e w'
  exact k v H' W2 e2 w2 r2
theorem c_cmp2 (o q : CmpO) (cx : Ctx F X) (ha : XE F X H0 .bor a ia) (hb : XE F X H0 .bor b ib) (hc : XE F X H0 .bor c ic) (hm : lastMarks [cop o, cop q] [b, c] = false) : XE F X H0 .frz (.Compare a [cop o, cop q] [b, c] p) (.cmp2 o q ia ib ic) := ev_cmp2 cx.K cx.hu ha hb hc hm
theorem t_cmp2 (o q : CmpO) (cx : Ctx F X) (ha : XE F X H0 .bor a ia) (hb : XE F X H0 .bor b ib) (hc : XE F X H0 .bor c ic) (hm : lastMarks [cop o, cop q] [b, c] = false) : XT F X H0 (.Compare a [cop o, cop q] [b, c] p) (.cmp2 o q ia ib ic) := et_cmp2 cx.K cx.hu ha hb hc hm
theorem c_isN {j p'} (ha : XE F X H0 .bor a ia) : XE F X H0 .frz (.Compare a [.Is] [.Constant .none j p'] p) (.isn false ia) := ev_isN ha
theorem c_notN {j p'} (ha : XE F X H0 .bor a ia) : XE F X H0 .frz (.Compare a [.IsNot] [.Constant .none j p'] p) (.isn true ia) := ev_notN ha
theorem t_isN {j p'} (ha : XE F X H0 .bor a ia) : XT F X H0 (.Compare a [.Is] [.Constant .none j p'] p) (.isn false ia) := et_isN ha
theorem t_notN {j p'} (ha : XE F X H0 .bor a ia) : XT F X H0 (.Compare a [.IsNot] [.Constant .none j p'] p) (.isn true ia) := et_notN ha
theorem c_eqo (cx : Ctx F X) (ok : GOk F.C F.G) (ha : XE F X H0 .bor a ia) (hb : XE F X H0 .frz b ib) (hm : behindInMarks .Eq b = false) : XE F X H0 .frz (.Compare a [.Eq] [b] p) (.eqo false ia ib) := ev_eqo (ng := false) cx.K ok cx.fns.dir cx.room ha hb hm
theorem c_neo (cx : Ctx F X) (ok : GOk F.C F.G) (ha : XE F X H0 .bor a ia) (hb : XE F X H0 .frz b ib) (hm : behindInMarks .NotEq b = false) : XE F X H0 .frz (.Compare a [.NotEq] [b] p) (.eqo true ia ib) := ev_eqo (ng := true) cx.K ok cx.fns.dir cx.room ha hb hm
theorem c_and (ha : XE F X H0 .frz a ia) (hb : XE F X H0 .frz (.BoolOp .And (b :: es) p) ib) : XE F X H0 .frz (.BoolOp .And (a :: b :: es) p) (.and ia ib) := ev_and ha hb
theorem c_or (ha : XE F X H0 .frz a ia) (hb : XE F X H0 .frz (.BoolOp .Or (b :: es) p) ib) : XE F X H0 .frz (.BoolOp .Or (a :: b :: es) p) (.or ia ib) := ev_or ha hb
theorem c_one {op : BoolOp} (ha : XE F X H0 .frz a ia) : XE F X H0 .frz (.BoolOp op [a] p) ia := ev_one ha
theorem c_not (ha : XE F X H0 .frz a ia) : XE F X H0 .frz (.UnaryOp .Not a p) (.not ia) := ev_not ha
theorem c_ite (hc : XT F X H0 c ic) (ha : XE F X H0 mo a ia) (hb : XE F X H0 mo b ib) : XE F X H0 mo (.IfExp c a b p) (.ite ic ia ib) := ev_ite hc ha hb
theorem t_val (ha : XE F X H0 .frz a ia) (he : ∀ whole, isTrue a X.env whole = (do let v ← whole; standAt a.pos; holding [v] (truthy v))) : XT F X H0 a ia := et_val ha he
theorem t_not (ha : XT F X H0 a ia) : XT F X H0 (.UnaryOp .Not a p) (.not ia) := et_not ha
theorem t_w (h : XW F X H0 a ia) : XT F X H0 a ia := h.et
theorem w_and1 (ha : XT F X H0 a ia) : XW F X H0 (.BoolOp .And [a] p) ia := ew_and1 ha
theorem w_or1 (ha : XT F X H0 a ia) : XW F X H0 (.BoolOp .Or [a] p) ia := ew_or1 ha
theorem w_and (ha : XT F X H0 a ia) (hb : XW F X H0 (.BoolOp .And (b :: es) p) ib) : XW F X H0 (.BoolOp .And (a :: b :: es) p) (.and ia ib) := ew_and ha hb
theorem w_or (ha : XT F X H0 a ia) (hb : XW F X H0 (.BoolOp .Or (b :: es) p) ib) : XW F X H0 (.BoolOp .Or (a :: b :: es) p) (.or ia ib) := ew_or ha hb
/-! ### rows, displays, places -/
theorem l_nil : XL F X H0 [] .nil := el_nil
theorem l_cons (ha : XE F X H0 .frz e ie) (hl : XL F X H0 es il) (hs : isStar e = false) : XL F X H0 (e :: es) (.cons ie il) := el_cons ha hl hs
theorem l_star (cx : Ctx F X) (ha : XE F X H0 .bor e ie) (hl : XL F X H0 es il) : XL F X H0 (.Starred e p :: es) (.star ie il) := el_star cx.K ha hl
theorem r_nil : XB F X H0 [] .nil := eb_nil
theorem r_cons (ha : XE F X H0 .bor e ie) (hl : XB F X H0 es il) (hs : isStar e = false) : XB F X H0 (e :: es) (.cons ie il) := eb_cons ha hl hs
theorem k_nil : XK F X H0 [] .nil := ek_nil
theorem k_cons {nm : Option Str} {kws : List Keyword} {kp : Pos} (ha : XE F X H0 .frz e ie) (hl : XK F X H0 kws il) : XK F X H0 (⟨nm, e, kp⟩ :: kws) (.cons ie il) := ek_cons ha hl
theorem c_tup {k : Nat} (h : XL F X H0 es il) : XE F X H0 .frz (.Tuple es k p) (.tup il) := ev_tup h
theorem c_lst (h : XL F X H0 es il) : XE F X H0 .own (.List es p) (.lst il) := ev_lst h
theorem c_newl (h : XL F X H0 es il) : XE F X H0 .frz (.List es p) (.newl il) := ev_newl h
theorem c_dct0 : XE F X H0 .own (.Dict [] [] p) .dct0 := ev_dct0
theorem c_newd : XE F X H0 .frz (.Dict [] [] p) .newd := ev_newd
theorem c_idx (cx : Ctx F X) (ha : XE F X H0 .bor a ia) (hb : XE F X H0 .bor b ib) (hs : isSl b = false) : XE F X H0 .frz (.Subscript a b p) (.idx ia ib) := ev_ix cx.K cx.hu1 ha hb hs
theorem x_non : XO F X H0 none .non := eo_non
theorem x_som (ha : XE F X H0 .bor a ia) : XO F X H0 (some a) (.som ia) := eo_som ha
theorem c_sl {lo hi : Option Expr} {il ih : Eo} (cx : Ctx F X) (ha : XE F X H0 .bor a ia) (hl : XO F X H0 lo il) (hh : XO F X H0 hi ih) : XE F X H0 .own (.Subscript a (.Slice lo hi none p2) p) (.sl ia il ih) := ev_sl cx.K ha hl hh
theorem c_rev {k : Nat} (cx : Ctx F X) (ha : XE F X H0 .bor a ia) : XE F X H0 .own (.Subscript a (.Slice none none (some (.UnaryOp .USub (.Constant (.int 1) k p1) p2)) p3) p) (.rev ia) := ev_rev cx.K ha
/-! ### what is walked, targets, comprehensions -/
theorem i_e (cx : Ctx F X) (hmo : mo = .frz ∨ mo = .bor) (ha : XE F X H0 mo a ia) : XI F X H0 mo tg a (.e ia) := ei_any cx.K hmo ha
theorem i_rng1 (cx : Ctx F X) (hm : F.C.mg "range" = none) (hg : glB F.sc "range" = true) (ha : XE F X H0 .bor a ia) (hs : isStar a = false) : XI F X H0 mo tg (.Call (.Name "range" p1) [a] [] p) (.rng1 ia) := ei_rng1 cx.mg (cx.gl hg) hm ha hs
theorem i_rng2 (cx : Ctx F X) (hm : F.C.mg "range" = none) (hg : glB F.sc "range" = true) (ha : XE F X H0 .bor a ia) (hb : XE F X H0 .bor b ib) (hs : isStar a = false) (hs2 : isStar b = false) : XI F X H0 mo tg (.Call (.Name "range" p1) [a, b] [] p) (.rng2 ia ib) := ei_rng2 cx.mg (cx.gl hg) hm ha hb hs hs2
theorem i_enum {elts : List Expr} {kk : Nat} (cx : Ctx F X) (hm : F.C.mg "enumerate" = none) (hg : glB F.sc "enumerate" = true) (hmo : mo = .frz ∨ mo = .bor) (ha : XE F X H0 mo a ia) (hs : isStar a = false) : XI F X H0 mo (.Tuple elts kk p2) (.Call (.Name "enumerate" p1) [a] [] p) (.enum ia) := ei_enum cx.K cx.mg (cx.gl hg) hm hmo ha hs
theorem g_nm {i : Nat} {x : Str} (cx : Ctx F X) (h : slL F.N F.sc i x = true) (hm : F.md i = .frz) : XG F X H0 (.Name x p) (.nm i) := let ⟨h1, h2, h3⟩ := cx.slL h; b_name h2 h1 (.inl h3) (.inr h3) hm
theorem g_nmC {i : Nat} {x : Str} (cx : Ctx F X) (hf : X.fn = fun _ => true) (h : slC F.N F.sc i x = true) (hm : F.md i = .frz) : XG F X H0 (.Name x p) (.nm i) := let ⟨h1, h2, h3⟩ := cx.slC h; b_name h2 h1 h3 (.inl (by rw [hf])) hm
theorem g_nmB {scope : Scope} {i : Nat} {x : Str} (cx : Ctx F X) (hf : X.fn = fun x => scope.names.lookup x == some .cell) (h : (slC F.N F.sc i x && (scope.names.lookup x == some .cell)) = true) (hm : F.md i = .frz) : XG F X H0 (.Name x p) (.nm i) := by
  rw [Bool.and_eq_true] at h
  obtain ⟨h1, h2, h3⟩ := cx.slC h.1
  exact b_name h2 h1 h3 (.inl (by rw [hf]; exact h.2)) hm
theorem g_nil : XGs F X H0 [] .nil := bs_nil
theorem g_cons {t : Tg} {ts : Tgs} (h1 : XG F X H0 e t) (h2 : XGs F X H0 es ts) (hs : (assignEach (e :: es) X.env).map (·.2) = assign e X.env :: (assignEach es X.env).map (·.2)) : XGs F X H0 (e :: es) (.cons t ts) := bs_cons h1 h2 hs
theorem g_tup {k : Nat} {ts : Tgs} (cx : Ctx F X) (h : XGs F X H0 es ts) (hn : (assignEach es X.env).length = tgsLen ts) (hst : (assignEach es X.env).findIdx? (·.1) = none) : XG F X H0 (.Tuple es k p) (.tp ts) := b_tup cx.calm cx.K h hn hst
theorem q_nil : XC F X H0 [] .non := ec_nil
theorem q_one (h : XT F X H0 c ic) : XC F X H0 [c] (.som ic) := ec_one h
/-- within a comprehension -/
abbrev Fx.blk (F : Fx) (scope : Scope) : Fx := { F with sc := relS scope F.sc }
theorem Ctx.blk (cx : Ctx F X) (s : Shared) (H : Hp) (A : Addr) (cl : List (Str × Addr)) (fp : List Addr) {scope : Scope} (he : (compEnvC scope cl A X.env).scope = relS scope X.env.scope) : Ctx (F.blk scope) (X.blk s H scope (compEnvC scope cl A X.env) fp) :=
  ⟨cx.K, cx.mg, cx.calm, cx.room, cx.N, by show (compEnvC scope cl A X.env).scope = relS scope F.sc; rw [he, cx.sc], rfl, cx.fns⟩
theorem c_comp {elt : Expr} {ifs : List Expr} {scope : Scope} {it : MT.It} {t : Tg} {iq : Eo} {w : List Nat} (own : List (Str × Nat)) (cx : Ctx F X) (hN : decide F.N.Nodup = true) (hi : XI F X H0 .bor tg iter it) (ok : blkC F.N F.sc scope own = true)
    (hb : ∀ (Y : Cx), Ctx (F.blk scope) Y → (Y.fn = fun x => scope.names.lookup x == some .cell) → XG (F.blk scope) Y H0 tg t ∧ XC (F.blk scope) Y H0 ifs iq ∧ XE (F.blk scope) Y H0 .frz elt ie)
    (hs : ∀ x, foldedSetIterable iter X.env x = pure x) (hw : (decide (own.map (·.2) = w) && (tgVars t).all fun i => decide (i ∈ w)) = true) : XE F X H0 .own (.ListComp elt [⟨tg, iter, ifs, 0⟩] scope p) (.comp ie t it iq w) := by
  simp only [Bool.and_eq_true, decide_eq_true_eq, List.all_eq_true] at hw
  obtain ⟨hw1, hw2⟩ := hw
  subst hw1
  exact ev_comp cx.calm (by rw [cx.N]; exact of_decide_eq_true hN) hi (blkOk_by (by rw [cx.N, cx.sc]; exact ok)) (fun s H A cl fp => (hb _ (cx.blk s H A cl fp rfl) rfl).1) (fun s H A cl fp => (hb _ (cx.blk s H A cl fp rfl) rfl).2.1) (fun s H A cl fp => (hb _ (cx.blk s H A cl fp rfl) rfl).2.2) hs hw2
theorem c_dcomp {kx elt : Expr} {ifs : List Expr} {scope : Scope} {it : MT.It} {t : Tg} {iq : Eo} {w : List Nat} {ik : MT.E} (own : List (Str × Nat)) (cx : Ctx F X) (hN : decide F.N.Nodup = true) (hi : XI F X H0 .bor tg iter it) (ok : blkC F.N F.sc scope own = true)
    (hb : ∀ (Y : Cx), Ctx (F.blk scope) Y → (Y.fn = fun x => scope.names.lookup x == some .cell) → XG (F.blk scope) Y H0 tg t ∧ XC (F.blk scope) Y H0 ifs iq ∧ XE (F.blk scope) Y H0 .frz kx ik ∧ XE (F.blk scope) Y H0 .frz elt ie)
    (hs : ∀ x, foldedSetIterable iter X.env x = pure x) (hw : (decide (own.map (·.2) = w) && (tgVars t).all fun i => decide (i ∈ w)) = true) : XE F X H0 .own (.DictComp kx elt [⟨tg, iter, ifs, 0⟩] scope p) (.dcomp ik ie t it iq w) := by
  simp only [Bool.and_eq_true, decide_eq_true_eq, List.all_eq_true] at hw
  obtain ⟨hw1, hw2⟩ := hw
  subst hw1
  exact ev_dcomp cx.calm (by rw [cx.N]; exact of_decide_eq_true hN) hi (blkOk_by (by rw [cx.N, cx.sc]; exact ok)) (fun s H A cl fp => (hb _ (cx.blk s H A cl fp rfl) rfl).1) (fun s H A cl fp => (hb _ (cx.blk s H A cl fp rfl) rfl).2.1) (fun s H A cl fp => (hb _ (cx.blk s H A cl fp rfl) rfl).2.2.1) (fun s H A cl fp => (hb _ (cx.blk s H A cl fp rfl) rfl).2.2.2) hs hw2
end
end MT

set_option maxRecDepth 100000
set_option maxHeartbeats 1000000
/-! MTz: the rules by the small language's forms: calls, statements. -/
namespace MT
open PySem PySem.Spec PyProof.Rows L2
/-- a global function -/
def GloF (C : Cst) (i : Nat) (x : Str) : Prop := C.fk[i]? = some (.glo x) ∧ ∃ ad, C.mg x = some (.ref ad) ∧ PySem.W.keepIn C.K (.ref ad) = true
/-- a class and its __init__ -/
def MkF (C : Cst) (c f : Nat) (x : Str) : Prop := ∃ A g, C.mg x = some (.ref A) ∧ C.cls[c]? = some x ∧ fnAddr C f = some g ∧ Mk C.K A g
theorem GloF.at_ {C : Cst} {i : Nat} {x : Str} {ad : Addr} (h : GloF C i x) (hm : C.mg x = some (.ref ad)) : fnAddr C i = some ad := by
  unfold fnAddr
  rw [h.1]
  show (match C.mg x with | some (.ref a) => some a | _ => none) = some ad
  rw [hm]
section
variable {F : Fx} {X : Cx} {H0 : Hp} {W0 : Wd} {mo : Mo} {a b c e o tg iter : Expr} {es : List Expr} {pos pos' p p1 p2 p3 : Pos} {ia ib ic ie io : MT.E} {il il2 : Es} {kws : List Keyword}
theorem pl_db {x : Str} (h : plainN x = true) : (x == ("__debug__" : Str)) = false := by
  unfold plainN at h
  simp only [Bool.and_eq_true, Bool.not_eq_true'] at h
  exact h.1
theorem c_call {i : Nat} {x : Str} (cx : Ctx F X) (hf : GloF F.C i x) (gl : glB F.sc x = true) (ha : XL F X H0 (e :: es) il) (hs : (noStar (e :: es) && plainN x) = true) : XE F X H0 .frz (.Call (.Name x p1) (e :: es) [] p) (.call i il) := by
  obtain ⟨ad, h1, h2⟩ := hf.2
  rw [Bool.and_eq_true] at hs
  exact ev_call cx.mg cx.K (cx.fns.dir i ad (hf.at_ h1)) (cx.room.mono (Nat.le_succ _)) (cx.gl gl) h1 h2 ha (pl_db hs.2) hs.1
theorem c_call0 {i : Nat} {x : Str} (cx : Ctx F X) (hf : GloF F.C i x) (gl : glB F.sc x = true) (hs : plainN x = true) : XE F X H0 .frz (.Call (.Name x p1) [] [] p) (.call i .nil) := by
  obtain ⟨ad, h1, h2⟩ := hf.2
  exact ev_call0 cx.mg cx.K (cx.fns.dir i ad (hf.at_ h1)) (cx.room.mono (Nat.le_succ _)) (cx.gl gl) h1 h2 (pl_db hs)
def esLen : Es → Nat
  | .nil => 0
  | .cons _ r => esLen r + 1
  | .star _ r => esLen r
def esPlain : Es → Bool
  | .nil => true
  | .cons _ r => esPlain r
  | .star _ _ => false
theorem evL_len {G : Prg} {cl : Call} : ∀ {l : Es} {ρ : Envr} {S : Store} {ds : List D} {S' : Store}, esPlain l = true → evL G cl l ρ S = some (ds, S') → ds.length = esLen l
  | .nil, _, _, _, _, _, h => by cases h; rfl
  | .cons e r, ρ, S, ds, S', hp, h => by
    obtain ⟨x, S1, h1, h⟩ := bnd_eq (show bnd (evE G cl e ρ S) _ = some (ds, S') from h)
    obtain ⟨xs, S2, h2, h⟩ := bnd_eq h
    cases h
    show xs.length + 1 = esLen r + 1
    rw [evL_len (show esPlain r = true from hp) h2]
  | .star _ _, _, _, _, _, hp, _ => by cases hp
theorem c_callk0 {i : Nat} {x : Str} {q : List Nat} (cx : Ctx F X) (ks : List Str) (hf : GloF F.C i x) (hkw : (i, 0, ks, q) ∈ F.C.kwl) (gl : glB F.sc x = true) (ha : XK F X H0 kws il) (hs : (plainN x && (esPlain il && decide (esLen il = ks.length))) = true)
    (hall : (backToKw p (keywordEach kws X.env)).all (·.1.isSome) = true) (hks : (backToKw p (keywordEach kws X.env)).filterMap (·.1) = ks) (hpl : ((backTo p (starEach [] X.env)).any (·.1) || (backToKw p (keywordEach kws X.env)).any (·.1.isNone)) = false) : XE F X H0 .frz (.Call (.Name x p1) [] kws p) (.callk i .nil il q) := by
  obtain ⟨ad, h1, h2⟩ := hf.2
  simp only [Bool.and_eq_true, decide_eq_true_eq] at hs
  exact ev_callk0 cx.mg cx.K (cx.fns.kw i ad 0 ks q (hf.at_ h1) hkw) (cx.room.mono (Nat.le_succ _)) (cx.gl gl) h1 h2 ha hall hks (fun ρ S ds S' h => (evL_len hs.2.1 h).trans hs.2.2) (pl_db hs.1) hpl
theorem c_callv {i : Nat} {x : Str} (cx : Ctx F X) (h : slB F.N F.sc i x = true) (hm : F.md i = .frz) (ha : XL F X H0 (e :: es) il) (hs : noStar (e :: es) = true) : XE F X H0 .frz (.Call (.Name x p1) (e :: es) [] p) (.callv i il) :=
  let ⟨h1, h2, h3, h4⟩ := cx.sl h
  ev_callv cx.mg cx.K cx.fns.val (cx.room.mono (Nat.le_succ _)) h1 h2 hm ha h3 h4 hs
theorem m_lam {L : LamI} {nm : Nat → Nat → Str} {cc PP : Addr} (TB : LamX.TabB X.base X.mg cc PP) (hcode : X.env.code = .ref cc) (hm : (PP, nm) ∈ F.C.T) (hq : X.env.qual ++ "<lambda>" = L.qual) (hn : nm p.line p.col = L.qual) (hu : ∀ p ∈ F.C.T, p.1 = PP → p.2 = nm)
    (hdef : defaultsOf L.params X.env = ([], [])) (hfree : ∀ y ∈ L.scope.names, y.2 = .free → X.env.scope.names.lookup y.1 = some .cell ∨ X.env.scope.names.lookup y.1 = some .free) : XM F X H0 L [.Lambda L.params L.body L.scope p] .nil := em_lam TB hcode hm hq hn hu hdef hfree
theorem m_cons {L : LamI} (ha : XE F X H0 .frz e ie) (hl : XM F X H0 L es il) (hs : isStar e = false) : XM F X H0 L (e :: es) (.cons ie il) := em_cons ha hl hs
theorem c_calll {L : LamI} {i g : Nat} {x : Str} {caps : List Nat} (cx : Ctx F X) (hfn : X.fn = fun _ => true) (hf : GloF F.C i x) (gl : glB F.sc x = true) (hfk : F.C.fk[g]? = some (.lam L)) (S : ∃ N ps, NdefX.NScope N ps L.frees L.scope) (hc : (L.frees.all (fun y => decide (F.sc.names.lookup y = some .cell)) && decide (caps.map (fun j => F.N[j]?) = L.frees.map some)) = true) (hmd : ∀ i ∈ caps, F.md i = .frz)
    (ha : XM F X H0 L (e :: es) il) (hs : (noStar (e :: es) && plainN x) = true) : XE F X H0 .frz (.Call (.Name x p1) (e :: es) [] p) (.calll i il g caps) := by
  obtain ⟨ad, h1, h2⟩ := hf.2
  rw [Bool.and_eq_true] at hs
  simp only [Bool.and_eq_true, decide_eq_true_eq, List.all_eq_true] at hc
  exact ev_calll cx.mg cx.K hfn (cx.fns.dir i ad (hf.at_ h1)) (cx.room.mono (Nat.le_succ _)) (cx.gl gl) h1 h2 hfk S (fun y hy => by rw [cx.sc]; exact hc.1 y hy) (by rw [cx.N]; exact hc.2) hmd ha (pl_db hs.2) hs.1
theorem c_new {k f : Nat} {x : Str} (cx : Ctx F X) (hf : MkF F.C k f x) (gl : glB F.sc x = true) (ha : XL F X H0 (e :: es) il) (hs : (noStar (e :: es) && plainN x) = true) : XE F X H0 .frz (.Call (.Name x p1) (e :: es) [] p) (.new k f il) := by
  obtain ⟨A, g, h1, h2, h3, h4⟩ := hf
  rw [Bool.and_eq_true] at hs
  exact ev_new cx.mg cx.K (cx.fns.dir f g h3) cx.room (cx.gl gl) h1 h2 h4 ha (pl_db hs.2) hs.1
theorem c_newk0 {k f : Nat} {x : Str} {q : List Nat} (cx : Ctx F X) (ks : List Str) (hf : MkF F.C k f x) (hkw : (f, 1, ks, 0 :: q.map (· + 1)) ∈ F.C.kwl) (gl : glB F.sc x = true) (ha : XK F X H0 kws il) (hs : (plainN x && (esPlain il && decide (esLen il = ks.length))) = true)
    (hall : (backToKw p (keywordEach kws X.env)).all (·.1.isSome) = true) (hks : (backToKw p (keywordEach kws X.env)).filterMap (·.1) = ks) (hpl : ((backTo p (starEach [] X.env)).any (·.1) || (backToKw p (keywordEach kws X.env)).any (·.1.isNone)) = false) : XE F X H0 .frz (.Call (.Name x p1) [] kws p) (.newk k f .nil il q) := by
  obtain ⟨A, g, h1, h2, h3, h4⟩ := hf
  simp only [Bool.and_eq_true, decide_eq_true_eq] at hs
  exact ev_newk0 cx.mg cx.K (cx.fns.kw f g 1 ks _ h3 hkw) cx.room (cx.gl gl) h1 h2 h4 ha hall hks (fun ρ S ds S' h => (evL_len hs.2.1 h).trans hs.2.2) (pl_db hs.1) hpl
theorem c_att {j : Nat} {y : Str} (cx : Ctx F X) (ok : GOk F.C F.G) (hy : F.C.fld[j]? = some y) (ha : XE F X H0 .bor a ia) (hs : isSuper a = false) : XE F X H0 .frz (.Attribute a y p) (.att ia j) := ev_att cx.K ok cx.fns.dir cx.room hy ha hs
/-! ### built-in functions, types -/
theorem c_bltB {bl : Blt} {x : Str} {id : String} (cx : Ctx F X) (ho : ∃ r, CallR X (.builtin id) r ∧ OpC F.C .own r (blF bl)) (hv : bootBuiltins x = some (.builtin id)) (hm : F.C.mg x = none) (gl : glB F.sc x = true) (ha : XB F X H0 (e :: es) il) (hs : (noStar (e :: es) && (plainN x && !decide (x = "__name__"))) = true) :
    XE F X H0 .own (.Call (.Name x p1) (e :: es) [] p) (.blt bl il) := by
  simp only [Bool.and_eq_true, Bool.not_eq_true', decide_eq_false_iff_not] at hs
  exact ev_callB cx.mg ho (cx.gl gl) hm hv ha hs.2.2 (pl_db hs.2.1) hs.1
theorem c_bltT {bl : Blt} {x : Str} {T : String} (cx : Ctx F X) (ho : ∃ r, CallR X (.type T) r ∧ OpC F.C .own r (blF bl)) (hv : bootBuiltins x = some (.type T)) (hm : F.C.mg x = none) (gl : glB F.sc x = true) (ha : XB F X H0 (e :: es) il) (hs : (noStar (e :: es) && (plainN x && !decide (x = "__name__"))) = true) :
    XE F X H0 .own (.Call (.Name x p1) (e :: es) [] p) (.blt bl il) := by
  simp only [Bool.and_eq_true, Bool.not_eq_true', decide_eq_false_iff_not] at hs
  exact ev_callTy cx.mg ho (cx.gl gl) hm hv ha hs.2.2 (pl_db hs.2.1) hs.1
theorem c_isiT {t : Ty} {x : Str} {n : String} (cx : Ctx F X) (ok : GOk F.C F.G) (ht : tyName t = some n) (hv : bootBuiltins x = some (.type n)) (hm : F.C.mg "isinstance" = none) (hm2 : F.C.mg x = none) (gl : (glB F.sc "isinstance" && (glB F.sc x && (plainN x && !decide (x = "__name__")))) = true) (ha : XE F X H0 .bor a ia) (hs : isStar a = false) :
    XE F X H0 .frz (.Call (.Name "isinstance" p1) [a, .Name x p2] [] p) (.isi t ia) := by
  simp only [Bool.and_eq_true, Bool.not_eq_true', decide_eq_false_iff_not] at gl
  have tv : TyV F.C t (.ty n) (.type n) := by
    cases t with
    | cls c => cases ht
    | _ => exact ⟨n, ht, rfl, rfl⟩
  exact ev_isi cx.mg cx.K ok.ck (cx.gl gl.1) hm tv ha (pe_bltn (cx.gl gl.2.1) (by rw [cx.mg]; exact hm2) hv rfl gl.2.2.2 (pl_db gl.2.2.1)) hs rfl
theorem c_isiC {k : Nat} {x : Str} (cx : Ctx F X) (ok : GOk F.C F.G) (hk : F.C.cls[k]? = some x) (hx : ∃ A, F.C.mg x = some (.ref A)) (hm : F.C.mg "isinstance" = none) (gl : (glB F.sc "isinstance" && (glB F.sc x && plainN x)) = true) (ha : XE F X H0 .bor a ia) (hs : isStar a = false) :
    XE F X H0 .frz (.Call (.Name "isinstance" p1) [a, .Name x p2] [] p) (.isi (.cls k) ia) := by
  simp only [Bool.and_eq_true] at gl
  obtain ⟨A, hA⟩ := hx
  have tv : TyV F.C (.cls k) (.ref A) (.ref A) := ⟨x, A, hk, hA, rfl, rfl⟩
  exact ev_isi cx.mg cx.K ok.ck (cx.gl gl.1) hm tv ha (pe_glob (cx.gl gl.2.1) (by rw [cx.mg]; exact hA) rfl (pl_db gl.2.2)) hs rfl
/-! ### statements -/
variable {st : Stmt} {sts sts2 : List Stmt} {s s2 : Sm} {ss ss2 : Ss}
theorem z_nil : XSs F X W0 H0 [] .nil := s_nil
theorem z_cons (h1 : XS F X W0 H0 st s) (h2 : XSs F X W0 H0 sts ss) : XSs F X W0 H0 (st :: sts) (.cons s ss) := s_cons h1 h2
theorem z_if (hc : XT F X H0 c ic) (h1 : XSs F X W0 H0 sts ss) (h2 : XSs F X W0 H0 sts2 ss2) : XS F X W0 H0 (.If c sts sts2 p) (.iff ic ss ss2) := s_if hc h1 h2
theorem z_exp (ha : XE F X H0 .frz a ia) (hs : swapsWith a none p.line X.env = pure false) : XS F X W0 H0 (.Expr a p) (.exp ia) := s_exp ha hs
theorem z_pass : XS F X W0 H0 (.Pass p) .pass := s_pass
theorem z_brk : XS F X W0 H0 (.Break p) .brk := s_brk
theorem z_cnt : XS F X W0 H0 (.Continue p) .cnt := s_cnt
theorem z_stuck : XS F X W0 H0 st .stuck := s_stuck
theorem z_ret (ha : XE F X H0 .frz a ia) : XS F X W0 H0 (.Return (some a) p) (.ret ia) := s_ret ha
theorem z_retn : XS F X W0 H0 (.Return none p) .retn := s_retn
theorem z_retv {i : Nat} {x : Str} (cx : Ctx F X) (h : slB F.N F.sc i x = true) (hm : F.md i = .own) : XS F X W0 H0 (.Return (some (.Name x p1)) p) (.retv i) := let ⟨h1, h2, h3, h4⟩ := cx.sl h; s_retv h1 h2 h3 h4 hm
theorem z_set {i : Nat} {x : Str} (cx : Ctx F X) (hf : X.fn = fun _ => true) (h : slC F.N F.sc i x = true) (hm : F.md i = .frz) (ha : XE F X H0 .frz a ia) (hs : swapsWith a (some (.Name x p1)) p.line X.env = pure false) : XS F X W0 H0 (.Assign [.Name x p1] a p) (.set i ia) := let ⟨h1, h2, h3⟩ := cx.slC h; s_set h2 h1 h3 (.inl (by rw [hf])) hm ha hs
theorem z_setn {i : Nat} {x : Str} (cx : Ctx F X) (hf : X.fn = fun _ => true) (h : slC F.N F.sc i x = true) (hm : F.md i = .own) (ha : XE F X H0 .own a ia) (hs : swapsWith a (some (.Name x p1)) p.line X.env = pure false) : XS F X W0 H0 (.Assign [.Name x p1] a p) (.setn i ia) := let ⟨h1, h2, h3⟩ := cx.slC h; s_setn h2 h1 h3 (.inl (by rw [hf])) hm ha hs
theorem z_setc {elt : Expr} {ifs : List Expr} {scope : Scope} {it : MT.It} {t : Tg} {iq : Eo} {w : List Nat} {i : Nat} {x : Str} (own : List (Str × Nat)) (cx : Ctx F X) (h : slL F.N F.sc i x = true) (hm : F.md i = .frz) (hsw : swapsWith (.ListComp elt [⟨tg, iter, ifs, 0⟩] scope p2) (some (.Name x p1)) p.line X.env = pure true)
    (hi : XI F X H0 .bor tg iter it) (ok : blkC F.N F.sc scope own = true)
    (hb : ∀ (Y : Cx), Ctx (F.blk scope) Y → (Y.fn = fun x => scope.names.lookup x == some .cell) → XG (F.blk scope) Y H0 tg t ∧ XC (F.blk scope) Y H0 ifs iq ∧ XE (F.blk scope) Y H0 .frz elt ie)
    (hs : ∀ x, foldedSetIterable iter X.env x = pure x) (hw : (decide (own.map (·.2) = w) && (tgVars t).all fun i => decide (i ∈ w)) = true) : XS F X W0 H0 (.Assign [.Name x p1] (.ListComp elt [⟨tg, iter, ifs, 0⟩] scope p2) p) (.set i (.comp ie t it iq w)) := by
  simp only [Bool.and_eq_true, decide_eq_true_eq, List.all_eq_true] at hw
  obtain ⟨hw1, hw2⟩ := hw
  subst hw1
  obtain ⟨h1, h2, h3⟩ := cx.slL h
  exact s_setc cx.calm h2 h1 h3 hm hsw hi (blkOk_by (by rw [cx.N, cx.sc]; exact ok)) (fun s H A cl fp => (hb _ (cx.blk s H A cl fp rfl) rfl).1) (fun s H A cl fp => (hb _ (cx.blk s H A cl fp rfl) rfl).2.1) (fun s H A cl fp => (hb _ (cx.blk s H A cl fp rfl) rfl).2.2) hs hw2
theorem z_setcn {elt : Expr} {ifs : List Expr} {scope : Scope} {it : MT.It} {t : Tg} {iq : Eo} {w : List Nat} {i : Nat} {x : Str} (own : List (Str × Nat)) (cx : Ctx F X) (h : slL F.N F.sc i x = true) (hm : F.md i = .own) (hsw : swapsWith (.ListComp elt [⟨tg, iter, ifs, 0⟩] scope p2) (some (.Name x p1)) p.line X.env = pure true)
    (hi : XI F X H0 .bor tg iter it) (ok : blkC F.N F.sc scope own = true)
    (hb : ∀ (Y : Cx), Ctx (F.blk scope) Y → (Y.fn = fun x => scope.names.lookup x == some .cell) → XG (F.blk scope) Y H0 tg t ∧ XC (F.blk scope) Y H0 ifs iq ∧ XE (F.blk scope) Y H0 .frz elt ie)
    (hs : ∀ x, foldedSetIterable iter X.env x = pure x) (hw : (decide (own.map (·.2) = w) && (tgVars t).all fun i => decide (i ∈ w)) = true) : XS F X W0 H0 (.Assign [.Name x p1] (.ListComp elt [⟨tg, iter, ifs, 0⟩] scope p2) p) (.setn i (.comp ie t it iq w)) := by
  simp only [Bool.and_eq_true, decide_eq_true_eq, List.all_eq_true] at hw
  obtain ⟨hw1, hw2⟩ := hw
  subst hw1
  obtain ⟨h1, h2, h3⟩ := cx.slL h
  exact s_setcn cx.calm h2 h1 h3 hm hsw hi (blkOk_by (by rw [cx.N, cx.sc]; exact ok)) (fun s H A cl fp => (hb _ (cx.blk s H A cl fp rfl) rfl).1) (fun s H A cl fp => (hb _ (cx.blk s H A cl fp rfl) rfl).2.1) (fun s H A cl fp => (hb _ (cx.blk s H A cl fp rfl) rfl).2.2) hs hw2
theorem z_unp {t : Tg} (ha : XE F X H0 .frz a ia) (hb : XG F X H0 tg t) (hs : swapsWithSole [tg] a p.line X.env = pure false) (hw : swappedStores [tg] a X.env = pure none) (h1 : (assignEach [tg] X.env).map (·.2) = [assign tg X.env]) : XS F X W0 H0 (.Assign [tg] a p) (.unp t ia) := s_unp ha hb hs hw h1
theorem z_par2 {i j : Nat} {x y : Str} {px py pt : Pos} {kt k2 pt2} (cx : Ctx F X) (hx : slL F.N F.sc i x = true) (hy : slL F.N F.sc j y = true) (hij : i ≠ j) (ha : XL F X H0 [a, b] il)
    (hw : swappedStores [.Tuple [.Name x px, .Name y py] kt pt] (.Tuple [a, b] k2 pt2) X.env = pure (some [x, y])) (hs : swapsWithSole [.Tuple [.Name x px, .Name y py] kt pt] (.Tuple [a, b] k2 pt2) p.line X.env = pure false) (hmi : F.md i = .frz) (hmj : F.md j = .frz) :
    XS F X W0 H0 (.Assign [.Tuple [.Name x px, .Name y py] kt pt] (.Tuple [a, b] k2 pt2) p) (.par [i, j] il) := let ⟨h1, h2, h3⟩ := cx.slL hx; let ⟨h4, _, h6⟩ := cx.slL hy; s_par2 cx.calm h2 h1 h4 hij h3 h6 ha hw hs hmi hmj
theorem z_par3 {i j l : Nat} {x y z : Str} {px py pz pt : Pos} {kt k2 pt2} (cx : Ctx F X) (hx : slL F.N F.sc i x = true) (hy : slL F.N F.sc j y = true) (hz : slL F.N F.sc l z = true) (hij : i ≠ j) (hil : i ≠ l) (hjl : j ≠ l) (ha : XL F X H0 [a, b, c] il)
    (hw : swappedStores [.Tuple [.Name x px, .Name y py, .Name z pz] kt pt] (.Tuple [a, b, c] k2 pt2) X.env = pure (some [x, y, z])) (hs : swapsWithSole [.Tuple [.Name x px, .Name y py, .Name z pz] kt pt] (.Tuple [a, b, c] k2 pt2) p.line X.env = pure false) (hmi : F.md i = .frz) (hmj : F.md j = .frz) (hml : F.md l = .frz) :
    XS F X W0 H0 (.Assign [.Tuple [.Name x px, .Name y py, .Name z pz] kt pt] (.Tuple [a, b, c] k2 pt2) p) (.par [i, j, l] il) := let ⟨h1, h2, h3⟩ := cx.slL hx; let ⟨h4, _, h6⟩ := cx.slL hy; let ⟨h7, _, h9⟩ := cx.slL hz; s_par3 cx.calm h2 h1 h4 h7 hij hil hjl h3 h6 h9 ha hw hs hmi hmj hml
theorem z_whl (cx : Ctx F X) (hc : XT F X H0 c ic) (hb : XSs F X W0 H0 sts ss) : XS F X W0 H0 (.While c sts [] p) (.whl ic ss) := s_whl cx.xe hc hb
theorem z_for {it : MT.It} {t : Tg} (cx : Ctx F X) (hi : XI F X H0 .frz tg iter it) (hg : XG F X H0 tg t) (hb : XSs F X W0 H0 sts ss) (hs : ∀ x, foldedSetIterable iter X.env x = pure x) : XS F X W0 H0 (.For tg iter sts [] p) (.fr t it ss) := s_for cx.xe cx.calm hi hg hb hs
theorem z_app {i : Nat} {x : Str} {apos : Pos} (cx : Ctx F X) (h : slB F.N F.sc i x = true) (hm : F.md i = .own) (ha : XE F X H0 .frz a ia) (hs : isStar a = false) (hline : (apos.endLine == p2.line) = true) (hsw : swapsWith (.Call (.Attribute (.Name x p1) "append" apos) [a] [] p2) none p.line X.env = pure false) :
    XS F X W0 H0 (.Expr (.Call (.Attribute (.Name x p1) "append" apos) [a] [] p2) p) (.app i ia) := let ⟨h1, h2, h3, h4⟩ := cx.sl h; s_app cx.K h1 h2 h3 h4 hm ha hs hline hsw
theorem z_ext {i : Nat} {x : Str} {apos : Pos} (cx : Ctx F X) (h : slB F.N F.sc i x = true) (hm : F.md i = .own) (ha : XE F X H0 .bor a ia) (hs : isStar a = false) (hline : (apos.endLine == p2.line) = true) (hsw : swapsWith (.Call (.Attribute (.Name x p1) "extend" apos) [a] [] p2) none p.line X.env = pure false) :
    XS F X W0 H0 (.Expr (.Call (.Attribute (.Name x p1) "extend" apos) [a] [] p2) p) (.ext i ia) := let ⟨h1, h2, h3, h4⟩ := cx.sl h; s_ext cx.K h1 h2 h3 h4 hm ha hs hline hsw
theorem z_seti {i : Nat} {x : Str} (cx : Ctx F X) (h : slB F.N F.sc i x = true) (hm : F.md i = .own) (hk : XE F X H0 .bor b ib) (ha : XE F X H0 .frz a ia) (hsl : isSl b = false)
    (hs : swapsWithSole [.Subscript (.Name x p1) b p2] a p.line X.env = pure false) (hw : swappedStores [.Subscript (.Name x p1) b p2] a X.env = pure none) (h1 : (assignEach [.Subscript (.Name x p1) b p2] X.env).map (·.2) = [assign (.Subscript (.Name x p1) b p2) X.env]) :
    XS F X W0 H0 (.Assign [.Subscript (.Name x p1) b p2] a p) (.seti i ib ia) := let ⟨h1', h2, h3, h4⟩ := cx.sl h; s_seti cx.hu1 h1' h2 h3 h4 hm hk ha hsl hs hw h1
theorem z_seto (cx : Ctx F X) (ho : XE F X H0 .bor o io) (hk : XE F X H0 .bor b ib) (ha : XE F X H0 .frz a ia) (hsl : isSl b = false)
    (hs : swapsWithSole [.Subscript o b p2] a p.line X.env = pure false) (hw : swappedStores [.Subscript o b p2] a X.env = pure none) (h1 : (assignEach [.Subscript o b p2] X.env).map (·.2) = [assign (.Subscript o b p2) X.env]) :
    XS F X W0 H0 (.Assign [.Subscript o b p2] a p) (.seto io ib ia) := s_seto cx.hu1 ho hk ha hsl hs hw h1
theorem z_setf {j : Nat} {y : Str} (cx : Ctx F X) (ok : GOk F.C F.G) (hy : F.C.fld[j]? = some y) (ho : XE F X H0 .bor o io) (ha : XE F X H0 .frz a ia) (hs : swapsWith a (some (.Attribute o y p2)) p.line X.env = pure false) : XS F X W0 H0 (.Assign [.Attribute o y p2] a p) (.setf io j ia) := s_setf cx.K ok hy ho ha hs
theorem y_nil : XA F X H0 [] [] := ba_nil
theorem y_nm {i : Nat} {x : Str} {l : List TgS} (cx : Ctx F X) (h : slL F.N F.sc i x = true) (hm : F.md i = .frz) (h2 : XA F X H0 es l) (hs : (assignEach (.Name x p :: es) X.env).map (·.2) = assign (.Name x p) X.env :: (assignEach es X.env).map (·.2)) : XA F X H0 (.Name x p :: es) (.nm i :: l) := let ⟨h1, h2', h3⟩ := cx.slL h; ba_name h2' h1 (.inl h3) (.inr h3) hm h2 hs
theorem y_ix {l : List TgS} (cx : Ctx F X) (ho : XE F X H0 .bor o io) (hk : XE F X H0 .bor b ib) (hsl : isSl b = false) (h2 : XA F X H0 es l) (hs : (assignEach (.Subscript o b p :: es) X.env).map (·.2) = assign (.Subscript o b p) X.env :: (assignEach es X.env).map (·.2)) : XA F X H0 (.Subscript o b p :: es) (.ix io ib :: l) := ba_ix cx.hu1 ho hk hsl h2 hs
theorem z_asg {l : List TgS} {kk : Nat} (cx : Ctx F X) (ha : XE F X H0 .frz a ia) (hb : XA F X H0 es l) (hn : (assignEach es X.env).length = l.length) (hst : (assignEach es X.env).findIdx? (·.1) = none)
    (hs : swapsWithSole [.Tuple es kk p2] a p.line X.env = pure false) (hw : swappedStores [.Tuple es kk p2] a X.env = pure none) (h1 : (assignEach [.Tuple es kk p2] X.env).map (·.2) = [assign (.Tuple es kk p2) X.env]) : XS F X W0 H0 (.Assign [.Tuple es kk p2] a p) (.asg l ia) := s_asg cx.calm cx.K ha hb hn hst hs hw h1
end
end MT

set_option maxRecDepth 100000
set_option maxHeartbeats 1000000
/-! MTza: own == as a test; what a store looks at. -/
namespace MT
open PySem PySem.Spec PyProof.Rows L2
theorem isTrue_of_eval {M : Model} {A : Around} {env : Env} {l r : Expr} {op : CmpOp} {pos : Pos} {whole : Sem Value} {Q : Bool → Shared → Prop} {E : Value → Shared → Prop} {s : Shared}
    (hm : behindInMarks op r = false) (h : wpAny M A (eval (.Compare l [op] [r] pos) env) (fun c s3 => wpAny M A (truthy c) Q E s3) E s) : wpAny M A (isTrue (.Compare l [op] [r] pos) env whole) Q E s := fun Γ p hΓ => by
  have h := h Γ p hΓ
  simp only [eval_Compare1, markedBehindIn_of_false hm, Sem.wp_bind', Sem.wp_holding, Sem.wp_cmd_standAt, Sem.wp_operate] at h
  simp only [isTrue_Compare1, markedBehindIn_of_false hm, Sem.wp_bind', Sem.wp_holding, Sem.wp_cmd_standAt, Sem.wp_operate]
  exact Sem.wp_mono M Γ _ (fun a p₁ s₁ h₁ => Sem.wp_mono M Γ _ (fun b p₂ s₂ h₂ => Sem.wp_mono M Γ _ (fun c p₃ s₃ h₃ => h₃ Γ p₃ hΓ)
    (fun _ _ _ h' => h') _ _ h₂) (fun _ _ _ h' => h') _ _ h₁) (fun _ _ _ h' => h') _ _ h
section
variable {X : Cx} {C : Cst} {md : Nat → Mo} {H0 : Hp} {a b : Expr} {op : CmpOp} {pos p : Pos} {g : Gv}
theorem pt_ev1 {t : TE} (hm : behindInMarks op b = false) (h : PE X (.Compare a [op] [b] pos) t) : PT X (.Compare a [op] [b] pos) (tB t) := by
  refine ⟨fun pins s σ H Q I hw => ?_⟩
  refine isTrue_of_eval hm (thn (h.run pins s σ H _ I hw) fun v s1 ⟨x, H1, I1, r1, q1⟩ => ?_)
  obtain ⟨d, rfl, q⟩ := q1
  cases r1
  exact wpAny_truthy_bool ⟨H1, I1, q⟩
theorem et_ev1 (hm : behindInMarks op b = false) (h : EV X C md H0 .frz (.Compare a [op] [b] pos) g) : ET X C md H0 (.Compare a [op] [b] pos) g := ⟨PT.imp (pt_ev1 hm h.pe) (tt_tb rfl)⟩
end
theorem swS_congr {e1 e2 : Env} (h : e1.scope = e2.scope) (ts : List Expr) (v : Expr) : swappedStores ts v e1 = swappedStores ts v e2 := by
  have h1 : e1.blockKind = e2.blockKind := by unfold Env.blockKind; rw [h]
  have h2 : e1.kindOf = e2.kindOf := by funext x; unfold Env.kindOf; rw [h]
  unfold swappedStores
  rw [h1, h2]
theorem swW_congr {e1 e2 : Env} (h : e1.scope = e2.scope) (v : Expr) (t : Option Expr) (l : Nat) : swapsWith v t l e1 = swapsWith v t l e2 := by
  have h1 : e1.blockKind = e2.blockKind := by unfold Env.blockKind; rw [h]
  have h2 : e1.kindOf = e2.kindOf := by funext x; unfold Env.kindOf; rw [h]
  unfold swapsWith
  rw [h1, h2, h]
def eX (sc : Scope) : Env := PySem.W.envX "" sc 0 0 .none []
section
variable {F : Fx} {X : Cx} {H0 : Hp} {a b : Expr} {p : Pos} {ia ib : MT.E}
theorem Ctx.swW (cx : Ctx F X) {v : Expr} {t : Option Expr} {l : Nat} {r : Bool} (h : swapsWith v t l (eX F.sc) = pure r) : swapsWith v t l X.env = pure r := (swW_congr cx.sc v t l).trans h
theorem Ctx.swS (cx : Ctx F X) {ts : List Expr} {v : Expr} {r : Option (List Str)} (h : swappedStores ts v (eX F.sc) = pure r) : swappedStores ts v X.env = pure r := (swS_congr cx.sc ts v).trans h
theorem t_eqo (cx : Ctx F X) (ok : GOk F.C F.G) (ha : XE F X H0 .bor a ia) (hb : XE F X H0 .frz b ib) (hm : behindInMarks .Eq b = false) : XT F X H0 (.Compare a [.Eq] [b] p) (.eqo false ia ib) := et_ev1 hm (c_eqo cx ok ha hb hm)
theorem t_neo (cx : Ctx F X) (ok : GOk F.C F.G) (ha : XE F X H0 .bor a ia) (hb : XE F X H0 .frz b ib) (hm : behindInMarks .NotEq b = false) : XT F X H0 (.Compare a [.NotEq] [b] p) (.eqo true ia ib) := et_ev1 hm (c_neo cx ok ha hb hm)
/-- what a place where a lambda is made must know -/
def LamCx (C : Cst) (X : Cx) (L : LamI) (l c : Nat) : Prop := ∃ cc PP nm, LamX.TabB X.base X.mg cc PP ∧ X.env.code = .ref cc ∧ (PP, nm) ∈ C.T ∧ (∀ p ∈ C.T, p.1 = PP → p.2 = nm) ∧ X.env.qual ++ "<lambda>" = L.qual ∧ nm l c = L.qual
theorem m_lam' {L : LamI} (h : LamCx F.C X L p.line p.col) (hdef : defaultsOf L.params X.env = ([], [])) (cx : Ctx F X) (hf : (L.scope.names.all fun y => match y.2 with | .free => (match F.sc.names.lookup y.1 with | some .cell => true | some .free => true | _ => false) | _ => true) = true) : XM F X H0 L [.Lambda L.params L.body L.scope p] .nil := by
  obtain ⟨cc, PP, nm, h1, h2, h3, h4, h5, h6⟩ := h
  refine m_lam h1 h2 h3 h5 h6 h4 hdef fun y hy e => ?_
  rw [cx.sc]
  have q := List.all_eq_true.mp hf y hy
  simp only [e] at q
  split at q
  · exact .inl (by assumption)
  · exact .inr (by assumption)
  · cases q
end
end MT

set_option maxRecDepth 100000
set_option maxHeartbeats 1000000
/-! MTzb: a function's name as a value; ways into the text. -/
namespace MT
open PySem PySem.Spec PyProof.Rows L2
theorem c_gfn {F : Fx} {X : Cx} {H0 : Hp} {p : Pos} {i : Nat} {x : Str} (cx : Ctx F X) (hf : GloF F.C i x) (gl : glB F.sc x = true) (h : plainN x = true) : XE F X H0 .frz (.Name x p) (.cst (.fn i [])) := by
  obtain ⟨h0, ad, h1, h2⟩ := hf
  refine ev_glob (v := .ref ad) cx.mg (cx.gl gl) h1 rfl (fun W => ?_) (pl_db h)
  rw [Rep, h0]
  exact ⟨rfl, ad, rfl, h1, h2⟩
def pVal : Stmt → Expr
  | .Return (some e) _ => e
  | .Assign _ e _ => e
  | .Expr e _ => e
  | _ => .Constant .none 0 ⟨0, 0, 0, 0⟩
def pArg : Expr → Nat → Expr
  | .Call _ es _ _, i => es.getD i (.Constant .none 0 ⟨0, 0, 0, 0⟩)
  | e, _ => e
def pLeft : Expr → Expr
  | .Compare a _ _ _ => a
  | e => e
def pLam : Expr → Arguments × Expr × Scope
  | .Lambda a b s _ => (a, b, s)
  | e => (⟨[], [], none, [], [], none, []⟩, e, ⟨.function, [], false, false, []⟩)
def mdOf (l : List Nat) (i : Nat) : Mo := if l.contains i then .own else .frz
def fscB (N P : List Str) (sc : Scope) : Bool :=
  decide (sc.kind = .function) && !sc.isCoroutine && !sc.isGenerator && decide N.Nodup && decide (N.take P.length = P) && P.all (fun x => decide (sc.names.lookup x = some .local) || decide (sc.names.lookup x = some .cell)) && sc.names.all (fun y => !decide (y.2 = .free))
theorem fscope_by {N P : List Str} {sc : Scope} (h : fscB N P sc = true) : FnScope N P sc := by
  unfold fscB at h
  simp only [Bool.and_eq_true, Bool.or_eq_true, List.all_eq_true, decide_eq_true_eq, Bool.not_eq_true', decide_eq_false_iff_not] at h
  obtain ⟨⟨⟨⟨⟨⟨h1, h2⟩, h3⟩, h4⟩, h5⟩, h6⟩, h7⟩ := h
  exact ⟨h1, h2, h3, h4, h5, h6, h7⟩
def frzB (md : Nat → Mo) (l : List Nat) : Bool := l.all fun i => match md i with | .frz => true | _ => false
theorem frz_all {md : Nat → Mo} {l : List Nat} (h : frzB md l = true) : ∀ i ∈ l, md i = .frz := fun i hi => by
  have := List.all_eq_true.mp h i hi
  split at this
  · assumption
  · cases this
end MT

set_option maxRecDepth 100000
set_option maxHeartbeats 1000000
/-! MTzj: methods of texts and dicts. -/
namespace MT
open PySem PySem.Spec PyProof.Rows L2
section
variable {X : Cx} {C : Cst} {md : Nat → Mo} {H0 : Hp} {mo : Mo} {a b c e : Expr} {es : List Expr} {pos : Pos} {ga gb gc : Gv}
theorem allStr_some : ∀ {l : List D} {ws : List (List Nat)}, allStr l = some ws → l = ws.map .str
  | [], ws, h => by cases h; rfl
  | .str s :: l, ws, h => by
    obtain ⟨r, h1, h2⟩ := map_eq (show (allStr l).map (s :: ·) = some ws from h)
    subst h2
    rw [allStr_some h1] <;> rfl
theorem repL_strs {W : Wd} : ∀ {ws : List (List Nat)} {vs : List V}, RepL C W (ws.map .str) vs → vs = (ws.map SX.S).map V.str ∧ ∀ w ∈ ws, Asc w
  | [], vs, h => ⟨by rw [List.map_nil, RepL] at h; exact h, fun _ z => by cases z⟩
  | w :: ws, vs, h => by
    rw [List.map_cons, RepL] at h
    obtain ⟨v, r, rfl, h1, h2⟩ := h
    rw [Rep] at h1
    obtain ⟨rfl, h1⟩ := h1
    obtain ⟨rfl, h3⟩ := repL_strs h2
    refine ⟨rfl, fun x hx => ?_⟩
    rcases List.mem_cons.mp hx with rfl | hx
    · exact h1
    · exact h3 x hx
theorem joinL_mem {s : List Nat} {c : Nat} : ∀ {ws : List (List Nat)}, c ∈ TL.joinL s ws → c ∈ s ∨ ∃ w ∈ ws, c ∈ w
  | [], h => by cases h
  | [p], h => .inr ⟨p, List.mem_cons_self, h⟩
  | p :: q :: r, h => by
    have h : c ∈ p ++ (s ++ TL.joinL s (q :: r)) := h
    rcases List.mem_append.mp h with h | h
    · exact .inr ⟨p, List.mem_cons_self, h⟩
    · rcases List.mem_append.mp h with h | h
      · exact .inl h
      · exact (joinL_mem h).imp id fun ⟨w, hw, h⟩ => ⟨w, List.mem_cons_of_mem _ hw, h⟩
def gMth1 (m : Mth) (ga gb : Gv) : Gv := fun ρ S => bnd (ga ρ S) fun x S => bnd (gb ρ S) fun y S => (mthD m x [y]).map fun z => (z, S)
def gMth2 (m : Mth) (ga gb gc : Gv) : Gv := fun ρ S => bnd (ga ρ S) fun x S => bnd (gb ρ S) fun y S => bnd (gc ρ S) fun z S => (mthD m x [y, z]).map fun r => (r, S)
theorem join_some {x y d : D} (h : mthD .join x [y] = some d) : ∃ s ws, x = .str s ∧ (y = .lst (ws.map .str) ∨ y = .tup (ws.map .str)) ∧ (TL.joinL s ws).length ≤ LIM ∧ (ws.map (·.length)).sum + ws.length * s.length ≤ LIM ∧ d = .str (TL.joinL s ws) := by
  unfold mthD at h
  split at h <;> first | contradiction | skip
  · rename_i e1 e2
    cases e2
    obtain ⟨ws, h1, h2⟩ := Option.bind_eq_some_iff.mp h
    split at h2
    · rename_i hl
      cases h2
      exact ⟨_, ws, rfl, .inl (by rw [allStr_some h1]), hl.1, hl.2, rfl⟩
    · cases h2
  · rename_i e1 e2
    cases e2
    obtain ⟨ws, h1, h2⟩ := Option.bind_eq_some_iff.mp h
    split at h2
    · rename_i hl
      cases h2
      exact ⟨_, ws, rfl, .inr (by rw [allStr_some h1]), hl.1, hl.2, rfl⟩
    · cases h2
theorem ev_join {apos : Pos} (hK : X.K = C.K) (ha : EV X C md H0 .bor a ga) (hb : EV X C md H0 .bor b gb) (hs : isStar b = false) (hsup : isSuper a = false) (hline : (apos.endLine == pos.line) = true) :
    EV X C md H0 .own (.Call (.Attribute a "join" apos) [b] [] pos) (gMth1 .join ga gb) := by
  refine ⟨PE.imp (pe_join ha.pe hb.pe (starEach_ns hs) (attrBase hsup) hline) fun σ H Q ⟨W, ρ, S, d, S', hw, sv, hg, k⟩ => ?_⟩
  obtain ⟨x, S1, h1, hg⟩ := bnd_eq hg
  obtain ⟨y, S2, h2, hg⟩ := bnd_eq hg
  obtain ⟨z, h3, h4⟩ := map_eq hg
  cases h4
  obtain ⟨s, ws, rfl, hy, l1, l2, rfl⟩ := join_some h3
  refine ⟨W, ρ, S, _, S1, hw, sv, h1, fun v H1 W1 e1 w1 p1 => ?_⟩
  obtain ⟨rfl, as⟩ := rb_str p1
  refine ⟨⟨_, rfl⟩, W1, ρ, S1, y, _, w1, sv.ext e1, h2, fun u H2 W2 e2 w2 p2 => ?_⟩
  have fin : ∀ (p : Addr) (xs : List V), u = .ref p → (SqL X.K H2 p xs ∨ SqT X.K H2 p xs) → RepL C W2 (ws.map .str) xs → ∃ a p, ∃ ys : List Str, V.str ⟨s.toArray⟩ = V.str a ∧ [u] = [V.ref p] ∧ (SqL X.K H2 p (ys.map V.str) ∨ SqT X.K H2 p (ys.map V.str)) ∧ (ys.map (·.length)).sum + ys.length * a.length ≤ 16777216 ∧ Q (.str (Txt.join a ys)) H2 := by
    rintro p xs rfl hq r
    obtain ⟨rfl, aw⟩ := repL_strs r
    refine ⟨_, p, ws.map SX.S, rfl, rfl, hq, ?_, ?_⟩
    · rw [List.map_map, List.length_map, str_len]
      have e : (ws.map ((fun x : Str => x.length) ∘ SX.S)) = ws.map (·.length) := List.map_congr_left fun w _ => by simp [SX.S, Str.length]
      rw [e]
      unfold LIM at l2
      omega
    · have e : Txt.join (⟨s.toArray⟩ : Str) (ws.map SX.S) = ⟨(TL.joinL s ws).toArray⟩ := SX.join_S s ws
      rw [e]
      exact keep_post w2 rfl (rep_str ⟨fun c hc => (joinL_mem hc).elim (as.1 c) fun ⟨w, hw, h⟩ => (aw w hw).1 c h, l1⟩) fun v H' W' e w p => k v H' W' ((e1.trans e2).trans e) w (Post.base (e1.trans e2) p)
  rcases hy with rfl | rfl
  · obtain ⟨p, xs, rfl, hq, r⟩ := rb_lst w2 p2
    exact fin p xs rfl (.inl (SqL.of hq)) r
  · obtain ⟨p, xs, rfl, hq, r⟩ := rb_tup w2 p2
    exact fin p xs rfl (.inr (hK ▸ hq)) r
theorem split_some {x y d : D} (h : mthD .split x [y] = some d) : ∃ s b, x = .str s ∧ y = .str b ∧ b ≠ [] ∧ s.length + 2 ≤ LIM ∧ d = .lst ((TL.spl b 0 [] s).map .str) := by
  unfold mthD at h
  split at h <;> first | contradiction | skip
  rename_i e1 e2
  cases e2
  split at h
  · rename_i hl
    cases h
    exact ⟨_, _, rfl, rfl, hl.1, hl.2, rfl⟩
  · cases h
theorem spl_mem {b : List Nat} : ∀ (s : List Nat) (k : Nat) (acc : List Nat) (w : List Nat) (c : Nat), w ∈ TL.spl b k acc s → c ∈ w → c ∈ acc ∨ c ∈ s := by
  intro s
  induction s with
  | nil =>
    intro k acc w c hw hc
    rw [TL.spl] at hw
    simp at hw
    exact .inl (hw ▸ hc)
  | cons x s ih =>
    intro k acc w c hw hc
    cases k with
    | succ k =>
      rw [TL.spl] at hw
      exact (ih _ _ _ _ hw hc).imp id (List.mem_cons_of_mem _)
    | zero =>
      rw [TL.spl] at hw
      split at hw
      · rcases List.mem_cons.mp hw with rfl | hw
        · exact .inl hc
        · exact (ih _ _ _ _ hw hc).elim (fun z => by cases z) fun z => .inr (List.mem_cons_of_mem _ z)
      · rcases ih _ _ _ _ hw hc with z | z
        · rcases List.mem_append.mp z with z | z
          · exact .inl z
          · simp at z
            exact .inr (z ▸ List.mem_cons_self)
        · exact .inr (List.mem_cons_of_mem _ z)
theorem spl_len {b : List Nat} : ∀ (s : List Nat) (k : Nat) (acc : List Nat) (w : List Nat), w ∈ TL.spl b k acc s → w.length ≤ acc.length + s.length := by
  intro s
  induction s with
  | nil =>
    intro k acc w hw
    rw [TL.spl] at hw
    simp at hw
    rw [hw]
    exact Nat.le_add_right _ _
  | cons x s ih =>
    intro k acc w hw
    cases k with
    | succ k =>
      rw [TL.spl] at hw
      have := ih _ _ _ hw
      rw [List.length_cons]
      omega
    | zero =>
      rw [TL.spl] at hw
      split at hw
      · rcases List.mem_cons.mp hw with rfl | hw
        · exact Nat.le_add_right _ _
        · have := ih _ _ _ hw
          rw [List.length_cons]
          rw [List.length_nil] at this
          omega
      · have := ih _ _ _ hw
        rw [List.length_append] at this
        rw [List.length_cons]
        simp only [List.length_cons, List.length_nil] at this
        omega
theorem strs_rep {W : Wd} : ∀ {ws : List (List Nat)}, (∀ w ∈ ws, Asc w) → RepL C W (ws.map .str) ((ws.map SX.S).map V.str)
  | [], _ => .nil
  | w :: ws, h => .cons (rep_str (h w List.mem_cons_self)) (strs_rep fun x hx => h x (List.mem_cons_of_mem _ hx))
theorem ev_split {apos : Pos} (ha : EV X C md H0 .bor a ga) (hb : EV X C md H0 .bor b gb) (hs : isStar b = false) (hsup : isSuper a = false) (hline : (apos.endLine == pos.line) = true) :
    EV X C md H0 .own (.Call (.Attribute a "split" apos) [b] [] pos) (gMth1 .split ga gb) := by
  refine ⟨PE.imp (pe_split ha.pe hb.pe (starEach_ns hs) (attrBase hsup) hline) fun σ H Q ⟨W, ρ, S, d, S', hw, sv, hg, k⟩ => ?_⟩
  obtain ⟨x, S1, h1, hg⟩ := bnd_eq hg
  obtain ⟨y, S2, h2, hg⟩ := bnd_eq hg
  obtain ⟨z, h3, h4⟩ := map_eq hg
  cases h4
  obtain ⟨s, b, rfl, rfl, hb, l1, rfl⟩ := split_some h3
  refine ⟨W, ρ, S, _, S1, hw, sv, h1, fun v H1 W1 e1 w1 p1 => ?_⟩
  obtain ⟨rfl, as⟩ := rb_str p1
  refine ⟨⟨_, rfl⟩, W1, ρ, S1, _, _, w1, sv.ext e1, h2, fun u H2 W2 e2 w2 p2 => ?_⟩
  obtain ⟨rfl, ab⟩ := rb_str p2
  refine ⟨_, _, rfl, rfl, ?_, by rw [str_len]; exact lim_line l1, fun p hp => ?_⟩
  · rw [str_len]
    cases b with
    | nil => exact absurd rfl hb
    | cons _ _ => rfl
  · have e : Txt.split (⟨s.toArray⟩ : Str) ⟨b.toArray⟩ = (TL.spl b 0 [] s).map SX.S := SX.split_S hb (List.all_eq_true.mpr fun c hc => decide_eq_true (Nat.lt_trans (ab.1 c hc) (by decide)))
    rw [e]
    refine new_lst w2 hp (strs_rep fun w hw => ⟨fun c hc => ?_, ?_⟩) fun v H' W' e w p => k v H' W' ((e1.trans e2).trans e) w (Post.base (e1.trans e2) p)
    · exact (spl_mem _ _ _ _ _ hw hc).elim (fun z => by cases z) (as.1 c)
    · have := spl_len _ _ _ _ hw
      rw [List.length_nil] at this
      have := as.2
      omega
end
section
variable {F : Fx} {X : Cx} {H0 : Hp} {a b : Expr} {ia ib : MT.E} {p : Pos}
theorem mth1_eq (m : Mth) (ia ib : MT.E) : evE F.G F.cl (.mth m ia (.cons ib .nil)) = gMth1 m (evE F.G F.cl ia) (evE F.G F.cl ib) := by
  funext ρ S
  rw [evE]
  unfold gMth1
  cases evE F.G F.cl ia ρ S with
  | none => rfl
  | some z =>
    obtain ⟨x, S1⟩ := z
    show bnd (evL F.G F.cl (.cons ib .nil) ρ S1) _ = _
    rw [evL]
    simp only [bnd_some]
    cases evE F.G F.cl ib ρ S1 with
    | none => rfl
    | some z =>
      obtain ⟨y, S2⟩ := z
      simp only [bnd_some]
      rw [evL]
      rfl
theorem c_join {apos : Pos} (cx : Ctx F X) (ha : XE F X H0 .bor a ia) (hb : XE F X H0 .bor b ib) (hs : (!isStar b && (!isSuper a && (apos.endLine == p.line))) = true) : XE F X H0 .own (.Call (.Attribute a "join" apos) [b] [] p) (.mth .join ia (.cons ib .nil)) := by
  simp only [Bool.and_eq_true, Bool.not_eq_true'] at hs
  show EV X F.C F.md H0 .own _ _
  rw [mth1_eq]
  exact ev_join cx.K ha hb hs.1 hs.2.1 hs.2.2
theorem c_split {apos : Pos} (cx : Ctx F X) (ha : XE F X H0 .bor a ia) (hb : XE F X H0 .bor b ib) (hs : (!isStar b && (!isSuper a && (apos.endLine == p.line))) = true) : XE F X H0 .own (.Call (.Attribute a "split" apos) [b] [] p) (.mth .split ia (.cons ib .nil)) := by
  simp only [Bool.and_eq_true, Bool.not_eq_true'] at hs
  show EV X F.C F.md H0 .own _ _
  rw [mth1_eq]
  exact ev_split ha hb hs.1 hs.2.1 hs.2.2
end
end MT

set_option maxRecDepth 100000
set_option maxHeartbeats 1000000
/-! MTzk: lists and dicts made changing objects; get. -/
namespace MT
open PySem PySem.Spec PyProof.Rows L2
section
variable {X : Cx} {C : Cst} {md : Nat → Mo} {H0 : Hp} {mo : Mo} {a b c e o : Expr} {es : List Expr} {pos : Pos} {ga gb gc go : Gv} {W0 : Wd}
/-- an object that was made by an expression, from now on a changing one -/
theorem box_obj {W W1 : Wd} {S1 : Store} {H H1 : Hp} {p : Addr} {o : HO} {ob : Ob} (e1 : MT.Ext W H W1 H1) (w : SW C W1 S1 H1) (h0 : H p = none) (h1 : H1 p = some o) (nm : p ∉ W1.m) (nf : W1.F p = none) (r : RepO C W1 ob o) :
    MT.Ext W H ⟨W1.F, W1.m ++ [p]⟩ H1 ∧ SW C ⟨W1.F, W1.m ++ [p]⟩ (S1 ++ [ob]) H1 ∧ Rep C ⟨W1.F, W1.m ++ [p]⟩ (.obj S1.length) (.ref p) := by
  have le : WLe W1 ⟨W1.F, W1.m ++ [p]⟩ := ⟨.refl _, fun n x e => by rw [List.getElem?_append_left (List.getElem?_eq_some_iff.mp e).1]; exact e⟩
  have at_ : (W1.m ++ [p])[S1.length]? = some p := by rw [← w.len]; simp
  refine ⟨⟨e1.w.trans le, e1.keep, e1.dom, fun x hx => ?_, e1.fnew⟩, ⟨fun b u q => ?_, w.tabs, w.codes, ?_, by simp [w.len], fun n u q => ?_⟩, by rw [Rep]; exact ⟨p, rfl, at_⟩⟩
  · rcases List.mem_append.mp hx with z | z
    · exact e1.mnew x z
    · rw [List.mem_singleton.mp z]; exact .inr h0
  · obtain ⟨q1, q2, q3⟩ := w.sub b u q
    refine ⟨q1, fun z => ?_, q3⟩
    rcases List.mem_append.mp z with z | z
    · exact q2 z
    · rw [List.mem_singleton.mp z, nf] at q
      cases q
  · refine List.nodup_append.mpr ⟨w.nd, by simp, fun x hx y hy => ?_⟩
    rw [List.mem_singleton.mp hy]
    rintro rfl
    exact nm hx
  · by_cases hn : n < S1.length
    · rw [List.getElem?_append_left hn] at q
      obtain ⟨x, y, h1, h2, h3⟩ := w.st n u q
      exact ⟨x, y, le.m n x h1, h2, RepO.mono le h3⟩
    · have hn2 : n = S1.length := by
        have := (List.getElem?_eq_some_iff.mp q).1
        simp at this
        omega
      subst hn2
      rw [List.getElem?_append_right (Nat.le_refl _)] at q
      simp at q
      subst q
      exact ⟨p, o, at_, h1, RepO.mono le r⟩
def gBox (ga : Gv) : Gv := fun ρ S => bnd (ga ρ S) fun x S => boxS x S
theorem boxS_some {x d : D} {S S' : Store} (h : boxS x S = some (d, S')) : ∃ ob, dOb x = some ob ∧ d = .obj S.length ∧ S' = S ++ [ob] := by
  unfold boxS at h
  split at h
  · cases h; exact ⟨_, rfl, rfl, rfl⟩
  · cases h; exact ⟨_, rfl, rfl, rfl⟩
  · cases h
theorem ev_box (ha : EV X C md H0 .own a ga) : EV X C md H0 .frz a (gBox ga) := by
  refine ⟨PE.imp ha.pe fun σ H Q ⟨W, ρ, S, d, S', hw, hv, hg, k⟩ => ?_⟩
  obtain ⟨x, S1, h1, hg⟩ := bnd_eq hg
  obtain ⟨ob, h2, rfl, rfl⟩ := boxS_some hg
  refine ⟨W, ρ, S, x, S1, hw, hv, h1, fun v H1 W1 e1 w1 p1 => ?_⟩
  rcases p1 with ⟨p, o, rfl, q1, q2, q3, q4, q5⟩ | ⟨z, _⟩
  · obtain ⟨x1, x2, x3⟩ := box_obj (ob := ob) e1 w1 q1 q2 q4 q5 ((repO_to h2).mpr q3)
    exact k _ _ _ x1 x2 x3
  · exfalso
    cases x <;> first | (cases h2; done) | (cases z; done)
/-! ### pop -/
def gPop (ga : Gv) : Gv := fun ρ S => bnd (ga ρ S) fun x S => popS x S
theorem popS_some {x d : D} {S S' : Store} (h : popS x S = some (d, S')) : ∃ n l, x = .obj n ∧ S[n]? = some (.lst l) ∧ l.getLast? = some d ∧ S' = S.set n (.lst l.dropLast) := by
  unfold popS at h
  split at h
  · rename_i n
    split at h
    · rename_i l hS
      obtain ⟨y, h1, h2⟩ := map_eq h
      cases h2
      exact ⟨n, l, rfl, hS, h1, rfl⟩
    · cases h
  · cases h
theorem rl_dropLast {W : Wd} {l : List D} {xs : List V} (r : RepL C W l xs) : RepL C W l.dropLast xs.dropLast := by
  rw [List.dropLast_eq_take, List.dropLast_eq_take, ← r.length]
  exact r.take _
theorem code_lst {xs : List V} : ∀ c q, HO.lst xs ≠ LamX.CodeO c q := by intro c q z; unfold LamX.CodeO at z; cases z
theorem ev_pop {apos : Pos} (hK : X.K = C.K) (ha : EV X C md H0 .bor a ga) (hsup : isSuper a = false) (hline : (apos.endLine == pos.line) = true) : EV X C md H0 .frz (.Call (.Attribute a "pop" apos) [] [] pos) (gPop ga) := by
  have hpe := pe_bm0 (cpos := pos) (apos := apos) PySem.F.plainAttrs_list PySem.F.slot_list_pop PySem.F.type_list_pop mt_pop ha.pe (attrBase hsup) hline
  refine ⟨PE.imp hpe fun σ H Q ⟨W, ρ, S, d, S', hw, hv, hg, k⟩ => ?_⟩
  obtain ⟨x, S1, h1, hg⟩ := bnd_eq hg
  obtain ⟨n, l, rfl, hS, hl, rfl⟩ := popS_some hg
  refine ⟨W, ρ, S, _, S1, hw, hv, h1, fun v H1 W1 e1 w1 p1 => ?_⟩
  obtain ⟨ad, rfl, hm⟩ := rb_obj p1
  obtain ⟨a', u, q1, q2, q3⟩ := w1.st n _ hS
  rw [hm] at q1
  cases q1
  obtain ⟨xs, rfl, r⟩ := q3
  have hl' : l[l.length - 1]? = some d := by rw [← List.getLast?_eq_getElem?]; exact hl
  obtain ⟨y, hy, ry⟩ := r.get hl'
  rw [r.length] at hy
  refine ⟨.inl ⟨rfl, xs, SqL.of q2⟩, ad, xs, y, rfl, rfl, q2, hy, ?_⟩
  obtain ⟨z1, z2⟩ := set_obj (ob' := .lst l.dropLast) (o' := .lst xs.dropLast) w1 hS hm q2 (fun _ z => by cases z) code_lst ⟨_, rfl, rl_dropLast r⟩ code_lst
  exact k _ _ W1 (e1.trans z2) z1 ry
/-! ### x == [], x != [] -/
def gEmp (ng : Bool) (ga : Gv) : Gv := fun ρ S => bnd (ga ρ S) fun x S => empS ng x S
theorem empS_some {ng : Bool} {x d : D} {S S' : Store} (h : empS ng x S = some (d, S')) : ∃ l, deref S x = .lst l ∧ D.flats l = true ∧ d = .bl (ng ^^ l.isEmpty) ∧ S' = S := by
  unfold empS at h
  split at h
  · rename_i l hl
    split at h
    · rename_i hf
      cases h
      exact ⟨l, hl, hf, rfl, rfl⟩
    · cases h
  · cases h
theorem eqvs_nil (l : List PyData) : PyData.eqv (.list l) (.list []) = l.isEmpty := by
  cases l with
  | nil => rfl
  | cons x l => rfl
theorem deref_obj {S1 S2 : Store} : True := trivial
theorem ev_emp {ng : Bool} {bp : Pos} (hK : X.K = C.K) (hu : X.A.units + 65 < cLine) (ha : EV X C md H0 .bor a ga) (hm : behindInMarks (if ng then .NotEq else .Eq) (.List [] bp) = false) :
    EV X C md H0 .frz (.Compare a [if ng then .NotEq else .Eq] [.List [] bp] pos) (gEmp ng ga) := by
  have op : OpR X (compareOp (if ng then .NotEq else .Eq)) (rEqM X.K ng) := by
    cases ng
    · exact op_eqM hu
    · exact op_neM hu
  refine ⟨PE.imp (pe_cmpR op ha.pe (pe_lst pa_nil) hm) fun σ H Q ⟨W, ρ, S, d, S', hw, hv, hg, k⟩ => ?_⟩
  obtain ⟨x, S1, h1, hg⟩ := bnd_eq hg
  obtain ⟨l, hl, hf, rfl, rfl⟩ := empS_some hg
  refine ⟨W, ρ, S, x, _, hw, hv, h1, fun v H1 W1 e1 w1 p1 => ⟨Nat.zero_le _, fun p hp => ?_⟩⟩
  refine new_lst (l := []) (Q := fun y H2 => rEqM X.K ng v y H2 Q) w1 hp .nil fun u H2 W2 e2 w2 r2 => ?_
  obtain ⟨ad, xs, rfl, q, r⟩ := rd_lst w2 (RepB.ext p1 e2) hl
  rcases r2 with ⟨p', o', rfl, _, q2, q3, _, _⟩ | ⟨z, _⟩
  · obtain ⟨ys, rfl, r3⟩ := q3
    rw [RepL] at r3
    subst r3
    have D1 : Dp C.K H2 (.ref ad) (.list (pds l)) := .lst (SqL.of q) (dps_of w2 l xs hf r)
    have D2 : Dp C.K H2 (.ref p') (.list []) := .lst (SqL.of q2) .nil
    refine ⟨.list (pds l), .list [], hK ▸ D1, hK ▸ D2, ?_, rfl, ?_, ?_⟩
    · exact lays_of l xs hf r
    · exact Nat.le_trans (Nat.min_le_right _ _) (by decide)
    · rw [eqvs_nil]
      have : (pds l).isEmpty = l.isEmpty := by cases l <;> rfl
      rw [this]
      exact k _ H2 W2 (e1.trans e2) w2 (rep_bl (C := C) (W := W2) _)
  · cases z
/-! ### d.get(k, x) -/
def gGet (ga gb gc : Gv) : Gv := fun ρ S => bnd (ga ρ S) fun x S => if isDct (deref S x) then bnd (gb ρ S) fun y S => bnd (gc ρ S) fun z S => getS x y z S else none
theorem getS_some {x y z d : D} {S S' : Store} (h : getS x y z S = some (d, S')) : ∃ ps, deref S x = .dct ps ∧ isKey y = true ∧ d = (dGet y ps).getD z ∧ S' = S := by
  unfold getS at h
  split at h
  · rename_i ps hp
    split at h
    · rename_i hk
      cases h
      exact ⟨ps, hp, hk, rfl, rfl⟩
    · cases h
  · cases h
theorem isDct_some {d : D} (h : isDct d = true) : ∃ ps, d = .dct ps := by
  cases d <;> first | exact ⟨_, rfl⟩ | cases h
theorem ev_get {apos : Pos} (hu : X.A.units + 1 < cLine) (ha : EV X C md H0 .bor a ga) (hb : EV X C md H0 .bor b gb) (hc : EV X C md H0 .frz c gc) (m : M2 X a "get" apos b c pos) :
    EV X C md H0 .frz (.Call (.Attribute a "get" apos) [b, c] [] pos) (gGet ga gb gc) := by
  refine ⟨PE.imp (pe_dget2 hu ha.pe hb.pe hc.pe m) fun σ H Q ⟨W, ρ, S, d, S', hw, hv, hg, k⟩ => ?_⟩
  obtain ⟨x, S1, h1, hg⟩ := bnd_eq hg
  split at hg
  rotate_left
  · cases hg
  rename_i hd
  obtain ⟨ps0, hd⟩ := isDct_some hd
  obtain ⟨y, S2, h2, hg⟩ := bnd_eq hg
  obtain ⟨z, S3, h3, hg⟩ := bnd_eq hg
  obtain ⟨ps, hp, hk, rfl, rfl⟩ := getS_some hg
  refine ⟨W, ρ, S, x, S1, hw, hv, h1, fun v H1 W1 e1 w1 p1 => ?_⟩
  obtain ⟨ad, kvs, rfl, q, _⟩ := rd_dct w1 p1 hd
  refine ⟨ad, rfl, .inl ⟨kvs, .inl q⟩, W1, ρ, S1, y, S2, w1, hv.ext e1, h2, fun u H2 W2 e2 w2 p2 => ⟨W2, ρ, S2, z, _, w2, (hv.ext e1).ext e2, h3, fun t H3 W3 e3 w3 p3 => ?_⟩⟩
  obtain ⟨ad', kvs', e, q', r'⟩ := rd_dct w3 (RepB.ext p1 (e2.trans e3)) hp
  cases e
  obtain ⟨k', hk', rfl⟩ := rb_key hk (RepB.ext p2 e3)
  have g := repP_get r' hk'
  refine ⟨_, DGet.k q', ?_⟩
  have e13 := (e1.trans e2).trans e3
  cases hg : dGet y ps with
  | none =>
    rw [g.2 hg]
    rw [hg] at k
    exact k _ H3 W3 e13 w3 p3
  | some dd =>
    obtain ⟨v, h4, h5⟩ := g.1 dd hg
    rw [h4]
    rw [hg] at k
    exact k _ H3 W3 e13 w3 h5
/-! ### o.append(e), o.extend(e) -/
def mAppo (go ga : Gv) : Mn := fun ρ S => bnd (go ρ S) fun a S => if isLst (deref S a) then bnd (ga ρ S) fun x S => (appS a x S).map fun S => (.nx, ρ, S) else none
def mExto (go ga : Gv) : Mn := fun ρ S => bnd (go ρ S) fun a S => if isLst (deref S a) then bnd (ga ρ S) fun x S => (extS a x S).map fun S => (.nx, ρ, S) else none
theorem isLst_some {d : D} (h : isLst d = true) : ∃ l, d = .lst l := by
  cases d <;> first | exact ⟨_, rfl⟩ | cases h
theorem appS_some {a x : D} {S S' : Store} (h : appS a x S = some S') : ∃ n l, a = .obj n ∧ S[n]? = some (.lst l) ∧ l.length < LIM ∧ S' = S.set n (.lst (l ++ [x])) := by
  unfold appS at h
  split at h
  · rename_i n
    split at h
    · rename_i l hS
      split at h
      · rename_i hl
        cases h
        exact ⟨n, l, rfl, hS, hl, rfl⟩
      · cases h
    · cases h
  · cases h
theorem extS_some {a x : D} {S S' : Store} (h : extS a x S = some S') : ∃ n l m, a = .obj n ∧ x = .lst m ∧ S[n]? = some (.lst l) ∧ l.length + m.length ≤ LIM ∧ S' = S.set n (.lst (l ++ m)) := by
  unfold extS at h
  split at h
  · rename_i n m
    split at h
    · rename_i l hS
      split at h
      · rename_i hl
        cases h
        exact ⟨n, l, m, rfl, rfl, hS, hl, rfl⟩
      · cases h
    · cases h
  · cases h
theorem s_appo {apos cpos : Pos} (hK : X.K = C.K) (ho : EV X C md H0 .bor o go) (ha : EV X C md H0 .frz a ga) (hsup : isSuper o = false) (hs : isStar a = false)
    (hline : (apos.endLine == cpos.line) = true) (hsw : swapsWith (.Call (.Attribute o "append" apos) [a] [] cpos) none pos.line X.env = pure false) :
    ES X C md W0 H0 (.Expr (.Call (.Attribute o "append" apos) [a] [] cpos) pos) (mAppo go ga) := by
  have row : PA X [a] (tCons (TI C md H0 .frz ga) tNil) := pa_cons ha.pe pa_nil (starEach_ns hs)
  have hpe := pe_bm (cpos := cpos) (apos := apos) PySem.F.plainAttrs_list PySem.F.slot_list_append PySem.F.type_list_append mt_append ho.pe row (attrBase hsup) (fold_few (by simp [fewOk, noStar, hs])) hline (starEach_ns hs) rfl
  refine ⟨PS.imp (ps_expr hpe hsw) fun D σ H ⟨W, ρ, S, r, hw, sv, he, hm', k⟩ => ?_⟩
  obtain ⟨x1, S1, g1, g2⟩ := bnd_eq hm'
  split at g2
  rotate_left
  · cases g2
  rename_i hd
  obtain ⟨l0, hd⟩ := isLst_some hd
  obtain ⟨y1, S2, g3, g4⟩ := bnd_eq g2
  obtain ⟨S3, g5, g6⟩ := map_eq g4
  cases g6
  obtain ⟨n, l, rfl, hS, hl, rfl⟩ := appS_some g5
  refine ⟨W, ρ, S, _, S1, hw, sv, g1, fun v H1 W1 e1 w1 p1 => ?_⟩
  obtain ⟨ad, rfl, hm⟩ := rb_obj p1
  obtain ⟨ad', xs0, e, q2, _⟩ := rd_lst w1 p1 hd
  cases e
  refine ⟨.inl ⟨rfl, xs0, SqL.of q2⟩, W1, ρ, S1, y1, S2, w1, sv.ext e1, g3, fun u H2 W2 e2 w2 p2 => ?_⟩
  obtain ⟨a', o', q4, q5, q6⟩ := w2.st n _ hS
  rw [e2.w.m n _ hm] at q4
  cases q4
  obtain ⟨xs, rfl, r⟩ := q6
  obtain ⟨z1, z2⟩ := set_obj (ob' := .lst (l ++ [y1])) (o' := .lst (xs ++ [u])) w2 hS (e2.w.m n _ hm) q5 (fun _ z => by cases z) code_lst ⟨_, rfl, r.append (.cons p2 .nil)⟩ code_lst
  exact ⟨ad, xs, u, rfl, rfl, q5, by rw [← r.length]; exact lt_line hl, k σ _ W2 (e1.w.trans e2.w) z1 (((sv.ext e1).ext e2).ext z2) (((he.trans e1).trans e2).trans z2)⟩
theorem s_exto {apos cpos : Pos} (hK : X.K = C.K) (ho : EV X C md H0 .bor o go) (ha : EV X C md H0 .bor a ga) (hsup : isSuper o = false) (hs : isStar a = false)
    (hline : (apos.endLine == cpos.line) = true) (hsw : swapsWith (.Call (.Attribute o "extend" apos) [a] [] cpos) none pos.line X.env = pure false) :
    ES X C md W0 H0 (.Expr (.Call (.Attribute o "extend" apos) [a] [] cpos) pos) (mExto go ga) := by
  have row : PA X [a] (tCons (TI C md H0 .bor ga) tNil) := pa_cons ha.pe pa_nil (starEach_ns hs)
  have hpe := pe_bm (cpos := cpos) (apos := apos) PySem.F.plainAttrs_list PySem.F.slot_list_extend PySem.F.type_list_extend mt_extend ho.pe row (attrBase hsup) (fold_few (by simp [fewOk, noStar, hs])) hline (starEach_ns hs) rfl
  refine ⟨PS.imp (ps_expr hpe hsw) fun D σ H ⟨W, ρ, S, r, hw, sv, he, hm', k⟩ => ?_⟩
  obtain ⟨x1, S1, g1, g2⟩ := bnd_eq hm'
  split at g2
  rotate_left
  · cases g2
  rename_i hd
  obtain ⟨l0, hd⟩ := isLst_some hd
  obtain ⟨y1, S2, g3, g4⟩ := bnd_eq g2
  obtain ⟨S3, g5, g6⟩ := map_eq g4
  cases g6
  obtain ⟨n, l, m, rfl, rfl, hS, hl, rfl⟩ := extS_some g5
  refine ⟨W, ρ, S, _, S1, hw, sv, g1, fun v H1 W1 e1 w1 p1 => ?_⟩
  obtain ⟨ad, rfl, hm⟩ := rb_obj p1
  obtain ⟨ad', xs0, e, q2, _⟩ := rd_lst w1 p1 hd
  cases e
  refine ⟨.inl ⟨rfl, xs0, SqL.of q2⟩, W1, ρ, S1, _, S2, w1, sv.ext e1, g3, fun u H2 W2 e2 w2 p2 => ?_⟩
  obtain ⟨a', o', q4, q5, q6⟩ := w2.st n _ hS
  rw [e2.w.m n _ hm] at q4
  cases q4
  obtain ⟨xs, rfl, r⟩ := q6
  obtain ⟨b, zs, rfl, hb, rz⟩ := rb_lst w2 p2
  obtain ⟨z1, z2⟩ := set_obj (ob' := .lst (l ++ m)) (o' := .lst (xs ++ zs)) w2 hS (e2.w.m n _ hm) q5 (fun _ z => by cases z) code_lst ⟨_, rfl, r.append rz⟩ code_lst
  exact ⟨ad, b, xs, zs, rfl, rfl, q5, hb, by rw [← r.length, ← rz.length]; exact lim_line hl, k σ _ W2 (e1.w.trans e2.w) z1 (((sv.ext e1).ext e2).ext z2) (((he.trans e1).trans e2).trans z2)⟩
end
section
variable {F : Fx} {X : Cx} {H0 : Hp} {W0 : Wd} {a b c o : Expr} {ia ib ic io : MT.E} {p : Pos}
theorem c_box (ha : XE F X H0 .own a ia) : XE F X H0 .frz a (.box ia) := ev_box ha
theorem c_popo {apos : Pos} (cx : Ctx F X) (ha : XE F X H0 .bor a ia) (hs : (!isSuper a && (apos.endLine == p.line)) = true) : XE F X H0 .frz (.Call (.Attribute a "pop" apos) [] [] p) (.popo ia) := by
  simp only [Bool.and_eq_true, Bool.not_eq_true'] at hs
  exact ev_pop cx.K ha hs.1 hs.2
theorem c_emp {bp : Pos} (cx : Ctx F X) (ha : XE F X H0 .bor a ia) (hm : behindInMarks .Eq (.List [] bp) = false) : XE F X H0 .frz (.Compare a [.Eq] [.List [] bp] p) (.emp false ia) := ev_emp (ng := false) cx.K cx.hu ha hm
theorem c_nemp {bp : Pos} (cx : Ctx F X) (ha : XE F X H0 .bor a ia) (hm : behindInMarks .NotEq (.List [] bp) = false) : XE F X H0 .frz (.Compare a [.NotEq] [.List [] bp] p) (.emp true ia) := ev_emp (ng := true) cx.K cx.hu ha hm
theorem t_emp {bp : Pos} (cx : Ctx F X) (ha : XE F X H0 .bor a ia) (hm : behindInMarks .Eq (.List [] bp) = false) : XT F X H0 (.Compare a [.Eq] [.List [] bp] p) (.emp false ia) := et_ev1 hm (c_emp cx ha hm)
theorem t_nemp {bp : Pos} (cx : Ctx F X) (ha : XE F X H0 .bor a ia) (hm : behindInMarks .NotEq (.List [] bp) = false) : XT F X H0 (.Compare a [.NotEq] [.List [] bp] p) (.emp true ia) := et_ev1 hm (c_nemp cx ha hm)
def getB (a b c : Expr) (apos p : Pos) : Bool := !isStar b && (!isStar c && (!isSuper a && (apos.endLine == p.line)))
theorem m2_of {X : Cx} {a b c : Expr} {apos p : Pos} {m : Str} (h : getB a b c apos p = true) : M2 X a m apos b c p := by
  unfold getB at h
  simp only [Bool.and_eq_true, Bool.not_eq_true'] at h
  obtain ⟨h1, h2, h3, h4⟩ := h
  have e : starEach [b, c] X.env = [(false, eval b X.env), (false, eval c X.env)] := by rw [starEach_ns h1, starEach_ns h2]; rfl
  refine ⟨attrBase h3, ?_, h4, ?_⟩
  · rw [e]; rfl
  · rw [e]; rfl
theorem c_getd {apos : Pos} (cx : Ctx F X) (ha : XE F X H0 .bor a ia) (hb : XE F X H0 .bor b ib) (hc : XE F X H0 .frz c ic) (hs : getB a b c apos p = true) : XE F X H0 .frz (.Call (.Attribute a "get" apos) [b, c] [] p) (.getd ia ib ic) := ev_get cx.hu1 ha hb hc (m2_of hs)
theorem z_appo {apos p2 : Pos} (cx : Ctx F X) (ho : XE F X H0 .bor o io) (ha : XE F X H0 .frz a ia) (hs : (!isSuper o && (!isStar a && (apos.endLine == p2.line))) = true) (hsw : swapsWith (.Call (.Attribute o "append" apos) [a] [] p2) none p.line X.env = pure false) :
    XS F X W0 H0 (.Expr (.Call (.Attribute o "append" apos) [a] [] p2) p) (.appo io ia) := by
  simp only [Bool.and_eq_true, Bool.not_eq_true'] at hs
  exact s_appo cx.K ho ha hs.1 hs.2.1 hs.2.2 hsw
theorem z_exto {apos p2 : Pos} (cx : Ctx F X) (ho : XE F X H0 .bor o io) (ha : XE F X H0 .bor a ia) (hs : (!isSuper o && (!isStar a && (apos.endLine == p2.line))) = true) (hsw : swapsWith (.Call (.Attribute o "extend" apos) [a] [] p2) none p.line X.env = pure false) :
    XS F X W0 H0 (.Expr (.Call (.Attribute o "extend" apos) [a] [] p2) p) (.exto io ia) := by
  simp only [Bool.and_eq_true, Bool.not_eq_true'] at hs
  exact s_exto cx.K ho ha hs.1 hs.2.1 hs.2.2 hsw
end
end MT

set_option maxRecDepth 100000
set_option maxHeartbeats 4000000
/-! MTzc: all functions keep their promises, level by level. -/
namespace MT
open PySem PySem.Spec PyProof.Rows L2
section
variable {C : Cst} {base : Heap} {k : Nat} {md : Nat → Mo}
theorem runs_fnD {x qual : Str} {params : Arguments} {body : List Stmt} {scope : Scope} {f : Addr} {fd : FuncData} {N ps : List Str} {m : Mn} {g : List D → Store → Option (D × Store)} (F : FunD C.K x qual params body scope [] [] f fd) (S : FnScope N ps scope)
    (hg : ∀ ds S z, g ds S = some z → ds.length = ps.length ∧ ∃ fl ρ' S', m (ds.map some ++ List.replicate (N.length - ps.length) none) S = some (fl, ρ', S') ∧ ((∃ d, fl = .ret d ∧ z = (d, S')) ∨ (fl = .nx ∧ z = (.non, S'))))
    (hm : ∀ i < ps.length, md i = .frz)
    (hb : ∀ (A : Around) (outer : List Env) (s : Shared) (H : Hp) (E : L2.XK) (W0 : Wd), Room k (A.deeper (envOfC qual scope s.heap.objs.size f fd.code)) → ESs (cxOf C8.CX0 C.P C.w C.K C.mg base N qual scope f fd.code A outer s H E).nox C md W0 H body m) :
    FnOk C.P C.w C.K C.mg base C8.CX0 (k + 1) f fd ps (spD C g) := by
  obtain ⟨oc, od, dV, kV, doc, pm, an, cdv, ct, osl, rfl, lk, hcd, _, _⟩ := F.ex
  refine fn_of lk hcd S (fun vs H Q E ⟨W, S, ds, d, S', sw, r, hg', _⟩ => ?_) fun A outer s H vs Q E hr ⟨W, S0, ds, d, S', sw, r, hg', q⟩ => ?_
  · rw [← r.length]
    exact (hg _ _ _ hg').1
  · obtain ⟨hl, fl, ρ', S1, h1, h2⟩ := hg _ _ _ hg'
    refine ⟨_, (hb A outer s H E W hr).ps.nox, W, _, S0, (fl, ρ', S1), sw, ?_, .refl _ _, h1, ?_⟩
    · have := SV.start (md := md) (H := H) (H0 := H) r (N.length - ps.length) (by rw [hl]; exact hm)
      unfold L2.start
      rw [← r.length, hl]
      exact this
    · rcases h2 with ⟨d', rfl, e⟩ | ⟨rfl, e⟩
      · cases e
        exact fun v H' W' _ w e p => q v H' W' e w p
      · cases e
        exact fun σ' H' W' _ w _ e => q .non H' W' e w rep_non
theorem env0_in {P : Program} {w : World} {K : PySem.W.Frag} {mg : Str → Option Value} {A : Around} {outer : List Env} {s : Shared} {H : Hp} (e0 : Env0 P w K mg base A outer s H) : K.In s.heap := e0.mod.kin.keeps fun b o e => (e0.bs b o e).1
theorem runs_of {P : Program} {w : World} {K : PySem.W.Frag} {mg : Str → Option Value} {f : Addr} {fd : FuncData} {ps : List Str} {sp : Sp} (F : FnOk P w K mg base C8.CX0 k f fd ps sp) (b : Binds K fd ps []) : Runs P w K mg base k (.ref f) sp := by
  intro A outer s H us vs Q E hr e0 r h
  have hl : us.length = ps.length := by rw [← r.length]; exact F.len _ _ _ _ h
  have := b s us (env0_in e0) (by rw [List.append_nil]; exact hl)
  rw [List.append_nil] at this
  exact F.run A outer s H ⟨us, []⟩ us vs Q E hr e0 this r h
/-- by keywords -/
def KBn (K : PySem.W.Frag) (fd : FuncData) (ps : List Str) (n : Nat) (ks : List Str) (p : List Nat) : Prop :=
  ∀ (s : Shared) (us ws xs : List Value), us.length = n → ws.length = ks.length → permD (us ++ ws) p = some xs → BindsTo s fd ⟨us, ks.zip ws⟩ (ps.zip xs)
theorem kbn_of {K : PySem.W.Frag} {x qual : Str} {params : Arguments} {body : List Stmt} {scope : Scope} {kws : List (Str × V)} {f : Addr} {fd : FuncData} {ps ks : List Str} {n : Nat} {p : List Nat} (F : FunD K x qual params body scope [] kws f fd)
    (h : ∀ (kV doc pm : Value) (an : Option Addr) (cdv ct : Value) (us ws xs : List Value), us.length = n → ws.length = ks.length → permD (us ++ ws) p = some xs → bindArgs (PySem.W.fnOf x qual params body scope .none kV doc pm an cdv ct) ⟨us, ks.zip ws⟩ = pure (ps.zip xs)) : KBn K fd ps n ks p := by
  obtain ⟨oc, od, dV, kV, doc, pm, an, cdv, ct, osl, rfl, lk, hcd, hD, hK⟩ := F.ex
  rcases hD with ⟨_, rfl⟩ | ⟨e, _⟩
  · exact fun s us ws xs h1 h2 h3 => .of_eq (h kV doc pm an cdv ct us ws xs h1 h2 h3)
  · exact absurd rfl e
theorem permD_vals : ∀ {p : List Nat} {vs xs : List V} {us : List Value}, Vals vs us → permD vs p = some xs → ∃ ys, permD us p = some ys ∧ Vals xs ys
  | [], _, _, _, _, h => by
    cases h
    exact ⟨[], rfl, .nil⟩
  | i :: is, vs, xs, us, r, h => by
    unfold permD at h
    split at h
    · rename_i d rr h1 h2
      cases h
      obtain ⟨u, q1, q2⟩ := r.get h1
      obtain ⟨ys, q3, q4⟩ := permD_vals r h2
      refine ⟨u :: ys, ?_, .cons q2 q4⟩
      unfold permD
      rw [q1, q3]
    · cases h
theorem runsK_of {P : Program} {w : World} {K : PySem.W.Frag} {mg : Str → Option Value} {f : Addr} {fd : FuncData} {ps ks : List Str} {n : Nat} {p : List Nat} {sp : Sp} (F : FnOk P w K mg base C8.CX0 k f fd ps sp) (b : KBn K fd ps n ks p) : RunsK P w K mg base k (.ref f) n ks p sp := by
  intro A outer s H us ws vs zs xs Q E hr e0 r rz hn hz hp h
  obtain ⟨ys, h1, h2⟩ := permD_vals (r.append rz) hp
  exact F.run A outer s H ⟨us, ks.zip ws⟩ ys xs Q E hr e0 (b s us ws ys (by rw [← r.length]; exact hn) (by rw [← rz.length]; exact hz) h1) h2 h
variable {G : Prg} {fns : List FnD} {fu : Nat}
/-- what is to be shown of each function, one level up -/
structure AllFns (C : Cst) (G : Prg) (fns : List FnD) (fu : Nat) (base : Heap) : Prop where
  dir : ∀ (i : Nat) (a : Addr) (fd : FnD) (k : Nat) (cl : Call), fnAddr C i = some a → fns[i]? = some fd → FnsOk C.P C.w C.K C.mg base C k cl → Runs C.P C.w C.K C.mg base (k + 2) (.ref a) (spD C fun ds S => runF G cl fu fd [] ds S)
  kw : ∀ (i : Nat) (a : Addr) (fd : FnD) (n : Nat) (ks : List Str) (p : List Nat) (k : Nat) (cl : Call), fnAddr C i = some a → fns[i]? = some fd → (i, n, ks, p) ∈ C.kwl → FnsOk C.P C.w C.K C.mg base C k cl → RunsK C.P C.w C.K C.mg base (k + 2) (.ref a) n ks p (spD C fun ds S => runF G cl fu fd [] ds S)
  lam : ∀ (i : Nat) (L : LamI) (fd : FnD) (k : Nat) (cl : Call), C.fk[i]? = some (.lam L) → fns[i]? = some fd → FnsOk C.P C.w C.K C.mg base C k cl → ∀ (cl' : Call) (cs : List D) (x : V) (u : Value), (∀ ds S, cl' i cs ds S = runF G cl fu fd cs ds S) → RelV x u → Runs C.P C.w C.K C.mg base (k + 2) u (spV C cl' i cs x)
theorem fnsOk_all (h : AllFns C G fns fu base) : ∀ n, FnsOk C.P C.w C.K C.mg base C (2 * n) (callG G fns fu n)
  | 0 => ⟨fun i a e => fun A outer s H us vs Q E hr e0 r ⟨W, S, ds, d, S', _, _, hg, _⟩ => (nomatch hg), fun i a n ks p e hk => fun A outer s H us ws vs zs xs Q E hr e0 r rz hn hz hp ⟨W, S, ds, d, S', _, _, hg, _⟩ => (nomatch hg),
      fun i cs x u r => fun A outer s H us vs Q E hr e0 r ⟨W, S, ds, d, S', _, _, _, hg, _⟩ => (nomatch hg)⟩
  | n + 1 => by
    have ih := fnsOk_all h n
    have dir : ∀ i a, fnAddr C i = some a → Runs C.P C.w C.K C.mg base (2 * (n + 1)) (.ref a) (spD C (callG G fns fu (n + 1) i [])) := fun i a e => by
      cases q : fns[i]? with
      | none =>
        intro A outer s H us vs Q E hr e0 r ⟨W, S, ds, d, S', _, _, hg, _⟩
        unfold callG at hg
        rw [q] at hg
        cases hg
      | some fd =>
        have := h.dir i a fd _ _ e q ih
        have e2 : (callG G fns fu (n + 1) i []) = fun ds S => runF G (callG G fns fu n) fu fd [] ds S := by
          funext ds S
          show (match fns[i]? with | some fd => runF G (callG G fns fu n) fu fd [] ds S | none => none) = _
          rw [q]
        rw [e2]
        exact this
    refine ⟨dir, fun i a m ks p e hk => ?_, fun i cs x u r => ?_⟩
    · cases q : fns[i]? with
      | none =>
        intro A outer s H us ws vs zs xs Q E hr e0 r rz hn hz hp ⟨W, S, ds, d, S', _, _, hg, _⟩
        unfold callG at hg
        rw [q] at hg
        cases hg
      | some fd =>
        have := h.kw i a fd m ks p _ _ e q hk ih
        have e2 : (callG G fns fu (n + 1) i []) = fun ds S => runF G (callG G fns fu n) fu fd [] ds S := by
          funext ds S
          show (match fns[i]? with | some fd => runF G (callG G fns fu n) fu fd [] ds S | none => none) = _
          rw [q]
        rw [e2]
        exact this
    · cases q : C.fk[i]? with
      | none =>
        intro A outer s H us vs Q E hr e0 r' ⟨W, S, ds, d, S', _, rep, _, hg, _⟩
        rw [Rep, q] at rep
        exact rep.elim
      | some z =>
        cases z with
        | met a =>
          intro A outer s H us vs Q E hr e0 r' ⟨W, S, ds, d, S', _, rep, _, hg, _⟩
          rw [Rep, q] at rep
          exact rep.elim
        | glo y =>
          intro A outer s H us vs Q E hr e0 r' ⟨W, S, ds, d, S', sw, rep, rl, hg, kk⟩
          have rep' := rep
          rw [Rep, q] at rep'
          obtain ⟨rfl, a, rfl, h1, _⟩ := rep'
          cases (show u = Value.ref a from r)
          refine dir i a ?_ A outer s H us vs Q E hr e0 r' ⟨W, S, ds, d, S', sw, rl, hg, kk⟩
          unfold fnAddr
          rw [q]
          show (match C.mg y with | some (.ref a) => some a | _ => none) = some a
          rw [h1]
        | lam L =>
          cases q2 : fns[i]? with
          | none =>
            intro A outer s H us vs Q E hr e0 r' ⟨W, S, ds, d, S', _, _, _, hg, _⟩
            unfold callG at hg
            rw [q2] at hg
            cases hg
          | some fd =>
            refine h.lam i L fd _ _ q q2 ih _ cs x u (fun ds S => ?_) r
            show (match fns[i]? with | some fd => runF G (callG G fns fu n) fu fd cs ds S | none => none) = _
            rw [q2]
end
end MT

set_option maxRecDepth 100000
set_option maxHeartbeats 4000000
/-! MTzd: a head's Hook: functions by their addresses, one Bool for the rest. -/
namespace MT
open PySem PySem.Spec PyProof.Rows L2
/-- a def: where its function object stands -/
structure DfM where
  at_ : PySem.W.Frag → Addr
  name : Str
  qual : Str
  params : Arguments
  body : List Stmt
  scope : Scope
def DfM.ob (K : PySem.W.Frag) (d : DfM) : He.FnW := match K.lookup (d.at_ K) with
  | some ⟨_, _, .func fd, _⟩ => some (fd.name, fd.qualname, fd.params, fd.body, fd.scope, fd.globals, fd.closure, fd.builtins)
  | _ => none
def DfM.val (d : DfM) : He.FnW := some (d.name, d.qual, d.params, .stmts d.body, d.scope, mainGlobals, [], builtinsNs)
def DfM.ok (K : PySem.W.Frag) (d : DfM) : Bool := PySem.W.keepIn K (.ref (d.at_ K)) && (match K.lookup (d.at_ K) with
  | some ⟨_, _, .func fd, _⟩ => PySem.W.codeIn K fd.code d.qual && He.dflB K fd.defaults []
  | _ => false)
theorem DfM.funD {K : PySem.W.Frag} {d : DfM} (e : d.ob K = d.val) (c : d.ok K = true) : ∃ fd, FunD K d.name d.qual d.params d.body d.scope [] [] (d.at_ K) fd := by
  obtain ⟨kp, c2⟩ := He.ba c
  unfold DfM.ob at e
  cases q : K.lookup (d.at_ K) with
  | none =>
    rw [q] at c2
    cases c2
  | some o =>
    obtain ⟨oc, od, dt, osl⟩ := o
    rw [q] at c2 e
    cases dt with
    | func fd =>
      obtain ⟨n1, n2, n3, n4, n5, n6, n7, n8, n9, n10, n11, n12, n13, n14, n15⟩ := fd
      have e2 : (some (n1, n2, n3, n4, n5, n6, n7, n15) : He.FnW) = some (d.name, d.qual, d.params, .stmts d.body, d.scope, mainGlobals, [], builtinsNs) := e
      simp only [Option.some.injEq, Prod.mk.injEq] at e2
      obtain ⟨h1, h2, h3, h4, h5, h6, h7, h8⟩ := e2
      subst h1 h2 h3 h4 h5 h6 h7 h8
      obtain ⟨k1, k2⟩ := He.ba (show (PySem.W.codeIn K n13 d.qual && He.dflB K n8 []) = true from c2)
      exact ⟨_, ⟨oc, od, n8, n9, n10, n11, n12, n13, n14, osl, rfl, q, k1, He.dflB_ok k2, .inl rfl⟩, kp⟩
    | _ => cases c2
/-! ### addresses -/
def propA (x y : Str) (K : PySem.W.Frag) : Addr := He.ma K (He.ga K x) y
def getA (x y : Str) (K : PySem.W.Frag) : Addr := match PySem.W.recIn K (propA x y K) "property" with
  | some (.ref g :: _) => g
  | _ => 0
def codeA (K : PySem.W.Frag) (a : Addr) : Addr := match K.lookup a with
  | some ⟨_, _, .func fd, _⟩ => (match fd.code with
    | .ref c => c
    | _ => 0)
  | _ => 0
theorem codeA_eq {K : PySem.W.Frag} {x qual : Str} {params : Arguments} {body : List Stmt} {scope : Scope} {f : Addr} {fd : FuncData} (F : FunD K x qual params body scope [] [] f fd) : fd.code = .ref (codeA K f) := by
  obtain ⟨oc, od, dV, kV, doc, pm, an, cdv, ct, osl, rfl, lk, hcd, _, _⟩ := F.ex
  obtain ⟨c, rfl⟩ := He.codeIn_ref hcd
  show Value.ref c = _
  unfold codeA
  rw [lk] <;> rfl
/-- the code object, the table, of a def that makes lambdas -/
def cTA (K : PySem.W.Frag) (a : PySem.W.Frag → Addr) : Addr × Addr := (codeA K (a K), He.tabOf K (codeA K (a K)))
/-! ### the Hook -/
structure SaysM (ex : PySem.W.Frag → Bool) (fn : List DfM) (tf : List (PySem.W.Frag → Addr)) (h : Heap) (K : PySem.W.Frag) : Prop where
  more : ex K = true
  def_ : ∀ d ∈ fn, ∃ fd, FunD K d.name d.qual d.params d.body d.scope [] [] (d.at_ K) fd
  hd : ∀ p ∈ tf, PySem.W.codeHdIn K (cTA K p).1 (cTA K p).2 = true
  out : ∀ p ∈ tf, K.lookup (cTA K p).2 = none
  empty : ∀ p ∈ tf, h.get? (cTA K p).2 = some { cls := .none, data := .fields #[] }
def tabsM (g : Addr → Option Obj) (tf : List (PySem.W.Frag → Addr)) (K : PySem.W.Frag) : Bool := tf.all fun p => PySem.W.codeHdIn K (cTA K p).1 (cTA K p).2 && (match g (cTA K p).2 with
  | some o => He.emptyTab o
  | none => false)
abbrev AlM : Type := Bool × List He.FnW
def obsK (ex : PySem.W.Frag → Bool) (fn : List DfM) (tf : List (PySem.W.Frag → Addr)) (g : Addr → Option Obj) (K : PySem.W.Frag) : AlM := ((ex K && fn.all fun d => d.ok K) && tabsM g tf K, fn.map fun d => d.ob K)
def obsM (n : Nat) (ex : PySem.W.Frag → Bool) (fn : List DfM) (tf : List (PySem.W.Frag → Addr)) (g : Addr → Option Obj) : AlM := obsK ex fn tf g (He.frT g (He.asD g n))
def valM (fn : List DfM) : AlM := (true, fn.map DfM.val)
theorem saysM_of {n : Nat} {ex : PySem.W.Frag → Bool} {fn : List DfM} {tf : List (PySem.W.Frag → Addr)} {h : Heap} (e : obsM n ex fn tf h.get? = valM fn) : SaysM ex fn tf h (He.frT h.get? (He.asD h.get? n)) := by
  have e1 := congrArg (fun z : AlM => z.1) e
  have e2 := congrArg (fun z : AlM => z.2) e
  obtain ⟨h1, h2⟩ := He.ba (show ((ex (He.frT h.get? (He.asD h.get? n)) && fn.all fun d => d.ok (He.frT h.get? (He.asD h.get? n))) && tabsM h.get? tf (He.frT h.get? (He.asD h.get? n))) = true from e1)
  obtain ⟨h3, h4⟩ := He.ba h1
  have key : ∀ p ∈ tf, PySem.W.codeHdIn (He.frT h.get? (He.asD h.get? n)) (cTA (He.frT h.get? (He.asD h.get? n)) p).1 (cTA (He.frT h.get? (He.asD h.get? n)) p).2 = true ∧ ∃ o, h.get? (cTA (He.frT h.get? (He.asD h.get? n)) p).2 = some o ∧ He.emptyTab o = true := fun p hp => by
    obtain ⟨h5, h6⟩ := He.ba (List.all_eq_true.mp h2 p hp)
    refine ⟨h5, ?_⟩
    cases q : h.get? (cTA (He.frT h.get? (He.asD h.get? n)) p).2 with
    | none =>
      rw [q] at h6
      cases h6
    | some o =>
      rw [q] at h6
      exact ⟨o, rfl, h6⟩
  refine ⟨h3, fun d hd => ?_, fun p hp => (key p hp).1, fun p hp => by
    obtain ⟨_, o, q, z⟩ := key p hp
    exact He.frT_none q z, fun p hp => by
    obtain ⟨_, o, q, z⟩ := key p hp
    rw [q, He.emptyTab_eq z]⟩
  have e3 : fn.map (fun d => d.ob (He.frT h.get? (He.asD h.get? n))) = fn.map DfM.val := e2
  exact DfM.funD (List.map_inj_left.mp e3 d hd) (List.all_eq_true.mp h4 d hd)
def hookM (n : Nat) (ex : PySem.W.Frag → Bool) (fn : List DfM) (tf : List (PySem.W.Frag → Addr)) : PySem.W.Hook where
  α := AlM
  obs := fun s => obsM n ex fn tf s.heap.get?
  val := fun _ => valM fn
  says := fun _ h => ∃ K : PySem.W.Frag, K.In h ∧ SaysM ex fn tf h K
  of := fun _ _ e => ⟨_, He.frT_in, saysM_of e⟩
  keeps := fun _ _ _ ⟨K, hK, c⟩ k => ⟨K, PySem.W.Frag.In.keeps hK k, ⟨c.more, c.def_, c.hd, c.out, fun p hp => k _ _ (c.empty p hp)⟩⟩
theorem obsM_eq {n : Nat} {ex : PySem.W.Frag → Bool} {fn : List DfM} {tf : List (PySem.W.Frag → Addr)} {g : Addr → Option Obj} {s : Shared} (h : ∀ a, g a = s.heap.get? a) : obsM n ex fn tf g = (hookM n ex fn tf).obs s := by
  have e : g = s.heap.get? := funext h
  rw [e] <;> rfl
end MT

set_option maxRecDepth 100000
set_option maxHeartbeats 4000000
/-! MTze: what a head's Hook tells of the own classes. -/
namespace MT
open PySem PySem.Spec PyProof.Rows L2
def tyA : List String := ["NoneType", "bool", "int", "str", "tuple", "list", "dict"]
def tyC : List String := ["bool", "int", "str", "tuple", "list", "dict"]
theorem tyName_mem {t : Ty} {n : String} (h : tyName t = some n) : n ∈ tyC := by
  cases t <;> cases h <;> decide
def insB (K : PySem.W.Frag) (A : Addr) : Bool := He.eqO (PySem.W.findIn K (.ref A) "__class__") (some (some (.builtin "object.__class__"))) && (He.eqO (PySem.W.specialIn K (.builtin "object.__class__") "__get__") (some (some (.builtin "getset_descriptor.__get__"))) &&
  (decide (PySem.W.takesIn K (.builtin "object.__class__") = some true) && (decide (PySem.W.mroIn K A (.type "object") = some true) && decide (PySem.W.kitOne K (.ref A) (.ref A) = some true))))
def clsB (K : PySem.W.Frag) (x : Str) : Bool := (He.Fa.cls x).ok K && ((He.Fa.glo x).ok K && (insB K (He.ga K x) && (tyC.all (fun n => decide (PySem.W.kitOne K (.ref (He.ga K x)) (.type n) = some false)) && tyA.all (fun n => decide (PySem.W.kitOne K (.type n) (.ref (He.ga K x)) = some false)))))
def twoB (K : PySem.W.Frag) (cls : List Str) : Bool := cls.zipIdx.all fun p => cls.zipIdx.all fun q => decide (PySem.W.kitOne K (.ref (He.ga K p.1)) (.ref (He.ga K q.1)) = some (q.2 == p.2))
def propB (K : PySem.W.Frag) (x y : Str) : Bool := He.eqO (PySem.W.findIn K (.ref (He.ga K x)) y) (some (some (.ref (propA x y K)))) && (He.eqO (PySem.W.specialIn K (.ref (propA x y K)) "__get__") (some (some (.builtin "property.__get__"))) &&
  (decide (PySem.W.takesIn K (.ref (propA x y K)) = some true) && (match PySem.W.recIn K (propA x y K) "property" with
    | some (.ref _ :: _) => true
    | _ => false)))
def eqmB (K : PySem.W.Frag) (cls : List Str) (x : Str) : Bool := He.eqO (PySem.W.findIn K (.ref (He.ga K x)) "__eq__") (some (some (.ref (He.ma K (He.ga K x) "__eq__")))) && (PySem.W.isFn K (.ref (He.ma K (He.ga K x) "__eq__")) &&
  (He.eqO (PySem.W.findIn K (.ref (He.ga K x)) "__ne__") (some (some (.builtin "object.__ne__"))) && (tyA.all (fun n => PySem.W.notFirst K (He.ga K x) (.type n)) && cls.all (fun z => PySem.W.notFirst K (He.ga K x) (.ref (He.ga K z))))))
def gokB (cls fld : List Str) (G : Prg) (K : PySem.W.Frag) : Bool := cls.all (clsB K) && (twoB K cls && (G.fld.all (fun e => match cls[e.1]?, fld[e.2]? with
    | some x, some y => (He.Fa.noat x y).ok K
    | _, _ => true) && (G.prop.all (fun e => match cls[e.1.1]?, fld[e.1.2]? with
    | some x, some y => propB K x y
    | _, _ => true) && G.eqm.all (fun e => match cls[e.1]? with
    | some x => eqmB K cls x
    | none => true))))
theorem mem_zipIdx {α : Type} {l : List α} {i : Nat} {x : α} (h : l[i]? = some x) : (x, i) ∈ l.zipIdx := by
  rw [List.mem_zipIdx_iff_getElem?]
  exact h
theorem lk_mem {α β : Type} [BEq α] [LawfulBEq α] {a : α} {b : β} : ∀ {l : List (α × β)}, l.lookup a = some b → (a, b) ∈ l
  | [], h => by cases h
  | (c, d) :: r, h => by
    rw [List.lookup_cons] at h
    split at h
    · rename_i e
      cases h
      rw [eq_of_beq e]
      exact List.mem_cons_self
    · exact List.mem_cons_of_mem _ (lk_mem h)
theorem gok_of {C : Cst} {G : Prg} {h : Heap} (X : C.K.In h) (N : h.Ns mainGlobals C.mg) (b : gokB C.cls C.fld G C.K = true) (nd : C.fld.Nodup)
    (hp : ∀ e ∈ G.prop, ∀ x y, C.cls[e.1.1]? = some x → C.fld[e.1.2]? = some y → fnAddr C e.2 = some (getA x y C.K))
    (hq : ∀ e ∈ G.eqm, ∀ x, C.cls[e.1]? = some x → fnAddr C e.2 = some (He.ma C.K (He.ga C.K x) "__eq__")) : GOk C G := by
  obtain ⟨b1, b⟩ := He.ba b
  obtain ⟨b2, b⟩ := He.ba b
  obtain ⟨b3, b⟩ := He.ba b
  obtain ⟨b4, b5⟩ := He.ba b
  have cl : ∀ (c : Nat) (x : Str) (A : Addr), C.cls[c]? = some x → C.mg x = some (.ref A) → clsB C.K x = true ∧ A = He.ga C.K x := fun c x A h1 h2 => by
    have q := List.all_eq_true.mp b1 x (List.mem_of_getElem? h1)
    refine ⟨q, ?_⟩
    have := He.glo_ok X N (He.ba (He.ba q).2).1
    rw [h2] at this
    cases this
    rfl
  have insC : ∀ (c : Nat) (x : Str) (A : Addr), C.cls[c]? = some x → C.mg x = some (.ref A) → C8.InsC C.K A := fun c x A h1 h2 => by
    obtain ⟨q, rfl⟩ := cl c x A h1 h2
    obtain ⟨q1, q⟩ := He.ba q
    obtain ⟨q2, q⟩ := He.ba q
    obtain ⟨q3, q⟩ := He.ba q
    obtain ⟨i1, i⟩ := He.ba q3
    obtain ⟨i2, i⟩ := He.ba i
    obtain ⟨i3, i⟩ := He.ba i
    obtain ⟨i4, i5⟩ := He.ba i
    exact ⟨He.cls_ok q1, He.eqO_ok i1, He.eqO_ok i2, of_decide_eq_true i3, of_decide_eq_true i4, of_decide_eq_true i5⟩
  refine ⟨⟨insC, fun c x A t n h1 h2 h3 => ?_, fun c x A n h1 h2 h3 => ?_, fun c c' x x' A A' h1 h2 h3 h4 => ?_⟩, nd, fun c x A j y h1 h2 h3 h4 => ?_, fun c x A j y f h1 h2 h3 h4 => ?_, fun c x A f h1 h2 h3 => ?_⟩
  · obtain ⟨q, rfl⟩ := cl c x A h1 h2
    obtain ⟨q1, q⟩ := He.ba q
    obtain ⟨q2, q⟩ := He.ba q
    obtain ⟨q3, q⟩ := He.ba q
    exact of_decide_eq_true (List.all_eq_true.mp (He.ba q).1 n (tyName_mem h3))
  · obtain ⟨q, rfl⟩ := cl c x A h1 h2
    obtain ⟨q1, q⟩ := He.ba q
    obtain ⟨q2, q⟩ := He.ba q
    obtain ⟨q3, q⟩ := He.ba q
    exact of_decide_eq_true (List.all_eq_true.mp (He.ba q).2 n h3)
  · obtain ⟨_, rfl⟩ := cl c x A h1 h2
    obtain ⟨_, rfl⟩ := cl c' x' A' h3 h4
    exact of_decide_eq_true (List.all_eq_true.mp (List.all_eq_true.mp b2 _ (mem_zipIdx h1)) _ (mem_zipIdx h3))
  · obtain ⟨_, rfl⟩ := cl c x A h1 h2
    have q := List.all_eq_true.mp b3 (c, j) (List.contains_iff_mem.mp h4)
    simp only [h1, h3] at q
    exact He.noat_ok q
  · obtain ⟨_, rfl⟩ := cl c x A h1 h2
    have me := lk_mem h4
    have q := List.all_eq_true.mp b4 _ me
    simp only [h1, h3] at q
    obtain ⟨q1, q⟩ := He.ba q
    obtain ⟨q2, q⟩ := He.ba q
    obtain ⟨q3, q4⟩ := He.ba q
    refine ⟨propA x y C.K, getA x y C.K, hp _ me x y h1 h3, He.eqO_ok q1, He.eqO_ok q2, of_decide_eq_true q3, ?_⟩
    unfold getA
    cases e : PySem.W.recIn C.K (propA x y C.K) "property" with
    | none =>
      rw [e] at q4
      cases q4
    | some l =>
      rw [e] at q4
      cases l with
      | nil => cases q4
      | cons v r =>
        cases v with
        | ref g => exact ⟨r, rfl⟩
        | _ => cases q4
  · obtain ⟨_, rfl⟩ := cl c x A h1 h2
    have me := lk_mem h3
    have q := List.all_eq_true.mp b5 _ me
    simp only [h1] at q
    obtain ⟨q1, q⟩ := He.ba q
    obtain ⟨q2, q⟩ := He.ba q
    obtain ⟨q3, q⟩ := He.ba q
    obtain ⟨q4, q5⟩ := He.ba q
    refine ⟨_, hq _ me x h1, He.eqO_ok q1, q2, He.eqO_ok q3, fun n hn => List.all_eq_true.mp q4 n hn, fun c' x' A' h4 h5 => ?_⟩
    obtain ⟨_, rfl⟩ := cl c' x' A' h4 h5
    exact List.all_eq_true.mp q5 x' (List.mem_of_getElem? h4)
/-! ### single facts -/
section
variable {C : Cst} {h : Heap}
theorem fc_free (X : C.K.In h) (N : h.Ns mainGlobals C.mg) {x : Str} (c : (He.Fa.free x).ok C.K = true) : C.mg x = none := He.free_ok X N c
theorem fc_str (X : C.K.In h) (N : h.Ns mainGlobals C.mg) {x z : Str} (c : (He.Fa.str x z).ok C.K = true) : ∃ u, C.mg x = some u ∧ L2.RelV (.str z) u := by
  obtain ⟨t, e⟩ := He.str_ok X N c
  exact ⟨_, e, ⟨t, rfl⟩⟩
theorem fc_int (X : C.K.In h) (N : h.Ns mainGlobals C.mg) {x : Str} {i : Int} (c : (He.Fa.int x i).ok C.K = true) : ∃ u, C.mg x = some u ∧ L2.RelV (.int i) u := by
  obtain ⟨t, e⟩ := He.int_ok X N c
  exact ⟨_, e, ⟨t, rfl⟩⟩
theorem fc_glo (X : C.K.In h) (N : h.Ns mainGlobals C.mg) {i : Nat} {x : Str} (c : (He.Fa.glo x).ok C.K = true) (k : (He.Fa.keep x).ok C.K = true) (hf : C.fk[i]? = some (.glo x)) : GloF C i x := ⟨hf, _, He.glo_ok X N c, He.keep_ok k⟩
theorem fc_mk (X : C.K.In h) (N : h.Ns mainGlobals C.mg) {k i : Nat} {x : Str} (c : (He.Fa.glo x).ok C.K = true) (m : (He.Fa.mkr x).ok C.K = true) (hc : C.cls[k]? = some x) (hf : fnAddr C i = some (He.ma C.K (He.ga C.K x) "__init__")) : MkF C k i x := ⟨_, _, He.glo_ok X N c, hc, hf, He.mkr_ok m⟩
theorem fc_ca (X : C.K.In h) (N : h.Ns mainGlobals C.mg) {x : Str} (c : (He.Fa.glo x).ok C.K = true) : ∃ A, C.mg x = some (.ref A) := ⟨_, He.glo_ok X N c⟩
theorem fnAddr_glo (X : C.K.In h) (N : h.Ns mainGlobals C.mg) {i : Nat} {x : Str} (c : (He.Fa.glo x).ok C.K = true) (hf : C.fk[i]? = some (.glo x)) : fnAddr C i = some (He.ga C.K x) := by
  unfold fnAddr
  rw [hf]
  show (match C.mg x with | some (.ref a) => some a | _ => none) = _
  rw [He.glo_ok X N c]
theorem fnAddr_met {i : Nat} {a : Addr} (hf : C.fk[i]? = some (.met a)) : fnAddr C i = some a := by
  unfold fnAddr
  rw [hf]
theorem fnAddr_lam {i : Nat} {L : LamI} {a : Addr} (hf : C.fk[i]? = some (.lam L)) : fnAddr C i ≠ some a := by
  unfold fnAddr
  rw [hf]
  exact fun z => nomatch z
end
end MT

set_option maxRecDepth 100000
set_option maxHeartbeats 4000000
/-! MTzf: one def, one lambda, by its body's walk. -/
namespace MT
open PySem PySem.Spec PyProof.Rows L2
section
variable {G : Prg} {cl : Call} {fu : Nat}
theorem runF_hg {fd : FnD} {N ps : List Str} (h1 : fd.lam = false) (h2 : fd.np = ps.length) (h3 : fd.nc = 0) (h4 : fd.n = N.length) : ∀ ds S z, runF G cl fu fd [] ds S = some z → ds.length = ps.length ∧ ∃ fl ρ' S', exSs G cl fu fd.body (ds.map some ++ List.replicate (N.length - ps.length) none) S = some (fl, ρ', S') ∧ ((∃ d, fl = .ret d ∧ z = (d, S')) ∨ (fl = .nx ∧ z = (.non, S'))) := by
  intro ds S z h
  unfold runF at h
  split at h
  rotate_left
  · cases h
  rename_i c
  refine ⟨c.1.trans h2, ?_⟩
  rw [h2, h3, h4] at h
  cases q : exSs G cl fu fd.body (ds.map some ++ List.replicate (N.length - ps.length) none) S with
  | none =>
    rw [List.append_nil, Nat.sub_zero, q] at h
    cases h
  | some r =>
    obtain ⟨fl, ρ, S'⟩ := r
    rw [List.append_nil, Nat.sub_zero, q] at h
    refine ⟨fl, ρ, S', rfl, ?_⟩
    cases fl with
    | ret d =>
      cases h
      exact .inl ⟨d, rfl, rfl⟩
    | nx =>
      cases h
      exact .inr ⟨rfl, rfl⟩
    | _ => cases h
theorem runL_hg {fd : FnD} {N ps fr : List Str} {e : MT.E} (h1 : fd.lam = true) (h2 : fd.np = ps.length) (h3 : fd.nc = fr.length) (h4 : fd.n = N.length) (h5 : fd.body = .cons (.ret e) .nil) : ∀ cs ds S z, runF G cl fu fd cs ds S = some z →
    ds.length = ps.length ∧ cs.length = fr.length ∧ noLams ds = true ∧ noLamS S = true ∧ evE G cl e ((ds ++ cs).map some ++ List.replicate (N.length - ps.length - fr.length) none) S = some z := by
  intro cs ds S z h
  unfold runF at h
  split at h
  rotate_left
  · cases h
  rename_i c
  refine ⟨c.1.trans h2, c.2.1.trans h3, (c.2.2 h1).1, (c.2.2 h1).2, ?_⟩
  rw [h2, h3, h4, h5] at h
  have h : bnd3 (exSs G cl fu (.cons (.ret e) .nil) ((ds ++ cs).map some ++ List.replicate (N.length - ps.length - fr.length) none) S) _ = some z := h
  unfold exSs exS at h
  cases q : evE G cl e ((ds ++ cs).map some ++ List.replicate (N.length - ps.length - fr.length) none) S with
  | none =>
    rw [q] at h
    cases h
  | some r =>
    obtain ⟨d, S'⟩ := r
    rw [q] at h
    cases h
    rfl
end
section
variable {C : Cst} {G : Prg} {cl : Call} {fu : Nat} {base : Heap} {k : Nat}
/-- a def, by its body's walk -/
theorem has_fn {x qual : Str} {params : Arguments} {body : List Stmt} {scope : Scope} {f : Addr} {fd : FuncData} {N ps : List Str} {fd' : FnD} {md : Nat → Mo} (F : FunD C.K x qual params body scope [] [] f fd) (ok : FnsOk C.P C.w C.K C.mg base C k cl)
    (hs : fscB N ps scope = true) (h1 : fd'.lam = false) (h2 : fd'.np = ps.length) (h3 : fd'.nc = 0) (h4 : fd'.n = N.length) (hm : ∀ i < ps.length, md i = .frz)
    (hb : ∀ (X : Cx) (W0 : Wd) (H : Hp), Ctx ⟨C, k, N, scope, md, G, cl, fu⟩ X → X.fn = (fun _ => true) → X.env.qual = qual ++ ".<locals>." → X.env.code = .ref (codeA C.K f) → X.base = base → XSs ⟨C, k, N, scope, md, G, cl, fu⟩ X W0 H body fd'.body) :
    FnOk C.P C.w C.K C.mg base C8.CX0 (k + 2) f fd ps (spD C fun ds S => runF G cl fu fd' [] ds S) :=
  runs_fnD (k := k + 1) (md := md) F (fscope_by hs) (runF_hg h1 h2 h3 h4) hm fun A outer s H E W0 hr => hb _ W0 H ⟨rfl, rfl, rfl, hr, rfl, rfl, rfl, ok⟩ rfl rfl (codeA_eq F) rfl
/-- a lambda, by its body's walk -/
theorem has_lam {i : Nat} {L : LamI} {N ps : List Str} {fd' : FnD} {e : MT.E} (hfk : C.fk[i]? = some (.lam L)) (ok : FnsOk C.P C.w C.K C.mg base C k cl) (hs : NdefX.nscB N ps L.frees L.scope = true)
    (hbd : ∀ (q : Str) (cl : List (Str × Addr)) (pm cv ctv : Value) (us : List Value), us.length = ps.length → bindArgs (PySem.W.kla_fn "<lambda>" q L.params L.body L.scope cl pm cv ctv) ⟨us, []⟩ = pure (ps.zip us))
    (h1 : fd'.lam = true) (h2 : fd'.np = ps.length) (h3 : fd'.nc = L.frees.length) (h4 : fd'.n = N.length) (h5 : fd'.body = .cons (.ret e) .nil)
    (hb : ∀ (X : Cx) (H : Hp), Ctx ⟨C, k, N, L.scope, mdOf [], G, cl, fu⟩ X → XE ⟨C, k, N, L.scope, mdOf [], G, cl, fu⟩ X H .frz L.body e)
    (cl' : Call) (cs : List D) (x : V) (u : Value) (hcl : ∀ ds S, cl' i cs ds S = runF G cl fu fd' cs ds S) (ru : RelV x u) : Runs C.P C.w C.K C.mg base (k + 2) u (spV C cl' i cs x) := by
  have e0 : spV C cl' i cs x = spV C (fun _ cs ds S => runF G cl fu fd' cs ds S) i cs x := by
    unfold spV
    simp only [hcl]
  rw [e0]
  exact runs_lam (k := k + 1) (md := mdOf []) (gb := evE G cl e) hfk (NdefX.nscope_by hs) hbd (runL_hg h1 h2 h3 h4 h5) (fun _ _ => rfl) (fun F f A outer s H E h1 h2 hr => hb _ H ⟨rfl, rfl, rfl, hr, rfl, h1, rfl, ok⟩) cs x u ru
end
end MT

set_option maxRecDepth 100000
set_option maxHeartbeats 4000000
/-! MTzg: the tables of defs that make lambdas. -/
namespace MT
open PySem PySem.Spec PyProof.Rows L2
theorem lamCx_of {F : Fx} {X : Cx} {L : LamI} {l c : Nat} {base : Heap} {f PT : Addr} {qq : Str} {nm : Nat → Nat → Str} (cx : Ctx F X) (hb : X.base = base) (TB : LamX.TabB base F.C.mg (codeA F.C.K f) PT) (hcode : X.env.code = .ref (codeA F.C.K f)) (hT : (PT, nm) ∈ F.C.T) (hu : ∀ p ∈ F.C.T, p.1 = PT → p.2 = nm)
    (hq : X.env.qual = qq) (hq2 : qq ++ "<lambda>" = L.qual) (hn : nm l c = L.qual) : LamCx F.C X L l c :=
  ⟨_, PT, nm, by rw [hb, cx.mg]; exact TB, hcode, hT, hu, by rw [hq]; exact hq2, hn⟩
theorem tabs_uniq {K : PySem.W.Frag} {tfl : List (PySem.W.Frag → Addr)} {nms : List (Nat → Nat → Str)} {T : List NdefX.NTab} (nd : (tfl.map fun p => (cTA K p).2).Nodup) (hT : T = (tfl.map fun p => (cTA K p).2).zip nms) (i : Nat) {p : PySem.W.Frag → Addr} {nm : Nat → Nat → Str} (h1 : tfl[i]? = some p) (h2 : nms[i]? = some nm) :
    ((cTA K p).2, nm) ∈ T ∧ ∀ q ∈ T, q.1 = (cTA K p).2 → q.2 = nm := by
  subst hT
  have e1 : (tfl.map fun p => (cTA K p).2)[i]? = some (cTA K p).2 := by rw [List.getElem?_map, h1] <;> rfl
  have e2 : ((tfl.map fun p => (cTA K p).2).zip nms)[i]? = some ((cTA K p).2, nm) := by
    rw [List.getElem?_zip_eq_some]
    exact ⟨e1, h2⟩
  refine ⟨List.mem_of_getElem? e2, fun q hq e => ?_⟩
  obtain ⟨j, hj⟩ := List.getElem?_of_mem hq
  obtain ⟨z1, z2⟩ := List.getElem?_zip_eq_some.mp hj
  have hij : i = j := by
    obtain ⟨b1, c1⟩ := List.getElem?_eq_some_iff.mp e1
    obtain ⟨b2, c2⟩ := List.getElem?_eq_some_iff.mp z1
    have pw := List.pairwise_iff_getElem.mp nd
    rcases Nat.lt_trichotomy i j with l | l | l
    · exact absurd (c1.trans (e.symm.trans c2.symm)) (pw i j b1 b2 l)
    · exact l
    · exact absurd (c2.trans (e.trans c1.symm)) (pw j i b2 b1 l)
  subst hij
  rw [h2] at z2
  exact (Option.some.inj z2).symm
end MT

set_option maxRecDepth 100000
set_option maxHeartbeats 0
namespace MT
open PySem PySem.Spec PyProof.Rows L2
def top (i : Nat) : Stmt := PySem.Challenge.pw_mendtrees_k05_whole_grammars_looked_thro.main.body.getD i (.Pass ⟨0, 0, 0, 0⟩)

def pl0 : Expr := ((pArg (pLeft (pVal ((defBody (top 11)).getD 0 (.Pass ⟨0, 0, 0, 0⟩)))) 3))
def L0 : LamI := ⟨("are_all.<locals>.<lambda>" : PySem.Str), (pLam pl0).1, (pLam pl0).2.1, (pLam pl0).2.2, [("is_right" : PySem.Str)]⟩
def NL0 : List Str := [("ahead" : PySem.Str), ("each" : PySem.Str), ("is_right" : PySem.Str)]
theorem nsc0 : ∃ N ps, NdefX.NScope N ps L0.frees L0.scope := ⟨NL0, [("ahead" : PySem.Str), ("each" : PySem.Str)], NdefX.nscope_by (by kernel_rfl)⟩
def irl0 : MT.E := (.callv 2 (.cons (.var 1) .nil))
def pl1 : Expr := ((pArg (pVal ((defBody (top 21)).getD 1 (.Pass ⟨0, 0, 0, 0⟩))) 3))
def L1 : LamI := ⟨("is_rule.<locals>.<lambda>" : PySem.Str), (pLam pl1).1, (pLam pl1).2.1, (pLam pl1).2.2, []⟩
def NL1 : List Str := [("each" : PySem.Str)]
theorem nsc1 : ∃ N ps, NdefX.NScope N ps L1.frees L1.scope := ⟨NL1, [("each" : PySem.Str)], NdefX.nscope_by (by kernel_rfl)⟩
def irl1 : MT.E := (.or (.call 6 (.cons (.var 0) .nil)) (.call 7 (.cons (.var 0) .nil)))
structure Facts (C : Cst) (G : Prg) : Prop where
  ok : GOk C G
  b_isinstance : C.mg ("isinstance" : PySem.Str) = none
  b_str : C.mg ("str" : PySem.Str) = none
  b_all : C.mg ("all" : PySem.Str) = none
  s_LETTERS : ∃ u, C.mg ("LETTERS" : PySem.Str) = some u ∧ L2.RelV (.str ("abcdefghijklmnopqrstuvwxyz" : PySem.Str)) u
  b_tuple : C.mg ("tuple" : PySem.Str) = none
  b_len : C.mg ("len" : PySem.Str) = none
  g_is_tuple_of : GloF C 2 ("is_tuple_of" : PySem.Str)
  b_enumerate : C.mg ("enumerate" : PySem.Str) = none
  g_wrong_in : GloF C 4 ("wrong_in" : PySem.Str)
  lam_0 : C.fk[44]? = some (.lam L0)
  g_is_one_of : GloF C 0 ("is_one_of" : PySem.Str)
  b_list : C.mg ("list" : PySem.Str) = none
  s_SIGNS : ∃ u, C.mg ("SIGNS" : PySem.Str) = some u ∧ L2.RelV (.str ("abcde" : PySem.Str)) u
  g_is_word : GloF C 1 ("is_word" : PySem.Str)
  i_LEAST_NAME : ∃ u, C.mg ("LEAST_NAME" : PySem.Str) = some u ∧ L2.RelV (.int 2) u
  i_MOST_NAME : ∃ u, C.mg ("MOST_NAME" : PySem.Str) = some u ∧ L2.RelV (.int 8) u
  g_is_pair : GloF C 3 ("is_pair" : PySem.Str)
  g_is_kind_name : GloF C 7 ("is_kind_name" : PySem.Str)
  g_are_all : GloF C 5 ("are_all" : PySem.Str)
  g_is_letter : GloF C 6 ("is_letter" : PySem.Str)
  i_MOST_BODY : ∃ u, C.mg ("MOST_BODY" : PySem.Str) = some u ∧ L2.RelV (.int 4) u
  lam_1 : C.fk[45]? = some (.lam L1)
  g_is_rule : GloF C 8 ("is_rule" : PySem.Str)
  g_kinds_of : GloF C 9 ("kinds_of" : PySem.Str)
  i_MOST_KINDS : ∃ u, C.mg ("MOST_KINDS" : PySem.Str) = some u ∧ L2.RelV (.int 8) u
  g_is_next_rule : GloF C 10 ("is_next_rule" : PySem.Str)
  i_MOST_RULES : ∃ u, C.mg ("MOST_RULES" : PySem.Str) = some u ∧ L2.RelV (.int 16) u
  g_wrong_in_rules : GloF C 11 ("wrong_in_rules" : PySem.Str)
  fld_all_told : C.fld[0]? = some ("all_told" : PySem.Str)
  fld_made_once : C.fld[1]? = some ("made_once" : PySem.Str)
  cl_Grammar : C.cls[0]? = some ("Grammar" : PySem.Str)
  ca_Grammar : ∃ A, C.mg ("Grammar" : PySem.Str) = some (.ref A)
  fld_parts : C.fld[2]? = some ("parts" : PySem.Str)
  fld_rules : C.fld[4]? = some ("rules" : PySem.Str)
  fld_kinds : C.fld[3]? = some ("kinds" : PySem.Str)
  g_makers : GloF C 19 ("makers" : PySem.Str)
  g_empties_by : GloF C 21 ("empties_by" : PySem.Str)
  g_alone_in : GloF C 22 ("alone_in" : PySem.Str)
  g_leads_alone : GloF C 23 ("leads_alone" : PySem.Str)
  g_reached_from : GloF C 24 ("reached_from" : PySem.Str)
  g_turning_by : GloF C 25 ("turning_by" : PySem.Str)
  g_barren_by : GloF C 20 ("barren_by" : PySem.Str)
  g_check_grammar : GloF C 18 ("check_grammar" : PySem.Str)
  g_wrong_kinds : GloF C 26 ("wrong_kinds" : PySem.Str)
  b_int : C.mg ("int" : PySem.Str) = none
  b_abs : C.mg ("abs" : PySem.Str) = none
  b_divmod : C.mg ("divmod" : PySem.Str) = none
  g__law_draw : GloF C 32 ("_law_draw" : PySem.Str)
  b_range : C.mg ("range" : PySem.Str) = none
  g__law_same : GloF C 34 ("_law_same" : PySem.Str)
  b_bool : C.mg ("bool" : PySem.Str) = none
  g__law_of : GloF C 33 ("_law_of" : PySem.Str)
  g__law_names : GloF C 35 ("_law_names" : PySem.Str)
  g__law_kinds : GloF C 36 ("_law_kinds" : PySem.Str)
  g__law_making : GloF C 38 ("_law_making" : PySem.Str)
  g__law_come : GloF C 40 ("_law_come" : PySem.Str)
  g__law_any_rules : GloF C 37 ("_law_any_rules" : PySem.Str)
  g__law_looked : GloF C 39 ("_law_looked" : PySem.Str)
  g__law_rules : GloF C 41 ("_law_rules" : PySem.Str)
  mk_Grammar : MkF C 0 12 ("Grammar" : PySem.Str)
  g_empty_kinds : GloF C 29 ("empty_kinds" : PySem.Str)
  g_first_turning : GloF C 28 ("first_turning" : PySem.Str)
  g_first_barren : GloF C 27 ("first_barren" : PySem.Str)
  g_is_let_by : GloF C 30 ("is_let_by" : PySem.Str)
  kw_30_grammar : (30, 0, [("grammar" : PySem.Str)], [0]) ∈ C.kwl
  kw_29_grammar : (29, 0, [("grammar" : PySem.Str)], [0]) ∈ C.kwl
  kw_28_grammar : (28, 0, [("grammar" : PySem.Str)], [0]) ∈ C.kwl
  kw_27_grammar : (27, 0, [("grammar" : PySem.Str)], [0]) ∈ C.kwl
  b_max : C.mg ("max" : PySem.Str) = none
  b_min : C.mg ("min" : PySem.Str) = none
  g__law_right : GloF C 42 ("_law_right" : PySem.Str)
  g__law_bowl : GloF C 31 ("_law_bowl" : PySem.Str)
/-! is_one_of -/
def N0 : List Str := [("value" : PySem.Str), ("words" : PySem.Str)]
def ir0 : Ss := (.cons (.ret (.and (.isi .str (.var 0)) (.cmp .isin (.var 0) (.var 1)))) .nil)
abbrev F0 (C : Cst) (k : Nat) (G : Prg) (cl : Call) (fu : Nat) : Fx := ⟨C, k, N0, defScope (top 6), mdOf [], G, cl, fu⟩
theorem body0 {C : Cst} {k : Nat} {G : Prg} {cl : Call} {fu : Nat} (fa : Facts C G) {X : Cx} {H0 : Hp} {W0 : Wd} (cx : Ctx (F0 C k G cl fu) X) (hf : X.fn = fun _ => true) : XSs (F0 C k G cl fu) X W0 H0 (defBody (top 6)) ir0 :=
  (z_cons (z_ret (c_and (c_isiT cx fa.ok rfl rfl fa.b_isinstance fa.b_str (by kernel_rfl) (c_bor cx (by kernel_rfl)) rfl) (c_one (EV.toF (c_cmp .isin cx (c_bor cx (by kernel_rfl)) (c_bor cx (by kernel_rfl)) rfl))))) z_nil)
/-! is_word -/
def N1 : List Str := [("value" : PySem.Str), ("sign" : PySem.Str)]
def ir1 : Ss := (.cons (.ret (.and (.isi .str (.var 0)) (.and (.cmp .ne (.var 0) (.cst (.str []))) (.blt .all (.cons (.comp (.cmp .isin (.var 1) (.cst (.str [97, 98, 99, 100, 101, 102, 103, 104, 105, 106, 107, 108, 109, 110, 111, 112, 113, 114, 115, 116, 117, 118, 119, 120, 121, 122]))) (.nm 1) (.e (.var 0)) .non [1]) .nil))))) .nil)
abbrev F1 (C : Cst) (k : Nat) (G : Prg) (cl : Call) (fu : Nat) : Fx := ⟨C, k, N1, defScope (top 7), mdOf [], G, cl, fu⟩
theorem body1 {C : Cst} {k : Nat} {G : Prg} {cl : Call} {fu : Nat} (fa : Facts C G) {X : Cx} {H0 : Hp} {W0 : Wd} (cx : Ctx (F1 C k G cl fu) X) (hf : X.fn = fun _ => true) : XSs (F1 C k G cl fu) X W0 H0 (defBody (top 7)) ir1 :=
  (z_cons (z_ret (c_and (c_isiT cx fa.ok rfl rfl fa.b_isinstance fa.b_str (by kernel_rfl) (c_bor cx (by kernel_rfl)) rfl) (c_and (EV.toF (c_cmp .ne cx (c_bor cx (by kernel_rfl)) (EV.toB (c_str (by kernel_rfl))) rfl)) (c_one (EV.toF (c_bltB (bl := .all) cx (o_all cx.K cx.calm) rfl fa.b_all (by kernel_rfl) (r_cons (EV.nToB (c_comp [(("sign" : PySem.Str), 1)] cx (by kernel_rfl) (i_e cx (.inr rfl) (c_bor cx (by kernel_rfl))) (by kernel_rfl) (fun _ cx hc => ⟨(g_nm cx (by kernel_rfl) rfl), q_nil, (EV.toF (c_cmp .isin cx (c_bor cx (by kernel_rfl)) (EV.toB (c_gstr (z := ("abcdefghijklmnopqrstuvwxyz" : PySem.Str)) cx (by kernel_rfl) fa.s_LETTERS (by kernel_rfl))) rfl))⟩) (fun _ => rfl) (by kernel_rfl))) r_nil rfl) (by kernel_rfl))))))) z_nil)
/-! is_tuple_of -/
def N2 : List Str := [("value" : PySem.Str), ("many" : PySem.Str)]
def ir2 : Ss := (.cons (.ret (.and (.isi .tuple (.var 0)) (.cmp .eq (.blt .len (.cons (.var 0) .nil)) (.var 1)))) .nil)
abbrev F2 (C : Cst) (k : Nat) (G : Prg) (cl : Call) (fu : Nat) : Fx := ⟨C, k, N2, defScope (top 8), mdOf [], G, cl, fu⟩
theorem body2 {C : Cst} {k : Nat} {G : Prg} {cl : Call} {fu : Nat} (fa : Facts C G) {X : Cx} {H0 : Hp} {W0 : Wd} (cx : Ctx (F2 C k G cl fu) X) (hf : X.fn = fun _ => true) : XSs (F2 C k G cl fu) X W0 H0 (defBody (top 8)) ir2 :=
  (z_cons (z_ret (c_and (c_isiT cx fa.ok rfl rfl fa.b_isinstance fa.b_tuple (by kernel_rfl) (c_bor cx (by kernel_rfl)) rfl) (c_one (EV.toF (c_cmp .eq cx (EV.nToB (c_bltB (bl := .len) cx (o_len cx.K) rfl fa.b_len (by kernel_rfl) (r_cons (c_bor cx (by kernel_rfl)) r_nil rfl) (by kernel_rfl))) (c_bor cx (by kernel_rfl)) rfl))))) z_nil)
/-! is_pair -/
def N3 : List Str := [("value" : PySem.Str)]
def ir3 : Ss := (.cons (.ret (.call 2 (.cons (.var 0) (.cons (.cst (.int 2)) .nil)))) .nil)
abbrev F3 (C : Cst) (k : Nat) (G : Prg) (cl : Call) (fu : Nat) : Fx := ⟨C, k, N3, defScope (top 9), mdOf [], G, cl, fu⟩
theorem body3 {C : Cst} {k : Nat} {G : Prg} {cl : Call} {fu : Nat} (fa : Facts C G) {X : Cx} {H0 : Hp} {W0 : Wd} (cx : Ctx (F3 C k G cl fu) X) (hf : X.fn = fun _ => true) : XSs (F3 C k G cl fu) X W0 H0 (defBody (top 9)) ir3 :=
  (z_cons (z_ret (c_call cx fa.g_is_tuple_of (by kernel_rfl) (l_cons (c_var cx (by kernel_rfl) rfl) (l_cons c_int l_nil rfl) rfl) (by kernel_rfl))) z_nil)
/-! wrong_in -/
def N4 : List Str := [("value" : PySem.Str), ("least" : PySem.Str), ("most" : PySem.Str), ("is_right" : PySem.Str), ("index" : PySem.Str), ("each" : PySem.Str)]
def ir4 : Ss := (.cons (.iff (.or (.not (.isi .tuple (.var 0))) (.cmp .lt (.blt .len (.cons (.var 0) .nil)) (.var 1))) (.cons (.ret (.lst (.cons (.cst .non) .nil))) .nil) .nil) (.cons (.fr (.tp (.cons (.nm 4) (.cons (.nm 5) .nil))) (.enum (.var 0)) (.cons (.iff (.or (.cmp .eq (.var 4) (.var 2)) (.not (.callv 3 (.cons (.sl (.var 0) .non (.som (.var 4))) (.cons (.var 5) .nil))))) (.cons (.ret (.lst (.cons (.var 4) .nil))) .nil) .nil) .nil)) (.cons (.ret (.lst .nil)) .nil)))
abbrev F4 (C : Cst) (k : Nat) (G : Prg) (cl : Call) (fu : Nat) : Fx := ⟨C, k, N4, defScope (top 10), mdOf [], G, cl, fu⟩
theorem body4 {C : Cst} {k : Nat} {G : Prg} {cl : Call} {fu : Nat} (fa : Facts C G) {X : Cx} {H0 : Hp} {W0 : Wd} (cx : Ctx (F4 C k G cl fu) X) (hf : X.fn = fun _ => true) : XSs (F4 C k G cl fu) X W0 H0 (defBody (top 10)) ir4 :=
  (z_cons (z_if (t_w (w_or (t_not (t_val (c_isiT cx fa.ok rfl rfl fa.b_isinstance fa.b_tuple (by kernel_rfl) (c_bor cx (by kernel_rfl)) rfl) fun _ => rfl)) (w_or1 (t_cmp .lt cx (EV.nToB (c_bltB (bl := .len) cx (o_len cx.K) rfl fa.b_len (by kernel_rfl) (r_cons (c_bor cx (by kernel_rfl)) r_nil rfl) (by kernel_rfl))) (c_bor cx (by kernel_rfl)) rfl)))) (z_cons (z_ret (EV.toF (c_lst (l_cons c_non l_nil rfl)))) z_nil) z_nil) (z_cons (z_for cx (i_enum cx fa.b_enumerate (by kernel_rfl) (.inl rfl) (c_var cx (by kernel_rfl) rfl) rfl) (g_tup cx (g_cons (g_nm cx (by kernel_rfl) rfl) (g_cons (g_nm cx (by kernel_rfl) rfl) g_nil rfl) rfl) rfl rfl) (z_cons (z_if (t_w (w_or (t_cmp .eq cx (c_bor cx (by kernel_rfl)) (c_bor cx (by kernel_rfl)) rfl) (w_or1 (t_not (t_val (c_callv cx (by kernel_rfl) rfl (l_cons (EV.toF (c_sl cx (c_bor cx (by kernel_rfl)) x_non (x_som (c_bor cx (by kernel_rfl))))) (l_cons (c_var cx (by kernel_rfl) rfl) l_nil rfl) rfl) (by kernel_rfl)) fun _ => rfl))))) (z_cons (z_ret (EV.toF (c_lst (l_cons (c_var cx (by kernel_rfl) rfl) l_nil rfl)))) z_nil) z_nil) z_nil) (fun _ => rfl)) (z_cons (z_ret (EV.toF (c_lst l_nil))) z_nil)))
/-! are_all -/
def N5 : List Str := [("value" : PySem.Str), ("least" : PySem.Str), ("most" : PySem.Str), ("is_right" : PySem.Str)]
def ir5 : Ss := (.cons (.ret (.cmp .eq (.calll 4 (.cons (.var 0) (.cons (.var 1) (.cons (.var 2) .nil))) 44 [3]) (.lst .nil))) .nil)
abbrev F5 (C : Cst) (k : Nat) (G : Prg) (cl : Call) (fu : Nat) : Fx := ⟨C, k, N5, defScope (top 11), mdOf [], G, cl, fu⟩
theorem body5 {C : Cst} {k : Nat} {G : Prg} {cl : Call} {fu : Nat} (fa : Facts C G) {X : Cx} {H0 : Hp} {W0 : Wd} (cx : Ctx (F5 C k G cl fu) X) (hf : X.fn = fun _ => true) (hl0 : LamCx C X L0 32 40) : XSs (F5 C k G cl fu) X W0 H0 (defBody (top 11)) ir5 :=
  (z_cons (z_ret (EV.toF (c_cmp .eq cx (EV.toB (c_calll (L := L0) cx hf fa.g_wrong_in (by kernel_rfl) fa.lam_0 nsc0 (by kernel_rfl) (frz_all (by kernel_rfl)) (m_cons (c_var cx (by kernel_rfl) rfl) (m_cons (c_var cx (by kernel_rfl) rfl) (m_cons (c_var cx (by kernel_rfl) rfl) (m_lam' hl0 rfl cx (by kernel_rfl)) rfl) rfl) rfl) (by kernel_rfl))) (EV.nToB (c_lst l_nil)) rfl))) z_nil)
/-! is_letter -/
def N6 : List Str := [("value" : PySem.Str)]
def ir6 : Ss := (.cons (.ret (.call 0 (.cons (.var 0) (.cons (.blt .list (.cons (.cst (.str [97, 98, 99, 100, 101])) .nil)) .nil)))) .nil)
abbrev F6 (C : Cst) (k : Nat) (G : Prg) (cl : Call) (fu : Nat) : Fx := ⟨C, k, N6, defScope (top 19), mdOf [], G, cl, fu⟩
theorem body6 {C : Cst} {k : Nat} {G : Prg} {cl : Call} {fu : Nat} (fa : Facts C G) {X : Cx} {H0 : Hp} {W0 : Wd} (cx : Ctx (F6 C k G cl fu) X) (hf : X.fn = fun _ => true) : XSs (F6 C k G cl fu) X W0 H0 (defBody (top 19)) ir6 :=
  (z_cons (z_ret (c_call cx fa.g_is_one_of (by kernel_rfl) (l_cons (c_var cx (by kernel_rfl) rfl) (l_cons (EV.toF (c_bltT (bl := .list) cx (o_list cx.K cx.calm) rfl fa.b_list (by kernel_rfl) (r_cons (EV.toB (c_gstr (z := ("abcde" : PySem.Str)) cx (by kernel_rfl) fa.s_SIGNS (by kernel_rfl))) r_nil rfl) (by kernel_rfl))) l_nil rfl) rfl) (by kernel_rfl))) z_nil)
/-! is_kind_name -/
def N7 : List Str := [("value" : PySem.Str)]
def ir7 : Ss := (.cons (.ret (.and (.call 1 (.cons (.var 0) .nil)) (.cmp2 .le .le (.cst (.int 2)) (.blt .len (.cons (.var 0) .nil)) (.cst (.int 8))))) .nil)
abbrev F7 (C : Cst) (k : Nat) (G : Prg) (cl : Call) (fu : Nat) : Fx := ⟨C, k, N7, defScope (top 20), mdOf [], G, cl, fu⟩
theorem body7 {C : Cst} {k : Nat} {G : Prg} {cl : Call} {fu : Nat} (fa : Facts C G) {X : Cx} {H0 : Hp} {W0 : Wd} (cx : Ctx (F7 C k G cl fu) X) (hf : X.fn = fun _ => true) : XSs (F7 C k G cl fu) X W0 H0 (defBody (top 20)) ir7 :=
  (z_cons (z_ret (c_and (c_call cx fa.g_is_word (by kernel_rfl) (l_cons (c_var cx (by kernel_rfl) rfl) l_nil rfl) (by kernel_rfl)) (c_one (c_cmp2 .le .le cx (EV.toB (c_gint cx (by kernel_rfl) fa.i_LEAST_NAME (by kernel_rfl))) (EV.nToB (c_bltB (bl := .len) cx (o_len cx.K) rfl fa.b_len (by kernel_rfl) (r_cons (c_bor cx (by kernel_rfl)) r_nil rfl) (by kernel_rfl))) (EV.toB (c_gint cx (by kernel_rfl) fa.i_MOST_NAME (by kernel_rfl))) rfl)))) z_nil)
/-! is_rule -/
def N8 : List Str := [("value" : PySem.Str)]
def ir8 : Ss := (.cons (.iff (.or (.not (.call 3 (.cons (.var 0) .nil))) (.not (.call 7 (.cons (.idx (.var 0) (.cst (.int 0))) .nil)))) (.cons (.ret (.cst (.bl false))) .nil) .nil) (.cons (.ret (.calll 5 (.cons (.idx (.var 0) (.cst (.int 1))) (.cons (.cst (.int 0)) (.cons (.cst (.int 4)) .nil))) 45 [])) .nil))
abbrev F8 (C : Cst) (k : Nat) (G : Prg) (cl : Call) (fu : Nat) : Fx := ⟨C, k, N8, defScope (top 21), mdOf [], G, cl, fu⟩
theorem body8 {C : Cst} {k : Nat} {G : Prg} {cl : Call} {fu : Nat} (fa : Facts C G) {X : Cx} {H0 : Hp} {W0 : Wd} (cx : Ctx (F8 C k G cl fu) X) (hf : X.fn = fun _ => true) (hl1 : LamCx C X L1 47 43) : XSs (F8 C k G cl fu) X W0 H0 (defBody (top 21)) ir8 :=
  (z_cons (z_if (t_w (w_or (t_not (t_val (c_call cx fa.g_is_pair (by kernel_rfl) (l_cons (c_var cx (by kernel_rfl) rfl) l_nil rfl) (by kernel_rfl)) fun _ => rfl)) (w_or1 (t_not (t_val (c_call cx fa.g_is_kind_name (by kernel_rfl) (l_cons (c_idx cx (c_bor cx (by kernel_rfl)) (EV.toB c_int) rfl) l_nil rfl) (by kernel_rfl)) fun _ => rfl))))) (z_cons (z_ret c_bl) z_nil) z_nil) (z_cons (z_ret (c_calll (L := L1) cx hf fa.g_are_all (by kernel_rfl) fa.lam_1 nsc1 (by kernel_rfl) (frz_all (by kernel_rfl)) (m_cons (c_idx cx (c_bor cx (by kernel_rfl)) (EV.toB c_int) rfl) (m_cons c_int (m_cons (c_gint cx (by kernel_rfl) fa.i_MOST_BODY (by kernel_rfl)) (m_lam' hl1 rfl cx (by kernel_rfl)) rfl) rfl) rfl) (by kernel_rfl))) z_nil))
/-! kinds_of -/
def N9 : List Str := [("rules" : PySem.Str), ("found" : PySem.Str), ("kind" : PySem.Str), ("body" : PySem.Str), ("name" : PySem.Str)]
def ir9 : Ss := (.cons (.setn 1 (.lst .nil)) (.cons (.fr (.tp (.cons (.nm 2) (.cons (.nm 3) .nil))) (.e (.var 0)) (.cons (.ext 1 (.comp (.var 4) (.nm 4) (.e (.tup (.cons (.var 2) (.star (.var 3) .nil)))) (.som (.not (.call 6 (.cons (.var 4) .nil)))) [4])) .nil)) (.cons (.ret (.blt .list (.cons (.dcomp (.var 4) (.cst (.bl true)) (.nm 4) (.e (.var 1)) .non [4]) .nil))) .nil)))
abbrev F9 (C : Cst) (k : Nat) (G : Prg) (cl : Call) (fu : Nat) : Fx := ⟨C, k, N9, defScope (top 22), mdOf [1], G, cl, fu⟩
theorem body9 {C : Cst} {k : Nat} {G : Prg} {cl : Call} {fu : Nat} (fa : Facts C G) {X : Cx} {H0 : Hp} {W0 : Wd} (cx : Ctx (F9 C k G cl fu) X) (hf : X.fn = fun _ => true) : XSs (F9 C k G cl fu) X W0 H0 (defBody (top 22)) ir9 :=
  (z_cons (z_setn cx hf (by kernel_rfl) rfl (c_lst l_nil) rfl) (z_cons (z_for cx (i_e cx (.inl rfl) (c_var cx (by kernel_rfl) rfl)) (g_tup cx (g_cons (g_nm cx (by kernel_rfl) rfl) (g_cons (g_nm cx (by kernel_rfl) rfl) g_nil rfl) rfl) rfl rfl) (z_cons (z_ext cx (by kernel_rfl) rfl (EV.nToB (c_comp [(("name" : PySem.Str), 4)] cx (by kernel_rfl) (i_e cx (.inr rfl) (EV.toB (c_tup (l_cons (c_var cx (by kernel_rfl) rfl) (l_star cx (c_bor cx (by kernel_rfl)) l_nil) rfl)))) (by kernel_rfl) (fun _ cx hc => ⟨(g_nm cx (by kernel_rfl) rfl), (q_one (t_not (t_val (c_call cx fa.g_is_letter (by kernel_rfl) (l_cons (c_var cx (by kernel_rfl) rfl) l_nil rfl) (by kernel_rfl)) fun _ => rfl))), (c_var cx (by kernel_rfl) rfl)⟩) (fun _ => rfl) (by kernel_rfl))) rfl rfl rfl) z_nil) (fun _ => rfl)) (z_cons (z_ret (EV.toF (c_bltT (bl := .list) cx (o_list cx.K cx.calm) rfl fa.b_list (by kernel_rfl) (r_cons (EV.nToB (c_dcomp [(("name" : PySem.Str), 4)] cx (by kernel_rfl) (i_e cx (.inr rfl) (c_bor cx (by kernel_rfl))) (by kernel_rfl) (fun _ cx hc => ⟨(g_nm cx (by kernel_rfl) rfl), q_nil, (c_var cx (by kernel_rfl) rfl), c_bl⟩) (fun _ => rfl) (by kernel_rfl))) r_nil rfl) (by kernel_rfl)))) z_nil)))
/-! is_next_rule -/
def N10 : List Str := [("ahead" : PySem.Str), ("value" : PySem.Str)]
def ir10 : Ss := (.cons (.ret (.and (.call 8 (.cons (.var 1) .nil)) (.and (.cmp .notin (.var 1) (.var 0)) (.cmp .le (.blt .len (.cons (.call 9 (.cons (.lst (.star (.var 0) (.cons (.var 1) .nil))) .nil)) .nil)) (.cst (.int 8)))))) .nil)
abbrev F10 (C : Cst) (k : Nat) (G : Prg) (cl : Call) (fu : Nat) : Fx := ⟨C, k, N10, defScope (top 23), mdOf [], G, cl, fu⟩
theorem body10 {C : Cst} {k : Nat} {G : Prg} {cl : Call} {fu : Nat} (fa : Facts C G) {X : Cx} {H0 : Hp} {W0 : Wd} (cx : Ctx (F10 C k G cl fu) X) (hf : X.fn = fun _ => true) : XSs (F10 C k G cl fu) X W0 H0 (defBody (top 23)) ir10 :=
  (z_cons (z_ret (c_and (c_call cx fa.g_is_rule (by kernel_rfl) (l_cons (c_var cx (by kernel_rfl) rfl) l_nil rfl) (by kernel_rfl)) (c_and (EV.toF (c_cmp .notin cx (c_bor cx (by kernel_rfl)) (c_bor cx (by kernel_rfl)) rfl)) (c_one (EV.toF (c_cmp .le cx (EV.nToB (c_bltB (bl := .len) cx (o_len cx.K) rfl fa.b_len (by kernel_rfl) (r_cons (EV.toB (c_call cx fa.g_kinds_of (by kernel_rfl) (l_cons (EV.toF (c_lst (l_star cx (c_bor cx (by kernel_rfl)) (l_cons (c_var cx (by kernel_rfl) rfl) l_nil rfl)))) l_nil rfl) (by kernel_rfl))) r_nil rfl) (by kernel_rfl))) (EV.toB (c_gint cx (by kernel_rfl) fa.i_MOST_KINDS (by kernel_rfl))) rfl)))))) z_nil)
/-! wrong_in_rules -/
def N11 : List Str := [("value" : PySem.Str), ("found" : PySem.Str), ("own" : PySem.Str), ("kind" : PySem.Str), ("_" : PySem.Str), ("index" : PySem.Str), ("body" : PySem.Str), ("name" : PySem.Str)]
def ir11 : Ss := (.cons (.set 1 (.call 4 (.cons (.var 0) (.cons (.cst (.int 1)) (.cons (.cst (.int 16)) (.cons (.cst (.fn 10 [])) .nil)))))) (.cons (.iff (.cmp .ne (.var 1) (.lst .nil)) (.cons (.ret (.var 1)) .nil) .nil) (.cons (.set 2 (.comp (.var 3) (.tp (.cons (.nm 3) (.cons (.nm 4) .nil))) (.e (.var 0)) .non [3, 4])) (.cons (.ret (.sl (.comp (.var 5) (.tp (.cons (.nm 5) (.cons (.tp (.cons (.nm 4) (.cons (.nm 6) .nil))) .nil))) (.enum (.var 0)) (.som (.cmp .ne (.comp (.var 7) (.nm 7) (.e (.var 6)) (.som (.and (.not (.call 6 (.cons (.var 7) .nil))) (.cmp .notin (.var 7) (.var 2)))) [7]) (.lst .nil))) [5, 4, 6]) .non (.som (.cst (.int 1))))) .nil))))
abbrev F11 (C : Cst) (k : Nat) (G : Prg) (cl : Call) (fu : Nat) : Fx := ⟨C, k, N11, defScope (top 24), mdOf [], G, cl, fu⟩
theorem body11 {C : Cst} {k : Nat} {G : Prg} {cl : Call} {fu : Nat} (fa : Facts C G) {X : Cx} {H0 : Hp} {W0 : Wd} (cx : Ctx (F11 C k G cl fu) X) (hf : X.fn = fun _ => true) : XSs (F11 C k G cl fu) X W0 H0 (defBody (top 24)) ir11 :=
  (z_cons (z_set cx hf (by kernel_rfl) rfl (c_call cx fa.g_wrong_in (by kernel_rfl) (l_cons (c_var cx (by kernel_rfl) rfl) (l_cons c_int (l_cons (c_gint cx (by kernel_rfl) fa.i_MOST_RULES (by kernel_rfl)) (l_cons (c_gfn cx fa.g_is_next_rule (by kernel_rfl) (by kernel_rfl)) l_nil rfl) rfl) rfl) rfl) (by kernel_rfl)) rfl) (z_cons (z_if (t_cmp .ne cx (c_bor cx (by kernel_rfl)) (EV.nToB (c_lst l_nil)) rfl) (z_cons (z_ret (c_var cx (by kernel_rfl) rfl)) z_nil) z_nil) (z_cons (z_set cx hf (by kernel_rfl) rfl (EV.toF (c_comp [(("kind" : PySem.Str), 3), (("_" : PySem.Str), 4)] cx (by kernel_rfl) (i_e cx (.inr rfl) (c_bor cx (by kernel_rfl))) (by kernel_rfl) (fun _ cx hc => ⟨(g_tup cx (g_cons (g_nm cx (by kernel_rfl) rfl) (g_cons (g_nm cx (by kernel_rfl) rfl) g_nil rfl) rfl) rfl rfl), q_nil, (c_var cx (by kernel_rfl) rfl)⟩) (fun _ => rfl) (by kernel_rfl))) (cx.swW (by kernel_rfl))) (z_cons (z_ret (EV.toF (c_sl cx (EV.nToB (c_comp [(("index" : PySem.Str), 5), (("_" : PySem.Str), 4), (("body" : PySem.Str), 6)] cx (by kernel_rfl) (i_enum cx fa.b_enumerate (by kernel_rfl) (.inr rfl) (c_bor cx (by kernel_rfl)) rfl) (by kernel_rfl) (fun _ cx hc => ⟨(g_tup cx (g_cons (g_nm cx (by kernel_rfl) rfl) (g_cons (g_tup cx (g_cons (g_nm cx (by kernel_rfl) rfl) (g_cons (g_nm cx (by kernel_rfl) rfl) g_nil rfl) rfl) rfl rfl) g_nil rfl) rfl) rfl rfl), (q_one (t_cmp .ne cx (EV.nToB (c_comp [(("name" : PySem.Str), 7)] cx (by kernel_rfl) (i_e cx (.inr rfl) (c_bor cx (by kernel_rfl))) (by kernel_rfl) (fun _ cx hc => ⟨(g_nm cx (by kernel_rfl) rfl), (q_one (t_w (w_and (t_not (t_val (c_call cx fa.g_is_letter (by kernel_rfl) (l_cons (c_var cx (by kernel_rfl) rfl) l_nil rfl) (by kernel_rfl)) fun _ => rfl)) (w_and1 (t_cmp .notin cx (c_bor cx (by kernel_rfl)) (c_bor cx (by kernel_rfl)) rfl))))), (c_var cx (by kernel_rfl) rfl)⟩) (fun _ => rfl) (by kernel_rfl))) (EV.nToB (c_lst l_nil)) rfl)), (c_var cx (by kernel_rfl) rfl)⟩) (fun _ => rfl) (by kernel_rfl))) x_non (x_som (EV.toB c_int))))) z_nil))))
/-! Grammar.__init__ -/
def N12 : List Str := [("self" : PySem.Str), ("rules" : PySem.Str), ("index" : PySem.Str)]
def ir12 : Ss := (.cons (.fr (.nm 2) (.e (.call 11 (.cons (.var 1) .nil))) (.cons .stuck .nil)) (.cons (.setf (.var 0) 0 (.tup (.cons (.var 1) (.cons (.blt .tuple (.cons (.call 9 (.cons (.var 1) .nil)) .nil)) .nil)))) (.cons (.setf (.var 0) 1 .newd) .nil)))
abbrev F12 (C : Cst) (k : Nat) (G : Prg) (cl : Call) (fu : Nat) : Fx := ⟨C, k, N12, defScope (inClass (top 26) 0), mdOf [], G, cl, fu⟩
theorem body12 {C : Cst} {k : Nat} {G : Prg} {cl : Call} {fu : Nat} (fa : Facts C G) {X : Cx} {H0 : Hp} {W0 : Wd} (cx : Ctx (F12 C k G cl fu) X) (hf : X.fn = fun _ => true) : XSs (F12 C k G cl fu) X W0 H0 (defBody (inClass (top 26) 0)) ir12 :=
  (z_cons (z_for cx (i_e cx (.inl rfl) (c_call cx fa.g_wrong_in_rules (by kernel_rfl) (l_cons (c_var cx (by kernel_rfl) rfl) l_nil rfl) (by kernel_rfl))) (g_nm cx (by kernel_rfl) rfl) (z_cons z_stuck z_nil) (fun _ => rfl)) (z_cons (z_setf cx fa.ok fa.fld_all_told (c_bor cx (by kernel_rfl)) (c_tup (l_cons (c_var cx (by kernel_rfl) rfl) (l_cons (EV.toF (c_bltT (bl := .tuple) cx (o_tuple cx.K) rfl fa.b_tuple (by kernel_rfl) (r_cons (EV.toB (c_call cx fa.g_kinds_of (by kernel_rfl) (l_cons (c_var cx (by kernel_rfl) rfl) l_nil rfl) (by kernel_rfl))) r_nil rfl) (by kernel_rfl))) l_nil rfl) rfl)) rfl) (z_cons (z_setf cx fa.ok fa.fld_made_once (c_bor cx (by kernel_rfl)) c_newd rfl) z_nil)))
/-! Grammar.rules -/
def N13 : List Str := [("self" : PySem.Str)]
def ir13 : Ss := (.cons (.ret (.idx (.att (.var 0) 0) (.cst (.int 0)))) .nil)
abbrev F13 (C : Cst) (k : Nat) (G : Prg) (cl : Call) (fu : Nat) : Fx := ⟨C, k, N13, defScope (inClass (top 26) 1), mdOf [], G, cl, fu⟩
theorem body13 {C : Cst} {k : Nat} {G : Prg} {cl : Call} {fu : Nat} (fa : Facts C G) {X : Cx} {H0 : Hp} {W0 : Wd} (cx : Ctx (F13 C k G cl fu) X) (hf : X.fn = fun _ => true) : XSs (F13 C k G cl fu) X W0 H0 (defBody (inClass (top 26) 1)) ir13 :=
  (z_cons (z_ret (c_idx cx (EV.toB (c_att cx fa.ok fa.fld_all_told (c_bor cx (by kernel_rfl)) rfl)) (EV.toB c_int) rfl)) z_nil)
/-! Grammar.kinds -/
def N14 : List Str := [("self" : PySem.Str)]
def ir14 : Ss := (.cons (.ret (.idx (.att (.var 0) 0) (.cst (.int 1)))) .nil)
abbrev F14 (C : Cst) (k : Nat) (G : Prg) (cl : Call) (fu : Nat) : Fx := ⟨C, k, N14, defScope (inClass (top 26) 2), mdOf [], G, cl, fu⟩
theorem body14 {C : Cst} {k : Nat} {G : Prg} {cl : Call} {fu : Nat} (fa : Facts C G) {X : Cx} {H0 : Hp} {W0 : Wd} (cx : Ctx (F14 C k G cl fu) X) (hf : X.fn = fun _ => true) : XSs (F14 C k G cl fu) X W0 H0 (defBody (inClass (top 26) 2)) ir14 :=
  (z_cons (z_ret (c_idx cx (EV.toB (c_att cx fa.ok fa.fld_all_told (c_bor cx (by kernel_rfl)) rfl)) (EV.toB c_int) rfl)) z_nil)
/-! Grammar.parts -/
def N15 : List Str := [("self" : PySem.Str)]
def ir15 : Ss := (.cons (.ret (.sl (.att (.var 0) 0) .non (.som (.cst (.int 1))))) .nil)
abbrev F15 (C : Cst) (k : Nat) (G : Prg) (cl : Call) (fu : Nat) : Fx := ⟨C, k, N15, defScope (inClass (top 26) 3), mdOf [], G, cl, fu⟩
theorem body15 {C : Cst} {k : Nat} {G : Prg} {cl : Call} {fu : Nat} (fa : Facts C G) {X : Cx} {H0 : Hp} {W0 : Wd} (cx : Ctx (F15 C k G cl fu) X) (hf : X.fn = fun _ => true) : XSs (F15 C k G cl fu) X W0 H0 (defBody (inClass (top 26) 3)) ir15 :=
  (z_cons (z_ret (EV.toF (c_sl cx (EV.toB (c_att cx fa.ok fa.fld_all_told (c_bor cx (by kernel_rfl)) rfl)) x_non (x_som (EV.toB c_int))))) z_nil)
/-! Grammar.__eq__ -/
def N16 : List Str := [("self" : PySem.Str), ("other" : PySem.Str)]
def ir16 : Ss := (.cons (.ret (.and (.isi (.cls 0) (.var 1)) (.cmp .eq (.att (.var 0) 2) (.att (.var 1) 2)))) .nil)
abbrev F16 (C : Cst) (k : Nat) (G : Prg) (cl : Call) (fu : Nat) : Fx := ⟨C, k, N16, defScope (inClass (top 26) 4), mdOf [], G, cl, fu⟩
theorem body16 {C : Cst} {k : Nat} {G : Prg} {cl : Call} {fu : Nat} (fa : Facts C G) {X : Cx} {H0 : Hp} {W0 : Wd} (cx : Ctx (F16 C k G cl fu) X) (hf : X.fn = fun _ => true) : XSs (F16 C k G cl fu) X W0 H0 (defBody (inClass (top 26) 4)) ir16 :=
  (z_cons (z_ret (c_and (c_isiC cx fa.ok fa.cl_Grammar fa.ca_Grammar fa.b_isinstance (by kernel_rfl) (c_bor cx (by kernel_rfl)) rfl) (c_one (EV.toF (c_cmp .eq cx (EV.toB (c_att cx fa.ok fa.fld_parts (c_bor cx (by kernel_rfl)) rfl)) (EV.toB (c_att cx fa.ok fa.fld_parts (c_bor cx (by kernel_rfl)) rfl)) rfl))))) z_nil)
/-! Grammar.once -/
def N17 : List Str := [("self" : PySem.Str), ("key" : PySem.Str), ("make" : PySem.Str)]
def ir17 : Ss := (.cons (.iff (.cmp .notin (.var 1) (.att (.var 0) 1)) (.cons .stuck .nil) .nil) (.cons (.ret (.idx (.att (.var 0) 1) (.var 1))) .nil))
abbrev F17 (C : Cst) (k : Nat) (G : Prg) (cl : Call) (fu : Nat) : Fx := ⟨C, k, N17, defScope (inClass (top 26) 5), mdOf [], G, cl, fu⟩
theorem body17 {C : Cst} {k : Nat} {G : Prg} {cl : Call} {fu : Nat} (fa : Facts C G) {X : Cx} {H0 : Hp} {W0 : Wd} (cx : Ctx (F17 C k G cl fu) X) (hf : X.fn = fun _ => true) : XSs (F17 C k G cl fu) X W0 H0 (defBody (inClass (top 26) 5)) ir17 :=
  (z_cons (z_if (t_cmp .notin cx (c_bor cx (by kernel_rfl)) (EV.toB (c_att cx fa.ok fa.fld_made_once (c_bor cx (by kernel_rfl)) rfl)) rfl) (z_cons z_stuck z_nil) z_nil) (z_cons (z_ret (c_idx cx (EV.toB (c_att cx fa.ok fa.fld_made_once (c_bor cx (by kernel_rfl)) rfl)) (c_bor cx (by kernel_rfl)) rfl)) z_nil))
/-! check_grammar -/
def N18 : List Str := [("grammar" : PySem.Str)]
def ir18 : Ss := (.cons (.iff (.not (.isi (.cls 0) (.var 0))) (.cons .stuck .nil) .nil) .nil)
abbrev F18 (C : Cst) (k : Nat) (G : Prg) (cl : Call) (fu : Nat) : Fx := ⟨C, k, N18, defScope (top 27), mdOf [], G, cl, fu⟩
theorem body18 {C : Cst} {k : Nat} {G : Prg} {cl : Call} {fu : Nat} (fa : Facts C G) {X : Cx} {H0 : Hp} {W0 : Wd} (cx : Ctx (F18 C k G cl fu) X) (hf : X.fn = fun _ => true) : XSs (F18 C k G cl fu) X W0 H0 (defBody (top 27)) ir18 :=
  (z_cons (z_if (t_not (t_val (c_isiC cx fa.ok fa.cl_Grammar fa.ca_Grammar fa.b_isinstance (by kernel_rfl) (c_bor cx (by kernel_rfl)) rfl) fun _ => rfl)) (z_cons z_stuck z_nil) z_nil) z_nil)
/-! makers -/
def N19 : List Str := [("grammar" : PySem.Str), ("does_make" : PySem.Str), ("found" : PySem.Str), ("is_new" : PySem.Str), ("more" : PySem.Str), ("kind" : PySem.Str), ("body" : PySem.Str), ("name" : PySem.Str)]
def ir19 : Ss := (.cons (.unp (.tp (.cons (.nm 2) (.cons (.nm 3) .nil))) (.tup (.cons (.lst .nil) (.cons (.cst (.bl true)) .nil)))) (.cons (.whl (.var 3) (.cons (.set 4 (.comp (.var 5) (.tp (.cons (.nm 5) (.cons (.nm 6) .nil))) (.e (.att (.var 0) 4)) (.som (.and (.cmp .notin (.var 5) (.var 2)) (.blt .all (.cons (.comp (.ite (.call 6 (.cons (.var 7) .nil)) (.var 1) (.cmp .isin (.var 7) (.var 2))) (.nm 7) (.e (.var 6)) .non [7]) .nil)))) [5, 6])) (.cons (.unp (.tp (.cons (.nm 2) (.cons (.nm 3) .nil))) (.tup (.cons (.lst (.star (.var 2) (.star (.var 4) .nil))) (.cons (.cmp .ne (.var 4) (.lst .nil)) .nil)))) .nil))) (.cons (.ret (.comp (.var 5) (.nm 5) (.e (.att (.var 0) 3)) (.som (.cmp .isin (.var 5) (.var 2))) [5])) .nil)))
abbrev F19 (C : Cst) (k : Nat) (G : Prg) (cl : Call) (fu : Nat) : Fx := ⟨C, k, N19, defScope (top 29), mdOf [], G, cl, fu⟩
theorem body19 {C : Cst} {k : Nat} {G : Prg} {cl : Call} {fu : Nat} (fa : Facts C G) {X : Cx} {H0 : Hp} {W0 : Wd} (cx : Ctx (F19 C k G cl fu) X) (hf : X.fn = fun _ => true) : XSs (F19 C k G cl fu) X W0 H0 (defBody (top 29)) ir19 :=
  (z_cons (z_unp (c_tup (l_cons (EV.toF (c_lst l_nil)) (l_cons c_bl l_nil rfl) rfl)) (g_tup cx (g_cons (g_nmC cx hf (by kernel_rfl) rfl) (g_cons (g_nm cx (by kernel_rfl) rfl) g_nil rfl) rfl) rfl rfl) rfl (cx.swS (by kernel_rfl)) rfl) (z_cons (z_whl cx (t_val (c_var cx (by kernel_rfl) rfl) fun _ => rfl) (z_cons (z_setc [(("kind" : PySem.Str), 5), (("body" : PySem.Str), 6)] cx (by kernel_rfl) rfl (cx.swW (by kernel_rfl)) (i_e cx (.inr rfl) (EV.toB (c_att cx fa.ok fa.fld_rules (c_bor cx (by kernel_rfl)) rfl))) (by kernel_rfl) (fun _ cx hc => ⟨(g_tup cx (g_cons (g_nm cx (by kernel_rfl) rfl) (g_cons (g_nm cx (by kernel_rfl) rfl) g_nil rfl) rfl) rfl rfl), (q_one (t_w (w_and (t_cmp .notin cx (c_bor cx (by kernel_rfl)) (c_bor cx (by kernel_rfl)) rfl) (w_and1 (t_val (EV.toF (c_bltB (bl := .all) cx (o_all cx.K cx.calm) rfl fa.b_all (by kernel_rfl) (r_cons (EV.nToB (c_comp [(("name" : PySem.Str), 7)] cx (by kernel_rfl) (i_e cx (.inr rfl) (c_bor cx (by kernel_rfl))) (by kernel_rfl) (fun _ cx hc => ⟨(g_nm cx (by kernel_rfl) rfl), q_nil, (c_ite (t_val (c_call cx fa.g_is_letter (by kernel_rfl) (l_cons (c_var cx (by kernel_rfl) rfl) l_nil rfl) (by kernel_rfl)) fun _ => rfl) (c_var cx (by kernel_rfl) rfl) (EV.toF (c_cmp .isin cx (c_bor cx (by kernel_rfl)) (c_bor cx (by kernel_rfl)) rfl)))⟩) (fun _ => rfl) (by kernel_rfl))) r_nil rfl) (by kernel_rfl))) fun _ => rfl))))), (c_var cx (by kernel_rfl) rfl)⟩) (fun _ => rfl) (by kernel_rfl)) (z_cons (z_unp (c_tup (l_cons (EV.toF (c_lst (l_star cx (c_bor cx (by kernel_rfl)) (l_star cx (c_bor cx (by kernel_rfl)) l_nil)))) (l_cons (EV.toF (c_cmp .ne cx (c_bor cx (by kernel_rfl)) (EV.nToB (c_lst l_nil)) rfl)) l_nil rfl) rfl)) (g_tup cx (g_cons (g_nmC cx hf (by kernel_rfl) rfl) (g_cons (g_nm cx (by kernel_rfl) rfl) g_nil rfl) rfl) rfl rfl) rfl (cx.swS (by kernel_rfl)) rfl) z_nil))) (z_cons (z_ret (EV.toF (c_comp [(("kind" : PySem.Str), 5)] cx (by kernel_rfl) (i_e cx (.inr rfl) (EV.toB (c_att cx fa.ok fa.fld_kinds (c_bor cx (by kernel_rfl)) rfl))) (by kernel_rfl) (fun _ cx hc => ⟨(g_nm cx (by kernel_rfl) rfl), (q_one (t_cmp .isin cx (c_bor cx (by kernel_rfl)) (c_bor cx (by kernel_rfl)) rfl)), (c_var cx (by kernel_rfl) rfl)⟩) (fun _ => rfl) (by kernel_rfl)))) z_nil)))
/-! barren_by -/
def N20 : List Str := [("grammar" : PySem.Str), ("fruitful" : PySem.Str), ("kind" : PySem.Str)]
def ir20 : Ss := (.cons (.set 1 (.call 19 (.cons (.var 0) (.cons (.cst (.bl true)) .nil)))) (.cons (.ret (.comp (.var 2) (.nm 2) (.e (.att (.var 0) 3)) (.som (.cmp .notin (.var 2) (.var 1))) [2])) .nil))
abbrev F20 (C : Cst) (k : Nat) (G : Prg) (cl : Call) (fu : Nat) : Fx := ⟨C, k, N20, defScope (top 30), mdOf [], G, cl, fu⟩
theorem body20 {C : Cst} {k : Nat} {G : Prg} {cl : Call} {fu : Nat} (fa : Facts C G) {X : Cx} {H0 : Hp} {W0 : Wd} (cx : Ctx (F20 C k G cl fu) X) (hf : X.fn = fun _ => true) : XSs (F20 C k G cl fu) X W0 H0 (defBody (top 30)) ir20 :=
  (z_cons (z_set cx hf (by kernel_rfl) rfl (c_call cx fa.g_makers (by kernel_rfl) (l_cons (c_var cx (by kernel_rfl) rfl) (l_cons c_bl l_nil rfl) rfl) (by kernel_rfl)) rfl) (z_cons (z_ret (EV.toF (c_comp [(("kind" : PySem.Str), 2)] cx (by kernel_rfl) (i_e cx (.inr rfl) (EV.toB (c_att cx fa.ok fa.fld_kinds (c_bor cx (by kernel_rfl)) rfl))) (by kernel_rfl) (fun _ cx hc => ⟨(g_nm cx (by kernel_rfl) rfl), (q_one (t_cmp .notin cx (c_bor cx (by kernel_rfl)) (c_bor cx (by kernel_rfl)) rfl)), (c_var cx (by kernel_rfl) rfl)⟩) (fun _ => rfl) (by kernel_rfl)))) z_nil))
/-! empties_by -/
def N21 : List Str := [("grammar" : PySem.Str)]
def ir21 : Ss := (.cons (.ret (.call 19 (.cons (.var 0) (.cons (.cst (.bl false)) .nil)))) .nil)
abbrev F21 (C : Cst) (k : Nat) (G : Prg) (cl : Call) (fu : Nat) : Fx := ⟨C, k, N21, defScope (top 31), mdOf [], G, cl, fu⟩
theorem body21 {C : Cst} {k : Nat} {G : Prg} {cl : Call} {fu : Nat} (fa : Facts C G) {X : Cx} {H0 : Hp} {W0 : Wd} (cx : Ctx (F21 C k G cl fu) X) (hf : X.fn = fun _ => true) : XSs (F21 C k G cl fu) X W0 H0 (defBody (top 31)) ir21 :=
  (z_cons (z_ret (c_call cx fa.g_makers (by kernel_rfl) (l_cons (c_var cx (by kernel_rfl) rfl) (l_cons c_bl l_nil rfl) rfl) (by kernel_rfl))) z_nil)
/-! alone_in -/
def N22 : List Str := [("body" : PySem.Str), ("empties" : PySem.Str), ("at" : PySem.Str), ("name" : PySem.Str), ("other" : PySem.Str)]
def ir22 : Ss := (.cons (.ret (.comp (.var 3) (.tp (.cons (.nm 2) (.cons (.nm 3) .nil))) (.enum (.var 0)) (.som (.and (.not (.call 6 (.cons (.var 3) .nil))) (.blt .all (.cons (.comp (.cmp .isin (.var 4) (.var 1)) (.nm 4) (.e (.tup (.star (.sl (.var 0) .non (.som (.var 2))) (.star (.sl (.var 0) (.som (.bin .add (.var 2) (.cst (.int 1)))) .non) .nil)))) .non [4]) .nil)))) [2, 3])) .nil)
abbrev F22 (C : Cst) (k : Nat) (G : Prg) (cl : Call) (fu : Nat) : Fx := ⟨C, k, N22, defScope (top 32), mdOf [], G, cl, fu⟩
theorem body22 {C : Cst} {k : Nat} {G : Prg} {cl : Call} {fu : Nat} (fa : Facts C G) {X : Cx} {H0 : Hp} {W0 : Wd} (cx : Ctx (F22 C k G cl fu) X) (hf : X.fn = fun _ => true) : XSs (F22 C k G cl fu) X W0 H0 (defBody (top 32)) ir22 :=
  (z_cons (z_ret (EV.toF (c_comp [(("at" : PySem.Str), 2), (("name" : PySem.Str), 3)] cx (by kernel_rfl) (i_enum cx fa.b_enumerate (by kernel_rfl) (.inr rfl) (c_bor cx (by kernel_rfl)) rfl) (by kernel_rfl) (fun _ cx hc => ⟨(g_tup cx (g_cons (g_nm cx (by kernel_rfl) rfl) (g_cons (g_nm cx (by kernel_rfl) rfl) g_nil rfl) rfl) rfl rfl), (q_one (t_w (w_and (t_not (t_val (c_call cx fa.g_is_letter (by kernel_rfl) (l_cons (c_var cx (by kernel_rfl) rfl) l_nil rfl) (by kernel_rfl)) fun _ => rfl)) (w_and1 (t_val (EV.toF (c_bltB (bl := .all) cx (o_all cx.K cx.calm) rfl fa.b_all (by kernel_rfl) (r_cons (EV.nToB (c_comp [(("other" : PySem.Str), 4)] cx (by kernel_rfl) (i_e cx (.inr rfl) (EV.toB (c_tup (l_star cx (EV.nToB (c_sl cx (c_bor cx (by kernel_rfl)) x_non (x_som (c_bor cx (by kernel_rfl))))) (l_star cx (EV.nToB (c_sl cx (c_bor cx (by kernel_rfl)) (x_som (EV.nToB (c_add cx (c_bor cx (by kernel_rfl)) (EV.toB c_int)))) x_non)) l_nil))))) (by kernel_rfl) (fun _ cx hc => ⟨(g_nm cx (by kernel_rfl) rfl), q_nil, (EV.toF (c_cmp .isin cx (c_bor cx (by kernel_rfl)) (c_bor cx (by kernel_rfl)) rfl))⟩) (fun _ => rfl) (by kernel_rfl))) r_nil rfl) (by kernel_rfl))) fun _ => rfl))))), (c_var cx (by kernel_rfl) rfl)⟩) (fun _ => rfl) (by kernel_rfl)))) z_nil)
/-! leads_alone -/
def N23 : List Str := [("grammar" : PySem.Str), ("kind" : PySem.Str), ("empties" : PySem.Str), ("found" : PySem.Str), ("body" : PySem.Str)]
def ir23 : Ss := (.cons (.par [2, 3] (.cons (.call 21 (.cons (.var 0) .nil)) (.cons (.box (.dcomp (.var 1) (.lst .nil) (.nm 1) (.e (.att (.var 0) 3)) .non [1])) .nil))) (.cons (.fr (.tp (.cons (.nm 1) (.cons (.nm 4) .nil))) (.e (.att (.var 0) 4)) (.cons (.seto (.var 3) (.var 1) (.lst (.star (.idx (.var 3) (.var 1)) (.star (.call 22 (.cons (.var 4) (.cons (.var 2) .nil))) .nil)))) .nil)) (.cons (.ret (.var 3)) .nil)))
abbrev F23 (C : Cst) (k : Nat) (G : Prg) (cl : Call) (fu : Nat) : Fx := ⟨C, k, N23, defScope (top 33), mdOf [], G, cl, fu⟩
theorem body23 {C : Cst} {k : Nat} {G : Prg} {cl : Call} {fu : Nat} (fa : Facts C G) {X : Cx} {H0 : Hp} {W0 : Wd} (cx : Ctx (F23 C k G cl fu) X) (hf : X.fn = fun _ => true) : XSs (F23 C k G cl fu) X W0 H0 (defBody (top 33)) ir23 :=
  (z_cons (z_par2 cx (by kernel_rfl) (by kernel_rfl) (by decide) (l_cons (c_call cx fa.g_empties_by (by kernel_rfl) (l_cons (c_var cx (by kernel_rfl) rfl) l_nil rfl) (by kernel_rfl)) (l_cons (c_box (c_dcomp [(("kind" : PySem.Str), 1)] cx (by kernel_rfl) (i_e cx (.inr rfl) (EV.toB (c_att cx fa.ok fa.fld_kinds (c_bor cx (by kernel_rfl)) rfl))) (by kernel_rfl) (fun _ cx hc => ⟨(g_nm cx (by kernel_rfl) rfl), q_nil, (c_var cx (by kernel_rfl) rfl), (EV.toF (c_lst l_nil))⟩) (fun _ => rfl) (by kernel_rfl))) l_nil rfl) rfl) (cx.swS (by kernel_rfl)) rfl rfl rfl) (z_cons (z_for cx (i_e cx (.inl rfl) (c_att cx fa.ok fa.fld_rules (c_bor cx (by kernel_rfl)) rfl)) (g_tup cx (g_cons (g_nm cx (by kernel_rfl) rfl) (g_cons (g_nm cx (by kernel_rfl) rfl) g_nil rfl) rfl) rfl rfl) (z_cons (z_seto cx (c_bor cx (by kernel_rfl)) (c_bor cx (by kernel_rfl)) (EV.toF (c_lst (l_star cx (EV.toB (c_idx cx (c_bor cx (by kernel_rfl)) (c_bor cx (by kernel_rfl)) rfl)) (l_star cx (EV.toB (c_call cx fa.g_alone_in (by kernel_rfl) (l_cons (c_var cx (by kernel_rfl) rfl) (l_cons (c_var cx (by kernel_rfl) rfl) l_nil rfl) rfl) (by kernel_rfl))) l_nil)))) rfl rfl rfl rfl) z_nil) (fun _ => rfl)) (z_cons (z_ret (c_var cx (by kernel_rfl) rfl)) z_nil)))
/-! reached_from -/
def N24 : List Str := [("leads" : PySem.Str), ("kind" : PySem.Str), ("found" : PySem.Str), ("line" : PySem.Str), ("there" : PySem.Str)]
def ir24 : Ss := (.cons (.par [2, 3] (.cons .newd (.cons (.box (.blt .list (.cons (.idx (.var 0) (.var 1)) .nil))) .nil))) (.cons (.whl (.emp true (.var 3)) (.cons (.set 4 (.popo (.var 3))) (.cons (.iff (.cmp .notin (.var 4) (.var 2)) (.cons (.seto (.var 2) (.var 4) (.cst (.bl true))) (.cons (.exto (.var 3) (.idx (.var 0) (.var 4))) .nil)) .nil) .nil))) (.cons (.ret (.var 2)) .nil)))
abbrev F24 (C : Cst) (k : Nat) (G : Prg) (cl : Call) (fu : Nat) : Fx := ⟨C, k, N24, defScope (top 34), mdOf [], G, cl, fu⟩
theorem body24 {C : Cst} {k : Nat} {G : Prg} {cl : Call} {fu : Nat} (fa : Facts C G) {X : Cx} {H0 : Hp} {W0 : Wd} (cx : Ctx (F24 C k G cl fu) X) (hf : X.fn = fun _ => true) : XSs (F24 C k G cl fu) X W0 H0 (defBody (top 34)) ir24 :=
  (z_cons (z_par2 cx (by kernel_rfl) (by kernel_rfl) (by decide) (l_cons c_newd (l_cons (c_box (c_bltT (bl := .list) cx (o_list cx.K cx.calm) rfl fa.b_list (by kernel_rfl) (r_cons (EV.toB (c_idx cx (c_bor cx (by kernel_rfl)) (c_bor cx (by kernel_rfl)) rfl)) r_nil rfl) (by kernel_rfl))) l_nil rfl) rfl) (cx.swS (by kernel_rfl)) rfl rfl rfl) (z_cons (z_whl cx (t_nemp cx (c_bor cx (by kernel_rfl)) rfl) (z_cons (z_set cx hf (by kernel_rfl) rfl (c_popo cx (c_bor cx (by kernel_rfl)) (by kernel_rfl)) rfl) (z_cons (z_if (t_cmp .notin cx (c_bor cx (by kernel_rfl)) (c_bor cx (by kernel_rfl)) rfl) (z_cons (z_seto cx (c_bor cx (by kernel_rfl)) (c_bor cx (by kernel_rfl)) c_bl rfl rfl rfl rfl) (z_cons (z_exto cx (c_bor cx (by kernel_rfl)) (EV.toB (c_idx cx (c_bor cx (by kernel_rfl)) (c_bor cx (by kernel_rfl)) rfl)) (by kernel_rfl) rfl) z_nil)) z_nil) z_nil))) (z_cons (z_ret (c_var cx (by kernel_rfl) rfl)) z_nil)))
/-! turning_by -/
def N25 : List Str := [("grammar" : PySem.Str), ("leads" : PySem.Str), ("kind" : PySem.Str)]
def ir25 : Ss := (.cons (.set 1 (.call 23 (.cons (.var 0) .nil))) (.cons (.ret (.comp (.var 2) (.nm 2) (.e (.att (.var 0) 3)) (.som (.cmp .isin (.var 2) (.call 24 (.cons (.var 1) (.cons (.var 2) .nil))))) [2])) .nil))
abbrev F25 (C : Cst) (k : Nat) (G : Prg) (cl : Call) (fu : Nat) : Fx := ⟨C, k, N25, defScope (top 35), mdOf [], G, cl, fu⟩
theorem body25 {C : Cst} {k : Nat} {G : Prg} {cl : Call} {fu : Nat} (fa : Facts C G) {X : Cx} {H0 : Hp} {W0 : Wd} (cx : Ctx (F25 C k G cl fu) X) (hf : X.fn = fun _ => true) : XSs (F25 C k G cl fu) X W0 H0 (defBody (top 35)) ir25 :=
  (z_cons (z_set cx hf (by kernel_rfl) rfl (c_call cx fa.g_leads_alone (by kernel_rfl) (l_cons (c_var cx (by kernel_rfl) rfl) l_nil rfl) (by kernel_rfl)) rfl) (z_cons (z_ret (EV.toF (c_comp [(("kind" : PySem.Str), 2)] cx (by kernel_rfl) (i_e cx (.inr rfl) (EV.toB (c_att cx fa.ok fa.fld_kinds (c_bor cx (by kernel_rfl)) rfl))) (by kernel_rfl) (fun _ cx hc => ⟨(g_nm cx (by kernel_rfl) rfl), (q_one (t_cmp .isin cx (c_bor cx (by kernel_rfl)) (EV.toB (c_call cx fa.g_reached_from (by kernel_rfl) (l_cons (c_var cx (by kernel_rfl) rfl) (l_cons (c_var cx (by kernel_rfl) rfl) l_nil rfl) rfl) (by kernel_rfl))) rfl)), (c_var cx (by kernel_rfl) rfl)⟩) (fun _ => rfl) (by kernel_rfl)))) z_nil))
/-! wrong_kinds -/
def N26 : List Str := [("grammar" : PySem.Str)]
def ir26 : Ss := (.cons (.ret (.sl (.lst (.star (.call 20 (.cons (.var 0) .nil)) (.star (.call 25 (.cons (.var 0) .nil)) .nil))) .non (.som (.cst (.int 1))))) .nil)
abbrev F26 (C : Cst) (k : Nat) (G : Prg) (cl : Call) (fu : Nat) : Fx := ⟨C, k, N26, defScope (top 36), mdOf [], G, cl, fu⟩
theorem body26 {C : Cst} {k : Nat} {G : Prg} {cl : Call} {fu : Nat} (fa : Facts C G) {X : Cx} {H0 : Hp} {W0 : Wd} (cx : Ctx (F26 C k G cl fu) X) (hf : X.fn = fun _ => true) : XSs (F26 C k G cl fu) X W0 H0 (defBody (top 36)) ir26 :=
  (z_cons (z_ret (EV.toF (c_sl cx (EV.nToB (c_lst (l_star cx (EV.toB (c_call cx fa.g_barren_by (by kernel_rfl) (l_cons (c_var cx (by kernel_rfl) rfl) l_nil rfl) (by kernel_rfl))) (l_star cx (EV.toB (c_call cx fa.g_turning_by (by kernel_rfl) (l_cons (c_var cx (by kernel_rfl) rfl) l_nil rfl) (by kernel_rfl))) l_nil)))) x_non (x_som (EV.toB c_int))))) z_nil)
/-! first_barren -/
def N27 : List Str := [("grammar" : PySem.Str), ("found" : PySem.Str)]
def ir27 : Ss := (.cons (.exp (.call 18 (.cons (.var 0) .nil))) (.cons (.set 1 (.call 20 (.cons (.var 0) .nil))) (.cons (.ret (.ite (.cmp .ne (.var 1) (.lst .nil)) (.idx (.var 1) (.cst (.int 0))) (.cst .non))) .nil)))
abbrev F27 (C : Cst) (k : Nat) (G : Prg) (cl : Call) (fu : Nat) : Fx := ⟨C, k, N27, defScope (top 38), mdOf [], G, cl, fu⟩
theorem body27 {C : Cst} {k : Nat} {G : Prg} {cl : Call} {fu : Nat} (fa : Facts C G) {X : Cx} {H0 : Hp} {W0 : Wd} (cx : Ctx (F27 C k G cl fu) X) (hf : X.fn = fun _ => true) : XSs (F27 C k G cl fu) X W0 H0 (defBody (top 38)) ir27 :=
  (z_cons (z_exp (c_call cx fa.g_check_grammar (by kernel_rfl) (l_cons (c_var cx (by kernel_rfl) rfl) l_nil rfl) (by kernel_rfl)) rfl) (z_cons (z_set cx hf (by kernel_rfl) rfl (c_call cx fa.g_barren_by (by kernel_rfl) (l_cons (c_var cx (by kernel_rfl) rfl) l_nil rfl) (by kernel_rfl)) rfl) (z_cons (z_ret (c_ite (t_cmp .ne cx (c_bor cx (by kernel_rfl)) (EV.nToB (c_lst l_nil)) rfl) (c_idx cx (c_bor cx (by kernel_rfl)) (EV.toB c_int) rfl) c_non)) z_nil)))
/-! first_turning -/
def N28 : List Str := [("grammar" : PySem.Str), ("found" : PySem.Str)]
def ir28 : Ss := (.cons (.exp (.call 18 (.cons (.var 0) .nil))) (.cons (.set 1 (.call 25 (.cons (.var 0) .nil))) (.cons (.ret (.ite (.cmp .ne (.var 1) (.lst .nil)) (.idx (.var 1) (.cst (.int 0))) (.cst .non))) .nil)))
abbrev F28 (C : Cst) (k : Nat) (G : Prg) (cl : Call) (fu : Nat) : Fx := ⟨C, k, N28, defScope (top 39), mdOf [], G, cl, fu⟩
theorem body28 {C : Cst} {k : Nat} {G : Prg} {cl : Call} {fu : Nat} (fa : Facts C G) {X : Cx} {H0 : Hp} {W0 : Wd} (cx : Ctx (F28 C k G cl fu) X) (hf : X.fn = fun _ => true) : XSs (F28 C k G cl fu) X W0 H0 (defBody (top 39)) ir28 :=
  (z_cons (z_exp (c_call cx fa.g_check_grammar (by kernel_rfl) (l_cons (c_var cx (by kernel_rfl) rfl) l_nil rfl) (by kernel_rfl)) rfl) (z_cons (z_set cx hf (by kernel_rfl) rfl (c_call cx fa.g_turning_by (by kernel_rfl) (l_cons (c_var cx (by kernel_rfl) rfl) l_nil rfl) (by kernel_rfl)) rfl) (z_cons (z_ret (c_ite (t_cmp .ne cx (c_bor cx (by kernel_rfl)) (EV.nToB (c_lst l_nil)) rfl) (c_idx cx (c_bor cx (by kernel_rfl)) (EV.toB c_int) rfl) c_non)) z_nil)))
/-! empty_kinds -/
def N29 : List Str := [("grammar" : PySem.Str)]
def ir29 : Ss := (.cons (.exp (.call 18 (.cons (.var 0) .nil))) (.cons (.ret (.blt .tuple (.cons (.call 21 (.cons (.var 0) .nil)) .nil))) .nil))
abbrev F29 (C : Cst) (k : Nat) (G : Prg) (cl : Call) (fu : Nat) : Fx := ⟨C, k, N29, defScope (top 40), mdOf [], G, cl, fu⟩
theorem body29 {C : Cst} {k : Nat} {G : Prg} {cl : Call} {fu : Nat} (fa : Facts C G) {X : Cx} {H0 : Hp} {W0 : Wd} (cx : Ctx (F29 C k G cl fu) X) (hf : X.fn = fun _ => true) : XSs (F29 C k G cl fu) X W0 H0 (defBody (top 40)) ir29 :=
  (z_cons (z_exp (c_call cx fa.g_check_grammar (by kernel_rfl) (l_cons (c_var cx (by kernel_rfl) rfl) l_nil rfl) (by kernel_rfl)) rfl) (z_cons (z_ret (EV.toF (c_bltT (bl := .tuple) cx (o_tuple cx.K) rfl fa.b_tuple (by kernel_rfl) (r_cons (EV.toB (c_call cx fa.g_empties_by (by kernel_rfl) (l_cons (c_var cx (by kernel_rfl) rfl) l_nil rfl) (by kernel_rfl))) r_nil rfl) (by kernel_rfl)))) z_nil))
/-! is_let_by -/
def N30 : List Str := [("grammar" : PySem.Str)]
def ir30 : Ss := (.cons (.exp (.call 18 (.cons (.var 0) .nil))) (.cons (.ret (.cmp .eq (.call 26 (.cons (.var 0) .nil)) (.lst .nil))) .nil))
abbrev F30 (C : Cst) (k : Nat) (G : Prg) (cl : Call) (fu : Nat) : Fx := ⟨C, k, N30, defScope (top 41), mdOf [], G, cl, fu⟩
theorem body30 {C : Cst} {k : Nat} {G : Prg} {cl : Call} {fu : Nat} (fa : Facts C G) {X : Cx} {H0 : Hp} {W0 : Wd} (cx : Ctx (F30 C k G cl fu) X) (hf : X.fn = fun _ => true) : XSs (F30 C k G cl fu) X W0 H0 (defBody (top 41)) ir30 :=
  (z_cons (z_exp (c_call cx fa.g_check_grammar (by kernel_rfl) (l_cons (c_var cx (by kernel_rfl) rfl) l_nil rfl) (by kernel_rfl)) rfl) (z_cons (z_ret (EV.toF (c_cmp .eq cx (EV.toB (c_call cx fa.g_wrong_kinds (by kernel_rfl) (l_cons (c_var cx (by kernel_rfl) rfl) l_nil rfl) (by kernel_rfl))) (EV.nToB (c_lst l_nil)) rfl))) z_nil))
/-! _law_bowl -/
def N31 : List Str := [("script" : PySem.Str), ("lap" : PySem.Str), ("stir" : PySem.Str), ("cell" : PySem.Str), ("own" : PySem.Str)]
def ir31 : Ss := (.cons (.set 2 (.bin .add (.cst (.int 771041)) (.bin .mul (.cst (.int 8819)) (.var 1)))) (.cons (.fr (.nm 3) (.e (.sl (.var 0) .non (.som (.cst (.int 9))))) (.cons (.set 2 (.bin .mod (.blt .int (.cons (.bin .add (.bin .add (.bin .mul (.var 2) (.cst (.int 48611))) (.bin .mul (.bin .mod (.blt .int (.cons (.var 3) .nil)) (.cst (.int 2147483053))) (.cst (.int 19)))) (.cst (.int 41))) .nil)) (.cst (.int 2147483563)))) .nil)) (.cons (.set 4 (.ite (.cmp .lt (.var 1) (.blt .len (.cons (.var 0) .nil))) (.blt .int (.cons (.idx (.var 0) (.var 1)) .nil)) (.cst (.int 0)))) (.cons (.set 2 (.bin .mod (.blt .int (.cons (.bin .add (.bin .add (.bin .mul (.var 2) (.cst (.int 53))) (.bin .mul (.bin .mod (.var 4) (.cst (.int 2147483053))) (.cst (.int 27011)))) (.cst (.int 11))) .nil)) (.cst (.int 2147483563)))) (.cons (.ret (.newl (.cons (.ite (.or (.cmp .lt (.var 4) (.cst (.int 0))) (.cmp .ge (.var 4) (.bin .pow (.cst (.int 10)) (.cst (.int 16))))) (.blt .abs (.cons (.var 4) .nil)) (.cst (.int 0))) (.cons (.var 2) (.cons (.cst (.int 0)) .nil))))) .nil)))))
abbrev F31 (C : Cst) (k : Nat) (G : Prg) (cl : Call) (fu : Nat) : Fx := ⟨C, k, N31, defScope (top 43), mdOf [], G, cl, fu⟩
theorem body31 {C : Cst} {k : Nat} {G : Prg} {cl : Call} {fu : Nat} (fa : Facts C G) {X : Cx} {H0 : Hp} {W0 : Wd} (cx : Ctx (F31 C k G cl fu) X) (hf : X.fn = fun _ => true) : XSs (F31 C k G cl fu) X W0 H0 (defBody (top 43)) ir31 :=
  (z_cons (z_set cx hf (by kernel_rfl) rfl (EV.toF (c_add cx (EV.toB c_int) (EV.nToB (c_mul cx (EV.toB c_int) (c_bor cx (by kernel_rfl)))))) rfl) (z_cons (z_for cx (i_e cx (.inl rfl) (EV.toF (c_sl cx (c_bor cx (by kernel_rfl)) x_non (x_som (EV.toB c_int))))) (g_nm cx (by kernel_rfl) rfl) (z_cons (z_set cx hf (by kernel_rfl) rfl (EV.toF (c_mod cx (EV.nToB (c_bltT (bl := .int) cx (o_int) rfl fa.b_int (by kernel_rfl) (r_cons (EV.nToB (c_add cx (EV.nToB (c_add cx (EV.nToB (c_mul cx (c_bor cx (by kernel_rfl)) (EV.toB c_int))) (EV.nToB (c_mul cx (EV.nToB (c_mod cx (EV.nToB (c_bltT (bl := .int) cx (o_int) rfl fa.b_int (by kernel_rfl) (r_cons (c_bor cx (by kernel_rfl)) r_nil rfl) (by kernel_rfl))) (EV.toB c_int))) (EV.toB c_int))))) (EV.toB c_int))) r_nil rfl) (by kernel_rfl))) (EV.toB c_int))) rfl) z_nil) (fun _ => rfl)) (z_cons (z_set cx hf (by kernel_rfl) rfl (c_ite (t_cmp .lt cx (c_bor cx (by kernel_rfl)) (EV.nToB (c_bltB (bl := .len) cx (o_len cx.K) rfl fa.b_len (by kernel_rfl) (r_cons (c_bor cx (by kernel_rfl)) r_nil rfl) (by kernel_rfl))) rfl) (EV.toF (c_bltT (bl := .int) cx (o_int) rfl fa.b_int (by kernel_rfl) (r_cons (EV.toB (c_idx cx (c_bor cx (by kernel_rfl)) (c_bor cx (by kernel_rfl)) rfl)) r_nil rfl) (by kernel_rfl))) c_int) rfl) (z_cons (z_set cx hf (by kernel_rfl) rfl (EV.toF (c_mod cx (EV.nToB (c_bltT (bl := .int) cx (o_int) rfl fa.b_int (by kernel_rfl) (r_cons (EV.nToB (c_add cx (EV.nToB (c_add cx (EV.nToB (c_mul cx (c_bor cx (by kernel_rfl)) (EV.toB c_int))) (EV.nToB (c_mul cx (EV.nToB (c_mod cx (c_bor cx (by kernel_rfl)) (EV.toB c_int))) (EV.toB c_int))))) (EV.toB c_int))) r_nil rfl) (by kernel_rfl))) (EV.toB c_int))) rfl) (z_cons (z_ret (c_newl (l_cons (c_ite (t_w (w_or (t_cmp .lt cx (c_bor cx (by kernel_rfl)) (EV.toB c_int) rfl) (w_or1 (t_cmp .ge cx (c_bor cx (by kernel_rfl)) (EV.nToB (c_pow cx (EV.toB c_int) (EV.toB c_int))) rfl)))) (EV.toF (c_bltB (bl := .abs) cx (o_abs) rfl fa.b_abs (by kernel_rfl) (r_cons (c_bor cx (by kernel_rfl)) r_nil rfl) (by kernel_rfl))) c_int) (l_cons (c_var cx (by kernel_rfl) rfl) (l_cons c_int l_nil rfl) rfl) rfl))) z_nil)))))
/-! _law_draw -/
def N32 : List Str := [("bowl" : PySem.Str), ("many" : PySem.Str), ("figure" : PySem.Str), ("turn" : PySem.Str)]
def ir32 : Ss := (.cons (.iff (.cmp .gt (.idx (.var 0) (.cst (.int 0))) (.cst (.int 0))) (.cons (.asg [(.ix (.var 0) (.cst (.int 0))), (.nm 2)] (.blt .divmod (.cons (.idx (.var 0) (.cst (.int 0))) (.cons (.var 1) .nil)))) (.cons (.ret (.var 2)) .nil)) .nil) (.cons (.seto (.var 0) (.cst (.int 2)) (.bin .add (.idx (.var 0) (.cst (.int 2))) (.cst (.int 1)))) (.cons (.set 3 (.bin .mod (.blt .int (.cons (.bin .add (.bin .mul (.idx (.var 0) (.cst (.int 1))) (.cst (.int 39373))) (.bin .mul (.cst (.int 17011)) (.idx (.var 0) (.cst (.int 2))))) .nil)) (.cst (.int 2147483563)))) (.cons (.seto (.var 0) (.cst (.int 1)) (.bin .mod (.blt .int (.cons (.bin .add (.bin .mul (.var 3) (.bin .add (.bin .mod (.blt .int (.cons (.var 3) .nil)) (.cst (.int 4093))) (.cst (.int 30011)))) (.bin .mul (.cst (.int 7)) (.idx (.var 0) (.cst (.int 2))))) .nil)) (.cst (.int 2147483563)))) (.cons (.ret (.bin .mod (.blt .int (.cons (.bin .fdiv (.idx (.var 0) (.cst (.int 1))) (.cst (.int 733))) .nil)) (.var 1))) .nil)))))
abbrev F32 (C : Cst) (k : Nat) (G : Prg) (cl : Call) (fu : Nat) : Fx := ⟨C, k, N32, defScope (top 44), mdOf [], G, cl, fu⟩
theorem body32 {C : Cst} {k : Nat} {G : Prg} {cl : Call} {fu : Nat} (fa : Facts C G) {X : Cx} {H0 : Hp} {W0 : Wd} (cx : Ctx (F32 C k G cl fu) X) (hf : X.fn = fun _ => true) : XSs (F32 C k G cl fu) X W0 H0 (defBody (top 44)) ir32 :=
  (z_cons (z_if (t_cmp .gt cx (EV.toB (c_idx cx (c_bor cx (by kernel_rfl)) (EV.toB c_int) rfl)) (EV.toB c_int) rfl) (z_cons (z_asg cx (EV.toF (c_bltB (bl := .divmod) cx (o_divmod) rfl fa.b_divmod (by kernel_rfl) (r_cons (EV.toB (c_idx cx (c_bor cx (by kernel_rfl)) (EV.toB c_int) rfl)) (r_cons (c_bor cx (by kernel_rfl)) r_nil rfl) rfl) (by kernel_rfl))) (y_ix cx (c_bor cx (by kernel_rfl)) (EV.toB c_int) rfl (y_nm cx (by kernel_rfl) rfl y_nil rfl) rfl) rfl rfl rfl rfl rfl) (z_cons (z_ret (c_var cx (by kernel_rfl) rfl)) z_nil)) z_nil) (z_cons (z_seto cx (c_bor cx (by kernel_rfl)) (EV.toB c_int) (EV.toF (c_add cx (EV.toB (c_idx cx (c_bor cx (by kernel_rfl)) (EV.toB c_int) rfl)) (EV.toB c_int))) rfl rfl rfl rfl) (z_cons (z_set cx hf (by kernel_rfl) rfl (EV.toF (c_mod cx (EV.nToB (c_bltT (bl := .int) cx (o_int) rfl fa.b_int (by kernel_rfl) (r_cons (EV.nToB (c_add cx (EV.nToB (c_mul cx (EV.toB (c_idx cx (c_bor cx (by kernel_rfl)) (EV.toB c_int) rfl)) (EV.toB c_int))) (EV.nToB (c_mul cx (EV.toB c_int) (EV.toB (c_idx cx (c_bor cx (by kernel_rfl)) (EV.toB c_int) rfl)))))) r_nil rfl) (by kernel_rfl))) (EV.toB c_int))) rfl) (z_cons (z_seto cx (c_bor cx (by kernel_rfl)) (EV.toB c_int) (EV.toF (c_mod cx (EV.nToB (c_bltT (bl := .int) cx (o_int) rfl fa.b_int (by kernel_rfl) (r_cons (EV.nToB (c_add cx (EV.nToB (c_mul cx (c_bor cx (by kernel_rfl)) (EV.nToB (c_add cx (EV.nToB (c_mod cx (EV.nToB (c_bltT (bl := .int) cx (o_int) rfl fa.b_int (by kernel_rfl) (r_cons (c_bor cx (by kernel_rfl)) r_nil rfl) (by kernel_rfl))) (EV.toB c_int))) (EV.toB c_int))))) (EV.nToB (c_mul cx (EV.toB c_int) (EV.toB (c_idx cx (c_bor cx (by kernel_rfl)) (EV.toB c_int) rfl)))))) r_nil rfl) (by kernel_rfl))) (EV.toB c_int))) rfl rfl rfl rfl) (z_cons (z_ret (EV.toF (c_mod cx (EV.nToB (c_bltT (bl := .int) cx (o_int) rfl fa.b_int (by kernel_rfl) (r_cons (EV.nToB (c_fdiv cx (EV.toB (c_idx cx (c_bor cx (by kernel_rfl)) (EV.toB c_int) rfl)) (EV.toB c_int))) r_nil rfl) (by kernel_rfl))) (c_bor cx (by kernel_rfl))))) z_nil)))))
/-! _law_of -/
def N33 : List Str := [("bowl" : PySem.Str), ("some" : PySem.Str)]
def ir33 : Ss := (.cons (.ret (.idx (.var 1) (.call 32 (.cons (.var 0) (.cons (.blt .len (.cons (.var 1) .nil)) .nil))))) .nil)
abbrev F33 (C : Cst) (k : Nat) (G : Prg) (cl : Call) (fu : Nat) : Fx := ⟨C, k, N33, defScope (top 45), mdOf [], G, cl, fu⟩
theorem body33 {C : Cst} {k : Nat} {G : Prg} {cl : Call} {fu : Nat} (fa : Facts C G) {X : Cx} {H0 : Hp} {W0 : Wd} (cx : Ctx (F33 C k G cl fu) X) (hf : X.fn = fun _ => true) : XSs (F33 C k G cl fu) X W0 H0 (defBody (top 45)) ir33 :=
  (z_cons (z_ret (c_idx cx (c_bor cx (by kernel_rfl)) (EV.toB (c_call cx fa.g__law_draw (by kernel_rfl) (l_cons (c_var cx (by kernel_rfl) rfl) (l_cons (EV.toF (c_bltB (bl := .len) cx (o_len cx.K) rfl fa.b_len (by kernel_rfl) (r_cons (c_bor cx (by kernel_rfl)) r_nil rfl) (by kernel_rfl))) l_nil rfl) rfl) (by kernel_rfl))) rfl)) z_nil)
/-! _law_same -/
def N34 : List Str := [("told" : PySem.Str), ("due" : PySem.Str), ("k" : PySem.Str)]
def ir34 : Ss := (.cons (.iff (.isi .tuple (.var 1)) (.cons (.iff (.or (.not (.isi .tuple (.var 0))) (.cmp .ne (.blt .len (.cons (.var 0) .nil)) (.blt .len (.cons (.var 1) .nil)))) (.cons (.ret (.cst (.bl false))) .nil) .nil) (.cons (.ret (.blt .all (.cons (.comp (.call 34 (.cons (.idx (.var 0) (.var 2)) (.cons (.idx (.var 1) (.var 2)) .nil))) (.nm 2) (.rng1 (.blt .len (.cons (.var 1) .nil))) .non [2]) .nil))) .nil)) .nil) (.cons (.iff (.isn false (.var 1)) (.cons (.ret (.isn false (.var 0))) .nil) .nil) (.cons (.iff (.isi .bool (.var 1)) (.cons (.ret (.and (.isi .bool (.var 0)) (.cmp .eq (.var 0) (.var 1)))) .nil) .nil) (.cons (.iff (.isi .int (.var 1)) (.cons (.ret (.and (.isi .int (.var 0)) (.and (.not (.isi .bool (.var 0))) (.cmp .eq (.var 0) (.var 1))))) .nil) .nil) (.cons (.iff (.isi .str (.var 1)) (.cons (.ret (.and (.isi .str (.var 0)) (.cmp .eq (.var 0) (.var 1)))) .nil) .nil) (.cons (.ret (.cmp .eq (.var 0) (.var 1))) .nil))))))
abbrev F34 (C : Cst) (k : Nat) (G : Prg) (cl : Call) (fu : Nat) : Fx := ⟨C, k, N34, defScope (top 46), mdOf [], G, cl, fu⟩
theorem body34 {C : Cst} {k : Nat} {G : Prg} {cl : Call} {fu : Nat} (fa : Facts C G) {X : Cx} {H0 : Hp} {W0 : Wd} (cx : Ctx (F34 C k G cl fu) X) (hf : X.fn = fun _ => true) : XSs (F34 C k G cl fu) X W0 H0 (defBody (top 46)) ir34 :=
  (z_cons (z_if (t_val (c_isiT cx fa.ok rfl rfl fa.b_isinstance fa.b_tuple (by kernel_rfl) (c_bor cx (by kernel_rfl)) rfl) fun _ => rfl) (z_cons (z_if (t_w (w_or (t_not (t_val (c_isiT cx fa.ok rfl rfl fa.b_isinstance fa.b_tuple (by kernel_rfl) (c_bor cx (by kernel_rfl)) rfl) fun _ => rfl)) (w_or1 (t_cmp .ne cx (EV.nToB (c_bltB (bl := .len) cx (o_len cx.K) rfl fa.b_len (by kernel_rfl) (r_cons (c_bor cx (by kernel_rfl)) r_nil rfl) (by kernel_rfl))) (EV.nToB (c_bltB (bl := .len) cx (o_len cx.K) rfl fa.b_len (by kernel_rfl) (r_cons (c_bor cx (by kernel_rfl)) r_nil rfl) (by kernel_rfl))) rfl)))) (z_cons (z_ret c_bl) z_nil) z_nil) (z_cons (z_ret (EV.toF (c_bltB (bl := .all) cx (o_all cx.K cx.calm) rfl fa.b_all (by kernel_rfl) (r_cons (EV.nToB (c_comp [(("k" : PySem.Str), 2)] cx (by kernel_rfl) (i_rng1 cx fa.b_range (by kernel_rfl) (EV.nToB (c_bltB (bl := .len) cx (o_len cx.K) rfl fa.b_len (by kernel_rfl) (r_cons (c_bor cx (by kernel_rfl)) r_nil rfl) (by kernel_rfl))) rfl) (by kernel_rfl) (fun _ cx hc => ⟨(g_nm cx (by kernel_rfl) rfl), q_nil, (c_call cx fa.g__law_same (by kernel_rfl) (l_cons (c_idx cx (c_bor cx (by kernel_rfl)) (c_bor cx (by kernel_rfl)) rfl) (l_cons (c_idx cx (c_bor cx (by kernel_rfl)) (c_bor cx (by kernel_rfl)) rfl) l_nil rfl) rfl) (by kernel_rfl))⟩) (fun _ => rfl) (by kernel_rfl))) r_nil rfl) (by kernel_rfl)))) z_nil)) z_nil) (z_cons (z_if (t_isN (c_bor cx (by kernel_rfl))) (z_cons (z_ret (c_isN (c_bor cx (by kernel_rfl)))) z_nil) z_nil) (z_cons (z_if (t_val (c_isiT cx fa.ok rfl rfl fa.b_isinstance fa.b_bool (by kernel_rfl) (c_bor cx (by kernel_rfl)) rfl) fun _ => rfl) (z_cons (z_ret (c_and (c_isiT cx fa.ok rfl rfl fa.b_isinstance fa.b_bool (by kernel_rfl) (c_bor cx (by kernel_rfl)) rfl) (c_one (EV.toF (c_cmp .eq cx (c_bor cx (by kernel_rfl)) (c_bor cx (by kernel_rfl)) rfl))))) z_nil) z_nil) (z_cons (z_if (t_val (c_isiT cx fa.ok rfl rfl fa.b_isinstance fa.b_int (by kernel_rfl) (c_bor cx (by kernel_rfl)) rfl) fun _ => rfl) (z_cons (z_ret (c_and (c_isiT cx fa.ok rfl rfl fa.b_isinstance fa.b_int (by kernel_rfl) (c_bor cx (by kernel_rfl)) rfl) (c_and (c_not (c_isiT cx fa.ok rfl rfl fa.b_isinstance fa.b_bool (by kernel_rfl) (c_bor cx (by kernel_rfl)) rfl)) (c_one (EV.toF (c_cmp .eq cx (c_bor cx (by kernel_rfl)) (c_bor cx (by kernel_rfl)) rfl)))))) z_nil) z_nil) (z_cons (z_if (t_val (c_isiT cx fa.ok rfl rfl fa.b_isinstance fa.b_str (by kernel_rfl) (c_bor cx (by kernel_rfl)) rfl) fun _ => rfl) (z_cons (z_ret (c_and (c_isiT cx fa.ok rfl rfl fa.b_isinstance fa.b_str (by kernel_rfl) (c_bor cx (by kernel_rfl)) rfl) (c_one (EV.toF (c_cmp .eq cx (c_bor cx (by kernel_rfl)) (c_bor cx (by kernel_rfl)) rfl))))) z_nil) z_nil) (z_cons (z_ret (EV.toF (c_cmp .eq cx (c_bor cx (by kernel_rfl)) (c_bor cx (by kernel_rfl)) rfl))) z_nil))))))
/-! _law_names -/
def N35 : List Str := [("bowl" : PySem.Str), ("many" : PySem.Str), ("found" : PySem.Str), ("turn" : PySem.Str), ("name" : PySem.Str), ("k" : PySem.Str), ("some" : PySem.Str), ("last" : PySem.Str), ("each" : PySem.Str)]
def ir35 : Ss := (.cons (.setn 2 (.lst .nil)) (.cons (.fr (.nm 3) (.rng1 (.var 1)) (.cons (.set 4 (.cst (.str []))) (.cons (.fr (.nm 5) (.rng1 (.bin .add (.cst (.int 2)) (.call 32 (.cons (.var 0) (.cons (.call 33 (.cons (.var 0) (.cons (.tup (.cons (.cst (.int 1)) (.cons (.cst (.int 2)) (.cons (.cst (.int 7)) .nil)))) .nil))) .nil))))) (.cons (.set 4 (.bin .add (.var 4) (.idx (.cst (.str [97, 98, 99, 100, 101, 102, 103, 104, 105, 106, 107, 108, 109, 110, 111, 112, 113, 114, 115, 116, 117, 118, 119, 120, 121, 122])) (.call 32 (.cons (.var 0) (.cons (.cst (.int 26)) .nil)))))) .nil)) (.cons (.set 6 (.comp (.var 8) (.nm 8) (.e (.bin .add (.lst (.cons (.var 4) .nil)) (.comp (.bin .add (.sl (.var 4) .non (.som (.cst (.int 7)))) (.var 7)) (.nm 7) (.e (.cst (.str [97, 98, 99, 100, 101, 102, 103, 104, 105, 106, 107, 108, 109, 110, 111, 112, 113, 114, 115, 116, 117, 118, 119, 120, 121, 122]))) .non [7]))) (.som (.cmp .notin (.var 8) (.bin .add (.var 2) (.lst (.cons (.cst (.str [116, 101, 120, 116])) (.cons (.cst (.str [99, 111, 115, 116, 115])) .nil)))))) [8])) (.cons (.app 2 (.idx (.var 6) (.cst (.int 0)))) .nil))))) (.cons (.retv 2) .nil)))
abbrev F35 (C : Cst) (k : Nat) (G : Prg) (cl : Call) (fu : Nat) : Fx := ⟨C, k, N35, defScope (top 47), mdOf [2], G, cl, fu⟩
theorem body35 {C : Cst} {k : Nat} {G : Prg} {cl : Call} {fu : Nat} (fa : Facts C G) {X : Cx} {H0 : Hp} {W0 : Wd} (cx : Ctx (F35 C k G cl fu) X) (hf : X.fn = fun _ => true) : XSs (F35 C k G cl fu) X W0 H0 (defBody (top 47)) ir35 :=
  (z_cons (z_setn cx hf (by kernel_rfl) rfl (c_lst l_nil) rfl) (z_cons (z_for cx (i_rng1 cx fa.b_range (by kernel_rfl) (c_bor cx (by kernel_rfl)) rfl) (g_nm cx (by kernel_rfl) rfl) (z_cons (z_set cx hf (by kernel_rfl) rfl (c_str (by kernel_rfl)) rfl) (z_cons (z_for cx (i_rng1 cx fa.b_range (by kernel_rfl) (EV.nToB (c_add cx (EV.toB c_int) (EV.toB (c_call cx fa.g__law_draw (by kernel_rfl) (l_cons (c_var cx (by kernel_rfl) rfl) (l_cons (c_call cx fa.g__law_of (by kernel_rfl) (l_cons (c_var cx (by kernel_rfl) rfl) (l_cons (c_tup (l_cons c_int (l_cons c_int (l_cons c_int l_nil rfl) rfl) rfl)) l_nil rfl) rfl) (by kernel_rfl)) l_nil rfl) rfl) (by kernel_rfl))))) rfl) (g_nm cx (by kernel_rfl) rfl) (z_cons (z_set cx hf (by kernel_rfl) rfl (EV.toF (c_add cx (c_bor cx (by kernel_rfl)) (EV.toB (c_idx cx (EV.toB (c_str (by kernel_rfl))) (EV.toB (c_call cx fa.g__law_draw (by kernel_rfl) (l_cons (c_var cx (by kernel_rfl) rfl) (l_cons c_int l_nil rfl) rfl) (by kernel_rfl))) rfl)))) rfl) z_nil) (fun _ => rfl)) (z_cons (z_setc [(("each" : PySem.Str), 8)] cx (by kernel_rfl) rfl (cx.swW (by kernel_rfl)) (i_e cx (.inr rfl) (EV.nToB (c_add cx (EV.nToB (c_lst (l_cons (c_var cx (by kernel_rfl) rfl) l_nil rfl))) (EV.nToB (c_comp [(("last" : PySem.Str), 7)] cx (by kernel_rfl) (i_e cx (.inr rfl) (EV.toB (c_str (by kernel_rfl)))) (by kernel_rfl) (fun _ cx hc => ⟨(g_nm cx (by kernel_rfl) rfl), q_nil, (EV.toF (c_add cx (EV.nToB (c_sl cx (c_bor cx (by kernel_rfl)) x_non (x_som (EV.toB c_int)))) (c_bor cx (by kernel_rfl))))⟩) (fun _ => rfl) (by kernel_rfl)))))) (by kernel_rfl) (fun _ cx hc => ⟨(g_nm cx (by kernel_rfl) rfl), (q_one (t_cmp .notin cx (c_bor cx (by kernel_rfl)) (EV.nToB (c_add cx (c_bor cx (by kernel_rfl)) (EV.nToB (c_lst (l_cons (c_str (by kernel_rfl)) (l_cons (c_str (by kernel_rfl)) l_nil rfl) rfl))))) rfl)), (c_var cx (by kernel_rfl) rfl)⟩) (fun _ => rfl) (by kernel_rfl)) (z_cons (z_app cx (by kernel_rfl) rfl (c_idx cx (c_bor cx (by kernel_rfl)) (EV.toB c_int) rfl) rfl rfl rfl) z_nil)))) (fun _ => rfl)) (z_cons (z_retv cx (by kernel_rfl) rfl) z_nil)))
/-! _law_kinds -/
def N36 : List Str := [("rules" : PySem.Str), ("found" : PySem.Str), ("kind" : PySem.Str), ("body" : PySem.Str), ("x" : PySem.Str)]
def ir36 : Ss := (.cons (.set 1 (.lst .nil)) (.cons (.fr (.tp (.cons (.nm 2) (.cons (.nm 3) .nil))) (.e (.var 0)) (.cons (.fr (.nm 4) (.e (.bin .add (.tup (.cons (.var 2) .nil)) (.var 3))) (.cons (.set 1 (.bin .add (.var 1) (.ite (.and (.cmp .gt (.blt .len (.cons (.var 4) .nil)) (.cst (.int 1))) (.cmp .notin (.var 4) (.var 1))) (.lst (.cons (.var 4) .nil)) (.lst .nil)))) .nil)) .nil)) (.cons (.ret (.blt .tuple (.cons (.var 1) .nil))) .nil)))
abbrev F36 (C : Cst) (k : Nat) (G : Prg) (cl : Call) (fu : Nat) : Fx := ⟨C, k, N36, defScope (top 48), mdOf [], G, cl, fu⟩
theorem body36 {C : Cst} {k : Nat} {G : Prg} {cl : Call} {fu : Nat} (fa : Facts C G) {X : Cx} {H0 : Hp} {W0 : Wd} (cx : Ctx (F36 C k G cl fu) X) (hf : X.fn = fun _ => true) : XSs (F36 C k G cl fu) X W0 H0 (defBody (top 48)) ir36 :=
  (z_cons (z_set cx hf (by kernel_rfl) rfl (EV.toF (c_lst l_nil)) rfl) (z_cons (z_for cx (i_e cx (.inl rfl) (c_var cx (by kernel_rfl) rfl)) (g_tup cx (g_cons (g_nm cx (by kernel_rfl) rfl) (g_cons (g_nm cx (by kernel_rfl) rfl) g_nil rfl) rfl) rfl rfl) (z_cons (z_for cx (i_e cx (.inl rfl) (EV.toF (c_add cx (EV.toB (c_tup (l_cons (c_var cx (by kernel_rfl) rfl) l_nil rfl))) (c_bor cx (by kernel_rfl))))) (g_nm cx (by kernel_rfl) rfl) (z_cons (z_set cx hf (by kernel_rfl) rfl (EV.toF (c_add cx (c_bor cx (by kernel_rfl)) (EV.nToB (c_ite (t_w (w_and (t_cmp .gt cx (EV.nToB (c_bltB (bl := .len) cx (o_len cx.K) rfl fa.b_len (by kernel_rfl) (r_cons (c_bor cx (by kernel_rfl)) r_nil rfl) (by kernel_rfl))) (EV.toB c_int) rfl) (w_and1 (t_cmp .notin cx (c_bor cx (by kernel_rfl)) (c_bor cx (by kernel_rfl)) rfl)))) (c_lst (l_cons (c_var cx (by kernel_rfl) rfl) l_nil rfl)) (c_lst l_nil))))) rfl) z_nil) (fun _ => rfl)) z_nil) (fun _ => rfl)) (z_cons (z_ret (EV.toF (c_bltT (bl := .tuple) cx (o_tuple cx.K) rfl fa.b_tuple (by kernel_rfl) (r_cons (c_bor cx (by kernel_rfl)) r_nil rfl) (by kernel_rfl)))) z_nil)))
/-! _law_any_rules -/
def N37 : List Str := [("bowl" : PySem.Str), ("kinds" : PySem.Str), ("more" : PySem.Str), ("letters" : PySem.Str), ("names" : PySem.Str), ("heads" : PySem.Str), ("rules" : PySem.Str), ("kind" : PySem.Str), ("body" : PySem.Str), ("turn" : PySem.Str)]
def ir37 : Ss := (.cons (.set 4 (.call 35 (.cons (.var 0) (.cons (.bin .add (.cst (.int 1)) (.call 32 (.cons (.var 0) (.cons (.var 1) .nil)))) .nil)))) (.cons (.set 5 (.bin .add (.blt .list (.cons (.var 4) .nil)) (.comp (.call 33 (.cons (.var 0) (.cons (.var 4) .nil))) (.nm 9) (.rng1 (.call 32 (.cons (.var 0) (.cons (.bin .add (.var 2) (.cst (.int 1))) .nil)))) .non [9]))) (.cons (.set 6 (.lst .nil)) (.cons (.fr (.nm 7) (.e (.var 5)) (.cons (.set 8 (.blt .tuple (.cons (.comp (.call 33 (.cons (.var 0) (.cons (.bin .add (.blt .list (.cons (.var 3) .nil)) (.var 4)) .nil))) (.nm 9) (.rng1 (.call 33 (.cons (.var 0) (.cons (.tup (.cons (.cst (.int 0)) (.cons (.cst (.int 1)) (.cons (.cst (.int 1)) (.cons (.cst (.int 2)) (.cons (.cst (.int 2)) (.cons (.cst (.int 3)) (.cons (.cst (.int 4)) .nil)))))))) .nil)))) .non [9]) .nil))) (.cons (.set 6 (.bin .add (.var 6) (.ite (.cmp .notin (.tup (.cons (.var 7) (.cons (.var 8) .nil))) (.var 6)) (.lst (.cons (.tup (.cons (.var 7) (.cons (.var 8) .nil))) .nil)) (.lst .nil)))) .nil))) (.cons (.ret (.blt .tuple (.cons (.var 6) .nil))) .nil)))))
abbrev F37 (C : Cst) (k : Nat) (G : Prg) (cl : Call) (fu : Nat) : Fx := ⟨C, k, N37, defScope (top 49), mdOf [], G, cl, fu⟩
theorem body37 {C : Cst} {k : Nat} {G : Prg} {cl : Call} {fu : Nat} (fa : Facts C G) {X : Cx} {H0 : Hp} {W0 : Wd} (cx : Ctx (F37 C k G cl fu) X) (hf : X.fn = fun _ => true) : XSs (F37 C k G cl fu) X W0 H0 (defBody (top 49)) ir37 :=
  (z_cons (z_set cx hf (by kernel_rfl) rfl (c_call cx fa.g__law_names (by kernel_rfl) (l_cons (c_var cx (by kernel_rfl) rfl) (l_cons (EV.toF (c_add cx (EV.toB c_int) (EV.toB (c_call cx fa.g__law_draw (by kernel_rfl) (l_cons (c_var cx (by kernel_rfl) rfl) (l_cons (c_var cx (by kernel_rfl) rfl) l_nil rfl) rfl) (by kernel_rfl))))) l_nil rfl) rfl) (by kernel_rfl)) rfl) (z_cons (z_set cx hf (by kernel_rfl) rfl (EV.toF (c_add cx (EV.nToB (c_bltT (bl := .list) cx (o_list cx.K cx.calm) rfl fa.b_list (by kernel_rfl) (r_cons (c_bor cx (by kernel_rfl)) r_nil rfl) (by kernel_rfl))) (EV.nToB (c_comp [(("turn" : PySem.Str), 9)] cx (by kernel_rfl) (i_rng1 cx fa.b_range (by kernel_rfl) (EV.toB (c_call cx fa.g__law_draw (by kernel_rfl) (l_cons (c_var cx (by kernel_rfl) rfl) (l_cons (EV.toF (c_add cx (c_bor cx (by kernel_rfl)) (EV.toB c_int))) l_nil rfl) rfl) (by kernel_rfl))) rfl) (by kernel_rfl) (fun _ cx hc => ⟨(g_nm cx (by kernel_rfl) rfl), q_nil, (c_call cx fa.g__law_of (by kernel_rfl) (l_cons (c_var cx (by kernel_rfl) rfl) (l_cons (c_var cx (by kernel_rfl) rfl) l_nil rfl) rfl) (by kernel_rfl))⟩) (fun _ => rfl) (by kernel_rfl))))) rfl) (z_cons (z_set cx hf (by kernel_rfl) rfl (EV.toF (c_lst l_nil)) rfl) (z_cons (z_for cx (i_e cx (.inl rfl) (c_var cx (by kernel_rfl) rfl)) (g_nm cx (by kernel_rfl) rfl) (z_cons (z_set cx hf (by kernel_rfl) rfl (EV.toF (c_bltT (bl := .tuple) cx (o_tuple cx.K) rfl fa.b_tuple (by kernel_rfl) (r_cons (EV.nToB (c_comp [(("turn" : PySem.Str), 9)] cx (by kernel_rfl) (i_rng1 cx fa.b_range (by kernel_rfl) (EV.toB (c_call cx fa.g__law_of (by kernel_rfl) (l_cons (c_var cx (by kernel_rfl) rfl) (l_cons (c_tup (l_cons c_int (l_cons c_int (l_cons c_int (l_cons c_int (l_cons c_int (l_cons c_int (l_cons c_int l_nil rfl) rfl) rfl) rfl) rfl) rfl) rfl)) l_nil rfl) rfl) (by kernel_rfl))) rfl) (by kernel_rfl) (fun _ cx hc => ⟨(g_nm cx (by kernel_rfl) rfl), q_nil, (c_call cx fa.g__law_of (by kernel_rfl) (l_cons (c_var cx (by kernel_rfl) rfl) (l_cons (EV.toF (c_add cx (EV.nToB (c_bltT (bl := .list) cx (o_list cx.K cx.calm) rfl fa.b_list (by kernel_rfl) (r_cons (c_bor cx (by kernel_rfl)) r_nil rfl) (by kernel_rfl))) (c_bor cx (by kernel_rfl)))) l_nil rfl) rfl) (by kernel_rfl))⟩) (fun _ => rfl) (by kernel_rfl))) r_nil rfl) (by kernel_rfl))) rfl) (z_cons (z_set cx hf (by kernel_rfl) rfl (EV.toF (c_add cx (c_bor cx (by kernel_rfl)) (EV.nToB (c_ite (t_cmp .notin cx (EV.toB (c_tup (l_cons (c_var cx (by kernel_rfl) rfl) (l_cons (c_var cx (by kernel_rfl) rfl) l_nil rfl) rfl))) (c_bor cx (by kernel_rfl)) rfl) (c_lst (l_cons (c_tup (l_cons (c_var cx (by kernel_rfl) rfl) (l_cons (c_var cx (by kernel_rfl) rfl) l_nil rfl) rfl)) l_nil rfl)) (c_lst l_nil))))) rfl) z_nil)) (fun _ => rfl)) (z_cons (z_ret (EV.toF (c_bltT (bl := .tuple) cx (o_tuple cx.K) rfl fa.b_tuple (by kernel_rfl) (r_cons (c_bor cx (by kernel_rfl)) r_nil rfl) (by kernel_rfl)))) z_nil)))))
/-! _law_making -/
def N38 : List Str := [("rules" : PySem.Str), ("made" : PySem.Str), ("more" : PySem.Str), ("kind" : PySem.Str), ("own" : PySem.Str), ("body" : PySem.Str), ("x" : PySem.Str)]
def ir38 : Ss := (.cons (.whl (.cst (.bl true)) (.cons (.set 2 (.comp (.var 3) (.nm 3) (.e (.call 36 (.cons (.var 0) .nil))) (.som (.and (.cmp .notin (.var 3) (.var 1)) (.cmp .ne (.comp (.var 5) (.tp (.cons (.nm 4) (.cons (.nm 5) .nil))) (.e (.var 0)) (.som (.and (.cmp .eq (.var 4) (.var 3)) (.cmp .eq (.comp (.var 6) (.nm 6) (.e (.var 5)) (.som (.cmp .notin (.var 6) (.var 1))) [6]) (.lst .nil)))) [4, 5]) (.lst .nil)))) [3])) (.cons (.iff (.cmp .eq (.var 2) (.lst .nil)) (.cons (.ret (.var 1)) .nil) .nil) (.cons (.set 1 (.bin .add (.var 1) (.var 2))) .nil)))) .nil)
abbrev F38 (C : Cst) (k : Nat) (G : Prg) (cl : Call) (fu : Nat) : Fx := ⟨C, k, N38, defScope (top 50), mdOf [], G, cl, fu⟩
theorem body38 {C : Cst} {k : Nat} {G : Prg} {cl : Call} {fu : Nat} (fa : Facts C G) {X : Cx} {H0 : Hp} {W0 : Wd} (cx : Ctx (F38 C k G cl fu) X) (hf : X.fn = fun _ => true) : XSs (F38 C k G cl fu) X W0 H0 (defBody (top 50)) ir38 :=
  (z_cons (z_whl cx (t_val c_bl fun _ => rfl) (z_cons (z_setc [(("kind" : PySem.Str), 3)] cx (by kernel_rfl) rfl (cx.swW (by kernel_rfl)) (i_e cx (.inr rfl) (EV.toB (c_call cx fa.g__law_kinds (by kernel_rfl) (l_cons (c_var cx (by kernel_rfl) rfl) l_nil rfl) (by kernel_rfl)))) (by kernel_rfl) (fun _ cx hc => ⟨(g_nmB cx hc (by kernel_rfl) rfl), (q_one (t_w (w_and (t_cmp .notin cx (c_bor cx (by kernel_rfl)) (c_bor cx (by kernel_rfl)) rfl) (w_and1 (t_cmp .ne cx (EV.nToB (c_comp [(("own" : PySem.Str), 4), (("body" : PySem.Str), 5)] cx (by kernel_rfl) (i_e cx (.inr rfl) (c_bor cx (by kernel_rfl))) (by kernel_rfl) (fun _ cx hc => ⟨(g_tup cx (g_cons (g_nm cx (by kernel_rfl) rfl) (g_cons (g_nm cx (by kernel_rfl) rfl) g_nil rfl) rfl) rfl rfl), (q_one (t_w (w_and (t_cmp .eq cx (c_bor cx (by kernel_rfl)) (c_bor cx (by kernel_rfl)) rfl) (w_and1 (t_cmp .eq cx (EV.nToB (c_comp [(("x" : PySem.Str), 6)] cx (by kernel_rfl) (i_e cx (.inr rfl) (c_bor cx (by kernel_rfl))) (by kernel_rfl) (fun _ cx hc => ⟨(g_nm cx (by kernel_rfl) rfl), (q_one (t_cmp .notin cx (c_bor cx (by kernel_rfl)) (c_bor cx (by kernel_rfl)) rfl)), (c_var cx (by kernel_rfl) rfl)⟩) (fun _ => rfl) (by kernel_rfl))) (EV.nToB (c_lst l_nil)) rfl))))), (c_var cx (by kernel_rfl) rfl)⟩) (fun _ => rfl) (by kernel_rfl))) (EV.nToB (c_lst l_nil)) rfl))))), (c_var cx (by kernel_rfl) rfl)⟩) (fun _ => rfl) (by kernel_rfl)) (z_cons (z_if (t_cmp .eq cx (c_bor cx (by kernel_rfl)) (EV.nToB (c_lst l_nil)) rfl) (z_cons (z_ret (c_var cx (by kernel_rfl) rfl)) z_nil) z_nil) (z_cons (z_set cx hf (by kernel_rfl) rfl (EV.toF (c_add cx (c_bor cx (by kernel_rfl)) (c_bor cx (by kernel_rfl)))) rfl) z_nil)))) z_nil)
/-! _law_looked -/
def N39 : List Str := [("rules" : PySem.Str), ("kinds" : PySem.Str), ("empty" : PySem.Str), ("kind" : PySem.Str), ("barren" : PySem.Str), ("steps" : PySem.Str), ("body" : PySem.Str), ("alone" : PySem.Str), ("turning" : PySem.Str), ("k" : PySem.Str), ("x" : PySem.Str)]
def ir39 : Ss := (.cons (.unp (.tp (.cons (.nm 1) (.cons (.nm 2) .nil))) (.tup (.cons (.call 36 (.cons (.var 0) .nil)) (.cons (.call 38 (.cons (.var 0) (.cons (.lst .nil) .nil))) .nil)))) (.cons (.unp (.tp (.cons (.nm 4) (.cons (.nm 5) .nil))) (.tup (.cons (.comp (.var 3) (.nm 3) (.e (.var 1)) (.som (.cmp .notin (.var 3) (.call 38 (.cons (.var 0) (.cons (.blt .list (.cons (.cst (.str [97, 98, 99, 100, 101])) .nil)) .nil))))) [3]) (.cons .newd .nil)))) (.cons (.fr (.tp (.cons (.nm 3) (.cons (.nm 6) .nil))) (.e (.var 0)) (.cons (.set 7 (.comp (.idx (.var 6) (.var 9)) (.nm 9) (.rng1 (.blt .len (.cons (.var 6) .nil))) (.som (.and (.cmp .gt (.blt .len (.cons (.idx (.var 6) (.var 9)) .nil)) (.cst (.int 1))) (.cmp .eq (.comp (.var 10) (.nm 10) (.e (.bin .add (.sl (.var 6) .non (.som (.var 9))) (.sl (.var 6) (.som (.bin .add (.var 9) (.cst (.int 1)))) .non))) (.som (.cmp .notin (.var 10) (.var 2))) [10]) (.lst .nil)))) [9])) (.cons (.seto (.var 5) (.var 3) (.bin .add (.getd (.var 5) (.var 3) (.lst .nil)) (.var 7))) .nil))) (.cons (.set 8 (.comp (.var 3) (.nm 3) (.e (.var 1)) (.som (.cmp .isin (.var 3) (.call 40 (.cons (.var 5) (.cons (.var 3) .nil))))) [3])) (.cons (.ret (.tup (.cons (.ite (.cmp .ne (.var 4) (.lst .nil)) (.idx (.var 4) (.cst (.int 0))) (.cst .non)) (.cons (.ite (.cmp .ne (.var 8) (.lst .nil)) (.idx (.var 8) (.cst (.int 0))) (.cst .non)) (.cons (.blt .tuple (.cons (.comp (.var 3) (.nm 3) (.e (.var 1)) (.som (.cmp .isin (.var 3) (.var 2))) [3]) .nil)) .nil))))) .nil)))))
abbrev F39 (C : Cst) (k : Nat) (G : Prg) (cl : Call) (fu : Nat) : Fx := ⟨C, k, N39, defScope (top 51), mdOf [], G, cl, fu⟩
theorem body39 {C : Cst} {k : Nat} {G : Prg} {cl : Call} {fu : Nat} (fa : Facts C G) {X : Cx} {H0 : Hp} {W0 : Wd} (cx : Ctx (F39 C k G cl fu) X) (hf : X.fn = fun _ => true) : XSs (F39 C k G cl fu) X W0 H0 (defBody (top 51)) ir39 :=
  (z_cons (z_unp (c_tup (l_cons (c_call cx fa.g__law_kinds (by kernel_rfl) (l_cons (c_var cx (by kernel_rfl) rfl) l_nil rfl) (by kernel_rfl)) (l_cons (c_call cx fa.g__law_making (by kernel_rfl) (l_cons (c_var cx (by kernel_rfl) rfl) (l_cons (EV.toF (c_lst l_nil)) l_nil rfl) rfl) (by kernel_rfl)) l_nil rfl) rfl)) (g_tup cx (g_cons (g_nm cx (by kernel_rfl) rfl) (g_cons (g_nmC cx hf (by kernel_rfl) rfl) g_nil rfl) rfl) rfl rfl) rfl (cx.swS (by kernel_rfl)) rfl) (z_cons (z_unp (c_tup (l_cons (EV.toF (c_comp [(("kind" : PySem.Str), 3)] cx (by kernel_rfl) (i_e cx (.inr rfl) (c_bor cx (by kernel_rfl))) (by kernel_rfl) (fun _ cx hc => ⟨(g_nm cx (by kernel_rfl) rfl), (q_one (t_cmp .notin cx (c_bor cx (by kernel_rfl)) (EV.toB (c_call cx fa.g__law_making (by kernel_rfl) (l_cons (c_var cx (by kernel_rfl) rfl) (l_cons (EV.toF (c_bltT (bl := .list) cx (o_list cx.K cx.calm) rfl fa.b_list (by kernel_rfl) (r_cons (EV.toB (c_str (by kernel_rfl))) r_nil rfl) (by kernel_rfl))) l_nil rfl) rfl) (by kernel_rfl))) rfl)), (c_var cx (by kernel_rfl) rfl)⟩) (fun _ => rfl) (by kernel_rfl))) (l_cons c_newd l_nil rfl) rfl)) (g_tup cx (g_cons (g_nm cx (by kernel_rfl) rfl) (g_cons (g_nmC cx hf (by kernel_rfl) rfl) g_nil rfl) rfl) rfl rfl) rfl (cx.swS (by kernel_rfl)) rfl) (z_cons (z_for cx (i_e cx (.inl rfl) (c_var cx (by kernel_rfl) rfl)) (g_tup cx (g_cons (g_nm cx (by kernel_rfl) rfl) (g_cons (g_nmC cx hf (by kernel_rfl) rfl) g_nil rfl) rfl) rfl rfl) (z_cons (z_setc [(("k" : PySem.Str), 9)] cx (by kernel_rfl) rfl (cx.swW (by kernel_rfl)) (i_rng1 cx fa.b_range (by kernel_rfl) (EV.nToB (c_bltB (bl := .len) cx (o_len cx.K) rfl fa.b_len (by kernel_rfl) (r_cons (c_bor cx (by kernel_rfl)) r_nil rfl) (by kernel_rfl))) rfl) (by kernel_rfl) (fun _ cx hc => ⟨(g_nm cx (by kernel_rfl) rfl), (q_one (t_w (w_and (t_cmp .gt cx (EV.nToB (c_bltB (bl := .len) cx (o_len cx.K) rfl fa.b_len (by kernel_rfl) (r_cons (EV.toB (c_idx cx (c_bor cx (by kernel_rfl)) (c_bor cx (by kernel_rfl)) rfl)) r_nil rfl) (by kernel_rfl))) (EV.toB c_int) rfl) (w_and1 (t_cmp .eq cx (EV.nToB (c_comp [(("x" : PySem.Str), 10)] cx (by kernel_rfl) (i_e cx (.inr rfl) (EV.nToB (c_add cx (EV.nToB (c_sl cx (c_bor cx (by kernel_rfl)) x_non (x_som (c_bor cx (by kernel_rfl))))) (EV.nToB (c_sl cx (c_bor cx (by kernel_rfl)) (x_som (EV.nToB (c_add cx (c_bor cx (by kernel_rfl)) (EV.toB c_int)))) x_non))))) (by kernel_rfl) (fun _ cx hc => ⟨(g_nm cx (by kernel_rfl) rfl), (q_one (t_cmp .notin cx (c_bor cx (by kernel_rfl)) (c_bor cx (by kernel_rfl)) rfl)), (c_var cx (by kernel_rfl) rfl)⟩) (fun _ => rfl) (by kernel_rfl))) (EV.nToB (c_lst l_nil)) rfl))))), (c_idx cx (c_bor cx (by kernel_rfl)) (c_bor cx (by kernel_rfl)) rfl)⟩) (fun _ => rfl) (by kernel_rfl)) (z_cons (z_seto cx (c_bor cx (by kernel_rfl)) (c_bor cx (by kernel_rfl)) (EV.toF (c_add cx (EV.toB (c_getd cx (c_bor cx (by kernel_rfl)) (c_bor cx (by kernel_rfl)) (EV.toF (c_lst l_nil)) (by kernel_rfl))) (c_bor cx (by kernel_rfl)))) rfl rfl rfl rfl) z_nil)) (fun _ => rfl)) (z_cons (z_setc [(("kind" : PySem.Str), 3)] cx (by kernel_rfl) rfl (cx.swW (by kernel_rfl)) (i_e cx (.inr rfl) (c_bor cx (by kernel_rfl))) (by kernel_rfl) (fun _ cx hc => ⟨(g_nm cx (by kernel_rfl) rfl), (q_one (t_cmp .isin cx (c_bor cx (by kernel_rfl)) (EV.toB (c_call cx fa.g__law_come (by kernel_rfl) (l_cons (c_var cx (by kernel_rfl) rfl) (l_cons (c_var cx (by kernel_rfl) rfl) l_nil rfl) rfl) (by kernel_rfl))) rfl)), (c_var cx (by kernel_rfl) rfl)⟩) (fun _ => rfl) (by kernel_rfl)) (z_cons (z_ret (c_tup (l_cons (c_ite (t_cmp .ne cx (c_bor cx (by kernel_rfl)) (EV.nToB (c_lst l_nil)) rfl) (c_idx cx (c_bor cx (by kernel_rfl)) (EV.toB c_int) rfl) c_non) (l_cons (c_ite (t_cmp .ne cx (c_bor cx (by kernel_rfl)) (EV.nToB (c_lst l_nil)) rfl) (c_idx cx (c_bor cx (by kernel_rfl)) (EV.toB c_int) rfl) c_non) (l_cons (EV.toF (c_bltT (bl := .tuple) cx (o_tuple cx.K) rfl fa.b_tuple (by kernel_rfl) (r_cons (EV.nToB (c_comp [(("kind" : PySem.Str), 3)] cx (by kernel_rfl) (i_e cx (.inr rfl) (c_bor cx (by kernel_rfl))) (by kernel_rfl) (fun _ cx hc => ⟨(g_nm cx (by kernel_rfl) rfl), (q_one (t_cmp .isin cx (c_bor cx (by kernel_rfl)) (c_bor cx (by kernel_rfl)) rfl)), (c_var cx (by kernel_rfl) rfl)⟩) (fun _ => rfl) (by kernel_rfl))) r_nil rfl) (by kernel_rfl))) l_nil rfl) rfl) rfl))) z_nil)))))
/-! _law_come -/
def N40 : List Str := [("steps" : PySem.Str), ("kind" : PySem.Str), ("found" : PySem.Str), ("edge" : PySem.Str), ("each" : PySem.Str)]
def ir40 : Ss := (.cons (.setn 2 (.blt .list (.cons (.getd (.var 0) (.var 1) (.lst .nil)) .nil))) (.cons (.set 3 (.box (.blt .list (.cons (.var 2) .nil)))) (.cons (.whl (.emp true (.var 3)) (.cons (.fr (.nm 4) (.e (.getd (.var 0) (.popo (.var 3)) (.lst .nil))) (.cons (.iff (.cmp .notin (.var 4) (.var 2)) (.cons (.app 2 (.var 4)) (.cons (.appo (.var 3) (.var 4)) .nil)) .nil) .nil)) .nil)) (.cons (.retv 2) .nil))))
abbrev F40 (C : Cst) (k : Nat) (G : Prg) (cl : Call) (fu : Nat) : Fx := ⟨C, k, N40, defScope (top 52), mdOf [2], G, cl, fu⟩
theorem body40 {C : Cst} {k : Nat} {G : Prg} {cl : Call} {fu : Nat} (fa : Facts C G) {X : Cx} {H0 : Hp} {W0 : Wd} (cx : Ctx (F40 C k G cl fu) X) (hf : X.fn = fun _ => true) : XSs (F40 C k G cl fu) X W0 H0 (defBody (top 52)) ir40 :=
  (z_cons (z_setn cx hf (by kernel_rfl) rfl (c_bltT (bl := .list) cx (o_list cx.K cx.calm) rfl fa.b_list (by kernel_rfl) (r_cons (EV.toB (c_getd cx (c_bor cx (by kernel_rfl)) (c_bor cx (by kernel_rfl)) (EV.toF (c_lst l_nil)) (by kernel_rfl))) r_nil rfl) (by kernel_rfl)) rfl) (z_cons (z_set cx hf (by kernel_rfl) rfl (c_box (c_bltT (bl := .list) cx (o_list cx.K cx.calm) rfl fa.b_list (by kernel_rfl) (r_cons (c_bor cx (by kernel_rfl)) r_nil rfl) (by kernel_rfl))) rfl) (z_cons (z_whl cx (t_nemp cx (c_bor cx (by kernel_rfl)) rfl) (z_cons (z_for cx (i_e cx (.inl rfl) (c_getd cx (c_bor cx (by kernel_rfl)) (EV.toB (c_popo cx (c_bor cx (by kernel_rfl)) (by kernel_rfl))) (EV.toF (c_lst l_nil)) (by kernel_rfl))) (g_nm cx (by kernel_rfl) rfl) (z_cons (z_if (t_cmp .notin cx (c_bor cx (by kernel_rfl)) (c_bor cx (by kernel_rfl)) rfl) (z_cons (z_app cx (by kernel_rfl) rfl (c_var cx (by kernel_rfl) rfl) rfl rfl rfl) (z_cons (z_appo cx (c_bor cx (by kernel_rfl)) (c_var cx (by kernel_rfl) rfl) (by kernel_rfl) rfl) z_nil)) z_nil) z_nil) (fun _ => rfl)) z_nil)) (z_cons (z_retv cx (by kernel_rfl) rfl) z_nil))))
/-! _law_rules -/
def N41 : List Str := [("bowl" : PySem.Str), ("kinds" : PySem.Str), ("more" : PySem.Str), ("letters" : PySem.Str), ("turn" : PySem.Str), ("rules" : PySem.Str), ("name" : PySem.Str), ("x" : PySem.Str), ("y" : PySem.Str)]
def ir41 : Ss := (.cons (.fr (.nm 4) (.rng1 (.cst (.int 8))) (.cons (.set 5 (.call 37 (.cons (.var 0) (.cons (.var 1) (.cons (.var 2) (.cons (.var 3) .nil)))))) (.cons (.iff (.cmp .eq (.sl (.call 39 (.cons (.var 5) .nil)) .non (.som (.cst (.int 2)))) (.tup (.cons (.cst .non) (.cons (.cst .non) .nil)))) (.cons (.ret (.var 5)) .nil) .nil) .nil))) (.cons (.par [6, 7, 8] (.cons (.idx (.call 35 (.cons (.var 0) (.cons (.cst (.int 1)) .nil))) (.cst (.int 0))) (.cons (.idx (.var 3) (.cst (.int 0))) (.cons (.idx (.var 3) (.neg (.cst (.int 1)))) .nil)))) (.cons (.ret (.call 33 (.cons (.var 0) (.cons (.tup (.cons (.tup (.cons (.tup (.cons (.var 6) (.cons (.tup .nil) .nil))) (.cons (.tup (.cons (.var 6) (.cons (.tup (.cons (.var 7) (.cons (.var 6) (.cons (.var 8) (.cons (.var 6) .nil))))) .nil))) .nil))) (.cons (.tup (.cons (.tup (.cons (.var 6) (.cons (.tup (.cons (.var 7) .nil)) .nil))) (.cons (.tup (.cons (.var 6) (.cons (.tup (.cons (.var 6) (.cons (.var 8) (.cons (.var 6) .nil)))) .nil))) .nil))) (.cons (.tup (.cons (.tup (.cons (.var 6) (.cons (.tup (.cons (.var 7) (.cons (.var 8) .nil))) .nil))) (.cons (.tup (.cons (.var 6) (.cons (.tup (.cons (.var 7) (.cons (.var 6) .nil))) .nil))) .nil))) .nil)))) .nil)))) .nil)))
abbrev F41 (C : Cst) (k : Nat) (G : Prg) (cl : Call) (fu : Nat) : Fx := ⟨C, k, N41, defScope (top 53), mdOf [], G, cl, fu⟩
theorem body41 {C : Cst} {k : Nat} {G : Prg} {cl : Call} {fu : Nat} (fa : Facts C G) {X : Cx} {H0 : Hp} {W0 : Wd} (cx : Ctx (F41 C k G cl fu) X) (hf : X.fn = fun _ => true) : XSs (F41 C k G cl fu) X W0 H0 (defBody (top 53)) ir41 :=
  (z_cons (z_for cx (i_rng1 cx fa.b_range (by kernel_rfl) (EV.toB c_int) rfl) (g_nm cx (by kernel_rfl) rfl) (z_cons (z_set cx hf (by kernel_rfl) rfl (c_call cx fa.g__law_any_rules (by kernel_rfl) (l_cons (c_var cx (by kernel_rfl) rfl) (l_cons (c_var cx (by kernel_rfl) rfl) (l_cons (c_var cx (by kernel_rfl) rfl) (l_cons (c_var cx (by kernel_rfl) rfl) l_nil rfl) rfl) rfl) rfl) (by kernel_rfl)) rfl) (z_cons (z_if (t_cmp .eq cx (EV.nToB (c_sl cx (EV.toB (c_call cx fa.g__law_looked (by kernel_rfl) (l_cons (c_var cx (by kernel_rfl) rfl) l_nil rfl) (by kernel_rfl))) x_non (x_som (EV.toB c_int)))) (EV.toB (c_tup (l_cons c_non (l_cons c_non l_nil rfl) rfl))) rfl) (z_cons (z_ret (c_var cx (by kernel_rfl) rfl)) z_nil) z_nil) z_nil)) (fun _ => rfl)) (z_cons (z_par3 cx (by kernel_rfl) (by kernel_rfl) (by kernel_rfl) (by decide) (by decide) (by decide) (l_cons (c_idx cx (EV.toB (c_call cx fa.g__law_names (by kernel_rfl) (l_cons (c_var cx (by kernel_rfl) rfl) (l_cons c_int l_nil rfl) rfl) (by kernel_rfl))) (EV.toB c_int) rfl) (l_cons (c_idx cx (c_bor cx (by kernel_rfl)) (EV.toB c_int) rfl) (l_cons (c_idx cx (c_bor cx (by kernel_rfl)) (EV.toB (c_neg cx (EV.toB c_int))) rfl) l_nil rfl) rfl) rfl) (cx.swS (by kernel_rfl)) rfl rfl rfl rfl) (z_cons (z_ret (c_call cx fa.g__law_of (by kernel_rfl) (l_cons (c_var cx (by kernel_rfl) rfl) (l_cons (c_tup (l_cons (c_tup (l_cons (c_tup (l_cons (c_var cx (by kernel_rfl) rfl) (l_cons (c_tup l_nil) l_nil rfl) rfl)) (l_cons (c_tup (l_cons (c_var cx (by kernel_rfl) rfl) (l_cons (c_tup (l_cons (c_var cx (by kernel_rfl) rfl) (l_cons (c_var cx (by kernel_rfl) rfl) (l_cons (c_var cx (by kernel_rfl) rfl) (l_cons (c_var cx (by kernel_rfl) rfl) l_nil rfl) rfl) rfl) rfl)) l_nil rfl) rfl)) l_nil rfl) rfl)) (l_cons (c_tup (l_cons (c_tup (l_cons (c_var cx (by kernel_rfl) rfl) (l_cons (c_tup (l_cons (c_var cx (by kernel_rfl) rfl) l_nil rfl)) l_nil rfl) rfl)) (l_cons (c_tup (l_cons (c_var cx (by kernel_rfl) rfl) (l_cons (c_tup (l_cons (c_var cx (by kernel_rfl) rfl) (l_cons (c_var cx (by kernel_rfl) rfl) (l_cons (c_var cx (by kernel_rfl) rfl) l_nil rfl) rfl) rfl)) l_nil rfl) rfl)) l_nil rfl) rfl)) (l_cons (c_tup (l_cons (c_tup (l_cons (c_var cx (by kernel_rfl) rfl) (l_cons (c_tup (l_cons (c_var cx (by kernel_rfl) rfl) (l_cons (c_var cx (by kernel_rfl) rfl) l_nil rfl) rfl)) l_nil rfl) rfl)) (l_cons (c_tup (l_cons (c_var cx (by kernel_rfl) rfl) (l_cons (c_tup (l_cons (c_var cx (by kernel_rfl) rfl) (l_cons (c_var cx (by kernel_rfl) rfl) l_nil rfl) rfl)) l_nil rfl) rfl)) l_nil rfl) rfl)) l_nil rfl) rfl) rfl)) l_nil rfl) rfl) (by kernel_rfl))) z_nil)))
/-! _law_right -/
def N42 : List Str := [("bowl" : PySem.Str), ("lap" : PySem.Str), ("rules" : PySem.Str), ("made" : PySem.Str), ("due" : PySem.Str)]
def ir42 : Ss := (.cons (.fr (.nm 1) (.rng1 (.cst (.int 12))) (.cons (.set 2 (.ite (.cmp .lt (.var 1) (.cst (.int 9))) (.call 37 (.cons (.var 0) (.cons (.cst (.int 4)) (.cons (.cst (.int 6)) (.cons (.cst (.str [97, 98])) .nil))))) (.call 41 (.cons (.var 0) (.cons (.cst (.int 3)) (.cons (.cst (.int 4)) (.cons (.cst (.str [97, 98])) .nil))))))) (.cons (.par [3, 4] (.cons (.new 0 12 (.cons (.var 2) .nil)) (.cons (.call 39 (.cons (.var 2) .nil)) .nil))) (.cons (.iff (.or (.not (.call 34 (.cons (.tup (.cons (.call 27 (.cons (.var 3) .nil)) (.cons (.call 28 (.cons (.var 3) .nil)) (.cons (.call 29 (.cons (.var 3) .nil)) .nil)))) (.cons (.var 4) .nil)))) (.cmp .ne (.call 30 (.cons (.var 3) .nil)) (.cmp .eq (.sl (.var 4) .non (.som (.cst (.int 2)))) (.tup (.cons (.cst .non) (.cons (.cst .non) .nil)))))) (.cons (.ret (.cst (.bl false))) .nil) .nil) (.cons (.iff (.not (.call 34 (.cons (.tup (.cons (.callk 27 .nil (.cons (.var 3) .nil) [0]) (.cons (.callk 28 .nil (.cons (.var 3) .nil) [0]) (.cons (.callk 29 .nil (.cons (.var 3) .nil) [0]) (.cons (.callk 30 .nil (.cons (.var 3) .nil) [0]) .nil))))) (.cons (.bin .add (.var 4) (.tup (.cons (.cmp .eq (.sl (.var 4) .non (.som (.cst (.int 2)))) (.tup (.cons (.cst .non) (.cons (.cst .non) .nil)))) .nil))) .nil)))) (.cons (.ret (.cst (.bl false))) .nil) .nil) .nil))))) (.cons (.ret (.cst (.bl true))) .nil))
abbrev F42 (C : Cst) (k : Nat) (G : Prg) (cl : Call) (fu : Nat) : Fx := ⟨C, k, N42, defScope (top 54), mdOf [], G, cl, fu⟩
theorem body42 {C : Cst} {k : Nat} {G : Prg} {cl : Call} {fu : Nat} (fa : Facts C G) {X : Cx} {H0 : Hp} {W0 : Wd} (cx : Ctx (F42 C k G cl fu) X) (hf : X.fn = fun _ => true) : XSs (F42 C k G cl fu) X W0 H0 (defBody (top 54)) ir42 :=
  (z_cons (z_for cx (i_rng1 cx fa.b_range (by kernel_rfl) (EV.toB c_int) rfl) (g_nm cx (by kernel_rfl) rfl) (z_cons (z_set cx hf (by kernel_rfl) rfl (c_ite (t_cmp .lt cx (c_bor cx (by kernel_rfl)) (EV.toB c_int) rfl) (c_call cx fa.g__law_any_rules (by kernel_rfl) (l_cons (c_var cx (by kernel_rfl) rfl) (l_cons c_int (l_cons c_int (l_cons (c_str (by kernel_rfl)) l_nil rfl) rfl) rfl) rfl) (by kernel_rfl)) (c_call cx fa.g__law_rules (by kernel_rfl) (l_cons (c_var cx (by kernel_rfl) rfl) (l_cons c_int (l_cons c_int (l_cons (c_str (by kernel_rfl)) l_nil rfl) rfl) rfl) rfl) (by kernel_rfl))) rfl) (z_cons (z_par2 cx (by kernel_rfl) (by kernel_rfl) (by decide) (l_cons (c_new cx fa.mk_Grammar (by kernel_rfl) (l_cons (c_var cx (by kernel_rfl) rfl) l_nil rfl) (by kernel_rfl)) (l_cons (c_call cx fa.g__law_looked (by kernel_rfl) (l_cons (c_var cx (by kernel_rfl) rfl) l_nil rfl) (by kernel_rfl)) l_nil rfl) rfl) (cx.swS (by kernel_rfl)) rfl rfl rfl) (z_cons (z_if (t_w (w_or (t_not (t_val (c_call cx fa.g__law_same (by kernel_rfl) (l_cons (c_tup (l_cons (c_call cx fa.g_first_barren (by kernel_rfl) (l_cons (c_var cx (by kernel_rfl) rfl) l_nil rfl) (by kernel_rfl)) (l_cons (c_call cx fa.g_first_turning (by kernel_rfl) (l_cons (c_var cx (by kernel_rfl) rfl) l_nil rfl) (by kernel_rfl)) (l_cons (c_call cx fa.g_empty_kinds (by kernel_rfl) (l_cons (c_var cx (by kernel_rfl) rfl) l_nil rfl) (by kernel_rfl)) l_nil rfl) rfl) rfl)) (l_cons (c_var cx (by kernel_rfl) rfl) l_nil rfl) rfl) (by kernel_rfl)) fun _ => rfl)) (w_or1 (t_cmp .ne cx (EV.toB (c_call cx fa.g_is_let_by (by kernel_rfl) (l_cons (c_var cx (by kernel_rfl) rfl) l_nil rfl) (by kernel_rfl))) (EV.nToB (c_cmp .eq cx (EV.nToB (c_sl cx (c_bor cx (by kernel_rfl)) x_non (x_som (EV.toB c_int)))) (EV.toB (c_tup (l_cons c_non (l_cons c_non l_nil rfl) rfl))) rfl)) rfl)))) (z_cons (z_ret c_bl) z_nil) z_nil) (z_cons (z_if (t_not (t_val (c_call cx fa.g__law_same (by kernel_rfl) (l_cons (c_tup (l_cons (c_callk0 cx [("grammar" : PySem.Str)] fa.g_first_barren fa.kw_27_grammar (by kernel_rfl) (k_cons (c_var cx (by kernel_rfl) rfl) k_nil) (by kernel_rfl) rfl rfl rfl) (l_cons (c_callk0 cx [("grammar" : PySem.Str)] fa.g_first_turning fa.kw_28_grammar (by kernel_rfl) (k_cons (c_var cx (by kernel_rfl) rfl) k_nil) (by kernel_rfl) rfl rfl rfl) (l_cons (c_callk0 cx [("grammar" : PySem.Str)] fa.g_empty_kinds fa.kw_29_grammar (by kernel_rfl) (k_cons (c_var cx (by kernel_rfl) rfl) k_nil) (by kernel_rfl) rfl rfl rfl) (l_cons (c_callk0 cx [("grammar" : PySem.Str)] fa.g_is_let_by fa.kw_30_grammar (by kernel_rfl) (k_cons (c_var cx (by kernel_rfl) rfl) k_nil) (by kernel_rfl) rfl rfl rfl) l_nil rfl) rfl) rfl) rfl)) (l_cons (EV.toF (c_add cx (c_bor cx (by kernel_rfl)) (EV.toB (c_tup (l_cons (EV.toF (c_cmp .eq cx (EV.nToB (c_sl cx (c_bor cx (by kernel_rfl)) x_non (x_som (EV.toB c_int)))) (EV.toB (c_tup (l_cons c_non (l_cons c_non l_nil rfl) rfl))) rfl)) l_nil rfl))))) l_nil rfl) rfl) (by kernel_rfl)) fun _ => rfl)) (z_cons (z_ret c_bl) z_nil) z_nil) z_nil)))) (fun _ => rfl)) (z_cons (z_ret c_bl) z_nil))
/-! law -/
def N43 : List Str := [("script" : PySem.Str), ("lap" : PySem.Str)]
def ir43 : Ss := (.cons (.ret (.blt .all (.cons (.comp (.call 42 (.cons (.call 31 (.cons (.var 0) (.cons (.var 1) .nil))) .nil)) (.nm 1) (.rng1 (.blt .max (.cons (.cst (.int 1)) (.cons (.blt .min (.cons (.blt .len (.cons (.var 0) .nil)) (.cons (.cst (.int 3)) .nil))) .nil)))) .non [1]) .nil))) .nil)
abbrev F43 (C : Cst) (k : Nat) (G : Prg) (cl : Call) (fu : Nat) : Fx := ⟨C, k, N43, defScope (top 55), mdOf [], G, cl, fu⟩
theorem body43 {C : Cst} {k : Nat} {G : Prg} {cl : Call} {fu : Nat} (fa : Facts C G) {X : Cx} {H0 : Hp} {W0 : Wd} (cx : Ctx (F43 C k G cl fu) X) (hf : X.fn = fun _ => true) : XSs (F43 C k G cl fu) X W0 H0 (defBody (top 55)) ir43 :=
  (z_cons (z_ret (EV.toF (c_bltB (bl := .all) cx (o_all cx.K cx.calm) rfl fa.b_all (by kernel_rfl) (r_cons (EV.nToB (c_comp [(("lap" : PySem.Str), 1)] cx (by kernel_rfl) (i_rng1 cx fa.b_range (by kernel_rfl) (EV.nToB (c_bltB (bl := .max) cx (o_max cx.calm) rfl fa.b_max (by kernel_rfl) (r_cons (EV.toB c_int) (r_cons (EV.nToB (c_bltB (bl := .min) cx (o_min cx.calm) rfl fa.b_min (by kernel_rfl) (r_cons (EV.nToB (c_bltB (bl := .len) cx (o_len cx.K) rfl fa.b_len (by kernel_rfl) (r_cons (c_bor cx (by kernel_rfl)) r_nil rfl) (by kernel_rfl))) (r_cons (EV.toB c_int) r_nil rfl) rfl) (by kernel_rfl))) r_nil rfl) rfl) (by kernel_rfl))) rfl) (by kernel_rfl) (fun _ cx hc => ⟨(g_nm cx (by kernel_rfl) rfl), q_nil, (c_call cx fa.g__law_right (by kernel_rfl) (l_cons (c_call cx fa.g__law_bowl (by kernel_rfl) (l_cons (c_var cx (by kernel_rfl) rfl) (l_cons (c_var cx (by kernel_rfl) rfl) l_nil rfl) rfl) (by kernel_rfl)) l_nil rfl) (by kernel_rfl))⟩) (fun _ => rfl) (by kernel_rfl))) r_nil rfl) (by kernel_rfl)))) z_nil)
abbrev FL0 (C : Cst) (k : Nat) (G : Prg) (cl : Call) (fu : Nat) : Fx := ⟨C, k, NL0, L0.scope, mdOf [], G, cl, fu⟩
theorem bodyL0 {C : Cst} {k : Nat} {G : Prg} {cl : Call} {fu : Nat} (fa : Facts C G) {X : Cx} {H0 : Hp} (cx : Ctx (FL0 C k G cl fu) X) : XE (FL0 C k G cl fu) X H0 .frz L0.body irl0 :=
  (c_callv cx (by kernel_rfl) rfl (l_cons (c_var cx (by kernel_rfl) rfl) l_nil rfl) (by kernel_rfl))
abbrev FL1 (C : Cst) (k : Nat) (G : Prg) (cl : Call) (fu : Nat) : Fx := ⟨C, k, NL1, L1.scope, mdOf [], G, cl, fu⟩
theorem bodyL1 {C : Cst} {k : Nat} {G : Prg} {cl : Call} {fu : Nat} (fa : Facts C G) {X : Cx} {H0 : Hp} (cx : Ctx (FL1 C k G cl fu) X) : XE (FL1 C k G cl fu) X H0 .frz L1.body irl1 :=
  (c_or (c_call cx fa.g_is_letter (by kernel_rfl) (l_cons (c_var cx (by kernel_rfl) rfl) l_nil rfl) (by kernel_rfl)) (c_one (c_call cx fa.g_is_kind_name (by kernel_rfl) (l_cons (c_var cx (by kernel_rfl) rfl) l_nil rfl) (by kernel_rfl))))
end MT
set_option maxRecDepth 100000
set_option maxHeartbeats 0
namespace MT
open PySem PySem.Spec PyProof.Rows L2
def dfm0 : DfM := ⟨fun K => (He.ga K ("is_one_of" : PySem.Str)), ("is_one_of" : PySem.Str), ("is_one_of" : PySem.Str), defArgs (top 6), defBody (top 6), defScope (top 6)⟩
def dfm1 : DfM := ⟨fun K => (He.ga K ("is_word" : PySem.Str)), ("is_word" : PySem.Str), ("is_word" : PySem.Str), defArgs (top 7), defBody (top 7), defScope (top 7)⟩
def dfm2 : DfM := ⟨fun K => (He.ga K ("is_tuple_of" : PySem.Str)), ("is_tuple_of" : PySem.Str), ("is_tuple_of" : PySem.Str), defArgs (top 8), defBody (top 8), defScope (top 8)⟩
def dfm3 : DfM := ⟨fun K => (He.ga K ("is_pair" : PySem.Str)), ("is_pair" : PySem.Str), ("is_pair" : PySem.Str), defArgs (top 9), defBody (top 9), defScope (top 9)⟩
def dfm4 : DfM := ⟨fun K => (He.ga K ("wrong_in" : PySem.Str)), ("wrong_in" : PySem.Str), ("wrong_in" : PySem.Str), defArgs (top 10), defBody (top 10), defScope (top 10)⟩
def dfm5 : DfM := ⟨fun K => (He.ga K ("are_all" : PySem.Str)), ("are_all" : PySem.Str), ("are_all" : PySem.Str), defArgs (top 11), defBody (top 11), defScope (top 11)⟩
def dfm6 : DfM := ⟨fun K => (He.ga K ("is_letter" : PySem.Str)), ("is_letter" : PySem.Str), ("is_letter" : PySem.Str), defArgs (top 19), defBody (top 19), defScope (top 19)⟩
def dfm7 : DfM := ⟨fun K => (He.ga K ("is_kind_name" : PySem.Str)), ("is_kind_name" : PySem.Str), ("is_kind_name" : PySem.Str), defArgs (top 20), defBody (top 20), defScope (top 20)⟩
def dfm8 : DfM := ⟨fun K => (He.ga K ("is_rule" : PySem.Str)), ("is_rule" : PySem.Str), ("is_rule" : PySem.Str), defArgs (top 21), defBody (top 21), defScope (top 21)⟩
def dfm9 : DfM := ⟨fun K => (He.ga K ("kinds_of" : PySem.Str)), ("kinds_of" : PySem.Str), ("kinds_of" : PySem.Str), defArgs (top 22), defBody (top 22), defScope (top 22)⟩
def dfm10 : DfM := ⟨fun K => (He.ga K ("is_next_rule" : PySem.Str)), ("is_next_rule" : PySem.Str), ("is_next_rule" : PySem.Str), defArgs (top 23), defBody (top 23), defScope (top 23)⟩
def dfm11 : DfM := ⟨fun K => (He.ga K ("wrong_in_rules" : PySem.Str)), ("wrong_in_rules" : PySem.Str), ("wrong_in_rules" : PySem.Str), defArgs (top 24), defBody (top 24), defScope (top 24)⟩
def dfm12 : DfM := ⟨fun K => (He.ma K (He.ga K ("Grammar" : PySem.Str)) ("__init__" : PySem.Str)), ("__init__" : PySem.Str), ("Grammar.__init__" : PySem.Str), defArgs (inClass (top 26) 0), defBody (inClass (top 26) 0), defScope (inClass (top 26) 0)⟩
def dfm13 : DfM := ⟨fun K => (getA ("Grammar" : PySem.Str) ("rules" : PySem.Str) K), ("rules" : PySem.Str), ("Grammar.rules" : PySem.Str), defArgs (inClass (top 26) 1), defBody (inClass (top 26) 1), defScope (inClass (top 26) 1)⟩
def dfm14 : DfM := ⟨fun K => (getA ("Grammar" : PySem.Str) ("kinds" : PySem.Str) K), ("kinds" : PySem.Str), ("Grammar.kinds" : PySem.Str), defArgs (inClass (top 26) 2), defBody (inClass (top 26) 2), defScope (inClass (top 26) 2)⟩
def dfm15 : DfM := ⟨fun K => (getA ("Grammar" : PySem.Str) ("parts" : PySem.Str) K), ("parts" : PySem.Str), ("Grammar.parts" : PySem.Str), defArgs (inClass (top 26) 3), defBody (inClass (top 26) 3), defScope (inClass (top 26) 3)⟩
def dfm16 : DfM := ⟨fun K => (He.ma K (He.ga K ("Grammar" : PySem.Str)) ("__eq__" : PySem.Str)), ("__eq__" : PySem.Str), ("Grammar.__eq__" : PySem.Str), defArgs (inClass (top 26) 4), defBody (inClass (top 26) 4), defScope (inClass (top 26) 4)⟩
def dfm17 : DfM := ⟨fun K => (He.ma K (He.ga K ("Grammar" : PySem.Str)) ("once" : PySem.Str)), ("once" : PySem.Str), ("Grammar.once" : PySem.Str), defArgs (inClass (top 26) 5), defBody (inClass (top 26) 5), defScope (inClass (top 26) 5)⟩
def dfm18 : DfM := ⟨fun K => (He.ga K ("check_grammar" : PySem.Str)), ("check_grammar" : PySem.Str), ("check_grammar" : PySem.Str), defArgs (top 27), defBody (top 27), defScope (top 27)⟩
def dfm19 : DfM := ⟨fun K => (He.ga K ("makers" : PySem.Str)), ("makers" : PySem.Str), ("makers" : PySem.Str), defArgs (top 29), defBody (top 29), defScope (top 29)⟩
def dfm20 : DfM := ⟨fun K => (He.ga K ("barren_by" : PySem.Str)), ("barren_by" : PySem.Str), ("barren_by" : PySem.Str), defArgs (top 30), defBody (top 30), defScope (top 30)⟩
def dfm21 : DfM := ⟨fun K => (He.ga K ("empties_by" : PySem.Str)), ("empties_by" : PySem.Str), ("empties_by" : PySem.Str), defArgs (top 31), defBody (top 31), defScope (top 31)⟩
def dfm22 : DfM := ⟨fun K => (He.ga K ("alone_in" : PySem.Str)), ("alone_in" : PySem.Str), ("alone_in" : PySem.Str), defArgs (top 32), defBody (top 32), defScope (top 32)⟩
def dfm23 : DfM := ⟨fun K => (He.ga K ("leads_alone" : PySem.Str)), ("leads_alone" : PySem.Str), ("leads_alone" : PySem.Str), defArgs (top 33), defBody (top 33), defScope (top 33)⟩
def dfm24 : DfM := ⟨fun K => (He.ga K ("reached_from" : PySem.Str)), ("reached_from" : PySem.Str), ("reached_from" : PySem.Str), defArgs (top 34), defBody (top 34), defScope (top 34)⟩
def dfm25 : DfM := ⟨fun K => (He.ga K ("turning_by" : PySem.Str)), ("turning_by" : PySem.Str), ("turning_by" : PySem.Str), defArgs (top 35), defBody (top 35), defScope (top 35)⟩
def dfm26 : DfM := ⟨fun K => (He.ga K ("wrong_kinds" : PySem.Str)), ("wrong_kinds" : PySem.Str), ("wrong_kinds" : PySem.Str), defArgs (top 36), defBody (top 36), defScope (top 36)⟩
def dfm27 : DfM := ⟨fun K => (He.ga K ("first_barren" : PySem.Str)), ("first_barren" : PySem.Str), ("first_barren" : PySem.Str), defArgs (top 38), defBody (top 38), defScope (top 38)⟩
def dfm28 : DfM := ⟨fun K => (He.ga K ("first_turning" : PySem.Str)), ("first_turning" : PySem.Str), ("first_turning" : PySem.Str), defArgs (top 39), defBody (top 39), defScope (top 39)⟩
def dfm29 : DfM := ⟨fun K => (He.ga K ("empty_kinds" : PySem.Str)), ("empty_kinds" : PySem.Str), ("empty_kinds" : PySem.Str), defArgs (top 40), defBody (top 40), defScope (top 40)⟩
def dfm30 : DfM := ⟨fun K => (He.ga K ("is_let_by" : PySem.Str)), ("is_let_by" : PySem.Str), ("is_let_by" : PySem.Str), defArgs (top 41), defBody (top 41), defScope (top 41)⟩
def dfm31 : DfM := ⟨fun K => (He.ga K ("_law_bowl" : PySem.Str)), ("_law_bowl" : PySem.Str), ("_law_bowl" : PySem.Str), defArgs (top 43), defBody (top 43), defScope (top 43)⟩
def dfm32 : DfM := ⟨fun K => (He.ga K ("_law_draw" : PySem.Str)), ("_law_draw" : PySem.Str), ("_law_draw" : PySem.Str), defArgs (top 44), defBody (top 44), defScope (top 44)⟩
def dfm33 : DfM := ⟨fun K => (He.ga K ("_law_of" : PySem.Str)), ("_law_of" : PySem.Str), ("_law_of" : PySem.Str), defArgs (top 45), defBody (top 45), defScope (top 45)⟩
def dfm34 : DfM := ⟨fun K => (He.ga K ("_law_same" : PySem.Str)), ("_law_same" : PySem.Str), ("_law_same" : PySem.Str), defArgs (top 46), defBody (top 46), defScope (top 46)⟩
def dfm35 : DfM := ⟨fun K => (He.ga K ("_law_names" : PySem.Str)), ("_law_names" : PySem.Str), ("_law_names" : PySem.Str), defArgs (top 47), defBody (top 47), defScope (top 47)⟩
def dfm36 : DfM := ⟨fun K => (He.ga K ("_law_kinds" : PySem.Str)), ("_law_kinds" : PySem.Str), ("_law_kinds" : PySem.Str), defArgs (top 48), defBody (top 48), defScope (top 48)⟩
def dfm37 : DfM := ⟨fun K => (He.ga K ("_law_any_rules" : PySem.Str)), ("_law_any_rules" : PySem.Str), ("_law_any_rules" : PySem.Str), defArgs (top 49), defBody (top 49), defScope (top 49)⟩
def dfm38 : DfM := ⟨fun K => (He.ga K ("_law_making" : PySem.Str)), ("_law_making" : PySem.Str), ("_law_making" : PySem.Str), defArgs (top 50), defBody (top 50), defScope (top 50)⟩
def dfm39 : DfM := ⟨fun K => (He.ga K ("_law_looked" : PySem.Str)), ("_law_looked" : PySem.Str), ("_law_looked" : PySem.Str), defArgs (top 51), defBody (top 51), defScope (top 51)⟩
def dfm40 : DfM := ⟨fun K => (He.ga K ("_law_come" : PySem.Str)), ("_law_come" : PySem.Str), ("_law_come" : PySem.Str), defArgs (top 52), defBody (top 52), defScope (top 52)⟩
def dfm41 : DfM := ⟨fun K => (He.ga K ("_law_rules" : PySem.Str)), ("_law_rules" : PySem.Str), ("_law_rules" : PySem.Str), defArgs (top 53), defBody (top 53), defScope (top 53)⟩
def dfm42 : DfM := ⟨fun K => (He.ga K ("_law_right" : PySem.Str)), ("_law_right" : PySem.Str), ("_law_right" : PySem.Str), defArgs (top 54), defBody (top 54), defScope (top 54)⟩
def dfm43 : DfM := ⟨fun K => (He.ga K ("law" : PySem.Str)), ("law" : PySem.Str), ("law" : PySem.Str), defArgs (top 55), defBody (top 55), defScope (top 55)⟩
def fnl : List DfM := [dfm0, dfm1, dfm2, dfm3, dfm4, dfm5, dfm6, dfm7, dfm8, dfm9, dfm10, dfm11, dfm12, dfm13, dfm14, dfm15, dfm16, dfm17, dfm18, dfm19, dfm20, dfm21, dfm22, dfm23, dfm24, dfm25, dfm26, dfm27, dfm28, dfm29, dfm30, dfm31, dfm32, dfm33, dfm34, dfm35, dfm36, dfm37, dfm38, dfm39, dfm40, dfm41, dfm42, dfm43]
def tfl : List (PySem.W.Frag → Addr) := [fun K => (He.ga K ("are_all" : PySem.Str)), fun K => (He.ga K ("is_rule" : PySem.Str))]
def fnsA : List FnD := [⟨false, 2, 0, 2, ir0⟩, ⟨false, 1, 0, 2, ir1⟩, ⟨false, 2, 0, 2, ir2⟩, ⟨false, 1, 0, 1, ir3⟩, ⟨false, 4, 0, 6, ir4⟩, ⟨false, 4, 0, 4, ir5⟩, ⟨false, 1, 0, 1, ir6⟩, ⟨false, 1, 0, 1, ir7⟩, ⟨false, 1, 0, 1, ir8⟩, ⟨false, 1, 0, 5, ir9⟩, ⟨false, 2, 0, 2, ir10⟩, ⟨false, 1, 0, 8, ir11⟩, ⟨false, 2, 0, 3, ir12⟩, ⟨false, 1, 0, 1, ir13⟩, ⟨false, 1, 0, 1, ir14⟩, ⟨false, 1, 0, 1, ir15⟩, ⟨false, 2, 0, 2, ir16⟩, ⟨false, 3, 0, 3, ir17⟩, ⟨false, 1, 0, 1, ir18⟩, ⟨false, 2, 0, 8, ir19⟩, ⟨false, 1, 0, 3, ir20⟩, ⟨false, 1, 0, 1, ir21⟩, ⟨false, 2, 0, 5, ir22⟩, ⟨false, 1, 0, 5, ir23⟩, ⟨false, 2, 0, 5, ir24⟩, ⟨false, 1, 0, 3, ir25⟩, ⟨false, 1, 0, 1, ir26⟩, ⟨false, 1, 0, 2, ir27⟩, ⟨false, 1, 0, 2, ir28⟩, ⟨false, 1, 0, 1, ir29⟩, ⟨false, 1, 0, 1, ir30⟩, ⟨false, 2, 0, 5, ir31⟩, ⟨false, 2, 0, 4, ir32⟩, ⟨false, 2, 0, 2, ir33⟩, ⟨false, 2, 0, 3, ir34⟩, ⟨false, 2, 0, 9, ir35⟩, ⟨false, 1, 0, 5, ir36⟩, ⟨false, 4, 0, 10, ir37⟩, ⟨false, 2, 0, 7, ir38⟩, ⟨false, 1, 0, 11, ir39⟩, ⟨false, 2, 0, 5, ir40⟩, ⟨false, 4, 0, 9, ir41⟩, ⟨false, 1, 0, 5, ir42⟩, ⟨false, 1, 0, 2, ir43⟩, ⟨true, 2, 1, 3, .cons (.ret irl0) .nil⟩, ⟨true, 1, 0, 1, .cons (.ret irl1) .nil⟩]
def prg : Prg := ⟨[(0, 0), (0, 1)], [((0, 2), 15), ((0, 3), 14), ((0, 4), 13)], [], [(0, 16)]⟩
/-- how often a while goes round at most -/
def fuA : Nat := 1000
def clsA : List Str := [("Grammar" : PySem.Str)]
def fldA : List Str := [("all_told" : PySem.Str), ("made_once" : PySem.Str), ("parts" : PySem.Str), ("kinds" : PySem.Str), ("rules" : PySem.Str)]
def mkC (P : Program) (w : World) (K : PySem.W.Frag) (mg : Str → Option Value) : Cst := ⟨P, w, K, mg, [.glo ("is_one_of" : PySem.Str), .glo ("is_word" : PySem.Str), .glo ("is_tuple_of" : PySem.Str), .glo ("is_pair" : PySem.Str), .glo ("wrong_in" : PySem.Str), .glo ("are_all" : PySem.Str), .glo ("is_letter" : PySem.Str), .glo ("is_kind_name" : PySem.Str), .glo ("is_rule" : PySem.Str), .glo ("kinds_of" : PySem.Str), .glo ("is_next_rule" : PySem.Str), .glo ("wrong_in_rules" : PySem.Str), .met (He.ma K (He.ga K ("Grammar" : PySem.Str)) ("__init__" : PySem.Str)), .met (getA ("Grammar" : PySem.Str) ("rules" : PySem.Str) K), .met (getA ("Grammar" : PySem.Str) ("kinds" : PySem.Str) K), .met (getA ("Grammar" : PySem.Str) ("parts" : PySem.Str) K), .met (He.ma K (He.ga K ("Grammar" : PySem.Str)) ("__eq__" : PySem.Str)), .met (He.ma K (He.ga K ("Grammar" : PySem.Str)) ("once" : PySem.Str)), .glo ("check_grammar" : PySem.Str), .glo ("makers" : PySem.Str), .glo ("barren_by" : PySem.Str), .glo ("empties_by" : PySem.Str), .glo ("alone_in" : PySem.Str), .glo ("leads_alone" : PySem.Str), .glo ("reached_from" : PySem.Str), .glo ("turning_by" : PySem.Str), .glo ("wrong_kinds" : PySem.Str), .glo ("first_barren" : PySem.Str), .glo ("first_turning" : PySem.Str), .glo ("empty_kinds" : PySem.Str), .glo ("is_let_by" : PySem.Str), .glo ("_law_bowl" : PySem.Str), .glo ("_law_draw" : PySem.Str), .glo ("_law_of" : PySem.Str), .glo ("_law_same" : PySem.Str), .glo ("_law_names" : PySem.Str), .glo ("_law_kinds" : PySem.Str), .glo ("_law_any_rules" : PySem.Str), .glo ("_law_making" : PySem.Str), .glo ("_law_looked" : PySem.Str), .glo ("_law_come" : PySem.Str), .glo ("_law_rules" : PySem.Str), .glo ("_law_right" : PySem.Str), .glo ("law" : PySem.Str), .lam L0, .lam L1], clsA, fldA, [(30, 0, [("grammar" : PySem.Str)], [0]), (29, 0, [("grammar" : PySem.Str)], [0]), (28, 0, [("grammar" : PySem.Str)], [0]), (27, 0, [("grammar" : PySem.Str)], [0])], [((cTA K fun K => (He.ga K ("are_all" : PySem.Str))).2, fun _ _ => ("are_all.<locals>.<lambda>" : PySem.Str)), ((cTA K fun K => (He.ga K ("is_rule" : PySem.Str))).2, fun _ _ => ("is_rule.<locals>.<lambda>" : PySem.Str))]⟩
def fal : List He.Fa := [.free ("isinstance" : PySem.Str), .free ("str" : PySem.Str), .free ("all" : PySem.Str), .str ("LETTERS" : PySem.Str) ("abcdefghijklmnopqrstuvwxyz" : PySem.Str), .free ("tuple" : PySem.Str), .free ("len" : PySem.Str), .glo ("is_tuple_of" : PySem.Str), .keep ("is_tuple_of" : PySem.Str), .free ("enumerate" : PySem.Str), .glo ("wrong_in" : PySem.Str), .keep ("wrong_in" : PySem.Str), .glo ("is_one_of" : PySem.Str), .keep ("is_one_of" : PySem.Str), .free ("list" : PySem.Str), .str ("SIGNS" : PySem.Str) ("abcde" : PySem.Str), .glo ("is_word" : PySem.Str), .keep ("is_word" : PySem.Str), .int ("LEAST_NAME" : PySem.Str) 2, .int ("MOST_NAME" : PySem.Str) 8, .glo ("is_pair" : PySem.Str), .keep ("is_pair" : PySem.Str), .glo ("is_kind_name" : PySem.Str), .keep ("is_kind_name" : PySem.Str), .glo ("are_all" : PySem.Str), .keep ("are_all" : PySem.Str), .glo ("is_letter" : PySem.Str), .keep ("is_letter" : PySem.Str), .int ("MOST_BODY" : PySem.Str) 4, .glo ("is_rule" : PySem.Str), .keep ("is_rule" : PySem.Str), .glo ("kinds_of" : PySem.Str), .keep ("kinds_of" : PySem.Str), .int ("MOST_KINDS" : PySem.Str) 8, .glo ("is_next_rule" : PySem.Str), .keep ("is_next_rule" : PySem.Str), .int ("MOST_RULES" : PySem.Str) 16, .glo ("wrong_in_rules" : PySem.Str), .keep ("wrong_in_rules" : PySem.Str), .glo ("Grammar" : PySem.Str), .glo ("makers" : PySem.Str), .keep ("makers" : PySem.Str), .glo ("empties_by" : PySem.Str), .keep ("empties_by" : PySem.Str), .glo ("alone_in" : PySem.Str), .keep ("alone_in" : PySem.Str), .glo ("leads_alone" : PySem.Str), .keep ("leads_alone" : PySem.Str), .glo ("reached_from" : PySem.Str), .keep ("reached_from" : PySem.Str), .glo ("turning_by" : PySem.Str), .keep ("turning_by" : PySem.Str), .glo ("barren_by" : PySem.Str), .keep ("barren_by" : PySem.Str), .glo ("check_grammar" : PySem.Str), .keep ("check_grammar" : PySem.Str), .glo ("wrong_kinds" : PySem.Str), .keep ("wrong_kinds" : PySem.Str), .free ("int" : PySem.Str), .free ("abs" : PySem.Str), .free ("divmod" : PySem.Str), .glo ("_law_draw" : PySem.Str), .keep ("_law_draw" : PySem.Str), .free ("range" : PySem.Str), .glo ("_law_same" : PySem.Str), .keep ("_law_same" : PySem.Str), .free ("bool" : PySem.Str), .glo ("_law_of" : PySem.Str), .keep ("_law_of" : PySem.Str), .glo ("_law_names" : PySem.Str), .keep ("_law_names" : PySem.Str), .glo ("_law_kinds" : PySem.Str), .keep ("_law_kinds" : PySem.Str), .glo ("_law_making" : PySem.Str), .keep ("_law_making" : PySem.Str), .glo ("_law_come" : PySem.Str), .keep ("_law_come" : PySem.Str), .glo ("_law_any_rules" : PySem.Str), .keep ("_law_any_rules" : PySem.Str), .glo ("_law_looked" : PySem.Str), .keep ("_law_looked" : PySem.Str), .glo ("_law_rules" : PySem.Str), .keep ("_law_rules" : PySem.Str), .mkr ("Grammar" : PySem.Str), .glo ("empty_kinds" : PySem.Str), .keep ("empty_kinds" : PySem.Str), .glo ("first_turning" : PySem.Str), .keep ("first_turning" : PySem.Str), .glo ("first_barren" : PySem.Str), .keep ("first_barren" : PySem.Str), .glo ("is_let_by" : PySem.Str), .keep ("is_let_by" : PySem.Str), .free ("max" : PySem.Str), .free ("min" : PySem.Str), .glo ("_law_right" : PySem.Str), .keep ("_law_right" : PySem.Str), .glo ("_law_bowl" : PySem.Str), .keep ("_law_bowl" : PySem.Str), .glo ("law" : PySem.Str)]
def ex (K : PySem.W.Frag) : Bool := gokB clsA fldA prg K && (fal.all (fun f => f.ok K) && decide ((tfl.map fun p => (cTA K p).2).Nodup))
section
variable {P : Program} {w : World} {K : PySem.W.Frag} {mg : Str → Option Value} {h : Heap}
theorem fo (c : SaysM ex fnl tfl h K) (i : Nat) {f : He.Fa} (e : fal[i]? = some f) : f.ok K = true := List.all_eq_true.mp (He.ba (He.ba c.more).2).1 f (List.mem_of_getElem? e)
theorem facts (X : K.In h) (N : h.Ns mainGlobals mg) (c : SaysM ex fnl tfl h K) : Facts (mkC P w K mg) prg := by
  have fo : ∀ (i : Nat) {f : He.Fa}, fal[i]? = some f → f.ok K = true := fun i => fo c i
  refine { ok := gok_of (C := mkC P w K mg) X N (He.ba c.more).1 (by show fldA.Nodup; decide +kernel) ?_ ?_, b_isinstance := fc_free X N (fo 0 (f := .free ("isinstance" : PySem.Str)) rfl), b_str := fc_free X N (fo 1 (f := .free ("str" : PySem.Str)) rfl), b_all := fc_free X N (fo 2 (f := .free ("all" : PySem.Str)) rfl), s_LETTERS := fc_str X N (fo 3 (f := .str ("LETTERS" : PySem.Str) ("abcdefghijklmnopqrstuvwxyz" : PySem.Str)) rfl), b_tuple := fc_free X N (fo 4 (f := .free ("tuple" : PySem.Str)) rfl), b_len := fc_free X N (fo 5 (f := .free ("len" : PySem.Str)) rfl), g_is_tuple_of := fc_glo X N (fo 6 (f := .glo ("is_tuple_of" : PySem.Str)) rfl) (fo 7 (f := .keep ("is_tuple_of" : PySem.Str)) rfl) rfl, b_enumerate := fc_free X N (fo 8 (f := .free ("enumerate" : PySem.Str)) rfl), g_wrong_in := fc_glo X N (fo 9 (f := .glo ("wrong_in" : PySem.Str)) rfl) (fo 10 (f := .keep ("wrong_in" : PySem.Str)) rfl) rfl, lam_0 := rfl, g_is_one_of := fc_glo X N (fo 11 (f := .glo ("is_one_of" : PySem.Str)) rfl) (fo 12 (f := .keep ("is_one_of" : PySem.Str)) rfl) rfl, b_list := fc_free X N (fo 13 (f := .free ("list" : PySem.Str)) rfl), s_SIGNS := fc_str X N (fo 14 (f := .str ("SIGNS" : PySem.Str) ("abcde" : PySem.Str)) rfl), g_is_word := fc_glo X N (fo 15 (f := .glo ("is_word" : PySem.Str)) rfl) (fo 16 (f := .keep ("is_word" : PySem.Str)) rfl) rfl, i_LEAST_NAME := fc_int X N (fo 17 (f := .int ("LEAST_NAME" : PySem.Str) 2) rfl), i_MOST_NAME := fc_int X N (fo 18 (f := .int ("MOST_NAME" : PySem.Str) 8) rfl), g_is_pair := fc_glo X N (fo 19 (f := .glo ("is_pair" : PySem.Str)) rfl) (fo 20 (f := .keep ("is_pair" : PySem.Str)) rfl) rfl, g_is_kind_name := fc_glo X N (fo 21 (f := .glo ("is_kind_name" : PySem.Str)) rfl) (fo 22 (f := .keep ("is_kind_name" : PySem.Str)) rfl) rfl, g_are_all := fc_glo X N (fo 23 (f := .glo ("are_all" : PySem.Str)) rfl) (fo 24 (f := .keep ("are_all" : PySem.Str)) rfl) rfl, g_is_letter := fc_glo X N (fo 25 (f := .glo ("is_letter" : PySem.Str)) rfl) (fo 26 (f := .keep ("is_letter" : PySem.Str)) rfl) rfl, i_MOST_BODY := fc_int X N (fo 27 (f := .int ("MOST_BODY" : PySem.Str) 4) rfl), lam_1 := rfl, g_is_rule := fc_glo X N (fo 28 (f := .glo ("is_rule" : PySem.Str)) rfl) (fo 29 (f := .keep ("is_rule" : PySem.Str)) rfl) rfl, g_kinds_of := fc_glo X N (fo 30 (f := .glo ("kinds_of" : PySem.Str)) rfl) (fo 31 (f := .keep ("kinds_of" : PySem.Str)) rfl) rfl, i_MOST_KINDS := fc_int X N (fo 32 (f := .int ("MOST_KINDS" : PySem.Str) 8) rfl), g_is_next_rule := fc_glo X N (fo 33 (f := .glo ("is_next_rule" : PySem.Str)) rfl) (fo 34 (f := .keep ("is_next_rule" : PySem.Str)) rfl) rfl, i_MOST_RULES := fc_int X N (fo 35 (f := .int ("MOST_RULES" : PySem.Str) 16) rfl), g_wrong_in_rules := fc_glo X N (fo 36 (f := .glo ("wrong_in_rules" : PySem.Str)) rfl) (fo 37 (f := .keep ("wrong_in_rules" : PySem.Str)) rfl) rfl, fld_all_told := rfl, fld_made_once := rfl, cl_Grammar := rfl, ca_Grammar := fc_ca X N (fo 38 (f := .glo ("Grammar" : PySem.Str)) rfl), fld_parts := rfl, fld_rules := rfl, fld_kinds := rfl, g_makers := fc_glo X N (fo 39 (f := .glo ("makers" : PySem.Str)) rfl) (fo 40 (f := .keep ("makers" : PySem.Str)) rfl) rfl, g_empties_by := fc_glo X N (fo 41 (f := .glo ("empties_by" : PySem.Str)) rfl) (fo 42 (f := .keep ("empties_by" : PySem.Str)) rfl) rfl, g_alone_in := fc_glo X N (fo 43 (f := .glo ("alone_in" : PySem.Str)) rfl) (fo 44 (f := .keep ("alone_in" : PySem.Str)) rfl) rfl, g_leads_alone := fc_glo X N (fo 45 (f := .glo ("leads_alone" : PySem.Str)) rfl) (fo 46 (f := .keep ("leads_alone" : PySem.Str)) rfl) rfl, g_reached_from := fc_glo X N (fo 47 (f := .glo ("reached_from" : PySem.Str)) rfl) (fo 48 (f := .keep ("reached_from" : PySem.Str)) rfl) rfl, g_turning_by := fc_glo X N (fo 49 (f := .glo ("turning_by" : PySem.Str)) rfl) (fo 50 (f := .keep ("turning_by" : PySem.Str)) rfl) rfl, g_barren_by := fc_glo X N (fo 51 (f := .glo ("barren_by" : PySem.Str)) rfl) (fo 52 (f := .keep ("barren_by" : PySem.Str)) rfl) rfl, g_check_grammar := fc_glo X N (fo 53 (f := .glo ("check_grammar" : PySem.Str)) rfl) (fo 54 (f := .keep ("check_grammar" : PySem.Str)) rfl) rfl, g_wrong_kinds := fc_glo X N (fo 55 (f := .glo ("wrong_kinds" : PySem.Str)) rfl) (fo 56 (f := .keep ("wrong_kinds" : PySem.Str)) rfl) rfl, b_int := fc_free X N (fo 57 (f := .free ("int" : PySem.Str)) rfl), b_abs := fc_free X N (fo 58 (f := .free ("abs" : PySem.Str)) rfl), b_divmod := fc_free X N (fo 59 (f := .free ("divmod" : PySem.Str)) rfl), g__law_draw := fc_glo X N (fo 60 (f := .glo ("_law_draw" : PySem.Str)) rfl) (fo 61 (f := .keep ("_law_draw" : PySem.Str)) rfl) rfl, b_range := fc_free X N (fo 62 (f := .free ("range" : PySem.Str)) rfl), g__law_same := fc_glo X N (fo 63 (f := .glo ("_law_same" : PySem.Str)) rfl) (fo 64 (f := .keep ("_law_same" : PySem.Str)) rfl) rfl, b_bool := fc_free X N (fo 65 (f := .free ("bool" : PySem.Str)) rfl), g__law_of := fc_glo X N (fo 66 (f := .glo ("_law_of" : PySem.Str)) rfl) (fo 67 (f := .keep ("_law_of" : PySem.Str)) rfl) rfl, g__law_names := fc_glo X N (fo 68 (f := .glo ("_law_names" : PySem.Str)) rfl) (fo 69 (f := .keep ("_law_names" : PySem.Str)) rfl) rfl, g__law_kinds := fc_glo X N (fo 70 (f := .glo ("_law_kinds" : PySem.Str)) rfl) (fo 71 (f := .keep ("_law_kinds" : PySem.Str)) rfl) rfl, g__law_making := fc_glo X N (fo 72 (f := .glo ("_law_making" : PySem.Str)) rfl) (fo 73 (f := .keep ("_law_making" : PySem.Str)) rfl) rfl, g__law_come := fc_glo X N (fo 74 (f := .glo ("_law_come" : PySem.Str)) rfl) (fo 75 (f := .keep ("_law_come" : PySem.Str)) rfl) rfl, g__law_any_rules := fc_glo X N (fo 76 (f := .glo ("_law_any_rules" : PySem.Str)) rfl) (fo 77 (f := .keep ("_law_any_rules" : PySem.Str)) rfl) rfl, g__law_looked := fc_glo X N (fo 78 (f := .glo ("_law_looked" : PySem.Str)) rfl) (fo 79 (f := .keep ("_law_looked" : PySem.Str)) rfl) rfl, g__law_rules := fc_glo X N (fo 80 (f := .glo ("_law_rules" : PySem.Str)) rfl) (fo 81 (f := .keep ("_law_rules" : PySem.Str)) rfl) rfl, mk_Grammar := fc_mk X N (fo 38 (f := .glo ("Grammar" : PySem.Str)) rfl) (fo 82 (f := .mkr ("Grammar" : PySem.Str)) rfl) rfl rfl, g_empty_kinds := fc_glo X N (fo 83 (f := .glo ("empty_kinds" : PySem.Str)) rfl) (fo 84 (f := .keep ("empty_kinds" : PySem.Str)) rfl) rfl, g_first_turning := fc_glo X N (fo 85 (f := .glo ("first_turning" : PySem.Str)) rfl) (fo 86 (f := .keep ("first_turning" : PySem.Str)) rfl) rfl, g_first_barren := fc_glo X N (fo 87 (f := .glo ("first_barren" : PySem.Str)) rfl) (fo 88 (f := .keep ("first_barren" : PySem.Str)) rfl) rfl, g_is_let_by := fc_glo X N (fo 89 (f := .glo ("is_let_by" : PySem.Str)) rfl) (fo 90 (f := .keep ("is_let_by" : PySem.Str)) rfl) rfl, kw_30_grammar := List.mem_of_getElem? (i := 0) rfl, kw_29_grammar := List.mem_of_getElem? (i := 1) rfl, kw_28_grammar := List.mem_of_getElem? (i := 2) rfl, kw_27_grammar := List.mem_of_getElem? (i := 3) rfl, b_max := fc_free X N (fo 91 (f := .free ("max" : PySem.Str)) rfl), b_min := fc_free X N (fo 92 (f := .free ("min" : PySem.Str)) rfl), g__law_right := fc_glo X N (fo 93 (f := .glo ("_law_right" : PySem.Str)) rfl) (fo 94 (f := .keep ("_law_right" : PySem.Str)) rfl) rfl, g__law_bowl := fc_glo X N (fo 95 (f := .glo ("_law_bowl" : PySem.Str)) rfl) (fo 96 (f := .keep ("_law_bowl" : PySem.Str)) rfl) rfl }
  · intro e he x y h1 h2
    rcases List.mem_cons.mp he with rfl | he
    · cases h1; cases h2; rfl
    rcases List.mem_cons.mp he with rfl | he
    · cases h1; cases h2; rfl
    rcases List.mem_cons.mp he with rfl | he
    · cases h1; cases h2; rfl
    cases he
  · intro e he x h1
    rcases List.mem_cons.mp he with rfl | he
    · cases h1; rfl
    cases he
end
section
variable {C : Cst} {cl : Call} {fu k : Nat} {base : Heap} {f : Addr} {fd : FuncData}
theorem has0 (fa : Facts C prg) (ok : FnsOk C.P C.w C.K C.mg base C k cl) (F : FunD C.K ("is_one_of" : PySem.Str) ("is_one_of" : PySem.Str) (defArgs (top 6)) (defBody (top 6)) (defScope (top 6)) [] [] f fd) : FnOk C.P C.w C.K C.mg base C8.CX0 (k + 2) f fd [("value" : PySem.Str), ("words" : PySem.Str)] (spD C fun ds S => runF prg cl fu ⟨false, 2, 0, 2, ir0⟩ [] ds S) :=
  has_fn (N := N0) (md := mdOf []) F ok (by kernel_rfl) rfl rfl rfl rfl (by decide) fun X W0 H cx hf e1 e2 e3 => body0 fa cx hf
theorem bds0 {K : PySem.W.Frag} (F : FunD K ("is_one_of" : PySem.Str) ("is_one_of" : PySem.Str) (defArgs (top 6)) (defBody (top 6)) (defScope (top 6)) [] [] f fd) : Binds K fd [("value" : PySem.Str), ("words" : PySem.Str)] [] := F.bindsN fun _ _ _ _ _ _ us hl => match us, hl with | [_, _], _ => rfl
theorem has1 (fa : Facts C prg) (ok : FnsOk C.P C.w C.K C.mg base C k cl) (F : FunD C.K ("is_word" : PySem.Str) ("is_word" : PySem.Str) (defArgs (top 7)) (defBody (top 7)) (defScope (top 7)) [] [] f fd) : FnOk C.P C.w C.K C.mg base C8.CX0 (k + 2) f fd [("value" : PySem.Str)] (spD C fun ds S => runF prg cl fu ⟨false, 1, 0, 2, ir1⟩ [] ds S) :=
  has_fn (N := N1) (md := mdOf []) F ok (by kernel_rfl) rfl rfl rfl rfl (by decide) fun X W0 H cx hf e1 e2 e3 => body1 fa cx hf
theorem bds1 {K : PySem.W.Frag} (F : FunD K ("is_word" : PySem.Str) ("is_word" : PySem.Str) (defArgs (top 7)) (defBody (top 7)) (defScope (top 7)) [] [] f fd) : Binds K fd [("value" : PySem.Str)] [] := F.bindsN fun _ _ _ _ _ _ us hl => match us, hl with | [_], _ => rfl
theorem has2 (fa : Facts C prg) (ok : FnsOk C.P C.w C.K C.mg base C k cl) (F : FunD C.K ("is_tuple_of" : PySem.Str) ("is_tuple_of" : PySem.Str) (defArgs (top 8)) (defBody (top 8)) (defScope (top 8)) [] [] f fd) : FnOk C.P C.w C.K C.mg base C8.CX0 (k + 2) f fd [("value" : PySem.Str), ("many" : PySem.Str)] (spD C fun ds S => runF prg cl fu ⟨false, 2, 0, 2, ir2⟩ [] ds S) :=
  has_fn (N := N2) (md := mdOf []) F ok (by kernel_rfl) rfl rfl rfl rfl (by decide) fun X W0 H cx hf e1 e2 e3 => body2 fa cx hf
theorem bds2 {K : PySem.W.Frag} (F : FunD K ("is_tuple_of" : PySem.Str) ("is_tuple_of" : PySem.Str) (defArgs (top 8)) (defBody (top 8)) (defScope (top 8)) [] [] f fd) : Binds K fd [("value" : PySem.Str), ("many" : PySem.Str)] [] := F.bindsN fun _ _ _ _ _ _ us hl => match us, hl with | [_, _], _ => rfl
theorem has3 (fa : Facts C prg) (ok : FnsOk C.P C.w C.K C.mg base C k cl) (F : FunD C.K ("is_pair" : PySem.Str) ("is_pair" : PySem.Str) (defArgs (top 9)) (defBody (top 9)) (defScope (top 9)) [] [] f fd) : FnOk C.P C.w C.K C.mg base C8.CX0 (k + 2) f fd [("value" : PySem.Str)] (spD C fun ds S => runF prg cl fu ⟨false, 1, 0, 1, ir3⟩ [] ds S) :=
  has_fn (N := N3) (md := mdOf []) F ok (by kernel_rfl) rfl rfl rfl rfl (by decide) fun X W0 H cx hf e1 e2 e3 => body3 fa cx hf
theorem bds3 {K : PySem.W.Frag} (F : FunD K ("is_pair" : PySem.Str) ("is_pair" : PySem.Str) (defArgs (top 9)) (defBody (top 9)) (defScope (top 9)) [] [] f fd) : Binds K fd [("value" : PySem.Str)] [] := F.bindsN fun _ _ _ _ _ _ us hl => match us, hl with | [_], _ => rfl
theorem has4 (fa : Facts C prg) (ok : FnsOk C.P C.w C.K C.mg base C k cl) (F : FunD C.K ("wrong_in" : PySem.Str) ("wrong_in" : PySem.Str) (defArgs (top 10)) (defBody (top 10)) (defScope (top 10)) [] [] f fd) : FnOk C.P C.w C.K C.mg base C8.CX0 (k + 2) f fd [("value" : PySem.Str), ("least" : PySem.Str), ("most" : PySem.Str), ("is_right" : PySem.Str)] (spD C fun ds S => runF prg cl fu ⟨false, 4, 0, 6, ir4⟩ [] ds S) :=
  has_fn (N := N4) (md := mdOf []) F ok (by kernel_rfl) rfl rfl rfl rfl (by decide) fun X W0 H cx hf e1 e2 e3 => body4 fa cx hf
theorem bds4 {K : PySem.W.Frag} (F : FunD K ("wrong_in" : PySem.Str) ("wrong_in" : PySem.Str) (defArgs (top 10)) (defBody (top 10)) (defScope (top 10)) [] [] f fd) : Binds K fd [("value" : PySem.Str), ("least" : PySem.Str), ("most" : PySem.Str), ("is_right" : PySem.Str)] [] := F.bindsN fun _ _ _ _ _ _ us hl => match us, hl with | [_, _, _, _], _ => rfl
theorem has5 (fa : Facts C prg) (ok : FnsOk C.P C.w C.K C.mg base C k cl) (F : FunD C.K ("are_all" : PySem.Str) ("are_all" : PySem.Str) (defArgs (top 11)) (defBody (top 11)) (defScope (top 11)) [] [] f fd) {PT : Addr} (TB : LamX.TabB base C.mg (codeA C.K f) PT) (hT : (PT, fun _ _ => ("are_all.<locals>.<lambda>" : PySem.Str)) ∈ C.T) (hu : ∀ p ∈ C.T, p.1 = PT → p.2 = fun _ _ => ("are_all.<locals>.<lambda>" : PySem.Str)) : FnOk C.P C.w C.K C.mg base C8.CX0 (k + 2) f fd [("value" : PySem.Str), ("least" : PySem.Str), ("most" : PySem.Str), ("is_right" : PySem.Str)] (spD C fun ds S => runF prg cl fu ⟨false, 4, 0, 4, ir5⟩ [] ds S) :=
  has_fn (N := N5) (md := mdOf []) F ok (by kernel_rfl) rfl rfl rfl rfl (by decide) fun X W0 H cx hf e1 e2 e3 => body5 fa cx hf (lamCx_of cx e3 TB e2 hT hu e1 rfl rfl)
theorem bds5 {K : PySem.W.Frag} (F : FunD K ("are_all" : PySem.Str) ("are_all" : PySem.Str) (defArgs (top 11)) (defBody (top 11)) (defScope (top 11)) [] [] f fd) : Binds K fd [("value" : PySem.Str), ("least" : PySem.Str), ("most" : PySem.Str), ("is_right" : PySem.Str)] [] := F.bindsN fun _ _ _ _ _ _ us hl => match us, hl with | [_, _, _, _], _ => rfl
theorem has6 (fa : Facts C prg) (ok : FnsOk C.P C.w C.K C.mg base C k cl) (F : FunD C.K ("is_letter" : PySem.Str) ("is_letter" : PySem.Str) (defArgs (top 19)) (defBody (top 19)) (defScope (top 19)) [] [] f fd) : FnOk C.P C.w C.K C.mg base C8.CX0 (k + 2) f fd [("value" : PySem.Str)] (spD C fun ds S => runF prg cl fu ⟨false, 1, 0, 1, ir6⟩ [] ds S) :=
  has_fn (N := N6) (md := mdOf []) F ok (by kernel_rfl) rfl rfl rfl rfl (by decide) fun X W0 H cx hf e1 e2 e3 => body6 fa cx hf
theorem bds6 {K : PySem.W.Frag} (F : FunD K ("is_letter" : PySem.Str) ("is_letter" : PySem.Str) (defArgs (top 19)) (defBody (top 19)) (defScope (top 19)) [] [] f fd) : Binds K fd [("value" : PySem.Str)] [] := F.bindsN fun _ _ _ _ _ _ us hl => match us, hl with | [_], _ => rfl
theorem has7 (fa : Facts C prg) (ok : FnsOk C.P C.w C.K C.mg base C k cl) (F : FunD C.K ("is_kind_name" : PySem.Str) ("is_kind_name" : PySem.Str) (defArgs (top 20)) (defBody (top 20)) (defScope (top 20)) [] [] f fd) : FnOk C.P C.w C.K C.mg base C8.CX0 (k + 2) f fd [("value" : PySem.Str)] (spD C fun ds S => runF prg cl fu ⟨false, 1, 0, 1, ir7⟩ [] ds S) :=
  has_fn (N := N7) (md := mdOf []) F ok (by kernel_rfl) rfl rfl rfl rfl (by decide) fun X W0 H cx hf e1 e2 e3 => body7 fa cx hf
theorem bds7 {K : PySem.W.Frag} (F : FunD K ("is_kind_name" : PySem.Str) ("is_kind_name" : PySem.Str) (defArgs (top 20)) (defBody (top 20)) (defScope (top 20)) [] [] f fd) : Binds K fd [("value" : PySem.Str)] [] := F.bindsN fun _ _ _ _ _ _ us hl => match us, hl with | [_], _ => rfl
theorem has8 (fa : Facts C prg) (ok : FnsOk C.P C.w C.K C.mg base C k cl) (F : FunD C.K ("is_rule" : PySem.Str) ("is_rule" : PySem.Str) (defArgs (top 21)) (defBody (top 21)) (defScope (top 21)) [] [] f fd) {PT : Addr} (TB : LamX.TabB base C.mg (codeA C.K f) PT) (hT : (PT, fun _ _ => ("is_rule.<locals>.<lambda>" : PySem.Str)) ∈ C.T) (hu : ∀ p ∈ C.T, p.1 = PT → p.2 = fun _ _ => ("is_rule.<locals>.<lambda>" : PySem.Str)) : FnOk C.P C.w C.K C.mg base C8.CX0 (k + 2) f fd [("value" : PySem.Str)] (spD C fun ds S => runF prg cl fu ⟨false, 1, 0, 1, ir8⟩ [] ds S) :=
  has_fn (N := N8) (md := mdOf []) F ok (by kernel_rfl) rfl rfl rfl rfl (by decide) fun X W0 H cx hf e1 e2 e3 => body8 fa cx hf (lamCx_of cx e3 TB e2 hT hu e1 rfl rfl)
theorem bds8 {K : PySem.W.Frag} (F : FunD K ("is_rule" : PySem.Str) ("is_rule" : PySem.Str) (defArgs (top 21)) (defBody (top 21)) (defScope (top 21)) [] [] f fd) : Binds K fd [("value" : PySem.Str)] [] := F.bindsN fun _ _ _ _ _ _ us hl => match us, hl with | [_], _ => rfl
theorem has9 (fa : Facts C prg) (ok : FnsOk C.P C.w C.K C.mg base C k cl) (F : FunD C.K ("kinds_of" : PySem.Str) ("kinds_of" : PySem.Str) (defArgs (top 22)) (defBody (top 22)) (defScope (top 22)) [] [] f fd) : FnOk C.P C.w C.K C.mg base C8.CX0 (k + 2) f fd [("rules" : PySem.Str)] (spD C fun ds S => runF prg cl fu ⟨false, 1, 0, 5, ir9⟩ [] ds S) :=
  has_fn (N := N9) (md := mdOf [1]) F ok (by kernel_rfl) rfl rfl rfl rfl (by decide) fun X W0 H cx hf e1 e2 e3 => body9 fa cx hf
theorem bds9 {K : PySem.W.Frag} (F : FunD K ("kinds_of" : PySem.Str) ("kinds_of" : PySem.Str) (defArgs (top 22)) (defBody (top 22)) (defScope (top 22)) [] [] f fd) : Binds K fd [("rules" : PySem.Str)] [] := F.bindsN fun _ _ _ _ _ _ us hl => match us, hl with | [_], _ => rfl
theorem has10 (fa : Facts C prg) (ok : FnsOk C.P C.w C.K C.mg base C k cl) (F : FunD C.K ("is_next_rule" : PySem.Str) ("is_next_rule" : PySem.Str) (defArgs (top 23)) (defBody (top 23)) (defScope (top 23)) [] [] f fd) : FnOk C.P C.w C.K C.mg base C8.CX0 (k + 2) f fd [("ahead" : PySem.Str), ("value" : PySem.Str)] (spD C fun ds S => runF prg cl fu ⟨false, 2, 0, 2, ir10⟩ [] ds S) :=
  has_fn (N := N10) (md := mdOf []) F ok (by kernel_rfl) rfl rfl rfl rfl (by decide) fun X W0 H cx hf e1 e2 e3 => body10 fa cx hf
theorem bds10 {K : PySem.W.Frag} (F : FunD K ("is_next_rule" : PySem.Str) ("is_next_rule" : PySem.Str) (defArgs (top 23)) (defBody (top 23)) (defScope (top 23)) [] [] f fd) : Binds K fd [("ahead" : PySem.Str), ("value" : PySem.Str)] [] := F.bindsN fun _ _ _ _ _ _ us hl => match us, hl with | [_, _], _ => rfl
theorem has11 (fa : Facts C prg) (ok : FnsOk C.P C.w C.K C.mg base C k cl) (F : FunD C.K ("wrong_in_rules" : PySem.Str) ("wrong_in_rules" : PySem.Str) (defArgs (top 24)) (defBody (top 24)) (defScope (top 24)) [] [] f fd) : FnOk C.P C.w C.K C.mg base C8.CX0 (k + 2) f fd [("value" : PySem.Str)] (spD C fun ds S => runF prg cl fu ⟨false, 1, 0, 8, ir11⟩ [] ds S) :=
  has_fn (N := N11) (md := mdOf []) F ok (by kernel_rfl) rfl rfl rfl rfl (by decide) fun X W0 H cx hf e1 e2 e3 => body11 fa cx hf
theorem bds11 {K : PySem.W.Frag} (F : FunD K ("wrong_in_rules" : PySem.Str) ("wrong_in_rules" : PySem.Str) (defArgs (top 24)) (defBody (top 24)) (defScope (top 24)) [] [] f fd) : Binds K fd [("value" : PySem.Str)] [] := F.bindsN fun _ _ _ _ _ _ us hl => match us, hl with | [_], _ => rfl
theorem has12 (fa : Facts C prg) (ok : FnsOk C.P C.w C.K C.mg base C k cl) (F : FunD C.K ("__init__" : PySem.Str) ("Grammar.__init__" : PySem.Str) (defArgs (inClass (top 26) 0)) (defBody (inClass (top 26) 0)) (defScope (inClass (top 26) 0)) [] [] f fd) : FnOk C.P C.w C.K C.mg base C8.CX0 (k + 2) f fd [("self" : PySem.Str), ("rules" : PySem.Str)] (spD C fun ds S => runF prg cl fu ⟨false, 2, 0, 3, ir12⟩ [] ds S) :=
  has_fn (N := N12) (md := mdOf []) F ok (by kernel_rfl) rfl rfl rfl rfl (by decide) fun X W0 H cx hf e1 e2 e3 => body12 fa cx hf
theorem bds12 {K : PySem.W.Frag} (F : FunD K ("__init__" : PySem.Str) ("Grammar.__init__" : PySem.Str) (defArgs (inClass (top 26) 0)) (defBody (inClass (top 26) 0)) (defScope (inClass (top 26) 0)) [] [] f fd) : Binds K fd [("self" : PySem.Str), ("rules" : PySem.Str)] [] := F.bindsN fun _ _ _ _ _ _ us hl => match us, hl with | [_, _], _ => rfl
theorem has13 (fa : Facts C prg) (ok : FnsOk C.P C.w C.K C.mg base C k cl) (F : FunD C.K ("rules" : PySem.Str) ("Grammar.rules" : PySem.Str) (defArgs (inClass (top 26) 1)) (defBody (inClass (top 26) 1)) (defScope (inClass (top 26) 1)) [] [] f fd) : FnOk C.P C.w C.K C.mg base C8.CX0 (k + 2) f fd [("self" : PySem.Str)] (spD C fun ds S => runF prg cl fu ⟨false, 1, 0, 1, ir13⟩ [] ds S) :=
  has_fn (N := N13) (md := mdOf []) F ok (by kernel_rfl) rfl rfl rfl rfl (by decide) fun X W0 H cx hf e1 e2 e3 => body13 fa cx hf
theorem bds13 {K : PySem.W.Frag} (F : FunD K ("rules" : PySem.Str) ("Grammar.rules" : PySem.Str) (defArgs (inClass (top 26) 1)) (defBody (inClass (top 26) 1)) (defScope (inClass (top 26) 1)) [] [] f fd) : Binds K fd [("self" : PySem.Str)] [] := F.bindsN fun _ _ _ _ _ _ us hl => match us, hl with | [_], _ => rfl
theorem has14 (fa : Facts C prg) (ok : FnsOk C.P C.w C.K C.mg base C k cl) (F : FunD C.K ("kinds" : PySem.Str) ("Grammar.kinds" : PySem.Str) (defArgs (inClass (top 26) 2)) (defBody (inClass (top 26) 2)) (defScope (inClass (top 26) 2)) [] [] f fd) : FnOk C.P C.w C.K C.mg base C8.CX0 (k + 2) f fd [("self" : PySem.Str)] (spD C fun ds S => runF prg cl fu ⟨false, 1, 0, 1, ir14⟩ [] ds S) :=
  has_fn (N := N14) (md := mdOf []) F ok (by kernel_rfl) rfl rfl rfl rfl (by decide) fun X W0 H cx hf e1 e2 e3 => body14 fa cx hf
theorem bds14 {K : PySem.W.Frag} (F : FunD K ("kinds" : PySem.Str) ("Grammar.kinds" : PySem.Str) (defArgs (inClass (top 26) 2)) (defBody (inClass (top 26) 2)) (defScope (inClass (top 26) 2)) [] [] f fd) : Binds K fd [("self" : PySem.Str)] [] := F.bindsN fun _ _ _ _ _ _ us hl => match us, hl with | [_], _ => rfl
theorem has15 (fa : Facts C prg) (ok : FnsOk C.P C.w C.K C.mg base C k cl) (F : FunD C.K ("parts" : PySem.Str) ("Grammar.parts" : PySem.Str) (defArgs (inClass (top 26) 3)) (defBody (inClass (top 26) 3)) (defScope (inClass (top 26) 3)) [] [] f fd) : FnOk C.P C.w C.K C.mg base C8.CX0 (k + 2) f fd [("self" : PySem.Str)] (spD C fun ds S => runF prg cl fu ⟨false, 1, 0, 1, ir15⟩ [] ds S) :=
  has_fn (N := N15) (md := mdOf []) F ok (by kernel_rfl) rfl rfl rfl rfl (by decide) fun X W0 H cx hf e1 e2 e3 => body15 fa cx hf
theorem bds15 {K : PySem.W.Frag} (F : FunD K ("parts" : PySem.Str) ("Grammar.parts" : PySem.Str) (defArgs (inClass (top 26) 3)) (defBody (inClass (top 26) 3)) (defScope (inClass (top 26) 3)) [] [] f fd) : Binds K fd [("self" : PySem.Str)] [] := F.bindsN fun _ _ _ _ _ _ us hl => match us, hl with | [_], _ => rfl
theorem has16 (fa : Facts C prg) (ok : FnsOk C.P C.w C.K C.mg base C k cl) (F : FunD C.K ("__eq__" : PySem.Str) ("Grammar.__eq__" : PySem.Str) (defArgs (inClass (top 26) 4)) (defBody (inClass (top 26) 4)) (defScope (inClass (top 26) 4)) [] [] f fd) : FnOk C.P C.w C.K C.mg base C8.CX0 (k + 2) f fd [("self" : PySem.Str), ("other" : PySem.Str)] (spD C fun ds S => runF prg cl fu ⟨false, 2, 0, 2, ir16⟩ [] ds S) :=
  has_fn (N := N16) (md := mdOf []) F ok (by kernel_rfl) rfl rfl rfl rfl (by decide) fun X W0 H cx hf e1 e2 e3 => body16 fa cx hf
theorem bds16 {K : PySem.W.Frag} (F : FunD K ("__eq__" : PySem.Str) ("Grammar.__eq__" : PySem.Str) (defArgs (inClass (top 26) 4)) (defBody (inClass (top 26) 4)) (defScope (inClass (top 26) 4)) [] [] f fd) : Binds K fd [("self" : PySem.Str), ("other" : PySem.Str)] [] := F.bindsN fun _ _ _ _ _ _ us hl => match us, hl with | [_, _], _ => rfl
theorem has17 (fa : Facts C prg) (ok : FnsOk C.P C.w C.K C.mg base C k cl) (F : FunD C.K ("once" : PySem.Str) ("Grammar.once" : PySem.Str) (defArgs (inClass (top 26) 5)) (defBody (inClass (top 26) 5)) (defScope (inClass (top 26) 5)) [] [] f fd) : FnOk C.P C.w C.K C.mg base C8.CX0 (k + 2) f fd [("self" : PySem.Str), ("key" : PySem.Str), ("make" : PySem.Str)] (spD C fun ds S => runF prg cl fu ⟨false, 3, 0, 3, ir17⟩ [] ds S) :=
  has_fn (N := N17) (md := mdOf []) F ok (by kernel_rfl) rfl rfl rfl rfl (by decide) fun X W0 H cx hf e1 e2 e3 => body17 fa cx hf
theorem bds17 {K : PySem.W.Frag} (F : FunD K ("once" : PySem.Str) ("Grammar.once" : PySem.Str) (defArgs (inClass (top 26) 5)) (defBody (inClass (top 26) 5)) (defScope (inClass (top 26) 5)) [] [] f fd) : Binds K fd [("self" : PySem.Str), ("key" : PySem.Str), ("make" : PySem.Str)] [] := F.bindsN fun _ _ _ _ _ _ us hl => match us, hl with | [_, _, _], _ => rfl
theorem has18 (fa : Facts C prg) (ok : FnsOk C.P C.w C.K C.mg base C k cl) (F : FunD C.K ("check_grammar" : PySem.Str) ("check_grammar" : PySem.Str) (defArgs (top 27)) (defBody (top 27)) (defScope (top 27)) [] [] f fd) : FnOk C.P C.w C.K C.mg base C8.CX0 (k + 2) f fd [("grammar" : PySem.Str)] (spD C fun ds S => runF prg cl fu ⟨false, 1, 0, 1, ir18⟩ [] ds S) :=
  has_fn (N := N18) (md := mdOf []) F ok (by kernel_rfl) rfl rfl rfl rfl (by decide) fun X W0 H cx hf e1 e2 e3 => body18 fa cx hf
theorem bds18 {K : PySem.W.Frag} (F : FunD K ("check_grammar" : PySem.Str) ("check_grammar" : PySem.Str) (defArgs (top 27)) (defBody (top 27)) (defScope (top 27)) [] [] f fd) : Binds K fd [("grammar" : PySem.Str)] [] := F.bindsN fun _ _ _ _ _ _ us hl => match us, hl with | [_], _ => rfl
theorem has19 (fa : Facts C prg) (ok : FnsOk C.P C.w C.K C.mg base C k cl) (F : FunD C.K ("makers" : PySem.Str) ("makers" : PySem.Str) (defArgs (top 29)) (defBody (top 29)) (defScope (top 29)) [] [] f fd) : FnOk C.P C.w C.K C.mg base C8.CX0 (k + 2) f fd [("grammar" : PySem.Str), ("does_make" : PySem.Str)] (spD C fun ds S => runF prg cl fu ⟨false, 2, 0, 8, ir19⟩ [] ds S) :=
  has_fn (N := N19) (md := mdOf []) F ok (by kernel_rfl) rfl rfl rfl rfl (by decide) fun X W0 H cx hf e1 e2 e3 => body19 fa cx hf
theorem bds19 {K : PySem.W.Frag} (F : FunD K ("makers" : PySem.Str) ("makers" : PySem.Str) (defArgs (top 29)) (defBody (top 29)) (defScope (top 29)) [] [] f fd) : Binds K fd [("grammar" : PySem.Str), ("does_make" : PySem.Str)] [] := F.bindsN fun _ _ _ _ _ _ us hl => match us, hl with | [_, _], _ => rfl
theorem has20 (fa : Facts C prg) (ok : FnsOk C.P C.w C.K C.mg base C k cl) (F : FunD C.K ("barren_by" : PySem.Str) ("barren_by" : PySem.Str) (defArgs (top 30)) (defBody (top 30)) (defScope (top 30)) [] [] f fd) : FnOk C.P C.w C.K C.mg base C8.CX0 (k + 2) f fd [("grammar" : PySem.Str)] (spD C fun ds S => runF prg cl fu ⟨false, 1, 0, 3, ir20⟩ [] ds S) :=
  has_fn (N := N20) (md := mdOf []) F ok (by kernel_rfl) rfl rfl rfl rfl (by decide) fun X W0 H cx hf e1 e2 e3 => body20 fa cx hf
theorem bds20 {K : PySem.W.Frag} (F : FunD K ("barren_by" : PySem.Str) ("barren_by" : PySem.Str) (defArgs (top 30)) (defBody (top 30)) (defScope (top 30)) [] [] f fd) : Binds K fd [("grammar" : PySem.Str)] [] := F.bindsN fun _ _ _ _ _ _ us hl => match us, hl with | [_], _ => rfl
theorem has21 (fa : Facts C prg) (ok : FnsOk C.P C.w C.K C.mg base C k cl) (F : FunD C.K ("empties_by" : PySem.Str) ("empties_by" : PySem.Str) (defArgs (top 31)) (defBody (top 31)) (defScope (top 31)) [] [] f fd) : FnOk C.P C.w C.K C.mg base C8.CX0 (k + 2) f fd [("grammar" : PySem.Str)] (spD C fun ds S => runF prg cl fu ⟨false, 1, 0, 1, ir21⟩ [] ds S) :=
  has_fn (N := N21) (md := mdOf []) F ok (by kernel_rfl) rfl rfl rfl rfl (by decide) fun X W0 H cx hf e1 e2 e3 => body21 fa cx hf
theorem bds21 {K : PySem.W.Frag} (F : FunD K ("empties_by" : PySem.Str) ("empties_by" : PySem.Str) (defArgs (top 31)) (defBody (top 31)) (defScope (top 31)) [] [] f fd) : Binds K fd [("grammar" : PySem.Str)] [] := F.bindsN fun _ _ _ _ _ _ us hl => match us, hl with | [_], _ => rfl
theorem has22 (fa : Facts C prg) (ok : FnsOk C.P C.w C.K C.mg base C k cl) (F : FunD C.K ("alone_in" : PySem.Str) ("alone_in" : PySem.Str) (defArgs (top 32)) (defBody (top 32)) (defScope (top 32)) [] [] f fd) : FnOk C.P C.w C.K C.mg base C8.CX0 (k + 2) f fd [("body" : PySem.Str), ("empties" : PySem.Str)] (spD C fun ds S => runF prg cl fu ⟨false, 2, 0, 5, ir22⟩ [] ds S) :=
  has_fn (N := N22) (md := mdOf []) F ok (by kernel_rfl) rfl rfl rfl rfl (by decide) fun X W0 H cx hf e1 e2 e3 => body22 fa cx hf
theorem bds22 {K : PySem.W.Frag} (F : FunD K ("alone_in" : PySem.Str) ("alone_in" : PySem.Str) (defArgs (top 32)) (defBody (top 32)) (defScope (top 32)) [] [] f fd) : Binds K fd [("body" : PySem.Str), ("empties" : PySem.Str)] [] := F.bindsN fun _ _ _ _ _ _ us hl => match us, hl with | [_, _], _ => rfl
theorem has23 (fa : Facts C prg) (ok : FnsOk C.P C.w C.K C.mg base C k cl) (F : FunD C.K ("leads_alone" : PySem.Str) ("leads_alone" : PySem.Str) (defArgs (top 33)) (defBody (top 33)) (defScope (top 33)) [] [] f fd) : FnOk C.P C.w C.K C.mg base C8.CX0 (k + 2) f fd [("grammar" : PySem.Str)] (spD C fun ds S => runF prg cl fu ⟨false, 1, 0, 5, ir23⟩ [] ds S) :=
  has_fn (N := N23) (md := mdOf []) F ok (by kernel_rfl) rfl rfl rfl rfl (by decide) fun X W0 H cx hf e1 e2 e3 => body23 fa cx hf
theorem bds23 {K : PySem.W.Frag} (F : FunD K ("leads_alone" : PySem.Str) ("leads_alone" : PySem.Str) (defArgs (top 33)) (defBody (top 33)) (defScope (top 33)) [] [] f fd) : Binds K fd [("grammar" : PySem.Str)] [] := F.bindsN fun _ _ _ _ _ _ us hl => match us, hl with | [_], _ => rfl
theorem has24 (fa : Facts C prg) (ok : FnsOk C.P C.w C.K C.mg base C k cl) (F : FunD C.K ("reached_from" : PySem.Str) ("reached_from" : PySem.Str) (defArgs (top 34)) (defBody (top 34)) (defScope (top 34)) [] [] f fd) : FnOk C.P C.w C.K C.mg base C8.CX0 (k + 2) f fd [("leads" : PySem.Str), ("kind" : PySem.Str)] (spD C fun ds S => runF prg cl fu ⟨false, 2, 0, 5, ir24⟩ [] ds S) :=
  has_fn (N := N24) (md := mdOf []) F ok (by kernel_rfl) rfl rfl rfl rfl (by decide) fun X W0 H cx hf e1 e2 e3 => body24 fa cx hf
theorem bds24 {K : PySem.W.Frag} (F : FunD K ("reached_from" : PySem.Str) ("reached_from" : PySem.Str) (defArgs (top 34)) (defBody (top 34)) (defScope (top 34)) [] [] f fd) : Binds K fd [("leads" : PySem.Str), ("kind" : PySem.Str)] [] := F.bindsN fun _ _ _ _ _ _ us hl => match us, hl with | [_, _], _ => rfl
theorem has25 (fa : Facts C prg) (ok : FnsOk C.P C.w C.K C.mg base C k cl) (F : FunD C.K ("turning_by" : PySem.Str) ("turning_by" : PySem.Str) (defArgs (top 35)) (defBody (top 35)) (defScope (top 35)) [] [] f fd) : FnOk C.P C.w C.K C.mg base C8.CX0 (k + 2) f fd [("grammar" : PySem.Str)] (spD C fun ds S => runF prg cl fu ⟨false, 1, 0, 3, ir25⟩ [] ds S) :=
  has_fn (N := N25) (md := mdOf []) F ok (by kernel_rfl) rfl rfl rfl rfl (by decide) fun X W0 H cx hf e1 e2 e3 => body25 fa cx hf
theorem bds25 {K : PySem.W.Frag} (F : FunD K ("turning_by" : PySem.Str) ("turning_by" : PySem.Str) (defArgs (top 35)) (defBody (top 35)) (defScope (top 35)) [] [] f fd) : Binds K fd [("grammar" : PySem.Str)] [] := F.bindsN fun _ _ _ _ _ _ us hl => match us, hl with | [_], _ => rfl
theorem has26 (fa : Facts C prg) (ok : FnsOk C.P C.w C.K C.mg base C k cl) (F : FunD C.K ("wrong_kinds" : PySem.Str) ("wrong_kinds" : PySem.Str) (defArgs (top 36)) (defBody (top 36)) (defScope (top 36)) [] [] f fd) : FnOk C.P C.w C.K C.mg base C8.CX0 (k + 2) f fd [("grammar" : PySem.Str)] (spD C fun ds S => runF prg cl fu ⟨false, 1, 0, 1, ir26⟩ [] ds S) :=
  has_fn (N := N26) (md := mdOf []) F ok (by kernel_rfl) rfl rfl rfl rfl (by decide) fun X W0 H cx hf e1 e2 e3 => body26 fa cx hf
theorem bds26 {K : PySem.W.Frag} (F : FunD K ("wrong_kinds" : PySem.Str) ("wrong_kinds" : PySem.Str) (defArgs (top 36)) (defBody (top 36)) (defScope (top 36)) [] [] f fd) : Binds K fd [("grammar" : PySem.Str)] [] := F.bindsN fun _ _ _ _ _ _ us hl => match us, hl with | [_], _ => rfl
theorem has27 (fa : Facts C prg) (ok : FnsOk C.P C.w C.K C.mg base C k cl) (F : FunD C.K ("first_barren" : PySem.Str) ("first_barren" : PySem.Str) (defArgs (top 38)) (defBody (top 38)) (defScope (top 38)) [] [] f fd) : FnOk C.P C.w C.K C.mg base C8.CX0 (k + 2) f fd [("grammar" : PySem.Str)] (spD C fun ds S => runF prg cl fu ⟨false, 1, 0, 2, ir27⟩ [] ds S) :=
  has_fn (N := N27) (md := mdOf []) F ok (by kernel_rfl) rfl rfl rfl rfl (by decide) fun X W0 H cx hf e1 e2 e3 => body27 fa cx hf
theorem bds27 {K : PySem.W.Frag} (F : FunD K ("first_barren" : PySem.Str) ("first_barren" : PySem.Str) (defArgs (top 38)) (defBody (top 38)) (defScope (top 38)) [] [] f fd) : Binds K fd [("grammar" : PySem.Str)] [] := F.bindsN fun _ _ _ _ _ _ us hl => match us, hl with | [_], _ => rfl
theorem kbn27_grammar {K : PySem.W.Frag} (F : FunD K ("first_barren" : PySem.Str) ("first_barren" : PySem.Str) (defArgs (top 38)) (defBody (top 38)) (defScope (top 38)) [] [] f fd) : KBn K fd [("grammar" : PySem.Str)] 0 [("grammar" : PySem.Str)] [0] := kbn_of F fun _ _ _ _ _ _ us ws xs h1 h2 h3 => match us, ws, h1, h2, h3 with | [], [b0], _, _, h3 => by cases h3; rfl
theorem has28 (fa : Facts C prg) (ok : FnsOk C.P C.w C.K C.mg base C k cl) (F : FunD C.K ("first_turning" : PySem.Str) ("first_turning" : PySem.Str) (defArgs (top 39)) (defBody (top 39)) (defScope (top 39)) [] [] f fd) : FnOk C.P C.w C.K C.mg base C8.CX0 (k + 2) f fd [("grammar" : PySem.Str)] (spD C fun ds S => runF prg cl fu ⟨false, 1, 0, 2, ir28⟩ [] ds S) :=
  has_fn (N := N28) (md := mdOf []) F ok (by kernel_rfl) rfl rfl rfl rfl (by decide) fun X W0 H cx hf e1 e2 e3 => body28 fa cx hf
theorem bds28 {K : PySem.W.Frag} (F : FunD K ("first_turning" : PySem.Str) ("first_turning" : PySem.Str) (defArgs (top 39)) (defBody (top 39)) (defScope (top 39)) [] [] f fd) : Binds K fd [("grammar" : PySem.Str)] [] := F.bindsN fun _ _ _ _ _ _ us hl => match us, hl with | [_], _ => rfl
theorem kbn28_grammar {K : PySem.W.Frag} (F : FunD K ("first_turning" : PySem.Str) ("first_turning" : PySem.Str) (defArgs (top 39)) (defBody (top 39)) (defScope (top 39)) [] [] f fd) : KBn K fd [("grammar" : PySem.Str)] 0 [("grammar" : PySem.Str)] [0] := kbn_of F fun _ _ _ _ _ _ us ws xs h1 h2 h3 => match us, ws, h1, h2, h3 with | [], [b0], _, _, h3 => by cases h3; rfl
theorem has29 (fa : Facts C prg) (ok : FnsOk C.P C.w C.K C.mg base C k cl) (F : FunD C.K ("empty_kinds" : PySem.Str) ("empty_kinds" : PySem.Str) (defArgs (top 40)) (defBody (top 40)) (defScope (top 40)) [] [] f fd) : FnOk C.P C.w C.K C.mg base C8.CX0 (k + 2) f fd [("grammar" : PySem.Str)] (spD C fun ds S => runF prg cl fu ⟨false, 1, 0, 1, ir29⟩ [] ds S) :=
  has_fn (N := N29) (md := mdOf []) F ok (by kernel_rfl) rfl rfl rfl rfl (by decide) fun X W0 H cx hf e1 e2 e3 => body29 fa cx hf
theorem bds29 {K : PySem.W.Frag} (F : FunD K ("empty_kinds" : PySem.Str) ("empty_kinds" : PySem.Str) (defArgs (top 40)) (defBody (top 40)) (defScope (top 40)) [] [] f fd) : Binds K fd [("grammar" : PySem.Str)] [] := F.bindsN fun _ _ _ _ _ _ us hl => match us, hl with | [_], _ => rfl
theorem kbn29_grammar {K : PySem.W.Frag} (F : FunD K ("empty_kinds" : PySem.Str) ("empty_kinds" : PySem.Str) (defArgs (top 40)) (defBody (top 40)) (defScope (top 40)) [] [] f fd) : KBn K fd [("grammar" : PySem.Str)] 0 [("grammar" : PySem.Str)] [0] := kbn_of F fun _ _ _ _ _ _ us ws xs h1 h2 h3 => match us, ws, h1, h2, h3 with | [], [b0], _, _, h3 => by cases h3; rfl
theorem has30 (fa : Facts C prg) (ok : FnsOk C.P C.w C.K C.mg base C k cl) (F : FunD C.K ("is_let_by" : PySem.Str) ("is_let_by" : PySem.Str) (defArgs (top 41)) (defBody (top 41)) (defScope (top 41)) [] [] f fd) : FnOk C.P C.w C.K C.mg base C8.CX0 (k + 2) f fd [("grammar" : PySem.Str)] (spD C fun ds S => runF prg cl fu ⟨false, 1, 0, 1, ir30⟩ [] ds S) :=
  has_fn (N := N30) (md := mdOf []) F ok (by kernel_rfl) rfl rfl rfl rfl (by decide) fun X W0 H cx hf e1 e2 e3 => body30 fa cx hf
theorem bds30 {K : PySem.W.Frag} (F : FunD K ("is_let_by" : PySem.Str) ("is_let_by" : PySem.Str) (defArgs (top 41)) (defBody (top 41)) (defScope (top 41)) [] [] f fd) : Binds K fd [("grammar" : PySem.Str)] [] := F.bindsN fun _ _ _ _ _ _ us hl => match us, hl with | [_], _ => rfl
theorem kbn30_grammar {K : PySem.W.Frag} (F : FunD K ("is_let_by" : PySem.Str) ("is_let_by" : PySem.Str) (defArgs (top 41)) (defBody (top 41)) (defScope (top 41)) [] [] f fd) : KBn K fd [("grammar" : PySem.Str)] 0 [("grammar" : PySem.Str)] [0] := kbn_of F fun _ _ _ _ _ _ us ws xs h1 h2 h3 => match us, ws, h1, h2, h3 with | [], [b0], _, _, h3 => by cases h3; rfl
theorem has31 (fa : Facts C prg) (ok : FnsOk C.P C.w C.K C.mg base C k cl) (F : FunD C.K ("_law_bowl" : PySem.Str) ("_law_bowl" : PySem.Str) (defArgs (top 43)) (defBody (top 43)) (defScope (top 43)) [] [] f fd) : FnOk C.P C.w C.K C.mg base C8.CX0 (k + 2) f fd [("script" : PySem.Str), ("lap" : PySem.Str)] (spD C fun ds S => runF prg cl fu ⟨false, 2, 0, 5, ir31⟩ [] ds S) :=
  has_fn (N := N31) (md := mdOf []) F ok (by kernel_rfl) rfl rfl rfl rfl (by decide) fun X W0 H cx hf e1 e2 e3 => body31 fa cx hf
theorem bds31 {K : PySem.W.Frag} (F : FunD K ("_law_bowl" : PySem.Str) ("_law_bowl" : PySem.Str) (defArgs (top 43)) (defBody (top 43)) (defScope (top 43)) [] [] f fd) : Binds K fd [("script" : PySem.Str), ("lap" : PySem.Str)] [] := F.bindsN fun _ _ _ _ _ _ us hl => match us, hl with | [_, _], _ => rfl
theorem has32 (fa : Facts C prg) (ok : FnsOk C.P C.w C.K C.mg base C k cl) (F : FunD C.K ("_law_draw" : PySem.Str) ("_law_draw" : PySem.Str) (defArgs (top 44)) (defBody (top 44)) (defScope (top 44)) [] [] f fd) : FnOk C.P C.w C.K C.mg base C8.CX0 (k + 2) f fd [("bowl" : PySem.Str), ("many" : PySem.Str)] (spD C fun ds S => runF prg cl fu ⟨false, 2, 0, 4, ir32⟩ [] ds S) :=
  has_fn (N := N32) (md := mdOf []) F ok (by kernel_rfl) rfl rfl rfl rfl (by decide) fun X W0 H cx hf e1 e2 e3 => body32 fa cx hf
theorem bds32 {K : PySem.W.Frag} (F : FunD K ("_law_draw" : PySem.Str) ("_law_draw" : PySem.Str) (defArgs (top 44)) (defBody (top 44)) (defScope (top 44)) [] [] f fd) : Binds K fd [("bowl" : PySem.Str), ("many" : PySem.Str)] [] := F.bindsN fun _ _ _ _ _ _ us hl => match us, hl with | [_, _], _ => rfl
theorem has33 (fa : Facts C prg) (ok : FnsOk C.P C.w C.K C.mg base C k cl) (F : FunD C.K ("_law_of" : PySem.Str) ("_law_of" : PySem.Str) (defArgs (top 45)) (defBody (top 45)) (defScope (top 45)) [] [] f fd) : FnOk C.P C.w C.K C.mg base C8.CX0 (k + 2) f fd [("bowl" : PySem.Str), ("some" : PySem.Str)] (spD C fun ds S => runF prg cl fu ⟨false, 2, 0, 2, ir33⟩ [] ds S) :=
  has_fn (N := N33) (md := mdOf []) F ok (by kernel_rfl) rfl rfl rfl rfl (by decide) fun X W0 H cx hf e1 e2 e3 => body33 fa cx hf
theorem bds33 {K : PySem.W.Frag} (F : FunD K ("_law_of" : PySem.Str) ("_law_of" : PySem.Str) (defArgs (top 45)) (defBody (top 45)) (defScope (top 45)) [] [] f fd) : Binds K fd [("bowl" : PySem.Str), ("some" : PySem.Str)] [] := F.bindsN fun _ _ _ _ _ _ us hl => match us, hl with | [_, _], _ => rfl
theorem has34 (fa : Facts C prg) (ok : FnsOk C.P C.w C.K C.mg base C k cl) (F : FunD C.K ("_law_same" : PySem.Str) ("_law_same" : PySem.Str) (defArgs (top 46)) (defBody (top 46)) (defScope (top 46)) [] [] f fd) : FnOk C.P C.w C.K C.mg base C8.CX0 (k + 2) f fd [("told" : PySem.Str), ("due" : PySem.Str)] (spD C fun ds S => runF prg cl fu ⟨false, 2, 0, 3, ir34⟩ [] ds S) :=
  has_fn (N := N34) (md := mdOf []) F ok (by kernel_rfl) rfl rfl rfl rfl (by decide) fun X W0 H cx hf e1 e2 e3 => body34 fa cx hf
theorem bds34 {K : PySem.W.Frag} (F : FunD K ("_law_same" : PySem.Str) ("_law_same" : PySem.Str) (defArgs (top 46)) (defBody (top 46)) (defScope (top 46)) [] [] f fd) : Binds K fd [("told" : PySem.Str), ("due" : PySem.Str)] [] := F.bindsN fun _ _ _ _ _ _ us hl => match us, hl with | [_, _], _ => rfl
theorem has35 (fa : Facts C prg) (ok : FnsOk C.P C.w C.K C.mg base C k cl) (F : FunD C.K ("_law_names" : PySem.Str) ("_law_names" : PySem.Str) (defArgs (top 47)) (defBody (top 47)) (defScope (top 47)) [] [] f fd) : FnOk C.P C.w C.K C.mg base C8.CX0 (k + 2) f fd [("bowl" : PySem.Str), ("many" : PySem.Str)] (spD C fun ds S => runF prg cl fu ⟨false, 2, 0, 9, ir35⟩ [] ds S) :=
  has_fn (N := N35) (md := mdOf [2]) F ok (by kernel_rfl) rfl rfl rfl rfl (by decide) fun X W0 H cx hf e1 e2 e3 => body35 fa cx hf
theorem bds35 {K : PySem.W.Frag} (F : FunD K ("_law_names" : PySem.Str) ("_law_names" : PySem.Str) (defArgs (top 47)) (defBody (top 47)) (defScope (top 47)) [] [] f fd) : Binds K fd [("bowl" : PySem.Str), ("many" : PySem.Str)] [] := F.bindsN fun _ _ _ _ _ _ us hl => match us, hl with | [_, _], _ => rfl
theorem has36 (fa : Facts C prg) (ok : FnsOk C.P C.w C.K C.mg base C k cl) (F : FunD C.K ("_law_kinds" : PySem.Str) ("_law_kinds" : PySem.Str) (defArgs (top 48)) (defBody (top 48)) (defScope (top 48)) [] [] f fd) : FnOk C.P C.w C.K C.mg base C8.CX0 (k + 2) f fd [("rules" : PySem.Str)] (spD C fun ds S => runF prg cl fu ⟨false, 1, 0, 5, ir36⟩ [] ds S) :=
  has_fn (N := N36) (md := mdOf []) F ok (by kernel_rfl) rfl rfl rfl rfl (by decide) fun X W0 H cx hf e1 e2 e3 => body36 fa cx hf
theorem bds36 {K : PySem.W.Frag} (F : FunD K ("_law_kinds" : PySem.Str) ("_law_kinds" : PySem.Str) (defArgs (top 48)) (defBody (top 48)) (defScope (top 48)) [] [] f fd) : Binds K fd [("rules" : PySem.Str)] [] := F.bindsN fun _ _ _ _ _ _ us hl => match us, hl with | [_], _ => rfl
theorem has37 (fa : Facts C prg) (ok : FnsOk C.P C.w C.K C.mg base C k cl) (F : FunD C.K ("_law_any_rules" : PySem.Str) ("_law_any_rules" : PySem.Str) (defArgs (top 49)) (defBody (top 49)) (defScope (top 49)) [] [] f fd) : FnOk C.P C.w C.K C.mg base C8.CX0 (k + 2) f fd [("bowl" : PySem.Str), ("kinds" : PySem.Str), ("more" : PySem.Str), ("letters" : PySem.Str)] (spD C fun ds S => runF prg cl fu ⟨false, 4, 0, 10, ir37⟩ [] ds S) :=
  has_fn (N := N37) (md := mdOf []) F ok (by kernel_rfl) rfl rfl rfl rfl (by decide) fun X W0 H cx hf e1 e2 e3 => body37 fa cx hf
theorem bds37 {K : PySem.W.Frag} (F : FunD K ("_law_any_rules" : PySem.Str) ("_law_any_rules" : PySem.Str) (defArgs (top 49)) (defBody (top 49)) (defScope (top 49)) [] [] f fd) : Binds K fd [("bowl" : PySem.Str), ("kinds" : PySem.Str), ("more" : PySem.Str), ("letters" : PySem.Str)] [] := F.bindsN fun _ _ _ _ _ _ us hl => match us, hl with | [_, _, _, _], _ => rfl
theorem has38 (fa : Facts C prg) (ok : FnsOk C.P C.w C.K C.mg base C k cl) (F : FunD C.K ("_law_making" : PySem.Str) ("_law_making" : PySem.Str) (defArgs (top 50)) (defBody (top 50)) (defScope (top 50)) [] [] f fd) : FnOk C.P C.w C.K C.mg base C8.CX0 (k + 2) f fd [("rules" : PySem.Str), ("made" : PySem.Str)] (spD C fun ds S => runF prg cl fu ⟨false, 2, 0, 7, ir38⟩ [] ds S) :=
  has_fn (N := N38) (md := mdOf []) F ok (by kernel_rfl) rfl rfl rfl rfl (by decide) fun X W0 H cx hf e1 e2 e3 => body38 fa cx hf
theorem bds38 {K : PySem.W.Frag} (F : FunD K ("_law_making" : PySem.Str) ("_law_making" : PySem.Str) (defArgs (top 50)) (defBody (top 50)) (defScope (top 50)) [] [] f fd) : Binds K fd [("rules" : PySem.Str), ("made" : PySem.Str)] [] := F.bindsN fun _ _ _ _ _ _ us hl => match us, hl with | [_, _], _ => rfl
theorem has39 (fa : Facts C prg) (ok : FnsOk C.P C.w C.K C.mg base C k cl) (F : FunD C.K ("_law_looked" : PySem.Str) ("_law_looked" : PySem.Str) (defArgs (top 51)) (defBody (top 51)) (defScope (top 51)) [] [] f fd) : FnOk C.P C.w C.K C.mg base C8.CX0 (k + 2) f fd [("rules" : PySem.Str)] (spD C fun ds S => runF prg cl fu ⟨false, 1, 0, 11, ir39⟩ [] ds S) :=
  has_fn (N := N39) (md := mdOf []) F ok (by kernel_rfl) rfl rfl rfl rfl (by decide) fun X W0 H cx hf e1 e2 e3 => body39 fa cx hf
theorem bds39 {K : PySem.W.Frag} (F : FunD K ("_law_looked" : PySem.Str) ("_law_looked" : PySem.Str) (defArgs (top 51)) (defBody (top 51)) (defScope (top 51)) [] [] f fd) : Binds K fd [("rules" : PySem.Str)] [] := F.bindsN fun _ _ _ _ _ _ us hl => match us, hl with | [_], _ => rfl
theorem has40 (fa : Facts C prg) (ok : FnsOk C.P C.w C.K C.mg base C k cl) (F : FunD C.K ("_law_come" : PySem.Str) ("_law_come" : PySem.Str) (defArgs (top 52)) (defBody (top 52)) (defScope (top 52)) [] [] f fd) : FnOk C.P C.w C.K C.mg base C8.CX0 (k + 2) f fd [("steps" : PySem.Str), ("kind" : PySem.Str)] (spD C fun ds S => runF prg cl fu ⟨false, 2, 0, 5, ir40⟩ [] ds S) :=
  has_fn (N := N40) (md := mdOf [2]) F ok (by kernel_rfl) rfl rfl rfl rfl (by decide) fun X W0 H cx hf e1 e2 e3 => body40 fa cx hf
theorem bds40 {K : PySem.W.Frag} (F : FunD K ("_law_come" : PySem.Str) ("_law_come" : PySem.Str) (defArgs (top 52)) (defBody (top 52)) (defScope (top 52)) [] [] f fd) : Binds K fd [("steps" : PySem.Str), ("kind" : PySem.Str)] [] := F.bindsN fun _ _ _ _ _ _ us hl => match us, hl with | [_, _], _ => rfl
theorem has41 (fa : Facts C prg) (ok : FnsOk C.P C.w C.K C.mg base C k cl) (F : FunD C.K ("_law_rules" : PySem.Str) ("_law_rules" : PySem.Str) (defArgs (top 53)) (defBody (top 53)) (defScope (top 53)) [] [] f fd) : FnOk C.P C.w C.K C.mg base C8.CX0 (k + 2) f fd [("bowl" : PySem.Str), ("kinds" : PySem.Str), ("more" : PySem.Str), ("letters" : PySem.Str)] (spD C fun ds S => runF prg cl fu ⟨false, 4, 0, 9, ir41⟩ [] ds S) :=
  has_fn (N := N41) (md := mdOf []) F ok (by kernel_rfl) rfl rfl rfl rfl (by decide) fun X W0 H cx hf e1 e2 e3 => body41 fa cx hf
theorem bds41 {K : PySem.W.Frag} (F : FunD K ("_law_rules" : PySem.Str) ("_law_rules" : PySem.Str) (defArgs (top 53)) (defBody (top 53)) (defScope (top 53)) [] [] f fd) : Binds K fd [("bowl" : PySem.Str), ("kinds" : PySem.Str), ("more" : PySem.Str), ("letters" : PySem.Str)] [] := F.bindsN fun _ _ _ _ _ _ us hl => match us, hl with | [_, _, _, _], _ => rfl
theorem has42 (fa : Facts C prg) (ok : FnsOk C.P C.w C.K C.mg base C k cl) (F : FunD C.K ("_law_right" : PySem.Str) ("_law_right" : PySem.Str) (defArgs (top 54)) (defBody (top 54)) (defScope (top 54)) [] [] f fd) : FnOk C.P C.w C.K C.mg base C8.CX0 (k + 2) f fd [("bowl" : PySem.Str)] (spD C fun ds S => runF prg cl fu ⟨false, 1, 0, 5, ir42⟩ [] ds S) :=
  has_fn (N := N42) (md := mdOf []) F ok (by kernel_rfl) rfl rfl rfl rfl (by decide) fun X W0 H cx hf e1 e2 e3 => body42 fa cx hf
theorem bds42 {K : PySem.W.Frag} (F : FunD K ("_law_right" : PySem.Str) ("_law_right" : PySem.Str) (defArgs (top 54)) (defBody (top 54)) (defScope (top 54)) [] [] f fd) : Binds K fd [("bowl" : PySem.Str)] [] := F.bindsN fun _ _ _ _ _ _ us hl => match us, hl with | [_], _ => rfl
theorem has43 (fa : Facts C prg) (ok : FnsOk C.P C.w C.K C.mg base C k cl) (F : FunD C.K ("law" : PySem.Str) ("law" : PySem.Str) (defArgs (top 55)) (defBody (top 55)) (defScope (top 55)) [] [] f fd) : FnOk C.P C.w C.K C.mg base C8.CX0 (k + 2) f fd [("script" : PySem.Str)] (spD C fun ds S => runF prg cl fu ⟨false, 1, 0, 2, ir43⟩ [] ds S) :=
  has_fn (N := N43) (md := mdOf []) F ok (by kernel_rfl) rfl rfl rfl rfl (by decide) fun X W0 H cx hf e1 e2 e3 => body43 fa cx hf
theorem bds43 {K : PySem.W.Frag} (F : FunD K ("law" : PySem.Str) ("law" : PySem.Str) (defArgs (top 55)) (defBody (top 55)) (defScope (top 55)) [] [] f fd) : Binds K fd [("script" : PySem.Str)] [] := F.bindsN fun _ _ _ _ _ _ us hl => match us, hl with | [_], _ => rfl
end
section
variable {P : Program} {w : World} {K : PySem.W.Frag} {mg : Str → Option Value} {h base : Heap}
theorem all_fns (X : K.In h) (N : h.Ns mainGlobals mg) (c : SaysM ex fnl tfl h K) (fu : Nat) (tb : ∀ p ∈ tfl, LamX.TabB base mg (cTA K p).1 (cTA K p).2) : AllFns (mkC P w K mg) prg fnsA fu base := by
  have fa := facts (P := P) (w := w) X N c
  have nd : (tfl.map fun p => (cTA K p).2).Nodup := of_decide_eq_true (He.ba (He.ba c.more).2).2
  have fo : ∀ (i : Nat) {f : He.Fa}, fal[i]? = some f → f.ok K = true := fun i => fo c i
  obtain ⟨fd0, F0⟩ := c.def_ dfm0 (List.mem_of_getElem? (i := 0) rfl)
  obtain ⟨fd1, F1⟩ := c.def_ dfm1 (List.mem_of_getElem? (i := 1) rfl)
  obtain ⟨fd2, F2⟩ := c.def_ dfm2 (List.mem_of_getElem? (i := 2) rfl)
  obtain ⟨fd3, F3⟩ := c.def_ dfm3 (List.mem_of_getElem? (i := 3) rfl)
  obtain ⟨fd4, F4⟩ := c.def_ dfm4 (List.mem_of_getElem? (i := 4) rfl)
  obtain ⟨fd5, F5⟩ := c.def_ dfm5 (List.mem_of_getElem? (i := 5) rfl)
  obtain ⟨fd6, F6⟩ := c.def_ dfm6 (List.mem_of_getElem? (i := 6) rfl)
  obtain ⟨fd7, F7⟩ := c.def_ dfm7 (List.mem_of_getElem? (i := 7) rfl)
  obtain ⟨fd8, F8⟩ := c.def_ dfm8 (List.mem_of_getElem? (i := 8) rfl)
  obtain ⟨fd9, F9⟩ := c.def_ dfm9 (List.mem_of_getElem? (i := 9) rfl)
  obtain ⟨fd10, F10⟩ := c.def_ dfm10 (List.mem_of_getElem? (i := 10) rfl)
  obtain ⟨fd11, F11⟩ := c.def_ dfm11 (List.mem_of_getElem? (i := 11) rfl)
  obtain ⟨fd12, F12⟩ := c.def_ dfm12 (List.mem_of_getElem? (i := 12) rfl)
  obtain ⟨fd13, F13⟩ := c.def_ dfm13 (List.mem_of_getElem? (i := 13) rfl)
  obtain ⟨fd14, F14⟩ := c.def_ dfm14 (List.mem_of_getElem? (i := 14) rfl)
  obtain ⟨fd15, F15⟩ := c.def_ dfm15 (List.mem_of_getElem? (i := 15) rfl)
  obtain ⟨fd16, F16⟩ := c.def_ dfm16 (List.mem_of_getElem? (i := 16) rfl)
  obtain ⟨fd17, F17⟩ := c.def_ dfm17 (List.mem_of_getElem? (i := 17) rfl)
  obtain ⟨fd18, F18⟩ := c.def_ dfm18 (List.mem_of_getElem? (i := 18) rfl)
  obtain ⟨fd19, F19⟩ := c.def_ dfm19 (List.mem_of_getElem? (i := 19) rfl)
  obtain ⟨fd20, F20⟩ := c.def_ dfm20 (List.mem_of_getElem? (i := 20) rfl)
  obtain ⟨fd21, F21⟩ := c.def_ dfm21 (List.mem_of_getElem? (i := 21) rfl)
  obtain ⟨fd22, F22⟩ := c.def_ dfm22 (List.mem_of_getElem? (i := 22) rfl)
  obtain ⟨fd23, F23⟩ := c.def_ dfm23 (List.mem_of_getElem? (i := 23) rfl)
  obtain ⟨fd24, F24⟩ := c.def_ dfm24 (List.mem_of_getElem? (i := 24) rfl)
  obtain ⟨fd25, F25⟩ := c.def_ dfm25 (List.mem_of_getElem? (i := 25) rfl)
  obtain ⟨fd26, F26⟩ := c.def_ dfm26 (List.mem_of_getElem? (i := 26) rfl)
  obtain ⟨fd27, F27⟩ := c.def_ dfm27 (List.mem_of_getElem? (i := 27) rfl)
  obtain ⟨fd28, F28⟩ := c.def_ dfm28 (List.mem_of_getElem? (i := 28) rfl)
  obtain ⟨fd29, F29⟩ := c.def_ dfm29 (List.mem_of_getElem? (i := 29) rfl)
  obtain ⟨fd30, F30⟩ := c.def_ dfm30 (List.mem_of_getElem? (i := 30) rfl)
  obtain ⟨fd31, F31⟩ := c.def_ dfm31 (List.mem_of_getElem? (i := 31) rfl)
  obtain ⟨fd32, F32⟩ := c.def_ dfm32 (List.mem_of_getElem? (i := 32) rfl)
  obtain ⟨fd33, F33⟩ := c.def_ dfm33 (List.mem_of_getElem? (i := 33) rfl)
  obtain ⟨fd34, F34⟩ := c.def_ dfm34 (List.mem_of_getElem? (i := 34) rfl)
  obtain ⟨fd35, F35⟩ := c.def_ dfm35 (List.mem_of_getElem? (i := 35) rfl)
  obtain ⟨fd36, F36⟩ := c.def_ dfm36 (List.mem_of_getElem? (i := 36) rfl)
  obtain ⟨fd37, F37⟩ := c.def_ dfm37 (List.mem_of_getElem? (i := 37) rfl)
  obtain ⟨fd38, F38⟩ := c.def_ dfm38 (List.mem_of_getElem? (i := 38) rfl)
  obtain ⟨fd39, F39⟩ := c.def_ dfm39 (List.mem_of_getElem? (i := 39) rfl)
  obtain ⟨fd40, F40⟩ := c.def_ dfm40 (List.mem_of_getElem? (i := 40) rfl)
  obtain ⟨fd41, F41⟩ := c.def_ dfm41 (List.mem_of_getElem? (i := 41) rfl)
  obtain ⟨fd42, F42⟩ := c.def_ dfm42 (List.mem_of_getElem? (i := 42) rfl)
  obtain ⟨fd43, F43⟩ := c.def_ dfm43 (List.mem_of_getElem? (i := 43) rfl)
  have u5 := tabs_uniq (K := K) (tfl := tfl) (nms := [fun _ _ => ("are_all.<locals>.<lambda>" : PySem.Str), fun _ _ => ("is_rule.<locals>.<lambda>" : PySem.Str)]) nd rfl 0 rfl rfl
  have u8 := tabs_uniq (K := K) (tfl := tfl) (nms := [fun _ _ => ("are_all.<locals>.<lambda>" : PySem.Str), fun _ _ => ("is_rule.<locals>.<lambda>" : PySem.Str)]) nd rfl 1 rfl rfl
  refine ⟨fun i a fd k cl hi hf ok => ?_, fun i a fd n ks p k cl hi hf hk ok => ?_, fun i L fd k cl hi hf ok => ?_⟩
  · match i, hi, hf with
    | 0, hi, hf => cases hf; cases (fnAddr_glo (C := mkC P w K mg) X N (fo 11 rfl) rfl).symm.trans hi; exact runs_of (has0 (C := mkC P w K mg) fa ok F0) (bds0 F0)
    | 1, hi, hf => cases hf; cases (fnAddr_glo (C := mkC P w K mg) X N (fo 15 rfl) rfl).symm.trans hi; exact runs_of (has1 (C := mkC P w K mg) fa ok F1) (bds1 F1)
    | 2, hi, hf => cases hf; cases (fnAddr_glo (C := mkC P w K mg) X N (fo 6 rfl) rfl).symm.trans hi; exact runs_of (has2 (C := mkC P w K mg) fa ok F2) (bds2 F2)
    | 3, hi, hf => cases hf; cases (fnAddr_glo (C := mkC P w K mg) X N (fo 19 rfl) rfl).symm.trans hi; exact runs_of (has3 (C := mkC P w K mg) fa ok F3) (bds3 F3)
    | 4, hi, hf => cases hf; cases (fnAddr_glo (C := mkC P w K mg) X N (fo 9 rfl) rfl).symm.trans hi; exact runs_of (has4 (C := mkC P w K mg) fa ok F4) (bds4 F4)
    | 5, hi, hf => cases hf; cases (fnAddr_glo (C := mkC P w K mg) X N (fo 23 rfl) rfl).symm.trans hi; exact runs_of (has5 (C := mkC P w K mg) fa ok F5 (tb _ (List.mem_of_getElem? (i := 0) rfl)) u5.1 u5.2) (bds5 F5)
    | 6, hi, hf => cases hf; cases (fnAddr_glo (C := mkC P w K mg) X N (fo 25 rfl) rfl).symm.trans hi; exact runs_of (has6 (C := mkC P w K mg) fa ok F6) (bds6 F6)
    | 7, hi, hf => cases hf; cases (fnAddr_glo (C := mkC P w K mg) X N (fo 21 rfl) rfl).symm.trans hi; exact runs_of (has7 (C := mkC P w K mg) fa ok F7) (bds7 F7)
    | 8, hi, hf => cases hf; cases (fnAddr_glo (C := mkC P w K mg) X N (fo 28 rfl) rfl).symm.trans hi; exact runs_of (has8 (C := mkC P w K mg) fa ok F8 (tb _ (List.mem_of_getElem? (i := 1) rfl)) u8.1 u8.2) (bds8 F8)
    | 9, hi, hf => cases hf; cases (fnAddr_glo (C := mkC P w K mg) X N (fo 30 rfl) rfl).symm.trans hi; exact runs_of (has9 (C := mkC P w K mg) fa ok F9) (bds9 F9)
    | 10, hi, hf => cases hf; cases (fnAddr_glo (C := mkC P w K mg) X N (fo 33 rfl) rfl).symm.trans hi; exact runs_of (has10 (C := mkC P w K mg) fa ok F10) (bds10 F10)
    | 11, hi, hf => cases hf; cases (fnAddr_glo (C := mkC P w K mg) X N (fo 36 rfl) rfl).symm.trans hi; exact runs_of (has11 (C := mkC P w K mg) fa ok F11) (bds11 F11)
    | 12, hi, hf => cases hf; cases (fnAddr_met (C := mkC P w K mg) rfl).symm.trans hi; exact runs_of (has12 (C := mkC P w K mg) fa ok F12) (bds12 F12)
    | 13, hi, hf => cases hf; cases (fnAddr_met (C := mkC P w K mg) rfl).symm.trans hi; exact runs_of (has13 (C := mkC P w K mg) fa ok F13) (bds13 F13)
    | 14, hi, hf => cases hf; cases (fnAddr_met (C := mkC P w K mg) rfl).symm.trans hi; exact runs_of (has14 (C := mkC P w K mg) fa ok F14) (bds14 F14)
    | 15, hi, hf => cases hf; cases (fnAddr_met (C := mkC P w K mg) rfl).symm.trans hi; exact runs_of (has15 (C := mkC P w K mg) fa ok F15) (bds15 F15)
    | 16, hi, hf => cases hf; cases (fnAddr_met (C := mkC P w K mg) rfl).symm.trans hi; exact runs_of (has16 (C := mkC P w K mg) fa ok F16) (bds16 F16)
    | 17, hi, hf => cases hf; cases (fnAddr_met (C := mkC P w K mg) rfl).symm.trans hi; exact runs_of (has17 (C := mkC P w K mg) fa ok F17) (bds17 F17)
    | 18, hi, hf => cases hf; cases (fnAddr_glo (C := mkC P w K mg) X N (fo 53 rfl) rfl).symm.trans hi; exact runs_of (has18 (C := mkC P w K mg) fa ok F18) (bds18 F18)
    | 19, hi, hf => cases hf; cases (fnAddr_glo (C := mkC P w K mg) X N (fo 39 rfl) rfl).symm.trans hi; exact runs_of (has19 (C := mkC P w K mg) fa ok F19) (bds19 F19)
    | 20, hi, hf => cases hf; cases (fnAddr_glo (C := mkC P w K mg) X N (fo 51 rfl) rfl).symm.trans hi; exact runs_of (has20 (C := mkC P w K mg) fa ok F20) (bds20 F20)
    | 21, hi, hf => cases hf; cases (fnAddr_glo (C := mkC P w K mg) X N (fo 41 rfl) rfl).symm.trans hi; exact runs_of (has21 (C := mkC P w K mg) fa ok F21) (bds21 F21)
    | 22, hi, hf => cases hf; cases (fnAddr_glo (C := mkC P w K mg) X N (fo 43 rfl) rfl).symm.trans hi; exact runs_of (has22 (C := mkC P w K mg) fa ok F22) (bds22 F22)
    | 23, hi, hf => cases hf; cases (fnAddr_glo (C := mkC P w K mg) X N (fo 45 rfl) rfl).symm.trans hi; exact runs_of (has23 (C := mkC P w K mg) fa ok F23) (bds23 F23)
    | 24, hi, hf => cases hf; cases (fnAddr_glo (C := mkC P w K mg) X N (fo 47 rfl) rfl).symm.trans hi; exact runs_of (has24 (C := mkC P w K mg) fa ok F24) (bds24 F24)
    | 25, hi, hf => cases hf; cases (fnAddr_glo (C := mkC P w K mg) X N (fo 49 rfl) rfl).symm.trans hi; exact runs_of (has25 (C := mkC P w K mg) fa ok F25) (bds25 F25)
    | 26, hi, hf => cases hf; cases (fnAddr_glo (C := mkC P w K mg) X N (fo 55 rfl) rfl).symm.trans hi; exact runs_of (has26 (C := mkC P w K mg) fa ok F26) (bds26 F26)
    | 27, hi, hf => cases hf; cases (fnAddr_glo (C := mkC P w K mg) X N (fo 87 rfl) rfl).symm.trans hi; exact runs_of (has27 (C := mkC P w K mg) fa ok F27) (bds27 F27)
    | 28, hi, hf => cases hf; cases (fnAddr_glo (C := mkC P w K mg) X N (fo 85 rfl) rfl).symm.trans hi; exact runs_of (has28 (C := mkC P w K mg) fa ok F28) (bds28 F28)
    | 29, hi, hf => cases hf; cases (fnAddr_glo (C := mkC P w K mg) X N (fo 83 rfl) rfl).symm.trans hi; exact runs_of (has29 (C := mkC P w K mg) fa ok F29) (bds29 F29)
    | 30, hi, hf => cases hf; cases (fnAddr_glo (C := mkC P w K mg) X N (fo 89 rfl) rfl).symm.trans hi; exact runs_of (has30 (C := mkC P w K mg) fa ok F30) (bds30 F30)
    | 31, hi, hf => cases hf; cases (fnAddr_glo (C := mkC P w K mg) X N (fo 95 rfl) rfl).symm.trans hi; exact runs_of (has31 (C := mkC P w K mg) fa ok F31) (bds31 F31)
    | 32, hi, hf => cases hf; cases (fnAddr_glo (C := mkC P w K mg) X N (fo 60 rfl) rfl).symm.trans hi; exact runs_of (has32 (C := mkC P w K mg) fa ok F32) (bds32 F32)
    | 33, hi, hf => cases hf; cases (fnAddr_glo (C := mkC P w K mg) X N (fo 66 rfl) rfl).symm.trans hi; exact runs_of (has33 (C := mkC P w K mg) fa ok F33) (bds33 F33)
    | 34, hi, hf => cases hf; cases (fnAddr_glo (C := mkC P w K mg) X N (fo 63 rfl) rfl).symm.trans hi; exact runs_of (has34 (C := mkC P w K mg) fa ok F34) (bds34 F34)
    | 35, hi, hf => cases hf; cases (fnAddr_glo (C := mkC P w K mg) X N (fo 68 rfl) rfl).symm.trans hi; exact runs_of (has35 (C := mkC P w K mg) fa ok F35) (bds35 F35)
    | 36, hi, hf => cases hf; cases (fnAddr_glo (C := mkC P w K mg) X N (fo 70 rfl) rfl).symm.trans hi; exact runs_of (has36 (C := mkC P w K mg) fa ok F36) (bds36 F36)
    | 37, hi, hf => cases hf; cases (fnAddr_glo (C := mkC P w K mg) X N (fo 76 rfl) rfl).symm.trans hi; exact runs_of (has37 (C := mkC P w K mg) fa ok F37) (bds37 F37)
    | 38, hi, hf => cases hf; cases (fnAddr_glo (C := mkC P w K mg) X N (fo 72 rfl) rfl).symm.trans hi; exact runs_of (has38 (C := mkC P w K mg) fa ok F38) (bds38 F38)
    | 39, hi, hf => cases hf; cases (fnAddr_glo (C := mkC P w K mg) X N (fo 78 rfl) rfl).symm.trans hi; exact runs_of (has39 (C := mkC P w K mg) fa ok F39) (bds39 F39)
    | 40, hi, hf => cases hf; cases (fnAddr_glo (C := mkC P w K mg) X N (fo 74 rfl) rfl).symm.trans hi; exact runs_of (has40 (C := mkC P w K mg) fa ok F40) (bds40 F40)
    | 41, hi, hf => cases hf; cases (fnAddr_glo (C := mkC P w K mg) X N (fo 80 rfl) rfl).symm.trans hi; exact runs_of (has41 (C := mkC P w K mg) fa ok F41) (bds41 F41)
    | 42, hi, hf => cases hf; cases (fnAddr_glo (C := mkC P w K mg) X N (fo 93 rfl) rfl).symm.trans hi; exact runs_of (has42 (C := mkC P w K mg) fa ok F42) (bds42 F42)
    | 43, hi, hf => cases hf; cases (fnAddr_glo (C := mkC P w K mg) X N (fo 97 rfl) rfl).symm.trans hi; exact runs_of (has43 (C := mkC P w K mg) fa ok F43) (bds43 F43)
    | 44, hi, hf => exact absurd hi (fnAddr_lam (C := mkC P w K mg) (L := L0) rfl)
    | 45, hi, hf => exact absurd hi (fnAddr_lam (C := mkC P w K mg) (L := L1) rfl)
    | n + 46, hi, hf => exact nomatch hf
  · rcases List.mem_cons.mp hk with hk | hk
    · cases hk; cases hf; cases (fnAddr_glo (C := mkC P w K mg) X N (fo 89 rfl) rfl).symm.trans hi; exact runsK_of (has30 (C := mkC P w K mg) fa ok F30) (kbn30_grammar F30)
    rcases List.mem_cons.mp hk with hk | hk
    · cases hk; cases hf; cases (fnAddr_glo (C := mkC P w K mg) X N (fo 83 rfl) rfl).symm.trans hi; exact runsK_of (has29 (C := mkC P w K mg) fa ok F29) (kbn29_grammar F29)
    rcases List.mem_cons.mp hk with hk | hk
    · cases hk; cases hf; cases (fnAddr_glo (C := mkC P w K mg) X N (fo 85 rfl) rfl).symm.trans hi; exact runsK_of (has28 (C := mkC P w K mg) fa ok F28) (kbn28_grammar F28)
    rcases List.mem_cons.mp hk with hk | hk
    · cases hk; cases hf; cases (fnAddr_glo (C := mkC P w K mg) X N (fo 87 rfl) rfl).symm.trans hi; exact runsK_of (has27 (C := mkC P w K mg) fa ok F27) (kbn27_grammar F27)
    cases hk
  · match i, hi, hf with
    | 0, hi, hf => exact nomatch hi
    | 1, hi, hf => exact nomatch hi
    | 2, hi, hf => exact nomatch hi
    | 3, hi, hf => exact nomatch hi
    | 4, hi, hf => exact nomatch hi
    | 5, hi, hf => exact nomatch hi
    | 6, hi, hf => exact nomatch hi
    | 7, hi, hf => exact nomatch hi
    | 8, hi, hf => exact nomatch hi
    | 9, hi, hf => exact nomatch hi
    | 10, hi, hf => exact nomatch hi
    | 11, hi, hf => exact nomatch hi
    | 12, hi, hf => exact nomatch hi
    | 13, hi, hf => exact nomatch hi
    | 14, hi, hf => exact nomatch hi
    | 15, hi, hf => exact nomatch hi
    | 16, hi, hf => exact nomatch hi
    | 17, hi, hf => exact nomatch hi
    | 18, hi, hf => exact nomatch hi
    | 19, hi, hf => exact nomatch hi
    | 20, hi, hf => exact nomatch hi
    | 21, hi, hf => exact nomatch hi
    | 22, hi, hf => exact nomatch hi
    | 23, hi, hf => exact nomatch hi
    | 24, hi, hf => exact nomatch hi
    | 25, hi, hf => exact nomatch hi
    | 26, hi, hf => exact nomatch hi
    | 27, hi, hf => exact nomatch hi
    | 28, hi, hf => exact nomatch hi
    | 29, hi, hf => exact nomatch hi
    | 30, hi, hf => exact nomatch hi
    | 31, hi, hf => exact nomatch hi
    | 32, hi, hf => exact nomatch hi
    | 33, hi, hf => exact nomatch hi
    | 34, hi, hf => exact nomatch hi
    | 35, hi, hf => exact nomatch hi
    | 36, hi, hf => exact nomatch hi
    | 37, hi, hf => exact nomatch hi
    | 38, hi, hf => exact nomatch hi
    | 39, hi, hf => exact nomatch hi
    | 40, hi, hf => exact nomatch hi
    | 41, hi, hf => exact nomatch hi
    | 42, hi, hf => exact nomatch hi
    | 43, hi, hf => exact nomatch hi
    | 44, hi, hf => cases hi; cases hf; exact has_lam (i := 44) (L := L0) (N := NL0) (ps := [("ahead" : PySem.Str), ("each" : PySem.Str)]) (fd' := ⟨true, 2, 1, 3, .cons (.ret irl0) .nil⟩) (e := irl0) (G := prg) (fu := fu) fa.lam_0 ok (by kernel_rfl) (fun _ _ _ _ _ us hl => match us, hl with | [_, _], _ => rfl) rfl rfl rfl rfl rfl fun X H cx => bodyL0 fa cx
    | 45, hi, hf => cases hi; cases hf; exact has_lam (i := 45) (L := L1) (N := NL1) (ps := [("each" : PySem.Str)]) (fd' := ⟨true, 1, 0, 1, .cons (.ret irl1) .nil⟩) (e := irl1) (G := prg) (fu := fu) fa.lam_1 ok (by kernel_rfl) (fun _ _ _ _ _ us hl => match us, hl with | [_], _ => rfl) rfl rfl rfl rfl rfl fun X H cx => bodyL1 fa cx
    | n + 46, hi, hf => exact nomatch hf
end
end MT
set_option maxRecDepth 100000
set_option maxHeartbeats 4000000
/-! MTzh: where a law starts. -/
namespace MT
open PySem PySem.Spec PyProof.Rows L2
/-- all but tables is frozen -/
def Fz0 (H : Hp) : Hp := fun b => match H b with
  | some (.tbl _) => none
  | o => o
def Wz0 (H : Hp) : Wd := ⟨Fz0 H, []⟩
theorem Fz0_some {H : Hp} {b : Addr} {o : HO} : Fz0 H b = some o ↔ H b = some o ∧ ∀ ps, o ≠ .tbl ps := by
  unfold Fz0
  constructor
  · intro h
    split at h
    · cases h
    · rename_i z
      refine ⟨h, fun ps e => ?_⟩
      subst e
      exact z _ h
  · rintro ⟨h, n⟩
    split
    · rename_i ps e
      rw [h] at e
      cases e
      exact absurd rfl (n ps)
    · exact h
theorem sw_start {C : Cst} {H : Hp} (hT : NdefX.TabsN C.T H) : SW C (Wz0 H) [] H := by
  refine ⟨fun a o h => ?_, hT, fun c q h => Fz0_some.mpr ⟨h, fun ps e => ?_⟩, List.nodup_nil, rfl, fun n ob h => ?_⟩
  · obtain ⟨h1, h2⟩ := Fz0_some.mp h
    exact ⟨h1, List.not_mem_nil, h2⟩
  · unfold LamX.CodeO at e
    cases e
  · cases n <;> cases h
theorem repL_ints {C : Cst} {W : Wd} : ∀ ns : List Int, RepL C W (ns.map .int) (ns.map V.int)
  | [] => rfl
  | n :: ns => ⟨_, _, rfl, rep_int n, repL_ints ns⟩
theorem ro_start {C : Cst} {H : Hp} {a : Addr} {ns : List Int} (h : SqL C.K H a (ns.map V.int)) : Rep C (Wz0 H) (.ro (ns.map .int)) (.ref a) := by
  rw [Rep]
  refine ⟨a, _, rfl, ?_, repL_ints ns⟩
  rcases h with h | h
  · refine .inl ?_
    rcases h with h | ⟨o, h⟩
    · exact .inl (Fz0_some.mpr ⟨h, fun ps e => by cases e⟩)
    · exact .inr ⟨o, Fz0_some.mpr ⟨h, fun ps e => by cases e⟩⟩
  · exact .inr h
theorem sp_start {C : Cst} {g : List D → Store → Option (D × Store)} {H : Hp} {a : Addr} {ns : List Int} (hT : NdefX.TabsN C.T H) (h : SqL C.K H a (ns.map V.int)) (hg : ∃ S', g [.ro (ns.map .int)] [] = some (.bl true, S')) : spD C g [.ref a] H (fun v _ => v = .bl true) fun _ _ _ => False := by
  obtain ⟨S', e⟩ := hg
  refine ⟨Wz0 H, [], [.ro (ns.map .int)], _, S', sw_start hT, .cons (ro_start h) .nil, e, fun v H' W' _ _ p => ?_⟩
  rw [Rep] at p
  exact p
end MT

set_option maxRecDepth 100000
set_option maxHeartbeats 0
namespace MT
open PySem PySem.Spec PyProof.Rows L2
def looseN : List PySem.Str := [("MendError" : PySem.Str), ("NotAGrammar" : PySem.Str), ("InvalidRules" : PySem.Str), ("LETTERS" : PySem.Str), ("is_one_of" : PySem.Str), ("is_word" : PySem.Str), ("is_tuple_of" : PySem.Str), ("is_pair" : PySem.Str), ("wrong_in" : PySem.Str), ("are_all" : PySem.Str), ("SIGNS" : PySem.Str), ("LEAST_NAME" : PySem.Str), ("MOST_NAME" : PySem.Str), ("MOST_BODY" : PySem.Str), ("MOST_RULES" : PySem.Str), ("MOST_KINDS" : PySem.Str), ("is_letter" : PySem.Str), ("is_kind_name" : PySem.Str), ("is_rule" : PySem.Str), ("kinds_of" : PySem.Str), ("is_next_rule" : PySem.Str), ("wrong_in_rules" : PySem.Str), ("Grammar" : PySem.Str), ("check_grammar" : PySem.Str), ("makers" : PySem.Str), ("barren_by" : PySem.Str), ("empties_by" : PySem.Str), ("alone_in" : PySem.Str), ("leads_alone" : PySem.Str), ("reached_from" : PySem.Str), ("turning_by" : PySem.Str), ("wrong_kinds" : PySem.Str), ("first_barren" : PySem.Str), ("first_turning" : PySem.Str), ("empty_kinds" : PySem.Str), ("is_let_by" : PySem.Str), ("_law_bowl" : PySem.Str), ("_law_draw" : PySem.Str), ("_law_of" : PySem.Str), ("_law_same" : PySem.Str), ("_law_names" : PySem.Str), ("_law_kinds" : PySem.Str), ("_law_any_rules" : PySem.Str), ("_law_making" : PySem.Str), ("_law_looked" : PySem.Str), ("_law_come" : PySem.Str), ("_law_rules" : PySem.Str), ("_law_right" : PySem.Str)]
abbrev R : PySem.W.OpenRow := PySem.W.OpenLaw.row PySem.Challenge.rw_mendtrees_k05_whole_grammars_looked_thro
abbrev hk : PySem.W.Hook := hookM 5 ex fnl tfl
def ob (s : PySem.W.SharedT) : AlM := obsM 5 ex fnl tfl (HandSHeadRun.getT s)
theorem ob_eq (s : PySem.W.SharedT) : ob s = hk.obs s.abs := obsM_eq (HandSHeadRun.getT_eq s)
theorem run (w : World) : HandSHeadRun.RunEq R (PySem.W.view R.prog [55]) hk ob 30000 looseN w := by
  intro os
  kernel_rfl
end MT

set_option maxRecDepth 100000
set_option maxHeartbeats 0
namespace MT
open PySem PySem.Spec PyProof.Rows L2
/-- the law's mathematics -/
def LawMath : Prop := ∀ ns : List Int, ns.length ≤ 63 → ∃ S', runF prg (callG prg fnsA fuA 16) fuA ⟨false, 1, 0, 2, ir43⟩ [] [.ro (ns.map .int)] [] = some (.bl true, S')
theorem law_at {l : PySem.W.OpenLaw} {w : World} {K : PySem.W.Frag} {mg : Str → Option Value} {h : Heap} {f : Addr} (X : K.In h) (N : h.Ns mainGlobals mg) (c : SaysM ex fnl tfl h K) (hfa : mg "law" = some (.ref f)) (math : LawMath) : LamX.LawAtS l w K C8.CX0 34 63 "script" mg f h := by
  obtain ⟨fd, F⟩ := c.def_ dfm43 (List.mem_of_getElem? (i := 43) rfl)
  have gl : (He.Fa.glo "law").ok K = true := fo c 97 rfl
  cases (He.glo_ok X N gl).symm.trans hfa
  refine ⟨fd, tfl.map (cTA K), spD (mkC l.prog w K mg) (fun ds S => runF prg (callG prg fnsA fuA 16) fuA ⟨false, 1, 0, 2, ir43⟩ [] ds S), fun p hp => ?_, fun p hp => ?_, fun p hp => ?_, fun s u => ?_, fun H a ns hl hb hH hS => ?_, fun base hK hN tb => ?_⟩
  · obtain ⟨q, hq, rfl⟩ := List.mem_map.mp hp
    exact c.empty q hq
  · obtain ⟨q, hq, rfl⟩ := List.mem_map.mp hp
    exact c.out q hq
  · obtain ⟨q, hq, rfl⟩ := List.mem_map.mp hp
    exact PySem.W.codeHd_of_K X (c.hd q hq)
  · exact FunD.bindsA (ps := ["script"]) F (fun _ _ _ _ _ _ us hl => match us, hl with | [_], _ => rfl) s [u] rfl
  · refine sp_start (C := mkC l.prog w K mg) (fun p hp => ?_) hS (math ns hl)
    have e : (mkC l.prog w K mg).T = (tfl.map fun p => (cTA K p).2).zip (((mkC l.prog w K mg).T).map (·.2)) := rfl
    rw [e] at hp
    obtain ⟨q, hq, e2⟩ := List.mem_map.mp (List.of_mem_zip hp).1
    refine NdefX.TabN.nil ?_
    rw [← e2]
    exact hH _ (List.mem_map.mpr ⟨q, hq, rfl⟩)
  · have all := all_fns (P := l.prog) (w := w) (base := base) X N c fuA fun p hp => tb _ (List.mem_map.mpr ⟨p, hp, rfl⟩)
    exact has43 (C := mkC l.prog w K mg) (k := 2 * 16) (facts X N c) (fnsOk_all all 16) F
end MT

set_option maxRecDepth 100000
set_option maxHeartbeats 0
open PySem PySem.W PySem.Calls PyProof.Rows
theorem law_holds (math : MT.LawMath) : PySem.Challenge.rw_mendtrees_k05_whole_grammars_looked_thro.Holds := by
  w_on; o_law
  refine HandSHeadRun.head_any (r := OpenLaw.row PySem.Challenge.rw_mendtrees_k05_whole_grammars_looked_thro) (q := view (OpenLaw.row PySem.Challenge.rw_mendtrees_k05_whole_grammars_looked_thro).prog [55]) (H := MT.hk) (ob := MT.ob) (M := 30000) (loose := MT.looseN) (d := HandSHeadRun.topDef (OpenLaw.row PySem.Challenge.rw_mendtrees_k05_whole_grammars_looked_thro).prog 55) (kwd := []) MT.ob_eq
    (by kernel_rfl) (fun s => by kernel_rfl) MT.run (by kernel_rfl) (by kernel_rfl) (by kernel_rfl) (by rfl) (by first | assumption | decide +kernel) (by decide +kernel) ⟨rfl, rfl, rfl, rfl, rfl, by decide +kernel⟩ ?hw ?hc
  case hw => w_witness2
  case hc =>
    refine LamX.walk_ofTsE (l := PySem.Challenge.rw_mendtrees_k05_whole_grammars_looked_thro) (n := 63) (k := 34) (x := "script") (CX := fun _ => C8.CX0) rfl (by decide) (by kernel_rfl) ⟨rfl, by decide, by decide⟩ ?F (fun _ _ _ _ _ z => z)
    intro w mg fa h Y G hmg0
    obtain ⟨K, KX, c⟩ := Y
    have hmg : mg ("law" : PySem.Str) = some (.ref fa) := by
      have e : (HandSHeadRun.topDef (OpenLaw.row PySem.Challenge.rw_mendtrees_k05_whole_grammars_looked_thro).prog 55).name = ("law" : PySem.Str) := by kernel_rfl
      rw [← e]
      exact hmg0
    exact ⟨K, KX, MT.law_at KX G c hmg math⟩

set_option maxRecDepth 100000
set_option maxHeartbeats 1000000
/-! MTzi: the evaluator by rewriting. -/
namespace MT
open PySem PySem.Spec PyProof.Rows L2
section
variable {G : Prg} {cl : Call} {fu : Nat} {ρ : Envr} {S : Store}
/-! values -/
@[simp] theorem v_dBl (b : Bool) : dBl (.bl b) = some b := rfl
@[simp] theorem v_add (i j : Int) : binD .add (.int i) (.int j) = some (.int (i + j)) := rfl
@[simp] theorem v_sub (i j : Int) : binD .sub (.int i) (.int j) = some (.int (i - j)) := rfl
@[simp] theorem v_adds (s t : List Nat) : binD .add (.str s) (.str t) = if s.length + t.length ≤ LIM then some (.str (s ++ t)) else none := rfl
@[simp] theorem v_addt (s t : List D) : binD .add (.tup s) (.tup t) = if s.length + t.length ≤ LIM then some (.tup (s ++ t)) else none := rfl
@[simp] theorem v_addl (s t : List D) : binD .add (.lst s) (.lst t) = if s.length + t.length ≤ LIM then some (.lst (s ++ t)) else none := rfl
@[simp] theorem v_mul (i j : Int) : binD .mul (.int i) (.int j) = if (smI i 18446744073709551615 || smI j 18446744073709551615) = true then some (.int (i * j)) else none := rfl
@[simp] theorem v_fdiv (i j : Int) : binD .fdiv (.int i) (.int j) = if 0 < j ∧ smI j 1073741823 = true then some (.int (i / j)) else none := rfl
@[simp] theorem v_mod (i j : Int) : binD .mod (.int i) (.int j) = if 0 < j then some (.int (i % j)) else none := rfl
@[simp] theorem v_pow (i j : Int) : binD .pow (.int i) (.int j) = if 0 ≤ j ∧ j ≤ 100 ∧ i.natAbs < 2 ^ 64 then some (.int (i ^ j.toNat)) else none := rfl
@[simp] theorem v_eq (x y : D) : cmpT .eq x y S = eqD x y := rfl
@[simp] theorem v_ne (x y : D) : cmpT .ne x y S = (eqD x y).map (!·) := rfl
@[simp] theorem v_lt (i j : Int) : cmpT .lt (.int i) (.int j) S = some (decide (i < j)) := rfl
@[simp] theorem v_le (i j : Int) : cmpT .le (.int i) (.int j) S = some (decide (i ≤ j)) := rfl
@[simp] theorem v_gt (i j : Int) : cmpT .gt (.int i) (.int j) S = some (decide (j < i)) := rfl
@[simp] theorem v_ge (i j : Int) : cmpT .ge (.int i) (.int j) S = some (decide (j ≤ i)) := rfl
@[simp] theorem v_eqi (i j : Int) : eqD (.int i) (.int j) = some (decide (i = j)) := by
  simp [eqD, D.flat, D.dep, D.eqv]
  rfl
@[simp] theorem v_eqs (i j : List Nat) : eqD (.str i) (.str j) = some (decide (i = j)) := by
  simp [eqD, D.flat, D.dep, D.eqv]
@[simp] theorem v_eqb (i j : Bool) : eqD (.bl i) (.bl j) = some (i == j) := by
  simp [eqD, D.flat, D.dep, D.eqv]
@[simp] theorem v_lstr (s : List Nat) : bltD .len [.str s] = some (.int s.length) := rfl
@[simp] theorem v_ltup (s : List D) : bltD .len [.tup s] = some (.int s.length) := rfl
@[simp] theorem v_llst (s : List D) : bltD .len [.lst s] = some (.int s.length) := rfl
@[simp] theorem v_lro (s : List D) : bltD .len [.ro s] = some (.int s.length) := rfl
@[simp] theorem v_ldct (s : List (D × D)) : bltD .len [.dct s] = some (.int s.length) := rfl
@[simp] theorem v_all (s : List D) : bltD .all [.lst s] = (allBl s).map .bl := rfl
@[simp] theorem v_any (s : List D) : bltD .any [.lst s] = (anyBl s).map .bl := rfl
@[simp] theorem v_tupl (s : List D) : bltD .tuple [.lst s] = some (.tup s) := rfl
@[simp] theorem v_tupt (s : List D) : bltD .tuple [.tup s] = some (.tup s) := rfl
@[simp] theorem v_list (d : D) : bltD .list [d] = (itemsD d).map .lst := rfl
@[simp] theorem v_dict (d : List (D × D)) : bltD .dict [.dct d] = some (.dct d) := rfl
@[simp] theorem v_inti (i : Int) : bltD .int [.int i] = some (.int i) := rfl
@[simp] theorem v_intb (b : Bool) : bltD .int [.bl b] = some (.int (if b then 1 else 0)) := rfl
@[simp] theorem v_abs (i : Int) : bltD .abs [.int i] = some (.int (if i < 0 then -i else i)) := rfl
@[simp] theorem v_dm (i j : Int) : bltD .divmod [.int i, .int j] = if 0 < j ∧ smI j 1073741823 = true then some (.tup [.int (i / j), .int (i % j)]) else none := rfl
@[simp] theorem v_max (i j : Int) : bltD .max [.int i, .int j] = some (.int (if j > i then j else i)) := rfl
@[simp] theorem v_min (i j : Int) : bltD .min [.int i, .int j] = some (.int (if j < i then j else i)) := rfl
@[simp] theorem v_items_t (l : List D) : itemsD (.tup l) = some l := rfl
@[simp] theorem v_items_l (l : List D) : itemsD (.lst l) = some l := rfl
@[simp] theorem v_items_r (l : List D) : itemsD (.ro l) = some l := rfl
@[simp] theorem v_items_s (s : List Nat) : itemsD (.str s) = some (s.map fun c => .str [c]) := rfl
@[simp] theorem v_items_d (ps : List (D × D)) : itemsD (.dct ps) = some (ps.map (·.1)) := rfl
@[simp] theorem v_ixt (l : List D) (i : Int) : idxD S (.tup l) (.int i) = atD l i := rfl
@[simp] theorem v_ixl (l : List D) (i : Int) : idxD S (.lst l) (.int i) = atD l i := rfl
@[simp] theorem v_ixr (l : List D) (i : Int) : idxD S (.ro l) (.int i) = atD l i := rfl
@[simp] theorem v_ixs (l : List Nat) (i : Int) : idxD S (.str l) (.int i) = (atD l i).map fun c => .str [c] := rfl
@[simp] theorem v_at0 {α : Type} (a : α) (l : List α) : atD (a :: l) 0 = some a := by
  unfold atD ixn
  simp
@[simp] theorem v_at1 {α : Type} (a b : α) (l : List α) : atD (a :: b :: l) 1 = some b := by
  unfold atD ixn
  rw [if_pos (by decide), if_pos (by simp only [List.length_cons]; omega)]
  rfl
@[simp] theorem v_at2 {α : Type} (a b c : α) (l : List α) : atD (a :: b :: c :: l) 2 = some c := by
  unfold atD ixn
  rw [if_pos (by decide), if_pos (by simp only [List.length_cons]; omega)]
  rfl
theorem at_nat {α : Type} (l : List α) (i : Nat) : atD l (i : Int) = l[i]? := by
  unfold atD ixn
  rw [if_pos (by omega)]
  by_cases h : i < l.length
  · rw [if_pos (by omega)]
    simp
  · rw [if_neg (by omega), List.getElem?_eq_none (by omega)]
    rfl
@[simp] theorem v_slt (l : List D) (a b : Option Int) : slD (.tup l) a b = some (.tup (cut l a b)) := rfl
@[simp] theorem v_sll (l : List D) (a b : Option Int) : slD (.lst l) a b = some (.lst (cut l a b)) := rfl
@[simp] theorem v_slr (l : List D) (a b : Option Int) : slD (.ro l) a b = some (.lst (cut l a b)) := rfl
@[simp] theorem v_sls (l : List Nat) (a b : Option Int) : slD (.str l) a b = some (.str (cut l a b)) := rfl
@[simp] theorem v_revt (l : List D) : revD (.tup l) = some (.tup l.reverse) := rfl
@[simp] theorem v_revl (l : List D) : revD (.lst l) = some (.lst l.reverse) := rfl
theorem cut_take {α : Type} (l : List α) (k : Nat) : cut l none (some (k : Int)) = l.take k := by
  unfold cut
  have e1 : sIx l.length 0 none = 0 := rfl
  have e2 : sIx l.length l.length (some (k : Int)) = min k l.length := HT.sIx_nat _ _ _
  rw [e1, e2, Nat.sub_zero, List.drop_zero]
  rw [List.take_eq_take_iff]
  omega
theorem cut_drop {α : Type} (l : List α) (k : Nat) : cut l (some (k : Int)) none = l.drop k := by
  unfold cut
  have e1 : sIx l.length l.length none = l.length := rfl
  have e2 : sIx l.length 0 (some (k : Int)) = min k l.length := HT.sIx_nat _ _ _
  rw [e1, e2]
  by_cases h : k ≤ l.length
  · rw [Nat.min_eq_left h]
    exact List.take_of_length_le (by rw [List.length_drop]; omega)
  · rw [Nat.min_eq_right (by omega), List.drop_of_length_le (Nat.le_refl _), List.drop_of_length_le (by omega)]
    simp
@[simp] theorem v_walkt (l : List D) : walkD (.tup l) = some l := rfl
@[simp] theorem v_walkl (l : List D) : walkD (.lst l) = some l := rfl
@[simp] theorem v_walkr (l : List D) : walkD (.ro l) = some l := rfl
@[simp] theorem v_walks (s : List Nat) : walkD (.str s) = some (s.map fun c => .str [c]) := rfl
@[simp] theorem v_seqt (l : List D) : seqD (.tup l) = some l := rfl
@[simp] theorem v_seql (l : List D) : seqD (.lst l) = some l := rfl
@[simp] theorem v_seqr (l : List D) : seqD (.ro l) = some l := rfl
@[simp] theorem v_start (l : List D) : starD (.tup l) = some l := rfl
@[simp] theorem v_starl (l : List D) : starD (.lst l) = some l := rfl
@[simp] theorem v_deref_l (l : List D) : deref S (.lst l) = .lst l := rfl
@[simp] theorem v_deref_t (l : List D) : deref S (.tup l) = .tup l := rfl
@[simp] theorem v_deref_s (l : List Nat) : deref S (.str l) = .str l := rfl
@[simp] theorem v_deref_d (l : List (D × D)) : deref S (.dct l) = .dct l := rfl
@[simp] theorem v_boxl (l : List D) : boxD (.lst l) = true := rfl
@[simp] theorem v_boxd (l : List (D × D)) : boxD (.dct l) = true := rfl
@[simp] theorem v_isKi (i : Int) : isKey (.int i) = true := rfl
@[simp] theorem v_isKs (i : List Nat) : isKey (.str i) = true := rfl
theorem v_ixo {n : Nat} {l : List D} {i : Int} (h : S[n]? = some (.lst l)) : idxD S (.obj n) (.int i) = atD l i := by simp [idxD, h]
theorem v_derefl {n : Nat} {l : List D} (h : S[n]? = some (.lst l)) : deref S (.obj n) = .lst l := by simp [deref, h]
theorem v_derefd {n : Nat} {l : List (D × D)} (h : S[n]? = some (.dct l)) : deref S (.obj n) = .dct l := by simp [deref, h]
theorem v_ixd {n : Nat} {ps : List (D × D)} {s : List Nat} (h : S[n]? = some (.dct ps)) : idxD S (.obj n) (.str s) = dGet (.str s) ps := by simp [idxD, h, isKey]
theorem v_pop {n : Nat} {l : List D} {y : D} (h : S[n]? = some (.lst (l ++ [y]))) : popS (.obj n) S = some (y, S.set n (.lst l)) := by simp [popS, h]
theorem v_empo {n : Nat} {l : List D} {ng : Bool} (h : S[n]? = some (.lst l)) (hf : D.flats l = true) : empS ng (.obj n) S = some (.bl (ng ^^ l.isEmpty), S) := by simp [empS, v_derefl h, hf]
theorem v_geto {n : Nat} {ps : List (D × D)} {s : List Nat} {z : D} (h : S[n]? = some (.dct ps)) : getS (.obj n) (.str s) z S = some ((dGet (.str s) ps).getD z, S) := by simp [getS, v_derefd h, isKey]
theorem v_setod {n : Nat} {ps : List (D × D)} {s : List Nat} {v : D} (h : S[n]? = some (.dct ps)) (hl : ps.length < LIM) : setObD (.obj n) (.str s) v S = some (S.set n (.dct (dPut (.str s) v ps))) := by simp [setObD, h, isKey, hl]
theorem v_appo {n : Nat} {l : List D} {x : D} (h : S[n]? = some (.lst l)) (hl : l.length < LIM) : appS (.obj n) x S = some (S.set n (.lst (l ++ [x]))) := by simp [appS, h, hl]
theorem v_exto {n : Nat} {l m : List D} (h : S[n]? = some (.lst l)) (hl : l.length + m.length ≤ LIM) : extS (.obj n) (.lst m) S = some (S.set n (.lst (l ++ m))) := by simp [extS, h, hl]
theorem v_ino {n : Nat} {ps : List (D × D)} {s : List Nat} (h : S[n]? = some (.dct ps)) : cmpT .isin (.str s) (.obj n) S = some (dGet (.str s) ps).isSome := by
  show cmpD .isin (.str s) (deref S (.obj n)) = _
  rw [v_derefd h]
  unfold cmpD
  split <;> first | (rename_i e1 e2; cases e2) | skip
  all_goals simp_all [isKey]
theorem v_notino {n : Nat} {ps : List (D × D)} {s : List Nat} (h : S[n]? = some (.dct ps)) : cmpT .notin (.str s) (.obj n) S = some (!(dGet (.str s) ps).isSome) := by
  show cmpD .notin (.str s) (deref S (.obj n)) = _
  rw [v_derefd h]
  unfold cmpD
  split <;> first | (rename_i e1 e2; cases e2) | skip
  all_goals simp_all [isKey]
theorem v_seto {n : Nat} {l : List D} {i : Int} {v : D} (h : S[n]? = some (.lst l)) : setObD (.obj n) (.int i) v S = (ixn l.length i).map fun j => S.set n (.lst (l.set j v)) := by simp [setObD, h]
theorem rng1_ok {m : Int} (h : m.natAbs ≤ 1000000000) : rng1D (.int m) = some (rngD 0 m.toNat) := by
  have z : smI m 4611686018427387903 = true := smI_of (by omega)
  simp only [rng1D]
  rw [if_pos z]
theorem rng2_ok {a n : Int} (h1 : n.natAbs ≤ 1000000000) (h2 : a.natAbs ≤ 1000000000) : rng2D (.int a) (.int n) = some (rngD a (n - a).toNat) := by
  have z1 : smI n 4611686018427387903 = true := smI_of (by omega)
  have z2 : smI a 4611686018427387903 = true := smI_of (by omega)
  simp only [rng2D]
  rw [if_pos (by rw [z1, z2] <;> rfl)]
/-! isinstance -/
@[simp] theorem v_isi_str (t : Ty) (s : List Nat) : isiD S t (.str s) = some (decide (t = .str)) := by cases t <;> rfl
@[simp] theorem v_isi_tup (t : Ty) (s : List D) : isiD S t (.tup s) = some (decide (t = .tuple)) := by cases t <;> rfl
@[simp] theorem v_isi_lst (t : Ty) (s : List D) : isiD S t (.lst s) = some (decide (t = .list)) := by cases t <;> rfl
@[simp] theorem v_isi_ro (t : Ty) (s : List D) : isiD S t (.ro s) = some (decide (t = .list)) := by cases t <;> rfl
@[simp] theorem v_isi_dct (t : Ty) (s : List (D × D)) : isiD S t (.dct s) = some (decide (t = .dict)) := by cases t <;> rfl
@[simp] theorem v_isi_int (t : Ty) (i : Int) : isiD S t (.int i) = some (decide (t = .int)) := by cases t <;> rfl
@[simp] theorem v_isi_bl (t : Ty) (b : Bool) : isiD S t (.bl b) = some (decide (t = .int) || decide (t = .bool)) := by cases t <;> rfl
@[simp] theorem v_isi_non (t : Ty) : isiD S t .non = some false := by cases t <;> rfl
/-! expressions -/
@[simp] theorem e_var (i : Nat) : evE G cl (.var i) ρ S = (match ρ[i]? with
    | some (some d) => some (d, S)
    | _ => none) := by rw [evE] <;> rfl
@[simp] theorem e_cst (d : D) : evE G cl (.cst d) ρ S = some (d, S) := by rw [evE] <;> rfl
@[simp] theorem e_neg (a : MT.E) : evE G cl (.neg a) ρ S = bnd (evE G cl a ρ S) fun x S => (match x with
    | .int i => some (.int (-i), S)
    | _ => none) := by rw [evE] <;> rfl
@[simp] theorem e_not (a : MT.E) : evE G cl (.not a) ρ S = bnd (evE G cl a ρ S) fun x S => (dBl x).map fun b => (.bl (!b), S) := by rw [evE] <;> rfl
@[simp] theorem e_bin (o : BinO) (a b : MT.E) : evE G cl (.bin o a b) ρ S = bnd (evE G cl a ρ S) fun x S => bnd (evE G cl b ρ S) fun y S => (binD o x y).map fun z => (z, S) := by rw [evE] <;> rfl
@[simp] theorem e_cmp (o : CmpO) (a b : MT.E) : evE G cl (.cmp o a b) ρ S = bnd (evE G cl a ρ S) fun x S => bnd (evE G cl b ρ S) fun y S => (cmpT o x y S).map fun b => (.bl b, S) := by rw [evE] <;> rfl
@[simp] theorem e_eqo (ng : Bool) (a b : MT.E) : evE G cl (.eqo ng a b) ρ S = bnd (evE G cl a ρ S) fun x S => bnd (evE G cl b ρ S) fun y S => eqoS G cl ng x y S := by rw [evE] <;> rfl
@[simp] theorem e_cmp2 (o p : CmpO) (a b c : MT.E) : evE G cl (.cmp2 o p a b c) ρ S = bnd (evE G cl a ρ S) fun x S => bnd (evE G cl b ρ S) fun y S => (match cmpT o x y S with
    | some true => bnd (evE G cl c ρ S) fun z S => (cmpT p y z S).map fun r => (.bl r, S)
    | some false => some (.bl false, S)
    | none => none) := by rw [evE] <;> rfl
theorem e_isn (ng : Bool) (a : MT.E) : evE G cl (.isn ng a) ρ S = bnd (evE G cl a ρ S) fun x S => (match x with
    | .non => some (.bl (!ng), S)
    | _ => some (.bl ng, S)) := by rw [evE] <;> rfl
@[simp] theorem e_and (a b : MT.E) : evE G cl (.and a b) ρ S = bnd (evE G cl a ρ S) fun x S => (match dBl x with
    | some true => bnd (evE G cl b ρ S) fun y S => (dBl y).map fun c => (.bl c, S)
    | some false => some (.bl false, S)
    | none => none) := by rw [evE] <;> rfl
@[simp] theorem e_or (a b : MT.E) : evE G cl (.or a b) ρ S = bnd (evE G cl a ρ S) fun x S => (match dBl x with
    | some true => some (.bl true, S)
    | some false => bnd (evE G cl b ρ S) fun y S => (dBl y).map fun c => (.bl c, S)
    | none => none) := by rw [evE] <;> rfl
@[simp] theorem e_ite (c a b : MT.E) : evE G cl (.ite c a b) ρ S = bnd (evE G cl c ρ S) fun x S => (match dBl x with
    | some true => evE G cl a ρ S
    | some false => evE G cl b ρ S
    | none => none) := by rw [evE] <;> rfl
@[simp] theorem e_tup (l : Es) : evE G cl (.tup l) ρ S = bnd (evL G cl l ρ S) fun ds S => if ds.length ≤ LIM then some (.tup ds, S) else none := by rw [evE] <;> rfl
@[simp] theorem e_lst (l : Es) : evE G cl (.lst l) ρ S = bnd (evL G cl l ρ S) fun ds S => if ds.length ≤ LIM then some (.lst ds, S) else none := by rw [evE] <;> rfl
@[simp] theorem e_newl (l : Es) : evE G cl (.newl l) ρ S = bnd (evL G cl l ρ S) fun ds S => if ds.length ≤ LIM then some (.obj S.length, S ++ [.lst ds]) else none := by rw [evE] <;> rfl
@[simp] theorem e_dct0 : evE G cl .dct0 ρ S = some (.dct [], S) := by rw [evE] <;> rfl
@[simp] theorem e_newd : evE G cl .newd ρ S = some (.obj S.length, S ++ [.dct []]) := by rw [evE] <;> rfl
@[simp] theorem e_idx (a i : MT.E) : evE G cl (.idx a i) ρ S = bnd (evE G cl a ρ S) fun x S => bnd (evE G cl i ρ S) fun y S => (idxD S x y).map fun z => (z, S) := by rw [evE] <;> rfl
@[simp] theorem e_sl (a : MT.E) (lo hi : Eo) : evE G cl (.sl a lo hi) ρ S = bnd (evE G cl a ρ S) fun x S => bnd (evO G cl lo ρ S) fun l S => bnd (evO G cl hi ρ S) fun h S => (slD x l h).map fun z => (z, S) := by rw [evE] <;> rfl
@[simp] theorem e_rev (a : MT.E) : evE G cl (.rev a) ρ S = bnd (evE G cl a ρ S) fun x S => (revD x).map fun z => (z, S) := by rw [evE] <;> rfl
@[simp] theorem e_call (f : Nat) (l : Es) : evE G cl (.call f l) ρ S = bnd (evL G cl l ρ S) fun ds S => cl f [] ds S := by rw [evE] <;> rfl
@[simp] theorem e_callk (f : Nat) (l lk : Es) (p : List Nat) : evE G cl (.callk f l lk p) ρ S = bnd (evL G cl l ρ S) fun ds S => bnd (evL G cl lk ρ S) fun es S => (permD (ds ++ es) p).bind fun ds => cl f [] ds S := by rw [evE] <;> rfl
@[simp] theorem e_callv (i : Nat) (l : Es) : evE G cl (.callv i l) ρ S = (match ρ[i]? with
    | some (some (.fn f cs)) => bnd (evL G cl l ρ S) fun ds S => cl f cs ds S
    | _ => none) := by rw [evE] <;> rfl
@[simp] theorem e_calll (f : Nat) (l : Es) (g : Nat) (caps : List Nat) : evE G cl (.calll f l g caps) ρ S = bnd (evL G cl l ρ S) fun ds S => (capsD ρ caps).bind fun cs => bnd (cl f [] (ds ++ [.fn g cs]) S) fun r S => if noLam r && noLamS S then some (r, S) else none := by rw [evE] <;> rfl
@[simp] theorem e_new (c f : Nat) (l : Es) : evE G cl (.new c f l) ρ S = bnd (evL G cl l ρ S) fun ds S => bnd (cl f [] (.obj S.length :: ds) (S ++ [.ins c []])) fun r S1 => (match r with
    | .non => some (.obj S.length, S1)
    | _ => none) := by rw [evE] <;> rfl
@[simp] theorem e_newk (c f : Nat) (l lk : Es) (p : List Nat) : evE G cl (.newk c f l lk p) ρ S = bnd (evL G cl l ρ S) fun ds S => bnd (evL G cl lk ρ S) fun es S => (permD (ds ++ es) p).bind fun ds => bnd (cl f [] (.obj S.length :: ds) (S ++ [.ins c []])) fun r S1 => (match r with
    | .non => some (.obj S.length, S1)
    | _ => none) := by rw [evE] <;> rfl
@[simp] theorem e_att (a : MT.E) (k : Nat) : evE G cl (.att a k) ρ S = bnd (evE G cl a ρ S) fun x S => attS G cl k x S := by rw [evE] <;> rfl
@[simp] theorem e_blt (b : Blt) (l : Es) : evE G cl (.blt b l) ρ S = bnd (evL G cl l ρ S) fun ds S => (bltD b ds).map fun z => (z, S) := by rw [evE] <;> rfl
@[simp] theorem e_isi (t : Ty) (a : MT.E) : evE G cl (.isi t a) ρ S = bnd (evE G cl a ρ S) fun x S => (isiD S t x).map fun b => (.bl b, S) := by rw [evE] <;> rfl
@[simp] theorem e_mth (m : Mth) (a : MT.E) (l : Es) : evE G cl (.mth m a l) ρ S = bnd (evE G cl a ρ S) fun x S => bnd (evL G cl l ρ S) fun ds S => (mthD m x ds).map fun z => (z, S) := by rw [evE] <;> rfl
@[simp] theorem e_box (a : MT.E) : evE G cl (.box a) ρ S = bnd (evE G cl a ρ S) fun x S => boxS x S := by rw [evE] <;> rfl
@[simp] theorem e_popo (a : MT.E) : evE G cl (.popo a) ρ S = bnd (evE G cl a ρ S) fun x S => popS x S := by rw [evE] <;> rfl
@[simp] theorem e_emp (ng : Bool) (a : MT.E) : evE G cl (.emp ng a) ρ S = bnd (evE G cl a ρ S) fun x S => empS ng x S := by rw [evE] <;> rfl
@[simp] theorem e_getd (a k d : MT.E) : evE G cl (.getd a k d) ρ S = bnd (evE G cl a ρ S) fun x S => if isDct (deref S x) then bnd (evE G cl k ρ S) fun y S => bnd (evE G cl d ρ S) fun z S => getS x y z S else none := by rw [evE] <;> rfl
@[simp] theorem v_boxSl (l : List D) : boxS (.lst l) S = some (.obj S.length, S ++ [.lst l]) := rfl
@[simp] theorem v_boxSd (l : List (D × D)) : boxS (.dct l) S = some (.obj S.length, S ++ [.dct l]) := rfl
@[simp] theorem el_nil' : evL G cl .nil ρ S = some ([], S) := by rw [evL] <;> rfl
@[simp] theorem el_cons' (e : MT.E) (r : Es) : evL G cl (.cons e r) ρ S = bnd (evE G cl e ρ S) fun x S => bnd (evL G cl r ρ S) fun xs S => some (x :: xs, S) := by rw [evL] <;> rfl
@[simp] theorem el_star' (e : MT.E) (r : Es) : evL G cl (.star e r) ρ S = bnd (evE G cl e ρ S) fun x S => (starD x).bind fun ys => bnd (evL G cl r ρ S) fun xs S => some (ys ++ xs, S) := by rw [evL] <;> rfl
@[simp] theorem eo_non' : evO G cl .non ρ S = some (none, S) := by rw [evO] <;> rfl
@[simp] theorem eo_som' (e : MT.E) : evO G cl (.som e) ρ S = bnd (evE G cl e ρ S) fun x S => (match x with
    | .int i => some (some i, S)
    | _ => none) := by rw [evO] <;> rfl
@[simp] theorem ec_non' : evC G cl .non ρ S = some (true, S) := by rw [evC] <;> rfl
@[simp] theorem ec_som' (e : MT.E) : evC G cl (.som e) ρ S = bnd (evE G cl e ρ S) fun x S => (dBl x).map fun b => (b, S) := by rw [evC] <;> rfl
@[simp] theorem ei_e' (a : MT.E) : evI G cl (.e a) ρ S = bnd (evE G cl a ρ S) fun x S => (walkD x).map fun l => (l, S) := by rw [evI] <;> rfl
@[simp] theorem ei_rng1' (a : MT.E) : evI G cl (.rng1 a) ρ S = bnd (evE G cl a ρ S) fun x S => (rng1D x).map fun l => (l, S) := by rw [evI] <;> rfl
@[simp] theorem ei_rng2' (a b : MT.E) : evI G cl (.rng2 a b) ρ S = bnd (evE G cl a ρ S) fun x S => bnd (evE G cl b ρ S) fun y S => (rng2D x y).map fun l => (l, S) := by rw [evI] <;> rfl
@[simp] theorem ei_enum' (a : MT.E) : evI G cl (.enum a) ρ S = bnd (evE G cl a ρ S) fun x S => (seqD x).map fun l => (enumD 0 l, S) := by rw [evI] <;> rfl
@[simp] theorem ei_zip' (l : Es) : evI G cl (.zip l) ρ S = bnd (evL G cl l ρ S) fun ds S => (itemsAll ds).map fun l => (zipD l, S) := by rw [evI] <;> rfl
@[simp] theorem ei_items' (a : MT.E) : evI G cl (.items a) ρ S = bnd (evE G cl a ρ S) fun x S => (match x with
    | .dct ps => some (ps.map fun p => .tup [p.1, p.2], S)
    | _ => none) := by rw [evI] <;> rfl
@[simp] theorem w_nil' : wipeE ρ [] = ρ := rfl
@[simp] theorem w_cons' (v : Nat) (vs : List Nat) : wipeE ρ (v :: vs) = (wipeE ρ vs).set v none := rfl
@[simp] theorem bt_nm (i : Nat) (d : D) : bindT (.nm i) d ρ = some (ρ.set i (some d)) := by rw [bindT] <;> rfl
@[simp] theorem bt_tp (l : Tgs) (ds : List D) : bindT (.tp l) (.tup ds) ρ = bindTs l ds ρ := by rw [bindT] <;> rfl
@[simp] theorem bt_nil : bindTs .nil [] ρ = some ρ := by rw [bindTs] <;> rfl
@[simp] theorem bt_cons (t : Tg) (r : Tgs) (d : D) (ds : List D) : bindTs (.cons t r) (d :: ds) ρ = (bindT t d ρ).bind fun ρ' => bindTs r ds ρ' := by rw [bindTs] <;> rfl
/-! statements -/
@[simp] theorem xss_nil : exSs G cl fu .nil ρ S = some (.nx, ρ, S) := by rw [exSs] <;> rfl
@[simp] theorem xss_cons (s : Sm) (r : Ss) : exSs G cl fu (.cons s r) ρ S = bnd3 (exS G cl fu s ρ S) fun fl ρ S => (match fl with
    | .nx => exSs G cl fu r ρ S
    | fl => some (fl, ρ, S)) := by rw [exSs] <;> rfl
@[simp] theorem x_set (i : Nat) (e : MT.E) : exS G cl fu (.set i e) ρ S = bnd (evE G cl e ρ S) fun x S => some (.nx, ρ.set i (some x), S) := by rw [exS] <;> rfl
@[simp] theorem x_setn (i : Nat) (e : MT.E) : exS G cl fu (.setn i e) ρ S = bnd (evE G cl e ρ S) fun x S => if boxD x then some (.nx, ρ.set i (some x), S) else none := by rw [exS] <;> rfl
@[simp] theorem x_retv (i : Nat) : exS G cl fu (.retv i) ρ S = (match ρ[i]? with
    | some (some x) => some (.ret x, ρ, S)
    | _ => none) := by rw [exS] <;> rfl
@[simp] theorem x_unp (t : Tg) (e : MT.E) : exS G cl fu (.unp t e) ρ S = bnd (evE G cl e ρ S) fun x S => (bindT t x ρ).map fun ρ => (.nx, ρ, S) := by rw [exS] <;> rfl
@[simp] theorem x_par (l : List Nat) (es : Es) : exS G cl fu (.par l es) ρ S = bnd (evL G cl es ρ S) fun ds S => (setPar l ds ρ).map fun ρ => (.nx, ρ, S) := by rw [exS] <;> rfl
@[simp] theorem x_ret (e : MT.E) : exS G cl fu (.ret e) ρ S = bnd (evE G cl e ρ S) fun x S => some (.ret x, ρ, S) := by rw [exS] <;> rfl
@[simp] theorem x_retn : exS G cl fu .retn ρ S = some (.ret .non, ρ, S) := by rw [exS] <;> rfl
@[simp] theorem x_exp (e : MT.E) : exS G cl fu (.exp e) ρ S = bnd (evE G cl e ρ S) fun _ S => some (.nx, ρ, S) := by rw [exS] <;> rfl
@[simp] theorem x_app (i : Nat) (e : MT.E) : exS G cl fu (.app i e) ρ S = bnd (evE G cl e ρ S) fun x S => (match ρ[i]? with
    | some (some (.lst l)) => if l.length < LIM then some (.nx, ρ.set i (some (.lst (l ++ [x]))), S) else none
    | _ => none) := by rw [exS] <;> rfl
@[simp] theorem x_ext (i : Nat) (e : MT.E) : exS G cl fu (.ext i e) ρ S = bnd (evE G cl e ρ S) fun x S => (match ρ[i]?, x with
    | some (some (.lst l)), .lst m => if l.length + m.length ≤ LIM then some (.nx, ρ.set i (some (.lst (l ++ m))), S) else none
    | _, _ => none) := by rw [exS] <;> rfl
@[simp] theorem x_seti (i : Nat) (k v : MT.E) : exS G cl fu (.seti i k v) ρ S = bnd (evE G cl v ρ S) fun x S => bnd (evE G cl k ρ S) fun y S => (match ρ[i]? with
    | some (some d) => (setInD y x d).map fun d => (.nx, ρ.set i (some d), S)
    | _ => none) := by rw [exS] <;> rfl
@[simp] theorem x_seto (o k v : MT.E) : exS G cl fu (.seto o k v) ρ S = bnd (evE G cl v ρ S) fun x S => bnd (evE G cl o ρ S) fun a S => bnd (evE G cl k ρ S) fun y S => (setObD a y x S).map fun S => (.nx, ρ, S) := by rw [exS] <;> rfl
@[simp] theorem x_setf (o : MT.E) (k : Nat) (v : MT.E) : exS G cl fu (.setf o k v) ρ S = bnd (evE G cl v ρ S) fun x S => bnd (evE G cl o ρ S) fun a S => (match a with
    | .obj n => (match clsOf S n with
      | some (c, fs) => if G.fld.contains (c, k) && decide (fs.length < 100) then some (.nx, ρ, S.set n (.ins c (fsPut k x fs))) else none
      | none => none)
    | _ => none) := by rw [exS] <;> rfl
@[simp] theorem x_iff (c : MT.E) (a b : Ss) : exS G cl fu (.iff c a b) ρ S = bnd (evE G cl c ρ S) fun x S => (match dBl x with
    | some true => exSs G cl fu a ρ S
    | some false => exSs G cl fu b ρ S
    | none => none) := by rw [exS] <;> rfl
@[simp] theorem x_appo (o e : MT.E) : exS G cl fu (.appo o e) ρ S = bnd (evE G cl o ρ S) fun a S => if isLst (deref S a) then bnd (evE G cl e ρ S) fun x S => (appS a x S).map fun S => (.nx, ρ, S) else none := by rw [exS] <;> rfl
@[simp] theorem x_exto (o e : MT.E) : exS G cl fu (.exto o e) ρ S = bnd (evE G cl o ρ S) fun a S => if isLst (deref S a) then bnd (evE G cl e ρ S) fun x S => (extS a x S).map fun S => (.nx, ρ, S) else none := by rw [exS] <;> rfl
@[simp] theorem x_whl (c : MT.E) (b : Ss) : exS G cl fu (.whl c b) ρ S = whlG (fun ρ S => bnd (evE G cl c ρ S) fun x S => (dBl x).map fun b => (b, S)) (fun ρ S => exSs G cl fu b ρ S) fu ρ S := by rw [exS] <;> rfl
@[simp] theorem x_brk : exS G cl fu .brk ρ S = some (.brk, ρ, S) := by rw [exS] <;> rfl
@[simp] theorem x_cnt : exS G cl fu .cnt ρ S = some (.cnt, ρ, S) := by rw [exS] <;> rfl
@[simp] theorem x_pass : exS G cl fu .pass ρ S = some (.nx, ρ, S) := by rw [exS] <;> rfl
@[simp] theorem x_asg (l : List TgS) (e : MT.E) : exS G cl fu (.asg l e) ρ S = bnd (evE G cl e ρ S) fun x S => (match x with
    | .tup ds => bnd (asgG G cl l ds ρ S) fun ρ S => some (.nx, ρ, S)
    | _ => none) := by rw [exS] <;> rfl
@[simp] theorem as_nil : asgG G cl [] [] ρ S = some (ρ, S) := by rw [asgG] <;> rfl
@[simp] theorem as_nm (i : Nat) (r : List TgS) (d : D) (ds : List D) : asgG G cl (.nm i :: r) (d :: ds) ρ S = asgG G cl r ds (ρ.set i (some d)) S := by rw [asgG] <;> rfl
@[simp] theorem as_ix (o k : MT.E) (r : List TgS) (d : D) (ds : List D) : asgG G cl (.ix o k :: r) (d :: ds) ρ S = bnd (evE G cl o ρ S) fun x S => bnd (evE G cl k ρ S) fun y S => (setObD x y d S).bind fun S => asgG G cl r ds ρ S := by rw [asgG] <;> rfl
@[simp] theorem sp_nil : setPar [] [] ρ = some ρ := rfl
@[simp] theorem sp_cons (i : Nat) (is : List Nat) (d : D) (ds : List D) : setPar (i :: is) (d :: ds) ρ = setPar is ds (ρ.set i (some d)) := rfl
@[simp] theorem pm_nil {α : Type} (ds : List α) : permD ds [] = some [] := rfl
@[simp] theorem cp_nil : capsD ρ [] = some [] := rfl
end
end MT

set_option maxRecDepth 100000
set_option maxHeartbeats 1000000
namespace MT
open PySem PySem.Spec PyProof.Rows L2
/-! m -/
abbrev cg (n : Nat) : Call := callG prg fnsA fuA n
theorem cg_succ (n i : Nat) (cs ds : List D) (S : Store) {fd : FnD} (h : fnsA[i]? = some fd) : cg (n + 1) i cs ds S = runF prg (cg n) fuA fd cs ds S := by
  show (match fnsA[i]? with | some fd => runF prg (callG prg fnsA fuA n) fuA fd cs ds S | none => none) = _
  rw [h]
theorem is_tuple_of_s (n : Nat) (l : List D) (m : Int) (S : Store) : cg (n + 1) 2 [] [.tup l, .int m] S = some (.bl (decide ((l.length : Int) = m)), S) := by
  rw [cg_succ n 2 _ _ _ rfl]
  simp [runF, ir2, exSs, exS, evE, evL, bnd, bnd3, isiD, tyD, dBl, bltD, cmpT, cmpD, eqD, D.flat, D.flats, D.dep, D.eqv]
  rfl
theorem is_pair_s (n : Nat) (l : List D) (S : Store) : cg (n + 2) 3 [] [.tup l] S = some (.bl (decide ((l.length : Int) = 2)), S) := by
  rw [cg_succ (n + 1) 3 _ _ _ rfl]
  simp [runF, ir3, exSs, exS, evE, evL, bnd, bnd3, is_tuple_of_s]
theorem is_one_of_s (n : Nat) (s : List Nat) (l : List D) (S : Store) (hf : D.flats l = true) : cg (n + 1) 0 [] [.str s, .lst l] S = some (.bl (l.any fun y => D.eqv y (.str s)), S) := by
  rw [cg_succ n 0 _ _ _ rfl]
  simp [runF, ir0, exSs, exS, evE, evL, bnd, bnd3, isiD, tyD, dBl, bltD, cmpT, cmpD, eqD, D.flat, D.flats, D.dep, D.eqv, deref, inD, hf]
def letters : List (List Nat) := [[97], [98], [99], [100], [101]]
theorem is_letter_s (n : Nat) (s : List Nat) (S : Store) : cg (n + 2) 6 [] [.str s] S = some (.bl (decide (s ∈ letters)), S) := by
  rw [cg_succ (n + 1) 6 _ _ _ rfl]
  have h := is_one_of_s n s (letters.map D.str) S rfl
  have e : ((letters.map D.str).any fun y => D.eqv y (.str s)) = decide (s ∈ letters) := by
    simp only [letters, List.map, List.any, D.eqv]
    rw [Bool.eq_iff_iff]
    simp [or_comm, eq_comm (b := s)]
  rw [e] at h
  simp only [letters, List.map] at h
  simp [runF, ir6, exSs, exS, evE, evL, bnd, bnd3, bltD, itemsD, h, letters]

/-! n -/
theorem compG_pure {f : D → Store → Option (Option D × Store)} {g : D → Option D} {S : Store} : ∀ {l : List D}, (∀ d ∈ l, f d S = some (g d, S)) → compG f l S = some (l.filterMap g, S)
  | [], _ => rfl
  | d :: l, h => by
    have h1 := h d List.mem_cons_self
    have h2 := compG_pure (l := l) fun x hx => h x (List.mem_cons_of_mem _ hx)
    unfold compG
    rw [h1]
    simp only [bnd_some]
    rw [h2]
    simp only [bnd_some, List.filterMap_cons]
    cases g d <;> rfl
theorem allBl_map {α : Type} (p : α → Bool) : ∀ l : List α, allBl (l.map fun x => D.bl (p x)) = some (l.all p)
  | [] => rfl
  | a :: l => by
    show (allBl (l.map fun x => D.bl (p x))).map (p a && ·) = _
    rw [allBl_map p l] <;> rfl
def ABC : List Nat := [97, 98, 99, 100, 101, 102, 103, 104, 105, 106, 107, 108, 109, 110, 111, 112, 113, 114, 115, 116, 117, 118, 119, 120, 121, 122]
theorem e_comp {G : Prg} {cl : Call} {x : MT.E} {t : Tg} {i : It} {c : Eo} {w : List Nat} {ρ : Envr} {S S1 S2 : Store} {items l : List D} (h1 : evI G cl i ρ S = some (items, S1))
    (h2 : compG (fun d S => (bindT t d (wipeE ρ w)).bind fun ρ1 => bnd (evC G cl c ρ1 S) fun b S => if b then bnd (evE G cl x ρ1 S) fun y S => some (some y, S) else some (none, S)) items S1 = some (l, S2)) (hl : l.length ≤ LIM) :
    evE G cl (.comp x t i c w) ρ S = some (.lst l, S2) := by
  unfold evE
  rw [h1]
  simp only [bnd_some]
  rw [h2]
  simp only [bnd_some, if_pos hl]
theorem is_word_s (n : Nat) (s : List Nat) (S : Store) (hl : s.length ≤ LIM) : cg (n + 1) 1 [] [.str s] S = some (.bl (decide (s ≠ []) && s.all fun c => decide (c ∈ ABC)), S) := by
  rw [cg_succ n 1 _ _ _ rfl]
  have h : evE prg (cg n) (.comp (.cmp .isin (.var 1) (.cst (.str ABC))) (.nm 1) (.e (.var 0)) .non [1]) [some (.str s), none] S = some (.lst (s.map fun c => D.bl (decide (c ∈ ABC))), S) := by
    refine e_comp (items := s.map fun c => .str [c]) (S1 := S) rfl ?_ (by rw [List.length_map]; exact hl)
    rw [compG_pure (g := fun d => match d with | .str [c] => some (.bl (decide (c ∈ ABC))) | _ => none)]
    · rw [List.filterMap_map, ← List.filterMap_eq_map] <;> rfl
    · intro d hd
      obtain ⟨c, _, rfl⟩ := List.mem_map.mp hd
      rfl
  have e2 : eqD (.str s) (.str []) = some (decide (s = [])) := by
    simp [eqD, D.flat, D.dep, D.eqv]
  have a := allBl_map (fun c => decide (c ∈ ABC)) s
  have h3 : evE prg (cg n) (.blt .all (.cons (.comp (.cmp .isin (.var 1) (.cst (.str ABC))) (.nm 1) (.e (.var 0)) .non [1]) .nil)) [some (.str s), none] S = some (.bl (s.all fun c => decide (c ∈ ABC)), S) := by
    show bnd (bnd (evE prg (cg n) (.comp _ _ _ _ _) _ S) _) _ = _
    rw [h]
    simp [evL, bltD, a]
  have h4 : evE prg (cg n) (.cmp .ne (.var 0) (.cst (.str []))) [some (.str s), none] S = some (.bl (decide (s ≠ [])), S) := by
    simp [evE, cmpT, cmpD, e2]
  have h5 : evE prg (cg n) (.isi .str (.var 0)) [some (.str s), none] S = some (.bl true, S) := by
    simp [evE, isiD, tyD]
  have h6 : evE prg (cg n) (.and (.isi .str (.var 0)) (.and (.cmp .ne (.var 0) (.cst (.str []))) (.blt .all (.cons (.comp (.cmp .isin (.var 1) (.cst (.str ABC))) (.nm 1) (.e (.var 0)) .non [1]) .nil)))) [some (.str s), none] S = some (.bl (decide (s ≠ []) && s.all fun c => decide (c ∈ ABC)), S) := by
    show bnd (evE prg (cg n) (.isi _ _) _ S) _ = _
    rw [h5]
    show bnd (bnd (evE prg (cg n) (.cmp _ _ _) _ S) _) _ = _
    rw [h4]
    by_cases q : s = []
    · simp [q, dBl]
    · simp only [bnd_some, dBl, decide_eq_true q, Bool.true_and, ne_eq]
      rw [h3]
      simp [q, dBl]
  show bnd3 (bnd3 (bnd (evE prg (cg n) _ [some (.str s), none] S) _) _) _ = _
  unfold ABC at h6
  rw [h6]
  rfl

/-! o -/
/-- a walk that goes through to its end -/
theorem forG_inv {step : D → Envr → Store → SR3} (Inv : Nat → Envr → Store → Prop) : ∀ (items : List D) (k : Nat) (ρ : Envr) (S : Store), Inv k ρ S →
    (∀ i d ρ S, items[i]? = some d → Inv (k + i) ρ S → ∃ ρ' S', step d ρ S = some (.nx, ρ', S') ∧ Inv (k + i + 1) ρ' S') → ∃ ρ' S', forG step items ρ S = some (.nx, ρ', S') ∧ Inv (k + items.length) ρ' S'
  | [], k, ρ, S, h0, _ => ⟨ρ, S, rfl, h0⟩
  | d :: l, k, ρ, S, h0, hs => by
    obtain ⟨ρ1, S1, e1, i1⟩ := hs 0 d ρ S rfl h0
    obtain ⟨ρ2, S2, e2, i2⟩ := forG_inv Inv l (k + 1) ρ1 S1 i1 fun i d ρ S hd hi => by
      have := hs (i + 1) d ρ S hd (by rw [show k + (i + 1) = k + 1 + i by omega]; exact hi)
      rw [show k + (i + 1) + 1 = k + 1 + i + 1 by omega] at this
      exact this
    refine ⟨ρ2, S2, ?_, by rw [List.length_cons, show k + (l.length + 1) = k + 1 + l.length by omega]; exact i2⟩
    unfold forG
    rw [e1]
    exact e2
theorem enumD_at : ∀ (l : List D) (k i : Nat), (enumD k l)[i]? = (l[i]?).map fun d => .tup [.int ((k + i : Nat) : Int), d]
  | [], _, i => by cases i <;> rfl
  | d :: l, k, 0 => rfl
  | d :: l, k, i + 1 => by
    show (enumD (k + 1) l)[i]? = _
    rw [enumD_at l (k + 1) i, show k + 1 + i = k + (i + 1) by omega] <;> rfl
theorem enumD_ln : ∀ (l : List D) (k : Nat), (enumD k l).length = l.length
  | [], _ => rfl
  | d :: l, k => by
    show (enumD (k + 1) l).length + 1 = _
    rw [enumD_ln l (k + 1)] <;> rfl
section
variable {G : Prg} {cl : Call} {fu : Nat}
theorem xs_nx {s : Sm} {r : Ss} {ρ ρ1 : Envr} {S S1 : Store} (h : exS G cl fu s ρ S = some (.nx, ρ1, S1)) : exSs G cl fu (.cons s r) ρ S = exSs G cl fu r ρ1 S1 := by
  show bnd3 (exS G cl fu s ρ S) _ = _
  rw [h] <;> rfl
theorem xs_ret {s : Sm} {r : Ss} {ρ ρ1 : Envr} {S S1 : Store} {d : D} (h : exS G cl fu s ρ S = some (.ret d, ρ1, S1)) : exSs G cl fu (.cons s r) ρ S = some (.ret d, ρ1, S1) := by
  show bnd3 (exS G cl fu s ρ S) _ = _
  rw [h] <;> rfl
theorem x_fr {t : Tg} {i : It} {b : Ss} {ρ : Envr} {S S1 : Store} {items : List D} {r : Fl × Envr × Store} (h : evI G cl i ρ S = some (items, S1)) (h2 : forG (fun d ρ S => (bindT t d ρ).bind fun ρ => exSs G cl fu b ρ S) items ρ S1 = some r) : exS G cl fu (.fr t i b) ρ S = some r := by
  show bnd (evI G cl i ρ S) _ = _
  rw [h]
  exact h2
theorem run_ret {fd : FnD} {ds : List D} {S S' : Store} {d : D} {ρ' : Envr} (h1 : ds.length = fd.np) (h2 : fd.nc = 0) (h3 : fd.lam = false) (h : exSs G cl fu fd.body (ds.map some ++ List.replicate (fd.n - fd.np) none) S = some (.ret d, ρ', S')) : runF G cl fu fd [] ds S = some (d, S') := by
  unfold runF
  rw [if_pos ⟨h1, h2.symm, fun z => by rw [h3] at z; cases z⟩, h2, List.append_nil, Nat.sub_zero, h]
  rfl
theorem run_nx {fd : FnD} {ds : List D} {S S' : Store} {ρ' : Envr} (h1 : ds.length = fd.np) (h2 : fd.nc = 0) (h3 : fd.lam = false) (h : exSs G cl fu fd.body (ds.map some ++ List.replicate (fd.n - fd.np) none) S = some (.nx, ρ', S')) : runF G cl fu fd [] ds S = some (.non, S') := by
  unfold runF
  rw [if_pos ⟨h1, h2.symm, fun z => by rw [h3] at z; cases z⟩, h2, List.append_nil, Nat.sub_zero, h]
  rfl
end
theorem is_kind_name_s (n : Nat) (s : List Nat) (S : Store) (h1 : 2 ≤ s.length) (h2 : s.length ≤ 8) (h3 : (s.all fun c => decide (c ∈ ABC)) = true) : cg (n + 2) 7 [] [.str s] S = some (.bl true, S) := by
  rw [cg_succ (n + 1) 7 _ _ _ rfl]
  have h := is_word_s n s S (Nat.le_trans h2 (by decide))
  have e : decide (s ≠ []) = true := decide_eq_true (by intro z; rw [z] at h1; simp at h1)
  rw [h3, e] at h
  have q1 : (2 : Int) ≤ s.length := by omega
  have q2 : (s.length : Int) ≤ 8 := by omega
  simp [runF, ir7, exSs, exS, evE, evL, bnd, bnd3, h, dBl, bltD, cmpT, cmpD, q1, q2]
theorem wrong_in_ok (n : Nat) (l : List D) (least most : Int) (f : Nat) (cs : List D) (S : Store) (h1 : least ≤ l.length) (h2 : (l.length : Int) ≤ most) (hp : ∀ i d, l[i]? = some d → cg n f cs [.tup (l.take i), d] S = some (.bl true, S)) :
    cg (n + 1) 4 [] [.tup l, .int least, .int most, .fn f cs] S = some (.lst [], S) := by
  rw [cg_succ n 4 _ _ _ rfl]
  let Inv : Nat → Envr → Store → Prop := fun i ρ S' => S' = S ∧ ∃ a b, ρ = [some (.tup l), some (.int least), some (.int most), some (.fn f cs), a, b]
  obtain ⟨ρ', S', e, i⟩ := forG_inv (step := fun d ρ S => (bindT (.tp (.cons (.nm 4) (.cons (.nm 5) .nil))) d ρ).bind fun ρ => exSs prg (cg n) fuA (.cons (.iff (.or (.cmp .eq (.var 4) (.var 2)) (.not (.callv 3 (.cons (.sl (.var 0) .non (.som (.var 4))) (.cons (.var 5) .nil))))) (.cons (.ret (.lst (.cons (.var 4) .nil))) .nil) .nil) .nil) ρ S) Inv (enumD 0 l) 0
    [some (.tup l), some (.int least), some (.int most), some (.fn f cs), none, none] S ⟨rfl, _, _, rfl⟩ (fun i d ρ S1 hd ⟨e1, a, b, e2⟩ => by
      subst e1
      subst e2
      rw [enumD_at] at hd
      cases q : l[i]? with
      | none => rw [q] at hd; cases hd
      | some x =>
        rw [q] at hd
        cases hd
        have il : i < l.length := (List.getElem?_eq_some_iff.mp q).1
        have ne : ((0 + i : Nat) : Int) ≠ most := by omega
        have ct : cut l none (some ((0 + i : Nat) : Int)) = l.take i := by
          unfold cut
          have e1 : sIx l.length 0 none = 0 := rfl
          have e2 : sIx l.length l.length (some ((0 + i : Nat) : Int)) = i := by
            show HT.sIx _ _ _ = _
            unfold HT.sIx
            simp
            split <;> omega
          rw [e1, e2] <;> rfl
        have c := hp i x q
        refine ⟨_, _, ?_, rfl, some (.int ((0 + i : Nat) : Int)), some x, rfl⟩
        simp [bindT, bindTs, exSs, exS, evE, evL, evO, bnd, bnd3, cmpT, cmpD, eqD, D.flat, D.dep, D.eqv, dBl, slD] at ne ct ⊢
        have nb : ((i : Int) == most) = false := beq_eq_false_iff_ne.mpr ne
        simp [nb, ct, c, dBl])
  obtain ⟨rfl, a, b, rfl⟩ := i
  have nl : ¬ ((l.length : Int) < least) := by omega
  refine run_ret (d := .lst []) (ρ' := [some (.tup l), some (.int least), some (.int most), some (.fn f cs), a, b]) rfl rfl rfl ((xs_nx (S1 := S') (ρ1 := [some (.tup l), some (.int least), some (.int most), some (.fn f cs), none, none]) ?_).trans ((xs_nx (x_fr (S1 := S') ?_ e)).trans (xs_ret ?_)))
  · simp [exS, exSs, evE, evL, bnd, bnd3, isiD, tyD, dBl, bltD, cmpT, cmpD, nl]
  · rfl
  · rfl

/-! q -/
theorem lam0_s (n : Nat) (f : Nat) (cs a : List D) (d : D) (S : Store) (h : cg n f cs [d] S = some (.bl true, S)) (h1 : noLams a = true) (h2 : noLam d = true) (h3 : noLamS S = true) : cg (n + 1) 44 [.fn f cs] [.tup a, d] S = some (.bl true, S) := by
  rw [cg_succ n 44 _ _ _ rfl]
  simp [runF, irl0, exSs, exS, evE, evL, bnd, bnd3, noLams, noLam, h1, h2, h3, h]
theorem noLams_take : ∀ (l : List D) (i : Nat), noLams l = true → noLams (l.take i) = true
  | [], i, _ => by simp [noLams]
  | d :: l, 0, _ => rfl
  | d :: l, i + 1, h => by
    have h : (noLam d && noLams l) = true := h
    simp only [Bool.and_eq_true] at h
    show (noLam d && noLams (l.take i)) = true
    rw [h.1, noLams_take l i h.2] <;> rfl
theorem noLams_get : ∀ (l : List D) (i : Nat) (d : D), noLams l = true → l[i]? = some d → noLam d = true
  | [], i, d, _, e => by cases i <;> cases e
  | x :: l, 0, d, h, e => by
    have h : (noLam x && noLams l) = true := h
    simp only [Bool.and_eq_true] at h
    cases e
    exact h.1
  | x :: l, i + 1, d, h, e => by
    have h : (noLam x && noLams l) = true := h
    simp only [Bool.and_eq_true] at h
    exact noLams_get l i d h.2 e
theorem are_all_ok (n : Nat) (l : List D) (least most : Int) (f : Nat) (cs : List D) (S : Store) (h1 : least ≤ l.length) (h2 : (l.length : Int) ≤ most) (hp : ∀ d ∈ l, cg n f cs [d] S = some (.bl true, S)) (hl : noLams l = true) (hS : noLamS S = true) :
    cg (n + 3) 5 [] [.tup l, .int least, .int most, .fn f cs] S = some (.bl true, S) := by
  rw [cg_succ (n + 2) 5 _ _ _ rfl]
  have h := wrong_in_ok (n + 1) l least most 44 [.fn f cs] S h1 h2 fun i d e => lam0_s n f cs _ d S (hp d (List.mem_of_getElem? e)) (noLams_take l i hl) (noLams_get l i d hl e) hS
  simp [runF, ir5, exSs, exS, evE, evL, bnd, bnd3, capsD, h, noLam, noLams, hS, cmpT, cmpD, eqD, D.flat, D.flats, D.dep, D.deps, D.eqv, D.eqvs]
def goodName (s : List Nat) : Prop := 2 ≤ s.length ∧ s.length ≤ 8 ∧ (s.all fun c => decide (c ∈ ABC)) = true
theorem lam1_s (n : Nat) (s : List Nat) (S : Store) (h : s ∈ letters ∨ goodName s) (hS : noLamS S = true) : cg (n + 3) 45 [] [.str s] S = some (.bl true, S) := by
  rw [cg_succ (n + 2) 45 _ _ _ rfl]
  have a := is_letter_s n s S
  by_cases q : s ∈ letters
  · rw [decide_eq_true q] at a
    simp [runF, irl1, exSs, exS, evE, evL, bnd, bnd3, noLams, noLam, hS, a, dBl]
  · rw [decide_eq_false q] at a
    obtain ⟨g1, g2, g3⟩ := h.resolve_left q
    have b := is_kind_name_s n s S g1 g2 g3
    simp [runF, irl1, exSs, exS, evE, evL, bnd, bnd3, noLams, noLam, hS, a, b, dBl]

/-! s -/
abbrev Rule := List Nat × List (List Nat)
def ruleD (r : Rule) : D := .tup [.str r.1, .tup (r.2.map .str)]
def goodRule (r : Rule) : Prop := goodName r.1 ∧ r.2.length ≤ 4 ∧ ∀ s ∈ r.2, s ∈ letters ∨ goodName s
theorem noLams_strs : ∀ l : List (List Nat), noLams (l.map .str) = true
  | [] => rfl
  | s :: l => by
    show (noLam (.str s) && noLams (l.map .str)) = true
    rw [noLams_strs l] <;> rfl
theorem is_rule_s (n : Nat) (r : Rule) (S : Store) (h : goodRule r) (hS : noLamS S = true) : cg (n + 7) 8 [] [ruleD r] S = some (.bl true, S) := by
  obtain ⟨k, b⟩ := r
  obtain ⟨g, hb, hs⟩ := h
  rw [cg_succ (n + 6) 8 _ _ _ rfl]
  have e1 := is_pair_s (n + 4) [.str k, .tup (b.map .str)] S
  have e2 := is_kind_name_s (n + 4) k S g.1 g.2.1 g.2.2
  have e3 := are_all_ok (n + 3) (b.map .str) 0 4 45 [] S (by simp) (by rw [List.length_map]; show ((b.length : Nat) : Int) ≤ 4; have : b.length ≤ 4 := hb; omega) (fun d hd => by
    obtain ⟨s, hs', rfl⟩ := List.mem_map.mp hd
    exact lam1_s n s S (hs s hs') hS) (noLams_strs b) hS
  have e1' : cg (n + 6) 3 [] [.tup [.str k, .tup (b.map .str)]] S = some (.bl true, S) := e1
  have e3' : cg (n + 6) 5 [] [.tup (b.map .str), .int 0, .int 4, .fn 45 []] S = some (.bl true, S) := e3
  have i0 : idxD S (.tup [.str k, .tup (b.map .str)]) (.int 0) = some (.str k) := rfl
  have i1 : idxD S (.tup [.str k, .tup (b.map .str)]) (.int 1) = some (.tup (b.map .str)) := rfl
  simp only [ruleD, runF, ir8, exSs, exS, evE, evL, bnd, bnd3, List.length_cons, List.length_nil, List.map_cons, List.map_nil, List.append_nil, List.cons_append, List.nil_append, List.getElem?_cons_zero, if_pos]
  simp [e1', e2, e3', i0, i1, dBl, capsD, noLam, hS]

/-! t -/
/-- the kinds named, in order, with what comes again -/
def namesOf (r : Rule) : List (List Nat) := (r.1 :: r.2).filter fun s => !decide (s ∈ letters)
def allNames (rs : List Rule) : List (List Nat) := rs.flatMap namesOf
/-- each once, in the order of the first -/
def once : List (List Nat) → List (List Nat) → List (List Nat)
  | acc, [] => acc
  | acc, s :: l => if s ∈ acc then once acc l else once (acc ++ [s]) l
def kindsOf (rs : List Rule) : List (List Nat) := once [] (allNames rs)
theorem kEq_str (s t : List Nat) : kEq (.str s) (.str t) = decide (s = t) := rfl
theorem dPut_true (s : List Nat) (acc : List (List Nat)) : dPut (.str s) (.bl true) (acc.map fun t => (D.str t, D.bl true)) = (if s ∈ acc then acc else acc ++ [s]).map fun t => (D.str t, D.bl true) := by
  unfold dPut
  have e : ((acc.map fun t => (D.str t, D.bl true)).any fun p => kEq (.str s) p.1) = decide (s ∈ acc) := by
    rw [List.any_map, Bool.eq_iff_iff]
    simp [kEq_str, Function.comp]
  rw [e]
  by_cases q : s ∈ acc
  · rw [if_pos (decide_eq_true q), if_pos q, List.map_map]
    refine List.map_congr_left fun t _ => ?_
    show (if kEq (.str s) (.str t) = true then (D.str t, D.bl true) else (D.str t, D.bl true)) = _
    split <;> rfl
  · rw [if_neg (by simp [q]), if_neg q, List.map_append]
    rfl
theorem once_len : ∀ (l acc : List (List Nat)), (once acc l).length ≤ acc.length + l.length
  | [], acc => Nat.le_refl _
  | s :: l, acc => by
    unfold once
    split
    · have := once_len l acc
      rw [List.length_cons]
      omega
    · have := once_len l (acc ++ [s])
      rw [List.length_append] at this
      simp only [List.length_cons, List.length_nil] at this ⊢
      omega
theorem dcomp_once {f : D → Store → Option (Option (D × D) × Store)} {S : Store} (hf : ∀ s, f (.str s) S = some (some (.str s, .bl true), S)) : ∀ (l acc : List (List Nat)), acc.length + l.length < LIM → dcompG f (l.map .str) (acc.map fun t => (D.str t, D.bl true)) S = some ((once acc l).map fun t => (D.str t, D.bl true), S)
  | [], acc, _ => rfl
  | s :: l, acc, h => by
    rw [List.length_cons] at h
    show bnd (f (.str s) S) _ = _
    rw [hf]
    simp only [bnd_some, isKey, Bool.true_and, List.length_map]
    rw [if_pos (decide_eq_true (by omega)), dPut_true]
    unfold once
    split
    · exact dcomp_once hf l acc (by omega)
    · exact dcomp_once hf l (acc ++ [s]) (by rw [List.length_append]; simp only [List.length_cons, List.length_nil]; omega)

/-! u -/
theorem e_comp_names (n : Nat) (r : Rule) (d x : D) (c : Option D) (S : Store) (hl : (r.1 :: r.2).length ≤ 1000) :
    evE prg (cg (n + 2)) (.comp (.var 4) (.nm 4) (.e (.tup (.cons (.var 2) (.star (.var 3) .nil)))) (.som (.not (.call 6 (.cons (.var 4) .nil)))) [4]) [some d, some x, some (.str r.1), some (.tup (r.2.map .str)), c] S = some (.lst ((namesOf r).map .str), S) := by
  have L : (r.1 :: r.2).length ≤ LIM := Nat.le_trans hl (by decide)
  refine e_comp (items := (r.1 :: r.2).map .str) (S1 := S) ?_ ?_ ?_
  · have : (r.2.length + 1) ≤ LIM := L
    simp [evI, evE, evL, starD, walkD, this]
  · rw [compG_pure (g := fun d => match d with | .str s => if s ∈ letters then none else some (.str s) | _ => none)]
    · congr 2
      unfold namesOf
      rw [List.filterMap_map]
      induction (r.1 :: r.2) with
      | nil => rfl
      | cons s l ih =>
        rw [List.filterMap_cons, List.filter_cons]
        by_cases q : s ∈ letters
        · simp only [Function.comp, if_pos q, decide_eq_true q, Bool.not_true]
          exact ih
        · simp only [Function.comp, if_neg q, decide_eq_false q, Bool.not_false, if_true, List.map_cons]
          rw [← ih]
    · intro d hd
      obtain ⟨s, _, rfl⟩ := List.mem_map.mp hd
      have a := is_letter_s n s S
      by_cases q : s ∈ letters
      · rw [decide_eq_true q] at a
        simp [bindT, wipeE, evC, evE, evL, a, dBl, q]
      · rw [decide_eq_false q] at a
        simp [bindT, wipeE, evC, evE, evL, a, dBl, q]
  · rw [List.length_map]
    exact Nat.le_trans (List.length_filter_le _ _) L

/-! v -/
theorem allNames_take {rs : List Rule} {i : Nat} {r : Rule} (h : rs[i]? = some r) : allNames (rs.take (i + 1)) = allNames (rs.take i) ++ namesOf r := by
  rw [List.take_add_one, h]
  unfold allNames
  rw [List.flatMap_append]
  simp
theorem kinds_of_s (n : Nat) (rs : List Rule) (d : D) (S : Store) (hw : walkD d = some (rs.map ruleD)) (hb : ∀ r ∈ rs, (r.1 :: r.2).length ≤ 1000) (hn : ∀ i, (allNames (rs.take i)).length < LIM) :
    cg (n + 3) 9 [] [d] S = some (.lst ((kindsOf rs).map .str), S) := by
  rw [cg_succ (n + 2) 9 _ _ _ rfl]
  let Inv : Nat → Envr → Store → Prop := fun i ρ S' => S' = S ∧ ∃ a b c, ρ = [some d, some (.lst ((allNames (rs.take i)).map .str)), a, b, c]
  obtain ⟨ρ', S', e, i⟩ := forG_inv (step := fun d ρ S => (bindT (.tp (.cons (.nm 2) (.cons (.nm 3) .nil))) d ρ).bind fun ρ => exSs prg (cg (n + 2)) fuA (.cons (.ext 1 (.comp (.var 4) (.nm 4) (.e (.tup (.cons (.var 2) (.star (.var 3) .nil)))) (.som (.not (.call 6 (.cons (.var 4) .nil)))) [4])) .nil) ρ S) Inv (rs.map ruleD) 0
    [some d, some (.lst []), none, none, none] S ⟨rfl, _, _, _, rfl⟩ (fun i x ρ S1 hd ⟨e1, a, b, c, e2⟩ => by
      subst e1
      subst e2
      rw [List.getElem?_map] at hd
      cases q : rs[i]? with
      | none => rw [q] at hd; cases hd
      | some r =>
        rw [q] at hd
        cases hd
        rw [Nat.zero_add]
        have l1 := hn (i + 1)
        rw [allNames_take q, List.length_append] at l1
        have cm := e_comp_names n r d (.lst ((allNames (rs.take i)).map .str)) c S1 (hb r (List.mem_of_getElem? q))
        refine ⟨[some d, some (.lst ((allNames (rs.take (i + 1))).map .str)), some (.str r.1), some (.tup (r.2.map .str)), c], S1, ?_, rfl, _, _, _, rfl⟩
        show bnd3 (bnd (evE prg (cg (n + 2)) (.comp _ _ _ _ _) [some d, some (.lst ((allNames (rs.take i)).map .str)), some (.str r.1), some (.tup (r.2.map .str)), c] S1) _) _ = _
        rw [cm]
        have l2 : (allNames (rs.take i)).length + (namesOf r).length ≤ LIM := by omega
        simp [bnd3, allNames_take q, l2, exSs])
  obtain ⟨rfl, a, b, c, rfl⟩ := i
  rw [Nat.zero_add, List.length_map, List.take_length] at e
  have hN : (allNames rs).length < LIM := by have := hn rs.length; rwa [List.take_length] at this
  have dc : evE prg (cg (n + 2)) (.dcomp (.var 4) (.cst (.bl true)) (.nm 4) (.e (.var 1)) .non [4]) [some d, some (.lst ((allNames rs).map .str)), a, b, c] S' = some (.dct ((kindsOf rs).map fun t => (D.str t, D.bl true)), S') := by
    have z := dcomp_once (f := fun d0 S => (bindT (.nm 4) d0 (wipeE [some d, some (.lst ((allNames rs).map .str)), a, b, c] [4])).bind fun ρ1 => bnd (evC prg (cg (n + 2)) .non ρ1 S) fun b S => if b then bnd (evE prg (cg (n + 2)) (.var 4) ρ1 S) fun y S => bnd (evE prg (cg (n + 2)) (.cst (.bl true)) ρ1 S) fun z S => some (some (y, z), S) else some (none, S)) (S := S') (fun s => rfl) (allNames rs) [] (by simpa using hN)
    have k := once_len (allNames rs) []
    unfold evE
    show bnd (some ((allNames rs).map D.str, S')) _ = _
    simp only [bnd_some]
    rw [show ([] : List (D × D)) = ([] : List (List Nat)).map fun t => (D.str t, D.bl true) from rfl, z]
    simp only [bnd_some, List.length_map]
    rw [if_pos (by simp only [List.length_nil] at k; omega)]
    rfl
  refine run_ret (d := .lst ((kindsOf rs).map .str)) (ρ' := [some d, some (.lst ((allNames rs).map .str)), a, b, c]) rfl rfl rfl ((xs_nx (S1 := S') (ρ1 := [some d, some (.lst []), none, none, none]) rfl).trans ((xs_nx (x_fr (S1 := S') (items := rs.map ruleD) ?_ e)).trans (xs_ret ?_)))
  · simp [evI, evE, hw]
  · show bnd (bnd (bnd (evE prg (cg (n + 2)) (.dcomp _ _ _ _ _ _) _ S') _) _) _ = _
    rw [dc]
    simp [evL, bltD, itemsD, List.map_map, Function.comp_def]

/-! w -/
theorem eqvs_strs : ∀ a b : List (List Nat), D.eqvs (a.map .str) (b.map .str) = decide (a = b)
  | [], [] => rfl
  | [], _ :: _ => rfl
  | _ :: _, [] => rfl
  | x :: a, y :: b => by
    show (decide (x = y) && D.eqvs (a.map .str) (b.map .str)) = _
    rw [eqvs_strs a b, Bool.eq_iff_iff]
    simp
theorem eqv_rule (a b : Rule) : D.eqv (ruleD a) (ruleD b) = decide (a = b) := by
  obtain ⟨x, l⟩ := a
  obtain ⟨y, m⟩ := b
  show (decide (x = y) && (D.eqvs (l.map .str) (m.map .str) && true)) = _
  rw [eqvs_strs, Bool.eq_iff_iff]
  simp
theorem flats_strs : ∀ a : List (List Nat), D.flats (a.map .str) = true
  | [] => rfl
  | x :: a => by
    show (true && D.flats (a.map .str)) = true
    rw [flats_strs a] <;> rfl
theorem flat_rule (r : Rule) : D.flat (ruleD r) = true := by
  show (true && (D.flats (r.2.map .str) && true)) = true
  rw [flats_strs] <;> rfl
theorem flats_rules : ∀ l : List Rule, D.flats (l.map ruleD) = true
  | [] => rfl
  | r :: l => by
    show (D.flat (ruleD r) && D.flats (l.map ruleD)) = true
    rw [flat_rule, flats_rules l] <;> rfl
theorem deps_strs : ∀ a : List (List Nat), D.deps (a.map .str) = 0
  | [] => rfl
  | x :: a => by
    show Nat.max 0 (D.deps (a.map .str)) = 0
    rw [deps_strs a] <;> rfl
theorem dep_rule (r : Rule) : D.dep (ruleD r) = 2 := by
  show Nat.max 0 (Nat.max (D.deps (r.2.map .str) + 1) 0) + 1 = 2
  rw [deps_strs] <;> rfl
theorem in_rules (r : Rule) (l : List Rule) : inD (ruleD r) (l.map ruleD) = some (decide (r ∈ l)) := by
  unfold inD
  rw [flat_rule, flats_rules, dep_rule]
  simp only [Bool.and_self, Bool.true_and]
  rw [if_pos (by decide)]
  congr 1
  rw [List.any_map, Bool.eq_iff_iff]
  simp [Function.comp, eqv_rule]

/-! x -/
theorem is_next_rule_s (n : Nat) (ahead : List Rule) (r : Rule) (S : Store) (h : goodRule r) (hS : noLamS S = true) (hr : r ∉ ahead) (hl : ahead.length < 1000) (hb : ∀ x ∈ ahead ++ [r], (x.1 :: x.2).length ≤ 1000) (hn : ∀ i, (allNames ((ahead ++ [r]).take i)).length < LIM) (hk : (kindsOf (ahead ++ [r])).length ≤ 8) :
    cg (n + 8) 10 [] [.tup (ahead.map ruleD), ruleD r] S = some (.bl true, S) := by
  rw [cg_succ (n + 7) 10 _ _ _ rfl]
  have e1 := is_rule_s n r S h hS
  have e2 : cmpT .notin (ruleD r) (.tup (ahead.map ruleD)) S = some true := by
    show (inD (ruleD r) (ahead.map ruleD)).map (!·) = _
    rw [in_rules, decide_eq_false hr] <;> rfl
  have e3 := kinds_of_s (n + 4) (ahead ++ [r]) (.lst (ahead.map ruleD ++ [ruleD r])) S (by rw [List.map_append] <;> rfl) hb hn
  have e3' : cg (n + 7) 9 [] [.lst (ahead.map ruleD ++ [ruleD r])] S = some (.lst ((kindsOf (ahead ++ [r])).map .str), S) := e3
  have l1 : ahead.length + 1 ≤ LIM := by unfold LIM; omega
  have l2 : ((kindsOf (ahead ++ [r])).length : Int) ≤ 8 := by omega
  have h1 : evE prg (cg (n + 7)) (.call 8 (.cons (.var 1) .nil)) [some (.tup (ahead.map ruleD)), some (ruleD r)] S = some (.bl true, S) := by
    simp [evE, evL, e1]
  have h2 : evE prg (cg (n + 7)) (.cmp .notin (.var 1) (.var 0)) [some (.tup (ahead.map ruleD)), some (ruleD r)] S = some (.bl true, S) := by
    simp [evE, e2]
  have h3 : evE prg (cg (n + 7)) (.cmp .le (.blt .len (.cons (.call 9 (.cons (.lst (.star (.var 0) (.cons (.var 1) .nil))) .nil)) .nil)) (.cst (.int 8))) [some (.tup (ahead.map ruleD)), some (ruleD r)] S = some (.bl true, S) := by
    simp [evE, evL, starD, l1, e3', bltD, cmpT, cmpD, l2]
  refine run_ret (d := .bl true) (ρ' := [some (.tup (ahead.map ruleD)), some (ruleD r)]) rfl rfl rfl (xs_ret ?_)
  show bnd (evE prg (cg (n + 7)) (.and _ (.and _ _)) [some (.tup (ahead.map ruleD)), some (ruleD r)] S) _ = _
  have h4 : evE prg (cg (n + 7)) (.and (.call 8 (.cons (.var 1) .nil)) (.and (.cmp .notin (.var 1) (.var 0)) (.cmp .le (.blt .len (.cons (.call 9 (.cons (.lst (.star (.var 0) (.cons (.var 1) .nil))) .nil)) .nil)) (.cst (.int 8))))) [some (.tup (ahead.map ruleD)), some (ruleD r)] S = some (.bl true, S) := by
    show bnd (evE prg (cg (n + 7)) (.call _ _) _ S) _ = _
    rw [h1]
    show bnd (bnd (evE prg (cg (n + 7)) (.cmp .notin _ _) _ S) _) _ = _
    rw [h2]
    simp only [bnd_some, dBl]
    rw [h3]
    rfl
  rw [h4]
  rfl

/-! y -/
/-- rules that a Grammar takes -/
structure GoodRules (rs : List Rule) : Prop where
  good : ∀ r ∈ rs, goodRule r
  pos : 1 ≤ rs.length
  most : rs.length ≤ 16
  nd : rs.Nodup
  kinds : ∀ i, (kindsOf (rs.take i)).length ≤ 8
  own : ∀ r ∈ rs, ∀ s ∈ r.2, s ∈ letters ∨ ∃ q ∈ rs, q.1 = s
theorem GoodRules.small {rs : List Rule} (g : GoodRules rs) : ∀ r ∈ rs, (r.1 :: r.2).length ≤ 5 := fun r hr => by
  have := (g.good r hr).2.1
  rw [List.length_cons]
  omega
theorem allNames_len : ∀ (rs : List Rule), (∀ r ∈ rs, (r.1 :: r.2).length ≤ 5) → (allNames rs).length ≤ 5 * rs.length
  | [], _ => Nat.le_refl _
  | r :: rs, h => by
    have a := allNames_len rs fun x hx => h x (List.mem_cons_of_mem _ hx)
    have b := h r List.mem_cons_self
    have c : (namesOf r).length ≤ (r.1 :: r.2).length := List.length_filter_le _ _
    show (namesOf r ++ allNames rs).length ≤ _
    rw [List.length_append, List.length_cons]
    omega
theorem first_s (n : Nat) (rs : List Rule) (S : Store) (g : GoodRules rs) (hS : noLamS S = true) : cg (n + 9) 4 [] [.tup (rs.map ruleD), .int 1, .int 16, .fn 10 []] S = some (.lst [], S) := by
  refine wrong_in_ok (n + 8) (rs.map ruleD) 1 16 10 [] S (by rw [List.length_map]; have := g.pos; omega) (by rw [List.length_map]; have := g.most; omega) fun i d e => ?_
  rw [List.getElem?_map] at e
  cases q : rs[i]? with
  | none => rw [q] at e; cases e
  | some r =>
    rw [q] at e
    cases e
    rw [← List.map_take]
    have il := (List.getElem?_eq_some_iff.mp q).1
    have tk : rs.take i ++ [r] = rs.take (i + 1) := by rw [List.take_add_one, q] <;> rfl
    refine is_next_rule_s n (rs.take i) r S (g.good r (List.mem_of_getElem? q)) hS (fun hr => ?_) (by rw [List.length_take]; have := g.most; omega) (fun x hx => ?_) (fun j => ?_) (by rw [tk]; exact g.kinds _)
    · obtain ⟨j, hj⟩ := List.getElem?_of_mem hr
      have jl : j < i := by
        have := (List.getElem?_eq_some_iff.mp hj).1
        rw [List.length_take] at this
        omega
      rw [List.getElem?_take_of_lt jl] at hj
      obtain ⟨a1, b1⟩ := List.getElem?_eq_some_iff.mp hj
      obtain ⟨a2, b2⟩ := List.getElem?_eq_some_iff.mp q
      exact List.pairwise_iff_getElem.mp g.nd j i a1 a2 jl (b1.trans b2.symm)
    · rw [tk] at hx
      exact Nat.le_trans (g.small x (List.mem_of_mem_take hx)) (by decide)
    · rw [tk, List.take_take]
      have := allNames_len (rs.take (min j (i + 1))) fun x hx => g.small x (List.mem_of_mem_take hx)
      have l : (rs.take (min j (i + 1))).length ≤ 16 := by rw [List.length_take]; have := g.most; omega
      unfold LIM
      omega

/-! aa -/
theorem in_strs (s : List Nat) (l : List (List Nat)) : inD (.str s) (l.map .str) = some (decide (s ∈ l)) := by
  have z : (D.flat (.str s) && D.flats (l.map .str) && decide ((D.str s).dep ≤ 60)) = true := by
    rw [flats_strs] <;> rfl
  unfold inD
  rw [if_pos z]
  congr 1
  rw [List.any_map, Bool.eq_iff_iff]
  simp [Function.comp, D.eqv]
theorem own_s (n : Nat) (rs : List Rule) (a b c d e f : Option D) (S : Store) (hl : rs.length ≤ 16) : evE prg (cg n) (.comp (.var 3) (.tp (.cons (.nm 3) (.cons (.nm 4) .nil))) (.e (.var 0)) .non [3, 4]) [some (.tup (rs.map ruleD)), a, b, c, d, e, f, none] S = some (.lst ((rs.map (·.1)).map .str), S) := by
  refine e_comp (items := rs.map ruleD) (S1 := S) (by simp [evI, evE, walkD]) ?_ (by simp [LIM]; omega)
  rw [compG_pure (g := fun d => match d with | .tup [.str s, _] => some (.str s) | _ => none)]
  · congr 2
    rw [List.filterMap_map, List.map_map, ← List.filterMap_eq_map]
    rfl
  · intro x hx
    obtain ⟨r, _, rfl⟩ := List.mem_map.mp hx
    rfl

/-! ab -/
/-- the names of a body that are no letter and no rule's: none -/
theorem lost_s (n : Nat) (body own : List (List Nat)) (a b d e f g : Option D) (S : Store) (hb : body.length ≤ 4) (h : ∀ s ∈ body, s ∈ letters ∨ s ∈ own) :
    evE prg (cg (n + 2)) (.comp (.var 7) (.nm 7) (.e (.var 6)) (.som (.and (.not (.call 6 (.cons (.var 7) .nil))) (.cmp .notin (.var 7) (.var 2)))) [7]) [a, b, some (.lst (own.map .str)), d, e, f, some (.tup (body.map .str)), g] S = some (.lst [], S) := by
  refine e_comp (items := body.map .str) (S1 := S) (by simp [evI, evE, walkD]) ?_ (by simp [LIM])
  rw [compG_pure (g := fun _ => none)]
  · rw [List.filterMap_eq_nil_iff.mpr fun _ _ => rfl]
  · intro x hx
    obtain ⟨s, hs, rfl⟩ := List.mem_map.mp hx
    have a := is_letter_s n s S
    have b : cmpT .notin (.str s) (.lst (own.map .str)) S = (some (!decide (s ∈ own))) ∨ True := .inr trivial
    by_cases q : s ∈ letters
    · rw [decide_eq_true q] at a
      simp [bindT, wipeE, evC, evE, evL, a, dBl]
    · have o := (h s hs).resolve_left q
      rw [decide_eq_false q] at a
      have c : cmpD .notin (.str s) (.lst (own.map .str)) = some false := by
        unfold cmpD
        split <;> first | (rename_i e1 e2; cases e2) | skip
        all_goals simp_all [in_strs]
      simp [bindT, wipeE, evC, evE, evL, a, dBl, cmpT, deref, c]

/-! ac -/
theorem wrong_in_rules_s (n : Nat) (rs : List Rule) (S : Store) (g : GoodRules rs) (hS : noLamS S = true) : cg (n + 10) 11 [] [.tup (rs.map ruleD)] S = some (.lst [], S) := by
  rw [cg_succ (n + 9) 11 _ _ _ rfl]
  have e1 := first_s n rs S g hS
  have e2 := own_s (n + 9) rs (some (.lst [])) none none none none none S g.most
  have nm : evE prg (cg (n + 9)) (.cmp .ne (.var 1) (.lst .nil)) [some (.tup (rs.map ruleD)), some (.lst []), none, none, none, none, none, none] S = some (.bl false, S) := by
    simp [evE, evL, cmpT, cmpD, eqD, D.flat, D.flats, D.dep, D.deps, D.eqv, D.eqvs]
  have e3 : evE prg (cg (n + 9)) (.comp (.var 5) (.tp (.cons (.nm 5) (.cons (.tp (.cons (.nm 4) (.cons (.nm 6) .nil))) .nil))) (.enum (.var 0)) (.som (.cmp .ne (.comp (.var 7) (.nm 7) (.e (.var 6)) (.som (.and (.not (.call 6 (.cons (.var 7) .nil))) (.cmp .notin (.var 7) (.var 2)))) [7]) (.lst .nil))) [5, 4, 6])
      [some (.tup (rs.map ruleD)), some (.lst []), some (.lst ((rs.map (·.1)).map .str)), none, none, none, none, none] S = some (.lst [], S) := by
    refine e_comp (items := enumD 0 (rs.map ruleD)) (S1 := S) (by simp [evI, evE, seqD]) ?_ (by simp [LIM])
    rw [compG_pure (g := fun _ => none)]
    · rw [List.filterMap_eq_nil_iff.mpr fun _ _ => rfl]
    · intro x hx
      obtain ⟨i, hi⟩ := List.getElem?_of_mem hx
      rw [enumD_at, List.getElem?_map] at hi
      cases q : rs[i]? with
      | none => rw [q] at hi; cases hi
      | some r =>
        rw [q] at hi
        cases hi
        have hr := List.mem_of_getElem? q
        have l := lost_s (n + 7) r.2 (rs.map (·.1)) (some (.tup (rs.map ruleD))) (some (.lst [])) none (some (.str r.1)) (some (.int ((0 + i : Nat) : Int))) none S (g.good r hr).2.1 fun s hs => (g.own r hr s hs).imp id fun ⟨z, hz, e⟩ => List.mem_map.mpr ⟨z, hz, e⟩
        show bnd (bnd (bnd (evE prg (cg (n + 9)) (.comp _ _ _ _ _) [some (.tup (rs.map ruleD)), some (.lst []), some (.lst ((rs.map (·.1)).map .str)), none, some (.str r.1), some (.int ((0 + i : Nat) : Int)), some (.tup (r.2.map .str)), none] S) _) _) _ = _
        rw [l]
        simp [evE, evL, cmpT, cmpD, eqD, D.flat, D.flats, D.dep, D.deps, D.eqv, D.eqvs, dBl]
  refine run_ret (d := .lst []) (ρ' := [some (.tup (rs.map ruleD)), some (.lst []), some (.lst ((rs.map (·.1)).map .str)), none, none, none, none, none]) rfl rfl rfl ((xs_nx (S1 := S) (ρ1 := [some (.tup (rs.map ruleD)), some (.lst []), none, none, none, none, none, none]) ?_).trans ((xs_nx (S1 := S) (ρ1 := [some (.tup (rs.map ruleD)), some (.lst []), none, none, none, none, none, none]) ?_).trans ((xs_nx (S1 := S) (ρ1 := [some (.tup (rs.map ruleD)), some (.lst []), some (.lst ((rs.map (·.1)).map .str)), none, none, none, none, none]) ?_).trans (xs_ret ?_))))
  · simp [exS, evE, evL, e1]
  · simp only [exS, nm, bnd_some, dBl]
    rfl
  · simp only [exS, e2, bnd_some]
    rfl
  · show bnd (bnd (evE prg (cg (n + 9)) (.comp _ _ _ _ _) _ S) _) _ = _
    rw [e3]
    rfl

/-! ad -/
/-- a grammar's fields; its dict stands behind it -/
def grFs (rs : List Rule) (k : Nat) : List (Nat × D) := [(0, .tup [.tup (rs.map ruleD), .tup ((kindsOf rs).map .str)]), (1, .obj k)]
theorem init_s (n : Nat) (rs : List Rule) (S : Store) (g : GoodRules rs) (hS : noLamS S = true) : cg (n + 11) 12 [] [.obj S.length, .tup (rs.map ruleD)] (S ++ [.ins 0 []]) = some (.non, (S ++ [.ins 0 (grFs rs (S.length + 1))]) ++ [.dct []]) := by
  rw [cg_succ (n + 10) 12 _ _ _ rfl]
  have hS' : noLamS (S ++ [.ins 0 []]) = true := by
    unfold noLamS at hS ⊢
    rw [List.all_append, hS] <;> rfl
  have e1 := wrong_in_rules_s n rs (S ++ [.ins 0 []]) g hS'
  have e2 := kinds_of_s (n + 7) rs (.tup (rs.map ruleD)) (S ++ [.ins 0 []]) rfl (fun r hr => Nat.le_trans (g.small r hr) (by decide)) (fun i => by
    have := allNames_len (rs.take i) fun x hx => g.small x (List.mem_of_mem_take hx)
    have l : (rs.take i).length ≤ 16 := by rw [List.length_take]; have := g.most; omega
    unfold LIM
    omega)
  have e2' : cg (n + 10) 9 [] [.tup (rs.map ruleD)] (S ++ [.ins 0 []]) = some (.lst ((kindsOf rs).map .str), S ++ [.ins 0 []]) := e2
  have c0 : ∀ fs, clsOf (S ++ [.ins 0 fs]) S.length = some (0, fs) := fun fs => by simp [clsOf]
  have c1 : ∀ fs, clsOf ((S ++ [.ins 0 fs]) ++ [.dct []]) S.length = some (0, fs) := fun fs => by simp [clsOf]
  have f0 : (0, 0) ∈ prg.fld := by decide
  have f1 : (0, 1) ∈ prg.fld := by decide
  have c2 : ∀ fs, clsOf (S ++ [.ins 0 fs, .dct []]) S.length = some (0, fs) := fun fs => by simp [clsOf]
  simp [runF, ir12, exSs, exS, evE, evL, evI, bnd, bnd3, e1, e2', walkD, forG, bltD, c0, c1, c2, f0, f1, fsPut, grFs, LIM]

/-! ae -/
/-- the object a is a grammar of these rules -/
def IsGr (S : Store) (a : Nat) (rs : List Rule) : Prop := ∃ k, S[a]? = some (.ins 0 (grFs rs k))
theorem IsGr.cls {S : Store} {a : Nat} {rs : List Rule} (h : IsGr S a rs) : ∃ k, clsOf S a = some (0, grFs rs k) := by
  obtain ⟨k, h⟩ := h
  exact ⟨k, by unfold clsOf; rw [h]⟩
def rulesD (rs : List Rule) : D := .tup (rs.map ruleD)
def kindsD (rs : List Rule) : D := .tup ((kindsOf rs).map .str)
theorem att0 {cl : Call} {S : Store} {a : Nat} {rs : List Rule} (h : IsGr S a rs) : attS prg cl 0 (.obj a) S = some (.tup [rulesD rs, kindsD rs], S) := by
  obtain ⟨k, h⟩ := h.cls
  unfold attS
  simp only [h]
  rfl
theorem rules_s (n : Nat) {S : Store} {a : Nat} {rs : List Rule} (h : IsGr S a rs) : cg (n + 1) 13 [] [.obj a] S = some (rulesD rs, S) := by
  rw [cg_succ n 13 _ _ _ rfl]
  have i0 : idxD S (.tup [rulesD rs, kindsD rs]) (.int 0) = some (rulesD rs) := rfl
  simp [runF, ir13, exSs, exS, evE, bnd, bnd3, att0 h, i0]
theorem kinds_s (n : Nat) {S : Store} {a : Nat} {rs : List Rule} (h : IsGr S a rs) : cg (n + 1) 14 [] [.obj a] S = some (kindsD rs, S) := by
  rw [cg_succ n 14 _ _ _ rfl]
  have i0 : idxD S (.tup [rulesD rs, kindsD rs]) (.int 1) = some (kindsD rs) := rfl
  simp [runF, ir14, exSs, exS, evE, bnd, bnd3, att0 h, i0]
theorem parts_s (n : Nat) {S : Store} {a : Nat} {rs : List Rule} (h : IsGr S a rs) : cg (n + 1) 15 [] [.obj a] S = some (.tup [rulesD rs], S) := by
  rw [cg_succ n 15 _ _ _ rfl]
  have i0 : slD (.tup [rulesD rs, kindsD rs]) none (some 1) = some (.tup [rulesD rs]) := rfl
  simp [runF, ir15, exSs, exS, evE, evO, bnd, bnd3, att0 h, i0]

/-! af -/
theorem dep_rules : ∀ rs : List Rule, D.deps (rs.map ruleD) ≤ 2
  | [] => Nat.zero_le _
  | r :: rs => by
    show Nat.max (D.dep (ruleD r)) (D.deps (rs.map ruleD)) ≤ 2
    rw [dep_rule]
    exact Nat.max_le.mpr ⟨Nat.le_refl _, dep_rules rs⟩
theorem eqvs_rules : ∀ a b : List Rule, D.eqvs (a.map ruleD) (b.map ruleD) = decide (a = b)
  | [], [] => rfl
  | [], _ :: _ => rfl
  | _ :: _, [] => rfl
  | x :: a, y :: b => by
    show (D.eqv (ruleD x) (ruleD y) && D.eqvs (a.map ruleD) (b.map ruleD)) = _
    rw [eqvs_rules a b, eqv_rule, Bool.eq_iff_iff]
    simp
theorem eq_rulesD (a b : List Rule) : eqD (rulesD a) (rulesD b) = some (decide (a = b)) := by
  have f1 : D.flat (rulesD a) = true := flats_rules a
  have f2 : D.flat (rulesD b) = true := flats_rules b
  have d1 : D.dep (rulesD a) ≤ 3 := Nat.succ_le_succ (dep_rules a)
  have l : Nat.min (D.dep (rulesD a)) (D.dep (rulesD b)) ≤ 60 := Nat.le_trans (Nat.min_le_left _ _) (by omega)
  unfold eqD
  rw [f1, f2, decide_eq_true l]
  exact congrArg some (eqvs_rules a b)
theorem eq_partsD (a b : List Rule) : eqD (.tup [rulesD a]) (.tup [rulesD b]) = some (decide (a = b)) := by
  have f1 : D.flat (.tup [rulesD a]) = true := by show (D.flats (a.map ruleD) && true) = true; rw [flats_rules] <;> rfl
  have f2 : D.flat (.tup [rulesD b]) = true := by show (D.flats (b.map ruleD) && true) = true; rw [flats_rules] <;> rfl
  have d1 : D.dep (.tup [rulesD a]) ≤ 4 := by
    show Nat.max (D.deps (a.map ruleD) + 1) 0 + 1 ≤ 4
    have := dep_rules a
    exact Nat.succ_le_succ (Nat.max_le.mpr ⟨by omega, Nat.zero_le _⟩)
  have l : Nat.min (D.dep (.tup [rulesD a])) (D.dep (.tup [rulesD b])) ≤ 60 := Nat.le_trans (Nat.min_le_left _ _) (by omega)
  unfold eqD
  rw [f1, f2, decide_eq_true l]
  show some (D.eqvs (a.map ruleD) (b.map ruleD) && true) = _
  rw [eqvs_rules, Bool.and_true]
theorem att2 (n : Nat) {S : Store} {a : Nat} {rs : List Rule} (h : IsGr S a rs) : attS prg (cg (n + 1)) 2 (.obj a) S = some (.tup [rulesD rs], S) := by
  obtain ⟨k, h'⟩ := h.cls
  unfold attS
  simp only [h']
  exact parts_s n h
theorem att3 (n : Nat) {S : Store} {a : Nat} {rs : List Rule} (h : IsGr S a rs) : attS prg (cg (n + 1)) 3 (.obj a) S = some (kindsD rs, S) := by
  obtain ⟨k, h'⟩ := h.cls
  unfold attS
  simp only [h']
  exact kinds_s n h
theorem att4 (n : Nat) {S : Store} {a : Nat} {rs : List Rule} (h : IsGr S a rs) : attS prg (cg (n + 1)) 4 (.obj a) S = some (rulesD rs, S) := by
  obtain ⟨k, h'⟩ := h.cls
  unfold attS
  simp only [h']
  exact rules_s n h
theorem eq_s (n : Nat) {S : Store} {a b : Nat} {rs qs : List Rule} (h : IsGr S a rs) (h' : IsGr S b qs) : cg (n + 2) 16 [] [.obj a, .obj b] S = some (.bl (decide (rs = qs)), S) := by
  rw [cg_succ (n + 1) 16 _ _ _ rfl]
  have i : isiD S (.cls 0) (.obj b) = some true := by
    obtain ⟨k, e⟩ := h'
    unfold isiD tyD
    simp [e]
  simp [runF, ir16, i, att2 n h, att2 n h', eq_partsD]
theorem eq_other (n : Nat) {S : Store} {a : Nat} {l : List D} : cg (n + 1) 16 [] [.obj a, .tup l] S = some (.bl false, S) := by
  rw [cg_succ n 16 _ _ _ rfl]
  simp [runF, ir16]
/-! ### draws -/
def Bowl (S : Store) (b : Nat) : Prop := ∃ x y z : Int, S[b]? = some (.lst [.int x, .int y, .int z])
def Fr (b : Nat) (S S' : Store) : Prop := Bowl S b ∧ ∃ x y z : Int, S' = S.set b (.lst [.int x, .int y, .int z])
theorem Bowl.lt {S : Store} {b : Nat} (h : Bowl S b) : b < S.length := by
  obtain ⟨x, y, z, h⟩ := h
  exact (List.getElem?_eq_some_iff.mp h).1
theorem Fr.bowl {S S' : Store} {b : Nat} (h : Fr b S S') : Bowl S' b := by
  obtain ⟨h, x, y, z, rfl⟩ := h
  exact ⟨x, y, z, List.getElem?_set_self h.lt⟩
theorem Fr.refl {S : Store} {b : Nat} (h : Bowl S b) : Fr b S S := by
  refine ⟨h, ?_⟩
  obtain ⟨x, y, z, h⟩ := h
  refine ⟨x, y, z, ?_⟩
  apply List.ext_getElem?
  intro i
  by_cases q : b = i
  · subst q
    rw [List.getElem?_set_self (List.getElem?_eq_some_iff.mp h).1, h]
  · rw [List.getElem?_set_ne q]
theorem Fr.trans {S S' S'' : Store} {b : Nat} (h : Fr b S S') (h' : Fr b S' S'') : Fr b S S'' := by
  obtain ⟨h, x, y, z, rfl⟩ := h
  obtain ⟨_, x, y, z, rfl⟩ := h'
  exact ⟨h, x, y, z, List.set_set ..⟩
theorem noLamS_get {S : Store} : noLamS S = true ↔ ∀ (i : Nat) (o : Ob), S[i]? = some o → noLamO o = true := by
  unfold noLamS
  rw [List.all_eq_true]
  constructor
  · intro h i o e
    exact h o (List.mem_of_getElem? e)
  · intro h o e
    obtain ⟨i, e⟩ := List.getElem?_of_mem e
    exact h i o e
theorem Fr.lam {S S' : Store} {b : Nat} (h : Fr b S S') (l : noLamS S = true) : noLamS S' = true := by
  obtain ⟨h, x, y, z, rfl⟩ := h
  rw [noLamS_get] at l ⊢
  intro i o e
  by_cases q : b = i
  · subst q
    rw [List.getElem?_set_self h.lt] at e
    cases e
    rfl
  · rw [List.getElem?_set_ne q] at e
    exact l i o e
theorem Fr.len {S S' : Store} {b : Nat} (h : Fr b S S') : S'.length = S.length := by
  obtain ⟨h, x, y, z, rfl⟩ := h
  exact List.length_set
theorem Fr.oth {S S' : Store} {b i : Nat} (h : Fr b S S') (q : b ≠ i) : S'[i]? = S[i]? := by
  obtain ⟨h, x, y, z, rfl⟩ := h
  exact List.getElem?_set_ne q

/-! ag -/
theorem draw_s (n b : Nat) (m : Int) (S : Store) (hb : Bowl S b) (h0 : 0 < m) (h1 : m < 1073741824) : ∃ r S', cg (n + 1) 32 [] [.obj b, .int m] S = some (.int r, S') ∧ 0 ≤ r ∧ r < m ∧ Fr b S S' := by
  have hb' := hb
  have lt := hb.lt
  obtain ⟨x, y, z, e⟩ := hb
  rw [cg_succ n 32 _ _ _ rfl]
  have i0 : ∀ (S : Store) x y z, S[b]? = some (.lst [.int x, .int y, .int z]) → idxD S (.obj b) (.int 0) = some (.int x) := fun S x y z e => by rw [v_ixo e]; rfl
  have i1 : ∀ (S : Store) x y z, S[b]? = some (.lst [.int x, .int y, .int z]) → idxD S (.obj b) (.int 1) = some (.int y) := fun S x y z e => by rw [v_ixo e]; rfl
  have i2 : ∀ (S : Store) x y z, S[b]? = some (.lst [.int x, .int y, .int z]) → idxD S (.obj b) (.int 2) = some (.int z) := fun S x y z e => by rw [v_ixo e]; rfl
  have s0 : ∀ (S : Store) x y z v, S[b]? = some (.lst [.int x, .int y, .int z]) → setObD (.obj b) (.int 0) v S = some (S.set b (.lst [v, .int y, .int z])) := fun S x y z v e => by rw [v_seto e]; rfl
  have s1 : ∀ (S : Store) x y z v, S[b]? = some (.lst [.int x, .int y, .int z]) → setObD (.obj b) (.int 1) v S = some (S.set b (.lst [.int x, v, .int z])) := fun S x y z v e => by rw [v_seto e]; rfl
  have s2 : ∀ (S : Store) x y z v, S[b]? = some (.lst [.int x, .int y, .int z]) → setObD (.obj b) (.int 2) v S = some (S.set b (.lst [.int x, .int y, v])) := fun S x y z v e => by rw [v_seto e]; rfl
  by_cases q : 0 < x
  · refine ⟨x % m, S.set b (.lst [.int (x / m), .int y, .int z]), ?_, Int.emod_nonneg _ (by omega), Int.emod_lt_of_pos _ h0, hb', _, _, _, rfl⟩
    have m1 : m.natAbs ≤ 1073741823 := by omega
    simp [runF, ir32, i0 S x y z e, q, h0, m1, s0 S x y z _ e]
  · let t : Int := (y * 39373 + 17011 * (z + 1)) % 2147483563
    let y' : Int := (t * (t % 4093 + 30011) + 7 * (z + 1)) % 2147483563
    refine ⟨y' / 733 % m, S.set b (.lst [.int x, .int y', .int (z + 1)]), ?_, Int.emod_nonneg _ (by omega), Int.emod_lt_of_pos _ h0, hb', _, _, _, rfl⟩
    have b1 : (t % 4093 + 30011).natAbs ≤ 18446744073709551615 := by omega
    have e1 : (S.set b (.lst [.int x, .int y, .int (z + 1)]))[b]? = some (.lst [.int x, .int y, .int (z + 1)]) := List.getElem?_set_self lt
    have e2 : (S.set b (.lst [.int x, .int y', .int (z + 1)]))[b]? = some (.lst [.int x, .int y', .int (z + 1)]) := List.getElem?_set_self lt
    have t0 : (y * 39373 + 17011 * (z + 1)) % 2147483563 = t := rfl
    have t1 : (t * (t % 4093 + 30011) + 7 * (z + 1)) % 2147483563 = y' := rfl
    simp [runF, ir32, i0 S x y z e, i2 S x y z e, q, h0, s2 S x y z _ e, i1 _ _ _ _ e1, i2 _ _ _ _ e1, t0, b1, s1 _ _ _ _ _ e1, t1, i1 _ _ _ _ e2]
theorem of_s (n b : Nat) (d : D) (l : List D) (S : Store) (hb : Bowl S b) (hd : d = .lst l ∨ d = .tup l) (h0 : l ≠ []) (h1 : l.length < 1073741824) : ∃ r S', cg (n + 2) 33 [] [.obj b, d] S = some (r, S') ∧ r ∈ l ∧ Fr b S S' := by
  have p : 0 < l.length := List.length_pos_iff.mpr h0
  obtain ⟨r, S', e, a1, a2, fr⟩ := draw_s n b l.length S hb (by omega) (by omega)
  have hr : r.toNat < l.length := by omega
  refine ⟨l[r.toNat], S', ?_, List.getElem_mem hr, fr⟩
  rw [cg_succ (n + 1) 33 _ _ _ rfl]
  have a : atD l r = some l[r.toNat] := by
    have := at_nat l r.toNat
    rw [Int.toNat_of_nonneg a1] at this
    rw [this]
    exact List.getElem?_eq_getElem hr
  rcases hd with rfl | rfl <;> simp [runF, ir33, e, a]
/-! ### the bowl -/
theorem cut_le {α : Type} (l : List α) (i : Option Int) (j : Option Int) : ∀ x ∈ cut l i j, x ∈ l := fun x h => List.mem_of_mem_drop (List.mem_of_mem_take h)
theorem bowl_s (n : Nat) (ns : List Int) (k : Int) (S : Store) (h0 : 0 ≤ k) : ∃ x y z : Int, cg (n + 1) 31 [] [.ro (ns.map .int), .int k] S = some (.obj S.length, S ++ [.lst [.int x, .int y, .int z]]) := by
  rw [cg_succ n 31 _ _ _ rfl]
  let Inv : Nat → Envr → Store → Prop := fun i ρ S' => S' = S ∧ ∃ (s : Int) (a : Option D), ρ = [some (.ro (ns.map .int)), some (.int k), some (.int s), a, none]
  obtain ⟨ρ', S', e, i⟩ := forG_inv (step := fun d ρ S => (bindT (.nm 3) d ρ).bind fun ρ => exSs prg (cg n) fuA (.cons (.set 2 (.bin .mod (.blt .int (.cons (.bin .add (.bin .add (.bin .mul (.var 2) (.cst (.int 48611))) (.bin .mul (.bin .mod (.blt .int (.cons (.var 3) .nil)) (.cst (.int 2147483053))) (.cst (.int 19)))) (.cst (.int 41))) .nil)) (.cst (.int 2147483563)))) .nil) ρ S) Inv (cut (ns.map D.int) none (some 9)) 0
    [some (.ro (ns.map .int)), some (.int k), some (.int (771041 + 8819 * k)), none, none] S ⟨rfl, _, _, rfl⟩ (fun i d ρ S1 hd ⟨e1, s, a, e2⟩ => by
      subst e1
      subst e2
      obtain ⟨c, _, rfl⟩ := List.mem_map.mp (cut_le _ _ _ d (List.mem_of_getElem? hd))
      refine ⟨[some (.ro (ns.map .int)), some (.int k), some (.int ((s * 48611 + c % 2147483053 * 19 + 41) % 2147483563)), some (.int c), none], S1, ?_, rfl, _, some (.int c), rfl⟩
      simp)
  obtain ⟨rfl, s, a, rfl⟩ := i
  have e0 : exS prg (cg n) fuA (.set 2 (.bin .add (.cst (.int 771041)) (.bin .mul (.cst (.int 8819)) (.var 1)))) [some (.ro (ns.map .int)), some (.int k), none, none, none] S' = some (.nx, [some (.ro (ns.map .int)), some (.int k), some (.int (771041 + 8819 * k)), none, none], S') := by
    simp
  have o : ∃ o : Int, evE prg (cg n) (.ite (.cmp .lt (.var 1) (.blt .len (.cons (.var 0) .nil))) (.blt .int (.cons (.idx (.var 0) (.var 1)) .nil)) (.cst (.int 0))) [some (.ro (ns.map .int)), some (.int k), some (.int s), a, none] S' = some (.int o, S') := by
    by_cases q : k < ns.length
    · have hk : k.toNat < ns.length := by omega
      have e : atD (ns.map D.int) k = some (.int ns[k.toNat]) := by
        have := at_nat (ns.map D.int) k.toNat
        rw [Int.toNat_of_nonneg h0] at this
        rw [this]
        simp [List.getElem?_eq_getElem hk]
      refine ⟨ns[k.toNat], ?_⟩
      simp [q, e]
    · exact ⟨0, by simp [q]⟩
  obtain ⟨o, eo⟩ := o
  refine ⟨if o < 0 ∨ 10 ^ 16 ≤ o then (if o < 0 then -o else o) else 0, (s * 53 + o % 2147483053 * 27011 + 11) % 2147483563, 0, ?_⟩
  refine run_ret (ρ' := [some (.ro (ns.map .int)), some (.int k), some (.int ((s * 53 + o % 2147483053 * 27011 + 11) % 2147483563)), a, some (.int o)]) rfl rfl rfl ((xs_nx e0).trans ((xs_nx (x_fr (S1 := S') (items := cut (ns.map D.int) none (some 9)) ?_ e)).trans ((xs_nx (S1 := S') (ρ1 := [some (.ro (ns.map .int)), some (.int k), some (.int s), a, some (.int o)]) ?_).trans ((xs_nx (S1 := S') (ρ1 := [some (.ro (ns.map .int)), some (.int k), some (.int ((s * 53 + o % 2147483053 * 27011 + 11) % 2147483563)), a, some (.int o)]) ?_).trans (xs_ret ?_)))))
  · simp
  · rw [x_set, eo]
    rfl
  · simp
  · by_cases q : o < 0
    · simp [q, LIM]
    · by_cases q2 : (10000000000000000 : Int) ≤ o
      · simp [q, q2, LIM]
      · simp [q, q2, LIM]
/-! ### the same -/
mutual
def D.pl : D → Bool
  | .tup l => decide (l.length ≤ 100000) && D.pls l
  | .non => true
  | .bl _ => true
  | .int _ => true
  | .str _ => true
  | _ => false
def D.pls : List D → Bool
  | [] => true
  | d :: ds => D.pl d && D.pls ds
end
theorem pls_mem : ∀ {l : List D} {d : D}, D.pls l = true → d ∈ l → D.pl d = true
  | x :: l, d, h, m => by
    have h : (D.pl x && D.pls l) = true := h
    rw [Bool.and_eq_true] at h
    rcases List.mem_cons.mp m with rfl | m
    · exact h.1
    · exact pls_mem h.2 m
theorem deps_mem : ∀ {l : List D} {d : D}, d ∈ l → D.dep d ≤ D.deps l
  | x :: l, d, m => by
    show _ ≤ Nat.max (D.dep x) (D.deps l)
    rcases List.mem_cons.mp m with rfl | m
    · exact Nat.le_max_left _ _
    · exact Nat.le_trans (deps_mem m) (Nat.le_max_right _ _)
theorem rngD_at : ∀ (m k : Nat) (a : Int), k < m → (rngD a m)[k]? = some (.int (a + k))
  | m + 1, 0, a, _ => by simp [rngD]
  | m + 1, k + 1, a, h => by
    show (rngD (a + 1) m)[k]? = _
    rw [rngD_at m k (a + 1) (by omega)]
    congr 2
    omega
theorem rngD_len : ∀ (m : Nat) (a : Int), (rngD a m).length = m
  | 0, _ => rfl
  | m + 1, a => by
    show (rngD (a + 1) m).length + 1 = _
    rw [rngD_len m]
theorem rngD_mem {m : Nat} {a : Int} {d : D} (h : d ∈ rngD a m) : ∃ k : Nat, k < m ∧ d = .int (a + k) := by
  obtain ⟨i, hi⟩ := List.getElem?_of_mem h
  have l := (List.getElem?_eq_some_iff.mp hi).1
  rw [rngD_len] at l
  rw [rngD_at m i a l] at hi
  cases hi
  exact ⟨i, l, rfl⟩
theorem compG_all {f : D → Store → Option (Option D × Store)} {S : Store} {l : List D} (h : ∀ d ∈ l, f d S = some (some (.bl true), S)) : compG f l S = some (l.map fun _ => D.bl true, S) := by
  rw [compG_pure (g := fun _ => some (D.bl true)) h]
  congr 2
  exact congrFun (List.filterMap_eq_map (f := fun _ => D.bl true)) l
theorem same_items (c : Call) (l : List D) (S : Store) (hl : l.length ≤ 100000) (h : ∀ d ∈ l, c 34 [] [d, d] S = some (.bl true, S)) :
    evE prg c (.comp (.call 34 (.cons (.idx (.var 0) (.var 2)) (.cons (.idx (.var 1) (.var 2)) .nil))) (.nm 2) (.rng1 (.blt .len (.cons (.var 1) .nil))) .non [2]) [some (.tup l), some (.tup l), none] S = some (.lst ((rngD 0 l.length).map fun _ => D.bl true), S) := by
  refine e_comp (items := rngD 0 l.length) (S1 := S) ?_ (compG_all fun d hd => ?_) (by rw [List.length_map, rngD_len]; unfold LIM; omega)
  · have z : ((l.length : Int) < 2 ^ 62 ∧ -(2 ^ 62) ≤ (l.length : Int)) := ⟨by omega, by omega⟩
    have r := rng1_ok (m := l.length) (by omega)
    rw [Int.toNat_natCast] at r
    simp only [ei_rng1', e_blt, el_cons', el_nil', e_var, List.getElem?_cons_succ, List.getElem?_cons_zero, bnd_some, v_ltup, Option.map_some, r]
  · obtain ⟨j, hj, rfl⟩ := rngD_mem hd
    have e1 := h l[j] (List.getElem_mem hj)
    have e2 : atD l (0 + (j : Int)) = some l[j] := by
      rw [Int.zero_add, at_nat]
      exact List.getElem?_eq_getElem hj
    rw [Int.zero_add] at e2 ⊢
    simp [e2, e1]
theorem same_tup (m : Nat) (l : List D) (S : Store) (hl : l.length ≤ 100000) (h : ∀ d ∈ l, cg m 34 [] [d, d] S = some (.bl true, S)) : cg (m + 1) 34 [] [.tup l, .tup l] S = some (.bl true, S) := by
  rw [cg_succ _ 34 _ _ _ rfl]
  have z := same_items (cg m) l S hl h
  have a := allBl_map (fun _ : D => true) (rngD 0 l.length)
  rw [List.all_eq_true.mpr (fun _ _ => rfl)] at a
  have h1 : evE prg (cg m) (.isi .tuple (.var 1)) [some (.tup l), some (.tup l), none] S = some (.bl true, S) := by simp
  have h2 : evE prg (cg m) (.or (.not (.isi .tuple (.var 0))) (.cmp .ne (.blt .len (.cons (.var 0) .nil)) (.blt .len (.cons (.var 1) .nil)))) [some (.tup l), some (.tup l), none] S = some (.bl false, S) := by simp
  have h3 : evE prg (cg m) (.blt .all (.cons (.comp (.call 34 (.cons (.idx (.var 0) (.var 2)) (.cons (.idx (.var 1) (.var 2)) .nil))) (.nm 2) (.rng1 (.blt .len (.cons (.var 1) .nil))) .non [2]) .nil)) [some (.tup l), some (.tup l), none] S = some (.bl true, S) := by
    rw [e_blt, el_cons', z]
    simp only [bnd_some, el_nil', v_all, a, Option.map_some]
  refine run_ret (ρ' := [some (.tup l), some (.tup l), none]) rfl rfl rfl (xs_ret ?_)
  show exS prg (cg m) fuA (.iff (.isi .tuple (.var 1)) (.cons (.iff (.or (.not (.isi .tuple (.var 0))) (.cmp .ne (.blt .len (.cons (.var 0) .nil)) (.blt .len (.cons (.var 1) .nil)))) (.cons (.ret (.cst (.bl false))) .nil) .nil) (.cons (.ret (.blt .all (.cons (.comp (.call 34 (.cons (.idx (.var 0) (.var 2)) (.cons (.idx (.var 1) (.var 2)) .nil))) (.nm 2) (.rng1 (.blt .len (.cons (.var 1) .nil))) .non [2]) .nil))) .nil)) .nil) [some (.tup l), some (.tup l), none] S = _
  rw [x_iff, h1]
  simp only [bnd_some, v_dBl]
  refine (xs_nx (S1 := S) (ρ1 := [some (.tup l), some (.tup l), none]) ?_).trans (xs_ret ?_)
  · rw [x_iff, h2]
    simp only [bnd_some, v_dBl, xss_nil]
  · rw [x_ret, h3]
    rfl
theorem same_leaf (m : Nat) (d : D) (S : Store) (hp : D.pl d = true) (hd : D.dep d ≤ 0) : cg (m + 1) 34 [] [d, d] S = some (.bl true, S) := by
  rw [cg_succ _ 34 _ _ _ rfl]
  cases d with
  | tup l => exact absurd hd (by show ¬ D.deps l + 1 ≤ 0; omega)
  | non => simp [runF, ir34, e_isn]
  | bl b => simp [runF, ir34, e_isn]
  | int b => simp [runF, ir34, e_isn]
  | str b => simp [runF, ir34, e_isn]
  | lst l => cases hp
  | ro l => cases hp
  | dct l => cases hp
  | obj l => cases hp
  | fn l => cases hp
theorem same_refl (S : Store) : ∀ (k n : Nat) (d : D), D.pl d = true → D.dep d ≤ k → cg (n + k + 1) 34 [] [d, d] S = some (.bl true, S)
  | 0, n, d, hp, hd => same_leaf n d S hp hd
  | k + 1, n, d, hp, hd => by
    by_cases q : D.dep d ≤ 0
    · exact same_leaf _ d S hp q
    · cases d with
      | tup l =>
        have hp : (decide (l.length ≤ 100000) && D.pls l) = true := hp
        rw [Bool.and_eq_true] at hp
        have hd : D.deps l + 1 ≤ k + 1 := hd
        exact same_tup _ l S (of_decide_eq_true hp.1) fun d hm => same_refl S k n d (pls_mem hp.2 hm) (Nat.le_trans (deps_mem hm) (by omega))
      | non => exact absurd (Nat.le_refl _) q
      | bl b => exact absurd (Nat.le_refl _) q
      | int b => exact absurd (Nat.le_refl _) q
      | str b => exact absurd (Nat.le_refl _) q
      | lst l => cases hp
      | ro l => cases hp
      | dct l => cases hp
      | obj l => cases hp
      | fn l => cases hp

/-! ah -/
/-- draws in a comprehension -/
theorem compG_fr {f : D → Store → Option (Option D × Store)} {b : Nat} {P : D → Prop} : ∀ (items : List D) (S : Store), Bowl S b → (∀ d ∈ items, ∀ S, Bowl S b → ∃ r S', f d S = some (some r, S') ∧ P r ∧ Fr b S S') →
    ∃ l S', compG f items S = some (l, S') ∧ l.length = items.length ∧ (∀ x ∈ l, P x) ∧ Fr b S S'
  | [], S, hb, _ => ⟨[], S, rfl, rfl, nofun, Fr.refl hb⟩
  | d :: items, S, hb, h => by
    obtain ⟨r, S1, e1, p1, f1⟩ := h d List.mem_cons_self S hb
    obtain ⟨l, S2, e2, l2, p2, f2⟩ := compG_fr items S1 f1.bowl fun x hx => h x (List.mem_cons_of_mem _ hx)
    refine ⟨r :: l, S2, ?_, by rw [List.length_cons, List.length_cons, l2], fun x hx => ?_, f1.trans f2⟩
    · unfold compG
      rw [e1]
      simp only [bnd_some, e2]
    · rcases List.mem_cons.mp hx with rfl | hx
      · exact p1
      · exact p2 x hx
abbrev strABC : D := .str [97, 98, 99, 100, 101, 102, 103, 104, 105, 106, 107, 108, 109, 110, 111, 112, 113, 114, 115, 116, 117, 118, 119, 120, 121, 122]
def cands (s : List Nat) : List (List Nat) := s :: ABC.map fun c => s.take 7 ++ [c]
def taken : List (List Nat) := [[116, 101, 120, 116], [99, 111, 115, 116, 115]]
def frees (s : List Nat) (found : List (List Nat)) : List (List Nat) := (cands s).filter fun x => !decide (x ∈ found ++ taken)
/-- some candidate is free -/
theorem frees_ne (s : List Nat) (found : List (List Nat)) (h : found.length ≤ 20) : frees s found ≠ [] := by
  intro e
  have a : ∀ x ∈ ABC.map (fun c => s.take 7 ++ [c]), x ∈ found ++ taken := fun x hx => by
    by_cases q : x ∈ found ++ taken
    · exact q
    · have : x ∈ frees s found := List.mem_filter.mpr ⟨List.mem_cons_of_mem _ hx, by rw [decide_eq_false q] <;> rfl⟩
      rw [e] at this
      cases this
  have nd : (ABC.map (fun c => s.take 7 ++ [c])).Nodup := by
    refine List.Pairwise.map _ (R := fun a b => a ≠ b) (fun a b ne e => ne ?_) (by decide)
    have := List.append_cancel_left e
    exact (List.cons.inj this).1
  have := List.Nodup.length_le_of_subset nd a
  rw [List.length_map, List.length_append] at this
  have e1 : ABC.length = 26 := rfl
  have e2 : taken.length = 2 := rfl
  omega
theorem all_ABC {s : List Nat} : (s.all fun c => decide (c ∈ ABC)) = true ↔ ∀ c ∈ s, c ∈ ABC := by
  simp
theorem cands_good {s : List Nat} (h : goodName s) : ∀ x ∈ cands s, goodName x := fun x hx => by
  obtain ⟨h1, h2, h3⟩ := h
  rcases List.mem_cons.mp hx with rfl | hx
  · exact ⟨h1, h2, h3⟩
  · obtain ⟨c, hc, rfl⟩ := List.mem_map.mp hx
    refine ⟨?_, ?_, all_ABC.mpr fun d hd => ?_⟩
    · rw [List.length_append, List.length_take]
      simp only [List.length_cons, List.length_nil]
      omega
    · rw [List.length_append, List.length_take]
      simp only [List.length_cons, List.length_nil]
      omega
    · rcases List.mem_append.mp hd with hd | hd
      · exact all_ABC.mp h3 d (List.mem_of_mem_take hd)
      · cases hd with
        | head => exact hc
        | tail _ z => cases z
theorem letter_s (n b : Nat) (S : Store) (hb : Bowl S b) (s : List Nat) (hs : s.length < 100) (m f t a x6 x7 x8 : Option D) : ∃ c S', c ∈ ABC ∧ Fr b S S' ∧
    evE prg (cg (n + 1)) (.bin .add (.var 4) (.idx (.cst strABC) (.call 32 (.cons (.var 0) (.cons (.cst (.int 26)) .nil))))) [some (.obj b), m, f, t, some (.str s), a, x6, x7, x8] S = some (.str (s ++ [c]), S') := by
  obtain ⟨r, S', e, h0, h1, fr⟩ := draw_s n b 26 S hb (by decide) (by decide)
  have l : r.toNat < ABC.length := by show r.toNat < 26; omega
  refine ⟨ABC[r.toNat], S', List.getElem_mem l, fr, ?_⟩
  have a : atD ABC r = some ABC[r.toNat] := by
    unfold atD ixn
    rw [if_pos h0, if_pos (by show r < 26; omega)]
    exact List.getElem?_eq_getElem l
  have i : idxD S' strABC (.int r) = some (.str [ABC[r.toNat]]) := by
    show (atD ABC r).map _ = _
    rw [a]
    rfl
  have ln : s.length + 1 ≤ LIM := by unfold LIM; omega
  simp [e, i, ln]
theorem name_s (n b : Nat) (S : Store) (hb : Bowl S b) (m f t x4 a x6 x7 x8 : Option D) : ∃ s S' a', goodName s ∧ Fr b S S' ∧
    ∀ r, exSs prg (cg (n + 2)) fuA (.cons (.set 4 (.cst (.str []))) (.cons (.fr (.nm 5) (.rng1 (.bin .add (.cst (.int 2)) (.call 32 (.cons (.var 0) (.cons (.call 33 (.cons (.var 0) (.cons (.tup (.cons (.cst (.int 1)) (.cons (.cst (.int 2)) (.cons (.cst (.int 7)) .nil)))) .nil))) .nil))))) (.cons (.set 4 (.bin .add (.var 4) (.idx (.cst strABC) (.call 32 (.cons (.var 0) (.cons (.cst (.int 26)) .nil)))))) .nil)) r)) [some (.obj b), m, f, t, x4, a, x6, x7, x8] S = exSs prg (cg (n + 2)) fuA r [some (.obj b), m, f, t, some (.str s), a', x6, x7, x8] S' := by
  obtain ⟨r, S1, e1, m1, f1⟩ := of_s n b (.tup [.int 1, .int 2, .int 7]) [.int 1, .int 2, .int 7] S hb (.inr rfl) (by simp) (by decide)
  have hr : ∃ i : Int, r = .int i ∧ 1 ≤ i ∧ i ≤ 7 := by
    simp at m1
    rcases m1 with rfl | rfl | rfl
    · exact ⟨1, rfl, by decide, by decide⟩
    · exact ⟨2, rfl, by decide, by decide⟩
    · exact ⟨7, rfl, by decide, by decide⟩
  obtain ⟨i, rfl, i1, i2⟩ := hr
  obtain ⟨q, S2, e2, q1, q2, f2⟩ := draw_s (n + 1) b i S1 f1.bowl (by omega) (by omega)
  have it : evI prg (cg (n + 2)) (.rng1 (.bin .add (.cst (.int 2)) (.call 32 (.cons (.var 0) (.cons (.call 33 (.cons (.var 0) (.cons (.tup (.cons (.cst (.int 1)) (.cons (.cst (.int 2)) (.cons (.cst (.int 7)) .nil)))) .nil))) .nil))))) [some (.obj b), m, f, t, some (.str []), a, x6, x7, x8] S = some (rngD 0 (2 + q).toNat, S2) := by
    have e2 : cg (n + 2) 32 [] [.obj b, .int i] S1 = some (.int q, S2) := e2
    simp [LIM, e1, e2, rng1_ok (m := 2 + q) (by omega)]
  let Inv : Nat → Envr → Store → Prop := fun k ρ S' => Fr b S2 S' ∧ ∃ s a', s.length = k ∧ (∀ c ∈ s, c ∈ ABC) ∧ ρ = [some (.obj b), m, f, t, some (.str s), a', x6, x7, x8]
  obtain ⟨ρ', S3, e3, f3, s, a', l, hs, rfl⟩ := forG_inv (step := fun d ρ S => (bindT (.nm 5) d ρ).bind fun ρ => exSs prg (cg (n + 2)) fuA (.cons (.set 4 (.bin .add (.var 4) (.idx (.cst strABC) (.call 32 (.cons (.var 0) (.cons (.cst (.int 26)) .nil)))))) .nil) ρ S) Inv (rngD 0 (2 + q).toNat) 0
    [some (.obj b), m, f, t, some (.str []), a, x6, x7, x8] S2 ⟨Fr.refl f2.bowl, [], a, rfl, nofun, rfl⟩ (fun k d ρ S' hd ⟨fr, s, a', l, hs, e⟩ => by
      subst e
      have lk := (List.getElem?_eq_some_iff.mp hd).1
      rw [rngD_len] at lk
      obtain ⟨c, S4, hc, f4, e4⟩ := letter_s (n + 1) b S' fr.bowl s (by omega) m f t (some d) x6 x7 x8
      refine ⟨[some (.obj b), m, f, t, some (.str (s ++ [c])), some d, x6, x7, x8], S4, ?_, fr.trans f4, s ++ [c], some d, by rw [List.length_append, l] <;> rfl, fun x hx => ?_, rfl⟩
      · show bnd3 (bnd (evE prg (cg (n + 2)) _ [some (.obj b), m, f, t, some (.str s), some d, x6, x7, x8] S') _) _ = _
        rw [e4]
        rfl
      · rcases List.mem_append.mp hx with hx | hx
        · exact hs x hx
        · cases hx with
          | head => exact hc
          | tail _ z => cases z)
  refine ⟨s, S3, a', ⟨?_, ?_, all_ABC.mpr hs⟩, (f1.trans f2).trans f3, ?_⟩
  · rw [l, rngD_len]
    omega
  · rw [l, rngD_len]
    omega
  · intro r
    rw [xs_nx (S1 := S) (ρ1 := [some (.obj b), m, f, t, some (.str []), a, x6, x7, x8]) rfl, xs_nx (x_fr it e3)]

/-! ai -/
def eCands : MT.E := (.bin .add (.lst (.cons (.var 4) .nil)) (.comp (.bin .add (.sl (.var 4) .non (.som (.cst (.int 7)))) (.var 7)) (.nm 7) (.e (.cst strABC)) .non [7]))
theorem cands_s (n : Nat) (S : Store) (s : List Nat) (hs : s.length ≤ 8) (x0 x1 x2 x3 x5 x6 x7 x8 : Option D) :
    evE prg (cg n) eCands [x0, x1, x2, x3, some (.str s), x5, x6, x7, x8] S = some (.lst ((cands s).map .str), S) := by
  have c : evE prg (cg n) (.comp (.bin .add (.sl (.var 4) .non (.som (.cst (.int 7)))) (.var 7)) (.nm 7) (.e (.cst strABC)) .non [7]) [x0, x1, x2, x3, some (.str s), x5, x6, x7, x8] S = some (.lst (ABC.map fun c => .str (s.take 7 ++ [c])), S) := by
    refine e_comp (items := ABC.map fun c => .str [c]) (S1 := S) rfl ?_ (by rw [List.length_map]; decide)
    rw [compG_pure (g := fun d => match d with | .str [c] => some (.str (s.take 7 ++ [c])) | _ => none)]
    · rw [List.filterMap_map, ← List.filterMap_eq_map] <;> rfl
    · intro d hd
      obtain ⟨c, _, rfl⟩ := List.mem_map.mp hd
      have sl : cut s none (some 7) = s.take 7 := cut_take s 7
      have l : min 7 s.length + 1 ≤ LIM := by unfold LIM; omega
      simp [sl, l]
  have h : evE prg (cg n) (.lst (.cons (.var 4) .nil)) [x0, x1, x2, x3, some (.str s), x5, x6, x7, x8] S = some (.lst [.str s], S) := by simp [LIM]
  unfold eCands
  rw [e_bin, h, bnd_some, c, bnd_some, v_addl, if_pos (by show 1 + _ ≤ _; rw [List.length_map]; decide)]
  rw [Option.map_some, cands, List.map_cons, List.map_map]
  rfl
theorem in_found (S : Store) (x : List Nat) (found : List (List Nat)) : cmpT .notin (.str x) (.lst (found.map .str)) S = some (!decide (x ∈ found)) := by
  show cmpD .notin (.str x) (.lst (found.map .str)) = _
  have e := in_strs x found
  unfold cmpD
  split <;> first | (rename_i e1 e2; cases e2) | skip
  all_goals simp_all
theorem filter_strs (l : List (List Nat)) (p : List Nat → Bool) (g : D → Option D) (hg : ∀ s, g (.str s) = if p s then some (.str s) else none) : (l.map D.str).filterMap g = (l.filter p).map .str := by
  induction l with
  | nil => rfl
  | cons x l ih =>
    rw [List.map_cons, List.filterMap_cons, List.filter_cons, hg]
    cases p x
    · exact ih
    · exact congrArg _ ih
theorem frees_s (n : Nat) (S : Store) (s : List Nat) (found : List (List Nat)) (hs : s.length ≤ 8) (hf : found.length ≤ 20) (x0 x1 x3 x5 x6 x7 x8 : Option D) :
    evE prg (cg n) (.comp (.var 8) (.nm 8) (.e eCands) (.som (.cmp .notin (.var 8) (.bin .add (.var 2) (.lst (.cons (.cst (.str [116, 101, 120, 116])) (.cons (.cst (.str [99, 111, 115, 116, 115])) .nil)))))) [8]) [x0, x1, some (.lst (found.map .str)), x3, some (.str s), x5, x6, x7, x8] S = some (.lst ((frees s found).map .str), S) := by
  refine e_comp (items := (cands s).map .str) (S1 := S) ?_ ?_ ?_
  · simp [cands_s n S s hs]
  · rw [compG_pure (g := fun d => match d with | .str x => if (!decide (x ∈ found ++ taken)) = true then some (.str x) else none | _ => none)]
    · congr 2
      exact filter_strs _ (fun x => !decide (x ∈ found ++ taken)) _ fun s => rfl
    · intro d hd
      obtain ⟨x, _, rfl⟩ := List.mem_map.mp hd
      have e := in_found S x (found ++ taken)
      have l : found.length + 2 ≤ LIM := by unfold LIM; omega
      have u : 2 ≤ LIM := by decide
      have e' : cmpT .notin (.str x) (.lst (found.map D.str ++ [.str [116, 101, 120, 116], .str [99, 111, 115, 116, 115]])) S = some (!decide (x ∈ found ++ taken)) := by
        rw [← e, List.map_append]
        rfl
      by_cases q : x ∈ found ++ taken
      · rw [decide_eq_true q] at e'
        simp only [if_neg, decide_eq_true q]
        simp [u, l, e']
      · rw [decide_eq_false q] at e'
        simp only [if_pos, decide_eq_false q]
        simp [u, l, e']
  · rw [List.length_map]
    refine Nat.le_trans (List.length_filter_le _ _) ?_
    unfold cands
    rw [List.length_cons, List.length_map]
    decide
theorem names_s (n b : Nat) (S : Store) (hb : Bowl S b) (m : Int) (h0 : 0 ≤ m) (h1 : m ≤ 16) : ∃ (l : List (List Nat)) (S' : Store), cg (n + 3) 35 [] [.obj b, .int m] S = some (.lst (l.map .str), S') ∧ (l.length : Int) = m ∧ l.Nodup ∧ (∀ s ∈ l, goodName s) ∧ (∀ s ∈ l, s ∉ taken) ∧ Fr b S S' := by
  rw [cg_succ (n + 2) 35 _ _ _ rfl]
  let Inv : Nat → Envr → Store → Prop := fun k ρ S' => Fr b S S' ∧ ∃ (l : List (List Nat)) (x3 x4 x5 x6 x7 x8 : Option D), l.length = k ∧ l.Nodup ∧ (∀ s ∈ l, goodName s) ∧ (∀ s ∈ l, s ∉ taken) ∧ ρ = [some (.obj b), some (.int m), some (.lst (l.map D.str)), x3, x4, x5, x6, x7, x8]
  obtain ⟨ρ', S3, e3, f3, l, x3, x4, x5, x6, x7, x8, ll, nd, gd, tk, rfl⟩ := forG_inv (step := fun d ρ S => (bindT (.nm 3) d ρ).bind fun ρ => exSs prg (cg (n + 2)) fuA (.cons (.set 4 (.cst (.str []))) (.cons (.fr (.nm 5) (.rng1 (.bin .add (.cst (.int 2)) (.call 32 (.cons (.var 0) (.cons (.call 33 (.cons (.var 0) (.cons (.tup (.cons (.cst (.int 1)) (.cons (.cst (.int 2)) (.cons (.cst (.int 7)) .nil)))) .nil))) .nil))))) (.cons (.set 4 (.bin .add (.var 4) (.idx (.cst strABC) (.call 32 (.cons (.var 0) (.cons (.cst (.int 26)) .nil)))))) .nil)) (.cons (.set 6 (.comp (.var 8) (.nm 8) (.e eCands) (.som (.cmp .notin (.var 8) (.bin .add (.var 2) (.lst (.cons (.cst (.str [116, 101, 120, 116])) (.cons (.cst (.str [99, 111, 115, 116, 115])) .nil)))))) [8])) (.cons (.app 2 (.idx (.var 6) (.cst (.int 0)))) .nil)))) ρ S) Inv (rngD 0 m.toNat) 0
    [some (.obj b), some (.int m), some (.lst []), none, none, none, none, none, none] S ⟨Fr.refl hb, [], _, _, _, _, _, _, rfl, List.nodup_nil, nofun, nofun, rfl⟩ (fun k d ρ S' hd ⟨fr, l, x3, x4, x5, x6, x7, x8, ll, nd, gd, tk, e⟩ => by
      subst e
      have lk := (List.getElem?_eq_some_iff.mp hd).1
      rw [rngD_len] at lk
      obtain ⟨s, S4, a', gs, f4, e4⟩ := name_s n b S' fr.bowl (some (.int m)) (some (.lst (l.map D.str))) (some d) x4 x5 x6 x7 x8
      obtain ⟨x, r, ex⟩ := List.exists_cons_of_ne_nil (frees_ne s l (by omega))
      have xm : x ∈ frees s l := by rw [ex]; exact List.mem_cons_self
      obtain ⟨xc, xn⟩ := List.mem_filter.mp xm
      have xn : x ∉ l ++ taken := by simpa using xn
      rw [List.mem_append] at xn
      have xg := cands_good gs x xc
      have ff := frees_s (n + 2) S4 s l gs.2.1 (by omega) (some (.obj b)) (some (.int m)) (some d) a' x6 x7 x8
      have lm : l.length < LIM := by unfold LIM; omega
      refine ⟨[some (.obj b), some (.int m), some (.lst ((l ++ [x]).map D.str)), some d, some (.str s), a', some (.lst ((frees s l).map .str)), x7, x8], S4, ?_, fr.trans f4, l ++ [x], _, _, _, _, _, _, by rw [List.length_append, ll] <;> rfl, ?_, ?_, ?_, rfl⟩
      · show exSs prg (cg (n + 2)) fuA _ [some (.obj b), some (.int m), some (.lst (l.map D.str)), some d, x4, x5, x6, x7, x8] S' = _
        rw [e4]
        rw [xs_nx (S1 := S4) (ρ1 := [some (.obj b), some (.int m), some (.lst (l.map D.str)), some d, some (.str s), a', some (.lst ((frees s l).map .str)), x7, x8]) (by rw [x_set, ff] <;> rfl)]
        rw [ex]
        simp [lm]
      · rw [List.nodup_append]
        refine ⟨nd, by simp, fun a ha c hc => ?_⟩
        cases hc with
        | head => exact fun z => xn (.inl (z ▸ ha))
        | tail _ z => cases z
      · intro y hy
        rcases List.mem_append.mp hy with hy | hy
        · exact gd y hy
        · cases hy with
          | head => exact xg
          | tail _ z => cases z
      · intro y hy
        rcases List.mem_append.mp hy with hy | hy
        · exact tk y hy
        · cases hy with
          | head => exact fun z => xn (.inr z)
          | tail _ z => cases z)
  refine ⟨l, S3, ?_, by rw [ll, rngD_len]; omega, nd, gd, tk, f3⟩
  refine run_ret (ρ' := [some (.obj b), some (.int m), some (.lst (l.map D.str)), x3, x4, x5, x6, x7, x8]) rfl rfl rfl ((xs_nx (S1 := S) (ρ1 := [some (.obj b), some (.int m), some (.lst []), none, none, none, none, none, none]) rfl).trans ((xs_nx (x_fr (S1 := S) (items := rngD 0 m.toNat) ?_ e3)).trans (xs_ret rfl)))
  simp [rng1_ok (m := m) (by omega)]

/-! aj -/
theorem once_app : ∀ (a b acc : List (List Nat)), once acc (a ++ b) = once (once acc a) b
  | [], b, acc => rfl
  | s :: a, b, acc => by
    have e : ∀ l acc, once acc (s :: l) = if s ∈ acc then once acc l else once (acc ++ [s]) l := fun _ _ => rfl
    show once acc (s :: (a ++ b)) = once (once acc (s :: a)) b
    rw [e, e]
    split
    · exact once_app a b acc
    · exact once_app a b _
def noLetter (l : List (List Nat)) : List (List Nat) := l.filter fun s => !decide (s ∈ letters)
theorem letter_len : ∀ s ∈ letters, s.length = 1 := by decide
theorem kinds_law_s (n : Nat) (rs : List Rule) (S : Store) (h5 : ∀ r ∈ rs, (r.1 :: r.2).length ≤ 5) (hs : ∀ r ∈ rs, ∀ s ∈ r.1 :: r.2, s ∈ letters ∨ 2 ≤ s.length) (hl : rs.length ≤ 1000) :
    cg (n + 1) 36 [] [rulesD rs] S = some (kindsD rs, S) := by
  rw [cg_succ n 36 _ _ _ rfl]
  let Inv : Nat → Envr → Store → Prop := fun k ρ S' => S' = S ∧ ∃ x2 x3 x4, ρ = [some (rulesD rs), some (.lst ((kindsOf (rs.take k)).map .str)), x2, x3, x4]
  obtain ⟨ρ', S3, e3, rfl, x2, x3, x4, rfl⟩ := forG_inv (step := fun d ρ S => (bindT (.tp (.cons (.nm 2) (.cons (.nm 3) .nil))) d ρ).bind fun ρ => exSs prg (cg n) fuA (.cons (.fr (.nm 4) (.e (.bin .add (.tup (.cons (.var 2) .nil)) (.var 3))) (.cons (.set 1 (.bin .add (.var 1) (.ite (.and (.cmp .gt (.blt .len (.cons (.var 4) .nil)) (.cst (.int 1))) (.cmp .notin (.var 4) (.var 1))) (.lst (.cons (.var 4) .nil)) (.lst .nil)))) .nil)) .nil) ρ S) Inv (rs.map ruleD) 0
    [some (rulesD rs), some (.lst []), none, none, none] S ⟨rfl, _, _, _, rfl⟩ (fun i d ρ S' hd ⟨es, x2, x3, x4, e⟩ => by
      subst es
      subst e
      rw [List.getElem?_map] at hd
      cases q : rs[i]? with
      | none => rw [q] at hd; cases hd
      | some r =>
        rw [q] at hd
        cases hd
        rw [Nat.zero_add]
        have hr := List.mem_of_getElem? q
        have r5 := h5 r hr
        have rg := hs r hr
        have ir := (List.getElem?_eq_some_iff.mp q).1
        obtain ⟨k, bd⟩ := r
        have bl : 1 + bd.length ≤ LIM := by rw [List.length_cons] at r5; simp only at r5; unfold LIM; omega
        have kl : (kindsOf (rs.take i)).length ≤ 5000 := by
          have a := once_len (allNames (rs.take i)) []
          have b := allNames_len (rs.take i) fun x hx => h5 x (List.mem_of_mem_take hx)
          rw [List.length_take] at b
          show (once [] (allNames (rs.take i))).length ≤ _
          rw [List.length_nil] at a
          omega
        let Inv2 : Nat → Envr → Store → Prop := fun j ρ S2 => S2 = S' ∧ ∃ x4, ρ = [some (rulesD rs), some (.lst ((once (kindsOf (rs.take i)) (noLetter ((k :: bd).take j))).map .str)), some (.str k), some (.tup (bd.map .str)), x4]
        obtain ⟨ρ2, S4, e4, rfl, x4', rfl⟩ := forG_inv (step := fun d ρ S => (bindT (.nm 4) d ρ).bind fun ρ => exSs prg (cg n) fuA (.cons (.set 1 (.bin .add (.var 1) (.ite (.and (.cmp .gt (.blt .len (.cons (.var 4) .nil)) (.cst (.int 1))) (.cmp .notin (.var 4) (.var 1))) (.lst (.cons (.var 4) .nil)) (.lst .nil)))) .nil) ρ S) Inv2 ((k :: bd).map .str) 0
          [some (rulesD rs), some (.lst ((kindsOf (rs.take i)).map .str)), some (.str k), some (.tup (bd.map .str)), x4] S' ⟨rfl, _, rfl⟩ (fun j d ρ S2 hd ⟨es, x4, e⟩ => by
            subst es
            subst e
            rw [List.getElem?_map] at hd
            cases q2 : (k :: bd)[j]? with
            | none => rw [q2] at hd; cases hd
            | some s =>
              rw [q2] at hd
              cases hd
              rw [Nat.zero_add]
              have sg := rg s (List.mem_of_getElem? q2)
              have tk : (k :: bd).take (j + 1) = (k :: bd).take j ++ [s] := by rw [List.take_add_one, q2] <;> rfl
              have nl : noLetter ((k :: bd).take (j + 1)) = noLetter ((k :: bd).take j) ++ noLetter [s] := by rw [tk]; exact List.filter_append ..
              have ol : (once (kindsOf (rs.take i)) (noLetter ((k :: bd).take j))).length ≤ 5005 := by
                have a := once_len (noLetter ((k :: bd).take j)) (kindsOf (rs.take i))
                have b : (noLetter ((k :: bd).take j)).length ≤ ((k :: bd).take j).length := List.length_filter_le _ _
                rw [List.length_take] at b
                have r5' : (k :: bd).length ≤ 5 := r5
                omega
              generalize hO : once (kindsOf (rs.take i)) (noLetter ((k :: bd).take j)) = O at ol ⊢
              have ni := in_found S2 s O
              have l1 : O.length + 1 ≤ LIM := by unfold LIM; omega
              have l0 : O.length ≤ LIM := by unfold LIM; omega
              have u1 : 1 ≤ LIM := by decide
              refine ⟨[some (rulesD rs), some (.lst ((once O (noLetter [s])).map .str)), some (.str k), some (.tup (bd.map .str)), some (.str s)], S2, ?_, rfl, some (.str s), by rw [nl, once_app, hO]⟩
              by_cases c : s ∈ letters
              · have cl := letter_len s c
                have c1 : once O (noLetter [s]) = O := by
                  unfold noLetter
                  rw [List.filter_cons, decide_eq_true c]
                  rfl
                rw [c1]
                simp [cl, l0]
              · have cl := sg.resolve_left c
                have cl' : (1 : Int) < s.length := by omega
                by_cases c2 : s ∈ O
                · have c1 : once O (noLetter [s]) = O := by
                    unfold noLetter
                    rw [List.filter_cons, decide_eq_false c]
                    show once O [s] = O
                    unfold once
                    rw [if_pos c2]
                    rfl
                  rw [c1]
                  rw [decide_eq_true c2] at ni
                  simp [cl', ni, l0]
                · have c1 : once O (noLetter [s]) = O ++ [s] := by
                    unfold noLetter
                    rw [List.filter_cons, decide_eq_false c]
                    show once O [s] = O ++ [s]
                    unfold once
                    rw [if_neg c2]
                    rfl
                  rw [c1]
                  rw [decide_eq_false c2] at ni
                  simp [cl', ni, u1, l1])
        rw [Nat.zero_add, List.length_map, List.take_length] at e4
        have fin : once (kindsOf (rs.take i)) (noLetter (k :: bd)) = kindsOf (rs.take (i + 1)) := by
          unfold kindsOf
          rw [allNames_take q, once_app]
          rfl
        rw [fin] at e4
        refine ⟨[some (rulesD rs), some (.lst ((kindsOf (rs.take (i + 1))).map .str)), some (.str k), some (.tup (bd.map .str)), x4'], S4, ?_, rfl, _, _, _, rfl⟩
        show exSs prg (cg n) fuA (.cons (.fr _ _ _) .nil) [some (rulesD rs), some (.lst ((kindsOf (rs.take i)).map .str)), some (.str k), some (.tup (bd.map .str)), x4] S4 = _
        rw [xs_nx (x_fr (S1 := S4) (items := (k :: bd).map .str) ?_ e4)]
        · rfl
        · have u : (1 : Nat) ≤ LIM := by decide
          simp [bl, u])
  rw [Nat.zero_add, List.length_map, List.take_length] at e3
  exact run_ret (d := kindsD rs) (ρ' := [some (rulesD rs), some (.lst ((kindsOf rs).map .str)), x2, x3, x4]) rfl rfl rfl ((xs_nx (S1 := S3) (ρ1 := [some (rulesD rs), some (.lst []), none, none, none]) rfl).trans ((xs_nx (x_fr (S1 := S3) (items := rs.map ruleD) rfl e3)).trans (xs_ret rfl)))

/-! ak -/
theorem unstr {Q : List Nat → Prop} : ∀ {l : List D}, (∀ x ∈ l, ∃ s, x = .str s ∧ Q s) → ∃ hs : List (List Nat), l = hs.map .str ∧ ∀ s ∈ hs, Q s
  | [], _ => ⟨[], rfl, nofun⟩
  | x :: l, h => by
    obtain ⟨s, rfl, q⟩ := h x List.mem_cons_self
    obtain ⟨hs, rfl, q2⟩ := unstr fun y hy => h y (List.mem_cons_of_mem _ hy)
    refine ⟨s :: hs, rfl, fun y hy => ?_⟩
    rcases List.mem_cons.mp hy with rfl | hy
    · exact q
    · exact q2 y hy
/-- rules over some names and letters -/
structure Drawn (names : List (List Nat)) (lets : List Nat) (rs : List Rule) : Prop where
  head : ∀ r ∈ rs, r.1 ∈ names
  len : ∀ r ∈ rs, r.2.length ≤ 4
  body : ∀ r ∈ rs, ∀ s ∈ r.2, (∃ c ∈ lets, s = [c]) ∨ s ∈ names
  nd : rs.Nodup
/-- n draws of some things -/
theorem draws_s (c : Call) (b : Nat) (S : Store) (ρ : Envr) (x : MT.E) (i : It) (w : Nat) (m : Nat) (S1 : Store) (P : List Nat → Prop) (hm : m ≤ 1000) (hi : evI prg c i ρ S = some (rngD 0 m, S1)) (f1 : Fr b S S1)
    (hx : ∀ d S, Bowl S b → ∃ s S', evE prg c x (ρ.set w (some d)) S = some (.str s, S') ∧ P s ∧ Fr b S S') :
    ∃ (l : List (List Nat)) (S' : Store), evE prg c (.comp x (.nm w) i .non [w]) ρ S = some (.lst (l.map .str), S') ∧ l.length = m ∧ (∀ s ∈ l, P s) ∧ Fr b S S' := by
  obtain ⟨l, S2, e2, l2, p2, f2⟩ := compG_fr (P := fun x => ∃ s, x = .str s ∧ P s) (f := fun d S => (bindT (.nm w) d (wipeE ρ [w])).bind fun ρ1 => bnd (evC prg c .non ρ1 S) fun b S => if b then bnd (evE prg c x ρ1 S) fun y S => some (some y, S) else some (none, S)) (rngD 0 m) S1 f1.bowl fun d _ S hb => by
    obtain ⟨s, S', e, p, f⟩ := hx d S hb
    refine ⟨.str s, S', ?_, ⟨s, rfl, p⟩, f⟩
    simp [e]
  obtain ⟨hs, rfl, q⟩ := unstr p2
  rw [List.length_map, rngD_len] at l2
  exact ⟨hs, S2, e_comp hi e2 (by rw [List.length_map, l2]; unfold LIM; omega), l2, q, f1.trans f2⟩
theorem notin_rules (r : Rule) (l : List Rule) (S : Store) : cmpT .notin (.tup [.str r.1, .tup (r.2.map .str)]) (.lst (l.map ruleD)) S = some (!decide (r ∈ l)) := by
  show (inD (ruleD r) (l.map ruleD)).map (!·) = _
  rw [in_rules]
  rfl
abbrev eHeads : MT.E := (.comp (.call 33 (.cons (.var 0) (.cons (.var 4) .nil))) (.nm 9) (.rng1 (.call 32 (.cons (.var 0) (.cons (.bin .add (.var 2) (.cst (.int 1))) .nil)))) .non [9])
abbrev eBody : MT.E := (.comp (.call 33 (.cons (.var 0) (.cons (.bin .add (.blt .list (.cons (.var 3) .nil)) (.var 4)) .nil))) (.nm 9) (.rng1 (.call 33 (.cons (.var 0) (.cons (.tup (.cons (.cst (.int 0)) (.cons (.cst (.int 1)) (.cons (.cst (.int 1)) (.cons (.cst (.int 2)) (.cons (.cst (.int 2)) (.cons (.cst (.int 3)) (.cons (.cst (.int 4)) .nil)))))))) .nil)))) .non [9])
abbrev bdAny : Ss := (.cons (.set 8 (.blt .tuple (.cons eBody .nil))) (.cons (.set 6 (.bin .add (.var 6) (.ite (.cmp .notin (.tup (.cons (.var 7) (.cons (.var 8) .nil))) (.var 6)) (.lst (.cons (.tup (.cons (.var 7) (.cons (.var 8) .nil))) .nil)) (.lst .nil)))) .nil))
/-- one body drawn -/
theorem body_s (n b : Nat) (S : Store) (hb : Bowl S b) (names : List (List Nat)) (lets : List Nat) (hn : names.length ≤ 100) (hl : lets ≠ []) (hl2 : lets.length ≤ 100) (x1 x2 x5 x6 x7 x8 x9 : Option D) :
    ∃ (bd : List (List Nat)) (S' : Store), evE prg (cg (n + 3)) eBody [some (.obj b), x1, x2, some (.str lets), some (.lst (names.map .str)), x5, x6, x7, x8, x9] S = some (.lst (bd.map .str), S') ∧ bd.length ≤ 4 ∧ (∀ s ∈ bd, (∃ c ∈ lets, s = [c]) ∨ s ∈ names) ∧ Fr b S S' := by
  obtain ⟨z, S6, e6, m6, f6⟩ := of_s (n + 1) b (.tup [.int 0, .int 1, .int 1, .int 2, .int 2, .int 3, .int 4]) [.int 0, .int 1, .int 1, .int 2, .int 2, .int 3, .int 4] S hb (.inr rfl) (by simp) (by decide)
  have hz : ∃ i : Int, z = .int i ∧ 0 ≤ i ∧ i ≤ 4 := by
    simp at m6
    rcases m6 with rfl | rfl | rfl | rfl | rfl
    · exact ⟨0, rfl, by decide, by decide⟩
    · exact ⟨1, rfl, by decide, by decide⟩
    · exact ⟨2, rfl, by decide, by decide⟩
    · exact ⟨3, rfl, by decide, by decide⟩
    · exact ⟨4, rfl, by decide, by decide⟩
  obtain ⟨i, rfl, i0, i4⟩ := hz
  have ll : lets.length + names.length ≤ LIM := by unfold LIM; omega
  have u7 : 7 ≤ LIM := by decide
  obtain ⟨bd, S7, e7, l7, p7, f7⟩ := draws_s (cg (n + 3)) b S [some (.obj b), x1, x2, some (.str lets), some (.lst (names.map .str)), x5, x6, x7, x8, x9] (.call 33 (.cons (.var 0) (.cons (.bin .add (.blt .list (.cons (.var 3) .nil)) (.var 4)) .nil))) (.rng1 (.call 33 (.cons (.var 0) (.cons (.tup (.cons (.cst (.int 0)) (.cons (.cst (.int 1)) (.cons (.cst (.int 1)) (.cons (.cst (.int 2)) (.cons (.cst (.int 2)) (.cons (.cst (.int 3)) (.cons (.cst (.int 4)) .nil)))))))) .nil)))) 9 i.toNat S6 (fun s => (∃ c ∈ lets, s = [c]) ∨ s ∈ names) (by omega)
    (by simp [u7, e6, rng1_ok (m := i) (by omega)]) f6 (fun d S hb => by
      obtain ⟨x, S', e, m, f⟩ := of_s (n + 1) b (.lst (lets.map (fun c => D.str [c]) ++ names.map .str)) (lets.map (fun c => D.str [c]) ++ names.map .str) S hb (.inl rfl) (by simp [hl]) (by simp; omega)
      rcases List.mem_append.mp m with m | m
      · obtain ⟨c, hc, rfl⟩ := List.mem_map.mp m
        exact ⟨[c], S', by simp [ll, e], .inl ⟨c, hc, rfl⟩, f⟩
      · obtain ⟨s, hs, rfl⟩ := List.mem_map.mp m
        exact ⟨s, S', by simp [ll, e], .inr hs, f⟩)
  exact ⟨bd, S7, e7, by omega, p7, f7⟩
theorem heads_s (n b : Nat) (S : Store) (hb : Bowl S b) (names : List (List Nat)) (more : Int) (hn : names ≠ []) (hn2 : names.length ≤ 100) (m0 : 0 ≤ more) (m1 : more ≤ 100) (x1 x3 x5 x6 x7 x8 x9 : Option D) :
    ∃ (hs : List (List Nat)) (S' : Store), evE prg (cg (n + 3)) eHeads [some (.obj b), x1, some (.int more), x3, some (.lst (names.map .str)), x5, x6, x7, x8, x9] S = some (.lst (hs.map .str), S') ∧ (hs.length : Int) ≤ more ∧ (∀ s ∈ hs, s ∈ names) ∧ Fr b S S' := by
  obtain ⟨q, S3, e3, q0, q1, f3⟩ := draw_s (n + 2) b (more + 1) S hb (by omega) (by omega)
  have e3 : cg (n + 3) 32 [] [.obj b, .int (more + 1)] S = some (.int q, S3) := e3
  have hm : (names.map D.str) ≠ [] := by simpa using hn
  obtain ⟨hs, S4, e4, l4, p4, f4⟩ := draws_s (cg (n + 3)) b S [some (.obj b), x1, some (.int more), x3, some (.lst (names.map .str)), x5, x6, x7, x8, x9] (.call 33 (.cons (.var 0) (.cons (.var 4) .nil))) (.rng1 (.call 32 (.cons (.var 0) (.cons (.bin .add (.var 2) (.cst (.int 1))) .nil)))) 9 q.toNat S3 (fun s => s ∈ names) (by omega)
    (by simp [e3, rng1_ok (m := q) (by omega)]) f3 (fun d S hb => by
      obtain ⟨x, S', e, m, f⟩ := of_s (n + 1) b (.lst (names.map .str)) (names.map .str) S hb (.inl rfl) hm (by rw [List.length_map]; omega)
      obtain ⟨s, hs, rfl⟩ := List.mem_map.mp m
      exact ⟨s, S', by simp [e], hs, f⟩)
  exact ⟨hs, S4, e4, by omega, p4, f4⟩
/-- the invariant of the loop over heads -/
def AnyInv (b : Nat) (kinds more : Int) (lets : List Nat) (names all : List (List Nat)) (S0 : Store) (k : Nat) (ρ : Envr) (S' : Store) : Prop :=
  Fr b S0 S' ∧ ∃ (rs : List Rule) (x7 x8 : Option D), rs.length ≤ k ∧ Drawn names lets rs ∧ (∀ h ∈ all.take k, ∃ r ∈ rs, r.1 = h) ∧ ρ = [some (.obj b), some (.int kinds), some (.int more), some (.str lets), some (.lst (names.map .str)), some (.lst (all.map .str)), some (.lst (rs.map ruleD)), x7, x8, none]
theorem any_step (n b : Nat) (kinds more : Int) (lets : List Nat) (names all : List (List Nat)) (S0 : Store) (hl : lets ≠ []) (hl2 : lets.length ≤ 100) (hn : names.length ≤ 100) (ha : ∀ s ∈ all, s ∈ names) (hall : all.length ≤ 1000) (k : Nat) (d : D) (ρ : Envr) (S' : Store) (hd : (all.map D.str)[k]? = some d) (I : AnyInv b kinds more lets names all S0 k ρ S') :
    ∃ ρ' S'', ((bindT (.nm 7) d ρ).bind fun ρ => exSs prg (cg (n + 3)) fuA bdAny ρ S') = some (.nx, ρ', S'') ∧ AnyInv b kinds more lets names all S0 (k + 1) ρ' S'' := by
  obtain ⟨fr, rs, x7, x8, lr, dr, hh, rfl⟩ := I
  rw [List.getElem?_map] at hd
  cases q5 : all[k]? with
  | none => rw [q5] at hd; cases hd
  | some h =>
    rw [q5] at hd
    cases hd
    have ik := (List.getElem?_eq_some_iff.mp q5).1
    have hn := ha h (List.mem_of_getElem? q5)
    obtain ⟨bd, S7, e7, l7, p7, f7⟩ := body_s n b S' fr.bowl names lets (by omega) hl hl2 (some (.int kinds)) (some (.int more)) (some (.lst (all.map .str))) (some (.lst (rs.map ruleD))) (some (.str h)) x8 none
    have ni := notin_rules (h, bd) rs S7
    have l1 : rs.length + 1 ≤ LIM := by unfold LIM; omega
    have l0 : rs.length ≤ LIM := by unfold LIM; omega
    have u2 : 2 ≤ LIM := by decide
    have u1 : 1 ≤ LIM := by decide
    have st8 : ∀ r, exSs prg (cg (n + 3)) fuA (.cons (.set 8 (.blt .tuple (.cons eBody .nil))) r) [some (.obj b), some (.int kinds), some (.int more), some (.str lets), some (.lst (names.map .str)), some (.lst (all.map .str)), some (.lst (rs.map ruleD)), some (.str h), x8, none] S' = exSs prg (cg (n + 3)) fuA r [some (.obj b), some (.int kinds), some (.int more), some (.str lets), some (.lst (names.map .str)), some (.lst (all.map .str)), some (.lst (rs.map ruleD)), some (.str h), some (.tup (bd.map .str)), none] S7 := fun r => by
      refine xs_nx ?_
      rw [x_set, e_blt, el_cons', e7]
      simp
    by_cases c : (h, bd) ∈ rs
    · rw [decide_eq_true c] at ni
      refine ⟨_, S7, ?_, fr.trans f7, rs, some (.str h), some (.tup (bd.map .str)), by omega, dr, fun y hy => ?_, rfl⟩
      · show exSs prg (cg (n + 3)) fuA bdAny [some (.obj b), some (.int kinds), some (.int more), some (.str lets), some (.lst (names.map .str)), some (.lst (all.map .str)), some (.lst (rs.map ruleD)), some (.str h), x8, none] S' = _
        rw [st8]
        simp [u2, ni, l0]
      · rw [List.take_add_one, q5] at hy
        rcases List.mem_append.mp hy with hy | hy
        · exact hh y hy
        · simp at hy
          exact ⟨_, c, hy.symm⟩
    · rw [decide_eq_false c] at ni
      refine ⟨_, S7, ?_, fr.trans f7, rs ++ [(h, bd)], some (.str h), some (.tup (bd.map .str)), by rw [List.length_append]; simp only [List.length_cons, List.length_nil]; omega, ⟨fun y hy => ?_, fun y hy => ?_, fun y hy => ?_, ?_⟩, fun y hy => ?_, rfl⟩
      · show exSs prg (cg (n + 3)) fuA bdAny [some (.obj b), some (.int kinds), some (.int more), some (.str lets), some (.lst (names.map .str)), some (.lst (all.map .str)), some (.lst (rs.map ruleD)), some (.str h), x8, none] S' = _
        rw [st8]
        simp [u2, u1, ni, l1, ruleD]
      · rcases List.mem_append.mp hy with hy | hy
        · exact dr.head y hy
        · simp at hy
          subst hy
          exact hn
      · rcases List.mem_append.mp hy with hy | hy
        · exact dr.len y hy
        · simp at hy
          subst hy
          exact l7
      · rcases List.mem_append.mp hy with hy | hy
        · exact dr.body y hy
        · simp at hy
          subst hy
          exact p7
      · rw [List.nodup_append]
        refine ⟨dr.nd, by simp, fun a ha d hd => ?_⟩
        simp at hd
        subst hd
        exact fun z => c (z ▸ ha)
      · rw [List.take_add_one, q5] at hy
        rcases List.mem_append.mp hy with hy | hy
        · obtain ⟨r, hr, e⟩ := hh y hy
          exact ⟨r, List.mem_append.mpr (.inl hr), e⟩
        · simp at hy
          exact ⟨_, List.mem_append.mpr (.inr List.mem_cons_self), hy.symm⟩
theorem any_rules_s (n b : Nat) (S : Store) (hb : Bowl S b) (kinds more : Int) (lets : List Nat) (k0 : 1 ≤ kinds) (k1 : kinds ≤ 8) (m0 : 0 ≤ more) (m1 : more ≤ 8) (hl : lets ≠ []) (hl2 : lets.length ≤ 100) :
    ∃ (rs : List Rule) (names : List (List Nat)) (S' : Store), cg (n + 4) 37 [] [.obj b, .int kinds, .int more, .str lets] S = some (rulesD rs, S') ∧ Fr b S S' ∧ Drawn names lets rs ∧ names ≠ [] ∧ (names.length : Int) ≤ kinds ∧ (∀ s ∈ names, goodName s) ∧ (∀ s ∈ names, ∃ r ∈ rs, r.1 = s) ∧ (rs.length : Int) ≤ kinds + more := by
  rw [cg_succ (n + 3) 37 _ _ _ rfl]
  obtain ⟨r, S1, e1, r0, r1, f1⟩ := draw_s (n + 2) b kinds S hb (by omega) (by omega)
  have e1 : cg (n + 3) 32 [] [.obj b, .int kinds] S = some (.int r, S1) := e1
  obtain ⟨names, S2, e2, nl, nnd, ng, _, f2⟩ := names_s n b S1 f1.bowl (1 + r) (by omega) (by omega)
  have nne : names ≠ [] := fun z => by rw [z] at nl; simp at nl; omega
  have s4 : exS prg (cg (n + 3)) fuA (.set 4 (.call 35 (.cons (.var 0) (.cons (.bin .add (.cst (.int 1)) (.call 32 (.cons (.var 0) (.cons (.var 1) .nil)))) .nil)))) [some (.obj b), some (.int kinds), some (.int more), some (.str lets), none, none, none, none, none, none] S = some (.nx, [some (.obj b), some (.int kinds), some (.int more), some (.str lets), some (.lst (names.map .str)), none, none, none, none, none], S2) := by
    simp [e1, e2]
  obtain ⟨hs, S4, e4, l4, p4, f4⟩ := heads_s n b S2 f2.bowl names more nne (by omega) m0 (by omega) (some (.int kinds)) (some (.str lets)) none none none none none
  have hl' : names.length + hs.length ≤ LIM := by unfold LIM; omega
  have s5 : exS prg (cg (n + 3)) fuA (.set 5 (.bin .add (.blt .list (.cons (.var 4) .nil)) eHeads)) [some (.obj b), some (.int kinds), some (.int more), some (.str lets), some (.lst (names.map .str)), none, none, none, none, none] S2 = some (.nx, [some (.obj b), some (.int kinds), some (.int more), some (.str lets), some (.lst (names.map .str)), some (.lst ((names ++ hs).map .str)), none, none, none, none], S4) := by
    have h : evE prg (cg (n + 3)) (.blt .list (.cons (.var 4) .nil)) [some (.obj b), some (.int kinds), some (.int more), some (.str lets), some (.lst (names.map .str)), none, none, none, none, none] S2 = some (.lst (names.map .str), S2) := by simp
    rw [x_set, e_bin, h, bnd_some, e4]
    simp [hl']
  obtain ⟨ρ', S5, e5, f5, rs, x7, x8, lr, dr, hd, rfl⟩ := forG_inv (step := fun d ρ S => (bindT (.nm 7) d ρ).bind fun ρ => exSs prg (cg (n + 3)) fuA bdAny ρ S) (AnyInv b kinds more lets names (names ++ hs) S4) ((names ++ hs).map .str) 0
    [some (.obj b), some (.int kinds), some (.int more), some (.str lets), some (.lst (names.map .str)), some (.lst ((names ++ hs).map .str)), some (.lst []), none, none, none] S4 ⟨Fr.refl f4.bowl, [], _, _, Nat.zero_le _, ⟨nofun, nofun, nofun, List.nodup_nil⟩, fun _ h => by simp at h, rfl⟩ (fun k d ρ S' hd I => by
      rw [Nat.zero_add] at I ⊢
      exact any_step n b kinds more lets names (names ++ hs) S4 hl hl2 (by omega) (fun s h => (List.mem_append.mp h).elim id (p4 s)) (by rw [List.length_append]; omega) k d ρ S' hd I)
  rw [Nat.zero_add, List.length_map] at lr hd
  rw [List.take_length] at hd
  refine ⟨rs, names, S5, ?_, ((f1.trans f2).trans f4).trans f5, dr, nne, by omega, ng, fun s h => hd s (List.mem_append.mpr (.inl h)), by rw [List.length_append] at lr; omega⟩
  exact run_ret (d := rulesD rs) rfl rfl rfl ((xs_nx s4).trans ((xs_nx s5).trans ((xs_nx (S1 := S4) (ρ1 := [some (.obj b), some (.int kinds), some (.int more), some (.str lets), some (.lst (names.map .str)), some (.lst ((names ++ hs).map .str)), some (.lst []), none, none, none]) rfl).trans ((xs_nx (x_fr (S1 := S4) (items := (names ++ hs).map .str) rfl e5)).trans (xs_ret rfl)))))

/-! al -/
theorem once_mem {x : List Nat} : ∀ (l acc : List (List Nat)), x ∈ once acc l → x ∈ acc ∨ x ∈ l
  | [], acc, h => .inl h
  | s :: l, acc, h => by
    have e : once acc (s :: l) = if s ∈ acc then once acc l else once (acc ++ [s]) l := rfl
    rw [e] at h
    split at h
    · exact (once_mem l acc h).imp id (List.mem_cons_of_mem _)
    · rcases once_mem l _ h with h | h
      · rcases List.mem_append.mp h with h | h
        · exact .inl h
        · simp at h
          exact .inr (h ▸ List.mem_cons_self)
      · exact .inr (List.mem_cons_of_mem _ h)
theorem once_nodup : ∀ (l acc : List (List Nat)), acc.Nodup → (once acc l).Nodup
  | [], acc, h => h
  | s :: l, acc, h => by
    have e : once acc (s :: l) = if s ∈ acc then once acc l else once (acc ++ [s]) l := rfl
    rw [e]
    split
    · exact once_nodup l acc h
    · rename_i n
      refine once_nodup l _ (List.nodup_append.mpr ⟨h, by simp, fun a ha c hc => ?_⟩)
      simp at hc
      subst hc
      exact fun z => n (z ▸ ha)
theorem kinds_sub {rs : List Rule} {x : List Nat} (h : x ∈ kindsOf rs) : ∃ r ∈ rs, x ∈ r.1 :: r.2 ∧ x ∉ letters := by
  rcases once_mem _ _ h with h | h
  · cases h
  · obtain ⟨r, hr, hx⟩ := List.mem_flatMap.mp h
    obtain ⟨h1, h2⟩ := List.mem_filter.mp hx
    exact ⟨r, hr, h1, by simpa using h2⟩
theorem drawn_good {names : List (List Nat)} {lets : List Nat} {rs : List Rule} (hh : ∀ r ∈ rs, r.1 ∈ names) (hl : ∀ r ∈ rs, r.2.length ≤ 4) (hb : ∀ r ∈ rs, ∀ s ∈ r.2, (∃ c ∈ lets, s = [c]) ∨ s ∈ names) (nd : rs.Nodup) (ne : names ≠ []) (n8 : names.length ≤ 8) (ng : ∀ s ∈ names, goodName s) (own : ∀ s ∈ names, ∃ r ∈ rs, r.1 = s) (l16 : rs.length ≤ 16) (lt : ∀ c ∈ lets, [c] ∈ letters) : GoodRules rs := by
  have body : ∀ r ∈ rs, ∀ s ∈ r.2, s ∈ letters ∨ s ∈ names := fun r hr s hs => by
    rcases hb r hr s hs with ⟨c, hc, rfl⟩ | h
    · exact .inl (lt c hc)
    · exact .inr h
  refine ⟨fun r hr => ⟨ng _ (hh r hr), hl r hr, fun s hs => (body r hr s hs).imp id (ng s)⟩, ?_, l16, nd, fun i => ?_, fun r hr s hs => (body r hr s hs).imp id (own s)⟩
  · obtain ⟨s, hs⟩ := List.exists_mem_of_ne_nil _ ne
    obtain ⟨r, hr, _⟩ := own s hs
    exact List.length_pos_of_mem hr
  · refine Nat.le_trans (List.Nodup.length_le_of_subset (once_nodup _ _ List.nodup_nil) fun x hx => ?_) n8
    obtain ⟨r, hr, h1, h2⟩ := kinds_sub hx
    have hr := List.mem_of_mem_take hr
    rcases List.mem_cons.mp h1 with rfl | h1
    · exact hh r hr
    · exact (body r hr x h1).resolve_left h2
theorem Drawn.good {names : List (List Nat)} {lets : List Nat} {rs : List Rule} (d : Drawn names lets rs) (ne : names ≠ []) (n8 : names.length ≤ 8) (ng : ∀ s ∈ names, goodName s) (own : ∀ s ∈ names, ∃ r ∈ rs, r.1 = s) (l16 : rs.length ≤ 16) (lt : ∀ c ∈ lets, [c] ∈ letters) : GoodRules rs :=
  drawn_good d.head d.len d.body d.nd ne n8 ng own l16 lt
theorem Drawn.good_rev {names : List (List Nat)} {lets : List Nat} {rs : List Rule} (d : Drawn names lets rs) (ne : names ≠ []) (n8 : names.length ≤ 8) (ng : ∀ s ∈ names, goodName s) (own : ∀ s ∈ names, ∃ r ∈ rs, r.1 = s) (l16 : rs.length ≤ 16) (lt : ∀ c ∈ lets, [c] ∈ letters) : GoodRules rs.reverse :=
  drawn_good (fun r h => d.head r (List.mem_reverse.mp h)) (fun r h => d.len r (List.mem_reverse.mp h)) (fun r h => d.body r (List.mem_reverse.mp h)) (List.pairwise_reverse.mpr (d.nd.imp fun h => h.symm)) ne n8 ng (fun s h => (own s h).imp fun r h => ⟨List.mem_reverse.mpr h.1, h.2⟩) (by rw [List.length_reverse]; exact l16) lt
/-! ### a grammar made -/
def ext (S : Store) (rs : List Rule) : Store := (S ++ [.ins 0 (grFs rs (S.length + 1))]) ++ [.dct []]
theorem ext_gr (S : Store) (rs : List Rule) : IsGr (ext S rs) S.length rs := ⟨S.length + 1, by unfold ext; simp⟩
theorem ext_at {S : Store} {rs : List Rule} {a : Nat} {o : Ob} (h : S[a]? = some o) : (ext S rs)[a]? = some o := by
  have l := (List.getElem?_eq_some_iff.mp h).1
  unfold ext
  rw [List.append_assoc, List.getElem?_append_left l]
  exact h
theorem ext_old {S : Store} {rs qs : List Rule} {a : Nat} (h : IsGr S a qs) : IsGr (ext S rs) a qs := by
  obtain ⟨k, e⟩ := h
  exact ⟨k, ext_at e⟩
theorem ext_bowl {S : Store} {rs : List Rule} {b : Nat} (h : Bowl S b) : Bowl (ext S rs) b := by
  obtain ⟨x, y, z, e⟩ := h
  exact ⟨x, y, z, ext_at e⟩
theorem noLams_rules : ∀ l : List Rule, noLams (l.map ruleD) = true
  | [] => rfl
  | r :: l => by
    show (noLam (ruleD r) && noLams (l.map ruleD)) = true
    rw [noLams_rules l]
    show ((true && (noLams (r.2.map .str) && true)) && true) = true
    rw [noLams_strs] <;> rfl
theorem ext_lam {S : Store} {rs : List Rule} (h : noLamS S = true) : noLamS (ext S rs) = true := by
  unfold ext noLamS
  unfold noLamS at h
  rw [List.all_append, List.all_append, h]
  show (true && ((((noLams (rs.map ruleD) && (noLams ((kindsOf rs).map .str) && true)) && (true && true)) && true)) && true) = true
  rw [noLams_rules, noLams_strs] <;> rfl
theorem new_s (n : Nat) (rs : List Rule) (g : GoodRules rs) (S : Store) (hS : noLamS S = true) (ρ : Envr) (e : MT.E) (he : evE prg (cg (n + 11)) e ρ S = some (rulesD rs, S)) :
    evE prg (cg (n + 11)) (.new 0 12 (.cons e .nil)) ρ S = some (.obj S.length, ext S rs) := by
  have i := init_s n rs S g hS
  have i : cg (n + 11) 12 [] [.obj S.length, rulesD rs] (S ++ [.ins 0 []]) = some (.non, ext S rs) := i
  rw [e_new, el_cons', he, bnd_some, el_nil', bnd_some, bnd_some, i]
  rfl
theorem newk_s (n : Nat) (rs : List Rule) (g : GoodRules rs) (S : Store) (hS : noLamS S = true) (ρ : Envr) (e : MT.E) (he : evE prg (cg (n + 11)) e ρ S = some (rulesD rs, S)) :
    evE prg (cg (n + 11)) (.newk 0 12 .nil (.cons e .nil) [0]) ρ S = some (.obj S.length, ext S rs) := by
  have i := init_s n rs S g hS
  have i : cg (n + 11) 12 [] [.obj S.length, rulesD rs] (S ++ [.ins 0 []]) = some (.non, ext S rs) := i
  have p : permD ([] ++ [rulesD rs]) [0] = some [rulesD rs] := rfl
  rw [e_newk, el_nil', bnd_some, el_cons', he, bnd_some, el_nil', bnd_some, bnd_some, p, Option.bind_some, i, bnd_some]
theorem eqo_s (n : Nat) (ng : Bool) {S : Store} {a b : Nat} {rs qs : List Rule} (h : IsGr S a rs) (h' : IsGr S b qs) : eqoS prg (cg (n + 2)) ng (.obj a) (.obj b) S = some (.bl (ng ^^ decide (rs = qs)), S) := by
  obtain ⟨k, e⟩ := h.cls
  obtain ⟨k', e'⟩ := h'.cls
  unfold eqoS
  simp only [e]
  have ok : eqOk S (.obj b) = true := by unfold eqOk; simp only [e']; rfl
  have lk : prg.eqm.lookup 0 = some 16 := rfl
  rw [lk]
  simp only [ok, if_true, eq_s n h h', bnd_some, v_dBl, Option.map_some]
theorem eqo_other (n : Nat) (ng : Bool) {S : Store} {a : Nat} {rs : List Rule} {l : List D} (h : IsGr S a rs) : eqoS prg (cg (n + 1)) ng (.obj a) (.tup l) S = some (.bl (ng ^^ false), S) := by
  obtain ⟨k, e⟩ := h.cls
  unfold eqoS
  simp only [e]
  have lk : prg.eqm.lookup 0 = some 16 := rfl
  rw [lk]
  simp only [eqOk, if_true, eq_other n, bnd_some, v_dBl, Option.map_some]
theorem pls_strs : ∀ a : List (List Nat), D.pls (a.map .str) = true
  | [] => rfl
  | x :: a => by
    show (true && D.pls (a.map .str)) = true
    rw [pls_strs a] <;> rfl
theorem pls_rules : ∀ l : List Rule, (∀ r ∈ l, r.2.length ≤ 1000) → D.pls (l.map ruleD) = true
  | [], _ => rfl
  | r :: l, h => by
    have a : decide ((r.2.map D.str).length ≤ 100000) = true := decide_eq_true (by rw [List.length_map]; have := h r List.mem_cons_self; omega)
    show (D.pl (ruleD r) && D.pls (l.map ruleD)) = true
    rw [pls_rules l fun x hx => h x (List.mem_cons_of_mem _ hx)]
    show ((decide (2 ≤ 100000) && (true && ((decide ((r.2.map D.str).length ≤ 100000) && D.pls (r.2.map .str)) && true))) && true) = true
    rw [a, pls_strs] <;> rfl
theorem pl_rules {rs : List Rule} (g : GoodRules rs) : D.pl (rulesD rs) = true := by
  have a : decide ((rs.map ruleD).length ≤ 100000) = true := decide_eq_true (by rw [List.length_map]; have := g.most; omega)
  show (decide ((rs.map ruleD).length ≤ 100000) && D.pls (rs.map ruleD)) = true
  rw [a, pls_rules rs fun r hr => by have := (g.good r hr).2.1; omega] <;> rfl
theorem kinds_len {rs : List Rule} (g : GoodRules rs) : (kindsOf rs).length ≤ 8 := by
  have := g.kinds rs.length
  rwa [List.take_length] at this
theorem pl_kinds {rs : List Rule} (g : GoodRules rs) : D.pl (kindsD rs) = true := by
  have a : decide (((kindsOf rs).map D.str).length ≤ 100000) = true := decide_eq_true (by rw [List.length_map]; have := kinds_len g; omega)
  show (decide (((kindsOf rs).map D.str).length ≤ 100000) && D.pls ((kindsOf rs).map .str)) = true
  rw [a, pls_strs] <;> rfl

end MT

set_option maxRecDepth 100000
set_option maxHeartbeats 1000000
namespace MT
open PySem PySem.Spec PyProof.Rows L2
theorem e_lst0 {G : Prg} {cl : Call} {ρ : Envr} {S : Store} : evE G cl (.lst .nil) ρ S = some (.lst [], S) := by
  rw [e_lst, el_nil', bnd_some, if_pos (by exact Nat.zero_le _)]
/-! more of all laws -/
theorem compG_each {α : Type} {f : D → Store → Option (Option D × Store)} {A B : α → D} {S : Store} : ∀ {l : List α}, (∀ r ∈ l, f (A r) S = some (some (B r), S)) → compG f (l.map A) S = some (l.map B, S)
  | [], _ => rfl
  | r :: l, h => by
    have i := compG_each (l := l) fun x hx => h x (List.mem_cons_of_mem _ hx)
    rw [List.map_cons]
    unfold compG
    rw [h r List.mem_cons_self, bnd_some, i, bnd_some]
    rfl
theorem eq_lst_nil (l : List (List Nat)) : eqD (.lst (l.map .str)) (.lst []) = some (decide (l = [])) := by
  have f : D.flat (.lst (l.map .str)) = true := flats_strs l
  have d : D.dep (.lst (l.map .str)) = 1 := by show D.deps (l.map .str) + 1 = 1; rw [deps_strs]
  unfold eqD
  rw [f, d]
  show some (D.eqvs (l.map .str) (([] : List (List Nat)).map .str)) = _
  rw [eqvs_strs]
theorem check_s (n : Nat) {S : Store} {a : Nat} {rs : List Rule} (h : IsGr S a rs) : cg (n + 1) 18 [] [.obj a] S = some (.non, S) := by
  rw [cg_succ n 18 _ _ _ rfl]
  have i : isiD S (.cls 0) (.obj a) = some true := by
    obtain ⟨k, e⟩ := h
    unfold isiD tyD
    simp [e]
  simp [runF, ir18, i]
/-! k05: what is made -/
theorem whlG_wf {c : Envr → Store → Option (Bool × Store)} {step : Envr → Store → SR3} (Inv : Nat → Envr → Store → Prop) (Post : Fl × Envr × Store → Prop)
    (hs : ∀ n ρ S, Inv n ρ S → (∃ S1, c ρ S = some (false, S1) ∧ Post (.nx, ρ, S1)) ∨ (∃ S1, c ρ S = some (true, S1) ∧ ((∃ d ρ2 S2, step ρ S1 = some (.ret d, ρ2, S2) ∧ Post (.ret d, ρ2, S2)) ∨ ∃ ρ2 S2 m, step ρ S1 = some (.nx, ρ2, S2) ∧ m < n ∧ Inv m ρ2 S2))) :
    ∀ (fu n : Nat) (ρ : Envr) (S : Store), Inv n ρ S → n < fu → ∃ r, whlG c step fu ρ S = some r ∧ Post r
  | 0, n, _, _, _, h => absurd h (Nat.not_lt_zero _)
  | fu + 1, n, ρ, S, I, h => by
    rcases hs n ρ S I with ⟨S1, e1, p⟩ | ⟨S1, e1, ⟨d, ρ2, S2, e2, p⟩ | ⟨ρ2, S2, m, e2, hm, I2⟩⟩
    · exact ⟨_, by unfold whlG; rw [e1]; rfl, p⟩
    · exact ⟨_, by unfold whlG; rw [e1, bnd_some, if_pos rfl, e2]; rfl, p⟩
    · obtain ⟨r, e3, p⟩ := whlG_wf Inv Post hs fu m ρ2 S2 I2 (by omega)
      exact ⟨r, by unfold whlG; rw [e1, bnd_some, if_pos rfl, e2, bnd3_some]; exact e3, p⟩
/-- the kinds that make something, of p the letters do -/
inductive Mk (rs : List Rule) (p : Bool) : List Nat → Prop where
  | mk (r : Rule) (h : r ∈ rs) (hl : ∀ s ∈ r.2, s ∈ letters → p = true) (hb : ∀ s ∈ r.2, s ∉ letters → Mk rs p s) : Mk rs p r.1
/-- the kinds of which something is so, in order -/
noncomputable def kindsBy (rs : List Rule) (P : List Nat → Prop) : List (List Nat) := open Classical in (kindsOf rs).filter fun k => decide (P k)
theorem kindsBy_eq {rs : List Rule} {P : List Nat → Prop} {f : List Nat → Bool} (h : ∀ k ∈ kindsOf rs, f k = true ↔ P k) : (kindsOf rs).filter f = kindsBy rs P := by
  unfold kindsBy
  refine List.filter_congr fun k hk => ?_
  rw [Bool.eq_iff_iff, h k hk]
  simp
theorem isin_strs (x : List Nat) (l : List (List Nat)) (S : Store) : cmpT .isin (.str x) (.lst (l.map .str)) S = some (decide (x ∈ l)) := by
  show cmpD .isin (.str x) (.lst (l.map .str)) = _
  have e := in_strs x l
  unfold cmpD
  split <;> first | (rename_i e1 e2; cases e2) | skip
  all_goals simp_all
theorem compG_filter {α : Type} {f : D → Store → Option (Option D × Store)} {A B : α → D} {q : α → Bool} {S : Store} : ∀ {l : List α}, (∀ r ∈ l, f (A r) S = some (if q r then some (B r) else none, S)) → compG f (l.map A) S = some ((l.filter q).map B, S)
  | [], _ => rfl
  | r :: l, h => by
    have i := compG_filter (l := l) fun x hx => h x (List.mem_cons_of_mem _ hx)
    rw [List.map_cons]
    unfold compG
    rw [h r List.mem_cons_self, bnd_some, i, bnd_some, List.filter_cons]
    cases q r <;> rfl
theorem all_strs (c : Call) (l : List (List Nat)) (S : Store) (q : List Nat → Bool) (ρ : Envr) (x : MT.E) (w : Nat) (it : It) (hi : evI prg c it ρ S = some (l.map .str, S)) (hl : l.length ≤ 1000)
    (hx : ∀ s ∈ l, evE prg c x (ρ.set w (some (.str s))) S = some (.bl (q s), S)) : evE prg c (.blt .all (.cons (.comp x (.nm w) it .non [w]) .nil)) ρ S = some (.bl (l.all q), S) := by
  have c1 : evE prg c (.comp x (.nm w) it .non [w]) ρ S = some (.lst (l.map fun s => D.bl (q s)), S) := by
    refine e_comp hi (compG_each fun s hs => ?_) (by rw [List.length_map]; unfold LIM; omega)
    simp [hx s hs]
  rw [e_blt, el_cons', c1, bnd_some, el_nil', bnd_some, bnd_some, v_all, allBl_map]
  rfl
/-- a comprehension over kinds or names with a test -/
theorem filter_strs_s (c : Call) (l : List (List Nat)) (S : Store) (q : List Nat → Bool) (ρ : Envr) (x : MT.E) (w : Nat) (it : It) (hi : evI prg c it ρ S = some (l.map .str, S)) (hw : w < ρ.length) (hl : l.length ≤ 1000)
    (hx : ∀ s ∈ l, evE prg c x (ρ.set w (some (.str s))) S = some (.bl (q s), S)) : evE prg c (.comp (.var w) (.nm w) it (.som x) [w]) ρ S = some (.lst ((l.filter q).map .str), S) := by
  refine e_comp hi (compG_filter fun s hs => ?_) (by rw [List.length_map]; exact Nat.le_trans (List.length_filter_le _ _) (by unfold LIM; omega))
  have h := hx s hs
  have v : (ρ.set w (some (.str s)))[w]? = some (some (.str s)) := List.getElem?_set_self hw
  cases hq : q s <;> rw [hq] at h <;> simp [h, v]
theorem GoodRules.kindMem {rs : List Rule} (g : GoodRules rs) {r : Rule} (hr : r ∈ rs) : r.1 ∈ kindsOf rs := by
  refine once_has _ _ (.inr (List.mem_flatMap.mpr ⟨r, hr, List.mem_filter.mpr ⟨List.mem_cons_self, ?_⟩⟩))
  have := (g.good r hr).1.1
  have : r.1 ∉ letters := fun z => by have := letter_len _ z; omega
  simp [this]
where
  once_has {x : List Nat} : ∀ (l acc : List (List Nat)), x ∈ acc ∨ x ∈ l → x ∈ once acc l
    | [], acc, h => h.elim id fun z => by cases z
    | s :: l, acc, h => by
      have e : once acc (s :: l) = if s ∈ acc then once acc l else once (acc ++ [s]) l := rfl
      rw [e]
      split
      · rename_i hs
        refine once_has l acc ?_
        rcases h with h | h
        · exact .inl h
        · rcases List.mem_cons.mp h with rfl | h
          · exact .inl hs
          · exact .inr h
      · refine once_has l _ ?_
        rcases h with h | h
        · exact .inl (List.mem_append.mpr (.inl h))
        · rcases List.mem_cons.mp h with rfl | h
          · exact .inl (List.mem_append.mpr (.inr List.mem_cons_self))
          · exact .inr h
theorem GoodRules.bodyMem {rs : List Rule} (g : GoodRules rs) {r : Rule} (hr : r ∈ rs) {s : List Nat} (hs : s ∈ r.2) (n : s ∉ letters) : s ∈ kindsOf rs := by
  obtain ⟨q, hq, rfl⟩ := (g.own r hr s hs).resolve_left n
  exact g.kindMem hq
theorem kind_noletter {rs : List Rule} {k : List Nat} (h : k ∈ kindsOf rs) : k ∉ letters := by
  obtain ⟨_, _, _, h⟩ := kinds_sub h
  exact h
theorem Mk.kind {rs : List Rule} (g : GoodRules rs) {p : Bool} {k : List Nat} (h : Mk rs p k) : k ∈ kindsOf rs := by
  cases h with
  | mk r h _ _ => exact g.kindMem h
/-- how many kinds are not yet found -/
def left (rs : List Rule) (F : List (List Nat)) : Nat := ((kindsOf rs).filter fun k => !decide (k ∈ F)).length
theorem filter_lt {l : List (List Nat)} {p q : List Nat → Bool} (h : ∀ x, q x = true → p x = true) {y : List Nat} (hy : y ∈ l) (h1 : p y = true) (h2 : q y = false) : (l.filter q).length < (l.filter p).length := by
  induction l with
  | nil => cases hy
  | cons x l ih =>
    have le : (l.filter q).length ≤ (l.filter p).length := by
      clear ih hy
      induction l with
      | nil => exact Nat.le_refl _
      | cons z l ih =>
        rw [List.filter_cons, List.filter_cons]
        cases hq : q z
        · cases hp : p z
          · simpa using ih
          · simp only [if_true, Bool.false_eq_true, if_false, List.length_cons]
            omega
        · rw [h z hq]
          simpa using ih
    rw [List.filter_cons, List.filter_cons]
    rcases List.mem_cons.mp hy with rfl | hy
    · rw [h1, h2]
      exact Nat.lt_succ_of_le le
    · have := ih hy
      cases hq : q x
      · cases hp : p x
        · simpa using this
        · simp only [if_true, Bool.false_eq_true, if_false, List.length_cons]
          omega
      · rw [h x hq]
        simpa using this
theorem left_lt {rs : List Rule} {F : List (List Nat)} {more : List (List Nat)} {k : List Nat} (hk : k ∈ kindsOf rs) (hm : k ∈ more) (hF : k ∉ F) : left rs (F ++ more) < left rs F :=
  filter_lt (fun x h => by simp at h ⊢; exact h.1) hk (by simp [hF]) (by simp [hm])
theorem left_le (rs : List Rule) (F : List (List Nat)) : left rs F ≤ (kindsOf rs).length := List.length_filter_le _ _
abbrev bdMakers : Ss := (.cons (.set 4 (.comp (.var 5) (.tp (.cons (.nm 5) (.cons (.nm 6) .nil))) (.e (.att (.var 0) 4)) (.som (.and (.cmp .notin (.var 5) (.var 2)) (.blt .all (.cons (.comp (.ite (.call 6 (.cons (.var 7) .nil)) (.var 1) (.cmp .isin (.var 7) (.var 2))) (.nm 7) (.e (.var 6)) .non [7]) .nil)))) [5, 6])) (.cons (.unp (.tp (.cons (.nm 2) (.cons (.nm 3) .nil))) (.tup (.cons (.lst (.star (.var 2) (.star (.var 4) .nil))) (.cons (.cmp .ne (.var 4) (.lst .nil)) .nil)))) .nil))
/-- a rule by which its kind is found now -/
def newBy (p : Bool) (F : List (List Nat)) (r : Rule) : Bool := !decide (r.1 ∈ F) && r.2.all fun s => if s ∈ letters then p else decide (s ∈ F)
theorem more_s (n a : Nat) (rs : List Rule) (g : GoodRules rs) (p : Bool) (F : List (List Nat)) (S : Store) (h : IsGr S a rs) (x3 x4 x5 x6 x7 : Option D) :
    evE prg (cg (n + 3)) (.comp (.var 5) (.tp (.cons (.nm 5) (.cons (.nm 6) .nil))) (.e (.att (.var 0) 4)) (.som (.and (.cmp .notin (.var 5) (.var 2)) (.blt .all (.cons (.comp (.ite (.call 6 (.cons (.var 7) .nil)) (.var 1) (.cmp .isin (.var 7) (.var 2))) (.nm 7) (.e (.var 6)) .non [7]) .nil)))) [5, 6]) [some (.obj a), some (.bl p), some (.lst (F.map .str)), x3, x4, x5, x6, x7] S = some (.lst (((rs.filter (newBy p F)).map (·.1)).map .str), S) := by
  have a4 := att4 (n + 2) h
  have l1000 : rs.length ≤ 1000 := by have := g.most; omega
  refine (e_comp (items := rs.map ruleD) (S1 := S) (by simp [a4, rulesD]) (compG_filter (B := fun r => .str r.1) (q := newBy p F) fun r hr => ?_) (by rw [List.length_map]; exact Nat.le_trans (List.length_filter_le _ _) (by unfold LIM; omega))).trans (by rw [List.map_map]; rfl)
  have ni := in_found S r.1 F
  have al := all_strs (cg (n + 3)) r.2 S (fun s => if s ∈ letters then p else decide (s ∈ F)) [some (.obj a), some (.bl p), some (.lst (F.map .str)), x3, x4, some (.str r.1), some (.tup (r.2.map .str)), x7] (.ite (.call 6 (.cons (.var 7) .nil)) (.var 1) (.cmp .isin (.var 7) (.var 2))) 7 (.e (.var 6)) (by simp) (by have := (g.good r hr).2.1; omega) fun s hs => by
    have il := is_letter_s (n + 1) s S
    have is := isin_strs s F S
    by_cases q : s ∈ letters
    · rw [decide_eq_true q] at il
      simp [il, q]
    · rw [decide_eq_false q] at il
      simp [il, q, is]
  have b : bindT (.tp (.cons (.nm 5) (.cons (.nm 6) .nil))) (ruleD r) (wipeE [some (.obj a), some (.bl p), some (.lst (F.map .str)), x3, x4, x5, x6, x7] [5, 6]) = some [some (.obj a), some (.bl p), some (.lst (F.map .str)), x3, x4, some (.str r.1), some (.tup (r.2.map .str)), x7] := rfl
  rw [b, Option.bind_some, ec_som', e_and, e_cmp]
  simp only [e_var, List.getElem?_cons_succ, List.getElem?_cons_zero, bnd_some, ni, Option.map_some, v_dBl]
  unfold newBy
  cases q : decide (r.1 ∈ F)
  · simp only [Bool.not_false, Bool.true_and]
    rw [al]
    cases (r.2.all fun s => if s ∈ letters then p else decide (s ∈ F)) <;> simp
  · simp
theorem makers_s (n a : Nat) (rs : List Rule) (g : GoodRules rs) (p : Bool) (S : Store) (h : IsGr S a rs) : cg (n + 4) 19 [] [.obj a, .bl p] S = some (.lst ((kindsBy rs (Mk rs p)).map .str), S) := by
  rw [cg_succ (n + 3) 19 _ _ _ rfl]
  let Inv : Nat → Envr → Store → Prop := fun m ρ S' => S' = S ∧ ∃ (F : List (List Nat)) (b : Bool) (x4 x5 x6 x7 : Option D), ρ = [some (.obj a), some (.bl p), some (.lst (F.map .str)), some (.bl b), x4, x5, x6, x7] ∧ (∀ k ∈ F, Mk rs p k) ∧ (b = false → ∀ r ∈ rs, newBy p F r = false) ∧ m = left rs F + (if b then 1 else 0) ∧ F.length ≤ 16 * (9 - (left rs F + if b then 1 else 0))
  let Post : Fl × Envr × Store → Prop := fun r => ∃ (F : List (List Nat)) (x4 x5 x6 x7 : Option D), r = (.nx, [some (.obj a), some (.bl p), some (.lst (F.map .str)), some (.bl false), x4, x5, x6, x7], S) ∧ (∀ k ∈ F, Mk rs p k) ∧ (∀ r ∈ rs, newBy p F r = false)
  have k8 := kinds_len g
  obtain ⟨r, e, F, x4, x5, x6, x7, rfl, hF, hc⟩ := whlG_wf (c := fun ρ S => bnd (evE prg (cg (n + 3)) (.var 3) ρ S) fun x S => (dBl x).map fun b => (b, S)) (step := fun ρ S => exSs prg (cg (n + 3)) fuA bdMakers ρ S) Inv Post (fun m ρ S' ⟨e1, F, b, x4, x5, x6, x7, e2, hF, hb, hm, hl⟩ => by
      subst e1 e2
      cases b with
      | false => exact .inl ⟨S', by simp, F, x4, x5, x6, x7, rfl, hF, hb rfl⟩
      | true =>
        refine .inr ⟨S', by simp, .inr ?_⟩
        have ms := more_s n a rs g p F S' h (some (.bl true)) x4 x5 x6 x7
        have lF : F.length + ((rs.filter (newBy p F)).map (·.1)).length ≤ LIM := by
          have := List.length_filter_le (newBy p F) rs
          have := g.most
          rw [List.length_map]
          unfold LIM
          omega
        have en := eq_lst_nil ((rs.filter (newBy p F)).map (·.1))
        have st : exSs prg (cg (n + 3)) fuA bdMakers [some (.obj a), some (.bl p), some (.lst (F.map .str)), some (.bl true), x4, x5, x6, x7] S' = some (.nx, [some (.obj a), some (.bl p), some (.lst ((F ++ (rs.filter (newBy p F)).map (·.1)).map .str)), some (.bl (!decide ((rs.filter (newBy p F)).map (·.1) = []))), some (.lst (((rs.filter (newBy p F)).map (·.1)).map .str)), x5, x6, x7], S') := by
          rw [xs_nx (S1 := S') (ρ1 := [some (.obj a), some (.bl p), some (.lst (F.map .str)), some (.bl true), some (.lst (((rs.filter (newBy p F)).map (·.1)).map .str)), x5, x6, x7]) (by rw [x_set, ms]; rfl)]
          generalize hM : (rs.filter (newBy p F)).map (·.1) = M at *
          have u2 : 2 ≤ LIM := by decide
          simp [u2, lF, en]
        have snd : ∀ k ∈ F ++ (rs.filter (newBy p F)).map (·.1), Mk rs p k := fun k hk => by
          rcases List.mem_append.mp hk with hk | hk
          · exact hF k hk
          · obtain ⟨r, hr, rfl⟩ := List.mem_map.mp hk
            obtain ⟨hr1, hr2⟩ := List.mem_filter.mp hr
            unfold newBy at hr2
            rw [Bool.and_eq_true, List.all_eq_true] at hr2
            refine .mk r hr1 (fun s hs q => ?_) (fun s hs q => ?_)
            · have := hr2.2 s hs
              rw [if_pos q] at this
              exact this
            · have := hr2.2 s hs
              rw [if_neg q] at this
              exact hF s (of_decide_eq_true this)
        by_cases q : (rs.filter (newBy p F)).map (·.1) = []
        · refine ⟨_, S', left rs F, st, by rw [hm]; simp, rfl, F ++ (rs.filter (newBy p F)).map (·.1), _, _, _, _, _, rfl, snd, fun _ r hr => ?_, ?_, ?_⟩
          · rw [q, List.append_nil]
            cases z : newBy p F r with
            | false => rfl
            | true =>
              have : r.1 ∈ (rs.filter (newBy p F)).map (·.1) := List.mem_map.mpr ⟨r, List.mem_filter.mpr ⟨hr, z⟩, rfl⟩
              rw [q] at this
              cases this
          · rw [q, List.append_nil]
            simp
          · rw [q, List.append_nil]
            simp at hl ⊢
            omega
        · obtain ⟨k, hk⟩ := List.exists_mem_of_ne_nil _ q
          obtain ⟨r, hr, e⟩ := List.mem_map.mp hk
          obtain ⟨hr1, hr2⟩ := List.mem_filter.mp hr
          have kF : k ∉ F := by
            unfold newBy at hr2
            rw [Bool.and_eq_true] at hr2
            have := hr2.1
            rw [e] at this
            simpa using this
          have lt := left_lt (F := F) (e ▸ g.kindMem hr1) hk kF
          have lr : ((rs.filter (newBy p F)).map (·.1)).length ≤ 16 := by
            rw [List.length_map]
            exact Nat.le_trans (List.length_filter_le _ _) g.most
          have l8 := left_le rs F
          refine ⟨_, S', left rs (F ++ (rs.filter (newBy p F)).map (·.1)) + 1, st, by rw [hm]; simp; omega, rfl, F ++ (rs.filter (newBy p F)).map (·.1), _, _, _, _, _, rfl, snd, fun z => ?_, ?_, ?_⟩
          · simp [q] at z
          · simp [q]
          · rw [List.length_append]
            simp [q]
            simp at hl
            simp at lr
            omega)
    fuA (left rs [] + 1) [some (.obj a), some (.bl p), some (.lst []), some (.bl true), none, none, none, none] S ⟨rfl, [], true, none, none, none, none, rfl, nofun, nofun, rfl, Nat.zero_le _⟩ (by have := left_le rs []; unfold fuA; omega)
  have comp : ∀ k, Mk rs p k → k ∈ F := fun k hk => by
    induction hk with
    | mk r hr hl hb ih =>
      have := hc r hr
      unfold newBy at this
      by_cases q : r.1 ∈ F
      · exact q
      · rw [decide_eq_false q] at this
        simp only [Bool.not_false, Bool.true_and] at this
        have all : (r.2.all fun s => if s ∈ letters then p else decide (s ∈ F)) = true := List.all_eq_true.mpr fun s hs => by
          by_cases h1 : s ∈ letters
          · rw [if_pos h1]; exact hl s hs h1
          · rw [if_neg h1]
            exact decide_eq_true (ih s hs h1)
        rw [all] at this
        cases this
  have a3 := att3 (n + 2) h
  have fl := filter_strs_s (cg (n + 3)) (kindsOf rs) S (fun s => decide (s ∈ F)) [some (.obj a), some (.bl p), some (.lst (F.map .str)), some (.bl false), x4, x5, x6, x7] (.cmp .isin (.var 5) (.var 2)) 5 (.e (.att (.var 0) 3)) (by simp [a3, kindsD]) (by simp) (by omega) fun s hs => by
    simp [isin_strs s F S]
  rw [kindsBy_eq (P := Mk rs p) fun k hk => by rw [decide_eq_true_eq]; exact ⟨hF k, comp k⟩] at fl
  refine run_ret (ρ' := [some (.obj a), some (.bl p), some (.lst (F.map .str)), some (.bl false), x4, x5, x6, x7]) rfl rfl rfl ((xs_nx (S1 := S) (ρ1 := [some (.obj a), some (.bl p), some (.lst []), some (.bl true), none, none, none, none]) ?_).trans ((xs_nx (S1 := S) (ρ1 := [some (.obj a), some (.bl p), some (.lst (F.map .str)), some (.bl false), x4, x5, x6, x7]) ?_).trans (xs_ret ?_)))
  · simp [LIM]
  · rw [x_whl]
    exact e
  · rw [x_ret, fl]
    rfl

end MT

set_option maxRecDepth 100000
set_option maxHeartbeats 1000000
namespace MT
open PySem PySem.Spec PyProof.Rows L2
/-! k05: what leads on -/
theorem kEq_ss (s t : List Nat) : kEq (.str s) (.str t) = decide (s = t) := rfl
theorem dGet_put (k k' : List Nat) (v : D) (ps : List (D × D)) : dGet (.str k') (dPut (.str k) v ps) = if k' = k then some v else dGet (.str k') ps := by
  unfold dPut
  split
  · rename_i h
    induction ps with
    | nil => simp at h
    | cons p ps ih =>
      obtain ⟨pk, pv⟩ := p
      rw [List.map_cons]
      cases pk with
      | str t =>
        by_cases q : k = t
        · subst q
          have e1 : (if kEq (.str k) (.str k) = true then (D.str k, v) else (D.str k, pv)) = (D.str k, v) := by rw [kEq_ss]; simp
          show dGet (.str k') ((if kEq (.str k) (.str k) = true then (D.str k, v) else (D.str k, pv)) :: _) = _
          rw [e1]
          show (if kEq (.str k') (.str k) then some v else dGet (.str k') _) = if k' = k then some v else (if kEq (.str k') (.str k) then some pv else dGet (.str k') ps)
          rw [kEq_ss]
          by_cases z : k' = k
          · simp [z]
          · simp only [z, decide_false, if_false, Bool.false_eq_true]
            have : ∀ l : List (D × D), dGet (.str k') (l.map fun p => if kEq (.str k) p.1 = true then (p.1, v) else p) = dGet (.str k') l := fun l => by
              induction l with
              | nil => rfl
              | cons p l ih2 =>
                obtain ⟨pk, pv⟩ := p
                rw [List.map_cons]
                by_cases y : kEq (.str k) pk = true
                · cases pk with
                  | str t =>
                    have : k = t := by rw [kEq_ss] at y; exact of_decide_eq_true y
                    subst this
                    rw [if_pos y]
                    show (if kEq (.str k') (.str k) then some v else dGet (.str k') _) = (if kEq (.str k') (.str k) then some pv else dGet (.str k') l)
                    rw [kEq_ss, decide_eq_false z]
                    exact ih2
                  | _ => cases y
                · rw [if_neg y]
                  show (if kEq (.str k') pk then some pv else dGet (.str k') _) = (if kEq (.str k') pk then some pv else dGet (.str k') l)
                  rw [ih2]
            exact this ps
        · have e1 : (if kEq (.str k) (.str t) = true then (D.str t, v) else (D.str t, pv)) = (D.str t, pv) := by rw [kEq_ss]; simp [q]
          show dGet (.str k') ((if kEq (.str k) (.str t) = true then (D.str t, v) else (D.str t, pv)) :: _) = _
          rw [e1]
          have h' : (ps.any fun p => kEq (.str k) p.1) = true := by
            rw [List.any_cons] at h
            have : kEq (.str k) (.str t) = false := by rw [kEq_ss]; simp [q]
            rw [this] at h
            simpa using h
          show (if kEq (.str k') (.str t) then some pv else dGet (.str k') _) = if k' = k then some v else (if kEq (.str k') (.str t) then some pv else dGet (.str k') ps)
          rw [ih h']
          by_cases z : k' = t
          · subst z
            have : ¬ k' = k := fun y => q y.symm
            rw [kEq_ss]
            simp [this]
          · rw [kEq_ss]
            simp [z]
      | _ =>
        all_goals
          have h' : (ps.any fun p => kEq (.str k) p.1) = true := by
            rw [List.any_cons] at h
            simpa [kEq] using h
          show dGet (.str k') _ = if k' = k then some v else dGet (.str k') ps
          exact ih h'
  · rename_i h
    have h' : (ps.any fun p => kEq (.str k) p.1) = false := by simpa using h
    have nk : k' = k → dGet (.str k') ps = none := fun z => by
      subst z
      clear h
      induction ps with
      | nil => rfl
      | cons p ps ih =>
        rw [List.any_cons, Bool.or_eq_false_iff] at h'
        show (if kEq (.str k') p.1 then some p.2 else dGet (.str k') ps) = none
        rw [h'.1]
        exact ih h'.2
    have ap : dGet (.str k') (ps ++ [(.str k, v)]) = (dGet (.str k') ps).or (if k' = k then some v else none) := by
      clear h h' nk
      induction ps with
      | nil =>
        show (if kEq (.str k') (.str k) then some v else none) = _
        rw [kEq_ss]
        by_cases z : k' = k <;> simp [z, dGet]
      | cons p ps ih =>
        show (if kEq (.str k') p.1 then some p.2 else dGet (.str k') (ps ++ [(.str k, v)])) = (if kEq (.str k') p.1 then some p.2 else dGet (.str k') ps).or _
        rw [ih]
        cases kEq (.str k') p.1 <;> rfl
    rw [ap]
    by_cases z : k' = k
    · rw [nk z]
      simp [z]
    · rw [if_neg z, if_neg z]
      cases dGet (.str k') ps <;> rfl
theorem dPut_le (k v : D) (ps : List (D × D)) : (dPut k v ps).length ≤ ps.length + 1 := by
  unfold dPut
  split
  · rw [List.length_map]
    omega
  · rw [List.length_append]
    exact Nat.le_refl _
theorem noLamP_map : ∀ (ps : List (D × D)) (k v : D), noLam v = true → noLamP ps = true → noLamP (ps.map fun p => if kEq k p.1 = true then (p.1, v) else p) = true
  | [], _, _, _, _ => rfl
  | (a, b) :: ps, k, v, h, h2 => by
    have h2 : (noLam b && noLamP ps) = true := h2
    rw [Bool.and_eq_true] at h2
    have i := noLamP_map ps k v h h2.2
    rw [List.map_cons]
    by_cases q : kEq k a = true
    · simp only [q, if_true]
      show (noLam v && noLamP _) = true
      rw [h, i] <;> rfl
    · simp only [q, if_false]
      show (noLam b && noLamP _) = true
      rw [h2.1, i] <;> rfl
theorem noLamP_app : ∀ (ps qs : List (D × D)), noLamP ps = true → noLamP qs = true → noLamP (ps ++ qs) = true
  | [], _, _, h => h
  | (a, b) :: ps, qs, h, h2 => by
    have h : (noLam b && noLamP ps) = true := h
    rw [Bool.and_eq_true] at h
    show (noLam b && noLamP (ps ++ qs)) = true
    rw [h.1, noLamP_app ps qs h.2 h2] <;> rfl
theorem noLamP_put (k v : D) (ps : List (D × D)) (h : noLam v = true) (h2 : noLamP ps = true) : noLamP (dPut k v ps) = true := by
  unfold dPut
  split
  · exact noLamP_map ps k v h h2
  · refine noLamP_app ps _ h2 ?_
    show (noLam v && true) = true
    rw [h] <;> rfl
theorem dcomp_get {f : D → Store → Option (Option (D × D) × Store)} {S : Store} {v : D} (hv : noLam v = true) (hf : ∀ s, f (.str s) S = some (some (.str s, v), S)) : ∀ (l : List (List Nat)) (acc : List (D × D)), acc.length + l.length < LIM → noLamP acc = true →
    ∃ ps, dcompG f (l.map .str) acc S = some (ps, S) ∧ ps.length ≤ acc.length + l.length ∧ (∀ k, dGet (.str k) ps = if k ∈ l then some v else dGet (.str k) acc) ∧ noLamP ps = true
  | [], acc, _, n => ⟨acc, rfl, Nat.le_refl _, fun k => by simp, n⟩
  | s :: l, acc, h, n => by
    rw [List.length_cons] at h
    have h1 := dPut_le (.str s) v acc
    obtain ⟨ps, e, hl, hg, hn⟩ := dcomp_get hv hf l (dPut (.str s) v acc) (by omega) (noLamP_put _ _ _ hv n)
    refine ⟨ps, ?_, by rw [List.length_cons]; omega, fun k => ?_, hn⟩
    · show bnd (f (.str s) S) _ = _
      rw [hf]
      simp only [bnd_some, isKey, Bool.true_and]
      rw [if_pos (decide_eq_true (by omega))]
      exact e
    · rw [hg, dGet_put]
      by_cases z : k ∈ l
      · simp [z]
      · by_cases y : k = s
        · simp [y]
        · simp [z, y]
/-! ### stores that grow -/
def Grw (S S' : Store) : Prop := ∃ T, S' = S ++ T ∧ noLamS T = true
theorem Grw.refl (S : Store) : Grw S S := ⟨[], by simp, rfl⟩
theorem Grw.trans {S S' S'' : Store} (h : Grw S S') (h' : Grw S' S'') : Grw S S'' := by
  obtain ⟨T, rfl, l⟩ := h
  obtain ⟨T', rfl, l'⟩ := h'
  refine ⟨T ++ T', by simp, ?_⟩
  unfold noLamS at *
  rw [List.all_append, l, l'] <;> rfl
theorem Grw.at_ {S S' : Store} (h : Grw S S') {i : Nat} {o : Ob} (e : S[i]? = some o) : S'[i]? = some o := by
  obtain ⟨T, rfl, _⟩ := h
  rw [List.getElem?_append_left (List.getElem?_eq_some_iff.mp e).1]
  exact e
theorem Grw.lam {S S' : Store} (h : Grw S S') (l : noLamS S = true) : noLamS S' = true := by
  obtain ⟨T, rfl, l'⟩ := h
  unfold noLamS at *
  rw [List.all_append, l, l'] <;> rfl
theorem Grw.gr {S S' : Store} (h : Grw S S') {a : Nat} {rs : List Rule} (g : IsGr S a rs) : IsGr S' a rs := by
  obtain ⟨k, e⟩ := g
  exact ⟨k, h.at_ e⟩
theorem Grw.bowl {S S' : Store} (h : Grw S S') {b : Nat} (g : Bowl S b) : Bowl S' b := by
  obtain ⟨x, y, z, e⟩ := g
  exact ⟨x, y, z, h.at_ e⟩
theorem compG_grw {α : Type} {f : D → Store → Option (Option D × Store)} {A B : α → D} {q : α → Bool} : ∀ {l : List α} {S : Store}, (∀ r ∈ l, ∀ S1, Grw S S1 → ∃ S2, f (A r) S1 = some (if q r then some (B r) else none, S2) ∧ Grw S1 S2) → ∃ S', compG f (l.map A) S = some ((l.filter q).map B, S') ∧ Grw S S'
  | [], S, _ => ⟨S, rfl, .refl S⟩
  | r :: l, S, h => by
    obtain ⟨S1, e1, g1⟩ := h r List.mem_cons_self S (.refl S)
    obtain ⟨S2, e2, g2⟩ := compG_grw (l := l) (S := S1) fun x hx S3 g3 => h x (List.mem_cons_of_mem _ hx) S3 (g1.trans g3)
    refine ⟨S2, ?_, g1.trans g2⟩
    rw [List.map_cons]
    unfold compG
    rw [e1, bnd_some, e2, bnd_some, List.filter_cons]
    cases q r <;> rfl
/-! ### alone -/
/-- the kinds in a body all else of which is so -/
def aloneB (q : List Nat → Bool) (body : List (List Nat)) (i : Nat) : Bool := match body[i]? with
  | some s => !decide (s ∈ letters) && (body.take i ++ body.drop (i + 1)).all q
  | none => false
def alone (q : List Nat → Bool) (body : List (List Nat)) : List (List Nat) := ((List.range body.length).filter (aloneB q body)).map fun i => body.getD i []
theorem enumD_range (l : List (List Nat)) : enumD 0 (l.map .str) = (List.range l.length).map fun i => .tup [.int (i : Int), .str (l.getD i [])] := by
  apply List.ext_getElem?
  intro i
  rw [enumD_at, List.getElem?_map, List.getElem?_map]
  by_cases h : i < l.length
  · rw [List.getElem?_range h, List.getElem?_eq_getElem h]
    simp [List.getD_eq_getElem?_getD, List.getElem?_eq_getElem h]
  · rw [List.getElem?_eq_none (by omega : l.length ≤ i), List.getElem?_eq_none (by simp; omega)]
    rfl
theorem rngD_range (m : Nat) : rngD 0 m = (List.range m).map fun i => .int (i : Int) := by
  apply List.ext_getElem?
  intro k
  by_cases h : k < m
  · rw [rngD_at m k 0 h, List.getElem?_map, List.getElem?_range h]
    simp
  · rw [List.getElem?_eq_none (by rw [rngD_len]; omega), List.getElem?_eq_none (by simp; omega)]
theorem others_strs (l : List (List Nat)) (i : Nat) : cut (l.map D.str) none (some (i : Int)) ++ cut (l.map D.str) (some ((i : Int) + 1)) none = (l.take i ++ l.drop (i + 1)).map .str := by
  have e : ((i : Int) + 1) = ((i + 1 : Nat) : Int) := by omega
  rw [e, cut_take, cut_drop, List.map_append, List.map_take, List.map_drop]
theorem alone_in_s (n : Nat) (body E : List (List Nat)) (S : Store) (hb : body.length ≤ 4) : cg (n + 3) 22 [] [.tup (body.map .str), .lst (E.map .str)] S = some (.lst ((alone (fun s => decide (s ∈ E)) body).map .str), S) := by
  rw [cg_succ (n + 2) 22 _ _ _ rfl]
  have c : evE prg (cg (n + 2)) (.comp (.var 3) (.tp (.cons (.nm 2) (.cons (.nm 3) .nil))) (.enum (.var 0)) (.som (.and (.not (.call 6 (.cons (.var 3) .nil))) (.blt .all (.cons (.comp (.cmp .isin (.var 4) (.var 1)) (.nm 4) (.e (.tup (.star (.sl (.var 0) .non (.som (.var 2))) (.star (.sl (.var 0) (.som (.bin .add (.var 2) (.cst (.int 1)))) .non) .nil)))) .non [4]) .nil)))) [2, 3]) [some (.tup (body.map .str)), some (.lst (E.map .str)), none, none, none] S = some (.lst ((alone (fun s => decide (s ∈ E)) body).map .str), S) := by
    refine (e_comp (items := enumD 0 (body.map .str)) (S1 := S) (by simp) (l := ((List.range body.length).filter (aloneB (fun s => decide (s ∈ E)) body)).map fun i => .str (body.getD i [])) (S2 := S) ?_ (by rw [List.length_map]; exact Nat.le_trans (List.length_filter_le _ _) (by rw [List.length_range]; unfold LIM; omega))).trans (by unfold alone; rw [List.map_map]; rfl)
    rw [enumD_range]
    refine compG_filter (B := fun i => .str (body.getD i [])) (q := aloneB (fun s => decide (s ∈ E)) body) fun i hi => ?_
    have hi := List.mem_range.mp hi
    have b : bindT (.tp (.cons (.nm 2) (.cons (.nm 3) .nil))) (.tup [.int (i : Int), .str (body.getD i [])]) (wipeE [some (.tup (body.map .str)), some (.lst (E.map .str)), none, none, none] [2, 3]) = some [some (.tup (body.map .str)), some (.lst (E.map .str)), some (.int (i : Int)), some (.str (body.getD i [])), none] := rfl
    have il := is_letter_s n (body.getD i []) S
    have al := all_strs (cg (n + 2)) (body.take i ++ body.drop (i + 1)) S (fun s => decide (s ∈ E)) [some (.tup (body.map .str)), some (.lst (E.map .str)), some (.int (i : Int)), some (.str (body.getD i [])), none] (.cmp .isin (.var 4) (.var 1)) 4 (.e (.tup (.star (.sl (.var 0) .non (.som (.var 2))) (.star (.sl (.var 0) (.som (.bin .add (.var 2) (.cst (.int 1)))) .non) .nil)))) (by
      have o := others_strs body i
      have l : (cut (body.map D.str) none (some (i : Int)) ++ cut (body.map D.str) (some ((i : Int) + 1)) none).length ≤ LIM := by
        rw [o, List.length_map, List.length_append, List.length_take, List.length_drop]
        unfold LIM
        omega
      have sl1 : evE prg (cg (n + 2)) (.sl (.var 0) .non (.som (.var 2))) [some (.tup (body.map .str)), some (.lst (E.map .str)), some (.int (i : Int)), some (.str (body.getD i [])), none] S = some (.tup (cut (body.map D.str) none (some (i : Int))), S) := by simp
      have sl2 : evE prg (cg (n + 2)) (.sl (.var 0) (.som (.bin .add (.var 2) (.cst (.int 1)))) .non) [some (.tup (body.map .str)), some (.lst (E.map .str)), some (.int (i : Int)), some (.str (body.getD i [])), none] S = some (.tup (cut (body.map D.str) (some ((i : Int) + 1)) none), S) := by simp
      rw [ei_e', e_tup, el_star', sl1, bnd_some, v_start, Option.bind_some, el_star', sl2, bnd_some, v_start, Option.bind_some, el_nil', bnd_some, bnd_some, bnd_some, List.append_nil, if_pos l, bnd_some, v_walkt, o]
      rfl) (by rw [List.length_append, List.length_take, List.length_drop]; omega) fun s hs => by
        simp [isin_strs s E S]
    rw [b, Option.bind_some, ec_som', e_and, e_not, e_call]
    simp only [el_cons', el_nil', e_var, List.getElem?_cons_succ, List.getElem?_cons_zero, bnd_some, il, v_dBl, Option.map_some]
    have ab : aloneB (fun s => decide (s ∈ E)) body i = (!decide (body.getD i [] ∈ letters) && (body.take i ++ body.drop (i + 1)).all fun s => decide (s ∈ E)) := by
      unfold aloneB
      rw [List.getD_eq_getElem?_getD, List.getElem?_eq_getElem hi]
      rfl
    rw [ab]
    cases decide (body.getD i [] ∈ letters)
    · simp only [Bool.not_false, Bool.true_and]
      rw [al]
      cases ((body.take i ++ body.drop (i + 1)).all fun s => decide (s ∈ E)) <;> simp
    · simp
  refine run_ret (ρ' := [some (.tup (body.map .str)), some (.lst (E.map .str)), none, none, none]) rfl rfl rfl (xs_ret ?_)
  show exS prg (cg (n + 2)) fuA (.ret _) [some (.tup (body.map .str)), some (.lst (E.map .str)), none, none, none] S = _
  rw [x_ret, c]
  rfl

end MT

set_option maxRecDepth 100000
set_option maxHeartbeats 1000000
namespace MT
open PySem PySem.Spec PyProof.Rows L2
/-! k05: leads, reached, turning -/
def leadsOf (q : List Nat → Bool) (rs : List Rule) (k : List Nat) : List (List Nat) := (rs.filter fun r => decide (r.1 = k)).flatMap fun r => alone q r.2
theorem leadsOf_take {q : List Nat → Bool} {rs : List Rule} {i : Nat} {r : Rule} (h : rs[i]? = some r) (k : List Nat) : leadsOf q (rs.take (i + 1)) k = leadsOf q (rs.take i) k ++ if r.1 = k then alone q r.2 else [] := by
  unfold leadsOf
  rw [List.take_add_one, h, List.filter_append, List.flatMap_append]
  congr 1
  show (List.filter _ [r]).flatMap _ = _
  by_cases z : r.1 = k
  · rw [if_pos z, List.filter_cons, if_pos (decide_eq_true z)]
    simp
  · rw [if_neg z, List.filter_cons, if_neg (by simp [z])]
    rfl
theorem alone_len (q : List Nat → Bool) (body : List (List Nat)) : (alone q body).length ≤ body.length := by
  unfold alone
  rw [List.length_map]
  exact Nat.le_trans (List.length_filter_le _ _) (Nat.le_of_eq List.length_range)
theorem alone_mem {q : List Nat → Bool} {body : List (List Nat)} {x : List Nat} (h : x ∈ alone q body) : x ∈ body ∧ x ∉ letters := by
  unfold alone at h
  obtain ⟨i, hi, rfl⟩ := List.mem_map.mp h
  obtain ⟨h1, h2⟩ := List.mem_filter.mp hi
  have h1 := List.mem_range.mp h1
  unfold aloneB at h2
  rw [List.getElem?_eq_getElem h1] at h2
  simp only [Bool.and_eq_true] at h2
  rw [List.getD_eq_getElem?_getD, List.getElem?_eq_getElem h1]
  exact ⟨List.getElem_mem h1, by simpa using h2.1⟩
theorem leads_kind {rs : List Rule} (g : GoodRules rs) {q : List Nat → Bool} {k x : List Nat} (h : x ∈ leadsOf q rs k) : x ∈ kindsOf rs := by
  obtain ⟨r, hr, hx⟩ := List.mem_flatMap.mp h
  obtain ⟨h1, h2⟩ := alone_mem hx
  exact g.bodyMem (List.mem_filter.mp hr).1 h1 h2
theorem flat_len {q : List Nat → Bool} : ∀ l : List Rule, (∀ r ∈ l, r.2.length ≤ 4) → (l.flatMap fun r => alone q r.2).length ≤ 4 * l.length
  | [], _ => Nat.le_refl _
  | r :: l, h => by
    have a := flat_len (q := q) l fun x hx => h x (List.mem_cons_of_mem _ hx)
    have b := alone_len q r.2
    have c := h r List.mem_cons_self
    rw [List.flatMap_cons, List.length_append, List.length_cons]
    omega
theorem leads_len (q : List Nat → Bool) (rs : List Rule) (h : ∀ r ∈ rs, r.2.length ≤ 4) (hl : rs.length ≤ 16) (k : List Nat) : (leadsOf q rs k).length ≤ 64 := by
  have a := flat_len (q := q) (rs.filter fun r => decide (r.1 = k)) fun r hr => h r (List.mem_filter.mp hr).1
  have b : (rs.filter fun r => decide (r.1 = k)).length ≤ rs.length := List.length_filter_le _ _
  unfold leadsOf
  omega
theorem noLam_strs (l : List (List Nat)) : noLam (.lst (l.map .str)) = true := noLams_strs l
theorem ap0 (S : Store) (A : Ob) (T : List Ob) : (S ++ A :: T)[S.length]? = some A := by simp
theorem ap1 (S : Store) (A B : Ob) (T : List Ob) : (S ++ A :: B :: T)[S.length + 1]? = some B := by simp
theorem set0 (S : Store) (A A' : Ob) (T : List Ob) : (S ++ A :: T).set S.length A' = S ++ A' :: T := by simp
theorem set1 (S : Store) (A B B' : Ob) (T : List Ob) : (S ++ A :: B :: T).set (S.length + 1) B' = S ++ A :: B' :: T := by
  rw [List.set_append_right _ _ (by omega)]
  have : S.length + 1 - S.length = 1 := by omega
  rw [this]
  rfl
theorem Grw.app {S : Store} {T : List Ob} (h : noLamS T = true) : Grw S (S ++ T) := ⟨T, rfl, h⟩
noncomputable abbrev empB (rs : List Rule) : List Nat → Bool := fun s => decide (s ∈ kindsBy rs (Mk rs false))
theorem empties_s (n a : Nat) (rs : List Rule) (g : GoodRules rs) (S : Store) (h : IsGr S a rs) : cg (n + 5) 21 [] [.obj a] S = some (.lst ((kindsBy rs (Mk rs false)).map .str), S) := by
  rw [cg_succ (n + 4) 21 _ _ _ rfl]
  have m := makers_s n a rs g false S h
  simp [runF, ir21, m]
theorem barren_s (n a : Nat) (rs : List Rule) (g : GoodRules rs) (S : Store) (h : IsGr S a rs) : cg (n + 5) 20 [] [.obj a] S = some (.lst ((kindsBy rs fun k => ¬ Mk rs true k).map .str), S) := by
  rw [cg_succ (n + 4) 20 _ _ _ rfl]
  have m := makers_s n a rs g true S h
  have a3 := att3 (n + 3) h
  have k8 := kinds_len g
  have fl := filter_strs_s (cg (n + 4)) (kindsOf rs) S (fun s => !decide (s ∈ kindsBy rs (Mk rs true))) [some (.obj a), some (.lst ((kindsBy rs (Mk rs true)).map .str)), none] (.cmp .notin (.var 2) (.var 1)) 2 (.e (.att (.var 0) 3)) (by simp [a3, kindsD]) (by simp) (by omega) fun s hs => by
    simp [in_found S s (kindsBy rs (Mk rs true))]
  rw [kindsBy_eq (P := fun k => ¬ Mk rs true k) fun k hk => by
    unfold kindsBy
    simp [hk]] at fl
  refine run_ret (ρ' := [some (.obj a), some (.lst ((kindsBy rs (Mk rs true)).map .str)), none]) rfl rfl rfl ((xs_nx (S1 := S) (ρ1 := [some (.obj a), some (.lst ((kindsBy rs (Mk rs true)).map .str)), none]) ?_).trans (xs_ret ?_))
  · simp [m]
  · rw [x_ret, fl]
    rfl
theorem leads_s (n a : Nat) (rs : List Rule) (g : GoodRules rs) (S : Store) (h : IsGr S a rs) : ∃ ps, cg (n + 6) 23 [] [.obj a] S = some (.obj S.length, S ++ [.dct ps]) ∧ noLamP ps = true ∧ ∀ k ∈ kindsOf rs, dGet (.str k) ps = some (.lst ((leadsOf (empB rs) rs k).map .str)) := by
  rw [cg_succ (n + 5) 23 _ _ _ rfl]
  have em := empties_s n a rs g S h
  have a3 := att3 (n + 4) h
  have k8 := kinds_len g
  have l16 := g.most
  have b4 : ∀ r ∈ rs, r.2.length ≤ 4 := fun r hr => (g.good r hr).2.1
  obtain ⟨ps0, e0, l0, g0, n0⟩ := dcomp_get (v := .lst []) (f := fun d0 S => (bindT (.nm 1) d0 (wipeE [some (.obj a), none, none, none, none] [1])).bind fun ρ1 => bnd (evC prg (cg (n + 5)) .non ρ1 S) fun b S => if b then bnd (evE prg (cg (n + 5)) (.var 1) ρ1 S) fun y S => bnd (evE prg (cg (n + 5)) (.lst .nil) ρ1 S) fun z S => some (some (y, z), S) else some (none, S)) (S := S) rfl (fun s => by simp [LIM]) (kindsOf rs) [] (by simp [LIM]; omega) rfl
  have dc : evE prg (cg (n + 5)) (.dcomp (.var 1) (.lst .nil) (.nm 1) (.e (.att (.var 0) 3)) .non [1]) [some (.obj a), none, none, none, none] S = some (.dct ps0, S) := by
    have it : evI prg (cg (n + 5)) (.e (.att (.var 0) 3)) [some (.obj a), none, none, none, none] S = some ((kindsOf rs).map .str, S) := by simp [a3, kindsD]
    unfold evE
    rw [it]
    simp only [bnd_some]
    rw [e0]
    simp only [bnd_some]
    rw [if_pos (by simp at l0; unfold LIM; omega)]
  let E := kindsBy rs (Mk rs false)
  have st1 : exS prg (cg (n + 5)) fuA (.par [2, 3] (.cons (.call 21 (.cons (.var 0) .nil)) (.cons (.box (.dcomp (.var 1) (.lst .nil) (.nm 1) (.e (.att (.var 0) 3)) .non [1])) .nil))) [some (.obj a), none, none, none, none] S = some (.nx, [some (.obj a), none, some (.lst (E.map .str)), some (.obj S.length), none], S ++ [.dct ps0]) := by
    have c1 : evE prg (cg (n + 5)) (.call 21 (.cons (.var 0) .nil)) [some (.obj a), none, none, none, none] S = some (.lst (E.map .str), S) := by simp [em]; rfl
    rw [x_par, el_cons', c1, bnd_some, el_cons', e_box, dc, bnd_some, v_boxSd, bnd_some, el_nil', bnd_some, bnd_some, bnd_some]
    rfl
  let Inv : Nat → Envr → Store → Prop := fun i ρ S' => ∃ (ps : List (D × D)) (x1 x4 : Option D), S' = S ++ [.dct ps] ∧ (∀ k ∈ kindsOf rs, dGet (.str k) ps = some (.lst ((leadsOf (empB rs) (rs.take i) k).map .str))) ∧ ps.length ≤ 8 + i ∧ noLamP ps = true ∧ ρ = [some (.obj a), x1, some (.lst (E.map .str)), some (.obj S.length), x4]
  obtain ⟨ρ', S', e, ps, x1, x4, rfl, hg, hl, hn, rfl⟩ := forG_inv (step := fun d ρ S => (bindT (.tp (.cons (.nm 1) (.cons (.nm 4) .nil))) d ρ).bind fun ρ => exSs prg (cg (n + 5)) fuA (.cons (.seto (.var 3) (.var 1) (.lst (.star (.idx (.var 3) (.var 1)) (.star (.call 22 (.cons (.var 4) (.cons (.var 2) .nil))) .nil)))) .nil) ρ S) Inv (rs.map ruleD) 0
    [some (.obj a), none, some (.lst (E.map .str)), some (.obj S.length), none] (S ++ [.dct ps0]) ⟨ps0, none, none, rfl, fun k hk => by rw [g0, if_pos hk]; rfl, by simp at l0; omega, n0, rfl⟩ (fun i d ρ S1 hd ⟨ps, x1, x4, e1, hg, hl, hn, e2⟩ => by
      subst e1 e2
      rw [List.getElem?_map] at hd
      cases q : rs[i]? with
      | none => rw [q] at hd; cases hd
      | some r =>
        rw [q] at hd
        cases hd
        rw [Nat.zero_add] at hg hl ⊢
        have hr := List.mem_of_getElem? q
        have il := (List.getElem?_eq_some_iff.mp q).1
        have at_ : (S ++ [.dct ps])[S.length]? = some (.dct ps) := ap0 S _ []
        have gk := hg r.1 (g.kindMem hr)
        have al := alone_in_s (n + 2) r.2 E (S ++ [.dct ps]) (b4 r hr)
        have al : cg (n + 5) 22 [] [.tup (r.2.map .str), .lst (E.map .str)] (S ++ [.dct ps]) = some (.lst ((alone (empB rs) r.2).map .str), S ++ [.dct ps]) := al
        have ll : (leadsOf (empB rs) (rs.take i) r.1).length + (alone (empB rs) r.2).length ≤ LIM := by
          have := leads_len (empB rs) (rs.take i) (fun x hx => b4 x (List.mem_of_mem_take hx)) (by rw [List.length_take]; omega) r.1
          have := alone_len (empB rs) r.2
          have := b4 r hr
          unfold LIM
          omega
        have so := v_setod (s := r.1) (v := .lst ((leadsOf (empB rs) (rs.take i) r.1 ++ alone (empB rs) r.2).map .str)) at_ (by unfold LIM; omega)
        rw [set0] at so
        have so' : setObD (.obj S.length) (.str r.1) (.lst ((leadsOf (empB rs) (rs.take i) r.1).map .str ++ (alone (empB rs) r.2).map .str)) (S ++ [.dct ps]) = some (S ++ [.dct (dPut (.str r.1) (.lst ((leadsOf (empB rs) (rs.take i) r.1 ++ alone (empB rs) r.2).map .str)) ps)]) := by
          rw [← List.map_append]
          exact so
        have ix : idxD (S ++ [.dct ps]) (.obj S.length) (.str r.1) = some (.lst ((leadsOf (empB rs) (rs.take i) r.1).map .str)) := (v_ixd at_).trans gk
        refine ⟨[some (.obj a), some (.str r.1), some (.lst (E.map .str)), some (.obj S.length), some (.tup (r.2.map .str))], S ++ [.dct (dPut (.str r.1) (.lst ((leadsOf (empB rs) (rs.take i) r.1 ++ alone (empB rs) r.2).map .str)) ps)], ?_, _, _, _, rfl, fun k hk => ?_, ?_, noLamP_put _ _ _ (noLam_strs _) hn, rfl⟩
        · show exSs prg (cg (n + 5)) fuA _ [some (.obj a), some (.str r.1), some (.lst (E.map .str)), some (.obj S.length), some (.tup (r.2.map .str))] (S ++ [.dct ps]) = _
          simp [ix, al, ll, so']
        · rw [dGet_put, leadsOf_take q]
          by_cases z : k = r.1
          · subst z
            simp
          · rw [if_neg z, if_neg (fun y => z y.symm), List.append_nil]
            exact hg k hk
        · have := dPut_le (.str r.1) (.lst ((leadsOf (empB rs) (rs.take i) r.1 ++ alone (empB rs) r.2).map .str)) ps
          omega)
  rw [Nat.zero_add, List.length_map, List.take_length] at hg
  refine ⟨ps, ?_, hn, hg⟩
  have a4 := att4 (n + 4) ((Grw.app (S := S) (T := [.dct ps0]) (by show (noLamP ps0 && true) = true; rw [n0] <;> rfl)).gr h)
  exact run_ret (ρ' := [some (.obj a), x1, some (.lst (E.map .str)), some (.obj S.length), x4]) rfl rfl rfl ((xs_nx st1).trans ((xs_nx (x_fr (S1 := S ++ [.dct ps0]) (items := rs.map ruleD) (by simp [a4, rulesD]) e)).trans (xs_ret (by simp))))
/-! ### reached -/
inductive Rch (L : List Nat → List (List Nat)) (k : List Nat) : List Nat → Prop where
  | one {x : List Nat} (h : x ∈ L k) : Rch L k x
  | step {y x : List Nat} (h : Rch L k y) (h' : x ∈ L y) : Rch L k x
def wsum (L : List Nat → List (List Nat)) (K F : List (List Nat)) : Nat := ((K.filter fun k => !decide (k ∈ F)).map fun k => (L k).length).sum
theorem wsum_cons (L : List Nat → List (List Nat)) (k : List Nat) (K F : List (List Nat)) : wsum L (k :: K) F = (if k ∈ F then 0 else (L k).length) + wsum L K F := by
  unfold wsum
  rw [List.filter_cons]
  by_cases h : k ∈ F <;> simp [h]
theorem wsum_mono (L : List Nat → List (List Nat)) (y : List Nat) (F : List (List Nat)) : ∀ K, wsum L K (F ++ [y]) ≤ wsum L K F
  | [] => Nat.le_refl _
  | k :: K => by
    have i := wsum_mono L y F K
    rw [wsum_cons, wsum_cons]
    by_cases h : k ∈ F
    · simp [h]; exact i
    · rw [if_neg h]
      split <;> omega
theorem wsum_add (L : List Nat → List (List Nat)) (y : List Nat) (F : List (List Nat)) (hF : y ∉ F) : ∀ K, y ∈ K → wsum L K (F ++ [y]) + (L y).length ≤ wsum L K F
  | k :: K, h => by
    rw [wsum_cons, wsum_cons]
    by_cases z : k = y
    · subst z
      have i := wsum_mono L k F K
      rw [if_neg hF, if_pos (by simp)]
      omega
    · have hK : y ∈ K := (List.mem_cons.mp h).resolve_left fun e => z e.symm
      have i := wsum_add L y F hF K hK
      by_cases f : k ∈ F
      · rw [if_pos f, if_pos (by simp [f])]
        omega
      · rw [if_neg f, if_neg (by simp [f, z])]
        omega
theorem wsum_le (L : List Nat → List (List Nat)) (F : List (List Nat)) (b : Nat) : ∀ K : List (List Nat), (∀ k ∈ K, (L k).length ≤ b) → wsum L K F ≤ K.length * b
  | [], _ => Nat.zero_le _
  | k :: K, h => by
    have i := wsum_le L F b K fun x hx => h x (List.mem_cons_of_mem _ hx)
    have := h k List.mem_cons_self
    rw [wsum_cons, List.length_cons, Nat.add_mul]
    split <;> omega
theorem dGet_true (y : List Nat) : ∀ F : List (List Nat), dGet (.str y) (F.map fun t => (D.str t, D.bl true)) = if y ∈ F then some (.bl true) else none
  | [] => rfl
  | t :: F => by
    have i := dGet_true y F
    show (if kEq (.str y) (.str t) then some (D.bl true) else dGet (.str y) (F.map fun t => (D.str t, D.bl true))) = _
    rw [i, kEq_ss]
    by_cases z : y = t
    · simp [z]
    · simp [z]
theorem noLamP_true : ∀ F : List (List Nat), noLamP (F.map fun t => (D.str t, D.bl true)) = true
  | [] => rfl
  | t :: F => by
    show (true && noLamP (F.map fun t => (D.str t, D.bl true))) = true
    rw [noLamP_true F] <;> rfl
theorem reached_s (n m : Nat) (S : Store) (ps : List (D × D)) (L : List Nat → List (List Nat)) (K : List (List Nat)) (hm : S[m]? = some (.dct ps)) (hg : ∀ k ∈ K, dGet (.str k) ps = some (.lst ((L k).map .str))) (hK : ∀ k, ∀ x ∈ L k, x ∈ K) (hl : ∀ k, (L k).length ≤ 64) (k8 : K.length ≤ 8) (k0 : List Nat) (h0 : k0 ∈ K) :
    ∃ F : List (List Nat), cg (n + 1) 24 [] [.obj m, .str k0] S = some (.obj S.length, S ++ [.dct (F.map fun t => (D.str t, D.bl true)), .lst []]) ∧ ∀ x, x ∈ F ↔ Rch L k0 x := by
  rw [cg_succ n 24 _ _ _ rfl]
  have rk : ∀ x, Rch L k0 x → x ∈ K := fun x h => by cases h with
    | one h => exact hK _ _ h
    | step _ h => exact hK _ _ h
  have w0 := wsum_le L [] 64 K fun k _ => hl k
  have lk := hl k0
  have old : ∀ T : List Ob, (S ++ T)[m]? = some (.dct ps) := fun T => by rw [List.getElem?_append_left (List.getElem?_eq_some_iff.mp hm).1]; exact hm
  have st1 : exS prg (cg n) fuA (.par [2, 3] (.cons .newd (.cons (.box (.blt .list (.cons (.idx (.var 0) (.var 1)) .nil))) .nil))) [some (.obj m), some (.str k0), none, none, none] S = some (.nx, [some (.obj m), some (.str k0), some (.obj S.length), some (.obj (S.length + 1)), none], S ++ [.dct [], .lst ((L k0).map .str)]) := by
    have ix : idxD (S ++ [.dct []]) (.obj m) (.str k0) = some (.lst ((L k0).map .str)) := (v_ixd (old _)).trans (hg k0 h0)
    simp [ix]
  let Inv : Nat → Envr → Store → Prop := fun j ρ S' => ∃ (F line : List (List Nat)) (x4 : Option D), S' = S ++ [.dct (F.map fun t => (D.str t, D.bl true)), .lst (line.map .str)] ∧ ρ = [some (.obj m), some (.str k0), some (.obj S.length), some (.obj (S.length + 1)), x4] ∧ (∀ x ∈ F, Rch L k0 x) ∧ (∀ x ∈ line, Rch L k0 x) ∧ (∀ x ∈ F, ∀ y ∈ L x, y ∈ F ∨ y ∈ line) ∧ (∀ y ∈ L k0, y ∈ F ∨ y ∈ line) ∧ j = line.length + wsum L K F ∧ F.length + (line.length + wsum L K F) ≤ 900
  let Post : Fl × Envr × Store → Prop := fun r => ∃ (F : List (List Nat)) (x4 : Option D), r = (.nx, [some (.obj m), some (.str k0), some (.obj S.length), some (.obj (S.length + 1)), x4], S ++ [.dct (F.map fun t => (D.str t, D.bl true)), .lst []]) ∧ (∀ x ∈ F, Rch L k0 x) ∧ (∀ x ∈ F, ∀ y ∈ L x, y ∈ F) ∧ (∀ y ∈ L k0, y ∈ F)
  obtain ⟨r, e, F, x4, rfl, hF, hc, hc0⟩ := whlG_wf (c := fun ρ S => bnd (evE prg (cg n) (.emp true (.var 3)) ρ S) fun x S => (dBl x).map fun b => (b, S)) (step := fun ρ S => exSs prg (cg n) fuA (.cons (.set 4 (.popo (.var 3))) (.cons (.iff (.cmp .notin (.var 4) (.var 2)) (.cons (.seto (.var 2) (.var 4) (.cst (.bl true))) (.cons (.exto (.var 3) (.idx (.var 0) (.var 4))) .nil)) .nil) .nil)) ρ S) Inv Post (fun j ρ S' ⟨F, line, x4, e1, e2, hF, hL, hc, hc0, hj, hb⟩ => by
      subst e1 e2
      have a1 : (S ++ [.dct (F.map fun t => (D.str t, D.bl true)), .lst (line.map .str)])[S.length + 1]? = some (.lst (line.map .str)) := ap1 S _ _ []
      have em := v_empo (ng := true) a1 (flats_strs line)
      rcases List.eq_nil_or_concat line with rfl | ⟨l, y, rfl⟩
      · refine .inl ⟨_, ?_, F, x4, rfl, hF, fun x hx y hy => (hc x hx y hy).resolve_right (by simp), fun y hy => (hc0 y hy).resolve_right (by simp)⟩
        have em' : empS true (.obj (S.length + 1)) (S ++ [.dct (F.map fun t => (D.str t, D.bl true)), .lst []]) = some (.bl false, S ++ [.dct (F.map fun t => (D.str t, D.bl true)), .lst []]) := em
        simp [em']
      · refine .inr ⟨S ++ [.dct (F.map fun t => (D.str t, D.bl true)), .lst ((l ++ [y]).map .str)], ?_, .inr ?_⟩
        · simp at em
          simp [em]
        · have ry := hL y (by simp)
          have yK := rk y ry
          have po := v_pop (S := S ++ [.dct (F.map fun t => (D.str t, D.bl true)), .lst ((l ++ [y]).map .str)]) (n := S.length + 1) (l := l.map .str) (y := .str y) (by rw [ap1]; simp)
          rw [set1] at po
          have s1 : ∀ r, exSs prg (cg n) fuA (.cons (.set 4 (.popo (.var 3))) r) [some (.obj m), some (.str k0), some (.obj S.length), some (.obj (S.length + 1)), x4] (S ++ [.dct (F.map fun t => (D.str t, D.bl true)), .lst ((l ++ [y]).map .str)]) = exSs prg (cg n) fuA r [some (.obj m), some (.str k0), some (.obj S.length), some (.obj (S.length + 1)), some (.str y)] (S ++ [.dct (F.map fun t => (D.str t, D.bl true)), .lst (l.map .str)]) := fun r => by
            refine xs_nx ?_
            rw [x_set, e_popo]
            simp only [e_var, List.getElem?_cons_succ, List.getElem?_cons_zero, bnd_some, po]
            rfl
          have b0 : (S ++ [.dct (F.map fun t => (D.str t, D.bl true)), .lst (l.map .str)])[S.length]? = some (.dct (F.map fun t => (D.str t, D.bl true))) := ap0 S _ _
          have ni := v_notino (s := y) b0
          rw [dGet_true] at ni
          have hb' : F.length + ((l.length + 1) + wsum L K F) ≤ 900 := by simpa using hb
          have hj' : j = (l.length + 1) + wsum L K F := by simpa using hj
          by_cases q : y ∈ F
          · rw [if_pos q] at ni
            refine ⟨_, S ++ [.dct (F.map fun t => (D.str t, D.bl true)), .lst (l.map .str)], l.length + wsum L K F, ?_, by omega, F, l, some (.str y), rfl, rfl, hF, fun x hx => hL x (by simp [hx]), fun x hx z hz => ?_, fun z hz => ?_, rfl, by omega⟩
            · rw [s1]
              simp [ni]
            · rcases hc x hx z hz with h | h
              · exact .inl h
              · simp at h
                rcases h with h | h
                · exact .inr h
                · exact .inl (h ▸ q)
            · rcases hc0 z hz with h | h
              · exact .inl h
              · simp at h
                rcases h with h | h
                · exact .inr h
                · exact .inl (h ▸ q)
          · rw [if_neg q] at ni
            have ws := wsum_add L y F q K yK
            have so := v_setod (s := y) (v := .bl true) b0 (by rw [List.length_map]; unfold LIM; omega)
            rw [set0, dPut_true, if_neg q] at so
            have c1 : (S ++ [.dct ((F ++ [y]).map fun t => (D.str t, D.bl true)), .lst (l.map .str)])[S.length + 1]? = some (.lst (l.map .str)) := ap1 S _ _ []
            have ix : idxD (S ++ [.dct ((F ++ [y]).map fun t => (D.str t, D.bl true)), .lst (l.map .str)]) (.obj m) (.str y) = some (.lst ((L y).map .str)) := (v_ixd (old _)).trans (hg y yK)
            have lb : l.length + (L y).length ≤ LIM := by have := hl y; unfold LIM; omega
            have ex := v_exto (m := (L y).map .str) c1 (by rw [List.length_map, List.length_map]; exact lb)
            rw [set1, ← List.map_append] at ex
            have isl : isLst (deref (S ++ [.dct ((F ++ [y]).map fun t => (D.str t, D.bl true)), .lst (l.map .str)]) (.obj (S.length + 1))) = true := by rw [v_derefl c1]; rfl
            refine ⟨_, S ++ [.dct ((F ++ [y]).map fun t => (D.str t, D.bl true)), .lst ((l ++ L y).map .str)], (l ++ L y).length + wsum L K (F ++ [y]), ?_, by rw [List.length_append]; omega, F ++ [y], l ++ L y, some (.str y), rfl, rfl, ?_, ?_, ?_, ?_, rfl, by rw [List.length_append, List.length_append]; simp only [List.length_cons, List.length_nil]; omega⟩
            · rw [s1]
              rw [xs_nx (S1 := S ++ [.dct ((F ++ [y]).map fun t => (D.str t, D.bl true)), .lst ((l ++ L y).map .str)]) (ρ1 := [some (.obj m), some (.str k0), some (.obj S.length), some (.obj (S.length + 1)), some (.str y)])]
              · simp
              · rw [x_iff, e_cmp]
                simp only [e_var, List.getElem?_cons_succ, List.getElem?_cons_zero, bnd_some, ni, Option.map_some, v_dBl, Option.isSome_none, Bool.not_false]
                rw [xs_nx (S1 := S ++ [.dct ((F ++ [y]).map fun t => (D.str t, D.bl true)), .lst (l.map .str)]) (ρ1 := [some (.obj m), some (.str k0), some (.obj S.length), some (.obj (S.length + 1)), some (.str y)])]
                · rw [xs_nx (S1 := S ++ [.dct ((F ++ [y]).map fun t => (D.str t, D.bl true)), .lst ((l ++ L y).map .str)]) (ρ1 := [some (.obj m), some (.str k0), some (.obj S.length), some (.obj (S.length + 1)), some (.str y)])]
                  · simp
                  · rw [x_exto]
                    simp only [e_idx, e_var, List.getElem?_cons_succ, List.getElem?_cons_zero, bnd_some, isl, if_true, ix, Option.map_some, ex]
                · rw [x_seto]
                  simp only [e_cst, e_var, List.getElem?_cons_succ, List.getElem?_cons_zero, bnd_some, so, Option.map_some]
            · intro x hx
              rcases List.mem_append.mp hx with hx | hx
              · exact hF x hx
              · simp at hx
                exact hx ▸ ry
            · intro x hx
              rcases List.mem_append.mp hx with hx | hx
              · exact hL x (by simp [hx])
              · exact .step ry hx
            · intro x hx z hz
              rcases List.mem_append.mp hx with hx | hx
              · rcases hc x hx z hz with h | h
                · exact .inl (by simp [h])
                · simp at h
                  rcases h with h | h
                  · exact .inr (by simp [h])
                  · exact .inl (by simp [h])
              · simp at hx
                exact .inr (by rw [hx] at hz; simp [hz])
            · intro z hz
              rcases hc0 z hz with h | h
              · exact .inl (by simp [h])
              · simp at h
                rcases h with h | h
                · exact .inr (by simp [h])
                · exact .inl (by simp [h]))
    fuA ((L k0).length + wsum L K []) [some (.obj m), some (.str k0), some (.obj S.length), some (.obj (S.length + 1)), none] (S ++ [.dct [], .lst ((L k0).map .str)]) ⟨[], L k0, none, rfl, rfl, nofun, fun x hx => .one hx, nofun, fun y hy => .inr hy, rfl, by simp; omega⟩ (by unfold fuA; omega)
  refine ⟨F, ?_, fun x => ⟨hF x, fun h => ?_⟩⟩
  · exact run_ret (ρ' := [some (.obj m), some (.str k0), some (.obj S.length), some (.obj (S.length + 1)), x4]) rfl rfl rfl ((xs_nx st1).trans ((xs_nx (by rw [x_whl]; exact e)).trans (xs_ret (by simp))))
  · induction h with
    | one h => exact hc0 _ h
    | step _ h ih => exact hc _ ih _ h

end MT

set_option maxRecDepth 100000
set_option maxHeartbeats 1000000
namespace MT
open PySem PySem.Spec PyProof.Rows L2
/-! k05: turning, the interface -/
abbrev Turn (rs : List Rule) (q : List Nat → Bool) (k : List Nat) : Prop := Rch (leadsOf q rs) k k
theorem filter_grw_s (c : Call) (l : List (List Nat)) (S S1 : Store) (P : List Nat → Prop) (ρ : Envr) (x : MT.E) (w : Nat) (it : It) (hi : evI prg c it ρ S = some (l.map .str, S1)) (hw : w < ρ.length) (hl : l.length ≤ 1000)
    (hx : ∀ s ∈ l, ∀ S2, Grw S1 S2 → ∃ b S3, evE prg c x (ρ.set w (some (.str s))) S2 = some (.bl b, S3) ∧ (b = true ↔ P s) ∧ Grw S2 S3) :
    ∃ S', evE prg c (.comp (.var w) (.nm w) it (.som x) [w]) ρ S = some (.lst (open Classical in (l.filter fun s => decide (P s)).map .str), S') ∧ Grw S1 S' := by
  have key : ∃ S', compG (fun d S => (bindT (.nm w) d (wipeE ρ [w])).bind fun ρ1 => bnd (evC prg c (.som x) ρ1 S) fun b S => if b then bnd (evE prg c (.var w) ρ1 S) fun y S => some (some y, S) else some (none, S)) (l.map .str) S1 = some (open Classical in (l.filter fun s => decide (P s)).map .str, S') ∧ Grw S1 S' := by
    refine compG_grw (A := D.str) (B := D.str) (q := open Classical in fun s => decide (P s)) fun s hs S2 G => ?_
    obtain ⟨b, S3, e, hb, G3⟩ := hx s hs S2 G
    refine ⟨S3, ?_, G3⟩
    have v : (ρ.set w (some (.str s)))[w]? = some (some (.str s)) := List.getElem?_set_self hw
    by_cases z : P s
    · have := hb.mpr z
      subst this
      simp [e, v, z]
    · have : b = false := by
        cases b
        · rfl
        · exact absurd (hb.mp rfl) z
      subst this
      simp [e, z]
  obtain ⟨S', e, G⟩ := key
  exact ⟨S', e_comp hi e (by rw [List.length_map]; exact Nat.le_trans (List.length_filter_le _ _) (by unfold LIM; omega)), G⟩
theorem turning_s (n a : Nat) (rs : List Rule) (g : GoodRules rs) (S : Store) (h : IsGr S a rs) : ∃ S', cg (n + 7) 25 [] [.obj a] S = some (.lst ((kindsBy rs (Turn rs (empB rs))).map .str), S') ∧ Grw S S' := by
  rw [cg_succ (n + 6) 25 _ _ _ rfl]
  obtain ⟨ps, e1, n1, g1⟩ := leads_s n a rs g S h
  have G1 : Grw S (S ++ [.dct ps]) := .app (by show (noLamP ps && true) = true; rw [n1] <;> rfl)
  have k8 := kinds_len g
  have b4 : ∀ r ∈ rs, r.2.length ≤ 4 := fun r hr => (g.good r hr).2.1
  have a3 := att3 (n + 5) (G1.gr h)
  obtain ⟨S', e2, G2⟩ := filter_grw_s (cg (n + 6)) (kindsOf rs) (S ++ [.dct ps]) (S ++ [.dct ps]) (Turn rs (empB rs)) [some (.obj a), some (.obj S.length), none] (.cmp .isin (.var 2) (.call 24 (.cons (.var 1) (.cons (.var 2) .nil)))) 2 (.e (.att (.var 0) 3)) (by simp [a3, kindsD]) (by simp) (by omega) fun k hk S2 G => by
    have at_ := G.at_ (ap0 S (.dct ps) [])
    obtain ⟨F, e3, hF⟩ := reached_s (n + 5) S.length S2 ps (leadsOf (empB rs) rs) (kindsOf rs) at_ g1 (fun k x hx => leads_kind g hx) (fun k => leads_len _ rs b4 g.most k) k8 k hk
    have i := v_ino (s := k) (ap0 S2 (.dct (F.map fun t => (D.str t, D.bl true))) [.lst []])
    rw [dGet_true] at i
    have e3 : cg (n + 6) 24 [] [.obj S.length, .str k] S2 = some (.obj S2.length, S2 ++ [.dct (F.map fun t => (D.str t, D.bl true)), .lst []]) := e3
    refine ⟨decide (k ∈ F), S2 ++ [.dct (F.map fun t => (D.str t, D.bl true)), .lst []], ?_, by rw [decide_eq_true_eq]; exact hF k, .app ?_⟩
    · by_cases z : k ∈ F
      · rw [if_pos z] at i
        simp [e3, i, z]
      · rw [if_neg z] at i
        simp [e3, i, z]
    · show (noLamP (F.map fun t => (D.str t, D.bl true)) && (true && true)) = true
      rw [noLamP_true] <;> rfl
  refine ⟨S', ?_, G1.trans G2⟩
  refine run_ret (ρ' := [some (.obj a), some (.obj S.length), none]) rfl rfl rfl ((xs_nx (S1 := S ++ [.dct ps]) (ρ1 := [some (.obj a), some (.obj S.length), none]) ?_).trans (xs_ret ?_))
  · simp [e1]
  · rw [x_ret, e2]
    rfl
def headO (l : List (List Nat)) : D := match l with
  | [] => .non
  | s :: _ => .str s
noncomputable abbrev barrens (rs : List Rule) : List (List Nat) := kindsBy rs fun k => ¬ Mk rs true k
noncomputable abbrev turns (rs : List Rule) : List (List Nat) := kindsBy rs (Turn rs (empB rs))
noncomputable abbrev empties (rs : List Rule) : List (List Nat) := kindsBy rs (Mk rs false)
theorem head_s (c : Call) (l : List (List Nat)) (S : Store) (ρ : Envr) (v : Nat) (h : ρ[v]? = some (some (.lst (l.map .str)))) : evE prg c (.ite (.cmp .ne (.var v) (.lst .nil)) (.idx (.var v) (.cst (.int 0))) (.cst .non)) ρ S = some (headO l, S) := by
  have e := eq_lst_nil l
  cases l with
  | nil =>
    have e : eqD (.lst []) (.lst []) = some true := e
    simp [h, LIM, e, headO]
  | cons s l =>
    rw [decide_eq_false (by simp)] at e
    simp [LIM, headO, h]
    simp at e
    simp [e]
theorem by_len {rs : List Rule} (g : GoodRules rs) (P : List Nat → Prop) : (kindsBy rs P).length ≤ 8 := Nat.le_trans (List.length_filter_le _ _) (kinds_len g)
theorem wrong_kinds_s (n a : Nat) (rs : List Rule) (g : GoodRules rs) (S : Store) (h : IsGr S a rs) : ∃ S', cg (n + 8) 26 [] [.obj a] S = some (.lst (((barrens rs ++ turns rs).take 1).map .str), S') ∧ Grw S S' := by
  rw [cg_succ (n + 7) 26 _ _ _ rfl]
  have b := barren_s (n + 2) a rs g S h
  have b : cg (n + 7) 20 [] [.obj a] S = some (.lst ((barrens rs).map .str), S) := b
  obtain ⟨S', t, G⟩ := turning_s n a rs g S h
  refine ⟨S', ?_, G⟩
  have l : (barrens rs).length + (turns rs).length ≤ LIM := by
    have h1 : (barrens rs).length ≤ 8 := by_len g (fun k => ¬ Mk rs true k)
    have h2 : (turns rs).length ≤ 8 := by_len g (Turn rs (empB rs))
    unfold LIM
    omega
  have c := cut_take ((barrens rs ++ turns rs).map D.str) 1
  rw [← List.map_take, List.map_append] at c
  have c : cut ((barrens rs).map D.str ++ (turns rs).map D.str) none (some 1) = ((barrens rs ++ turns rs).take 1).map .str := c
  simp [runF, ir26, b, t, l, c]
theorem first_barren_s (n a : Nat) (rs : List Rule) (g : GoodRules rs) (S : Store) (h : IsGr S a rs) : cg (n + 6) 27 [] [.obj a] S = some (headO (barrens rs), S) := by
  rw [cg_succ (n + 5) 27 _ _ _ rfl]
  have c := check_s (n + 4) h
  have b := barren_s n a rs g S h
  refine run_ret (ρ' := [some (.obj a), some (.lst ((barrens rs).map .str))]) rfl rfl rfl ((xs_nx (S1 := S) (ρ1 := [some (.obj a), none]) ?_).trans ((xs_nx (S1 := S) (ρ1 := [some (.obj a), some (.lst ((barrens rs).map .str))]) ?_).trans (xs_ret ?_)))
  · simp [c]
  · simp [b]
  · rw [x_ret, head_s _ (barrens rs) S _ 1 rfl]
    rfl
theorem first_turning_s (n a : Nat) (rs : List Rule) (g : GoodRules rs) (S : Store) (h : IsGr S a rs) : ∃ S', cg (n + 8) 28 [] [.obj a] S = some (headO (turns rs), S') ∧ Grw S S' := by
  rw [cg_succ (n + 7) 28 _ _ _ rfl]
  have c := check_s (n + 6) h
  obtain ⟨S', b, G⟩ := turning_s n a rs g S h
  refine ⟨S', ?_, G⟩
  refine run_ret (ρ' := [some (.obj a), some (.lst ((turns rs).map .str))]) rfl rfl rfl ((xs_nx (S1 := S) (ρ1 := [some (.obj a), none]) ?_).trans ((xs_nx (S1 := S') (ρ1 := [some (.obj a), some (.lst ((turns rs).map .str))]) ?_).trans (xs_ret ?_)))
  · simp [c]
  · simp [b]
  · rw [x_ret, head_s _ (turns rs) S' _ 1 rfl]
    rfl
theorem empty_kinds_s (n a : Nat) (rs : List Rule) (g : GoodRules rs) (S : Store) (h : IsGr S a rs) : cg (n + 6) 29 [] [.obj a] S = some (.tup ((empties rs).map .str), S) := by
  rw [cg_succ (n + 5) 29 _ _ _ rfl]
  have c := check_s (n + 4) h
  have b := empties_s n a rs g S h
  simp [runF, ir29, c, b]
noncomputable def letB (rs : List Rule) : Bool := open Classical in decide (barrens rs = [] ∧ turns rs = [])
theorem is_let_by_s (n a : Nat) (rs : List Rule) (g : GoodRules rs) (S : Store) (h : IsGr S a rs) : ∃ S', cg (n + 9) 30 [] [.obj a] S = some (.bl (letB rs), S') ∧ Grw S S' := by
  rw [cg_succ (n + 8) 30 _ _ _ rfl]
  have c := check_s (n + 7) h
  obtain ⟨S', b, G⟩ := wrong_kinds_s n a rs g S h
  refine ⟨S', ?_, G⟩
  have e := eq_lst_nil ((barrens rs ++ turns rs).take 1)
  have q : decide ((barrens rs ++ turns rs).take 1 = []) = letB rs := by
    unfold letB
    rw [Bool.eq_iff_iff]
    simp
  rw [q] at e
  refine run_ret (ρ' := [some (.obj a)]) rfl rfl rfl ((xs_nx (S1 := S) (ρ1 := [some (.obj a)]) ?_).trans (xs_ret ?_))
  · simp [c]
  · have b1 : evE prg (cg (n + 8)) (.call 26 (.cons (.var 0) .nil)) [some (.obj a)] S = some (.lst (((barrens rs ++ turns rs).take 1).map .str), S') := by simp [b]
    rw [x_ret, e_cmp, b1, bnd_some, e_lst0, bnd_some, v_eq, e]
    rfl

end MT

set_option maxRecDepth 100000
set_option maxHeartbeats 1000000
namespace MT
open PySem PySem.Spec PyProof.Rows L2
/-! k05: the law's own making -/
theorem eq_bodies_nil (l : List (List (List Nat))) : eqD (.lst (l.map fun b => .tup (b.map .str))) (.lst []) = some (decide (l = [])) := by
  have f : ∀ l : List (List (List Nat)), D.flats (l.map fun b => .tup (b.map .str)) = true := fun l => by
    induction l with
    | nil => rfl
    | cons b l ih =>
      show (D.flats (b.map .str) && D.flats (l.map fun b => .tup (b.map .str))) = true
      rw [flats_strs, ih] <;> rfl
  have fl : D.flat (.lst (l.map fun b => .tup (b.map .str))) = true := f l
  have d : Nat.min (D.dep (.lst (l.map fun b => .tup (b.map .str)))) (D.dep (.lst [])) ≤ 60 := Nat.le_trans (Nat.min_le_right _ _) (Nat.le_of_ble_eq_true rfl)
  unfold eqD
  rw [fl, decide_eq_true d]
  cases l with
  | nil => rfl
  | cons b l => rfl
/-- a kind that is made now -/
def nowBy (rs : List Rule) (M : List (List Nat)) (k : List Nat) : Bool := !decide (k ∈ M) && !decide ((rs.filter fun r => decide (r.1 = k) && r.2.all fun s => decide (s ∈ M)) = [])
abbrev eNow : MT.E := (.comp (.var 3) (.nm 3) (.e (.call 36 (.cons (.var 0) .nil))) (.som (.and (.cmp .notin (.var 3) (.var 1)) (.cmp .ne (.comp (.var 5) (.tp (.cons (.nm 4) (.cons (.nm 5) .nil))) (.e (.var 0)) (.som (.and (.cmp .eq (.var 4) (.var 3)) (.cmp .eq (.comp (.var 6) (.nm 6) (.e (.var 5)) (.som (.cmp .notin (.var 6) (.var 1))) [6]) (.lst .nil)))) [4, 5]) (.lst .nil)))) [3])
theorem GoodRules.syms {rs : List Rule} (g : GoodRules rs) : ∀ r ∈ rs, ∀ s ∈ r.1 :: r.2, s ∈ letters ∨ 2 ≤ s.length := fun r hr s hs => by
  have gr := g.good r hr
  rcases List.mem_cons.mp hs with rfl | hs
  · exact .inr gr.1.1
  · exact (gr.2.2 s hs).imp id (·.1)
theorem notin_nil (c : Call) (l M : List (List Nat)) (S : Store) (ρ : Envr) (w : Nat) (vm : Nat) (it : It) (hi : evI prg c it ρ S = some (l.map .str, S)) (hw : w < ρ.length) (hv : vm ≠ w) (hm : ρ[vm]? = some (some (.lst (M.map .str)))) (hl : l.length ≤ 1000) :
    evE prg c (.cmp .eq (.comp (.var w) (.nm w) it (.som (.cmp .notin (.var w) (.var vm))) [w]) (.lst .nil)) ρ S = some (.bl (l.all fun s => decide (s ∈ M)), S) := by
  have fl := filter_strs_s c l S (fun s => !decide (s ∈ M)) ρ (.cmp .notin (.var w) (.var vm)) w it hi hw hl fun s hs => by
    have v : (ρ.set w (some (.str s)))[w]? = some (some (.str s)) := List.getElem?_set_self hw
    have v2 : (ρ.set w (some (.str s)))[vm]? = some (some (.lst (M.map .str))) := by rw [List.getElem?_set_ne (Ne.symm hv)]; exact hm
    simp [v, v2, in_found S s M]
  have e := eq_lst_nil (l.filter fun s => !decide (s ∈ M))
  rw [e_cmp, fl, bnd_some, e_lst0, bnd_some, v_eq, e]
  have : decide (l.filter (fun s => !decide (s ∈ M)) = []) = l.all fun s => decide (s ∈ M) := by
    rw [Bool.eq_iff_iff]
    simp [List.filter_eq_nil_iff]
  rw [this]
  rfl
theorem now_s (n : Nat) (rs : List Rule) (g : GoodRules rs) (M : List (List Nat)) (S : Store) (x2 x3 x4 x5 x6 : Option D) :
    evE prg (cg (n + 1)) eNow [some (rulesD rs), some (.lst (M.map .str)), x2, x3, x4, x5, x6] S = some (.lst (((kindsOf rs).filter (nowBy rs M)).map .str), S) := by
  have kl := kinds_law_s n rs S g.small g.syms (by have := g.most; omega)
  have k8 := kinds_len g
  refine filter_strs_s (cg (n + 1)) (kindsOf rs) S (nowBy rs M) _ _ 3 _ (by simp [kl, kindsD]) (by simp) (by omega) fun k hk => ?_
  have c : evE prg (cg (n + 1)) (.comp (.var 5) (.tp (.cons (.nm 4) (.cons (.nm 5) .nil))) (.e (.var 0)) (.som (.and (.cmp .eq (.var 4) (.var 3)) (.cmp .eq (.comp (.var 6) (.nm 6) (.e (.var 5)) (.som (.cmp .notin (.var 6) (.var 1))) [6]) (.lst .nil)))) [4, 5]) [some (rulesD rs), some (.lst (M.map .str)), x2, some (.str k), x4, x5, x6] S = some (.lst (((rs.filter fun r => decide (r.1 = k) && r.2.all fun s => decide (s ∈ M)).map (·.2)).map fun b => .tup (b.map .str)), S) := by
    refine (e_comp (items := rs.map ruleD) (S1 := S) (S2 := S) (l := (rs.filter fun r => decide (r.1 = k) && r.2.all fun s => decide (s ∈ M)).map fun r => .tup (r.2.map .str)) (by simp [rulesD]) (compG_filter (B := fun (r : Rule) => .tup (r.2.map .str)) (q := fun (r : Rule) => decide (r.1 = k) && r.2.all fun s => decide (s ∈ M)) fun r hr => ?_) (by rw [List.length_map]; exact Nat.le_trans (List.length_filter_le _ _) (by have := g.most; unfold LIM; omega))).trans (by rw [List.map_map]; rfl)
    have b : bindT (.tp (.cons (.nm 4) (.cons (.nm 5) .nil))) (ruleD r) (wipeE [some (rulesD rs), some (.lst (M.map .str)), x2, some (.str k), x4, x5, x6] [4, 5]) = some [some (rulesD rs), some (.lst (M.map .str)), x2, some (.str k), some (.str r.1), some (.tup (r.2.map .str)), x6] := rfl
    have nn := notin_nil (cg (n + 1)) r.2 M S [some (rulesD rs), some (.lst (M.map .str)), x2, some (.str k), some (.str r.1), some (.tup (r.2.map .str)), x6] 6 1 (.e (.var 5)) (by simp) (by simp) (by decide) rfl (by have := (g.good r hr).2.1; omega)
    rw [b, Option.bind_some, ec_som', e_and, e_cmp]
    simp only [e_var, List.getElem?_cons_succ, List.getElem?_cons_zero, bnd_some, v_eq, v_eqs, Option.map_some, v_dBl]
    cases z : decide (r.1 = k)
    · simp
    · simp only [Bool.true_and]
      rw [nn]
      cases (r.2.all fun s => decide (s ∈ M)) <;> simp
  have ne : evE prg (cg (n + 1)) (.cmp .ne (.comp (.var 5) (.tp (.cons (.nm 4) (.cons (.nm 5) .nil))) (.e (.var 0)) (.som (.and (.cmp .eq (.var 4) (.var 3)) (.cmp .eq (.comp (.var 6) (.nm 6) (.e (.var 5)) (.som (.cmp .notin (.var 6) (.var 1))) [6]) (.lst .nil)))) [4, 5]) (.lst .nil)) [some (rulesD rs), some (.lst (M.map .str)), x2, some (.str k), x4, x5, x6] S = some (.bl (!decide ((rs.filter fun r => decide (r.1 = k) && r.2.all fun s => decide (s ∈ M)) = [])), S) := by
    have e := eq_bodies_nil ((rs.filter fun r => decide (r.1 = k) && r.2.all fun s => decide (s ∈ M)).map (·.2))
    rw [e_cmp, c, bnd_some, e_lst0, bnd_some, v_ne, e]
    have : decide ((rs.filter fun r => decide (r.1 = k) && r.2.all fun s => decide (s ∈ M)).map (·.2) = []) = decide ((rs.filter fun r => decide (r.1 = k) && r.2.all fun s => decide (s ∈ M)) = []) := by
      rw [Bool.eq_iff_iff]
      simp only [decide_eq_true_eq, List.map_eq_nil_iff]
    rw [this]
    rfl
  have ni := in_found S k M
  show evE prg (cg (n + 1)) (.and _ _) [some (rulesD rs), some (.lst (M.map .str)), x2, some (.str k), x4, x5, x6] S = _
  rw [e_and, e_cmp]
  simp only [e_var, List.getElem?_cons_succ, List.getElem?_cons_zero, bnd_some, ni, Option.map_some, v_dBl]
  unfold nowBy
  cases decide (k ∈ M)
  · simp only [Bool.not_false, Bool.true_and]
    rw [ne]
    simp
  · simp
/-- what is found by making on, from some letters -/
theorem making_s (n : Nat) (rs : List Rule) (g : GoodRules rs) (M0 : List (List Nat)) (p : Bool) (h5 : M0.length ≤ 5) (h0 : ∀ k, k ∈ M0 ↔ k ∈ letters ∧ p = true) (S : Store) :
    ∃ M : List (List Nat), cg (n + 2) 38 [] [rulesD rs, .lst (M0.map .str)] S = some (.lst (M.map .str), S) ∧ (∀ k, k ∉ letters → (k ∈ M ↔ Mk rs p k)) ∧ (∀ k ∈ letters, (k ∈ M ↔ p = true)) := by
  rw [cg_succ (n + 1) 38 _ _ _ rfl]
  have k8 := kinds_len g
  let Inv : Nat → Envr → Store → Prop := fun j ρ S' => S' = S ∧ ∃ (M : List (List Nat)) (x2 x3 x4 x5 x6 : Option D), ρ = [some (rulesD rs), some (.lst (M.map .str)), x2, x3, x4, x5, x6] ∧ (∀ k ∈ M, k ∉ letters → Mk rs p k) ∧ (∀ k ∈ letters, (k ∈ M ↔ p = true)) ∧ j = left rs M ∧ M.length + 8 * left rs M ≤ 100
  let Post : Fl × Envr × Store → Prop := fun r => ∃ (M : List (List Nat)) (ρ : Envr), r = (.ret (.lst (M.map .str)), ρ, S) ∧ (∀ k ∈ M, k ∉ letters → Mk rs p k) ∧ (∀ k ∈ letters, (k ∈ M ↔ p = true)) ∧ (kindsOf rs).filter (nowBy rs M) = []
  have sound : ∀ M : List (List Nat), (∀ k ∈ M, k ∉ letters → Mk rs p k) → (∀ k ∈ letters, (k ∈ M ↔ p = true)) → ∀ k ∈ (kindsOf rs).filter (nowBy rs M), Mk rs p k := fun M hM hl k hk => by
    obtain ⟨h1, h2⟩ := List.mem_filter.mp hk
    unfold nowBy at h2
    rw [Bool.and_eq_true] at h2
    have h3 : (rs.filter fun r => decide (r.1 = k) && r.2.all fun s => decide (s ∈ M)) ≠ [] := by simpa using h2.2
    obtain ⟨r, hr⟩ := List.exists_mem_of_ne_nil _ h3
    obtain ⟨hr1, hr2⟩ := List.mem_filter.mp hr
    rw [Bool.and_eq_true, List.all_eq_true] at hr2
    have e := of_decide_eq_true hr2.1
    subst e
    exact .mk r hr1 (fun s hs q => (hl s q).mp (of_decide_eq_true (hr2.2 s hs))) (fun s hs q => hM s (of_decide_eq_true (hr2.2 s hs)) q)
  obtain ⟨r, e, M, ρ', rfl, hM, hl, hc⟩ := whlG_wf (c := fun ρ S => bnd (evE prg (cg (n + 1)) (.cst (.bl true)) ρ S) fun x S => (dBl x).map fun b => (b, S)) (step := fun ρ S => exSs prg (cg (n + 1)) fuA (.cons (.set 2 eNow) (.cons (.iff (.cmp .eq (.var 2) (.lst .nil)) (.cons (.ret (.var 1)) .nil) .nil) (.cons (.set 1 (.bin .add (.var 1) (.var 2))) .nil))) ρ S) Inv Post (fun j ρ S' ⟨e1, M, x2, x3, x4, x5, x6, e2, hM, hl, hj, hb⟩ => by
      subst e1 e2
      refine .inr ⟨S', by simp, ?_⟩
      have nw := now_s n rs g M S' x2 x3 x4 x5 x6
      have s1 : ∀ r, exSs prg (cg (n + 1)) fuA (.cons (.set 2 eNow) r) [some (rulesD rs), some (.lst (M.map .str)), x2, x3, x4, x5, x6] S' = exSs prg (cg (n + 1)) fuA r [some (rulesD rs), some (.lst (M.map .str)), some (.lst (((kindsOf rs).filter (nowBy rs M)).map .str)), x3, x4, x5, x6] S' := fun r => xs_nx (by rw [x_set, nw]; rfl)
      have en := eq_lst_nil ((kindsOf rs).filter (nowBy rs M))
      by_cases q : (kindsOf rs).filter (nowBy rs M) = []
      · refine .inl ⟨.lst (M.map .str), [some (rulesD rs), some (.lst (M.map .str)), some (.lst (((kindsOf rs).filter (nowBy rs M)).map .str)), x3, x4, x5, x6], S', ?_, M, _, rfl, hM, hl, q⟩
        rw [s1]
        rw [decide_eq_true q] at en
        refine xs_ret ?_
        rw [x_iff, e_cmp]
        simp only [e_var, e_lst, el_nil', List.length_nil, Nat.zero_le, if_true, List.getElem?_cons_succ, List.getElem?_cons_zero, bnd_some, v_eq, en, Option.map_some, v_dBl]
        simp
      · rw [decide_eq_false q] at en
        obtain ⟨k, hk⟩ := List.exists_mem_of_ne_nil _ q
        have kK := (List.mem_filter.mp hk).1
        have kM : k ∉ M := by
          have := (List.mem_filter.mp hk).2
          unfold nowBy at this
          rw [Bool.and_eq_true] at this
          simpa using this.1
        have lt := left_lt (F := M) kK hk kM
        have lf : ((kindsOf rs).filter (nowBy rs M)).length ≤ 8 := Nat.le_trans (List.length_filter_le _ _) k8
        have l8 := left_le rs M
        have ll : M.length + ((kindsOf rs).filter (nowBy rs M)).length ≤ LIM := by unfold LIM; omega
        refine .inr ⟨[some (rulesD rs), some (.lst ((M ++ (kindsOf rs).filter (nowBy rs M)).map .str)), some (.lst (((kindsOf rs).filter (nowBy rs M)).map .str)), x3, x4, x5, x6], S', left rs (M ++ (kindsOf rs).filter (nowBy rs M)), ?_, by omega, rfl, M ++ (kindsOf rs).filter (nowBy rs M), _, _, _, _, _, rfl, fun k hk hn => ?_, fun k hk => ?_, rfl, by rw [List.length_append]; omega⟩
        · rw [s1]
          rw [xs_nx (S1 := S') (ρ1 := [some (rulesD rs), some (.lst (M.map .str)), some (.lst (((kindsOf rs).filter (nowBy rs M)).map .str)), x3, x4, x5, x6])]
          · generalize (kindsOf rs).filter (nowBy rs M) = N at *
            simp [ll]
          · rw [x_iff, e_cmp]
            simp only [e_var, e_lst, el_nil', List.length_nil, Nat.zero_le, if_true, List.getElem?_cons_succ, List.getElem?_cons_zero, bnd_some, v_eq, en, Option.map_some, v_dBl, xss_nil]
        · rcases List.mem_append.mp hk with hk | hk
          · exact hM k hk hn
          · exact sound M hM hl k hk
        · rw [List.mem_append]
          constructor
          · intro z
            rcases z with z | z
            · exact (hl k hk).mp z
            · exact absurd hk (kind_noletter (List.mem_filter.mp z).1)
          · intro z
            exact .inl ((hl k hk).mpr z))
    fuA (left rs M0) [some (rulesD rs), some (.lst (M0.map .str)), none, none, none, none, none] S ⟨rfl, M0, _, _, _, _, _, rfl, fun k hk hn => absurd ((h0 k).mp hk).1 hn, fun k hk => ⟨fun z => ((h0 k).mp z).2, fun z => (h0 k).mpr ⟨hk, z⟩⟩, rfl, by have := left_le rs M0; omega⟩ (by have := left_le rs M0; unfold fuA; omega)
  refine ⟨M, ?_, fun k hk => ⟨fun z => hM k z hk, fun z => ?_⟩, hl⟩
  · exact run_ret (ρ' := ρ') rfl rfl rfl (xs_ret (by rw [x_whl]; exact e))
  · clear hk
    induction z with
    | mk r hr hlt hb ih =>
      by_cases q : r.1 ∈ M
      · exact q
      · exfalso
        have : r.1 ∈ (kindsOf rs).filter (nowBy rs M) := by
          refine List.mem_filter.mpr ⟨g.kindMem hr, ?_⟩
          unfold nowBy
          rw [decide_eq_false q]
          have : r ∈ rs.filter fun x => decide (x.1 = r.1) && x.2.all fun s => decide (s ∈ M) := by
            refine List.mem_filter.mpr ⟨hr, ?_⟩
            rw [decide_eq_true rfl, Bool.true_and, List.all_eq_true]
            intro s hs
            by_cases z : s ∈ letters
            · exact decide_eq_true ((hl s z).mpr (hlt s hs z))
            · exact decide_eq_true (ih s hs z)
          have ne : (rs.filter fun x => decide (x.1 = r.1) && x.2.all fun s => decide (s ∈ M)) ≠ [] := fun z => by rw [z] at this; cases this
          simp [ne]
        rw [hc] at this
        cases this

end MT

set_option maxRecDepth 100000
set_option maxHeartbeats 1000000
namespace MT
open PySem PySem.Spec PyProof.Rows L2
/-! k05: the law's own walk -/
theorem getd_s {c : Call} {m : Nat} {ps : List (D × D)} {L : List Nat → List (List Nat)} (hg : ∀ k, (dGet (.str k) ps).getD (.lst []) = .lst ((L k).map .str)) {ρ : Envr} {S S1 : Store} (v : Nat) (hv : ρ[v]? = some (some (.obj m))) (hm : S[m]? = some (.dct ps)) (hm1 : S1[m]? = some (.dct ps)) (e : MT.E) (k : List Nat) (he : evE prg c e ρ S = some (.str k, S1)) :
    evE prg c (.getd (.var v) e (.lst .nil)) ρ S = some (.lst ((L k).map .str), S1) := by
  have i : isDct (deref S (.obj m)) = true := by rw [v_derefd hm]; rfl
  rw [e_getd, e_var, hv]
  simp only [bnd_some, i, if_true]
  rw [he, bnd_some, e_lst0, bnd_some, v_geto hm1, hg]
abbrev bdEach : Ss := (.cons (.iff (.cmp .notin (.var 4) (.var 2)) (.cons (.app 2 (.var 4)) (.cons (.appo (.var 3) (.var 4)) .nil)) .nil) .nil)
abbrev bdCome : Ss := (.cons (.fr (.nm 4) (.e (.getd (.var 0) (.popo (.var 3)) (.lst .nil))) bdEach) .nil)
theorem come_s (n m : Nat) (S : Store) (ps : List (D × D)) (rs : List Rule) (L : List Nat → List (List Nat)) (k8 : (kindsOf rs).length ≤ 8) (hm : S[m]? = some (.dct ps)) (hg : ∀ k, (dGet (.str k) ps).getD (.lst []) = .lst ((L k).map .str)) (hK : ∀ k, ∀ x ∈ L k, x ∈ kindsOf rs) (hl : ∀ k, (L k).length ≤ 64) (k0 : List Nat) :
    ∃ F : List (List Nat), cg (n + 1) 40 [] [.obj m, .str k0] S = some (.lst (F.map .str), S ++ [.lst []]) ∧ ∀ x, x ∈ F ↔ Rch L k0 x := by
  rw [cg_succ n 40 _ _ _ rfl]
  have old : ∀ T : List Ob, (S ++ T)[m]? = some (.dct ps) := fun T => by rw [List.getElem?_append_left (List.getElem?_eq_some_iff.mp hm).1]; exact hm
  have st1 : exS prg (cg n) fuA (.setn 2 (.blt .list (.cons (.getd (.var 0) (.var 1) (.lst .nil)) .nil))) [some (.obj m), some (.str k0), none, none, none] S = some (.nx, [some (.obj m), some (.str k0), some (.lst ((L k0).map .str)), none, none], S) := by
    have e := getd_s (c := cg n) hg (ρ := [some (.obj m), some (.str k0), none, none, none]) 0 rfl hm hm (.var 1) k0 (by simp)
    rw [x_setn, e_blt, el_cons', e, bnd_some, el_nil', bnd_some, bnd_some]
    rfl
  have st2 : exS prg (cg n) fuA (.set 3 (.box (.blt .list (.cons (.var 2) .nil)))) [some (.obj m), some (.str k0), some (.lst ((L k0).map .str)), none, none] S = some (.nx, [some (.obj m), some (.str k0), some (.lst ((L k0).map .str)), some (.obj S.length), none], S ++ [.lst ((L k0).map .str)]) := by
    simp
  let Inv : Nat → Envr → Store → Prop := fun j ρ S' => ∃ (F E : List (List Nat)) (x4 : Option D), S' = S ++ [.lst (E.map .str)] ∧ ρ = [some (.obj m), some (.str k0), some (.lst (F.map .str)), some (.obj S.length), x4] ∧ (∀ x ∈ F, Rch L k0 x) ∧ (∀ x ∈ E, x ∈ F) ∧ (∀ x ∈ F, x ∈ E ∨ ∀ z ∈ L x, z ∈ F) ∧ (∀ z ∈ L k0, z ∈ F) ∧ E.length + left rs F ≤ j ∧ F.length + left rs F ≤ 80 ∧ E.length + left rs F ≤ 80
  let Post : Fl × Envr × Store → Prop := fun r => ∃ (F : List (List Nat)) (x4 : Option D), r = (.nx, [some (.obj m), some (.str k0), some (.lst (F.map .str)), some (.obj S.length), x4], S ++ [.lst []]) ∧ (∀ x ∈ F, Rch L k0 x) ∧ (∀ x ∈ F, ∀ z ∈ L x, z ∈ F) ∧ (∀ z ∈ L k0, z ∈ F)
  obtain ⟨r, e, F, x4, rfl, hF, hc, hc0⟩ := whlG_wf (c := fun ρ S => bnd (evE prg (cg n) (.emp true (.var 3)) ρ S) fun x S => (dBl x).map fun b => (b, S)) (step := fun ρ S => exSs prg (cg n) fuA bdCome ρ S) Inv Post (fun j ρ S' ⟨F, E, x4, e1, e2, hF, hE, hc, hc0, hj, hb, hE80⟩ => by
      subst e1 e2
      have a1 : (S ++ [.lst (E.map .str)])[S.length]? = some (.lst (E.map .str)) := ap0 S _ []
      have em := v_empo (ng := true) a1 (flats_strs E)
      rcases List.eq_nil_or_concat E with rfl | ⟨l, y, rfl⟩
      · refine .inl ⟨_, ?_, F, x4, rfl, hF, fun x hx => (hc x hx).resolve_left (by simp), hc0⟩
        have em' : empS true (.obj S.length) (S ++ [.lst []]) = some (.bl false, S ++ [.lst []]) := em
        simp [em']
      · refine .inr ⟨S ++ [.lst ((l ++ [y]).map .str)], ?_, .inr ?_⟩
        · simp at em
          simp [em]
        · have po := v_pop (S := S ++ [.lst ((l ++ [y]).map .str)]) (n := S.length) (l := l.map .str) (y := .str y) (by rw [ap0]; simp)
          rw [set0] at po
          have yF := hE y (by simp)
          have ry := hF y yF
          have it : evI prg (cg n) (.e (.getd (.var 0) (.popo (.var 3)) (.lst .nil))) [some (.obj m), some (.str k0), some (.lst (F.map .str)), some (.obj S.length), x4] (S ++ [.lst ((l ++ [y]).map .str)]) = some ((L y).map .str, S ++ [.lst (l.map .str)]) := by
            have e := getd_s (c := cg n) hg (ρ := [some (.obj m), some (.str k0), some (.lst (F.map .str)), some (.obj S.length), x4]) (S := S ++ [.lst ((l ++ [y]).map .str)]) (S1 := S ++ [.lst (l.map .str)]) 0 rfl (old _) (old _) (.popo (.var 3)) y (by
              rw [e_popo]
              simp only [e_var, List.getElem?_cons_succ, List.getElem?_cons_zero, bnd_some, po])
            rw [ei_e', e, bnd_some]
            rfl
          let Inv2 : Nat → Envr → Store → Prop := fun i ρ S' => ∃ (F' E' : List (List Nat)) (x4 : Option D), S' = S ++ [.lst (E'.map .str)] ∧ ρ = [some (.obj m), some (.str k0), some (.lst (F'.map .str)), some (.obj S.length), x4] ∧ (∀ x ∈ F', Rch L k0 x) ∧ (∀ x ∈ E', x ∈ F') ∧ (∀ x ∈ F', x ∈ E' ∨ x = y ∨ ∀ z ∈ L x, z ∈ F') ∧ (∀ z ∈ L k0, z ∈ F') ∧ (∀ z ∈ (L y).take i, z ∈ F') ∧ E'.length + left rs F' ≤ l.length + left rs F ∧ F'.length + left rs F' ≤ 80
          obtain ⟨ρ', S1, e5, F', E', x4', rfl, rfl, hF', hE', hc', hc0', ht', hj', hb'⟩ := forG_inv (step := fun d ρ S => (bindT (.nm 4) d ρ).bind fun ρ => exSs prg (cg n) fuA bdEach ρ S) Inv2 ((L y).map .str) 0
            [some (.obj m), some (.str k0), some (.lst (F.map .str)), some (.obj S.length), x4] (S ++ [.lst (l.map .str)]) ⟨F, l, x4, rfl, rfl, hF, fun x hx => hE x (by simp [hx]), fun x hx => by
              rcases hc x hx with h | h
              · simp at h
                rcases h with h | h
                · exact .inl h
                · exact .inr (.inl h)
              · exact .inr (.inr h), hc0, fun _ h => by simp at h, Nat.le_refl _, hb⟩ (fun i d ρ S1 hd ⟨F', E', x4, e1, e2, hF', hE', hc', hc0', ht', hj', hb'⟩ => by
                subst e1 e2
                rw [List.getElem?_map] at hd
                cases q : (L y)[i]? with
                | none => rw [q] at hd; cases hd
                | some z =>
                  rw [q] at hd
                  cases hd
                  rw [Nat.zero_add] at ht' ⊢
                  have zL := List.mem_of_getElem? q
                  have ni := in_found (S ++ [.lst (E'.map .str)]) z F'
                  by_cases zF : z ∈ F'
                  · rw [decide_eq_true zF] at ni
                    refine ⟨[some (.obj m), some (.str k0), some (.lst (F'.map .str)), some (.obj S.length), some (.str z)], _, ?_, F', E', some (.str z), rfl, rfl, hF', hE', hc', hc0', fun w hw => ?_, hj', hb'⟩
                    · simp [ni]
                    · rw [List.take_add_one, q] at hw
                      rcases List.mem_append.mp hw with h | h
                      · exact ht' w h
                      · simp at h
                        exact h ▸ zF
                  · rw [decide_eq_false zF] at ni
                    have lt := left_lt (F := F') (more := [z]) (hK y z zL) (by simp) zF
                    have lF : F'.length < LIM := by unfold LIM; omega
                    have lE : (E'.map D.str).length < LIM := by
                      have h80 : l.length + 1 + left rs F ≤ 80 := by simpa using hE80
                      rw [List.length_map]
                      unfold LIM
                      omega
                    have ap := v_appo (x := .str z) (ap0 S (.lst (E'.map .str)) []) lE
                    rw [set0] at ap
                    have isl : isLst (deref (S ++ [.lst (E'.map .str)]) (.obj S.length)) = true := by rw [v_derefl (ap0 S _ [])]; rfl
                    refine ⟨[some (.obj m), some (.str k0), some (.lst ((F' ++ [z]).map .str)), some (.obj S.length), some (.str z)], S ++ [.lst ((E' ++ [z]).map .str)], ?_, F' ++ [z], E' ++ [z], some (.str z), rfl, rfl, ?_, ?_, ?_, ?_, ?_, ?_, ?_⟩
                    · show exSs prg (cg n) fuA bdEach [some (.obj m), some (.str k0), some (.lst (F'.map .str)), some (.obj S.length), some (.str z)] (S ++ [.lst (E'.map .str)]) = _
                      rw [xs_nx (S1 := S ++ [.lst ((E' ++ [z]).map .str)]) (ρ1 := [some (.obj m), some (.str k0), some (.lst ((F' ++ [z]).map .str)), some (.obj S.length), some (.str z)])]
                      · simp
                      · rw [x_iff, e_cmp]
                        simp only [e_var, List.getElem?_cons_succ, List.getElem?_cons_zero, bnd_some, ni, Option.map_some, v_dBl, Bool.not_false]
                        rw [xs_nx (S1 := S ++ [.lst (E'.map .str)]) (ρ1 := [some (.obj m), some (.str k0), some (.lst ((F' ++ [z]).map .str)), some (.obj S.length), some (.str z)])]
                        · rw [xs_nx (S1 := S ++ [.lst ((E' ++ [z]).map .str)]) (ρ1 := [some (.obj m), some (.str k0), some (.lst ((F' ++ [z]).map .str)), some (.obj S.length), some (.str z)])]
                          · simp
                          · rw [x_appo]
                            simp only [e_var, List.getElem?_cons_succ, List.getElem?_cons_zero, bnd_some, isl, if_true, ap, Option.map_some, List.map_append, List.map_cons, List.map_nil]
                        · simp [lF]
                    · intro w hw
                      rcases List.mem_append.mp hw with h | h
                      · exact hF' w h
                      · simp at h
                        exact h ▸ .step ry zL
                    · intro w hw
                      rcases List.mem_append.mp hw with h | h
                      · simp [hE' w h]
                      · simp at h
                        simp [h]
                    · intro w hw
                      rcases List.mem_append.mp hw with h | h
                      · rcases hc' w h with h | h | h
                        · exact .inl (by simp [h])
                        · exact .inr (.inl h)
                        · exact .inr (.inr fun u hu => by simp [h u hu])
                      · simp at h
                        exact .inl (by simp [h])
                    · intro w hw
                      simp [hc0' w hw]
                    · intro w hw
                      rw [List.take_add_one, q] at hw
                      rcases List.mem_append.mp hw with h | h
                      · simp [ht' w h]
                      · simp at h
                        simp [h]
                    · rw [List.length_append]
                      simp only [List.length_cons, List.length_nil]
                      omega
                    · rw [List.length_append]
                      simp only [List.length_cons, List.length_nil]
                      omega)
          rw [Nat.zero_add, List.length_map, List.take_length] at ht'
          have hj2 : l.length + 1 + left rs F ≤ j := by simpa using hj
          have h80 : l.length + 1 + left rs F ≤ 80 := by simpa using hE80
          refine ⟨_, _, E'.length + left rs F', (xs_nx (x_fr it e5)).trans (xss_nil ..), by omega, F', E', x4', rfl, rfl, hF', hE', fun x hx => ?_, hc0', Nat.le_refl _, hb', by omega⟩
          rcases hc' x hx with h | h | h
          · exact .inl h
          · subst h
            exact .inr ht'
          · exact .inr h)
    fuA ((L k0).length + left rs (L k0)) [some (.obj m), some (.str k0), some (.lst ((L k0).map .str)), some (.obj S.length), none] (S ++ [.lst ((L k0).map .str)]) ⟨L k0, L k0, none, rfl, rfl, fun x hx => .one hx, fun x hx => hx, fun x hx => .inl hx, fun x hx => hx, Nat.le_refl _, by have := hl k0; have := left_le rs (L k0); omega, by have := hl k0; have := left_le rs (L k0); omega⟩ (by have := hl k0; have := left_le rs (L k0); unfold fuA; omega)
  refine ⟨F, ?_, fun x => ⟨hF x, fun h => ?_⟩⟩
  · exact run_ret (ρ' := [some (.obj m), some (.str k0), some (.lst (F.map .str)), some (.obj S.length), x4]) rfl rfl rfl ((xs_nx st1).trans ((xs_nx st2).trans ((xs_nx (by rw [x_whl]; exact e)).trans (xs_ret (by simp)))))
  · induction h with
    | one h => exact hc0 _ h
    | step _ h ih => exact hc _ ih _ h

end MT

set_option maxRecDepth 100000
set_option maxHeartbeats 1000000
namespace MT
open PySem PySem.Spec PyProof.Rows L2
/-! k05: the law's own looking -/
noncomputable def lookD (rs : List Rule) : D := .tup [headO (barrens rs), headO (turns rs), .tup ((empties rs).map .str)]
theorem letters_list (c : Call) (ρ : Envr) (S : Store) : evE prg c (.blt .list (.cons (.cst (.str [97, 98, 99, 100, 101])) .nil)) ρ S = some (.lst (letters.map .str), S) := by
  simp [letters]
theorem law_alone_s (c : Call) (rs : List Rule) (M body : List (List Nat)) (S : Store) (hb : body.length ≤ 4) (hs : ∀ s ∈ body, s ∈ letters ∨ 2 ≤ s.length) (x0 x1 x3 x4 x5 x7 x8 x9 x10 : Option D) :
    evE prg c (.comp (.idx (.var 6) (.var 9)) (.nm 9) (.rng1 (.blt .len (.cons (.var 6) .nil))) (.som (.and (.cmp .gt (.blt .len (.cons (.idx (.var 6) (.var 9)) .nil)) (.cst (.int 1))) (.cmp .eq (.comp (.var 10) (.nm 10) (.e (.bin .add (.sl (.var 6) .non (.som (.var 9))) (.sl (.var 6) (.som (.bin .add (.var 9) (.cst (.int 1)))) .non))) (.som (.cmp .notin (.var 10) (.var 2))) [10]) (.lst .nil)))) [9]) [x0, x1, some (.lst (M.map .str)), x3, x4, x5, some (.tup (body.map .str)), x7, x8, x9, x10] S = some (.lst ((alone (fun s => decide (s ∈ M)) body).map .str), S) := by
  refine (e_comp (items := rngD 0 body.length) (S1 := S) (l := ((List.range body.length).filter (aloneB (fun s => decide (s ∈ M)) body)).map fun i => .str (body.getD i [])) (S2 := S) ?_ ?_ (by rw [List.length_map]; exact Nat.le_trans (List.length_filter_le _ _) (by rw [List.length_range]; unfold LIM; omega))).trans (by unfold alone; rw [List.map_map]; rfl)
  · have r := rng1_ok (m := body.length) (by omega)
    rw [Int.toNat_natCast] at r
    simp [r]
  · rw [rngD_range]
    refine compG_filter (B := fun i => .str (body.getD i [])) (q := aloneB (fun s => decide (s ∈ M)) body) fun i hi => ?_
    have hi := List.mem_range.mp hi
    have at_ : atD (body.map D.str) (i : Int) = some (.str (body.getD i [])) := by
      rw [at_nat, List.getElem?_map, List.getElem?_eq_getElem hi, List.getD_eq_getElem?_getD, List.getElem?_eq_getElem hi]
      rfl
    have ms : body.getD i [] ∈ body := by
      rw [List.getD_eq_getElem?_getD, List.getElem?_eq_getElem hi]
      exact List.getElem_mem hi
    have nn := notin_nil c (body.take i ++ body.drop (i + 1)) M S [x0, x1, some (.lst (M.map .str)), x3, x4, x5, some (.tup (body.map .str)), x7, x8, some (.int (i : Int)), x10] 10 2 (.e (.bin .add (.sl (.var 6) .non (.som (.var 9))) (.sl (.var 6) (.som (.bin .add (.var 9) (.cst (.int 1)))) .non))) (by
      have o := others_strs body i
      have l : (cut (body.map D.str) none (some (i : Int)) ++ cut (body.map D.str) (some ((i : Int) + 1)) none).length ≤ LIM := by
        rw [o, List.length_map, List.length_append, List.length_take, List.length_drop]
        unfold LIM
        omega
      rw [List.length_append] at l
      have sl1 : evE prg c (.sl (.var 6) .non (.som (.var 9))) [x0, x1, some (.lst (M.map .str)), x3, x4, x5, some (.tup (body.map .str)), x7, x8, some (.int (i : Int)), x10] S = some (.tup (cut (body.map D.str) none (some (i : Int))), S) := by simp
      have sl2 : evE prg c (.sl (.var 6) (.som (.bin .add (.var 9) (.cst (.int 1)))) .non) [x0, x1, some (.lst (M.map .str)), x3, x4, x5, some (.tup (body.map .str)), x7, x8, some (.int (i : Int)), x10] S = some (.tup (cut (body.map D.str) (some ((i : Int) + 1)) none), S) := by simp
      rw [ei_e', e_bin, sl1, bnd_some, sl2, bnd_some, v_addt, if_pos l, Option.map_some, bnd_some, v_walkt, o]
      rfl) (by simp) (by decide) rfl (by rw [List.length_append, List.length_take, List.length_drop]; omega)
    have ab : aloneB (fun s => decide (s ∈ M)) body i = (decide ((1 : Int) < (body.getD i []).length) && (body.take i ++ body.drop (i + 1)).all fun s => decide (s ∈ M)) := by
      unfold aloneB
      have e : body[i]? = some (body.getD i []) := by rw [List.getD_eq_getElem?_getD, List.getElem?_eq_getElem hi]; rfl
      rw [e]
      have z : (!decide (body.getD i [] ∈ letters)) = decide ((1 : Int) < (body.getD i []).length) := by
        by_cases y : body.getD i [] ∈ letters
        · have := letter_len _ y
          rw [decide_eq_true y, this]
          rfl
        · have := (hs _ ms).resolve_left y
          rw [decide_eq_false y, decide_eq_true (by omega)]
          rfl
      simp only
      rw [z]
    have b : bindT (.nm 9) (.int (i : Int)) (wipeE [x0, x1, some (.lst (M.map .str)), x3, x4, x5, some (.tup (body.map .str)), x7, x8, x9, x10] [9]) = some [x0, x1, some (.lst (M.map .str)), x3, x4, x5, some (.tup (body.map .str)), x7, x8, some (.int (i : Int)), x10] := rfl
    have g1 : evE prg c (.cmp .gt (.blt .len (.cons (.idx (.var 6) (.var 9)) .nil)) (.cst (.int 1))) [x0, x1, some (.lst (M.map .str)), x3, x4, x5, some (.tup (body.map .str)), x7, x8, some (.int (i : Int)), x10] S = some (.bl (decide ((1 : Int) < (body.getD i []).length)), S) := by
      rw [e_cmp, e_blt, el_cons', e_idx]
      simp only [e_var, e_cst, el_nil', List.getElem?_cons_succ, List.getElem?_cons_zero, bnd_some, v_ixt, at_, Option.map_some, v_lstr, v_gt]
    have ix : evE prg c (.idx (.var 6) (.var 9)) [x0, x1, some (.lst (M.map .str)), x3, x4, x5, some (.tup (body.map .str)), x7, x8, some (.int (i : Int)), x10] S = some (.str (body.getD i []), S) := by
      rw [e_idx]
      simp only [e_var, List.getElem?_cons_succ, List.getElem?_cons_zero, bnd_some, v_ixt, at_, Option.map_some]
    rw [b, Option.bind_some, ec_som', e_and, g1, bnd_some, ab]
    cases decide ((1 : Int) < (body.getD i []).length)
    · rfl
    · simp only [v_dBl, Bool.true_and]
      rw [nn]
      simp only [bnd_some, v_dBl, Option.map_some]
      cases ((body.take i ++ body.drop (i + 1)).all fun s => decide (s ∈ M))
      · rfl
      · simp only [if_true]
        rw [ix]
        rfl
theorem looked_s (n : Nat) (rs : List Rule) (g : GoodRules rs) (S : Store) : ∃ S', cg (n + 3) 39 [] [rulesD rs] S = some (lookD rs, S') ∧ Grw S S' := by
  rw [cg_succ (n + 2) 39 _ _ _ rfl]
  have k8 := kinds_len g
  have l16 := g.most
  have b4 : ∀ r ∈ rs, r.2.length ≤ 4 := fun r hr => (g.good r hr).2.1
  have kl := kinds_law_s (n + 1) rs S g.small g.syms (by omega)
  obtain ⟨M, eM, hM, hMl⟩ := making_s n rs g [] false (by decide) (fun k => by simp) S
  obtain ⟨M1, eM1, hM1, _⟩ := making_s n rs g letters true (by decide) (fun k => by simp) S
  have qe : (fun s => decide (s ∈ M)) = empB rs := by
    funext s
    rw [Bool.eq_iff_iff, decide_eq_true_eq, decide_eq_true_eq]
    unfold kindsBy
    rw [List.mem_filter]
    by_cases z : s ∈ letters
    · rw [hMl s z]
      exact ⟨nofun, fun h => absurd z (kind_noletter h.1)⟩
    · rw [hM s z]
      simp only [decide_eq_true_eq]
      exact ⟨fun h => ⟨h.kind g, h⟩, fun h => h.2⟩
  have st1 : exS prg (cg (n + 2)) fuA (.unp (.tp (.cons (.nm 1) (.cons (.nm 2) .nil))) (.tup (.cons (.call 36 (.cons (.var 0) .nil)) (.cons (.call 38 (.cons (.var 0) (.cons (.lst .nil) .nil))) .nil)))) [some (rulesD rs), none, none, none, none, none, none, none, none, none, none] S = some (.nx, [some (rulesD rs), some (kindsD rs), some (.lst (M.map .str)), none, none, none, none, none, none, none, none], S) := by
    have eM : cg (n + 2) 38 [] [rulesD rs, .lst []] S = some (.lst (M.map .str), S) := eM
    have a1 : evE prg (cg (n + 2)) (.call 36 (.cons (.var 0) .nil)) [some (rulesD rs), none, none, none, none, none, none, none, none, none, none] S = some (kindsD rs, S) := by simp [kl]
    have a2 : evE prg (cg (n + 2)) (.call 38 (.cons (.var 0) (.cons (.lst .nil) .nil))) [some (rulesD rs), none, none, none, none, none, none, none, none, none, none] S = some (.lst (M.map .str), S) := by
      have v0 : evE prg (cg (n + 2)) (.var 0) [some (rulesD rs), none, none, none, none, none, none, none, none, none, none] S = some (rulesD rs, S) := by simp
      rw [e_call, el_cons', v0, bnd_some, el_cons', e_lst0, bnd_some, el_nil', bnd_some, bnd_some, bnd_some]
      exact eM
    rw [x_unp, e_tup, el_cons', a1, bnd_some, el_cons', a2, bnd_some, el_nil', bnd_some, bnd_some, bnd_some, if_pos (Nat.le_of_ble_eq_true rfl), bnd_some]
    rfl
  have br := filter_strs_s (cg (n + 2)) (kindsOf rs) S (fun s => !decide (s ∈ M1)) [some (rulesD rs), some (kindsD rs), some (.lst (M.map .str)), none, none, none, none, none, none, none, none] (.cmp .notin (.var 3) (.call 38 (.cons (.var 0) (.cons (.blt .list (.cons (.cst (.str [97, 98, 99, 100, 101])) .nil)) .nil)))) 3 (.e (.var 1)) (by simp [kindsD]) (by simp) (by omega) fun s hs => by
    have a2 : evE prg (cg (n + 2)) (.call 38 (.cons (.var 0) (.cons (.blt .list (.cons (.cst (.str [97, 98, 99, 100, 101])) .nil)) .nil))) [some (rulesD rs), some (kindsD rs), some (.lst (M.map .str)), some (.str s), none, none, none, none, none, none, none] S = some (.lst (M1.map .str), S) := by
      have v0 : evE prg (cg (n + 2)) (.var 0) [some (rulesD rs), some (kindsD rs), some (.lst (M.map .str)), some (.str s), none, none, none, none, none, none, none] S = some (rulesD rs, S) := by simp
      rw [e_call, el_cons', v0, bnd_some, el_cons', letters_list, bnd_some, el_nil', bnd_some, bnd_some, bnd_some]
      exact eM1
    have v3 : evE prg (cg (n + 2)) (.var 3) [some (rulesD rs), some (kindsD rs), some (.lst (M.map .str)), some (.str s), none, none, none, none, none, none, none] S = some (.str s, S) := by simp
    show evE prg (cg (n + 2)) (.cmp .notin _ _) [some (rulesD rs), some (kindsD rs), some (.lst (M.map .str)), some (.str s), none, none, none, none, none, none, none] S = _
    rw [e_cmp, v3, bnd_some, a2, bnd_some, in_found S s M1]
    rfl
  rw [kindsBy_eq (P := fun k => ¬ Mk rs true k) fun k hk => by
    have := hM1 k (kind_noletter hk)
    simp [this]] at br
  have st2 : exS prg (cg (n + 2)) fuA (.unp (.tp (.cons (.nm 4) (.cons (.nm 5) .nil))) (.tup (.cons (.comp (.var 3) (.nm 3) (.e (.var 1)) (.som (.cmp .notin (.var 3) (.call 38 (.cons (.var 0) (.cons (.blt .list (.cons (.cst (.str [97, 98, 99, 100, 101])) .nil)) .nil))))) [3]) (.cons .newd .nil)))) [some (rulesD rs), some (kindsD rs), some (.lst (M.map .str)), none, none, none, none, none, none, none, none] S = some (.nx, [some (rulesD rs), some (kindsD rs), some (.lst (M.map .str)), none, some (.lst ((barrens rs).map .str)), some (.obj S.length), none, none, none, none, none], S ++ [.dct []]) := by
    rw [x_unp, e_tup, el_cons', br, bnd_some, el_cons', e_newd, bnd_some, el_nil', bnd_some, bnd_some, bnd_some, if_pos (Nat.le_of_ble_eq_true rfl), bnd_some]
    rfl
  let Inv : Nat → Envr → Store → Prop := fun i ρ S' => ∃ (ps : List (D × D)) (x3 x6 x7 : Option D), S' = S ++ [.dct ps] ∧ (∀ k, (dGet (.str k) ps).getD (.lst []) = .lst ((leadsOf (empB rs) (rs.take i) k).map .str)) ∧ ps.length ≤ i ∧ noLamP ps = true ∧ ρ = [some (rulesD rs), some (kindsD rs), some (.lst (M.map .str)), x3, some (.lst ((barrens rs).map .str)), some (.obj S.length), x6, x7, none, none, none]
  obtain ⟨ρ', S', e, ps, x3, x6, x7, rfl, hg, hl, hn, rfl⟩ := forG_inv (step := fun d ρ S => (bindT (.tp (.cons (.nm 3) (.cons (.nm 6) .nil))) d ρ).bind fun ρ => exSs prg (cg (n + 2)) fuA (.cons (.set 7 (.comp (.idx (.var 6) (.var 9)) (.nm 9) (.rng1 (.blt .len (.cons (.var 6) .nil))) (.som (.and (.cmp .gt (.blt .len (.cons (.idx (.var 6) (.var 9)) .nil)) (.cst (.int 1))) (.cmp .eq (.comp (.var 10) (.nm 10) (.e (.bin .add (.sl (.var 6) .non (.som (.var 9))) (.sl (.var 6) (.som (.bin .add (.var 9) (.cst (.int 1)))) .non))) (.som (.cmp .notin (.var 10) (.var 2))) [10]) (.lst .nil)))) [9])) (.cons (.seto (.var 5) (.var 3) (.bin .add (.getd (.var 5) (.var 3) (.lst .nil)) (.var 7))) .nil)) ρ S) Inv (rs.map ruleD) 0
    [some (rulesD rs), some (kindsD rs), some (.lst (M.map .str)), none, some (.lst ((barrens rs).map .str)), some (.obj S.length), none, none, none, none, none] (S ++ [.dct []]) ⟨[], none, none, none, rfl, fun k => rfl, Nat.le_refl _, rfl, rfl⟩ (fun i d ρ S1 hd ⟨ps, x3, x6, x7, e1, hg, hl, hn, e2⟩ => by
      subst e1 e2
      rw [List.getElem?_map] at hd
      cases q : rs[i]? with
      | none => rw [q] at hd; cases hd
      | some r =>
        rw [q] at hd
        cases hd
        rw [Nat.zero_add] at hg hl ⊢
        have hr := List.mem_of_getElem? q
        have il := (List.getElem?_eq_some_iff.mp q).1
        have at_ : (S ++ [.dct ps])[S.length]? = some (.dct ps) := ap0 S _ []
        have al := law_alone_s (cg (n + 2)) rs M r.2 (S ++ [.dct ps]) (b4 r hr) (fun s hs => g.syms r hr s (List.mem_cons_of_mem _ hs)) (some (rulesD rs)) (some (kindsD rs)) (some (.str r.1)) (some (.lst ((barrens rs).map .str))) (some (.obj S.length)) x7 none none none
        rw [qe] at al
        have ll : (leadsOf (empB rs) (rs.take i) r.1).length + (alone (empB rs) r.2).length ≤ LIM := by
          have := leads_len (empB rs) (rs.take i) (fun x hx => b4 x (List.mem_of_mem_take hx)) (by rw [List.length_take]; omega) r.1
          have := alone_len (empB rs) r.2
          have := b4 r hr
          unfold LIM
          omega
        have so := v_setod (s := r.1) (v := .lst ((leadsOf (empB rs) (rs.take i) r.1 ++ alone (empB rs) r.2).map .str)) at_ (by unfold LIM; omega)
        rw [set0] at so
        have gd := getd_s (c := cg (n + 2)) hg (ρ := [some (rulesD rs), some (kindsD rs), some (.lst (M.map .str)), some (.str r.1), some (.lst ((barrens rs).map .str)), some (.obj S.length), some (.tup (r.2.map .str)), some (.lst ((alone (empB rs) r.2).map .str)), none, none, none]) (S := S ++ [.dct ps]) (S1 := S ++ [.dct ps]) 5 rfl at_ at_ (.var 3) r.1 (by simp)
        refine ⟨[some (rulesD rs), some (kindsD rs), some (.lst (M.map .str)), some (.str r.1), some (.lst ((barrens rs).map .str)), some (.obj S.length), some (.tup (r.2.map .str)), some (.lst ((alone (empB rs) r.2).map .str)), none, none, none], S ++ [.dct (dPut (.str r.1) (.lst ((leadsOf (empB rs) (rs.take i) r.1 ++ alone (empB rs) r.2).map .str)) ps)], ?_, _, _, _, _, rfl, fun k => ?_, ?_, noLamP_put _ _ _ (noLam_strs _) hn, rfl⟩
        · show exSs prg (cg (n + 2)) fuA (.cons (.set 7 _) _) [some (rulesD rs), some (kindsD rs), some (.lst (M.map .str)), some (.str r.1), some (.lst ((barrens rs).map .str)), some (.obj S.length), some (.tup (r.2.map .str)), x7, none, none, none] (S ++ [.dct ps]) = _
          rw [xs_nx (S1 := S ++ [.dct ps]) (ρ1 := [some (rulesD rs), some (kindsD rs), some (.lst (M.map .str)), some (.str r.1), some (.lst ((barrens rs).map .str)), some (.obj S.length), some (.tup (r.2.map .str)), some (.lst ((alone (empB rs) r.2).map .str)), none, none, none]) (by rw [x_set, al]; rfl)]
          rw [xs_nx (S1 := S ++ [.dct (dPut (.str r.1) (.lst ((leadsOf (empB rs) (rs.take i) r.1 ++ alone (empB rs) r.2).map .str)) ps)]) (ρ1 := [some (rulesD rs), some (kindsD rs), some (.lst (M.map .str)), some (.str r.1), some (.lst ((barrens rs).map .str)), some (.obj S.length), some (.tup (r.2.map .str)), some (.lst ((alone (empB rs) r.2).map .str)), none, none, none])]
          · simp
          · rw [x_seto, e_bin, gd, bnd_some]
            simp only [e_var, List.getElem?_cons_succ, List.getElem?_cons_zero, bnd_some, v_addl, List.length_map, if_pos ll, Option.map_some]
            rw [← List.map_append, so]
            rfl
        · rw [dGet_put, leadsOf_take q]
          by_cases z : k = r.1
          · subst z
            simp
          · rw [if_neg z, if_neg (fun y => z y.symm), List.append_nil]
            exact hg k
        · have := dPut_le (.str r.1) (.lst ((leadsOf (empB rs) (rs.take i) r.1 ++ alone (empB rs) r.2).map .str)) ps
          omega)
  rw [Nat.zero_add, List.length_map, List.take_length] at hg
  have G1 : Grw S (S ++ [.dct ps]) := .app (by show (noLamP ps && true) = true; rw [hn] <;> rfl)
  obtain ⟨S2, e2, G2⟩ := filter_grw_s (cg (n + 2)) (kindsOf rs) (S ++ [.dct ps]) (S ++ [.dct ps]) (Turn rs (empB rs)) [some (rulesD rs), some (kindsD rs), some (.lst (M.map .str)), x3, some (.lst ((barrens rs).map .str)), some (.obj S.length), x6, x7, none, none, none] (.cmp .isin (.var 3) (.call 40 (.cons (.var 5) (.cons (.var 3) .nil)))) 3 (.e (.var 1)) (by simp [kindsD]) (by simp) (by omega) fun k hk S2 G => by
    have at_ := G.at_ (ap0 S (.dct ps) [])
    obtain ⟨F, e3, hF⟩ := come_s (n + 1) S.length S2 ps rs (leadsOf (empB rs) rs) k8 at_ hg (fun k x hx => leads_kind g hx) (fun k => leads_len _ rs b4 g.most k) k
    refine ⟨decide (k ∈ F), S2 ++ [.lst []], ?_, by rw [decide_eq_true_eq]; exact hF k, .app rfl⟩
    have e3 : cg (n + 2) 40 [] [.obj S.length, .str k] S2 = some (.lst (F.map .str), S2 ++ [.lst []]) := e3
    simp [e3, isin_strs k F]
  have fe := filter_strs_s (cg (n + 2)) (kindsOf rs) S2 (fun s => decide (s ∈ M)) [some (rulesD rs), some (kindsD rs), some (.lst (M.map .str)), x3, some (.lst ((barrens rs).map .str)), some (.obj S.length), x6, x7, some (.lst ((turns rs).map .str)), none, none] (.cmp .isin (.var 3) (.var 2)) 3 (.e (.var 1)) (by simp [kindsD]) (by simp) (by omega) fun s hs => by
    simp [isin_strs s M]
  rw [kindsBy_eq (P := Mk rs false) fun k hk => by rw [decide_eq_true_eq]; exact hM k (kind_noletter hk)] at fe
  refine ⟨S2, ?_, G1.trans G2⟩
  refine run_ret (d := lookD rs) (ρ' := [some (rulesD rs), some (kindsD rs), some (.lst (M.map .str)), x3, some (.lst ((barrens rs).map .str)), some (.obj S.length), x6, x7, some (.lst ((turns rs).map .str)), none, none]) rfl rfl rfl ((xs_nx st1).trans ((xs_nx st2).trans ((xs_nx (x_fr (S1 := S ++ [.dct []]) (items := rs.map ruleD) rfl e)).trans ((xs_nx (S1 := S2) (ρ1 := [some (rulesD rs), some (kindsD rs), some (.lst (M.map .str)), x3, some (.lst ((barrens rs).map .str)), some (.obj S.length), x6, x7, some (.lst ((turns rs).map .str)), none, none]) ?_).trans (xs_ret ?_)))))
  · rw [x_set, e2]
    rfl
  · have c3 : evE prg (cg (n + 2)) (.blt .tuple (.cons (.comp (.var 3) (.nm 3) (.e (.var 1)) (.som (.cmp .isin (.var 3) (.var 2))) [3]) .nil)) [some (rulesD rs), some (kindsD rs), some (.lst (M.map .str)), x3, some (.lst ((barrens rs).map .str)), some (.obj S.length), x6, x7, some (.lst ((turns rs).map .str)), none, none] S2 = some (.tup ((empties rs).map .str), S2) := by
      rw [e_blt, el_cons', fe, bnd_some, el_nil', bnd_some, bnd_some, v_tupl]
      rfl
    rw [x_ret, e_tup, el_cons', head_s _ (barrens rs) S2 _ 4 rfl, bnd_some, el_cons', head_s _ (turns rs) S2 _ 8 rfl, bnd_some, el_cons', c3, bnd_some, el_nil', bnd_some, bnd_some, bnd_some, bnd_some, if_pos (Nat.le_of_ble_eq_true rfl), bnd_some]
    rfl

end MT

set_option maxRecDepth 100000
set_option maxHeartbeats 1000000
namespace MT
open PySem PySem.Spec PyProof.Rows L2
/-! k05: the law -/
theorem forG_ret {step : D → Envr → Store → SR3} (Inv : Nat → Envr → Store → Prop) (Post : D → Store → Prop) : ∀ (items : List D) (k : Nat) (ρ : Envr) (S : Store), Inv k ρ S →
    (∀ i d ρ S, items[i]? = some d → Inv (k + i) ρ S → (∃ ρ' S', step d ρ S = some (.nx, ρ', S') ∧ Inv (k + i + 1) ρ' S') ∨ ∃ r ρ' S', step d ρ S = some (.ret r, ρ', S') ∧ Post r S') →
    (∃ ρ' S', forG step items ρ S = some (.nx, ρ', S') ∧ Inv (k + items.length) ρ' S') ∨ ∃ r ρ' S', forG step items ρ S = some (.ret r, ρ', S') ∧ Post r S'
  | [], k, ρ, S, h0, _ => .inl ⟨ρ, S, rfl, h0⟩
  | d :: l, k, ρ, S, h0, hs => by
    rcases hs 0 d ρ S rfl h0 with ⟨ρ1, S1, e1, i1⟩ | ⟨r, ρ1, S1, e1, p⟩
    · have := forG_ret Inv Post l (k + 1) ρ1 S1 i1 fun i d ρ S hd hi => by
        have := hs (i + 1) d ρ S hd (by rw [show k + (i + 1) = k + 1 + i by omega]; exact hi)
        rw [show k + (i + 1) + 1 = k + 1 + i + 1 by omega] at this
        exact this
      rw [List.length_cons, show k + (l.length + 1) = k + 1 + l.length by omega]
      unfold forG
      rw [e1, bnd3_some]
      exact this
    · refine .inr ⟨r, ρ1, S1, ?_, p⟩
      unfold forG
      rw [e1]
      rfl
theorem look_eq (rs : List Rule) : eqD (.tup [headO (barrens rs), headO (turns rs)]) (.tup [.non, .non]) = some (letB rs) := by
  unfold letB
  cases hb : barrens rs with
  | nil =>
    cases ht : turns rs with
    | nil => rw [decide_eq_true (by simp)]; rfl
    | cons t l => rw [decide_eq_false (by simp)]; rfl
  | cons b l =>
    rw [decide_eq_false (by simp)]
    cases turns rs <;> rfl
theorem first_two (c : Call) (e : MT.E) (rs : List Rule) (ρ : Envr) (S S' : Store) (h : evE prg c e ρ S = some (lookD rs, S')) : evE prg c (.cmp .eq (.sl e .non (.som (.cst (.int 2)))) (.tup (.cons (.cst .non) (.cons (.cst .non) .nil)))) ρ S = some (.bl (letB rs), S') := by
  have s : slD (lookD rs) none (some 2) = some (.tup [headO (barrens rs), headO (turns rs)]) := by
    have c := cut_take [headO (barrens rs), headO (turns rs), .tup ((empties rs).map .str)] 2
    show some (D.tup (cut [headO (barrens rs), headO (turns rs), .tup ((empties rs).map .str)] none (some ((2 : Nat) : Int)))) = _
    rw [c]
    rfl
  have t : evE prg c (.tup (.cons (.cst .non) (.cons (.cst .non) .nil))) ρ S' = some (.tup [.non, .non], S') := by simp [LIM]
  rw [e_cmp, e_sl, h, bnd_some, eo_non', bnd_some, eo_som', e_cst, bnd_some]
  simp only [bnd_some, s, Option.map_some]
  rw [t, bnd_some, v_eq, look_eq]
  rfl
theorem one_good (name : List Nat) (h : goodName name) (r1 r2 : List (List Nat)) (h1 : r1.length ≤ 4) (h2 : r2.length ≤ 4) (b1 : ∀ s ∈ r1, s = [97] ∨ s = [98] ∨ s = name) (b2 : ∀ s ∈ r2, s = [97] ∨ s = [98] ∨ s = name) (ne : r1 ≠ r2) : GoodRules [(name, r1), (name, r2)] := by
  refine drawn_good (names := [name]) (lets := [97, 98]) ?_ ?_ ?_ ?_ (by simp) (by simp) ?_ ?_ (by simp) (by decide)
  · intro r hr
    simp at hr
    rcases hr with rfl | rfl <;> simp
  · intro r hr
    simp at hr
    rcases hr with rfl | rfl
    · exact h1
    · exact h2
  · intro r hr s hs
    simp at hr
    have : s = [97] ∨ s = [98] ∨ s = name := by
      rcases hr with rfl | rfl
      · exact b1 s hs
      · exact b2 s hs
    rcases this with rfl | rfl | rfl <;> simp
  · simp [ne]
  · intro s hs
    simp at hs
    exact hs ▸ h
  · intro s hs
    simp at hs
    exact ⟨(name, r1), by simp, hs.symm⟩
theorem rules_law_s (n b : Nat) (S : Store) (hb : Bowl S b) (hS : noLamS S = true) : ∃ (rs : List Rule) (S' : Store), cg (n + 5) 41 [] [.obj b, .int 3, .int 4, .str [97, 98]] S = some (rulesD rs, S') ∧ GoodRules rs ∧ Bowl S' b ∧ noLamS S' = true := by
  rw [cg_succ (n + 4) 41 _ _ _ rfl]
  have lets : ∀ c ∈ ([97, 98] : List Nat), [c] ∈ letters := by decide
  have key := forG_ret (step := fun d ρ S => (bindT (.nm 4) d ρ).bind fun ρ => exSs prg (cg (n + 4)) fuA (.cons (.set 5 (.call 37 (.cons (.var 0) (.cons (.var 1) (.cons (.var 2) (.cons (.var 3) .nil)))))) (.cons (.iff (.cmp .eq (.sl (.call 39 (.cons (.var 5) .nil)) .non (.som (.cst (.int 2)))) (.tup (.cons (.cst .non) (.cons (.cst .non) .nil)))) (.cons (.ret (.var 5)) .nil) .nil) .nil)) ρ S)
    (fun _ ρ S' => Bowl S' b ∧ noLamS S' = true ∧ ∃ x4 x5 : Option D, ρ = [some (.obj b), some (.int 3), some (.int 4), some (.str [97, 98]), x4, x5, none, none, none]) (fun r S' => ∃ rs, r = rulesD rs ∧ GoodRules rs ∧ Bowl S' b ∧ noLamS S' = true) (rngD 0 8) 0 [some (.obj b), some (.int 3), some (.int 4), some (.str [97, 98]), none, none, none, none, none] S ⟨hb, hS, _, _, rfl⟩ (fun i d ρ S1 hd ⟨hb, hS, x4, x5, e⟩ => by
      subst e
      obtain ⟨rs, names, S2, e1, f1, d1, ne1, l1, g1, o1, m1⟩ := any_rules_s n b S1 hb 3 4 [97, 98] (by decide) (by decide) (by decide) (by decide) (by decide) (by decide)
      have gr := d1.good ne1 (by omega) g1 o1 (by omega) lets
      obtain ⟨S3, e2, G⟩ := looked_s (n + 1) rs gr S2
      have e2 : cg (n + 4) 39 [] [rulesD rs] S2 = some (lookD rs, S3) := e2
      have t := first_two (cg (n + 4)) (.call 39 (.cons (.var 5) .nil)) rs [some (.obj b), some (.int 3), some (.int 4), some (.str [97, 98]), some d, some (rulesD rs), none, none, none] S2 S3 (by simp [e2])
      have s1 : ∀ r, exSs prg (cg (n + 4)) fuA (.cons (.set 5 (.call 37 (.cons (.var 0) (.cons (.var 1) (.cons (.var 2) (.cons (.var 3) .nil)))))) r) [some (.obj b), some (.int 3), some (.int 4), some (.str [97, 98]), some d, x5, none, none, none] S1 = exSs prg (cg (n + 4)) fuA r [some (.obj b), some (.int 3), some (.int 4), some (.str [97, 98]), some d, some (rulesD rs), none, none, none] S2 := fun r => xs_nx (by simp [e1])
      cases q : letB rs
      · rw [q] at t
        refine .inl ⟨[some (.obj b), some (.int 3), some (.int 4), some (.str [97, 98]), some d, some (rulesD rs), none, none, none], S3, ?_, G.bowl f1.bowl, G.lam (f1.lam hS), _, _, rfl⟩
        show exSs prg (cg (n + 4)) fuA _ [some (.obj b), some (.int 3), some (.int 4), some (.str [97, 98]), some d, x5, none, none, none] S1 = _
        rw [s1, xs_nx (by rw [x_iff, t, bnd_some]; simp only [v_dBl]; exact xss_nil ..)]
        simp
      · rw [q] at t
        refine .inr ⟨rulesD rs, [some (.obj b), some (.int 3), some (.int 4), some (.str [97, 98]), some d, some (rulesD rs), none, none, none], S3, ?_, rs, rfl, gr, G.bowl f1.bowl, G.lam (f1.lam hS)⟩
        show exSs prg (cg (n + 4)) fuA _ [some (.obj b), some (.int 3), some (.int 4), some (.str [97, 98]), some d, x5, none, none, none] S1 = _
        rw [s1]
        refine xs_ret ?_
        rw [x_iff, t, bnd_some]
        simp only [v_dBl]
        exact xs_ret (by simp))
  have it : evI prg (cg (n + 4)) (.rng1 (.cst (.int 8))) [some (.obj b), some (.int 3), some (.int 4), some (.str [97, 98]), none, none, none, none, none] S = some (rngD 0 8, S) := by simp [rng1_ok (m := 8) (by decide)]
  rcases key with ⟨ρ', S1, e, hb1, hS1, x4, x5, rfl⟩ | ⟨r, ρ', S1, e, rs, rfl, gr, hb1, hS1⟩
  · obtain ⟨l, S2, e2, nl, nnd, ng, _, f2⟩ := names_s (n + 1) b S1 hb1 1 (by decide) (by decide)
    have e2 : cg (n + 4) 35 [] [.obj b, .int 1] S1 = some (.lst (l.map .str), S2) := e2
    obtain ⟨name, rfl⟩ : ∃ name, l = [name] := by
      match l, nl with
      | [name], _ => exact ⟨name, rfl⟩
    have gn := ng name (by simp)
    have nl1 : name ≠ [97] := fun z => by have := gn.1; rw [z] at this; simp at this
    have nl2 : name ≠ [98] := fun z => by have := gn.1; rw [z] at this; simp at this
    have G1 := one_good name gn [] [[97], name, [98], name] (by simp) (by simp) (by simp) (by simp) (by simp)
    have G2 := one_good name gn [[97]] [name, [98], name] (by simp) (by simp) (by simp) (by simp) (by simp)
    have G3 := one_good name gn [[97], [98]] [[97], name] (by simp) (by simp) (by simp) (by simp) (by simp [Ne.symm nl2])
    obtain ⟨r, S3, e3, m3, f3⟩ := of_s (n + 2) b (.tup [rulesD [(name, []), (name, [[97], name, [98], name])], rulesD [(name, [[97]]), (name, [name, [98], name])], rulesD [(name, [[97], [98]]), (name, [[97], name])]]) [rulesD [(name, []), (name, [[97], name, [98], name])], rulesD [(name, [[97]]), (name, [name, [98], name])], rulesD [(name, [[97], [98]]), (name, [[97], name])]] S2 f2.bowl (.inr rfl) (by simp) (Nat.lt_of_le_of_lt (Nat.le_of_ble_eq_true rfl : _ ≤ 3) (by decide))
    have e3 : cg (n + 4) 33 [] [.obj b, .tup [rulesD [(name, []), (name, [[97], name, [98], name])], rulesD [(name, [[97]]), (name, [name, [98], name])], rulesD [(name, [[97], [98]]), (name, [[97], name])]]] S2 = some (r, S3) := e3
    have hr : ∃ rs, r = rulesD rs ∧ GoodRules rs := by
      rcases List.mem_cons.mp m3 with rfl | m3
      · exact ⟨_, rfl, G1⟩
      · rcases List.mem_cons.mp m3 with rfl | m3
        · exact ⟨_, rfl, G2⟩
        · rcases List.mem_cons.mp m3 with rfl | m3
          · exact ⟨_, rfl, G3⟩
          · cases m3
    obtain ⟨rs, rfl, gr⟩ := hr
    refine ⟨rs, S3, ?_, gr, f3.bowl, (f2.trans f3).lam hS1⟩
    have am : atD ([97, 98] : List Nat) (-1) = some 98 := rfl
    refine run_ret (ρ' := [some (.obj b), some (.int 3), some (.int 4), some (.str [97, 98]), x4, x5, some (.str name), some (.str [97]), some (.str [98])]) rfl rfl rfl ((xs_nx (x_fr it e)).trans ((xs_nx (S1 := S2) (ρ1 := [some (.obj b), some (.int 3), some (.int 4), some (.str [97, 98]), x4, x5, some (.str name), some (.str [97]), some (.str [98])]) ?_).trans (xs_ret ?_)))
    · simp [e2, am]
    · simp [rulesD, ruleD] at e3
      simp [LIM, e3]
      rfl
  · exact ⟨rs, S1, run_ret (ρ' := ρ') rfl rfl rfl (xs_ret (x_fr it e)), gr, hb1, hS1⟩
theorem pl_head (l : List (List Nat)) : D.pl (headO l) = true := by cases l <;> rfl
theorem dep_head (l : List (List Nat)) : D.dep (headO l) = 0 := by cases l <;> rfl
theorem pl_emp {rs : List Rule} (g : GoodRules rs) : D.pl (.tup ((empties rs).map .str)) = true := by
  have h : (empties rs).length ≤ 8 := by_len g (Mk rs false)
  have a : decide (((empties rs).map D.str).length ≤ 100000) = true := decide_eq_true (by rw [List.length_map]; omega)
  show (decide (((empties rs).map D.str).length ≤ 100000) && D.pls ((empties rs).map .str)) = true
  rw [a, pls_strs] <;> rfl
theorem pl_look {rs : List Rule} (g : GoodRules rs) : D.pl (lookD rs) = true := by
  show (true && (D.pl (headO _) && (D.pl (headO _) && (D.pl (.tup ((empties rs).map .str)) && true)))) = true
  rw [pl_head, pl_head, pl_emp g] <;> rfl
theorem pl_look4 {rs : List Rule} (g : GoodRules rs) (b : Bool) : D.pl (.tup [headO (barrens rs), headO (turns rs), .tup ((empties rs).map .str), .bl b]) = true := by
  show (true && (D.pl (headO _) && (D.pl (headO _) && (D.pl (.tup ((empties rs).map .str)) && (true && true))))) = true
  rw [pl_head, pl_head, pl_emp g] <;> rfl
theorem dep_emp (rs : List Rule) : D.dep (.tup ((empties rs).map .str)) ≤ 1 := Nat.succ_le_succ (Nat.le_of_eq (deps_strs _))
theorem dep_look (rs : List Rule) : D.dep (lookD rs) ≤ 5 := by
  have d := dep_emp rs
  exact Nat.succ_le_succ (Nat.max_le.mpr ⟨by rw [dep_head]; omega, Nat.max_le.mpr ⟨by rw [dep_head]; omega, Nat.max_le.mpr ⟨by omega, Nat.zero_le _⟩⟩⟩)
theorem dep_look4 (rs : List Rule) (b : Bool) : D.dep (.tup [headO (barrens rs), headO (turns rs), .tup ((empties rs).map .str), .bl b]) ≤ 5 := by
  have d := dep_emp rs
  exact Nat.succ_le_succ (Nat.max_le.mpr ⟨by rw [dep_head]; omega, Nat.max_le.mpr ⟨by rw [dep_head]; omega, Nat.max_le.mpr ⟨by omega, Nat.max_le.mpr ⟨Nat.zero_le _, Nat.zero_le _⟩⟩⟩⟩)
abbrev eTwo : MT.E := (.cmp .eq (.sl (.var 4) .non (.som (.cst (.int 2)))) (.tup (.cons (.cst .non) (.cons (.cst .non) .nil))))
abbrev bdRight : Ss := (.cons (.set 2 (.ite (.cmp .lt (.var 1) (.cst (.int 9))) (.call 37 (.cons (.var 0) (.cons (.cst (.int 4)) (.cons (.cst (.int 6)) (.cons (.cst (.str [97, 98])) .nil))))) (.call 41 (.cons (.var 0) (.cons (.cst (.int 3)) (.cons (.cst (.int 4)) (.cons (.cst (.str [97, 98])) .nil))))))) (.cons (.par [3, 4] (.cons (.new 0 12 (.cons (.var 2) .nil)) (.cons (.call 39 (.cons (.var 2) .nil)) .nil))) (.cons (.iff (.or (.not (.call 34 (.cons (.tup (.cons (.call 27 (.cons (.var 3) .nil)) (.cons (.call 28 (.cons (.var 3) .nil)) (.cons (.call 29 (.cons (.var 3) .nil)) .nil)))) (.cons (.var 4) .nil)))) (.cmp .ne (.call 30 (.cons (.var 3) .nil)) eTwo)) (.cons (.ret (.cst (.bl false))) .nil) .nil) (.cons (.iff (.not (.call 34 (.cons (.tup (.cons (.callk 27 .nil (.cons (.var 3) .nil) [0]) (.cons (.callk 28 .nil (.cons (.var 3) .nil) [0]) (.cons (.callk 29 .nil (.cons (.var 3) .nil) [0]) (.cons (.callk 30 .nil (.cons (.var 3) .nil) [0]) .nil))))) (.cons (.bin .add (.var 4) (.tup (.cons eTwo .nil))) .nil)))) (.cons (.ret (.cst (.bl false))) .nil) .nil) .nil))))
theorem lap_s (n b i : Nat) (S : Store) (hb : Bowl S b) (hS : noLamS S = true) (x2 x3 x4 : Option D) :
    ∃ (S' : Store) (y2 y3 y4 : Option D), exSs prg (cg (n + 12)) fuA bdRight [some (.obj b), some (.int i), x2, x3, x4] S = some (.nx, [some (.obj b), some (.int i), y2, y3, y4], S') ∧ Bowl S' b ∧ noLamS S' = true := by
  have lets : ∀ c ∈ ([97, 98] : List Nat), [c] ∈ letters := by decide
  obtain ⟨rs, S1, e1, gr, hb1, hS1⟩ : ∃ (rs : List Rule) (S1 : Store), evE prg (cg (n + 12)) (.ite (.cmp .lt (.var 1) (.cst (.int 9))) (.call 37 (.cons (.var 0) (.cons (.cst (.int 4)) (.cons (.cst (.int 6)) (.cons (.cst (.str [97, 98])) .nil))))) (.call 41 (.cons (.var 0) (.cons (.cst (.int 3)) (.cons (.cst (.int 4)) (.cons (.cst (.str [97, 98])) .nil)))))) [some (.obj b), some (.int i), x2, x3, x4] S = some (rulesD rs, S1) ∧ GoodRules rs ∧ Bowl S1 b ∧ noLamS S1 = true := by
    by_cases q : (i : Int) < 9
    · obtain ⟨rs, names, S1, e1, f1, d1, ne1, l1, g1, o1, m1⟩ := any_rules_s (n + 8) b S hb 4 6 [97, 98] (by decide) (by decide) (by decide) (by decide) (by decide) (by decide)
      have e1 : cg (n + 12) 37 [] [.obj b, .int 4, .int 6, .str [97, 98]] S = some (rulesD rs, S1) := e1
      exact ⟨rs, S1, by simp [q, e1], d1.good ne1 (by omega) g1 o1 (by omega) lets, f1.bowl, f1.lam hS⟩
    · obtain ⟨rs, S1, e1, gr, hb1, hS1⟩ := rules_law_s (n + 7) b S hb hS
      have e1 : cg (n + 12) 41 [] [.obj b, .int 3, .int 4, .str [97, 98]] S = some (rulesD rs, S1) := e1
      exact ⟨rs, S1, by simp [q, e1], gr, hb1, hS1⟩
  have nw := new_s (n + 1) rs gr S1 hS1 [some (.obj b), some (.int i), some (rulesD rs), x3, x4] (.var 2) (by simp)
  obtain ⟨S2, e2, G2⟩ := looked_s (n + 9) rs gr (ext S1 rs)
  have e2 : cg (n + 12) 39 [] [rulesD rs] (ext S1 rs) = some (lookD rs, S2) := e2
  have A2 : IsGr S2 S1.length rs := G2.gr (ext_gr S1 rs)
  have st2 : exS prg (cg (n + 12)) fuA (.par [3, 4] (.cons (.new 0 12 (.cons (.var 2) .nil)) (.cons (.call 39 (.cons (.var 2) .nil)) .nil))) [some (.obj b), some (.int i), some (rulesD rs), x3, x4] S1 = some (.nx, [some (.obj b), some (.int i), some (rulesD rs), some (.obj S1.length), some (lookD rs)], S2) := by
    rw [x_par, el_cons', nw, bnd_some]
    simp [e2]
  -- the calls by position
  have fb := first_barren_s (n + 6) S1.length rs gr S2 A2
  have fb : cg (n + 12) 27 [] [.obj S1.length] S2 = some (headO (barrens rs), S2) := fb
  obtain ⟨S3, ft, G3⟩ := first_turning_s (n + 4) S1.length rs gr S2 A2
  have ft : cg (n + 12) 28 [] [.obj S1.length] S2 = some (headO (turns rs), S3) := ft
  have A3 := G3.gr A2
  have ek := empty_kinds_s (n + 6) S1.length rs gr S3 A3
  have ek : cg (n + 12) 29 [] [.obj S1.length] S3 = some (.tup ((empties rs).map .str), S3) := ek
  have sm := same_refl S3 5 (n + 6) (lookD rs) (pl_look gr) (dep_look rs)
  have sm : cg (n + 12) 34 [] [lookD rs, lookD rs] S3 = some (.bl true, S3) := sm
  have sm' : cg (n + 12) 34 [] [.tup [headO (barrens rs), headO (turns rs), .tup ((empties rs).map .str)], lookD rs] S3 = some (.bl true, S3) := sm
  obtain ⟨S4, lb, G4⟩ := is_let_by_s (n + 3) S1.length rs gr S3 A3
  have lb : cg (n + 12) 30 [] [.obj S1.length] S3 = some (.bl (letB rs), S4) := lb
  have A4 := G4.gr A3
  have two := first_two (cg (n + 12)) (.var 4) rs [some (.obj b), some (.int i), some (rulesD rs), some (.obj S1.length), some (lookD rs)] S4 S4 (by simp)
  have t1 : evE prg (cg (n + 12)) (.or (.not (.call 34 (.cons (.tup (.cons (.call 27 (.cons (.var 3) .nil)) (.cons (.call 28 (.cons (.var 3) .nil)) (.cons (.call 29 (.cons (.var 3) .nil)) .nil)))) (.cons (.var 4) .nil)))) (.cmp .ne (.call 30 (.cons (.var 3) .nil)) eTwo)) [some (.obj b), some (.int i), some (rulesD rs), some (.obj S1.length), some (lookD rs)] S2 = some (.bl false, S4) := by
    have p1 : evE prg (cg (n + 12)) (.not (.call 34 (.cons (.tup (.cons (.call 27 (.cons (.var 3) .nil)) (.cons (.call 28 (.cons (.var 3) .nil)) (.cons (.call 29 (.cons (.var 3) .nil)) .nil)))) (.cons (.var 4) .nil)))) [some (.obj b), some (.int i), some (rulesD rs), some (.obj S1.length), some (lookD rs)] S2 = some (.bl false, S3) := by
      simp [fb, ft, ek, sm', LIM]
    have p2 : evE prg (cg (n + 12)) (.call 30 (.cons (.var 3) .nil)) [some (.obj b), some (.int i), some (rulesD rs), some (.obj S1.length), some (lookD rs)] S3 = some (.bl (letB rs), S4) := by simp [lb]
    rw [e_or, p1, bnd_some]
    simp only [v_dBl]
    rw [e_cmp, p2, bnd_some, two, bnd_some, v_ne, v_eqb]
    cases letB rs <;> rfl
  -- by name
  have kb := first_barren_s (n + 6) S1.length rs gr S4 A4
  have kb : cg (n + 12) 27 [] [.obj S1.length] S4 = some (headO (barrens rs), S4) := kb
  obtain ⟨S5, kt, G5⟩ := first_turning_s (n + 4) S1.length rs gr S4 A4
  have kt : cg (n + 12) 28 [] [.obj S1.length] S4 = some (headO (turns rs), S5) := kt
  have A5 := G5.gr A4
  have kk := empty_kinds_s (n + 6) S1.length rs gr S5 A5
  have kk : cg (n + 12) 29 [] [.obj S1.length] S5 = some (.tup ((empties rs).map .str), S5) := kk
  obtain ⟨S6, kl, G6⟩ := is_let_by_s (n + 3) S1.length rs gr S5 A5
  have kl : cg (n + 12) 30 [] [.obj S1.length] S5 = some (.bl (letB rs), S6) := kl
  have two6 := first_two (cg (n + 12)) (.var 4) rs [some (.obj b), some (.int i), some (rulesD rs), some (.obj S1.length), some (lookD rs)] S6 S6 (by simp)
  have sm4 := same_refl S6 5 (n + 6) (.tup [headO (barrens rs), headO (turns rs), .tup ((empties rs).map .str), .bl (letB rs)]) (pl_look4 gr _) (dep_look4 rs _)
  have sm4 : cg (n + 12) 34 [] [.tup [headO (barrens rs), headO (turns rs), .tup ((empties rs).map .str), .bl (letB rs)], .tup [headO (barrens rs), headO (turns rs), .tup ((empties rs).map .str), .bl (letB rs)]] S6 = some (.bl true, S6) := sm4
  have t2 : evE prg (cg (n + 12)) (.not (.call 34 (.cons (.tup (.cons (.callk 27 .nil (.cons (.var 3) .nil) [0]) (.cons (.callk 28 .nil (.cons (.var 3) .nil) [0]) (.cons (.callk 29 .nil (.cons (.var 3) .nil) [0]) (.cons (.callk 30 .nil (.cons (.var 3) .nil) [0]) .nil))))) (.cons (.bin .add (.var 4) (.tup (.cons eTwo .nil))) .nil)))) [some (.obj b), some (.int i), some (rulesD rs), some (.obj S1.length), some (lookD rs)] S4 = some (.bl false, S6) := by
    have p : permD [D.obj S1.length] [0] = some [D.obj S1.length] := rfl
    have q1 : evE prg (cg (n + 12)) (.tup (.cons (.callk 27 .nil (.cons (.var 3) .nil) [0]) (.cons (.callk 28 .nil (.cons (.var 3) .nil) [0]) (.cons (.callk 29 .nil (.cons (.var 3) .nil) [0]) (.cons (.callk 30 .nil (.cons (.var 3) .nil) [0]) .nil))))) [some (.obj b), some (.int i), some (rulesD rs), some (.obj S1.length), some (lookD rs)] S4 = some (.tup [headO (barrens rs), headO (turns rs), .tup ((empties rs).map .str), .bl (letB rs)], S6) := by
      simp [p, kb, kt, kk, kl, LIM]
    have q2 : evE prg (cg (n + 12)) (.bin .add (.var 4) (.tup (.cons eTwo .nil))) [some (.obj b), some (.int i), some (rulesD rs), some (.obj S1.length), some (lookD rs)] S6 = some (.tup [headO (barrens rs), headO (turns rs), .tup ((empties rs).map .str), .bl (letB rs)], S6) := by
      have v4 : evE prg (cg (n + 12)) (.var 4) [some (.obj b), some (.int i), some (rulesD rs), some (.obj S1.length), some (lookD rs)] S6 = some (lookD rs, S6) := by simp
      rw [e_bin, v4, bnd_some, e_tup, el_cons', two6, bnd_some, el_nil', bnd_some, bnd_some, if_pos (Nat.le_of_ble_eq_true rfl), bnd_some]
      show (if 3 + 1 ≤ LIM then some (D.tup ([headO (barrens rs), headO (turns rs), .tup ((empties rs).map .str)] ++ [.bl (letB rs)])) else none).map _ = _
      rw [if_pos (by decide)]
      rfl
    rw [e_not, e_call, el_cons', q1, bnd_some, el_cons', q2, bnd_some, el_nil', bnd_some, bnd_some, bnd_some, sm4]
    rfl
  have iff_f : ∀ (c : MT.E) (a : Ss) (ρ : Envr) (S S' : Store), evE prg (cg (n + 12)) c ρ S = some (.bl false, S') → exS prg (cg (n + 12)) fuA (.iff c a .nil) ρ S = some (.nx, ρ, S') := fun c a ρ S S' h => by
    rw [x_iff, h, bnd_some]
    simp
  have GG := ((G3.trans G4).trans G5).trans G6
  exact ⟨S6, _, _, _, (xs_nx (by rw [x_set, e1]; rfl)).trans ((xs_nx st2).trans ((xs_nx (iff_f _ _ _ _ _ t1)).trans ((xs_nx (iff_f _ _ _ _ _ t2)).trans (xss_nil ..)))), (G2.trans GG).bowl (ext_bowl hb1), (G2.trans GG).lam (ext_lam hS1)⟩
theorem right_s (n b : Nat) (S : Store) (hb : Bowl S b) (hS : noLamS S = true) : ∃ S', cg (n + 13) 42 [] [.obj b] S = some (.bl true, S') ∧ noLamS S' = true := by
  rw [cg_succ (n + 12) 42 _ _ _ rfl]
  let Inv : Nat → Envr → Store → Prop := fun k ρ S' => Bowl S' b ∧ noLamS S' = true ∧ ∃ x1 x2 x3 x4 : Option D, ρ = [some (.obj b), x1, x2, x3, x4]
  obtain ⟨ρ', S', e, hb', hS', x1, x2, x3, x4, rfl⟩ := forG_inv (step := fun d ρ S => (bindT (.nm 1) d ρ).bind fun ρ => exSs prg (cg (n + 12)) fuA bdRight ρ S) Inv (rngD 0 12) 0
    [some (.obj b), none, none, none, none] S ⟨hb, hS, _, _, _, _, rfl⟩ (fun i d ρ S1 hd ⟨hb, hS, x1, x2, x3, x4, e⟩ => by
      subst e
      obtain ⟨k, _, rfl⟩ := rngD_mem (List.mem_of_getElem? hd)
      rw [Int.zero_add]
      obtain ⟨S', y2, y3, y4, e, hb', hS'⟩ := lap_s n b k S1 hb hS x2 x3 x4
      exact ⟨_, S', e, hb', hS', _, _, _, _, rfl⟩)
  refine ⟨S', ?_, hS'⟩
  exact run_ret (ρ' := [some (.obj b), x1, x2, x3, x4]) rfl rfl rfl ((xs_nx (x_fr (S1 := S) (items := rngD 0 12) (by simp [rng1_ok (m := 12) (by decide)]) e)).trans (xs_ret (by simp)))
/-- laps that all say True -/
theorem compG_true {f : D → Store → Option (Option D × Store)} {P : Store → Prop} : ∀ (items : List D) (S : Store), P S → (∀ d ∈ items, ∀ S, P S → ∃ S', f d S = some (some (.bl true), S') ∧ P S') →
    ∃ S', compG f items S = some (items.map fun _ => D.bl true, S') ∧ P S'
  | [], S, hp, _ => ⟨S, rfl, hp⟩
  | d :: items, S, hp, h => by
    obtain ⟨S1, e1, p1⟩ := h d List.mem_cons_self S hp
    obtain ⟨S2, e2, p2⟩ := compG_true items S1 p1 fun x hx => h x (List.mem_cons_of_mem _ hx)
    refine ⟨S2, ?_, p2⟩
    unfold compG
    rw [e1, bnd_some, e2, bnd_some]
    rfl
theorem law_math : LawMath := fun ns hl => by
  have lam0 : noLamS ([] : Store) = true := rfl
  obtain ⟨S', e, _⟩ := compG_true (P := fun S => noLamS S = true) (f := fun d S => (bindT (.nm 1) d (wipeE [some (.ro (ns.map .int)), none] [1])).bind fun ρ1 => bnd (evC prg (cg 16) .non ρ1 S) fun b S => if b then bnd (evE prg (cg 16) (.call 42 (.cons (.call 31 (.cons (.var 0) (.cons (.var 1) .nil))) .nil)) ρ1 S) fun y S => some (some y, S) else some (none, S))
    (rngD 0 (if (if (3 : Int) < (ns.length : Int) then 3 else (ns.length : Int)) > 1 then (if (3 : Int) < (ns.length : Int) then 3 else (ns.length : Int)) else 1).toNat) [] lam0 fun d hd S hS => by
      obtain ⟨k, hk, rfl⟩ := rngD_mem hd
      obtain ⟨x, y, z, e1⟩ := bowl_s 15 ns (0 + k) S (by omega)
      have e1 : cg 16 31 [] [.ro (ns.map .int), .int (0 + k)] S = some (.obj S.length, S ++ [.lst [.int x, .int y, .int z]]) := e1
      obtain ⟨S', e2, h2⟩ := right_s 3 S.length (S ++ [.lst [.int x, .int y, .int z]]) ⟨x, y, z, by simp⟩ (by
        unfold noLamS at hS ⊢
        rw [List.all_append, hS] <;> rfl)
      have e2 : cg 16 42 [] [.obj S.length] (S ++ [.lst [.int x, .int y, .int z]]) = some (.bl true, S') := e2
      rw [Int.zero_add] at e1 ⊢
      exact ⟨S', by simp [e1, e2], h2⟩
  refine ⟨S', ?_⟩
  have a := allBl_map (fun _ : D => true) (rngD 0 (if (if (3 : Int) < (ns.length : Int) then 3 else (ns.length : Int)) > 1 then (if (3 : Int) < (ns.length : Int) then 3 else (ns.length : Int)) else 1).toNat)
  rw [List.all_eq_true.mpr (fun _ _ => rfl)] at a
  have it : evI prg (cg 16) (.rng1 (.blt .max (.cons (.cst (.int 1)) (.cons (.blt .min (.cons (.blt .len (.cons (.var 0) .nil)) (.cons (.cst (.int 3)) .nil))) .nil)))) [some (.ro (ns.map .int)), none] [] = some (rngD 0 (if (if (3 : Int) < (ns.length : Int) then 3 else (ns.length : Int)) > 1 then (if (3 : Int) < (ns.length : Int) then 3 else (ns.length : Int)) else 1).toNat, []) := by
    have r := rng1_ok (m := if (if (3 : Int) < (ns.length : Int) then 3 else (ns.length : Int)) > 1 then (if (3 : Int) < (ns.length : Int) then 3 else (ns.length : Int)) else 1) (by split <;> split <;> omega)
    have b : bltD .max [.int 1, .int (if (3 : Int) < (ns.length : Int) then 3 else (ns.length : Int))] = some (.int (if (if (3 : Int) < (ns.length : Int) then 3 else (ns.length : Int)) > 1 then (if (3 : Int) < (ns.length : Int) then 3 else (ns.length : Int)) else 1)) := rfl
    have b2 : evE prg (cg 16) (.blt .min (.cons (.blt .len (.cons (.var 0) .nil)) (.cons (.cst (.int 3)) .nil))) [some (.ro (ns.map .int)), none] [] = some (.int (if (3 : Int) < (ns.length : Int) then 3 else (ns.length : Int)), []) := by
      simp
    rw [ei_rng1', e_blt, el_cons', e_cst, bnd_some, el_cons', b2, bnd_some, el_nil', bnd_some, bnd_some, bnd_some, b, Option.map_some, bnd_some, r]
    rfl
  have c := e_comp it e (by
    rw [List.length_map, rngD_len]
    unfold LIM
    split <;> split <;> omega)
  refine run_ret (ρ' := [some (.ro (ns.map .int)), none]) rfl rfl rfl (xs_ret ?_)
  show exS prg (cg 16) fuA (.ret (.blt .all (.cons (.comp (.call 42 (.cons (.call 31 (.cons (.var 0) (.cons (.var 1) .nil))) .nil)) (.nm 1) (.rng1 (.blt .max (.cons (.cst (.int 1)) (.cons (.blt .min (.cons (.blt .len (.cons (.var 0) .nil)) (.cons (.cst (.int 3)) .nil))) .nil)))) .non [1]) .nil))) [some (.ro (ns.map .int)), none] [] = _
  rw [x_ret, e_blt, el_cons', c, bnd_some, el_nil', bnd_some, bnd_some, v_all, a]
  rfl

end MT

set_option maxRecDepth 100000
set_option maxHeartbeats 0
open PySem PySem.W PySem.Calls PyProof.Rows
theorem PySem.Challenge.cw_mendtrees_k05_whole_grammars_looked_thro_holds : PySem.Challenge.rw_mendtrees_k05_whole_grammars_looked_thro.Holds := by
  exact law_holds MT.law_math

