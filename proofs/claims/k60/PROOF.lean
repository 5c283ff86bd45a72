import PyProof.Rows.All
import Wide.All
import OpenK.AllK
import Wide.FinOn
import HandS.ForExc
import HandS.Comp
import HandS.Dict
import HandS.Iter
import HandS.Zip
import HandS.Flow
import HandS.Star
import HandS.TryMany
import HandS.IsInst
import HandS.Lambda
import HandS.TupAny
import HandS.TupMul
import HandS.Style
import HandS.Wide
import KE.GoesEnum
import KE.GoesMore
import HandS.CallLocal
import HandS.WideBits
import HandS.DictComp
import HandS.More
import KE.SortKeyHeap
import HandS.SortKw
import KE.KStateDown
import HandS.Defaults
import HandS.Head0
import HandS.Head1
import HandS.Head2
import HandS.HeadEnd
import HandS.HeadHook1
import HandS.HeadHook2
import HandS.HeadNt
import HandS.EndTab
import KE.KExcSuper
import PyProof.Rows.FactsExc_KeyError
import PyProof.ExcBaseAll.IndexError
import PyProof.ExcBaseAll.LookupError
import PyProof.ExcBaseAll.OverflowError
import PyProof.ExcBaseAll.ArithmeticError
import PyProof.ExcBaseAll.RuntimeError
import HandS.ExcField
import HandS.ExcIs
import KE.KExcIs
import PyProof.Rows.TupDisplay
import HandS.FStr
import KE.DataCmp
import HandS.Deep
import PySem.Challenge.RW_stairgroups_k60_errors_of_texts
set_option Elab.async false
set_option linter.all false
set_option maxRecDepth 100000
set_option maxHeartbeats 4000000
/-! DE: data, mirrors, judgements over HandS. -/
namespace DE
open PySem PySem.Spec PyProof.Rows L2

abbrev D := PyData
structure Exc where
  cls : Str
  val : Option (Str × D)
inductive Res (α : Type) where
  | ok (a : α)
  | exc (e : Exc)
  | bad
def Res.bind {α β : Type} (r : Res α) (f : α → Res β) : Res β := match r with
  | .ok a => f a
  | .exc e => .exc e
  | .bad => .bad
def ofO {α : Type} : Option α → Res α
  | some a => .ok a
  | none => .bad
/-- the end of a binding -/
def thenK {α β : Type} (f : α → (Res β → Prop) → Prop) (k : Res β → Prop) : Res α → Prop
  | .ok a => f a k
  | .exc e => k (.exc e)
  | .bad => k .bad
class SpecM (M : Type → Type) where
  ret : {α : Type} → Res α → M α
  bind : {α β : Type} → M α → (α → M β) → M β
  post : {α : Type} → M α → (Res α → Prop) → Prop
  post_ret : ∀ {α : Type} {r : Res α} {k : Res α → Prop}, post (ret r) k → k r
  post_bind : ∀ {α β : Type} {m : M α} {f : α → M β} {k : Res β → Prop}, post (bind m f) k → post m (thenK (fun a k => post (f a) k) k)
  mono : ∀ {α : Type} {m : M α} {k k' : Res α → Prop}, (∀ r, k r → k' r) → post m k → post m k'
  nox : {α : Type} → M α → M α
  post_nox : ∀ {α : Type} {m : M α} {k : Res α → Prop}, post (nox m) k → post m (fun r => match r with | .ok a => k (.ok a) | _ => k .bad)
def Res.nox {α : Type} : Res α → Res α
  | .ok a => .ok a
  | _ => .bad
instance : SpecM Res where
  nox := Res.nox
  post_nox := fun {α m k} h => by cases m <;> exact h
  ret := fun r => r
  bind := Res.bind
  post := fun r k => k r
  post_ret := fun h => h
  post_bind := fun {α β m f k} h => by cases m <;> exact h
  mono := fun f h => f _ h
/-- what a draw may be: demonic -/
structure Dem (α : Type) where
  run : (Res α → Prop) → Prop
  mono : ∀ {k k' : Res α → Prop}, (∀ r, k r → k' r) → run k → run k'
instance : SpecM Dem where
  nox := fun {α} m => ⟨fun k => m.run (fun r => match r with | .ok a => k (.ok a) | _ => k .bad), fun {k k'} g h => m.mono (fun r q => by cases r <;> exact g _ q) h⟩
  post_nox := fun h => h
  ret := fun r => ⟨fun k => k r, fun f h => f _ h⟩
  bind := fun m f => ⟨fun k => m.run (thenK (fun a k => (f a).run k) k), fun {k k'} g h => m.mono (fun r q => by
    cases r with
    | ok a => exact (f a).mono g q
    | exc e => exact g _ q
    | bad => exact g _ q) h⟩
  post := fun m k => m.run k
  post_ret := fun h => h
  post_bind := fun h => h
  mono := fun {α m k k'} f h => m.mono f h
/-- a number below n -/
def roll (n : Int) : Dem D := ⟨fun k => 0 < n ∧ ∀ r : Int, 0 ≤ r → r < n → k (.ok (.int r)), fun f h => ⟨h.1, fun r a b => f _ (h.2 r a b)⟩⟩

/-! ### data in the heap -/
def KLst (K : PySem.W.Frag) (a : Addr) (xs : List V) : Prop :=
  ∃ (o : Obj) (its : Array Value) (n : Nat), K.lookup a = some o ∧ o.cls = .type "list" ∧ o.dict = none ∧ o.data = .seq its n ∧ its.size ≤ sizeLine ∧ Vals xs its.toList
def fnD (x : Str) : D := .dict [(.none, .str x)]
/-- a list that stands still -/
def LsA (K : PySem.W.Frag) (O : Addr → Prop) (H : Hp) (a : Addr) (xs : List V) : Prop := (H a = some (.lst xs) ∧ ¬ O a) ∨ False
/-- the law's script: a list of numbers that stands still -/
def ScA (K : PySem.W.Frag) (O : Addr → Prop) (H : Hp) (a : Addr) (xs : List V) : Prop := (H a = some (.lst xs) ∧ ¬ O a) ∨ (∃ o, H a = some (.frz o (.lst xs))) ∨ ∀ H', SqL K H' a xs
def DcA (K : PySem.W.Frag) (mg : Str → Option Value) (O : Addr → Prop) (H : Hp) (kvs : List (D × D)) (v : V) : Prop :=
  (kvs = [] ∧ ∃ a : Addr, v = V.ref a ∧ H a = some (.dK []) ∧ ¬ O a) ∨ (∃ (x : Str) (a : Addr), kvs = [(.none, .str x)] ∧ v = V.ref a ∧ mg x = some (Value.ref a)) ∨
    (∃ (ns : List Int) (a : Addr), kvs = [(.bool true, .list (ns.map PyData.int))] ∧ v = V.ref a ∧ ScA K O H a (ns.map V.int)) ∨
    ∃ (i j : Int) (a : Addr), kvs = [(.tuple [.int i], .int j)] ∧ v = V.ref a ∧ H a = some (.dT [([.inl i], V.int j)]) ∧ ¬ O a
section
variable (K : PySem.W.Frag) (mg : Str → Option Value) (O : Addr → Prop) (H : Hp)
mutual
def RepD : D → V → Prop
  | .none, v => v = V.non
  | .bool b, v => v = V.bl b
  | .int i, v => v = V.int i
  | .str x, v => v = V.str x
  | .tuple ds, v => ∃ (a : Addr) (xs : List V), v = V.ref a ∧ SqT K H a xs ∧ RepL ds xs
  | .list ds, v => ∃ (a : Addr) (xs : List V), v = V.ref a ∧ LsA K O H a xs ∧ RepL ds xs
  | .dict kvs, v => DcA K mg O H kvs v
def RepL : List D → List V → Prop
  | [], vs => vs = []
  | d :: ds, vs => ∃ (v : V) (r : List V), vs = v :: r ∧ RepD d v ∧ RepL ds r
end
def Rep (v : V) (d : D) : Prop := RepD K mg O H d v
def Reps (vs : List V) (ds : List D) : Prop := RepL K mg O H ds vs
/-- a list or tuple, its own place not asked -/
def RepS (P : Addr → Prop) (v : V) (d : D) : Prop := Rep K mg O H v d ∨ ∃ (a : Addr) (xs : List V) (ds : List D), v = V.ref a ∧ d = .list ds ∧ H a = some (.lst xs) ∧ ¬ P a ∧ Reps K mg O H xs ds
end
section
variable {K : PySem.W.Frag} {mg : Str → Option Value} {O : Addr → Prop} {H : Hp}
theorem Reps.nil : Reps K mg O H [] [] := by unfold Reps; rw [RepL]
theorem Reps.cons {v : V} {vs : List V} {d : D} {ds : List D} (r : Rep K mg O H v d) (t : Reps K mg O H vs ds) : Reps K mg O H (v :: vs) (d :: ds) := by
  unfold Reps; rw [RepL]; exact ⟨v, vs, rfl, r, t⟩
theorem Reps.nil_of {vs : List V} (h : Reps K mg O H vs []) : vs = [] := by unfold Reps at h; rw [RepL] at h; exact h
theorem Reps.cons_of {vs : List V} {d : D} {ds : List D} (h : Reps K mg O H vs (d :: ds)) : ∃ v r, vs = v :: r ∧ Rep K mg O H v d ∧ Reps K mg O H r ds := by
  unfold Reps at h; rw [RepL] at h; exact h
theorem Rep.non : Rep K mg O H .non .none := by unfold Rep; rw [RepD]
theorem Rep.bl (b : Bool) : Rep K mg O H (.bl b) (.bool b) := by unfold Rep; rw [RepD]
theorem Rep.int (i : Int) : Rep K mg O H (.int i) (.int i) := by unfold Rep; rw [RepD]
theorem Rep.str (x : Str) : Rep K mg O H (.str x) (.str x) := by unfold Rep; rw [RepD]
theorem Rep.tup {a : Addr} {xs : List V} {ds : List D} (h : SqT K H a xs) (r : Reps K mg O H xs ds) : Rep K mg O H (V.ref a) (.tuple ds) := by
  unfold Rep; rw [RepD]; exact ⟨a, xs, rfl, h, r⟩
theorem Rep.lst {a : Addr} {xs : List V} {ds : List D} (h : LsA K O H a xs) (r : Reps K mg O H xs ds) : Rep K mg O H (V.ref a) (.list ds) := by
  unfold Rep; rw [RepD]; exact ⟨a, xs, rfl, h, r⟩
theorem Rep.fn {a : Addr} {x : Str} (h : mg x = some (Value.ref a)) : Rep K mg O H (V.ref a) (fnD x) := by
  unfold Rep fnD; rw [RepD]; exact .inr (.inl ⟨x, a, rfl, rfl, h⟩)
theorem Rep.toInt {v : V} {i : Int} (h : Rep K mg O H v (.int i)) : v = .int i := by unfold Rep at h; rw [RepD] at h; exact h
theorem Rep.toBool {v : V} {i : Bool} (h : Rep K mg O H v (.bool i)) : v = .bl i := by unfold Rep at h; rw [RepD] at h; exact h
theorem Rep.toStr {v : V} {i : Str} (h : Rep K mg O H v (.str i)) : v = .str i := by unfold Rep at h; rw [RepD] at h; exact h
theorem Rep.toNon {v : V} (h : Rep K mg O H v .none) : v = .non := by unfold Rep at h; rw [RepD] at h; exact h
theorem Rep.tuple {v : V} {ds : List D} (h : Rep K mg O H v (.tuple ds)) : ∃ a xs, v = V.ref a ∧ SqT K H a xs ∧ Reps K mg O H xs ds := by
  unfold Rep at h; rw [RepD] at h; exact h
theorem Rep.list {v : V} {ds : List D} (h : Rep K mg O H v (.list ds)) : ∃ a xs, v = V.ref a ∧ LsA K O H a xs ∧ Reps K mg O H xs ds := by
  unfold Rep at h; rw [RepD] at h; exact h
theorem Rep.dict {v : V} {ds : List (D × D)} (h : Rep K mg O H v (.dict ds)) : DcA K mg O H ds v := by
  unfold Rep at h; rw [RepD] at h; exact h
theorem Rep.dic {v : V} {ds : List (D × D)} (h : DcA K mg O H ds v) : Rep K mg O H v (.dict ds) := by
  unfold Rep; rw [RepD]; exact h
theorem LsA.sq {a : Addr} {xs : List V} (h : LsA K O H a xs) : SqL K H a xs := by
  rcases h with ⟨h, _⟩ | h
  · exact .inl (.inl h)
  · exact h.elim
theorem Rep.s {P : Addr → Prop} {v : V} {d : D} (h : Rep K mg O H v d) : RepS K mg O H P v d := .inl h
theorem RepS.list {P : Addr → Prop} {v : V} {ds : List D} (h : RepS K mg O H P v (.list ds)) : ∃ a xs, v = V.ref a ∧ SqL K H a xs ∧ Reps K mg O H xs ds := by
  rcases h with h | ⟨a, xs, es, h1, h2, h3, _, h4⟩
  · obtain ⟨a, xs, h1, h2, h3⟩ := h.list
    exact ⟨a, xs, h1, h2.sq, h3⟩
  · cases h2
    exact ⟨a, xs, h1, .inl (.inl h3), h4⟩
theorem RepS.tuple {P : Addr → Prop} {v : V} {ds : List D} (h : RepS K mg O H P v (.tuple ds)) : ∃ a xs, v = V.ref a ∧ SqT K H a xs ∧ Reps K mg O H xs ds := by
  rcases h with h | ⟨a, xs, es, h1, h2, h3, _, h4⟩
  · exact h.tuple
  · cases h2
end
def DiceAt (H : Hp) (a : Addr) : Prop := ∃ x y z : Int, H a = some (.lst [.int x, .int y, .int z])
/-! the tables of code objects of the defs that make lambdas -/
class TabCtx where
  T : Addr → Str → Prop
  uniq : ∀ P q q', T P q → T P q' → q = q'
variable [τ : TabCtx]
structure Ext (M Dc : Addr → Prop) (H H' : Hp) : Prop where
  keep : ∀ a o, ¬ M a → (∀ ps, o ≠ .tbl ps) → H a = some o → H' a = some o
  there : ∀ a, H a ≠ none → H' a ≠ none
  tups : ∀ a xs, H a = some (.tup xs) → H' a = some (.tup xs)
  frzs : ∀ a o u, H a = some (.frz o u) → H' a = some (.frz o u)
  dice : ∀ a, Dc a → DiceAt H a → DiceAt H' a
  tabs : ∀ P q, τ.T P q → LamX.TabS H P q → LamX.TabS H' P q
section
variable {M Dc : Addr → Prop} {H H1 H2 : Hp}
theorem Ext.refl : Ext M Dc H H := ⟨fun _ _ _ _ h => h, fun _ h => h, fun _ _ h => h, fun _ _ _ h => h, fun _ _ h => h, fun _ _ _ h => h⟩
theorem Ext.trans (a : Ext M Dc H H1) (b : Ext M Dc H1 H2) : Ext M Dc H H2 :=
  ⟨fun c o m t h => b.keep c o m t (a.keep c o m t h), fun c h => b.there c (a.there c h), fun c o h => b.tups c o (a.tups c o h), fun c o u h => b.frzs c o u (a.frzs c o u h), fun c d h => b.dice c d (a.dice c d h), fun P q hT h => b.tabs P q hT (a.tabs P q hT h)⟩
theorem Ext.same (s : Same H H1) : Ext M Dc H H1 :=
  ⟨fun a o _ _ h => s a o h, fun a h z => h (s.free z), fun a o h => s a _ h, fun a o u h => s a _ h, fun a _ ⟨x, y, z, h⟩ => ⟨x, y, z, s a _ h⟩, fun P q _ t => t.ext fun b o e => s b o e⟩
theorem Ext.new {p : Addr} {o : HO} (h : H p = none) : Ext M Dc H (upd H p o) := .same fun b x e => by
  rw [upd_ne (ne_of_none e h)]
  exact e
end
theorem same_new {H : Hp} {p : Addr} {o : HO} (h : H p = none) : Same H (upd H p o) := fun b x e => by
  rw [upd_ne (ne_of_none e h)]
  exact e
theorem same_ext {H H1 : Hp} (e : Ext (fun _ => False) (fun _ => False) H H1) (a : Addr) (o : HO) (t : ∀ ps, o ≠ .tbl ps) (h : H a = some o) : H1 a = some o := e.keep a o (fun z => z) t h
section
variable {K : PySem.W.Frag} {mg : Str → Option Value} {M Dc O O' : Addr → Prop} {H H1 : Hp}
theorem sqT_ext (e : Ext M Dc H H1) {a : Addr} {xs : List V} (h : SqT K H a xs) : SqT K H1 a xs := by
  rcases h with (h | ⟨o, h⟩) | h
  · exact .inl (.inl (e.tups _ _ h))
  · exact .inl (.inr ⟨o, e.frzs _ _ _ h⟩)
  · exact .inr h
theorem lsA_ext (e : Ext M Dc H H1) (m : ∀ a, M a → O a) {a : Addr} {xs : List V} (h : LsA K O H a xs) : LsA K O H1 a xs := by
  rcases h with ⟨h, n⟩ | h
  · exact .inl ⟨e.keep _ _ (fun z => n (m _ z)) (fun _ z => nomatch z) h, n⟩
  · exact .inr h
theorem dcA_ext (e : Ext M Dc H H1) (m : ∀ a, M a → O a) {kvs : List (D × D)} {v : V} (h : DcA K mg O H kvs v) : DcA K mg O H1 kvs v := by
  rcases h with ⟨h0, a, h1, h2, n⟩ | h | ⟨ns, a, h0, h1, h⟩ | ⟨i, j, a, h0, h1, h2, n⟩
  · exact .inl ⟨h0, a, h1, e.keep _ _ (fun z => n (m _ z)) (fun _ z => nomatch z) h2, n⟩
  · exact .inr (.inl h)
  · refine .inr (.inr (.inl ⟨ns, a, h0, h1, ?_⟩))
    rcases h with ⟨h, n⟩ | ⟨o, h⟩ | h
    · exact .inl ⟨e.keep _ _ (fun z => n (m _ z)) (fun _ z => nomatch z) h, n⟩
    · exact .inr (.inl ⟨o, e.frzs _ _ _ h⟩)
    · exact .inr (.inr h)
  · exact .inr (.inr (.inr ⟨i, j, a, h0, h1, e.keep _ _ (fun z => n (m _ z)) (fun _ z => nomatch z) h2, n⟩))
/-- what moves a datum from one abstract heap to another -/
structure Mov (K : PySem.W.Frag) (mg : Str → Option Value) (O O' : Addr → Prop) (H H1 : Hp) : Prop where
  t : ∀ {a : Addr} {xs : List V}, SqT K H a xs → SqT K H1 a xs
  l : ∀ {a : Addr} {xs : List V}, LsA K O H a xs → LsA K O' H1 a xs
  d : ∀ {kvs : List (D × D)} {v : V}, DcA K mg O H kvs v → DcA K mg O' H1 kvs v
mutual
theorem repD_mov (m : Mov K mg O O' H H1) : ∀ (d : D) (v : V), RepD K mg O H d v → RepD K mg O' H1 d v
  | .none, v, h => by rw [RepD] at h ⊢; exact h
  | .bool b, v, h => by rw [RepD] at h ⊢; exact h
  | .int i, v, h => by rw [RepD] at h ⊢; exact h
  | .str x, v, h => by rw [RepD] at h ⊢; exact h
  | .tuple ds, v, h => by
    rw [RepD] at h ⊢
    obtain ⟨a, xs, h1, h2, h3⟩ := h
    exact ⟨a, xs, h1, m.t h2, repL_mov m ds xs h3⟩
  | .list ds, v, h => by
    rw [RepD] at h ⊢
    obtain ⟨a, xs, h1, h2, h3⟩ := h
    exact ⟨a, xs, h1, m.l h2, repL_mov m ds xs h3⟩
  | .dict kvs, v, h => by rw [RepD] at h ⊢; exact m.d h
theorem repL_mov (m : Mov K mg O O' H H1) : ∀ (ds : List D) (vs : List V), RepL K mg O H ds vs → RepL K mg O' H1 ds vs
  | [], vs, h => by rw [RepL] at h ⊢; exact h
  | d :: ds, vs, h => by
    rw [RepL] at h ⊢
    obtain ⟨v, r, h1, h2, h3⟩ := h
    exact ⟨v, r, h1, repD_mov m d v h2, repL_mov m ds r h3⟩
end
theorem Rep.mov (m : Mov K mg O O' H H1) {v : V} {d : D} (h : Rep K mg O H v d) : Rep K mg O' H1 v d := repD_mov m d v h
theorem Reps.mov (m : Mov K mg O O' H H1) {v : List V} {d : List D} (h : Reps K mg O H v d) : Reps K mg O' H1 v d := repL_mov m d v h
theorem Ext.mov (e : Ext M Dc H H1) (m : ∀ a, M a → O a) : Mov K mg O O H H1 := ⟨sqT_ext e, lsA_ext e m, dcA_ext e m⟩
theorem Rep.ext (e : Ext M Dc H H1) (m : ∀ a, M a → O a) {v : V} {d : D} (h : Rep K mg O H v d) : Rep K mg O H1 v d := h.mov (e.mov m)
theorem Reps.ext (e : Ext M Dc H H1) (m : ∀ a, M a → O a) {v : List V} {d : List D} (h : Reps K mg O H v d) : Reps K mg O H1 v d := h.mov (e.mov m)
theorem RepS.ext {P : Addr → Prop} (e : Ext M Dc H H1) (m : ∀ a, M a → O a) (n : ∀ a, M a → P a) {v : V} {d : D} (h : RepS K mg O H P v d) : RepS K mg O H1 P v d := by
  rcases h with h | ⟨a, xs, ds, h1, h2, h3, h4, h5⟩
  · exact .inl (h.ext e m)
  · exact .inr ⟨a, xs, ds, h1, h2, e.keep _ _ (fun z => h4 (n _ z)) (fun _ z => nomatch z) h3, h4, h5.ext e m⟩
theorem mov_anti (m : ∀ a, O' a → O a) : Mov K mg O O' H H := ⟨fun h => h, fun h => by
  rcases h with ⟨h, n⟩ | h
  · exact .inl ⟨h, fun z => n (m _ z)⟩
  · exact .inr h, fun h => by
  rcases h with ⟨h0, a, h1, h2, n⟩ | h | ⟨ns, a, h0, h1, h⟩ | ⟨i, j, a, h0, h1, h2, n⟩
  · exact .inl ⟨h0, a, h1, h2, fun z => n (m _ z)⟩
  · exact .inr (.inl h)
  · refine .inr (.inr (.inl ⟨ns, a, h0, h1, ?_⟩))
    rcases h with ⟨h, n⟩ | h
    · exact .inl ⟨h, fun z => n (m _ z)⟩
    · exact .inr h
  · exact .inr (.inr (.inr ⟨i, j, a, h0, h1, h2, fun z => n (m _ z)⟩))⟩
theorem mov_fresh (m : ∀ a, O' a → O a ∨ H a = none) : Mov K mg O O' H H := ⟨fun h => h, fun h => by
  rcases h with ⟨h, n⟩ | h
  · exact .inl ⟨h, fun z => (m _ z).elim n fun q => by rw [h] at q; cases q⟩
  · exact .inr h, fun h => by
  rcases h with ⟨h0, a, h1, h2, n⟩ | h | ⟨ns, a, h0, h1, h⟩ | ⟨i, j, a, h0, h1, h2, n⟩
  · exact .inl ⟨h0, a, h1, h2, fun z => (m _ z).elim n fun q => by rw [h2] at q; cases q⟩
  · exact .inr (.inl h)
  · refine .inr (.inr (.inl ⟨ns, a, h0, h1, ?_⟩))
    rcases h with ⟨h, n⟩ | h
    · exact .inl ⟨h, fun z => (m _ z).elim n fun q => by rw [h] at q; cases q⟩
    · exact .inr h
  · exact .inr (.inr (.inr ⟨i, j, a, h0, h1, h2, fun z => (m _ z).elim n fun q => by rw [h2] at q; cases q⟩))⟩
theorem Rep.anti (m : ∀ a, O' a → O a) {v : V} {d : D} (h : Rep K mg O H v d) : Rep K mg O' H v d := h.mov (mov_anti m)
theorem Reps.anti (m : ∀ a, O' a → O a) {v : List V} {d : List D} (h : Reps K mg O H v d) : Reps K mg O' H v d := h.mov (mov_anti m)
/-- a list at a place of O is written -/
theorem mov_wr {a : Addr} {xs ys : List V} (h0 : H a = some (.lst xs)) (ha : O a) : Mov K mg O O H (upd H a (.lst ys)) := ⟨fun h => by
  rcases h with (h | ⟨o, h⟩) | h
  · exact .inl (.inl (by rw [upd_ne (ne_of h h0 (fun z => nomatch z))]; exact h))
  · exact .inl (.inr ⟨o, by rw [upd_ne (ne_of h h0 (fun z => nomatch z))]; exact h⟩)
  · exact .inr h, fun {b zs} h => by
  rcases h with ⟨h, n⟩ | h
  · have ne : b ≠ a := fun z => n (z ▸ ha)
    exact .inl ⟨by rw [upd_ne ne]; exact h, n⟩
  · exact .inr h, fun h => by
  rcases h with ⟨q0, b, q1, q2, n⟩ | h | ⟨ns, b, q0, q1, h⟩ | ⟨i, j, b, q0, q1, q2, n⟩
  · exact .inl ⟨q0, b, q1, by rw [upd_ne (ne_of q2 h0 (fun z => nomatch z))]; exact q2, n⟩
  · exact .inr (.inl h)
  · refine .inr (.inr (.inl ⟨ns, b, q0, q1, ?_⟩))
    rcases h with ⟨h, n⟩ | ⟨o, h⟩ | h
    · have ne : b ≠ a := fun z => n (z ▸ ha)
      exact .inl ⟨by rw [upd_ne ne]; exact h, n⟩
    · exact .inr (.inl ⟨o, by rw [upd_ne (ne_of h h0 (fun z => nomatch z))]; exact h⟩)
    · exact .inr (.inr h)
  · exact .inr (.inr (.inr ⟨i, j, b, q0, q1, by rw [upd_ne (ne_of q2 h0 (fun z => nomatch z))]; exact q2, n⟩))⟩
theorem Reps.length : ∀ {ds : List D} {vs : List V}, Reps K mg O H vs ds → vs.length = ds.length
  | [], _, h => by rw [h.nil_of]; rfl
  | d :: ds, _, h => by
    obtain ⟨v, r, rfl, _, h2⟩ := h.cons_of
    exact congrArg (· + 1) (Reps.length h2)
theorem Reps.append : ∀ {ds : List D} {vs us : List V} {es : List D}, Reps K mg O H vs ds → Reps K mg O H us es → Reps K mg O H (vs ++ us) (ds ++ es)
  | [], _, _, _, h, s => by rw [h.nil_of]; exact s
  | d :: ds, _, _, _, h, s => by
    obtain ⟨v, r, rfl, h1, h2⟩ := h.cons_of
    exact .cons h1 (Reps.append h2 s)
theorem Reps.get : ∀ {ds : List D} {vs : List V} {i : Nat} {d : D}, Reps K mg O H vs ds → ds[i]? = some d → ∃ v, vs[i]? = some v ∧ Rep K mg O H v d
  | [], _, _, _, _, e => by simp at e
  | _ :: _, _, 0, _, h, e => by
    obtain ⟨v, r, rfl, h1, h2⟩ := h.cons_of
    simp at e; subst e; exact ⟨_, rfl, h1⟩
  | _ :: _, _, i + 1, d, h, e => by
    obtain ⟨v, r, rfl, h1, h2⟩ := h.cons_of
    obtain ⟨u, q1, q2⟩ := Reps.get (i := i) (d := d) h2 (by simpa using e)
    exact ⟨u, by simpa using q1, q2⟩
theorem Reps.getV {ds : List D} {vs : List V} {i : Nat} {v : V} (h : Reps K mg O H vs ds) (e : vs[i]? = some v) : ∃ d, ds[i]? = some d ∧ Rep K mg O H v d := by
  obtain ⟨l, _⟩ := List.getElem?_eq_some_iff.mp e
  have l2 : i < ds.length := by rw [← h.length]; exact l
  obtain ⟨u, q1, q2⟩ := h.get (List.getElem?_eq_getElem l2)
  rw [e] at q1; cases q1
  exact ⟨_, List.getElem?_eq_getElem l2, q2⟩
theorem Reps.take : ∀ (n : Nat) {ds : List D} {vs : List V}, Reps K mg O H vs ds → Reps K mg O H (vs.take n) (ds.take n)
  | 0, _, _, _ => by rw [List.take_zero, List.take_zero]; exact .nil
  | n + 1, [], _, h => by rw [h.nil_of]; exact .nil
  | n + 1, d :: ds, _, h => by
    obtain ⟨v, r, rfl, h1, h2⟩ := h.cons_of
    exact .cons h1 (Reps.take n h2)
theorem Reps.drop : ∀ (n : Nat) {ds : List D} {vs : List V}, Reps K mg O H vs ds → Reps K mg O H (vs.drop n) (ds.drop n)
  | 0, _, _, h => h
  | n + 1, [], _, h => by rw [h.nil_of]; exact .nil
  | n + 1, d :: ds, _, h => by
    obtain ⟨v, r, rfl, h1, h2⟩ := h.cons_of
    exact Reps.drop n h2
theorem Reps.set {v : V} {d : D} (q : Rep K mg O H v d) : ∀ (i : Nat) {ds : List D} {vs : List V}, Reps K mg O H vs ds → Reps K mg O H (vs.set i v) (ds.set i d)
  | _, [], _, h => by rw [h.nil_of]; exact .nil
  | 0, _ :: _, _, h => by
    obtain ⟨v, r, rfl, h1, h2⟩ := h.cons_of
    exact .cons q h2
  | i + 1, _ :: _, _, h => by
    obtain ⟨v, r, rfl, h1, h2⟩ := h.cons_of
    exact .cons h1 (Reps.set q i h2)
theorem Reps.rev : ∀ {ds : List D} {vs : List V}, Reps K mg O H vs ds → Reps K mg O H vs.reverse ds.reverse
  | [], _, h => by rw [h.nil_of]; exact .nil
  | _ :: _, _, h => by
    obtain ⟨v, r, rfl, h1, h2⟩ := h.cons_of
    rw [List.reverse_cons, List.reverse_cons]
    exact (Reps.rev h2).append (.cons h1 .nil)
theorem Reps.ints : ∀ (ns : List Int), Reps K mg O H (ns.map V.int) (ns.map PyData.int)
  | [] => .nil
  | n :: r => .cons (.int n) (Reps.ints r)
end
/-- an exception's own part -/
def ExcRep (K : PySem.W.Frag) (mg : Str → Option Value) (O : Addr → Prop) (ε : Exc) (cls : Value) (dx : Option Addr) (H : Hp) : Prop :=
  ∃ C : Addr, mg ε.cls = some (Value.ref C) ∧ cls = Value.ref C ∧ (∀ f d, ε.val = some (f, d) → ∃ dd v, dx = some dd ∧ H dd = some (.xd [(f, v)]) ∧ Rep K mg O H v d) ∧ (ε.val = none → dx = none)
theorem ExcRep.anti {K : PySem.W.Frag} {mg : Str → Option Value} {O O' : Addr → Prop} {ε : Exc} {cls : Value} {dx : Option Addr} {H : Hp} (m : ∀ a, O' a → O a) (h : ExcRep K mg O ε cls dx H) : ExcRep K mg O' ε cls dx H := by
  obtain ⟨C, h1, h2, h3, h4⟩ := h
  exact ⟨C, h1, h2, fun f d e => let ⟨dd, v, q1, q2, q3⟩ := h3 f d e; ⟨dd, v, q1, q2, q3.anti m⟩, h4⟩

/-! ### frames and slots -/
structure Frm where
  M : Addr → Prop
  Dc : Addr → Prop
  O : Addr → Prop
  H0 : Hp
  B : Nat → Addr → Prop
  nw : Nat → Prop
inductive Slot where
  | any
  | dat (d : D)
  | own (ds : List D)
  | dice
def TabsOK (H : Hp) : Prop := ∀ P q, τ.T P q → LamX.TabS H P q
theorem TabsOK.ext {M Dc : Addr → Prop} {H H' : Hp} (t : TabsOK H) (e : Ext M Dc H H') : TabsOK H' := fun P q h => e.tabs P q h (t P q h)
def OS (F : Frm) (σ : L2.St) (Γ : List Slot) (a : Addr) : Prop := F.O a ∨ F.M a ∨ ∃ (i : Nat) (ds : List D), Γ[i]? = some (Slot.own ds) ∧ σ[i]? = some (some (V.ref a))
/-- what leaves the def -/
def OF (F : Frm) (a : Addr) : Prop := F.O a ∨ F.M a
section
variable (K : PySem.W.Frag) (mg : Str → Option Value) (F : Frm)
def SlotOK (i : Nat) (O : Addr → Prop) (H : Hp) : Slot → Option V → Prop
  | .any, _ => True
  | .dat d, x => ∃ v, x = some v ∧ Rep K mg O H v d
  | .own ds, x => ∃ a xs, x = some (V.ref a) ∧ ¬ F.O a ∧ ((F.H0 a = none ∧ ¬ F.M a ∧ F.nw i) ∨ F.B i a) ∧ H a = some (.lst xs) ∧ Reps K mg O H xs ds
  | .dice, x => ∃ a, x = some (V.ref a) ∧ F.Dc a
structure Env (H : Hp) (σ : L2.St) (Γ : List Slot) : Prop where
  ext : Ext F.M F.Dc F.H0 H
  subM : ∀ a, F.Dc a → F.M a
  subO : ∀ a, F.Dc a → F.O a
  dom : ∀ a, F.O a → H a ≠ none
  domM : ∀ a, F.M a → H a ≠ none
  dic : ∀ a, F.Dc a → DiceAt H a
  len : σ.length = Γ.length
  slot : ∀ (i : Nat) (s : Slot), Γ[i]? = some s → ∃ x, σ[i]? = some x ∧ SlotOK K mg F i (OS F σ Γ) H s x
  bM : ∀ (i : Nat) (a : Addr), F.B i a → F.M a
  tbs : TabsOK H
  apart : ∀ (i j : Nat) (ds es : List D) (a : Addr), i ≠ j → Γ[i]? = some (Slot.own ds) → Γ[j]? = some (Slot.own es) → σ[i]? = some (some (V.ref a)) → σ[j]? ≠ some (some (V.ref a))
end
theorem Ext.wide {M M' Dc : Addr → Prop} {H H1 : Hp} (m : ∀ a, M a → M' a) (e : Ext M Dc H H1) : Ext M' Dc H H1 := ⟨fun a o n t h => e.keep a o (fun z => n (m a z)) t h, e.there, e.tups, e.frzs, e.dice, e.tabs⟩
section
variable {K : PySem.W.Frag} {mg : Str → Option Value} {F : Frm} {H H1 : Hp} {σ : L2.St} {Γ : List Slot}
theorem Env.osdom (E : Env K mg F H σ Γ) : ∀ a, OS F σ Γ a → H a ≠ none := fun a h => by
  rcases h with h | h | ⟨i, ds, h1, h2⟩
  · exact E.dom a h
  · exact E.domM a h
  · obtain ⟨x, q1, b, xs, q2, _, _, q3, _⟩ := E.slot i _ h1
    rw [h2] at q1
    cases q1
    cases q2
    rw [q3]
    exact fun z => nomatch z
theorem Env.fresh (E : Env K mg F H σ Γ) {p : Addr} (h : H p = none) : ¬ OS F σ Γ p := fun z => E.osdom p z h
/-- behind an expression: the dice alone may have turned -/
theorem Env.mono (E : Env K mg F H σ Γ) (e : Ext F.Dc F.Dc H H1) : Env K mg F H1 σ Γ where
  ext := E.ext.trans (e.wide E.subM)
  subM := E.subM
  subO := E.subO
  dom := fun a h => e.there a (E.dom a h)
  domM := fun a h => e.there a (E.domM a h)
  dic := fun a h => e.dice a h (E.dic a h)
  len := E.len
  slot := fun i s h => by
    obtain ⟨x, q1, q2⟩ := E.slot i s h
    refine ⟨x, q1, ?_⟩
    cases s with
    | any => trivial
    | dat d => obtain ⟨v, q3, q4⟩ := q2; exact ⟨v, q3, q4.ext e fun a z => .inl (E.subO a z)⟩
    | own ds => obtain ⟨a, xs, q3, q4, q5, q6, q7⟩ := q2; exact ⟨a, xs, q3, q4, q5, e.keep a _ (fun z => q4 (E.subO a z)) (fun _ z => nomatch z) q6, q7.ext e fun a z => .inl (E.subO a z)⟩
    | dice => exact q2
  bM := E.bM
  tbs := E.tbs.ext e
  apart := E.apart
end
end DE

set_option maxHeartbeats 4000000
namespace DE
open PySem PySem.Spec PyProof.Rows L2
variable [τ : TabCtx]
/-! ### readings by what they mean -/
section
variable (X : Cx)
@[irreducible] def wpE (e : Expr) (σ : L2.St) (H : Hp) (Q : V → Hp → Prop) : Prop := ∀ pins s, Inv X pins σ H s → wpAny (model X.prog X.w) X.A (eval e X.env) (EP X pins σ Q) X.xe s
@[irreducible] def wpT (e : Expr) (σ : L2.St) (H : Hp) (Q : Bool → Hp → Prop) : Prop := ∀ pins s, Inv X pins σ H s → wpAny (model X.prog X.w) X.A (isTrue e X.env (eval e X.env)) (TP X pins σ Q) X.xe s
@[irreducible] def wpW (e : Expr) (σ : L2.St) (H : Hp) (Q : Bool → Hp → Prop) : Prop := ∀ whole pins s, Inv X pins σ H s → wpAny (model X.prog X.w) X.A (isTrue e X.env whole) (TP X pins σ Q) X.xe s
@[irreducible] def wpA (es : List Expr) (σ : L2.St) (H : Hp) (Q : List V → Hp → Prop) : Prop := ∀ pos pins s, Inv X pins σ H s → wpAny (model X.prog X.w) X.A (spliced (backTo pos (starEach es X.env))) (AP X pins σ Q) X.xe s
@[irreducible] def wpS (st : Stmt) (D : Ends) (σ : L2.St) (H : Hp) : Prop := ∀ pins s, Inv X pins σ H s → wpAny (model X.prog X.w) X.A (exec st X.env) (SP X pins D) X.xe s
@[irreducible] def wpSs (st : List Stmt) (D : Ends) (σ : L2.St) (H : Hp) : Prop := ∀ pins s, Inv X pins σ H s → wpAny (model X.prog X.w) X.A (execs st X.env) (SP X pins D) X.xe s
end
section
variable {X : Cx}
theorem pe_sem {e : Expr} : PE X e (wpE X e) := ⟨fun pins s σ H Q I h => by unfold wpE at h; exact h pins s I⟩
theorem pt_sem {e : Expr} : PT X e (wpT X e) := ⟨fun pins s σ H Q I h => by unfold wpT at h; exact h pins s I⟩
theorem pw_sem {e : Expr} : PW X e (wpW X e) := ⟨fun whole pins s σ H Q I h => by unfold wpW at h; exact h whole pins s I⟩
theorem pa_sem {e : List Expr} : PA X e (wpA X e) := ⟨fun pos pins s σ H Q I h => by unfold wpA at h; exact h pos pins s I⟩
theorem ps_sem {e : Stmt} : PS X e (fun D σ H => wpS X e D σ H) := ⟨fun pins s σ H D I h => by unfold wpS at h; exact h pins s I⟩
theorem pss_sem {e : List Stmt} : PSs X e (fun D σ H => wpSs X e D σ H) := ⟨fun pins s σ H D I h => by unfold wpSs at h; exact h pins s I⟩
theorem PE.wp {e : Expr} {t : TE} (h : PE X e t) {σ : L2.St} {H : Hp} {Q : V → Hp → Prop} (ht : t σ H Q) : wpE X e σ H Q := by unfold wpE; exact fun pins s I => h.run pins s σ H Q I ht
theorem PT.wp {e : Expr} {t : TT} (h : PT X e t) {σ : L2.St} {H : Hp} {Q : Bool → Hp → Prop} (ht : t σ H Q) : wpT X e σ H Q := by unfold wpT; exact fun pins s I => h.run pins s σ H Q I ht
theorem PW.wp {e : Expr} {t : TT} (h : PW X e t) {σ : L2.St} {H : Hp} {Q : Bool → Hp → Prop} (ht : t σ H Q) : wpW X e σ H Q := by unfold wpW; exact fun whole pins s I => h.run whole pins s σ H Q I ht
theorem PA.wp {e : List Expr} {t : TA} (h : PA X e t) {σ : L2.St} {H : Hp} {Q : List V → Hp → Prop} (ht : t σ H Q) : wpA X e σ H Q := by unfold wpA; exact fun pos pins s I => h.run pos pins s σ H Q I ht
theorem PS.wp {e : Stmt} {t : TS} (h : PS X e t) {σ : L2.St} {H : Hp} {D : Ends} (ht : t D σ H) : wpS X e D σ H := by unfold wpS; exact fun pins s I => h.run pins s σ H D I ht
theorem PSs.wp {e : List Stmt} {t : TS} (h : PSs X e t) {σ : L2.St} {H : Hp} {D : Ends} (ht : t D σ H) : wpSs X e D σ H := by unfold wpSs; exact fun pins s I => h.run pins s σ H D I ht
theorem wpE.mk {e : Expr} {σ : L2.St} {H : Hp} {Q : V → Hp → Prop} (h : ∀ pins s, Inv X pins σ H s → wpAny (model X.prog X.w) X.A (eval e X.env) (EP X pins σ Q) X.xe s) : wpE X e σ H Q := by unfold wpE; exact h
theorem wpE.run {e : Expr} {σ : L2.St} {H : Hp} {Q : V → Hp → Prop} (h : wpE X e σ H Q) : ∀ pins s, Inv X pins σ H s → wpAny (model X.prog X.w) X.A (eval e X.env) (EP X pins σ Q) X.xe s := by unfold wpE at h; exact h
end
/-! ### the judgement -/
section
variable {M : Type → Type} [SpecM M] {α β : Type}
/-- behind an evaluation -/
def Post (K : PySem.W.Frag) (mg : Str → Option Value) (W : WX) (F : Frm) (O : Addr → Prop) (σ : L2.St) (H : Hp) (Rp : Hp → β → α → Prop) (Q : β → Hp → Prop) : Res α → Prop
  | .ok a => ∀ b H1, Ext F.Dc F.Dc H H1 → Rp H1 b a → Q b H1
  | .exc ε => ∀ cls dx H1, Ext F.Dc F.Dc H H1 → ExcRep K mg O ε cls dx H1 → W cls dx σ H1
  | .bad => False
def J (X : Cx) (W : WX) (Γ : List Slot) (wp : L2.St → Hp → (β → Hp → Prop) → Prop) (Rp : Frm → (Addr → Prop) → Hp → β → α → Prop) (m : M α) : Prop :=
  ∀ (F : Frm) (H : Hp) (σ : L2.St), DE.Env X.K X.mg F H σ Γ → ∀ Q : β → Hp → Prop, SpecM.post m (Post X.K X.mg W F (OS F σ Γ) σ H (Rp F (OS F σ Γ)) Q) → wp σ H Q
abbrev JE (X : Cx) (W : WX) (e : Expr) (Γ : List Slot) (m : M D) : Prop := J X W Γ (wpE X e) (fun _ O H v d => Rep X.K X.mg O H v d) m
abbrev JQ (X : Cx) (W : WX) (e : Expr) (Γ : List Slot) (m : M D) : Prop := J X W Γ (wpE X e) (fun F O H v d => RepS X.K X.mg O H F.O v d) m
abbrev JT (X : Cx) (W : WX) (e : Expr) (Γ : List Slot) (m : M Bool) : Prop := J X W Γ (wpT X e) (fun _ _ _ b c => b = c) m
abbrev JW (X : Cx) (W : WX) (e : Expr) (Γ : List Slot) (m : M Bool) : Prop := J X W Γ (wpW X e) (fun _ _ _ b c => b = c) m
abbrev JA (X : Cx) (W : WX) (e : List Expr) (Γ : List Slot) (m : M (List D)) : Prop := J X W Γ (wpA X e) (fun _ O H v d => Reps X.K X.mg O H v d) m
end
section
variable {M : Type → Type} [SpecM M] {α β γ δ : Type} {X : Cx} {W : WX} {Γ : List Slot} {wp : L2.St → Hp → (β → Hp → Prop) → Prop} {Rp : Frm → (Addr → Prop) → Hp → β → α → Prop} {F : Frm} {H H1 : Hp} {σ : L2.St}
theorem Post.up {O : Addr → Prop} {Rp : Hp → β → α → Prop} {Q : β → Hp → Prop} (e : Ext F.Dc F.Dc H H1) {r : Res α} (h : Post X.K X.mg W F O σ H Rp Q r) : Post X.K X.mg W F O σ H1 Rp Q r := by
  cases r with
  | ok a => exact fun b H2 e2 q => h b H2 (e.trans e2) q
  | exc ε => exact fun c d H2 e2 q => h c d H2 (e.trans e2) q
  | bad => exact h
theorem J.bind {ma : M α} (ja : J X W Γ wp Rp ma) (E : DE.Env X.K X.mg F H σ Γ) {f : α → M γ} {Rp' : Hp → δ → γ → Prop} {Q' : δ → Hp → Prop} (h : SpecM.post (SpecM.bind ma f) (Post X.K X.mg W F (OS F σ Γ) σ H Rp' Q'))
    {Q : β → Hp → Prop} (k : ∀ a b H1, Ext F.Dc F.Dc H H1 → DE.Env X.K X.mg F H1 σ Γ → Rp F (OS F σ Γ) H1 b a → SpecM.post (f a) (Post X.K X.mg W F (OS F σ Γ) σ H1 Rp' Q') → Q b H1) : wp σ H Q := by
  refine ja F H σ E Q (SpecM.mono (fun r hr => ?_) (SpecM.post_bind h))
  cases r with
  | ok a => exact fun b H1 e q => k a b H1 e (E.mono e) q (SpecM.mono (fun r => Post.up e) hr)
  | exc ε => exact hr
  | bad => exact hr
theorem post_ok {O : Addr → Prop} {Rp : Hp → β → α → Prop} {Q : β → Hp → Prop} {a : α} (h : SpecM.post (SpecM.ret (M := M) (.ok a)) (Post X.K X.mg W F O σ H Rp Q)) : ∀ b H1, Ext F.Dc F.Dc H H1 → Rp H1 b a → Q b H1 := SpecM.post_ret h
theorem post_ofO {O : Addr → Prop} {Rp : Hp → β → α → Prop} {Q : β → Hp → Prop} {o : Option α} (h : SpecM.post (SpecM.ret (M := M) (ofO o)) (Post X.K X.mg W F O σ H Rp Q)) : ∃ a, o = some a ∧ ∀ b H1, Ext F.Dc F.Dc H H1 → Rp H1 b a → Q b H1 := by
  have h := SpecM.post_ret h
  cases o with
  | none => exact False.elim h
  | some a => exact ⟨a, rfl, h⟩
end
/-! ### mirrors of operations -/
abbrev ok {M : Type → Type} [SpecM M] {α : Type} (a : α) : M α := SpecM.ret (.ok a)
abbrev op {M : Type → Type} [SpecM M] {α : Type} (o : Option α) : M α := SpecM.ret (ofO o)
abbrev bnd {M : Type → Type} [SpecM M] {α β : Type} (m : M α) (f : α → M β) : M β := SpecM.bind m f
def asB : D → Option Bool
  | .bool b => some b
  | _ => none
def truth : D → Option Bool
  | .bool b => some b
  | .none => some false
  | .int i => some (i != 0)
  | .list xs => some (!xs.isEmpty)
  | .tuple xs => some (!xs.isEmpty)
  | _ => none
def addI : D → D → Option D
  | .int i, .int j => some (.int (i + j))
  | _, _ => none
def subI : D → D → Option D
  | .int i, .int j => some (.int (i - j))
  | _, _ => none
def big64 : Int := 18446744073709551616
def mulI : D → D → Option D
  | .int i, .int j => if (-big64 < i && i < big64) || (-big64 < j && j < big64) then some (.int (i * j)) else none
  | _, _ => none
def modI : D → D → Option D
  | .int i, .int j => if j != 0 then some (.int (i.fmod j)) else none
  | _, _ => none
def fdivI : D → D → Option D
  | .int i, .int j => if j != 0 && j.natAbs < 1073741824 then some (.int (i.fdiv j)) else none
  | _, _ => none
def negI : D → Option D
  | .int i => some (.int (-i))
  | _ => none
def ltI : D → D → Option D
  | .int i, .int j => some (.bool (decide (i < j)))
  | _, _ => none
def leI : D → D → Option D
  | .int i, .int j => some (.bool (decide (i ≤ j)))
  | _, _ => none
def gtI : D → D → Option D
  | .int i, .int j => some (.bool (decide (j < i)))
  | _, _ => none
def geI : D → D → Option D
  | .int i, .int j => some (.bool (decide (j ≤ i)))
  | _, _ => none
def eqD (d e : D) : Option D := if SeqAt.shaped d && SeqAt.shaped e then some (.bool (PyData.eqv d e)) else none
def neD (d e : D) : Option D := if SeqAt.shaped d && SeqAt.shaped e then some (.bool (!PyData.eqv d e)) else none
def isN : D → Bool
  | .none => true
  | _ => false
def itemD : D → D → Option D
  | .list xs, .int i => atI xs i
  | .tuple xs, .int i => atI xs i
  | _, _ => none
def lenD : D → Option D
  | .list xs => some (.int xs.length)
  | .tuple xs => some (.int xs.length)
  | .str x => if x.length ≤ 16777216 then some (.int x.length) else none
  | _ => none
def intD : D → Option D
  | .int i => some (.int i)
  | .bool b => some (.int (if b then 1 else 0))
  | _ => none
def maxL : Nat := 16777216
/-! ### names and constants -/
section
variable {M : Type → Type} [SpecM M] {X : Cx} {W : WX} {Γ : List Slot} {pos p : Pos}
theorem je_of {e : Expr} {d : D} (h : ∀ F H σ, DE.Env X.K X.mg F H σ Γ → ∀ Q : V → Hp → Prop, (∀ v H1, Ext F.Dc F.Dc H H1 → Rep X.K X.mg (OS F σ Γ) H1 v d → Q v H1) → wpE X e σ H Q) : JE X W e Γ (ok (M := M) d) := fun F H σ E Q hq => h F H σ E Q (post_ok hq)
theorem je_var (i : Nat) {x : Str} {d : D} (hs : Γ[i]? = some (Slot.dat d) := by rfl) (hN : X.N[i]? = some x := by kernel_rfl) (hv : Vis X.env.scope x) (hd : (x == ("__debug__" : Str)) = false := by kernel_rfl) (hcd : (x == ("__classdict__" : Str)) = false := by kernel_rfl) : JE X W (.Name x pos) Γ (ok (M := M) d) := je_of fun F H σ E Q hq => by
  obtain ⟨y, h1, v, h2, h3⟩ := E.slot i _ hs
  subst h2
  exact PE.wp (pe_var hN hv hd hcd) ⟨v, h1, hq v H .refl h3⟩
theorem jq_own (i : Nat) {x : Str} {ds : List D} (hs : Γ[i]? = some (Slot.own ds) := by rfl) (hN : X.N[i]? = some x := by kernel_rfl) (hv : Vis X.env.scope x) (hd : (x == ("__debug__" : Str)) = false := by kernel_rfl) (hcd : (x == ("__classdict__" : Str)) = false := by kernel_rfl) : JQ X W (.Name x pos) Γ (ok (M := M) (.list ds)) := fun F H σ E Q hq => by
  obtain ⟨y, h1, a, xs, h2, h5, _, h3, h4⟩ := E.slot i _ hs
  subst h2
  exact PE.wp (pe_var hN hv hd hcd) ⟨_, h1, post_ok hq _ H .refl (.inr ⟨a, xs, ds, rfl, rfl, h3, h5, h4⟩)⟩
theorem jq {e : Expr} {m : M D} (h : JE X W e Γ m) : JQ X W e Γ m := fun F H σ E Q hq => h F H σ E Q (SpecM.mono (fun r hr => by
  cases r with
  | ok d => exact fun v H1 e q => hr v H1 e q.s
  | exc ε => exact hr
  | bad => exact hr) hq)
theorem je_int {i : Int} {j : Nat} : JE X W (.Constant (.int i) j pos) Γ (ok (M := M) (.int i)) := je_of fun F H σ E Q hq => PE.wp pe_int (hq _ H .refl (.int i))
theorem je_bl {i : Bool} {j : Nat} : JE X W (.Constant (.bool i) j pos) Γ (ok (M := M) (.bool i)) := je_of fun F H σ E Q hq => PE.wp pe_bl (hq _ H .refl (.bl i))
theorem je_non {j : Nat} : JE X W (.Constant .none j pos) Γ (ok (M := M) .none) := je_of fun F H σ E Q hq => PE.wp pe_non (hq _ H .refl .non)
theorem je_str {x : Str} {j : Nat} : JE X W (.Constant (.str x) j pos) Γ (ok (M := M) (.str x)) := je_of fun F H σ E Q hq => PE.wp pe_str (hq _ H .refl (.str x))
theorem je_glob {x : Str} {d : D} {u : Value} {v : V} (hm : X.mg x = some u) (r : RelV v u) (hr : ∀ O H, Rep X.K X.mg O H v d) (hg : Gl X x := by (show _ = _); kernel_rfl) (hd : (x == ("__debug__" : Str)) = false := by kernel_rfl) : JE X W (.Name x pos) Γ (ok (M := M) d) :=
  je_of fun F H σ E Q hq => PE.wp (pe_glob hg hm r hd) (hq _ H .refl (hr _ _))
/-! ### argument lists, displays -/
theorem ja_nil : JA X W [] Γ (ok (M := M) []) := fun F H σ E Q hq => PA.wp pa_nil (post_ok hq [] H .refl .nil)
theorem ja_cons {e : Expr} {es : List Expr} {ma : M D} {mr : M (List D)} (ha : JE X W e Γ ma) (hr : JA X W es Γ mr) (hs : starEach (e :: es) X.env = (false, eval e X.env) :: starEach es X.env := by kernel_rfl) : JA X W (e :: es) Γ (bnd ma fun d => bnd mr fun ds => ok (d :: ds)) := fun F H σ E Q hq => by
  refine PA.wp (pa_cons pe_sem pa_sem hs) ?_
  refine ha.bind E hq fun d v H1 e1 E1 r1 hq => ?_
  refine hr.bind E1 hq fun ds vs H2 e2 E2 r2 hq => ?_
  exact post_ok hq _ H2 .refl (.cons (r1.ext e2 fun a z => .inl (E.subO a z)) r2)
theorem ja_star {e : Expr} {es : List Expr} {ma : M D} {mr : M (List D)} (ha : JQ X W e Γ ma) (hr : JA X W es Γ mr) (hs : starEach (.Starred e p :: es) X.env = (true, eval e X.env) :: starEach es X.env := by kernel_rfl) :
    JA X W (.Starred e p :: es) Γ (bnd ma fun d => bnd (op (match d with | .list xs => some xs | .tuple xs => some xs | _ => none)) fun xs => bnd mr fun ds => ok (xs ++ ds)) := fun F H σ E Q hq => by
  refine PA.wp (StX.pa_star pe_sem pa_sem hs) ?_
  refine ha.bind E hq fun d v H1 e1 E1 r1 hq => ?_
  have hq := SpecM.post_bind hq
  have hq := SpecM.post_ret hq
  have go : ∀ xs a ys, v = V.ref a → (SqT X.K H1 a ys ∨ SqL X.K H1 a ys) → Reps X.K X.mg (OS F σ Γ) H1 ys xs → SpecM.post (bnd mr fun ds => ok (xs ++ ds)) (Post X.K X.mg W F (OS F σ Γ) σ H1 (fun H v d => Reps X.K X.mg (OS F σ Γ) H v d) Q) →
      (∃ a xs, v = V.ref a ∧ (SqT X.K H1 a xs ∨ SqL X.K H1 a xs) ∧ wpA X es σ H1 fun ys H2 => Q (xs ++ ys) H2) := fun xs a ys hv hs hx hq => by
    refine ⟨a, ys, hv, hs, ?_⟩
    refine hr.bind E1 hq fun ds vs H2 e2 E2 r2 hq => ?_
    exact post_ok hq _ H2 .refl ((hx.ext e2 fun a z => .inl (E.subO a z)).append r2)
  cases d with
  | list xs => obtain ⟨a, ys, h1, h2, h3⟩ := r1.list; exact go xs a ys h1 (.inr h2) h3 hq
  | tuple xs => obtain ⟨a, ys, h1, h2, h3⟩ := r1.tuple; exact go xs a ys h1 (.inl h2) h3 hq
  | _ => exact False.elim hq
end
end DE

set_option maxHeartbeats 4000000
namespace DE
open PySem PySem.Spec PyProof.Rows L2
variable [τ : TabCtx]
section
variable {K : PySem.W.Frag} {mg : Str → Option Value} {O : Addr → Prop} {H : Hp}
/-! data told as HandS tells them: no dict within -/
mutual
theorem Rep.dp : ∀ (d : D) (v : V), SeqAt.shaped d = true ∨ d.canLay0 = true → Rep K mg O H v d → Dp K H v d
  | .none, v, _, h => by rw [h.toNon]; exact .non
  | .bool b, v, _, h => by rw [h.toBool]; exact .bl b
  | .int i, v, _, h => by rw [h.toInt]; exact .int i
  | .str x, v, _, h => by rw [h.toStr]; exact .str x
  | .tuple ds, v, q, h => by
    obtain ⟨a, xs, rfl, h1, h2⟩ := h.tuple
    refine .tup h1 (Reps.dp ds xs ?_ h2)
    have q' : (PyData.tuple ds).canLay0 = true := by
      rcases q with q | q
      · unfold SeqAt.shaped at q; simp only [Bool.and_eq_true] at q; exact q.1
      · exact q
    rw [PyData.canLay0] at q'
    exact q'
  | .list ds, v, q, h => by
    obtain ⟨a, xs, rfl, h1, h2⟩ := h.list
    refine .lst h1.sq (Reps.dp ds xs ?_ h2)
    have q' : (PyData.list ds).canLay0 = true := by
      rcases q with q | q
      · unfold SeqAt.shaped at q; simp only [Bool.and_eq_true] at q; exact q.1
      · exact q
    rw [PyData.canLay0] at q'
    exact q'
  | .dict kvs, v, q, h => by
    have q' : (PyData.dict kvs).canLay0 = true := by
      rcases q with q | q
      · unfold SeqAt.shaped at q; simp only [Bool.and_eq_true] at q; exact q.1
      · exact q
    rw [PyData.canLay0] at q'
    cases q'
theorem Reps.dp : ∀ (ds : List D) (vs : List V), PyData.canLayAll0 ds = true → Reps K mg O H vs ds → DpAll K H vs ds
  | [], vs, _, h => by rw [h.nil_of]; exact .nil
  | d :: ds, vs, q, h => by
    obtain ⟨v, r, rfl, h1, h2⟩ := h.cons_of
    rw [PyData.canLayAll0, Bool.and_eq_true] at q
    exact .cons (Rep.dp d v (.inr q.1) h1) (Reps.dp ds r q.2 h2)
end
theorem RepS.dp {P : Addr → Prop} {d : D} {v : V} (q : SeqAt.shaped d = true) (h : RepS K mg O H P v d) : Dp K H v d := by
  rcases h with h | ⟨a, xs, ds, rfl, rfl, h1, _, h2⟩
  · exact h.dp _ _ (.inl q)
  · unfold SeqAt.shaped at q
    simp only [Bool.and_eq_true] at q
    have q' := q.1
    rw [PyData.canLay0] at q'
    exact .lst (.inl (.inl h1)) (Reps.dp _ _ q' h2)
end

/-- a rule by values, against a function of data -/
def RO (X : Cx) (r : R2) (f : D → D → Option D) : Prop := ∀ (O : Addr → Prop) (H : Hp) (x y : V) (dx dy d : D), (∀ a, O a → H a ≠ none) → Rep X.K X.mg O H x dx → Rep X.K X.mg O H y dy → f dx dy = some d →
  ∀ Q : V → Hp → Prop, (∀ v H1, Same H H1 → Rep X.K X.mg O H1 v d → Q v H1) → r x y H Q
def ROq (X : Cx) (r : R2) (f : D → D → Option D) : Prop := ∀ (P O : Addr → Prop) (H : Hp) (x y : V) (dx dy d : D), (∀ a, O a → H a ≠ none) → RepS X.K X.mg O H P x dx → RepS X.K X.mg O H P y dy → f dx dy = some d →
  ∀ Q : V → Hp → Prop, (∀ v H1, Same H H1 → Rep X.K X.mg O H1 v d → Q v H1) → r x y H Q
def RU (X : Cx) (r : V → Hp → VK → Prop) (f : D → Option D) : Prop := ∀ (O : Addr → Prop) (H : Hp) (x : V) (dx d : D), (∀ a, O a → H a ≠ none) → Rep X.K X.mg O H x dx → f dx = some d →
  ∀ Q : V → Hp → Prop, (∀ v H1, Same H H1 → Rep X.K X.mg O H1 v d → Q v H1) → r x H Q
/-- a built-in's call -/
def RC (X : Cx) (r : List V → Hp → VK → Prop) (f : List D → Option D) : Prop := ∀ (O : Addr → Prop) (H : Hp) (xs : List V) (ds : List D) (d : D), (∀ a, O a → H a ≠ none) → Reps X.K X.mg O H xs ds → f ds = some d →
  ∀ Q : V → Hp → Prop, (∀ v H1, Same H H1 → Rep X.K X.mg O H1 v d → Q v H1) → r xs H Q
section
variable {M : Type → Type} [SpecM M] {X : Cx} {W : WX} {Γ : List Slot} {pos p : Pos} {a b e : Expr} {es : List Expr} {ma mb : M D} {f : D → D → Option D} {r : R2}
theorem ROq.ro (h : ROq X r f) : RO X r f := fun O H x y dx dy d dm rx ry e Q q => h (fun _ => False) O H x y dx dy d dm rx.s ry.s e Q q
theorem je_bin2 {t : TE} {x : Expr} (hp : PE X x t) (ht : t = tOp r (wpE X a) (wpE X b)) (ro : RO X r f) (ha : JE X W a Γ ma) (hb : JE X W b Γ mb) : JE X W x Γ (bnd ma fun x => bnd mb fun y => op (f x y)) := fun F H σ E Q hq => by
  subst ht
  refine PE.wp hp ?_
  refine ha.bind E hq fun d v H1 e1 E1 r1 hq => ?_
  refine hb.bind E1 hq fun d2 u H2 e2 E2 r2 hq => ?_
  obtain ⟨z, hz, q⟩ := post_ofO hq
  exact ro _ H2 v u d d2 z E2.osdom (r1.ext e2 fun a z => .inl (E.subO a z)) r2 hz Q fun v H3 s3 r3 => q v H3 (.same s3) r3
theorem je_op {o : Operator} (hr : OpR X (binaryOp o) r) (ro : RO X r f) (ha : JE X W a Γ ma) (hb : JE X W b Γ mb) : JE X W (.BinOp a o b pos) Γ (bnd ma fun x => bnd mb fun y => op (f x y)) := je_bin2 (pe_op hr pe_sem pe_sem) rfl ro ha hb
theorem je_cmp {o : CmpOp} (hr : OpR X (compareOp o) r) (ro : RO X r f) (h1 : behindInMarks o b = false := by kernel_rfl) (ha : JE X W a Γ ma) (hb : JE X W b Γ mb) : JE X W (.Compare a [o] [b] pos) Γ (bnd ma fun x => bnd mb fun y => op (f x y)) := je_bin2 (pe_cmpR hr pe_sem pe_sem h1) rfl ro ha hb
/-- as a test -/
theorem jt_cmp {o : CmpOp} (hr : OpR X (compareOp o) r) (ro : ROq X r f) (h1 : behindInMarks o b = false := by kernel_rfl) (ha : JQ X W a Γ ma) (hb : JE X W b Γ mb) : JT X W (.Compare a [o] [b] pos) Γ (bnd ma fun x => bnd mb fun y => op ((f x y).bind asB)) := fun F H σ E Q hq => by
  refine PT.wp (pt_cmpR hr pe_sem pe_sem h1) ?_
  refine ha.bind E hq fun d v H1 e1 E1 r1 hq => ?_
  refine hb.bind E1 hq fun d2 u H2 e2 E2 r2 hq => ?_
  obtain ⟨z, hz, q⟩ := post_ofO hq
  cases hf : f d d2 with
  | none => rw [hf] at hz; cases hz
  | some w =>
    rw [hf] at hz
    have r1' : RepS X.K X.mg (OS F σ Γ) H2 F.O v d := r1.ext e2 (fun a z => .inl (E.subO a z)) E.subO
    refine ro F.O _ H2 v u d d2 w E2.osdom r1' r2.s hf _ fun v H3 s3 r3 => ?_
    cases w with
    | bool k => exact ⟨k, r3.toBool, q k H3 (.same s3) (Option.some.inj hz)⟩
    | _ => cases hz
end

/-! ### rules by values -/
section
variable {X : Cx}
theorem ro_ii {r : R2} {C : Int → Int → Prop} {g : Int → Int → V} {G : Int → Int → D} {c : Int → Int → Bool} {f : D → D → Option D} (hr : r = rI C g) (hC : ∀ i j, c i j = true → C i j)
    (hg : ∀ O H i j, Rep X.K X.mg O H (g i j) (G i j)) (hf : ∀ x y d, f x y = some d → ∃ i j, x = .int i ∧ y = .int j ∧ c i j = true ∧ d = G i j) : RO X r f := fun O H x y dx dy d dm rx ry e Q q => by
  subst hr
  obtain ⟨i, j, rfl, rfl, h, rfl⟩ := hf _ _ _ e
  exact ⟨i, j, rx.toInt, ry.toInt, hC i j h, q _ H (.refl H) (hg _ _ _ _)⟩
theorem ro_i0 {r : R2} {g : Int → Int → V} {G : Int → Int → D} {f : D → D → Option D} (hr : r = rI0 g)
    (hg : ∀ O H i j, Rep X.K X.mg O H (g i j) (G i j)) (hf : ∀ x y d, f x y = some d → ∃ i j, x = .int i ∧ y = .int j ∧ d = G i j) : RO X r f := fun O H x y dx dy d dm rx ry e Q q => by
  subst hr
  obtain ⟨i, j, rfl, rfl, rfl⟩ := hf _ _ _ e
  exact ⟨i, j, rx.toInt, ry.toInt, q _ H (.refl H) (hg _ _ _ _)⟩
theorem f_add (x y d : D) (h : addI x y = some d) : ∃ i j, x = .int i ∧ y = .int j ∧ d = .int (i + j) := by cases x <;> cases y <;> first | exact ⟨_, _, rfl, rfl, (Option.some.inj h).symm⟩ | cases h
theorem f_sub (x y d : D) (h : subI x y = some d) : ∃ i j, x = .int i ∧ y = .int j ∧ d = .int (i - j) := by cases x <;> cases y <;> first | exact ⟨_, _, rfl, rfl, (Option.some.inj h).symm⟩ | cases h
theorem f_lt (x y d : D) (h : ltI x y = some d) : ∃ i j, x = .int i ∧ y = .int j ∧ d = .bool (decide (i < j)) := by cases x <;> cases y <;> first | exact ⟨_, _, rfl, rfl, (Option.some.inj h).symm⟩ | cases h
theorem f_le (x y d : D) (h : leI x y = some d) : ∃ i j, x = .int i ∧ y = .int j ∧ d = .bool (decide (i ≤ j)) := by cases x <;> cases y <;> first | exact ⟨_, _, rfl, rfl, (Option.some.inj h).symm⟩ | cases h
theorem f_gt (x y d : D) (h : gtI x y = some d) : ∃ i j, x = .int i ∧ y = .int j ∧ d = .bool (decide (j < i)) := by cases x <;> cases y <;> first | exact ⟨_, _, rfl, rfl, (Option.some.inj h).symm⟩ | cases h
theorem f_ge (x y d : D) (h : geI x y = some d) : ∃ i j, x = .int i ∧ y = .int j ∧ d = .bool (decide (j ≤ i)) := by cases x <;> cases y <;> first | exact ⟨_, _, rfl, rfl, (Option.some.inj h).symm⟩ | cases h
theorem ro_add : RO X (rI0 fun i j => .int (i + j)) addI := ro_i0 rfl (fun O H i j => .int _) f_add
theorem ro_sub : RO X (rI0 fun i j => .int (i - j)) subI := ro_i0 rfl (fun O H i j => .int _) f_sub
theorem ro_lt : RO X (rI0 fun i j => .bl (decide (i < j))) ltI := ro_i0 rfl (fun O H i j => .bl _) f_lt
theorem ro_le : RO X (rI0 fun i j => .bl (decide (i ≤ j))) leI := ro_i0 rfl (fun O H i j => .bl _) f_le
theorem ro_gt : RO X (rI0 fun i j => .bl (decide (j < i))) gtI := ro_i0 rfl (fun O H i j => .bl _) f_gt
theorem ro_ge : RO X (rI0 fun i j => .bl (decide (j ≤ i))) geI := ro_i0 rfl (fun O H i j => .bl _) f_ge
theorem big64_eq : (big64 : Int) = 2 ^ 64 := by decide
theorem ro_mul : RO X (rI CMul fun i j => .int (i * j)) mulI := ro_ii (c := fun i j => (-big64 < i && i < big64) || (-big64 < j && j < big64)) (G := fun i j => .int (i * j)) rfl (fun i j h => by
    simp only [Bool.or_eq_true, Bool.and_eq_true, decide_eq_true_eq, big64_eq] at h
    exact h) (fun O H i j => .int _) fun x y d h => by
  cases x <;> cases y <;> first | cases h | skip
  rename_i i j
  simp only [mulI] at h
  split at h
  · exact ⟨i, j, rfl, rfl, by assumption, (Option.some.inj h).symm⟩
  · cases h
theorem ro_mod : RO X (rI (fun _ j => j ≠ 0) fun i j => .int (i.fmod j)) modI := ro_ii (c := fun _ j => j != 0) (G := fun i j => .int (i.fmod j)) rfl (fun i j h => by simpa using h) (fun O H i j => .int _) fun x y d h => by
  cases x <;> cases y <;> first | cases h | skip
  rename_i i j
  simp only [modI] at h
  split at h
  · exact ⟨i, j, rfl, rfl, by assumption, (Option.some.inj h).symm⟩
  · cases h
theorem ro_fdiv : RO X (rI CDivN fun i j => .int (i.fdiv j)) fdivI := ro_ii (c := fun _ j => j != 0 && j.natAbs < 1073741824) (G := fun i j => .int (i.fdiv j)) rfl (fun i j h => by
    simp only [Bool.and_eq_true, bne_iff_ne, decide_eq_true_eq] at h
    exact h) (fun O H i j => .int _) fun x y d h => by
  cases x <;> cases y <;> first | cases h | skip
  rename_i i j
  simp only [fdivI] at h
  split at h
  · exact ⟨i, j, rfl, rfl, by assumption, (Option.some.inj h).symm⟩
  · cases h
theorem ro_eq : ROq X (rEqD X.K) eqD := fun P O H x y dx dy d dm rx ry e Q q => by
  unfold eqD at e
  split at e
  · rename_i h
    simp only [Bool.and_eq_true] at h
    cases e
    exact ⟨dx, dy, rx.dp h.1, ry.dp h.2, h.1, h.2, q _ H (.refl H) (.bl _)⟩
  · cases e
theorem ro_ne : ROq X (rNeD X.K) neD := fun P O H x y dx dy d dm rx ry e Q q => by
  unfold neD at e
  split at e
  · rename_i h
    simp only [Bool.and_eq_true] at h
    cases e
    exact ⟨dx, dy, rx.dp h.1, ry.dp h.2, h.1, h.2, q _ H (.refl H) (.bl _)⟩
  · cases e
def isNone (d : D) : D := .bool (isN d)
theorem rep_none {K : PySem.W.Frag} {mg : Str → Option Value} {O : Addr → Prop} {H : Hp} {v : V} {d : D} (h : Rep K mg O H v d) : decide (v = .non) = isN d := by
  cases d with
  | none => rw [h.toNon]; rfl
  | bool b => rw [h.toBool]; rfl
  | int b => rw [h.toInt]; rfl
  | str b => rw [h.toStr]; rfl
  | tuple b => obtain ⟨a, xs, rfl, _⟩ := h.tuple; rfl
  | list b => obtain ⟨a, xs, rfl, _⟩ := h.list; rfl
  | dict b =>
    rcases h.dict with ⟨_, a, rfl, _⟩ | ⟨_, a, _, rfl, _⟩ | ⟨_, a, _, rfl, _⟩ | ⟨_, _, a, _, rfl, _⟩ <;> rfl
theorem ro_isN : RO X (fun x y H Q => y = .non ∧ Q (.bl (decide (x = .non))) H) (fun a b => if isN b then some (.bool (isN a)) else none) := fun O H x y dx dy d dm rx ry e Q q => by
  cases dy <;> first | cases e | skip
  exact ⟨ry.toNon, by rw [rep_none rx]; exact q _ H (.refl H) (.bl _)⟩
theorem ro_notN : RO X (fun x y H Q => y = .non ∧ Q (.bl (!decide (x = .non))) H) (fun a b => if isN b then some (.bool (!isN a)) else none) := fun O H x y dx dy d dm rx ry e Q q => by
  cases dy <;> first | cases e | skip
  exact ⟨ry.toNon, by rw [rep_none rx]; exact q _ H (.refl H) (.bl _)⟩
/-- the lists, tuples put one behind the other -/
def catT : D → D → Option D
  | .tuple xs, .tuple ys => if xs.length + ys.length ≤ maxL then some (.tuple (xs ++ ys)) else none
  | _, _ => none
def catL : D → D → Option D
  | .list xs, .list ys => if xs.length + ys.length ≤ maxL then some (.list (xs ++ ys)) else none
  | _, _ => none
theorem maxL_eq : maxL = sizeLine := by rw [sizeLine_eq]; rfl
theorem ro_catT : RO X (rCatA X.K) catT := fun O H x y dx dy d dm rx ry e Q q => by
  cases dx <;> cases dy <;> first | cases e | skip
  rename_i xs ys
  simp only [catT] at e
  split at e <;> rename_i hz
  · cases e
    obtain ⟨a, us, rfl, h1, h2⟩ := rx.tuple
    obtain ⟨b, ws, rfl, h3, h4⟩ := ry.tuple
    have l1 := h2.length
    have l2 := h4.length
    refine ⟨a, b, us, ws, rfl, rfl, h1, h3, by rw [← maxL_eq]; omega, fun z => ?_, fun _ z => ?_, fun z z2 p hp => ?_⟩
    · subst z
      have z : xs = [] := List.length_eq_zero_iff.mp l1.symm
      rw [z] at q
      exact q _ H (.refl H) ry
    · subst z
      have z : ys = [] := List.length_eq_zero_iff.mp l2.symm
      rw [z, List.append_nil] at q
      exact q _ H (.refl H) rx
    · have e : Ext (fun _ => False) (fun _ => False) H (upd H p (.tup (us ++ ws))) := Ext.new hp
      exact q _ _ (same_new hp) (.tup (.inl (.inl upd_same)) ((h2.append h4).ext e fun _ z => z.elim))
  · cases e
theorem LsA.tr {K : PySem.W.Frag} {O : Addr → Prop} {H : Hp} {a : Addr} {xs : List V} (h : LsA K O H a xs) : H a = some (.lst xs) ∧ ¬ O a := h.elim id False.elim
theorem ro_catL : RO X rCat catL := fun O H x y dx dy d dm rx ry e Q q => by
  cases dx <;> cases dy <;> first | cases e | skip
  rename_i xs ys
  simp only [catL] at e
  split at e <;> rename_i hz
  · cases e
    obtain ⟨a, us, rfl, h1, h2⟩ := rx.list
    obtain ⟨b, ws, rfl, h3, h4⟩ := ry.list
    have l1 := h2.length
    have l2 := h4.length
    refine ⟨a, b, us, ws, rfl, rfl, h1.tr.1, h3.tr.1, by rw [← maxL_eq]; omega, fun p hp => ?_⟩
    have e : Ext (fun _ => False) (fun _ => False) H (upd H p (.lst (us ++ ws))) := Ext.new hp
    exact q _ _ (same_new hp) (.lst (.inl ⟨upd_same, fun z => dm p z hp⟩) ((h2.append h4).ext e fun _ z => z.elim))
  · cases e
end
section
variable {M : Type → Type} [SpecM M] {X : Cx} {W : WX} {Γ : List Slot} {pos p : Pos} {a b c e : Expr} {es rest : List Expr} {ma mb : M D} {mc md : M Bool}
theorem je_un {o : UnaryOp} {r : V → Hp → VK → Prop} {f : D → Option D} (hr : UnR X (unaryOp o) r) (ru : RU X r f) (ha : JE X W a Γ ma) : JE X W (.UnaryOp o a pos) Γ (bnd ma fun x => op (f x)) := fun F H σ E Q hq => by
  refine PE.wp (pe_un hr pe_sem) ?_
  refine ha.bind E hq fun d v H1 e1 E1 r1 hq => ?_
  obtain ⟨z, hz, q⟩ := post_ofO hq
  exact ru _ H1 v d z E1.osdom r1 hz Q fun v H3 s3 r3 => q v H3 (.same s3) r3
theorem ru_neg : RU X (rU fun i => .int (-i)) negI := fun O H x dx d dm rx e Q q => by
  cases dx <;> first | cases e | skip
  rename_i i
  exact ⟨i, rx.toInt, q _ H (.refl H) (.int _)⟩
/-! tests -/
theorem jt_w (h : JW X W e Γ mc) : JT X W e Γ mc := fun F H σ E Q hq => by
  have z := h F H σ E Q hq
  unfold wpW at z
  unfold wpT
  exact fun pins s I => z _ pins s I
/-- a value's truth -/
theorem jt_tru (ha : JQ X W a Γ ma) (he : ∀ whole, isTrue a X.env whole = (do let v ← whole; standAt a.pos; holding [v] (truthy v)) := by intro _; rfl) : JT X W a Γ (bnd ma fun x => op (truth x)) := fun F H σ E Q hq => by
  refine PT.wp (pt_truth pe_sem he) ?_
  refine ha.bind E hq fun d v H1 e1 E1 r1 hq => ?_
  obtain ⟨z, hz, q⟩ := post_ofO hq
  refine ⟨z, ?_, q z H1 .refl rfl⟩
  cases d <;> first | cases hz | skip
  · rcases r1 with r1 | ⟨_, _, _, _, h, _⟩
    · rw [r1.toNon]; rfl
    · cases h
  · rcases r1 with r1 | ⟨_, _, _, _, h, _⟩
    · rw [r1.toBool]; exact rfl
    · cases h
  · rcases r1 with r1 | ⟨_, _, _, _, h, _⟩
    · rw [r1.toInt]; exact rfl
    · cases h
  · obtain ⟨a, xs, rfl, h1, h2⟩ := r1.list
    refine .inl ⟨xs, h1, ?_⟩
    have l := h2.length
    cases xs with
    | nil => rw [List.length_eq_zero_iff.mp l.symm]; rfl
    | cons x r =>
      rename_i ds
      cases ds with
      | nil => cases l
      | cons _ _ => rfl
  · obtain ⟨a, xs, rfl, h1, h2⟩ := r1.tuple
    refine .inr (.inl ⟨xs, h1, ?_⟩)
    have l := h2.length
    cases xs with
    | nil => rw [List.length_eq_zero_iff.mp l.symm]; rfl
    | cons x r =>
      rename_i ds
      cases ds with
      | nil => cases l
      | cons _ _ => rfl
theorem jt_not (ha : JT X W a Γ mc) : JT X W (.UnaryOp .Not a pos) Γ (bnd mc fun c => ok (!c)) := fun F H σ E Q hq => by
  refine PT.wp (pt_not pt_sem) ?_
  refine ha.bind E hq fun d v H1 e1 E1 r1 hq => ?_
  subst r1
  exact post_ok hq _ H1 .refl rfl
theorem jw_and1 (ha : JT X W a Γ mc) : JW X W (.BoolOp .And [a] pos) Γ mc := fun F H σ E Q hq => PW.wp (pw_and1 pt_sem) (ha F H σ E Q hq)
theorem jw_or1 (ha : JT X W a Γ mc) : JW X W (.BoolOp .Or [a] pos) Γ mc := fun F H σ E Q hq => PW.wp (pw_or1 pt_sem) (ha F H σ E Q hq)
theorem jw_and (ha : JT X W a Γ mc) (hb : JW X W (.BoolOp .And (b :: rest) pos) Γ md) : JW X W (.BoolOp .And (a :: b :: rest) pos) Γ (bnd mc fun c => match c with | true => md | false => ok false) := fun F H σ E Q hq => by
  refine PW.wp (pw_and pt_sem pw_sem) ?_
  refine ha.bind E hq fun d v H1 e1 E1 r1 hq => ?_
  subst r1
  cases v with
  | true => exact iteT (hb F H1 σ E1 Q hq)
  | false => exact iteF (post_ok hq _ H1 .refl rfl)
theorem jw_or (ha : JT X W a Γ mc) (hb : JW X W (.BoolOp .Or (b :: rest) pos) Γ md) : JW X W (.BoolOp .Or (a :: b :: rest) pos) Γ (bnd mc fun c => match c with | true => ok true | false => md) := fun F H σ E Q hq => by
  refine PW.wp (pw_or pt_sem pw_sem) ?_
  refine ha.bind E hq fun d v H1 e1 E1 r1 hq => ?_
  subst r1
  cases v with
  | true => exact iteT (post_ok hq _ H1 .refl rfl)
  | false => exact iteF (hb F H1 σ E1 Q hq)
/-! and, or, not as values -/
theorem je_one {o} (ha : JE X W a Γ ma) : JE X W (.BoolOp o [a] pos) Γ ma := fun F H σ E Q hq => PE.wp (pe_one pe_sem) (ha F H σ E Q hq)
theorem je_and (ha : JE X W a Γ ma) (hb : JE X W (.BoolOp .And (b :: rest) pos) Γ mb) : JE X W (.BoolOp .And (a :: b :: rest) pos) Γ (bnd ma fun x => bnd (op (asB x)) fun c => match c with | true => mb | false => ok (.bool false)) := fun F H σ E Q hq => by
  refine PE.wp (pe_and pe_sem pe_sem) ?_
  refine ha.bind E hq fun d v H1 e1 E1 r1 h1 => ?_
  have h2 := SpecM.post_ret (SpecM.post_bind h1)
  cases d <;> first | exact h2.elim | skip
  rename_i k
  refine ⟨k, r1.toBool, ?_⟩
  cases k with
  | true => exact iteT (hb F H1 σ E1 Q h2)
  | false => exact iteF (post_ok h2 _ H1 .refl (.bl _))
theorem je_or (ha : JE X W a Γ ma) (hb : JE X W (.BoolOp .Or (b :: rest) pos) Γ mb) : JE X W (.BoolOp .Or (a :: b :: rest) pos) Γ (bnd ma fun x => bnd (op (asB x)) fun c => match c with | true => ok (.bool true) | false => mb) := fun F H σ E Q hq => by
  refine PE.wp (pe_or pe_sem pe_sem) ?_
  refine ha.bind E hq fun d v H1 e1 E1 r1 h1 => ?_
  have h2 := SpecM.post_ret (SpecM.post_bind h1)
  cases d <;> first | exact h2.elim | skip
  rename_i k
  refine ⟨k, r1.toBool, ?_⟩
  cases k with
  | true => exact iteT (post_ok h2 _ H1 .refl (.bl _))
  | false => exact iteF (hb F H1 σ E1 Q h2)
def notB : D → Option D
  | .bool b => some (.bool (!b))
  | _ => none
theorem je_not (ha : JE X W a Γ ma) : JE X W (.UnaryOp .Not a pos) Γ (bnd ma fun x => op (notB x)) := fun F H σ E Q hq => by
  refine PE.wp (pe_not pe_sem) ?_
  refine ha.bind E hq fun d v H1 e1 E1 r1 hq => ?_
  obtain ⟨z, hz, q⟩ := post_ofO hq
  cases d <;> first | cases hz | skip
  exact ⟨_, r1.toBool, q _ H1 .refl (.bl _)⟩
theorem je_if (hc : JT X W c Γ mc) (ha : JE X W a Γ ma) (hb : JE X W b Γ mb) : JE X W (.IfExp c a b pos) Γ (bnd mc fun k => match k with | true => ma | false => mb) := fun F H σ E Q hq => by
  refine PE.wp (pe_ifExp pt_sem pe_sem pe_sem) ?_
  refine hc.bind E hq fun d v H1 e1 E1 r1 hq => ?_
  subst r1
  cases v with
  | true => exact iteT (ha F H1 σ E1 Q hq)
  | false => exact iteF (hb F H1 σ E1 Q hq)
/-! displays -/
def tupO (xs : List D) : Option D := if xs.length ≤ maxL then some (.tuple xs) else none
def lstO (xs : List D) : Option D := if xs.length ≤ maxL then some (.list xs) else none
theorem je_tup {x1} {m : M (List D)} (h : JA X W es Γ m) : JE X W (.Tuple es x1 pos) Γ (bnd m fun xs => op (tupO xs)) := fun F H σ E Q hq => by
  refine PE.wp (pe_tup pa_sem) ?_
  refine h.bind E hq fun ds vs H1 e1 E1 r1 hq => ?_
  obtain ⟨z, hz, q⟩ := post_ofO hq
  unfold tupO at hz
  split at hz <;> rename_i hl
  · cases hz
    refine ⟨by rw [r1.length, ← maxL_eq]; exact hl, fun p hp => q _ _ (.new hp) (.tup (.inl (.inl upd_same)) (r1.ext (.new hp : Ext F.Dc F.Dc _ _) fun a z => .inl (E.subO a z)))⟩
  · cases hz
theorem je_lst {m : M (List D)} (h : JA X W es Γ m) : JE X W (.List es pos) Γ (bnd m fun xs => op (lstO xs)) := fun F H σ E Q hq => by
  refine PE.wp (pe_lst pa_sem) ?_
  refine h.bind E hq fun ds vs H1 e1 E1 r1 hq => ?_
  obtain ⟨z, hz, q⟩ := post_ofO hq
  unfold lstO at hz
  split at hz <;> rename_i hl
  · cases hz
    refine ⟨by rw [r1.length, ← maxL_eq]; exact hl, fun p hp => q _ _ (.new hp) (.lst (.inl ⟨upd_same, E1.fresh hp⟩) (r1.ext (.new hp : Ext F.Dc F.Dc _ _) fun a z => .inl (E.subO a z)))⟩
  · cases hz
/-! items -/
theorem atI_reps {K : PySem.W.Frag} {mg : Str → Option Value} {O : Addr → Prop} {H : Hp} {vs : List V} {ds : List D} {i : Int} {d : D} (h : Reps K mg O H vs ds) (e : atI ds i = some d) : ∃ v, atI vs i = some v ∧ Rep K mg O H v d := by
  unfold atI at e ⊢
  rw [h.length]
  cases q : ixN ds.length i with
  | none => rw [q] at e; cases e
  | some j =>
    rw [q] at e
    exact h.get e
theorem je_ix (ha : JQ X W a Γ ma) (hb : JE X W b Γ mb) (hs : PlainIx b := by intro _ _; rfl) : JE X W (.Subscript a b pos) Γ (bnd ma fun x => bnd mb fun y => op (itemD x y)) := fun F H σ E Q hq => by
  refine PE.wp (pe_ix ix_seq pe_sem pe_sem hs) ?_
  refine ha.bind E hq fun d v H1 e1 E1 r1 hq => ?_
  refine hb.bind E1 hq fun d2 u H2 e2 E2 r2 hq => ?_
  obtain ⟨z, hz, q⟩ := post_ofO hq
  have r1' := r1.ext e2 (fun a z => .inl (E.subO a z)) E.subO
  cases d <;> cases d2 <;> first | cases hz | skip
  · obtain ⟨a, xs, rfl, h1, h2⟩ := r1'.list
    obtain ⟨w, h3, h4⟩ := atI_reps h2 hz
    exact .inl ⟨a, xs, _, w, rfl, r2.toInt, h1, h3, q w H2 .refl h4⟩
  · obtain ⟨a, xs, rfl, h1, h2⟩ := r1'.tuple
    obtain ⟨w, h3, h4⟩ := atI_reps h2 hz
    exact .inr (.inl ⟨a, xs, _, w, rfl, r2.toInt, h1, h3, q w H2 .refl h4⟩)
end
end DE

set_option maxHeartbeats 4000000
namespace PySem
open Sem (wp)
open AutoSeq1 (wpAny_loadPart')
/-! enumerate(v) of whatever begins: one argument -/
theorem de_enum_new {v : Value} {o : Obj} {Hh : Heap → Prop} (B : Begins v o Hh) : Meets (Builtin.«enumerate.__new__» ⟨[.type "enumerate", v], []⟩) (fun _ R s => Hh s.heap ∧ R (.ok (.ret (.ref (s.heap.push o).objs.size))) { s with heap := (s.heap.push o).push { cls := .type "enumerate", data := .fields #[.none, .bool false, .ref s.heap.objs.size, rawInt 0, .none, .none] } }) := .of_wp fun prog w A R s hyp => by
    obtain ⟨hp, gg, dd, tt, oo⟩ := s; obtain ⟨g1, g2⟩ := hyp
    have sub0 := sub_enumerate
    have it0 : ∀ {A' : Around} {E' : Value → Shared → Prop} {Q' : Value → Shared → Prop}, Q' (.ref hp.objs.size) ⟨hp.push o, gg, dd, tt, oo⟩ → wpAny (model prog w) A' (pyIter v) Q' E' ⟨hp, gg, dd, tt, oo⟩ := fun q => B.iter prog w _ _ ⟨hp, gg, dd, tt, oo⟩ _ g1 q
    wp_walk using it0
    refine wpAny_stack_any fun stk => wpAny_pure ?_
    split
    · rename_i cc _ _ _ _ _
      cases (cc == Value.type "enumerate") <;> (wp_walk using it0; exact ⟨_, rfl, g2⟩)
    · wp_walk using it0; exact ⟨_, rfl, g2⟩
theorem de_call_enum {prog : Program} {w : World} {A : Around} {E : Value → Shared → Prop} {s : Shared} {v : Value} {o : Obj} {Hh : Heap → Prop} {Q : Value → Shared → Prop} (B : Begins v o Hh) (g1 : Hh s.heap)
    (k : ∀ h', IsEnum h' (s.heap.objs.size + 1) s.heap.objs.size 0 .none → h'.get? s.heap.objs.size = some o → (∀ b x, s.heap.get? b = some x → h'.get? b = some x) → Q (.ref (s.heap.objs.size + 1)) { s with heap := h' }) : wpAny (model prog w) A (call (.type "enumerate") [v]) Q E s := by
  refine callType_new F.called_enumerate (by decide) (F.typeCall_enumerate_1 _) (F.newCall_enumerate_1 _) (fun ob => F.args_object_init_2 ob _) F.entry_enumerate_new (de_enum_new B) ⟨g1, ?_⟩
  have sz : (s.heap.push o).objs.size = s.heap.objs.size + 1 := Heap.size_push ..
  show _ ∧ _
  rw [sz]
  have en : IsEnum ((s.heap.push o).push { cls := .type "enumerate", data := .fields #[.none, .bool false, .ref s.heap.objs.size, rawInt 0, .none, .none] }) (s.heap.objs.size + 1) s.heap.objs.size 0 .none := by
    have z := Heap.get?_push_size (s.heap.push o) (o := { cls := .type "enumerate", data := .fields #[.none, .bool false, .ref s.heap.objs.size, rawInt 0, .none, .none] }) rfl
    rw [sz] at z; exact z
  exact ⟨⟨_, en, rfl⟩, k _ en (Heap.get?_push_of_some _ (Heap.get?_push_size _ B.free)) fun b x q => Heap.get?_push_of_some _ (Heap.get?_push_of_some _ q)⟩
end PySem
namespace DE
open PySem PySem.Spec PyProof.Rows L2
variable [τ : TabCtx]
/-! ### what is walked -/
/-- the tuple at a, each item in a new pair -/
def ItEnT (K : PySem.W.Frag) (a : Addr) : It :=
  ⟨fun i H => ∃ (xs : List V) (x : V), SqT K H a xs ∧ xs[i]? = some x, fun i H v H' => ∃ T x, v = V.ref T ∧ H T = none ∧ H' = upd H T (.tup [V.int (i : Nat), x]) ∧ ∀ xs, SqT K H a xs → xs[i]? = some x, fun i H => ∃ xs : List V, SqT K H a xs ∧ xs.length = i⟩
theorem turn_enT {P : Program} {w : World} {K : PySem.W.Frag} {elts : List Expr} {kk : Nat} {tpos : Pos} (a e it : Addr) (hai : a ≠ it) (hae : a ≠ e) :
    Turn P w K (.Tuple elts kk tpos) (ItEnT K a) [e, it] e (fun i h => (∃ old, IsEnum h e it ((i : Nat) : Int) old) ∧ h.IsTupleIter it a i ∧ e ≠ it) where
  mem := by simp
  obj := fun i h st b hb => by
    obtain ⟨⟨old, q1⟩, ⟨o, q2, _, q3⟩, _⟩ := st
    rcases (show b = e ∨ b = it by simpa using hb) with z | z
    · exact ⟨_, z ▸ q1, fun v q => by cases q⟩
    · exact ⟨o, z ▸ q2, fun v q => by rw [q3] at q; cases q⟩
  keep := fun i h h' st k => by
    obtain ⟨⟨old, q1⟩, q2, q3⟩ := st
    exact ⟨⟨old, k e (by simp) _ q1⟩, q2.at fun o q => k it (by simp) o q, q3⟩
  item := by
    rintro X rfl rfl rfl hc i pins s σ H E I hf ⟨⟨old, q1⟩, q2, q3⟩ ⟨xs, x, q4, q5⟩
    obtain ⟨its, rv, p, _⟩ := I.tuple q4
    obtain ⟨u, hu, ru⟩ := rv.get q5
    have b1 : e < s.heap.objs.size := Heap.lt_size q1
    have b2 : it < s.heap.objs.size := by obtain ⟨_, q, _⟩ := q2; exact Heap.lt_size q
    have hlt : i < its.toArray.size := by
      have l := (List.getElem?_eq_some_iff.mp hu).1
      simpa using l
    refine wpAny_pyNext_enum_itemD (Draws.tuple (A := X.A.in1) (I.ok.hd hc) it a hai its.toArray) q1 (i := i) ⟨q2, p⟩ hlt q3 (by simp; exact ⟨q3, Ne.symm hae⟩) fun x' h' tk hx' ho hst hT hsz hk => ?_
    have ex : x' = u := by
      have z : its[i]? = some x' := by simpa using hx'
      rw [hu] at z; exact (Option.some.inj z).symm
    subst ex
    refine ⟨_, rfl, wpAny_letOwnedTupleGo_enum (s := { s with heap := h', toks := tk + 1 }) ho fun h'' he' sb => ?_⟩
    have hT2 : h''.get? s.heap.objs.size = some { cls := .type "tuple", data := .seq #[.int i tk, x'] } := (sb.2 _ (Nat.ne_of_gt b1)).trans hT
    have new : ObjOk X.prog X.w (upd H s.heap.objs.size (.tup [V.int (i : Nat), x])) h'' s.heap.objs.size (.tup [V.int (i : Nat), x]) := ⟨by show 2 ≤ sizeLine; decide, [.int i tk, x'], .cons ⟨_, rfl⟩ (.cons ru .nil), ⟨_, hT2, rfl, _, rfl⟩⟩
    have I1 : Inv X pins σ (upd H s.heap.objs.size (.tup [V.int (i : Nat), x])) { s with heap := h'', toks := tk + 1 } :=
      I.turnedNew (ch := [e, it]) (fun b ob hb q => (sb.2 b (fun z => hb (by simp [z]))).trans (hk b ob (fun z => hb (by simp [z])) (fun z => hb (by simp [z])) q)) hf (Nat.le_refl _) new
    refine ⟨V.ref s.heap.objs.size, _, I1, rfl, ⟨_, x, rfl, I.hok.fresh (Nat.le_refl _), rfl, fun ys hy => by rw [I.tuple_inj hy q4]; exact q5⟩, ⟨⟨x', ?_⟩, hst.1.at fun o q => (sb.2 it (Ne.symm q3)).trans q, q3⟩, fun b hb => ?_⟩
    · rw [show ((i + 1 : Nat) : Int) = (i : Int) + 1 by omega]; exact he'
    · have hb' : b < s.heap.objs.size := by rcases (show b = e ∨ b = it by simpa using hb) with z | z <;> (rw [z]; assumption)
      rw [upd_ne (Nat.ne_of_lt hb')]; exact (hf b hb).1
  done := by
    rintro X rfl rfl rfl hc i pins s σ H E I hf ⟨⟨old, q1⟩, q2, q3⟩ ⟨xs, q4, q5⟩
    obtain ⟨its, rv, p, _⟩ := I.tuple q4
    have hl := rv.length
    have en : its.toArray.size = i := by simp; omega
    subst en
    obtain ⟨f0, f1, f2, f3, f4, f5⟩ := hf it (by simp)
    exact wpAny_pyNext_enum_endD (Draws.tuple (A := X.A.in1) (I.ok.hd hc) it a hai its.toArray) q1 ⟨q2, p⟩ fun h' eb => ⟨rfl, I.turned (t' := s.toks) (fun b o hb q => eb b o hb q) f0 f1 f3 f4 f5⟩
  self := fun A i s Q E st h => by
    obtain ⟨⟨_, q1⟩, _⟩ := st
    exact wpAny_pyIter_enum q1 h
end DE

set_option maxHeartbeats 4000000
namespace DE
open PySem PySem.Spec PyProof.Rows L2
variable [τ : TabCtx]
@[irreducible] def wpI (X : Cx) (tg iter : Expr) (σ : L2.St) (H : Hp) (R : It → Hp → Prop) : Prop := ∀ pins s, Inv X pins σ H s → wpAny (model X.prog X.w) X.A (eval iter X.env) (fun v s1 => wpAny (model X.prog X.w) X.A (pyIter v) (PIE X pins σ tg R) X.xe s1) X.xe s
theorem pi_sem {X : Cx} {tg iter : Expr} : PI X tg iter (wpI X tg iter) := ⟨fun pins s σ H R I h => by unfold wpI at h; exact h pins s I⟩
theorem PI.wp {X : Cx} {tg iter : Expr} {t : TI} (h : PI X tg iter t) {σ : L2.St} {H : Hp} {R : It → Hp → Prop} (ht : t σ H R) : wpI X tg iter σ H R := by unfold wpI; exact fun pins s I => h.run pins s σ H R I ht
/-- the items that a walk gives; N: what may change meanwhile -/
structure YI (K : PySem.W.Frag) (mg : Str → Option Value) (F : Frm) (O N : Addr → Prop) (J : It) (H : Hp) (ds : List D) : Prop where
  len : ds.length ≤ maxL
  go : ∀ (M' O' : Addr → Prop) (i : Nat) (H' : Hp) (d : D), (∀ a, M' a → N a) → (∀ a, O a → O' a) → (∀ a, O' a → O a ∨ H a = none) → Ext M' F.Dc H H' → ds[i]? = some d → J.go i H' ∧ ∀ x H'', J.yld i H' x H'' → Ext F.Dc F.Dc H' H'' ∧ Rep K mg O' H'' x d
  stop : ∀ (M' : Addr → Prop) (H' : Hp), (∀ a, M' a → N a) → Ext M' F.Dc H H' → J.stop ds.length H'
theorem YI.less {K : PySem.W.Frag} {mg : Str → Option Value} {F : Frm} {O N N' : Addr → Prop} {J : It} {H : Hp} {ds : List D} (y : YI K mg F O N J H ds) (h : ∀ a, N' a → N a) : YI K mg F O N' J H ds :=
  ⟨y.len, fun M' O' i H' d m => y.go M' O' i H' d fun a z => h a (m a z), fun M' H' m => y.stop M' H' fun a z => h a (m a z)⟩
abbrev JI {M : Type → Type} [SpecM M] (X : Cx) (W : WX) (tg e : Expr) (Γ : List Slot) (m : M (List D)) : Prop := J X W Γ (wpI X tg e) (fun F O H v d => YI X.K X.mg F O O v H d) m
/-- within a comprehension -/
abbrev JC {M : Type → Type} [SpecM M] (X : Cx) (W : WX) (tg e : Expr) (Γ : List Slot) (m : M (List D)) : Prop := J X W Γ (wpI X tg e) (fun F O H v d => YI X.K X.mg F O F.Dc v H d) m
theorem jc {M : Type → Type} [SpecM M] {X : Cx} {W : WX} {tg e : Expr} {Γ : List Slot} {m : M (List D)} (h : JI X W tg e Γ m) : JC X W tg e Γ m := fun F H σ E Q hq => h F H σ E Q (SpecM.mono (fun r hr => by
  cases r with
  | ok d => exact fun v H1 e q => hr v H1 e (q.less fun a z => .inl (E.subO a z))
  | exc ε => exact hr
  | bad => exact hr) hq)
def seqO : D → Option (List D)
  | .list xs => if xs.length ≤ maxL then some xs else none
  | .tuple xs => if xs.length ≤ maxL then some xs else none
  | _ => none
section
variable {K : PySem.W.Frag} {mg : Str → Option Value} {F : Frm} {O N : Addr → Prop} {H : Hp} {a : Addr} {xs : List V} {ds : List D}
theorem sqT_inj {H : Hp} {X : Cx} {pins : List (Addr × Obj)} {σ : L2.St} {s : Shared} (I : Inv X pins σ H s) {a : Addr} {xs ys : List V} (h : SqT X.K H a xs) (h' : SqT X.K H a ys) : xs = ys := I.tuple_inj h h'
theorem yi_tup (hl : ds.length ≤ maxL) (hs : SqT K H a xs) (hr : Reps K mg O H xs ds) (hN : ∀ a, N a → O a) : YI K mg F O N (Itt K a) H ds := ⟨hl, fun M' O' i H' d m o1 o2 e hd => by
  obtain ⟨v, h1, h2⟩ := hr.get hd
  refine ⟨⟨xs, v, sqT_ext e hs, h1⟩, fun x H'' y => ?_⟩
  obtain ⟨rfl, y⟩ := y
  have z := y xs (sqT_ext e hs)
  rw [h1] at z; cases z
  exact ⟨.refl, (h2.mov (mov_fresh o2)).ext e fun a z => o1 a (hN a (m a z))⟩, fun M' H' m e => ⟨xs, sqT_ext e hs, by rw [hr.length]; exact Nat.le_refl _⟩⟩
theorem yi_list (hl : ds.length ≤ maxL) (hs : ∀ M' H', (∀ a, M' a → N a) → Ext M' F.Dc H H' → SqL K H' a xs) (hr : Reps K mg O H xs ds) (hN : ∀ a, N a → O a) : YI K mg F O N (Itl K a) H ds := ⟨hl, fun M' O' i H' d m o1 o2 e hd => by
  obtain ⟨v, h1, h2⟩ := hr.get hd
  refine ⟨⟨xs, v, hs M' H' m e, h1⟩, fun x H'' y => ?_⟩
  obtain ⟨rfl, y⟩ := y
  have z := y xs (hs M' _ m e)
  rw [h1] at z; cases z
  exact ⟨.refl, (h2.mov (mov_fresh o2)).ext e fun a z => o1 a (hN a (m a z))⟩, fun M' H' m e => ⟨xs, hs M' H' m e, by rw [hr.length]; exact Nat.le_refl _⟩⟩
theorem yi_rng {lo : Int} {n : Nat} (hl : n ≤ maxL) : YI K mg F O N (Itr lo n) H ((List.range n).map fun k => PyData.int (lo + (k : Nat))) := ⟨by rw [List.length_map, List.length_range]; exact hl, fun M' O' i H' d m o1 o2 e hd => by
  rw [List.getElem?_map] at hd
  cases q : (List.range n)[i]? with
  | none => rw [q] at hd; cases hd
  | some k =>
    rw [q] at hd
    have hk : i = k ∧ i < n := by
      obtain ⟨l, e⟩ := List.getElem?_eq_some_iff.mp q
      rw [List.getElem_range] at e
      rw [List.length_range] at l
      exact ⟨e, l⟩
    obtain ⟨rfl, hk⟩ := hk
    cases hd
    refine ⟨hk, fun x H'' y => ?_⟩
    obtain ⟨rfl, rfl⟩ := y
    exact ⟨.refl, .int _⟩, fun M' H' m e => by rw [List.length_map, List.length_range]; exact Nat.le_refl _⟩
def enumD (i : Nat) : List D → List D
  | [] => []
  | d :: ds => .tuple [.int (i : Nat), d] :: enumD (i + 1) ds
theorem enumD_len : ∀ (ds : List D) (i : Nat), (enumD i ds).length = ds.length
  | [], _ => rfl
  | d :: ds, i => congrArg (· + 1) (enumD_len ds (i + 1))
theorem enumD_get : ∀ (ds : List D) (i j : Nat), (enumD i ds)[j]? = (ds[j]?).map fun d => PyData.tuple [.int ((i + j : Nat) : Nat), d]
  | [], _, _ => by simp [enumD]
  | d :: ds, i, 0 => by simp [enumD]
  | d :: ds, i, j + 1 => by
    show (enumD (i + 1) ds)[j]? = _
    rw [enumD_get ds (i + 1) j]
    simp only [List.getElem?_cons_succ]
    rw [show i + 1 + j = i + (j + 1) by omega]
theorem pair_rep {T : Addr} {H' : Hp} {x y : V} {d e : D} (hT : H' T = none) (h1 : Rep K mg O H' x d) (h2 : Rep K mg O H' y e) : Rep K mg O (upd H' T (.tup [x, y])) (V.ref T) (.tuple [d, e]) :=
  .tup (.inl (.inl upd_same)) ((Reps.cons h1 (.cons h2 .nil)).ext (Ext.new hT : Ext (fun _ => False) (fun _ => False) _ _) fun _ z => z.elim)
theorem yi_enL (hl : ds.length ≤ maxL) (hs : ∀ M' H', (∀ a, M' a → N a) → Ext M' F.Dc H H' → SqL K H' a xs) (hr : Reps K mg O H xs ds) (hN : ∀ a, N a → O a) : YI K mg F O N (Ite K a) H (enumD 0 ds) := ⟨by rw [enumD_len]; exact hl, fun M' O' i H' d m o1 o2 e hd => by
  rw [enumD_get] at hd
  cases q : ds[i]? with
  | none => rw [q] at hd; cases hd
  | some k =>
    rw [q] at hd; cases hd
    obtain ⟨v, h1, h2⟩ := hr.get q
    refine ⟨⟨xs, v, hs M' H' m e, h1⟩, fun x H'' y => ?_⟩
    obtain ⟨T, w, rfl, hT, rfl, y⟩ := y
    have z := y xs (hs M' _ m e)
    rw [h1] at z; cases z
    rw [Nat.zero_add]
    exact ⟨.new hT, pair_rep hT (.int _) ((h2.mov (mov_fresh o2)).ext e fun a z => o1 a (hN a (m a z)))⟩, fun M' H' m e => ⟨xs, hs M' H' m e, by rw [enumD_len, hr.length]; exact Nat.le_refl _⟩⟩
theorem yi_enT (hl : ds.length ≤ maxL) (hs : SqT K H a xs) (hr : Reps K mg O H xs ds) (hN : ∀ a, N a → O a) : YI K mg F O N (ItEnT K a) H (enumD 0 ds) := ⟨by rw [enumD_len]; exact hl, fun M' O' i H' d m o1 o2 e hd => by
  rw [enumD_get] at hd
  cases q : ds[i]? with
  | none => rw [q] at hd; cases hd
  | some k =>
    rw [q] at hd; cases hd
    obtain ⟨v, h1, h2⟩ := hr.get q
    refine ⟨⟨xs, v, sqT_ext e hs, h1⟩, fun x H'' y => ?_⟩
    obtain ⟨T, w, rfl, hT, rfl, y⟩ := y
    have z := y xs (sqT_ext e hs)
    rw [h1] at z; cases z
    rw [Nat.zero_add]
    exact ⟨.new hT, pair_rep hT (.int _) ((h2.mov (mov_fresh o2)).ext e fun a z => o1 a (hN a (m a z)))⟩, fun M' H' m e => ⟨xs, sqT_ext e hs, by rw [enumD_len, hr.length]⟩⟩
def zipD : List D → List D → List D
  | x :: xs, y :: ys => .tuple [x, y] :: zipD xs ys
  | _, _ => []
theorem zipD_len : ∀ xs ys : List D, (zipD xs ys).length = min xs.length ys.length
  | [], _ => by simp [zipD]
  | _ :: _, [] => by simp [zipD]
  | x :: xs, y :: ys => by
    show (zipD xs ys).length + 1 = min (xs.length + 1) (ys.length + 1)
    rw [zipD_len xs ys]; omega
theorem zipD_get : ∀ (xs ys : List D) (j : Nat) (d : D), (zipD xs ys)[j]? = some d → ∃ x y, xs[j]? = some x ∧ ys[j]? = some y ∧ d = .tuple [x, y]
  | [], _, _, _, h => by simp [zipD] at h
  | _ :: _, [], _, _, h => by simp [zipD] at h
  | x :: xs, y :: ys, 0, d, h => ⟨x, y, rfl, rfl, by simp [zipD] at h; exact h.symm⟩
  | x :: xs, y :: ys, j + 1, d, h => zipD_get xs ys j d h
theorem yi_zipT {b : Addr} {ys : List V} {es : List D} (hl : (zipD ds es).length ≤ maxL) (hs : SqT K H a xs) (hr : Reps K mg O H xs ds) (hs2 : SqT K H b ys) (hr2 : Reps K mg O H ys es) (hN : ∀ a, N a → O a) : YI K mg F O N (RZ.ItzT K a b) H (zipD ds es) := ⟨hl, fun M' O' i H' d m o1 o2 e hd => by
  obtain ⟨d1, d2, g1, g2, rfl⟩ := zipD_get _ _ _ _ hd
  obtain ⟨v, h1, h2⟩ := hr.get g1
  obtain ⟨u, h3, h4⟩ := hr2.get g2
  refine ⟨⟨xs, ys, v, u, sqT_ext e hs, sqT_ext e hs2, h1, h3⟩, fun x H'' y => ?_⟩
  obtain ⟨T, w, w2, rfl, hT, rfl, y1, y2⟩ := y
  have z := y1 xs (sqT_ext e hs)
  rw [h1] at z; cases z
  have z := y2 ys (sqT_ext e hs2)
  rw [h3] at z; cases z
  exact ⟨.new hT, pair_rep hT ((h2.mov (mov_fresh o2)).ext e fun a z => o1 a (hN a (m a z))) ((h4.mov (mov_fresh o2)).ext e fun a z => o1 a (hN a (m a z)))⟩, fun M' H' m e => ⟨xs, ys, sqT_ext e hs, sqT_ext e hs2, by rw [zipD_len, hr.length, hr2.length]; omega⟩⟩
theorem yi_zipL {b : Addr} {ys : List V} {es : List D} (hl : (zipD ds es).length ≤ maxL) (hs : ∀ M' H', (∀ a, M' a → N a) → Ext M' F.Dc H H' → SqL K H' a xs) (hr : Reps K mg O H xs ds) (hs2 : ∀ M' H', (∀ a, M' a → N a) → Ext M' F.Dc H H' → SqL K H' b ys) (hr2 : Reps K mg O H ys es) (hN : ∀ a, N a → O a) : YI K mg F O N (Itz K a b) H (zipD ds es) := ⟨hl, fun M' O' i H' d m o1 o2 e hd => by
  obtain ⟨d1, d2, g1, g2, rfl⟩ := zipD_get _ _ _ _ hd
  obtain ⟨v, h1, h2⟩ := hr.get g1
  obtain ⟨u, h3, h4⟩ := hr2.get g2
  refine ⟨⟨xs, ys, v, u, hs M' H' m e, hs2 M' H' m e, h1, h3⟩, fun x H'' y => ?_⟩
  obtain ⟨T, w, w2, rfl, hT, rfl, y1, y2⟩ := y
  have z := y1 xs (hs M' _ m e)
  rw [h1] at z; cases z
  have z := y2 ys (hs2 M' _ m e)
  rw [h3] at z; cases z
  exact ⟨.new hT, pair_rep hT ((h2.mov (mov_fresh o2)).ext e fun a z => o1 a (hN a (m a z))) ((h4.mov (mov_fresh o2)).ext e fun a z => o1 a (hN a (m a z)))⟩, fun M' H' m e => ⟨xs, ys, hs M' H' m e, hs2 M' H' m e, by rw [zipD_len, hr.length, hr2.length]; omega⟩⟩
theorem lsA_all (h : LsA K O H a xs) (M' : Addr → Prop) (H' : Hp) (m : ∀ a, M' a → O a) (e : Ext M' F.Dc H H') : SqL K H' a xs := (lsA_ext e m h).sq
end
section
variable {M : Type → Type} [SpecM M] {X : Cx} {W : WX} {Γ : List Slot} {pos p tpos : Pos} {a b e tg : Expr} {es elts : List Expr} {kk : Nat} {ma mb : M D}
/-- a value, then its walk -/
theorem wpI_of {σ : L2.St} {H : Hp} {R : It → Hp → Prop} (h : wpE X e σ H fun v H1 => ∀ pins s, Inv X pins σ H1 s → ∀ u, RelV v u → wpAny (model X.prog X.w) X.A (pyIter u) (PIE X pins σ tg R) X.xe s) : wpI X tg e σ H R := by
  unfold wpI
  exact fun pins s I => thn (h.run pins s I) fun u s1 ⟨v, H1, I1, r, q⟩ => q pins s1 I1 u r
theorem it_list {pins : List (Addr × Obj)} {s : Shared} {σ : L2.St} {H : Hp} {R : It → Hp → Prop} {c : Addr} {xs : List V} (I : Inv X pins σ H s) (hq : SqL X.K H c xs) (q : R (Itl X.K c) H) : wpAny (model X.prog X.w) X.A (pyIter (.ref c)) (PIE X pins σ tg R) X.xe s := by
  obtain ⟨its, rv, pl, hz⟩ := I.list hq
  refine wpAny_pyIter_list pl.isList ⟨_, [s.heap.objs.size], _, _, H, rfl, I.kept (t' := s.toks) fun b o e => Heap.get?_push_of_some _ e, turn_list c _, ⟨_, Heap.get?_push_size _ rfl, rfl, rfl⟩, fun b hb => ?_, q⟩
  obtain rfl : b = s.heap.objs.size := by simpa using hb
  exact I.fpOk (Nat.le_refl _) (I.hok.fresh (Nat.le_refl _))
theorem it_tup {pins : List (Addr × Obj)} {s : Shared} {σ : L2.St} {H : Hp} {R : It → Hp → Prop} {c : Addr} {xs : List V} (I : Inv X pins σ H s) (hq : SqT X.K H c xs) (q : R (Itt X.K c) H) : wpAny (model X.prog X.w) X.A (pyIter (.ref c)) (PIE X pins σ tg R) X.xe s := by
  obtain ⟨its, rv, pl, hz⟩ := I.tuple hq
  refine wpAny_pyIter_tuple (show s.heap.IsTuple c its.toArray from pl) ⟨_, [s.heap.objs.size], _, _, H, rfl, I.kept (t' := s.toks) fun b o e => Heap.get?_push_of_some _ e, turn_tuple c _, ⟨_, Heap.get?_push_size _ rfl, rfl, rfl⟩, fun b hb => ?_, q⟩
  obtain rfl : b = s.heap.objs.size := by simpa using hb
  exact I.fpOk (Nat.le_refl _) (I.hok.fresh (Nat.le_refl _))
theorem ji_seq (ha : JE X W e Γ ma) : JI X W tg e Γ (bnd ma fun x => op (seqO x)) := fun F H σ E Q hq => by
  refine wpI_of (ha.bind E hq fun d v H1 e1 E1 r1 h1 => ?_)
  obtain ⟨xs, hz, q⟩ := post_ofO h1
  intro pins s I u ru
  cases d <;> first | cases hz | skip
  · obtain ⟨c, vs, rfl, h2, h3⟩ := r1.list
    cases ru
    simp only [seqO] at hz
    split at hz
    · cases hz
      exact it_list I h2.sq (q _ H1 .refl (yi_list ‹_› (lsA_all h2) h3 fun _ z => z))
    · cases hz
  · obtain ⟨c, vs, rfl, h2, h3⟩ := r1.tuple
    cases ru
    simp only [seqO] at hz
    split at hz
    · cases hz
      exact it_tup I h2 (q _ H1 .refl (yi_tup ‹_› h2 h3 fun _ z => z))
    · cases hz
/-- a list of our own, in a comprehension -/
theorem jc_own (ha : JQ X W e Γ ma) : JC X W tg e Γ (bnd ma fun x => op (seqO x)) := fun F H σ E Q hq => by
  refine wpI_of (ha.bind E hq fun d v H1 e1 E1 r1 h1 => ?_)
  obtain ⟨xs, hz, q⟩ := post_ofO h1
  intro pins s I u ru
  have sub : ∀ a, F.Dc a → OS F σ Γ a := fun a z => .inl (E.subO a z)
  rcases r1 with r1 | ⟨c, vs, ds, rfl, rfl, h2, h3, h4⟩
  · cases d <;> first | cases hz | skip
    · obtain ⟨c, vs, rfl, h2, h3⟩ := r1.list
      cases ru
      simp only [seqO] at hz
      split at hz
      · cases hz
        exact it_list I h2.sq (q _ H1 .refl ((yi_list (N := OS F σ Γ) ‹_› (lsA_all h2) h3 fun _ z => z).less sub))
      · cases hz
    · obtain ⟨c, vs, rfl, h2, h3⟩ := r1.tuple
      cases ru
      simp only [seqO] at hz
      split at hz
      · cases hz
        exact it_tup I h2 (q _ H1 .refl (yi_tup ‹_› h2 h3 sub))
      · cases hz
  · cases ru
    simp only [seqO] at hz
    split at hz
    · cases hz
      exact it_list I (.inl (.inl h2)) (q _ H1 .refl (yi_list ‹_› (fun M' H' m e => .inl (.inl (e.keep _ _ (fun z => h3 (E.subO _ (m _ z))) (fun _ z => nomatch z) h2))) h4 sub))
    · cases hz
def rangeO : D → D → Option (List D)
  | .int i, .int j => if -4611686018427387904 ≤ i && i < 4611686018427387904 && -4611686018427387904 ≤ j && j < 4611686018427387904 && (j - i).toNat ≤ maxL then some ((List.range (j - i).toNat).map fun k => PyData.int (i + (k : Nat))) else none
  | _, _ => none
theorem rangeO_of {x y : D} {ds : List D} (h : rangeO x y = some ds) : ∃ i j, x = .int i ∧ y = .int j ∧ (-(2 ^ 62) ≤ i ∧ i < 2 ^ 62 ∧ -(2 ^ 62) ≤ j ∧ j < 2 ^ 62) ∧ (j - i).toNat ≤ maxL ∧ ds = (List.range (j - i).toNat).map fun k => PyData.int (i + (k : Nat)) := by
  cases x <;> cases y <;> first | cases h | skip
  rename_i i j
  simp only [rangeO] at h
  split at h
  · rename_i hc
    simp only [Bool.and_eq_true, decide_eq_true_eq] at hc
    obtain ⟨⟨⟨⟨h1, h2⟩, h3⟩, h4⟩, h5⟩ := hc
    cases h
    exact ⟨i, j, rfl, rfl, ⟨h1, h2, h3, h4⟩, h5, rfl⟩
  · cases h
theorem ji_range2 (ha : JE X W a Γ ma) (hb : JE X W b Γ mb) (hm : X.mg "range" = none) (hg : Gl X "range" := by (show _ = _); kernel_rfl) (h1 : starEach [a, b] X.env = [(false, eval a X.env), (false, eval b X.env)] := by kernel_rfl) (h2 : starEach [b] X.env = [(false, eval b X.env)] := by kernel_rfl) : JI X W tg (.Call (.Name "range" p) [a, b] [] pos) Γ (bnd ma fun x => bnd mb fun y => op (rangeO x y)) := fun F H σ E Q hq => by
  refine PI.wp (pi_range2 hg hm (pa_cons pe_sem (pa_cons pe_sem pa_nil h2) (h1.trans (by rw [h2]))) h1 h2) ?_
  refine ha.bind E hq fun d v H1 e1 E1 r1 hq => ?_
  refine hb.bind E1 hq fun d2 u H2 e2 E2 r2 hq => ?_
  obtain ⟨ds, hz, q⟩ := post_ofO hq
  obtain ⟨i, j, rfl, rfl, hb, hl, rfl⟩ := rangeO_of hz
  exact ⟨i, j, by rw [r1.toInt, r2.toInt], hb, q _ H2 .refl (yi_rng hl)⟩
theorem ji_range1 (ha : JE X W a Γ ma) (hm : X.mg "range" = none) (hg : Gl X "range" := by (show _ = _); kernel_rfl) (h1 : starEach [a] X.env = [(false, eval a X.env)] := by kernel_rfl) : JI X W tg (.Call (.Name "range" p) [a] [] pos) Γ (bnd ma fun x => op (rangeO (.int 0) x)) := fun F H σ E Q hq => by
  refine PI.wp (pi_range1 hg hm (pa_cons pe_sem pa_nil h1) h1) ?_
  refine ha.bind E hq fun d v H1 e1 E1 r1 hq => ?_
  obtain ⟨ds, hz, q⟩ := post_ofO hq
  obtain ⟨i, j, hi, rfl, hb, hl, rfl⟩ := rangeO_of hz
  cases hi
  refine ⟨j, by rw [r1.toInt], hb.2.2.1, hb.2.2.2, q _ H1 .refl ?_⟩
  rw [show (j - 0).toNat = j.toNat by rw [Int.sub_zero]] at hl ⊢
  exact yi_rng hl
def enumO (x : D) : Option (List D) := (seqO x).map (enumD 0)
theorem ji_enum (ha : JQ X W e Γ ma) (hm : X.mg "enumerate" = none) (hg : Gl X "enumerate" := by (show _ = _); kernel_rfl) (hs : starEach [e] X.env = [(false, eval e X.env)] := by kernel_rfl) : JC X W (.Tuple elts kk tpos) (.Call (.Name "enumerate" p) [e] [] pos) Γ (bnd ma fun x => op (enumO x)) := fun F H σ E Q hq => by
  unfold wpI
  intro pins s I
  refine Call_ (ld_blt I hg hm boot_enumerate (PyProof.Rows.callWith_type1 (thn ((pa_cons pe_sem pa_nil hs).run pos pins s σ H (fun vs H1 => ∃ v, vs = [v] ∧ ∀ pins s, Inv X pins σ H1 s → ∀ u, RelV v u → wpAny (model X.prog X.w) X.A (call (.type "enumerate") [u]) (fun v s1 => wpAny (model X.prog X.w) X.A (pyIter v) (PIE X pins σ (.Tuple elts kk tpos) Q) X.xe s1) X.xe s) I ?_) fun us s1 ⟨vs, H1, I1, r1, v, ev, q1⟩ => ?_) hs rfl))
  · refine ha.bind E hq fun d v H1 e1 E1 r1 h1 => ⟨v, rfl, fun pins s I u ru => ?_⟩
    obtain ⟨xs, hz, q⟩ := post_ofO h1
    have sub : ∀ a, F.Dc a → OS F σ Γ a := fun a z => .inl (E.subO a z)
    have fin : ∀ (c : Addr) (h' : Heap) (Jt : It) (tn : Nat → Heap → Prop), (∀ b x, s.heap.get? b = some x → h'.get? b = some x) → Turn X.prog X.w X.K (.Tuple elts kk tpos) Jt [s.heap.objs.size + 1, s.heap.objs.size] (s.heap.objs.size + 1) tn → tn 0 h' → Q Jt H1 →
        PIE X pins σ (.Tuple elts kk tpos) Q (.ref (s.heap.objs.size + 1)) { s with heap := h' } := fun c h' Jt tn hk T st qq => by
      refine ⟨_, [s.heap.objs.size + 1, s.heap.objs.size], _, _, H1, rfl, I.kept (t' := s.toks) hk, T, st, fun b hb => ?_, qq⟩
      have hle : s.heap.objs.size ≤ b := by
        rcases (show b = s.heap.objs.size + 1 ∨ b = s.heap.objs.size by simpa using hb) with z | z
        · rw [z]; exact Nat.le_succ _
        · rw [z]; exact Nat.le_refl _
      exact I.fpOk hle (I.hok.fresh hle)
    have tup : ∀ (c : Addr) (vs : List V) (es : List D), v = V.ref c → SqT X.K H1 c vs → Reps X.K X.mg (OS F σ Γ) H1 vs es → es.length ≤ maxL → xs = enumD 0 es → wpAny (model X.prog X.w) X.A (call (.type "enumerate") [u]) (fun v s1 => wpAny (model X.prog X.w) X.A (pyIter v) (PIE X pins σ (.Tuple elts kk tpos) Q) X.xe s1) X.xe s := fun c vs es hv h2 h3 hl hx => by
      subst hv hx
      cases ru
      obtain ⟨its, rv, pl, _⟩ := I.tuple h2
      have lc : c < s.heap.objs.size := pl.lt
      refine PySem.de_call_enum (PySem.begins_tuple c its.toArray) pl fun h' he hi hk => wpAny_pyIter_enum he ?_
      exact fin c h' _ _ hk (turn_enT c (s.heap.objs.size + 1) s.heap.objs.size (Nat.ne_of_lt lc) (Nat.ne_of_lt (Nat.lt_succ_of_lt lc))) ⟨⟨.none, he⟩, ⟨_, hi, rfl, rfl⟩, Nat.succ_ne_self _⟩ (q _ H1 .refl (yi_enT hl h2 h3 sub))
    have lst : ∀ (c : Addr) (vs : List V) (es : List D), v = V.ref c → (∀ M' H', (∀ a, M' a → F.Dc a) → Ext M' F.Dc H1 H' → SqL X.K H' c vs) → Reps X.K X.mg (OS F σ Γ) H1 vs es → es.length ≤ maxL → xs = enumD 0 es → wpAny (model X.prog X.w) X.A (call (.type "enumerate") [u]) (fun v s1 => wpAny (model X.prog X.w) X.A (pyIter v) (PIE X pins σ (.Tuple elts kk tpos) Q) X.xe s1) X.xe s := fun c vs es hv h2 h3 hl hx => by
      subst hv hx
      cases ru
      obtain ⟨its, rv, pl, _⟩ := I.list (h2 F.Dc H1 (fun _ z => z) .refl)
      refine PySem.de_call_enum (PySem.begins_list c its.toArray) pl.isList fun h' he hi hk => wpAny_pyIter_enum he ?_
      exact fin c h' _ _ hk (turn_enum c (s.heap.objs.size + 1) s.heap.objs.size) ⟨⟨.none, he⟩, ⟨_, hi, rfl, rfl⟩, Nat.succ_ne_self _⟩ (q _ H1 .refl (yi_enL hl h2 h3 sub))
    unfold enumO at hz
    cases hsq : seqO d with
    | none => rw [hsq] at hz; cases hz
    | some es =>
      rw [hsq] at hz
      cases hz
      rcases r1 with r1 | ⟨c, vs, ds, rfl, rfl, h2, h3, h4⟩
      · cases d <;> first | cases hsq | skip
        · obtain ⟨c, vs, hv, h2, h3⟩ := r1.list
          simp only [seqO] at hsq
          split at hsq
          · cases hsq
            exact lst c vs _ hv (fun M' H' m e => lsA_all h2 M' H' (fun a z => sub a (m a z)) e) h3 ‹_› rfl
          · cases hsq
        · obtain ⟨c, vs, hv, h2, h3⟩ := r1.tuple
          simp only [seqO] at hsq
          split at hsq
          · cases hsq
            exact tup c vs _ hv h2 h3 ‹_› rfl
          · cases hsq
      · simp only [seqO] at hsq
        split at hsq
        · cases hsq
          exact lst c vs _ rfl (fun M' H' m e => .inl (.inl (e.keep _ _ (fun z => h3 (E.subO _ (m _ z))) (fun _ z => nomatch z) h2))) h4 ‹_› rfl
        · cases hsq
  · subst ev
    cases r1 with
    | cons r rr =>
      cases rr
      exact q1 pins s1 I1 _ r
end
end DE

set_option maxHeartbeats 4000000
namespace DE
open PySem PySem.Spec PyProof.Rows L2
variable [τ : TabCtx]
section
variable {K : PySem.W.Frag} {mg : Str → Option Value} {F : Frm} {H H1 H' : Hp} {σ : L2.St} {Γ : List Slot}
/-- a slot is given a datum -/
theorem os_set {i : Nat} {x : Option V} {s : Slot} (hs : ∀ ds, s ≠ Slot.own ds) {a : Addr} (h : OS F (σ.set i x) (Γ.set i s) a) : OS F σ Γ a := by
  rcases h with h | h | ⟨j, ds, h1, h2⟩
  · exact .inl h
  · exact .inr (.inl h)
  · by_cases e : j = i
    · subst e
      rw [List.getElem?_set] at h1
      rw [if_pos rfl] at h1
      split at h1
      · exact (hs ds (Option.some.inj h1)).elim
      · cases h1
    · rw [List.getElem?_set_ne (Ne.symm e)] at h1 h2
      exact .inr (.inr ⟨j, ds, h1, h2⟩)
theorem Env.put (E : DE.Env K mg F H σ Γ) (i : Nat) (s : Slot) (x : Option V) (hs : ∀ ds, s ≠ Slot.own ds) (ok : SlotOK K mg F i (OS F σ Γ) H s x) : DE.Env K mg F H (σ.set i x) (Γ.set i s) where
  ext := E.ext
  subM := E.subM
  subO := E.subO
  dom := E.dom
  domM := E.domM
  dic := E.dic
  len := by rw [List.length_set, List.length_set]; exact E.len
  slot := fun j t h => by
    have low : ∀ {j : Nat} {t : Slot} {y : Option V}, SlotOK K mg F j (OS F σ Γ) H t y → SlotOK K mg F j (OS F (σ.set i x) (Γ.set i s)) H t y := fun {j t y} q => by
      cases t with
      | any => trivial
      | dat d => obtain ⟨v, q1, q2⟩ := q; exact ⟨v, q1, q2.anti fun a z => os_set hs z⟩
      | own ds => obtain ⟨a, xs, q1, q2, q3, q4, q5⟩ := q; exact ⟨a, xs, q1, q2, q3, q4, q5.anti fun a z => os_set hs z⟩
      | dice => exact q
    by_cases e : j = i
    · subst e
      rw [List.getElem?_set, if_pos rfl] at h
      split at h <;> rename_i hl
      · cases h
        refine ⟨x, ?_, low ok⟩
        rw [List.getElem?_set, if_pos rfl, if_pos (by rw [E.len]; exact hl)]
      · cases h
    · rw [List.getElem?_set_ne (Ne.symm e)] at h ⊢
      obtain ⟨y, q1, q2⟩ := E.slot j t h
      exact ⟨y, q1, low q2⟩
  bM := E.bM
  tbs := E.tbs
  apart := fun j l ds es a hjl h1 h2 h3 => by
    have nj : ∀ {j : Nat} {ds : List D}, (Γ.set i s)[j]? = some (Slot.own ds) → j ≠ i := fun {j ds} q e => by
      subst e
      rw [List.getElem?_set, if_pos rfl] at q
      split at q
      · exact hs ds (Option.some.inj q)
      · cases q
    have n1 := nj h1
    have n2 := nj h2
    rw [List.getElem?_set_ne (Ne.symm n1)] at h1 h3
    rw [List.getElem?_set_ne (Ne.symm n2)] at h2 ⊢
    exact E.apart j l ds es a hjl h1 h2 h3
theorem Env.dat (E : DE.Env K mg F H σ Γ) (i : Nat) {v : V} {d : D} (r : Rep K mg (OS F σ Γ) H v d) : DE.Env K mg F H (σ.set i (some v)) (Γ.set i (.dat d)) := E.put i _ _ (fun _ z => nomatch z) ⟨v, rfl, r⟩
theorem Env.drop (E : DE.Env K mg F H σ Γ) (i : Nat) (x : Option V) : DE.Env K mg F H (σ.set i x) (Γ.set i .any) := E.put i _ _ (fun _ z => nomatch z) trivial
def wipeG (Γ : List Slot) : List Nat → List Slot
  | [] => Γ
  | i :: r => (wipeG Γ r).set i .any
def noOwn (Γ : List Slot) (vs : List Nat) : Bool := vs.all fun i => match Γ[i]? with | some (.own _) => false | _ => true

theorem Env.wipe (E : DE.Env K mg F H σ Γ) : ∀ vs : List Nat, DE.Env K mg F H (L2.wipe σ vs) (wipeG Γ vs)
  | [] => E
  | v :: vs => (Env.wipe E vs).drop v none
theorem wipeG_own : ∀ (vs : List Nat) {i : Nat} {ds : List D}, noOwn Γ vs = true → Γ[i]? = some (Slot.own ds) → (wipeG Γ vs)[i]? = some (Slot.own ds) ∧ i ∉ vs
  | [], _, _, _, h => ⟨h, by simp⟩
  | v :: vs, i, ds, hn, h => by
    simp only [noOwn, List.all_cons, Bool.and_eq_true] at hn
    obtain ⟨q1, q2⟩ := wipeG_own vs (by simpa [noOwn] using hn.2) h
    have ne : i ≠ v := fun z => by
      subst z
      rw [h] at hn
      exact absurd hn.1 (by simp)
    exact ⟨by rw [wipeG, List.getElem?_set_ne (Ne.symm ne)]; exact q1, by simp [ne, q2]⟩
theorem wipe_ne : ∀ (vs : List Nat) {i : Nat}, i ∉ vs → (L2.wipe σ vs)[i]? = σ[i]?
  | [], _, _ => rfl
  | v :: vs, i, h => by
    have h1 : i ≠ v := fun z => h (by simp [z])
    have h2 : i ∉ vs := fun z => h (by simp [z])
    rw [L2.wipe, List.getElem?_set_ne (Ne.symm h1)]
    exact wipe_ne vs h2
theorem os_wipe {vs : List Nat} (hn : noOwn Γ vs = true) {a : Addr} (h : OS F σ Γ a) : OS F (L2.wipe σ vs) (wipeG Γ vs) a := by
  rcases h with h | h | ⟨i, ds, h1, h2⟩
  · exact .inl h
  · exact .inr (.inl h)
  · obtain ⟨q1, q2⟩ := wipeG_own vs hn h1
    exact .inr (.inr ⟨i, ds, q1, by rw [wipe_ne vs q2]; exact h2⟩)
/-! ### a block with its own list at L -/
def inB (F : Frm) (L : Addr) : Frm := { F with O := fun a => F.O a ∨ a = L }
def ExtL (F : Frm) (L : Addr) (H H' : Hp) : Prop := Ext (fun a => F.Dc a ∨ a = L) F.Dc H H'
theorem ExtL.out {L : Addr} (hL : H1 L = none) (e : ExtL F L (upd H1 L (.lst [])) H') : Ext F.Dc F.Dc H1 H' where
  keep := fun a o m t h => e.keep a o (fun z => z.elim m fun z => by rw [z, hL] at h; cases h) t (by rw [upd_ne (ne_of_none h hL)]; exact h)
  there := fun a h => e.there a fun z => by
    by_cases q : a = L
    · exact h (q ▸ hL)
    · rw [upd_ne q] at z; exact h z
  tups := fun a xs h => e.tups a xs (by rw [upd_ne (ne_of_none h hL)]; exact h)
  frzs := fun a o u h => e.frzs a o u (by rw [upd_ne (ne_of_none h hL)]; exact h)
  dice := fun a d ⟨x, y, z, h⟩ => e.dice a d ⟨x, y, z, by rw [upd_ne (ne_of_none h hL)]; exact h⟩
  tabs := fun P q hT t => e.tabs P q hT (t.ext fun b o h => by rw [upd_ne (ne_of_none h hL)]; exact h)
theorem Ext.wr {M Dc : Addr → Prop} {L : Addr} {xs ys : List V} (hM : M L) (hD : ¬ Dc L) (h0 : H L = some (.lst xs)) : Ext M Dc H (upd H L (.lst ys)) where
  keep := fun a o m t h => by
    rw [upd_ne (show a ≠ L from fun z => m (z ▸ hM))]
    exact h
  there := fun a h z => by
    by_cases q : a = L
    · rw [q, upd_same] at z; cases z
    · rw [upd_ne q] at z; exact h z
  tups := fun a xs h => by rw [upd_ne (ne_of h h0 (fun z => nomatch z))]; exact h
  frzs := fun a o u h => by rw [upd_ne (ne_of h h0 (fun z => nomatch z))]; exact h
  dice := fun a d ⟨x, y, z, h⟩ => ⟨x, y, z, by rw [upd_ne (show a ≠ L from fun z => hD (z ▸ d))]; exact h⟩
  tabs := fun P q hT t => by
    have ne : ∀ b o, H b = some o → (∀ zs, o ≠ .lst zs) → (upd H L (.lst ys)) b = some o := fun b o h n => by
      by_cases q : b = L
      · rw [q, h0] at h; exact (n xs (Option.some.inj h).symm).elim
      · rw [upd_ne q]; exact h
    obtain ⟨ps, h1, h2, h3⟩ := t
    exact ⟨ps, ne _ _ h1 (fun _ z => nomatch z), h2, fun pos cv hc => by
      obtain ⟨c, h4, h5⟩ := h3 pos cv hc
      exact ⟨c, h4, ne _ _ h5 (fun _ z => nomatch z)⟩⟩
theorem Env.block {L : Addr} (E : DE.Env K mg F H1 σ Γ) (hL : H1 L = none) (e : ExtL F L (upd H1 L (.lst [])) H') {vs : List Nat} : DE.Env K mg (inB F L) H' (L2.wipe σ vs) (wipeG Γ vs) := by
  have e0 : Ext F.Dc F.Dc H1 H' := e.out hL
  have E2 : DE.Env K mg F H' σ Γ := E.mono e0
  have tL : H' L ≠ none := e.there L (by rw [upd_same]; exact fun z => nomatch z)
  have nO : ¬ OS F σ Γ L := E.fresh hL
  have base : DE.Env K mg (inB F L) H' σ Γ := {
    ext := E2.ext
    subM := E2.subM
    subO := fun a z => .inl (E2.subO a z)
    dom := fun a h => h.elim (E2.dom a) fun z => z ▸ tL
    domM := E2.domM
    dic := E2.dic
    len := E2.len
    slot := fun i s h => by
      obtain ⟨x, q1, q2⟩ := E2.slot i s h
      have nl : ∀ {a : Addr} {o : HO}, H1 a = some o → a ≠ L := fun h => ne_of_none h hL
      refine ⟨x, q1, ?_⟩
      -- data ahead of the list know nothing of it
      have up : ∀ {v : V} {d : D}, Rep K mg (OS F σ Γ) H1 v d → Rep K mg (OS (inB F L) σ Γ) H' v d := fun {v d} r => (r.mov (O' := OS (inB F L) σ Γ) (H1 := H1) ⟨fun q => q, fun {b xs} q => by
        rcases q with ⟨q, n⟩ | q
        · exact .inl ⟨q, fun z => by
            rcases z with (z | z) | z
            · exact n (.inl z)
            · exact nl q z
            · exact n (.inr z)⟩
        · exact .inr q, fun {kvs v} q => by
        rcases q with ⟨q0, b, q1, q2, n⟩ | q | ⟨ns, b, q0, q1, q⟩ | ⟨i, j, b, q0, q1, q2, n⟩
        · exact .inl ⟨q0, b, q1, q2, fun z => by
            rcases z with (z | z) | z
            · exact n (.inl z)
            · exact nl q2 z
            · exact n (.inr z)⟩
        · exact .inr (.inl q)
        · refine .inr (.inr (.inl ⟨ns, b, q0, q1, ?_⟩))
          rcases q with ⟨q, n⟩ | q
          · exact .inl ⟨q, fun z => by
              rcases z with (z | z) | z
              · exact n (.inl z)
              · exact nl q z
              · exact n (.inr z)⟩
          · exact .inr q
        · exact .inr (.inr (.inr ⟨i, j, b, q0, q1, q2, fun z => by
            rcases z with (z | z) | z
            · exact n (.inl z)
            · exact nl q2 z
            · exact n (.inr z)⟩))⟩).ext e0 fun a z => .inl (.inl (E.subO a z))
      obtain ⟨x', p1, p2⟩ := E.slot i s h
      rw [q1] at p1; cases p1
      cases s with
      | any => trivial
      | dat d => obtain ⟨v, r1, r2⟩ := p2; exact ⟨v, r1, up r2⟩
      | own ds =>
        obtain ⟨a, xs, r1, r2, r3, r4, r5⟩ := p2
        refine ⟨a, xs, r1, fun z => z.elim r2 (nl r4), r3, e0.keep _ _ (fun z => r2 (E.subO a z)) (fun _ z => nomatch z) r4, ?_⟩
        have upL : ∀ {es : List D} {us : List V}, Reps K mg (OS F σ Γ) H1 us es → Reps K mg (OS (inB F L) σ Γ) H' us es := by
          intro es
          induction es with
          | nil => intro us q; rw [q.nil_of]; exact .nil
          | cons d es ih =>
            intro us q
            obtain ⟨u, r, rfl, k1, k2⟩ := q.cons_of
            exact .cons (up k1) (ih k2)
        exact upL r5
      | dice => exact p2
    bM := E2.bM
    tbs := E2.tbs
    apart := E2.apart }
  exact base.wipe vs
end
/-! ### comprehensions -/
section
variable {M : Type → Type} [SpecM M]
def compM : List D → (D → M (Option D)) → M (List D)
  | [], _ => ok []
  | d :: ds, f => bnd (f d) fun o => bnd (compM ds f) fun r => ok (match o with | some y => y :: r | none => r)
/-- tests of a clause -/
@[irreducible] def wpIfs (X : Cx) (ifs : List Expr) (σ : L2.St) (H : Hp) (Q : Bool → Hp → Prop) : Prop := ∀ pins s, Inv X pins σ H s →
  wpAny (model X.prog X.w) X.A (forIn ifs true fun c r => if r = true then do let ok ← isTrue c X.env (eval c X.env); pure (ForInStep.yield ok) else pure (ForInStep.yield r)) (TP X pins σ Q) X.xe s
theorem pts_sem {X : Cx} {ifs : List Expr} : PTs X ifs (wpIfs X ifs) := ⟨fun pins s σ H Q I h => by unfold wpIfs at h; exact h pins s I⟩
theorem wpIfs.run {X : Cx} {ifs : List Expr} {σ : L2.St} {H : Hp} {Q : Bool → Hp → Prop} (h : wpIfs X ifs σ H Q) : ∀ pins s, Inv X pins σ H s → wpAny (model X.prog X.w) X.A (forIn ifs true fun c r => if r = true then do let ok ← isTrue c X.env (eval c X.env); pure (ForInStep.yield ok) else pure (ForInStep.yield r)) (TP X pins σ Q) X.xe s := by unfold wpIfs at h; exact h
abbrev JTs (X : Cx) (W : WX) (ifs : List Expr) (Γ : List Slot) (m : M Bool) : Prop := J X W Γ (wpIfs X ifs) (fun _ _ _ b c => b = c) m
theorem jts_nil {X : Cx} {W : WX} {Γ : List Slot} : JTs X W [] Γ (ok (M := M) true) := fun F H σ E Q hq => by
  unfold wpIfs
  exact fun pins s I => pts_nil.run pins s σ H Q I (post_ok hq true H .refl rfl)
theorem jts_one {X : Cx} {W : WX} {Γ : List Slot} {c : Expr} {m : M Bool} (h : JT X W c Γ m) : JTs X W [c] Γ m := fun F H σ E Q hq => by
  unfold wpIfs
  exact fun pins s I => (pts_one pt_sem).run pins s σ H Q I (h F H σ E Q hq)
/-- a target takes a datum -/
def Tgt (X : Cx) (g : TG) (Γ : List Slot) (bt : D → Option (List Slot)) : Prop := ∀ (F : Frm) (H : Hp) (σ : L2.St) (v : V) (d : D) (Γ' : List Slot), DE.Env X.K X.mg F H σ Γ → Rep X.K X.mg (OS F σ Γ) H v d → bt d = some Γ' →
  ∀ Q : L2.St → Hp → Prop, (∀ σ', DE.Env X.K X.mg F H σ' Γ' → (∀ a, OS F σ Γ a → OS F σ' Γ' a) → Q σ' H) → g v σ H Q
theorem J.run {α β : Type} {X : Cx} {W : WX} {Γ : List Slot} {wp : L2.St → Hp → (β → Hp → Prop) → Prop} {Rp : Frm → (Addr → Prop) → Hp → β → α → Prop} {m : M α} {F : Frm} {H : Hp} {σ : L2.St} (ja : J X W Γ wp Rp m) (E : DE.Env X.K X.mg F H σ Γ) {k : Res α → Prop} (h : SpecM.post m k) {Q : β → Hp → Prop}
    (kok : ∀ a, k (.ok a) → ∀ b H1, Ext F.Dc F.Dc H H1 → DE.Env X.K X.mg F H1 σ Γ → Rp F (OS F σ Γ) H1 b a → Q b H1) (kex : ∀ e, k (.exc e) → False) (kbad : k .bad → False) : wp σ H Q := ja F H σ E Q (SpecM.mono (fun r hr => by
  cases r with
  | ok a => exact fun b H1 e q => kok a hr b H1 e (E.mono e) q
  | exc ε => exact (kex _ hr).elim
  | bad => exact (kbad hr).elim) h)
theorem Env.xk {K : PySem.W.Frag} {mg : Str → Option Value} {F : Frm} {H : Hp} {σ : L2.St} {Γ : List Slot} (E : DE.Env K mg F H σ Γ) : ∀ a, F.Dc a → OS F σ Γ a := fun a z => .inl (E.subO a z)
abbrev W0 : WX := fun _ _ _ _ => False
/-- a fresh list -/
def PostL (X : Cx) (W : WX) (F : Frm) (O : Addr → Prop) (σ : L2.St) (H : Hp) (Q : V → Hp → Prop) : Res (List D) → Prop
  | .ok ds => ∀ (p : Addr) (xs : List V) (H1 : Hp), Ext F.Dc F.Dc H H1 → H1 p = none → Reps X.K X.mg O H1 xs ds → Q (V.ref p) (upd H1 p (.lst xs))
  | .exc ε => ∀ cls dx H1, Ext F.Dc F.Dc H H1 → ExcRep X.K X.mg O ε cls dx H1 → W cls dx σ H1
  | .bad => False
def JF (X : Cx) (W : WX) (e : Expr) (Γ : List Slot) (m : M (List D)) : Prop := ∀ (F : Frm) (H : Hp) (σ : L2.St), DE.Env X.K X.mg F H σ Γ → ∀ Q : V → Hp → Prop, SpecM.post m (PostL X W F (OS F σ Γ) σ H Q) → wpE X e σ H Q
theorem je_jf {X : Cx} {W : WX} {e : Expr} {Γ : List Slot} {m : M (List D)} (h : JF X W e Γ m) : JE X W e Γ (bnd m fun ys => ok (.list ys)) := fun F H σ E Q hq => h F H σ E Q (SpecM.mono (fun r hr => by
  cases r with
  | ok ds => exact fun p xs H1 e hp r => post_ok hr _ _ (e.trans (.new hp)) (.lst (.inl ⟨upd_same, fun z => (E.mono e).osdom p z hp⟩) (r.ext (.new hp : Ext F.Dc F.Dc _ _) fun a z => E.xk a z))
  | exc ε => exact hr
  | bad => exact hr) (SpecM.post_bind hq))
def hole (H' : Hp) (L : Addr) : Hp := fun b => if b = L then none else H' b
theorem hole_same {H' : Hp} {L : Addr} : hole H' L L = none := if_pos rfl
theorem hole_ne {H' : Hp} {L b : Addr} (h : b ≠ L) : hole H' L b = H' b := if_neg h
theorem hole_eq {H' : Hp} {L : Addr} {acc : List V} (h : H' L = some (.lst acc)) : upd (hole H' L) L (.lst acc) = H' := by
  funext b
  unfold upd
  by_cases e : b = L
  · rw [if_pos e, e, h]
  · rw [if_neg e, hole_ne e]
theorem hole_ext {H H' : Hp} {M Dc : Addr → Prop} {L : Addr} {acc : List V} (hL : H L = none) (h : H' L = some (.lst acc)) (e : Ext M Dc H H') : Ext M Dc H (hole H' L) where
  keep := fun a o m t q => by rw [hole_ne (ne_of_none q hL)]; exact e.keep a o m t q
  there := fun a q => by
    rw [hole_ne (show a ≠ L from fun z => q (z ▸ hL))]
    exact e.there a q
  tups := fun a xs q => by rw [hole_ne (ne_of_none q hL)]; exact e.tups a xs q
  frzs := fun a o u q => by rw [hole_ne (ne_of_none q hL)]; exact e.frzs a o u q
  dice := fun a d ⟨x, y, z, q⟩ => by
    obtain ⟨x', y', z', q'⟩ := e.dice a d ⟨x, y, z, q⟩
    exact ⟨x', y', z', by rw [hole_ne (ne_of_none q hL)]; exact q'⟩
  tabs := fun P q hT t => by
    obtain ⟨ps, h1, h2, h3⟩ := e.tabs P q hT t
    have ne : ∀ {b : Addr} {o : HO}, H' b = some o → (∀ zs, o ≠ .lst zs) → b ≠ L := fun {b o} p n z => by
      rw [z, h] at p; exact n _ (Option.some.inj p).symm
    refine ⟨ps, by rw [hole_ne (ne h1 fun _ z => nomatch z)]; exact h1, h2, fun pos cv hc => ?_⟩
    obtain ⟨c, h4, h5⟩ := h3 pos cv hc
    exact ⟨c, h4, by rw [hole_ne (ne h5 fun _ z => nomatch z)]; exact h5⟩
theorem hole_mov {K : PySem.W.Frag} {mg : Str → Option Value} {O O' : Addr → Prop} {H' : Hp} {L : Addr} {acc : List V} (h : H' L = some (.lst acc)) (m : ∀ a, O' a → O a) (hO : O L) : Mov K mg O O' H' (hole H' L) := ⟨fun {a xs} q => by
  have ne : ∀ {o : HO}, H' a = some o → (∀ zs, o ≠ .lst zs) → a ≠ L := fun {o} p n z => by
    rw [z, h] at p; exact n _ (Option.some.inj p).symm
  rcases q with (q | ⟨o, q⟩) | q
  · exact .inl (.inl (by rw [hole_ne (ne q fun _ z => nomatch z)]; exact q))
  · exact .inl (.inr ⟨o, by rw [hole_ne (ne q fun _ z => nomatch z)]; exact q⟩)
  · exact .inr q, fun {a xs} q => by
  rcases q with ⟨q, n⟩ | q
  · exact .inl ⟨by rw [hole_ne (show a ≠ L from fun z => n (z ▸ hO))]; exact q, fun z => n (m a z)⟩
  · exact .inr q, fun {kvs v} q => by
  rcases q with ⟨q0, a, q1, q2, n⟩ | q | ⟨ns, a, q0, q1, q⟩ | ⟨i, j, a, q0, q1, q2, n⟩
  · exact .inl ⟨q0, a, q1, by rw [hole_ne (show a ≠ L from fun z => n (z ▸ hO))]; exact q2, fun z => n (m a z)⟩
  · exact .inr (.inl q)
  · refine .inr (.inr (.inl ⟨ns, a, q0, q1, ?_⟩))
    rcases q with ⟨q, n⟩ | ⟨o, q⟩ | q
    · exact .inl ⟨by rw [hole_ne (show a ≠ L from fun z => n (z ▸ hO))]; exact q, fun z => n (m a z)⟩
    · refine .inr (.inl ⟨o, ?_⟩)
      rw [hole_ne (show a ≠ L from fun z => by rw [z, h] at q; cases q)]
      exact q
    · exact .inr (.inr q)
  · exact .inr (.inr (.inr ⟨i, j, a, q0, q1, by rw [hole_ne (show a ≠ L from fun z => n (z ▸ hO))]; exact q2, fun z => n (m a z)⟩))⟩
/-- the reading of a comprehension -/
def lcT (X : Cx) (elt tg iter : Expr) (ifs : List Expr) (scope : Scope) (g : TG) (vs : List Nat) : TE := tLc (wpI X tg iter) g
  (fun σ H Q => ∀ (s : Shared) (H0 : Hp) (C : Addr) (cl : List (Str × Addr)) (fp : List Addr), wpIfs (X.blk s H0 scope (compEnvC scope cl C X.env) fp) ifs σ H Q)
  (fun σ H Q => ∀ (s : Shared) (H0 : Hp) (C : Addr) (cl : List (Str × Addr)) (fp : List Addr), wpE (X.blk s H0 scope (compEnvC scope cl C X.env) fp) elt σ H Q) vs
/-- an expression's reading gives a fresh list -/
def JFR (X : Cx) (W : WX) (t : TE) (Γ : List Slot) (m : M (List D)) : Prop := ∀ (F : Frm) (H : Hp) (σ : L2.St), DE.Env X.K X.mg F H σ Γ → ∀ Q : V → Hp → Prop, SpecM.post m (PostL X W F (OS F σ Γ) σ H Q) → t σ H Q
theorem lc_read {X : Cx} {W : WX} {Γ : List Slot} {elt tg iter : Expr} {ifs : List Expr} {scope : Scope} {own : List (Str × Nat)} {g : TG} {mi : M (List D)} {f : D → M (Option D)} {bt : D → Option (List Slot)}
    (hi : JC X W tg iter Γ mi)
    (hno : noOwn Γ (own.map (·.2)) = true) (hgt : Tgt X g (wipeG Γ (own.map (·.2))) bt)
    (hwipe : ∀ (v : V) (σ : L2.St) (H : Hp) (Q : L2.St → Hp → Prop), g v (L2.wipe σ (own.map (·.2))) H Q → g v (L2.wipe σ (own.map (·.2))) H fun σ' H' => L2.wipe σ' (own.map (·.2)) = L2.wipe σ (own.map (·.2)) ∧ Q σ' H')
    (hbad : ∀ d, bt d = none → f d = SpecM.ret .bad)
    (hf : ∀ d Γ', bt d = some Γ' → ∃ (mt : M Bool) (me : M D), f d = (bnd mt fun b => match b with | true => bnd me fun y => ok (some y) | false => ok none) ∧
      (∀ (s : Shared) (H : Hp) (C : Addr) (cl : List (Str × Addr)) (fp : List Addr), JTs (X.blk s H scope (compEnvC scope cl C X.env) fp) W0 ifs Γ' mt) ∧
      (∀ (s : Shared) (H : Hp) (C : Addr) (cl : List (Str × Addr)) (fp : List Addr), JE (X.blk s H scope (compEnvC scope cl C X.env) fp) W0 elt Γ' me)) : JFR X W (lcT X elt tg iter ifs scope g (own.map (·.2))) Γ (bnd mi fun ds => SpecM.nox (compM ds f)) := fun F H σ E Q hq => by
  obtain ⟨vs, hvs⟩ : ∃ vs, vs = own.map (·.2) := ⟨_, rfl⟩
  rw [← hvs] at hno hgt hwipe ⊢
  unfold lcT tLc
  refine hi F H σ E _ (SpecM.mono (fun r hr => ?_) (SpecM.post_bind hq))
  cases r with
  | bad => exact hr
  | exc ε => exact hr
  | ok ds =>
  intro It H1 e1 y1
  have E1 := E.mono e1
  have h1 : SpecM.post (SpecM.nox (compM ds f)) (PostL X W F (OS F σ Γ) σ H Q) := hr
  intro L hL
  have nO : ¬ OS F σ Γ L := E1.fresh hL
  have nD : ¬ F.Dc L := fun z => nO (E1.xk L z)
  have h3 : SpecM.post (compM ds f) (fun r => match r with | .ok zs => ∀ (acc : List V) (H1' : Hp), Ext F.Dc F.Dc H1 H1' → H1' L = none → Reps X.K X.mg (OS F σ Γ) H1' acc (zs) → Q (V.ref L) (upd H1' L (.lst acc)) | _ => False) := SpecM.mono (fun r hr => by
    cases r with
    | ok zs => exact fun acc H' e hp r => hr L acc H' (e1.trans e) hp r
    | exc e => exact hr
    | bad => exact hr) (SpecM.post_nox h1)
  refine ⟨fun i m H' => m = ds.length - i ∧ i ≤ ds.length ∧ ExtL F L (upd H1 L (.lst [])) H' ∧ ∃ acc ys, H' L = some (.lst acc) ∧ Reps X.K X.mg (OS (inB F L) (L2.wipe σ vs) (wipeG Γ vs)) H' acc ys ∧ acc.length ≤ i ∧
    SpecM.post (compM (ds.drop i) f) (fun r => match r with | .ok zs => ∀ (acc : List V) (H1' : Hp), Ext F.Dc F.Dc H1 H1' → H1' L = none → Reps X.K X.mg (OS F σ Γ) H1' acc (ys ++ zs) → Q (V.ref L) (upd H1' L (.lst acc)) | _ => False), ⟨ds.length, by simp, Nat.zero_le _, .refl, [], [], upd_same, .nil, Nat.le_refl _, h3⟩, ?_⟩
  rintro i m H' ⟨rfl, hi, eL, acc, ys, hacc, racc, lacc, hp⟩
  have sub : ∀ a, OS F σ Γ a → OS (inB F L) (L2.wipe σ vs) (wipeG Γ vs) a := fun a z => by
    rcases os_wipe (σ := σ) hno z with z | z | z
    · exact .inl (.inl z)
    · exact .inr (.inl z)
    · exact .inr (.inr z)
  by_cases hlt : i < ds.length
  · refine .inr ?_
    have hd : ds[i]? = some ds[i] := List.getElem?_eq_getElem hlt
    rw [List.drop_eq_getElem_cons hlt] at hp
    obtain ⟨d, hdd⟩ : ∃ d, d = ds[i] := ⟨_, rfl⟩
    rw [← hdd] at hd hp
    have hp2 := SpecM.post_bind hp
    have src := y1.go F.Dc (OS (inB F L) (L2.wipe σ vs) (wipeG Γ vs)) i H' d (fun a z => z) sub (fun a z => by
      rcases z with (z | z) | z | ⟨j, es, z1, z2⟩
      · exact .inl (.inl z)
      · exact .inr (z ▸ hL)
      · exact .inl (.inr (.inl z))
      · refine .inl (.inr (.inr ?_))
        have back : ∀ (vs : List Nat), (wipeG Γ vs)[j]? = some (Slot.own es) → (L2.wipe σ vs)[j]? = some (some (V.ref a)) → Γ[j]? = some (Slot.own es) ∧ σ[j]? = some (some (V.ref a)) := by
          intro vs
          induction vs with
          | nil => exact fun p q => ⟨p, q⟩
          | cons v vs ih =>
            intro p q
            have ne : j ≠ v := fun z => by
              subst z
              rw [wipeG, List.getElem?_set, if_pos rfl] at p
              split at p <;> cases p
            rw [wipeG, List.getElem?_set_ne (Ne.symm ne)] at p
            rw [L2.wipe, List.getElem?_set_ne (Ne.symm ne)] at q
            exact ih p q
        obtain ⟨p, q⟩ := back vs z1 z2
        exact ⟨j, es, p, q⟩) (eL.out hL) hd
    refine ⟨src.1, fun H'' => ExtL F L (upd H1 L (.lst [])) H'' ∧ ∃ acc ys, H'' L = some (.lst acc) ∧ Reps X.K X.mg (OS (inB F L) (L2.wipe σ vs) (wipeG Γ vs)) H'' acc ys ∧ acc.length ≤ i + 1 ∧
      SpecM.post (compM (ds.drop (i + 1)) f) (fun r => match r with | .ok zs => ∀ (acc : List V) (H1' : Hp), Ext F.Dc F.Dc H1 H1' → H1' L = none → Reps X.K X.mg (OS F σ Γ) H1' acc (ys ++ zs) → Q (V.ref L) (upd H1' L (.lst acc)) | _ => False), fun H'' q => ⟨ds.length - (i + 1), by omega, rfl, hlt, q⟩, fun x H'' yl => ?_⟩
    obtain ⟨e3, rx⟩ := src.2 x H'' yl
    have w : ∀ a, F.Dc a → F.Dc a ∨ a = L := fun a z => .inl z
    have e4 : ExtL F L (upd H1 L (.lst [])) H'' := eL.trans (e3.wide w)
    have E3 : DE.Env X.K X.mg (inB F L) H'' (L2.wipe σ vs) (wipeG Γ vs) := E1.block hL e4
    have racc3 : Reps X.K X.mg (OS (inB F L) (L2.wipe σ vs) (wipeG Γ vs)) H'' acc ys := racc.ext e3 fun a z => E3.xk a z
    have hacc3 : H'' L = some (.lst acc) := e3.keep _ _ nD (fun _ z => nomatch z) hacc
    cases hb : bt d with
    | none =>
      rw [hbad d hb] at hp2
      exact (SpecM.post_ret hp2).elim
    | some Γ' =>
      obtain ⟨mt, me, hfd, ht, he⟩ := hf d Γ' hb
      rw [hfd] at hp2
      refine hwipe _ _ _ _ (hgt (inB F L) H'' (L2.wipe σ vs) x d Γ' E3 rx hb _ fun σ2 E4 os2 => ?_)
      -- the tests
      intro s4 H4 C4 cl4 fp4
      refine J.run (ht s4 H4 C4 cl4 fp4) E4 (SpecM.post_bind hp2) (fun b hb2 b' H5 e5 E5 q5 => ?_) (fun e q => q) (fun q => q)
      subst q5
      have racc5 := racc3.ext e5 fun a z => E3.xk a z
      have hacc5 : H5 L = some (.lst acc) := e5.keep _ _ nD (fun _ z => nomatch z) hacc3
      have e55 : ExtL F L (upd H1 L (.lst [])) H5 := e4.trans (e5.wide w)
      cases b' with
      | false =>
        refine iteF ⟨e55, acc, ys, hacc5, racc5, Nat.le_succ_of_le lacc, SpecM.mono (fun r hr => ?_) (SpecM.post_bind (SpecM.post_ret hb2))⟩
        cases r with
        | ok zs => exact SpecM.post_ret hr
        | exc e => exact hr
        | bad => exact hr
      | true =>
        refine iteT fun s6 H6 C6 cl6 fp6 => ?_
        refine J.run (he s6 H6 C6 cl6 fp6) E5 (SpecM.post_bind hb2) (fun y hy v H7 e7 E7 q7 => ?_) (fun e q => q) (fun q => q)
        have hacc7 : H7 L = some (.lst acc) := e7.keep _ _ nD (fun _ z => nomatch z) hacc5
        have racc7 := racc5.ext e7 fun a z => E3.xk a z
        have l7 : acc.length < sizeLine := Nat.lt_of_le_of_lt lacc (Nat.lt_of_lt_of_le hlt (by rw [← maxL_eq]; exact y1.len))
        have OL : OS (inB F L) (L2.wipe σ vs) (wipeG Γ vs) L := .inl (.inr rfl)
        refine ⟨acc, hacc7, l7, e55.trans ((e7.wide w).trans (Ext.wr (.inr rfl) nD hacc7)), acc ++ [v], ys ++ [y], upd_same, (racc7.mov (mov_wr hacc7 OL)).append (.cons ((q7.anti os2).mov (mov_wr hacc7 OL)) .nil), by simp; exact lacc, SpecM.mono (fun r hr => ?_) (SpecM.post_bind (SpecM.post_ret hy))⟩
        cases r with
        | ok zs =>
          have z := SpecM.post_ret hr
          intro acc' H' e hp q
          exact z acc' H' e hp (by rw [List.append_assoc] at q; exact q)
        | exc e => exact hr
        | bad => exact hr
  · have en : i = ds.length := by omega
    subst en
    refine .inl ⟨y1.stop F.Dc H' (fun a z => z) (eL.out hL), ?_⟩
    rw [List.drop_length] at hp
    have z := SpecM.post_ret hp
    have fin := z acc _ (hole_ext hL hacc (eL.out hL)) hole_same (by rw [List.append_nil]; exact racc.mov (hole_mov hacc sub (.inl (.inr rfl))))
    rw [hole_eq hacc] at fin
    exact fin
end
end DE

set_option maxHeartbeats 4000000
namespace DE
open PySem PySem.Spec PyProof.Rows L2
variable [τ : TabCtx]
/-! ### targets -/
section
variable {X : Cx} {Γ : List Slot} {F : Frm} {σ : L2.St}
theorem os_back {i : Nat} {x : Option V} {s : Slot} (hn : noOwn Γ [i] = true) {a : Addr} (h : OS F σ Γ a) : OS F (σ.set i x) (Γ.set i s) a := by
  rcases h with h | h | ⟨j, ds, h1, h2⟩
  · exact .inl h
  · exact .inr (.inl h)
  · have ne : j ≠ i := fun e => by
      subst e
      simp [noOwn, h1] at hn
    exact .inr (.inr ⟨j, ds, by rw [List.getElem?_set_ne (Ne.symm ne)]; exact h1, by rw [List.getElem?_set_ne (Ne.symm ne)]; exact h2⟩)
theorem noOwn_set {i j : Nat} {d : D} (h : noOwn Γ [j] = true) : noOwn (Γ.set i (.dat d)) [j] = true := by
  simp only [noOwn, List.all_cons, List.all_nil, Bool.and_true] at h ⊢
  by_cases e : i = j
  · subst e
    rw [List.getElem?_set, if_pos rfl]
    split <;> first | rfl | (rename_i q; split at q <;> cases q)
  · rw [List.getElem?_set_ne e]; exact h
theorem tgt1 (i : Nat) (hn : noOwn Γ [i] = true) : Tgt X (gName i) Γ (fun d => some (Γ.set i (.dat d))) := fun F H σ v d Γ' E r hb Q q => by
  cases hb
  exact q _ (E.dat i r) fun a z => os_back hn z
def bt2 (Γ : List Slot) (i j : Nat) : D → Option (List Slot)
  | .tuple [a, b] => some ((Γ.set i (.dat a)).set j (.dat b))
  | _ => none
def bt3 (Γ : List Slot) (i j l : Nat) : D → Option (List Slot)
  | .tuple [a, b, c] => some (((Γ.set i (.dat a)).set j (.dat b)).set l (.dat c))
  | _ => none
abbrev g2 (K : PySem.W.Frag) (i j : Nat) : TG := gTup K 2 (gCons (gName i) (gCons (gName j) gNil))
abbrev g3 (K : PySem.W.Frag) (i j l : Nat) : TG := gTup K 3 (gCons (gName i) (gCons (gName j) (gCons (gName l) gNil)))
theorem tgt2 (i j : Nat) (hi : noOwn Γ [i] = true) (hj : noOwn Γ [j] = true) : Tgt X (g2 X.K i j) Γ (bt2 Γ i j) := fun F H σ v d Γ' E r hb Q q => by
  unfold bt2 at hb
  split at hb <;> first | cases hb | skip
  rename_i a b
  obtain ⟨c, xs, rfl, h1, h2⟩ := r.tuple
  obtain ⟨u, r1, rfl, p1, h3⟩ := h2.cons_of
  obtain ⟨w, r2, rfl, p2, h4⟩ := h3.cons_of
  rw [h4.nil_of] at h1
  have E1 := E.dat i p1
  have E2 := E1.dat j (p2.anti fun a z => os_set (fun _ q => by cases q) z)
  exact ⟨c, _, rfl, h1, rfl, u, _, rfl, w, _, rfl, rfl, q _ E2 fun a z => os_back (noOwn_set hj) (os_back hi z)⟩
theorem tgt3 (i j l : Nat) (hi : noOwn Γ [i] = true) (hj : noOwn Γ [j] = true) (hl : noOwn Γ [l] = true) : Tgt X (g3 X.K i j l) Γ (bt3 Γ i j l) := fun F H σ v d Γ' E r hb Q q => by
  unfold bt3 at hb
  split at hb <;> first | cases hb | skip
  rename_i a b c'
  obtain ⟨c, xs, rfl, h1, h2⟩ := r.tuple
  obtain ⟨u, r1, rfl, p1, h3⟩ := h2.cons_of
  obtain ⟨w, r2, rfl, p2, h4⟩ := h3.cons_of
  obtain ⟨y, r3, rfl, p3, h5⟩ := h4.cons_of
  rw [h5.nil_of] at h1
  have E1 := E.dat i p1
  have E2 := E1.dat j (p2.anti fun a z => os_set (fun _ q => by cases q) z)
  have E3 := E2.dat l (p3.anti fun a z => os_set (fun _ q => by cases q) (os_set (fun _ q => by cases q) z))
  exact ⟨c, _, rfl, h1, rfl, u, _, rfl, w, _, rfl, y, _, rfl, rfl, q _ E3 fun a z => os_back (noOwn_set (noOwn_set hl)) (os_back (noOwn_set hj) (os_back hi z))⟩
theorem wipe_set {i : Nat} {x : Option V} : ∀ (vs : List Nat) (σ : L2.St), i ∈ vs → L2.wipe (σ.set i x) vs = L2.wipe σ vs
  | v :: vs, σ, h => by
    unfold L2.wipe
    by_cases hv : i ∈ vs
    · rw [wipe_set vs σ hv]
    · have e : i = v := by
        rcases List.mem_cons.mp h with e | e
        · exact e
        · exact (hv e).elim
      subst e
      have sw : ∀ (vs : List Nat) (σ : L2.St), i ∉ vs → L2.wipe (σ.set i x) vs = (L2.wipe σ vs).set i x := by
        intro vs
        induction vs with
        | nil => intro σ _; rfl
        | cons v vs ih =>
          intro σ h
          have h1 : i ≠ v := fun z => h (by simp [z])
          have h2 : i ∉ vs := fun z => h (by simp [z])
          rw [L2.wipe, L2.wipe, ih σ h2, List.set_comm _ _ h1]
      rw [sw vs σ hv, List.set_set]
theorem wipe_wipe : ∀ (vs : List Nat) (σ : L2.St), L2.wipe (L2.wipe σ vs) vs = L2.wipe σ vs := fun vs σ => by
  have go : ∀ (ws : List Nat) (σ : L2.St), (∀ i ∈ ws, i ∈ vs) → L2.wipe (L2.wipe σ ws) vs = L2.wipe σ vs := by
    intro ws
    induction ws with
    | nil => intro σ _; rfl
    | cons w ws ih =>
      intro σ h
      rw [L2.wipe, wipe_set vs _ (h w (by simp)), ih σ fun i hi => h i (by simp [hi])]
  exact go vs σ fun _ h => h
end
/-! ### comprehensions by their targets -/
def on2 {M : Type → Type} [SpecM M] {α : Type} (f : D → D → M α) : D → M α
  | .tuple [a, b] => f a b
  | _ => SpecM.ret .bad
def on3 {M : Type → Type} [SpecM M] {α : Type} (f : D → D → D → M α) : D → M α
  | .tuple [a, b, c] => f a b c
  | _ => SpecM.ret .bad
/-- with tests -/
abbrev withT {M : Type → Type} [SpecM M] (mt : M Bool) (me : M D) : M (Option D) := bnd mt fun b => match b with | true => bnd me fun y => ok (some y) | false => ok none
section
variable {M : Type → Type} [SpecM M] {X : Cx} {W : WX} {Γ : List Slot} {elt iter : Expr} {ifs : List Expr} {scope : Scope} {own : List (Str × Nat)} {pos p1 p2 p3 tp : Pos} {kk : Nat} {mi : M (List D)} {x y z : Str}
abbrev Blk (X : Cx) (s : Shared) (H : Hp) (scope : Scope) (C : Addr) (cl : List (Str × Addr)) (fp : List Addr) : Cx := X.blk s H scope (compEnvC scope cl C X.env) fp
theorem rd1 (i : Nat) {mt : D → M Bool} {me : D → M D} (hi : JC X W (.Name x p1) iter Γ mi) (hiv : i ∈ own.map (·.2))
    (hno : noOwn Γ (own.map (·.2)) = true := by kernel_rfl) (hni : noOwn (wipeG Γ (own.map (·.2))) [i] = true := by kernel_rfl)
    (ht : ∀ d (s : Shared) (H : Hp) (C : Addr) (cl : List (Str × Addr)) (fp : List Addr), JTs (Blk X s H scope C cl fp) W0 ifs ((wipeG Γ (own.map (·.2))).set i (.dat d)) (mt d))
    (he : ∀ d (s : Shared) (H : Hp) (C : Addr) (cl : List (Str × Addr)) (fp : List Addr), JE (Blk X s H scope C cl fp) W0 elt ((wipeG Γ (own.map (·.2))).set i (.dat d)) (me d)) : JFR X W (lcT X elt (.Name x p1) iter ifs scope (gName i) (own.map (·.2))) Γ (bnd mi fun ds => SpecM.nox (compM ds fun d => withT (mt d) (me d))) := by
  refine lc_read hi hno (tgt1 i hni) (fun v σ H Q q => ⟨by rw [wipe_set _ _ hiv, wipe_wipe], q⟩) (fun d h => nomatch h) (fun d Γ' h => ?_)
  cases h
  exact ⟨mt d, me d, rfl, ht d, he d⟩
theorem rd2 (i j : Nat) {mt : D → D → M Bool} {me : D → D → M D} (hi : JC X W (.Tuple [.Name x p1, .Name y p2] kk tp) iter Γ mi) (hiv : i ∈ own.map (·.2)) (hjv : j ∈ own.map (·.2))
    (hno : noOwn Γ (own.map (·.2)) = true := by kernel_rfl) (hni : noOwn (wipeG Γ (own.map (·.2))) [i] = true := by kernel_rfl) (hnj : noOwn (wipeG Γ (own.map (·.2))) [j] = true := by kernel_rfl)
    (ht : ∀ d e (s : Shared) (H : Hp) (C : Addr) (cl : List (Str × Addr)) (fp : List Addr), JTs (Blk X s H scope C cl fp) W0 ifs (((wipeG Γ (own.map (·.2))).set i (.dat d)).set j (.dat e)) (mt d e))
    (he : ∀ d e (s : Shared) (H : Hp) (C : Addr) (cl : List (Str × Addr)) (fp : List Addr), JE (Blk X s H scope C cl fp) W0 elt (((wipeG Γ (own.map (·.2))).set i (.dat d)).set j (.dat e)) (me d e)) : JFR X W (lcT X elt (.Tuple [.Name x p1, .Name y p2] kk tp) iter ifs scope (g2 X.K i j) (own.map (·.2))) Γ (bnd mi fun ds => SpecM.nox (compM ds (on2 fun d e => withT (mt d e) (me d e)))) := by
  refine lc_read hi hno (tgt2 i j hni hnj) (fun v σ H Q q => ?_) (fun d h => ?_) (fun d Γ' h => ?_)
  · obtain ⟨c, xs, h1, h2, h3, u, r, h4, w, r2, h5, h6, q⟩ := q
    exact ⟨c, xs, h1, h2, h3, u, r, h4, w, r2, h5, h6, by rw [wipe_set _ _ hjv, wipe_set _ _ hiv, wipe_wipe], q⟩
  · unfold bt2 at h
    split at h <;> first | cases h | skip
    rename_i hne
    unfold on2
    split
    · exact (hne _ _ rfl).elim
    · rfl
  · unfold bt2 at h
    split at h <;> first | cases h | skip
    exact ⟨_, _, rfl, ht _ _, he _ _⟩
theorem rd3 (i j l : Nat) {mt : D → D → D → M Bool} {me : D → D → D → M D} (hi : JC X W (.Tuple [.Name x p1, .Name y p2, .Name z p3] kk tp) iter Γ mi)
    (hiv : i ∈ own.map (·.2)) (hjv : j ∈ own.map (·.2)) (hlv : l ∈ own.map (·.2))
    (hno : noOwn Γ (own.map (·.2)) = true := by kernel_rfl) (hni : noOwn (wipeG Γ (own.map (·.2))) [i] = true := by kernel_rfl) (hnj : noOwn (wipeG Γ (own.map (·.2))) [j] = true := by kernel_rfl) (hnl : noOwn (wipeG Γ (own.map (·.2))) [l] = true := by kernel_rfl)
    (ht : ∀ d e f (s : Shared) (H : Hp) (C : Addr) (cl : List (Str × Addr)) (fp : List Addr), JTs (Blk X s H scope C cl fp) W0 ifs ((((wipeG Γ (own.map (·.2))).set i (.dat d)).set j (.dat e)).set l (.dat f)) (mt d e f))
    (he : ∀ d e f (s : Shared) (H : Hp) (C : Addr) (cl : List (Str × Addr)) (fp : List Addr), JE (Blk X s H scope C cl fp) W0 elt ((((wipeG Γ (own.map (·.2))).set i (.dat d)).set j (.dat e)).set l (.dat f)) (me d e f)) : JFR X W (lcT X elt (.Tuple [.Name x p1, .Name y p2, .Name z p3] kk tp) iter ifs scope (g3 X.K i j l) (own.map (·.2))) Γ (bnd mi fun ds => SpecM.nox (compM ds (on3 fun d e f => withT (mt d e f) (me d e f)))) := by
  refine lc_read hi hno (tgt3 i j l hni hnj hnl) (fun v σ H Q q => ?_) (fun d h => ?_) (fun d Γ' h => ?_)
  · obtain ⟨c, xs, h1, h2, h3, u, r, h4, w, r2, h5, w3, r3, h6, h7, q⟩ := q
    exact ⟨c, xs, h1, h2, h3, u, r, h4, w, r2, h5, w3, r3, h6, h7, by rw [wipe_set _ _ hlv, wipe_set _ _ hjv, wipe_set _ _ hiv, wipe_wipe], q⟩
  · unfold bt3 at h
    split at h <;> first | cases h | skip
    rename_i hne
    unfold on3
    split
    · exact (hne _ _ _ rfl).elim
    · rfl
  · unfold bt3 at h
    split at h <;> first | cases h | skip
    exact ⟨_, _, rfl, ht _ _ _, he _ _ _⟩
/-- as an expression -/
theorem jf_lc {tg : Expr} {g : TG} {m : M (List D)} (hc : X.calm = true) (hN : X.N.Nodup) (okb : BlkOk X.N X.env.scope scope own) (hg : ∀ (s : Shared) (H : Hp) (C : Addr) (cl : List (Str × Addr)) (fp : List Addr), PG (Blk X s H scope C cl fp) tg g)
    (rd : JFR X W (lcT X elt tg iter ifs scope g (own.map (·.2))) Γ m) (hs : ∀ x, foldedSetIterable iter X.env x = pure x := by intro _; rfl) : JF X W (.ListComp elt [⟨tg, iter, ifs, 0⟩] scope pos) Γ m := fun F H σ E Q hq =>
  PE.wp (pe_lc (te := fun σ H Q => ∀ (s : Shared) (H0 : Hp) (C : Addr) (cl : List (Str × Addr)) (fp : List Addr), wpE (Blk X s H0 scope C cl fp) elt σ H Q) hc hN pi_sem okb hg
    (fun s H C cl fp => ⟨fun pins s' σ H' Q I h => (h s H C cl fp).run pins s' I⟩) (fun s H C cl fp => ⟨fun pins s' σ H' Q I h => (h s H C cl fp).run pins s' I⟩) hs) (rd F H σ E Q hq)
end
end DE

set_option maxHeartbeats 4000000
namespace DE
open PySem PySem.Spec PyProof.Rows L2
variable [τ : TabCtx]
/-! ### what a def promises -/
abbrev Ext0 (H H' : Hp) : Prop := Ext (fun _ => False) (fun _ => False) H H'
theorem dummy_De8 : True := trivial
def PostF (K : PySem.W.Frag) (mg : Str → Option Value) (O : Addr → Prop) (Ex : Hp → Hp → Prop) (H : Hp) (Q : VK) (E : XK) : Res D → Prop
  | .ok d => ∀ v H', Ex H H' → Rep K mg O H' v d → Q v H'
  | .exc ε => ∀ cls dx H', Ex H H' → ExcRep K mg O ε cls dx H' → E cls dx H'
  | .bad => False
def spP (K : PySem.W.Frag) (mg : Str → Option Value) (n : Nat) (m : List D → Res D) : Sp := fun vs H Q E =>
  ∃ (O : Addr → Prop) (ds : List D), vs.length = n ∧ TabsOK H ∧ (∀ a, O a → H a ≠ none) ∧ Reps K mg O H vs ds ∧ PostF K mg O Ext0 H Q E (m ds)
/-- the dice come first -/
def spD (K : PySem.W.Frag) (mg : Str → Option Value) (n : Nat) (m : List D → Dem D) : Sp := fun vs H Q E =>
  ∃ (O : Addr → Prop) (a : Addr) (us : List V) (ds : List D), vs = V.ref a :: us ∧ us.length = n ∧ O a ∧ DiceAt H a ∧ TabsOK H ∧ (∀ a, O a → H a ≠ none) ∧ Reps K mg O H us ds ∧
    (m ds).run (PostF K mg O (Ext (fun b => b = a) (fun b => b = a)) H Q E)
structure DefP (P : Program) (w : World) (K : PySem.W.Frag) (mg : Str → Option Value) (base : Heap) (x : Str) (k n : Nat) (m : List D → Res D) : Prop where
  ex : ∃ (f : Addr) (fd : FuncData) (ps : List Str), mg x = some (Value.ref f) ∧ PySem.W.keepIn K (.ref f) = true ∧ Binds K fd ps [] ∧ FnOk P w K mg base (L2.CX P w) k f fd ps (spP K mg n m) ∧ ∀ ds, ds.length ≠ n → m ds = .bad
structure DefD (P : Program) (w : World) (K : PySem.W.Frag) (mg : Str → Option Value) (base : Heap) (x : Str) (k n : Nat) (m : List D → Dem D) : Prop where
  ex : ∃ (f : Addr) (fd : FuncData) (ps : List Str), mg x = some (Value.ref f) ∧ PySem.W.keepIn K (.ref f) = true ∧ Binds K fd ps [] ∧ FnOk P w K mg base (L2.CX P w) k f fd ps (spD K mg n m) ∧ ∀ ds, ds.length ≠ n → m ds = SpecM.ret .bad
theorem Ext.up {M Dc : Addr → Prop} {H H' : Hp} (e : Ext0 H H') : Ext M Dc H H' := ⟨fun a o _ t h => e.keep a o (fun z => z) t h, e.there, e.tups, e.frzs, fun a _ ⟨x, y, z, h⟩ => ⟨x, y, z, e.keep a _ (fun z => z) (fun _ z => nomatch z) h⟩, e.tabs⟩
theorem Ext.one {M Dc : Addr → Prop} {a : Addr} {H H' : Hp} (hM : M a) (e : Ext (fun b => b = a) (fun b => b = a) H H') : Ext M Dc H H' := ⟨fun b o n t h => e.keep b o (fun z => n (z ▸ hM)) t h, e.there, e.tups, e.frzs, fun b _ ⟨x, y, z, h⟩ => by
  by_cases q : b = a
  · exact e.dice b q ⟨x, y, z, h⟩
  · exact ⟨x, y, z, e.keep b _ q (fun _ z => nomatch z) h⟩, e.tabs⟩
def fn1 {M : Type → Type} [SpecM M] (f : D → M D) : List D → M D
  | [a] => f a
  | _ => SpecM.ret .bad
def fn2 {M : Type → Type} [SpecM M] (f : D → D → M D) : List D → M D
  | [a, b] => f a b
  | _ => SpecM.ret .bad
def fn3 {M : Type → Type} [SpecM M] (f : D → D → D → M D) : List D → M D
  | [a, b, c] => f a b c
  | _ => SpecM.ret .bad
def fn4 {M : Type → Type} [SpecM M] (f : D → D → D → D → M D) : List D → M D
  | [a, b, c, d] => f a b c d
  | _ => SpecM.ret .bad
def fn5 {M : Type → Type} [SpecM M] (f : D → D → D → D → D → M D) : List D → M D
  | [a, b, c, d, e] => f a b c d e
  | _ => SpecM.ret .bad
def fn0 {M : Type → Type} [SpecM M] (f : M D) : List D → M D
  | [] => f
  | _ => SpecM.ret .bad
section
variable {M : Type → Type} [SpecM M] {X : Cx} {W : WX} {Γ : List Slot} {pos p p2 : Pos} {e : Expr} {es : List Expr} {x y : Str} {j k n : Nat}
/-- f(..) -/
theorem je_call {m : M (List D)} {f : List D → Res D} (G : DefP X.prog X.w X.K X.mg X.base x j n f) (hr : Room k X.A) (hk : j ≤ k) (tk : Takes X W) (ha : JA X W (e :: es) Γ m) (hg : Gl X x := by (show _ = _); kernel_rfl) (hdb : (x == ("__debug__" : Str)) = false := by kernel_rfl)
    (he : starEach (e :: es) X.env = (false, eval e X.env) :: starEach es X.env := by kernel_rfl) (hpl : (backTo pos (starEach es X.env)).any (·.1) = false := by kernel_rfl) :
    JE X W (.Call (.Name x p) (e :: es) [] pos) Γ (bnd m fun ds => SpecM.ret (f ds)) := fun F H σ E Q hq => by
  obtain ⟨fa, fd, ps, hm, kp, bi, ok, bad⟩ := G.ex
  refine PE.wp (pe_callS (E := WE W) (ok.mono hk) hr hg hm kp bi (fun σ => passAt tk σ) pa_sem hdb he hpl) ?_
  refine ha.bind E hq fun ds vs H1 e1 E1 r1 h1 => ?_
  have h2 := SpecM.post_ret h1
  by_cases hn : ds.length = n
  · refine ⟨OS F σ Γ, ds, r1.length.trans hn, E1.tbs, E1.osdom, r1, ?_⟩
    cases q : f ds with
    | ok d => rw [q] at h2; exact fun v H' e r => h2 v H' e.up r
    | exc ε => rw [q] at h2; exact fun c d H' e r => h2 c d H' e.up r
    | bad => rw [q] at h2; exact h2
  · rw [bad ds hn] at h2
    exact h2.elim
/-- f(), which lets nothing out -/
theorem je_call0 {f : List D → Res D} (G : DefP X.prog X.w X.K X.mg X.base x j 0 f) (hr : Room k X.A) (hk : j ≤ k) (hg : Gl X x := by (show _ = _); kernel_rfl) (hdb : (x == ("__debug__" : Str)) = false := by kernel_rfl) :
    JE X W (.Call (.Name x p) [] [] pos) Γ (SpecM.nox (SpecM.ret (M := M) (f []))) := fun F H σ E Q hq => by
  obtain ⟨fa, fd, ps, hm, kp, bi, ok, bad⟩ := G.ex
  refine PE.wp (pe_call0 (E := E0) (dvs := []) (ok.mono hk) hr hg hm kp bi .nil passL hdb) ?_
  have h2 := SpecM.post_ret (SpecM.post_nox hq)
  refine ⟨OS F σ Γ, [], rfl, E.tbs, E.osdom, .nil, ?_⟩
  cases q : f [] with
  | ok d => rw [q] at h2; exact fun v H' e r => h2 v H' e.up r
  | exc ε => rw [q] at h2; exact h2.elim
  | bad => rw [q] at h2; exact h2
/-- f(dice, ..) -/
theorem je_calld (i : Nat) {m : Dem (List D)} {f : List D → Dem D} (hs : Γ[i]? = some Slot.dice := by rfl) (G : DefD X.prog X.w X.K X.mg X.base x j n f) (hr : Room k X.A) (hk : j ≤ k) (tk : Takes X W) (hN : X.N[i]? = some y := by kernel_rfl) (hv : Vis X.env.scope y) (hd : (y == ("__debug__" : Str)) = false := by kernel_rfl) (hcd : (y == ("__classdict__" : Str)) = false := by kernel_rfl)
    (ha : JA X W es Γ m) (hg : Gl X x := by (show _ = _); kernel_rfl) (hdb : (x == ("__debug__" : Str)) = false := by kernel_rfl)
    (he : starEach (.Name y p2 :: es) X.env = (false, eval (.Name y p2) X.env) :: starEach es X.env := by kernel_rfl) (hpl : (backTo pos (starEach es X.env)).any (·.1) = false := by kernel_rfl) :
    JE X W (.Call (.Name x p) (.Name y p2 :: es) [] pos) Γ (bnd m f) := fun F H σ E Q hq => by
  obtain ⟨fa, fd, ps, hm, kp, bi, okf, bad⟩ := G.ex
  refine PE.wp (pe_callS (E := WE W) (t := tCons (tVar i) (wpA X es)) (okf.mono hk) hr hg hm kp bi (fun σ => passAt tk σ) (pa_cons (pe_var hN hv hd hcd) pa_sem he) hdb he hpl) ?_
  obtain ⟨z, q1, a, q2, q3⟩ := E.slot i _ hs
  subst q2
  refine ⟨_, q1, ?_⟩
  refine ha.bind E hq fun ds vs H1 e1 E1 r1 h1 => ?_
  by_cases hn : ds.length = n
  · refine ⟨OS F σ Γ, a, vs, ds, rfl, r1.length.trans hn, .inl (E.subO a q3), E1.dic a q3, E1.tbs, E1.osdom, r1, (f ds).mono (fun r hr => ?_) h1⟩
    cases r with
    | ok d => exact fun v H' e r => hr v H' (e.one q3) r
    | exc ε => exact fun c d H' e r => hr c d H' (e.one q3) r
    | bad => exact hr
  · rw [bad ds hn] at h1
    exact (SpecM.post_ret h1).elim
/-! ### built-ins -/
theorem je_callB {m : M (List D)} {id : String} {r : List V → Hp → VK → Prop} {f : List D → Option D} (hc : CallR X (.builtin id) r) (rc : RC X r f) (hm : X.mg x = none) (hv : bootBuiltins x = some (.builtin id) := by kernel_rfl) (ha : JA X W (e :: es) Γ m) (hg : Gl X x := by (show _ = _); kernel_rfl) (hn : x ≠ "__name__" := by decide) (hdb : (x == ("__debug__" : Str)) = false := by kernel_rfl)
    (he : starEach (e :: es) X.env = (false, eval e X.env) :: starEach es X.env := by kernel_rfl) (hpl : (backTo pos (starEach es X.env)).any (·.1) = false := by kernel_rfl) :
    JE X W (.Call (.Name x p) (e :: es) [] pos) Γ (bnd m fun ds => op (f ds)) := fun F H σ E Q hq => by
  refine PE.wp (pe_callB hc hg hm hv pa_sem hn hdb he hpl) ?_
  refine ha.bind E hq fun ds vs H1 e1 E1 r1 h1 => ?_
  obtain ⟨z, hz, q⟩ := post_ofO h1
  exact rc _ H1 vs ds z E1.osdom r1 hz Q fun v H3 s3 r3 => q v H3 (.same s3) r3
theorem je_callT {m : M (List D)} {T : String} {r : List V → Hp → VK → Prop} {f : List D → Option D} (hc : CallR X (.type T) r) (rc : RC X r f) (hm : X.mg x = none) (hv : bootBuiltins x = some (.type T) := by kernel_rfl) (ha : JA X W (e :: es) Γ m) (hg : Gl X x := by (show _ = _); kernel_rfl) (hn : x ≠ "__name__" := by decide) (hdb : (x == ("__debug__" : Str)) = false := by kernel_rfl)
    (he : starEach (e :: es) X.env = (false, eval e X.env) :: starEach es X.env := by kernel_rfl) (hpl : (backTo pos (starEach es X.env)).any (·.1) = false := by kernel_rfl) :
    JE X W (.Call (.Name x p) (e :: es) [] pos) Γ (bnd m fun ds => op (f ds)) := fun F H σ E Q hq => by
  refine PE.wp (pe_callTy hc hg hm hv pa_sem hn hdb he hpl) ?_
  refine ha.bind E hq fun ds vs H1 e1 E1 r1 h1 => ?_
  obtain ⟨z, hz, q⟩ := post_ofO h1
  exact rc _ H1 vs ds z E1.osdom r1 hz Q fun v H3 s3 r3 => q v H3 (.same s3) r3
/-- of one argument, a list of our own too -/
def RC1 (X : Cx) (r : List V → Hp → VK → Prop) (f : D → Option D) : Prop := ∀ (P O : Addr → Prop) (H : Hp) (x : V) (dx d : D), (∀ a, O a → H a ≠ none) → RepS X.K X.mg O H P x dx → f dx = some d →
  ∀ Q : V → Hp → Prop, (∀ v H1, Same H H1 → Rep X.K X.mg O H1 v d → Q v H1) → r [x] H Q
theorem je_callB1 {m : M D} {id : String} {r : List V → Hp → VK → Prop} {f : D → Option D} (hc : CallR X (.builtin id) r) (rc : RC1 X r f) (hm : X.mg x = none) (hv : bootBuiltins x = some (.builtin id) := by kernel_rfl) (ha : JQ X W e Γ m) (hg : Gl X x := by (show _ = _); kernel_rfl) (hn : x ≠ "__name__" := by decide) (hdb : (x == ("__debug__" : Str)) = false := by kernel_rfl)
    (he : starEach [e] X.env = (false, eval e X.env) :: starEach [] X.env := by kernel_rfl) (hpl : (backTo pos (starEach [] X.env)).any (·.1) = false := by kernel_rfl) :
    JE X W (.Call (.Name x p) [e] [] pos) Γ (bnd m fun d => op (f d)) := fun F H σ E Q hq => by
  refine PE.wp (pe_callB hc hg hm hv (pa_cons pe_sem pa_nil he) hn hdb he hpl) ?_
  refine ha.bind E hq fun d v H1 e1 E1 r1 h1 => ?_
  obtain ⟨z, hz, q⟩ := post_ofO h1
  exact rc _ _ H1 v d z E1.osdom r1 hz Q fun v H3 s3 r3 => q v H3 (.same s3) r3
theorem je_callT1 {m : M D} {T : String} {r : List V → Hp → VK → Prop} {f : D → Option D} (hc : CallR X (.type T) r) (rc : RC1 X r f) (hm : X.mg x = none) (hv : bootBuiltins x = some (.type T) := by kernel_rfl) (ha : JQ X W e Γ m) (hg : Gl X x := by (show _ = _); kernel_rfl) (hn : x ≠ "__name__" := by decide) (hdb : (x == ("__debug__" : Str)) = false := by kernel_rfl)
    (he : starEach [e] X.env = (false, eval e X.env) :: starEach [] X.env := by kernel_rfl) (hpl : (backTo pos (starEach [] X.env)).any (·.1) = false := by kernel_rfl) :
    JE X W (.Call (.Name x p) [e] [] pos) Γ (bnd m fun d => op (f d)) := fun F H σ E Q hq => by
  refine PE.wp (pe_callTy hc hg hm hv (pa_cons pe_sem pa_nil he) hn hdb he hpl) ?_
  refine ha.bind E hq fun d v H1 e1 E1 r1 h1 => ?_
  obtain ⟨z, hz, q⟩ := post_ofO h1
  exact rc _ _ H1 v d z E1.osdom r1 hz Q fun v H3 s3 r3 => q v H3 (.same s3) r3
end
section
variable {X : Cx}
theorem rc_len : RC1 X (fun xs H Q => ∃ x n, xs = [x] ∧ LenV X.K x H n ∧ Q (.int n) H) lenD := fun P O H x dx d dm rx e Q q => by
  cases dx <;> first | cases e | skip
  · rename_i z
    simp only [lenD] at e
    split at e
    · cases e
      rcases rx with rx | ⟨_, _, _, _, h, _⟩
      · rw [rx.toStr]
        exact ⟨_, _, rfl, ⟨by rw [← maxL_eq]; assumption, rfl⟩, q _ H (.refl H) (.int _)⟩
      · cases h
    · cases e
  · obtain ⟨a, xs, rfl, h1, h2⟩ := rx.list
    exact ⟨_, xs.length, rfl, .inl ⟨xs, h1, rfl⟩, by rw [h2.length]; exact q _ H (.refl H) (.int _)⟩
  · obtain ⟨a, xs, rfl, h1, h2⟩ := rx.tuple
    exact ⟨_, xs.length, rfl, .inr ⟨xs, h1, rfl⟩, by rw [h2.length]; exact q _ H (.refl H) (.int _)⟩
theorem rc_int : RC1 X (fun xs H Q => (∃ i, xs = [.int i] ∧ Q (.int i) H) ∨ ∃ k, xs = [.bl k] ∧ Q (.int (if k then 1 else 0)) H) intD := fun P O H x dx d dm rx e Q q => by
  rcases rx with rx | ⟨_, _, _, _, h, _⟩
  · cases dx <;> first | cases e | skip
    · exact .inr ⟨_, by rw [rx.toBool], q _ H (.refl H) (.int _)⟩
    · exact .inl ⟨_, by rw [rx.toInt], q _ H (.refl H) (.int _)⟩
  · cases h
    cases e
/-- all, any of a list of truth values -/
def bools : List D → Option (List Bool)
  | [] => some []
  | .bool b :: r => (bools r).map (b :: ·)
  | _ :: _ => none
theorem bools_rep {K : PySem.W.Frag} {mg : Str → Option Value} {O : Addr → Prop} {H : Hp} : ∀ {ds : List D} {bs : List Bool} {vs : List V}, bools ds = some bs → Reps K mg O H vs ds → vs = bs.map V.bl
  | [], _, _, e, h => by cases e; rw [h.nil_of]; rfl
  | d :: ds, bs, _, e, h => by
    obtain ⟨v, r, rfl, h1, h2⟩ := h.cons_of
    cases d <;> first | cases e | skip
    simp only [bools] at e
    cases q : bools ds with
    | none => rw [q] at e; cases e
    | some cs =>
      rw [q] at e
      cases e
      rw [h1.toBool, bools_rep q h2]; rfl
def allD : D → Option D
  | .list ds => (bools ds).map fun bs => .bool (bs.all id)
  | _ => none
def anyD : D → Option D
  | .list ds => (bools ds).map fun bs => .bool (bs.any id)
  | _ => none
theorem rc_all : RC1 X (rAll X.K) allD := fun P O H x dx d dm rx e Q q => by
  cases dx <;> first | cases e | skip
  obtain ⟨a, xs, rfl, h1, h2⟩ := rx.list
  simp only [allD] at e
  rename_i ds
  cases hb : bools ds with
  | none => rw [hb] at e; cases e
  | some bs =>
    rw [hb] at e; cases e
    exact ⟨a, bs, rfl, by rw [← bools_rep hb h2]; exact h1, q _ H (.refl H) (.bl _)⟩
theorem rc_anyB : RC1 X (rAny X.K) anyD := fun P O H x dx d dm rx e Q q => by
  cases dx <;> first | cases e | skip
  obtain ⟨a, xs, rfl, h1, h2⟩ := rx.list
  simp only [anyD] at e
  rename_i ds
  cases hb : bools ds with
  | none => rw [hb] at e; cases e
  | some bs =>
    rw [hb] at e; cases e
    exact ⟨a, bs, rfl, by rw [← bools_rep hb h2]; exact h1, q _ H (.refl H) (.bl _)⟩
def tupleD : D → Option D
  | .list ds => some (.tuple ds)
  | .tuple ds => some (.tuple ds)
  | _ => none
def listD : D → Option D
  | .list ds => some (.list ds)
  | .tuple ds => some (.list ds)
  | _ => none
theorem rep_new {K : PySem.W.Frag} {mg : Str → Option Value} {O : Addr → Prop} {H : Hp} {p : Addr} {o : HO} (hp : H p = none) {vs : List V} {ds : List D} (r : Reps K mg O H vs ds) : Reps K mg O (upd H p o) vs ds := r.ext (Ext.new hp : Ext (fun _ => False) (fun _ => False) _ _) fun _ z => z.elim
theorem rc_tuple : RC1 X (fun xs H Q => ∃ p ys, xs = [.ref p] ∧ ((SqL X.K H p ys ∧ ∀ l, H l = none → Q (.ref l) (upd H l (.tup ys))) ∨ (SqT X.K H p ys ∧ Q (.ref p) H))) tupleD := fun P O H x dx d dm rx e Q q => by
  cases dx <;> first | cases e | skip
  · obtain ⟨a, xs, rfl, h1, h2⟩ := rx.list
    exact ⟨a, xs, rfl, .inl ⟨h1, fun l hl => q _ _ (same_new hl) (.tup (.inl (.inl upd_same)) (rep_new hl h2))⟩⟩
  · obtain ⟨a, xs, rfl, h1, h2⟩ := rx.tuple
    exact ⟨a, xs, rfl, .inr ⟨h1, q _ H (.refl H) (.tup h1 h2)⟩⟩
theorem rc_list : RC1 X (fun xs H Q => ∃ p ys, xs = [.ref p] ∧ (SqL X.K H p ys ∨ SqT X.K H p ys) ∧ ∀ l, H l = none → Q (.ref l) (upd H l (.lst ys))) listD := fun P O H x dx d dm rx e Q q => by
  cases dx <;> first | cases e | skip
  · obtain ⟨a, xs, rfl, h1, h2⟩ := rx.list
    exact ⟨a, xs, rfl, .inl h1, fun l hl => q _ _ (same_new hl) (.lst (.inl ⟨upd_same, fun z => dm l z hl⟩) (rep_new hl h2))⟩
  · obtain ⟨a, xs, rfl, h1, h2⟩ := rx.tuple
    exact ⟨a, xs, rfl, .inr h1, fun l hl => q _ _ (same_new hl) (.lst (.inl ⟨upd_same, fun z => dm l z hl⟩) (rep_new hl h2))⟩
def intsO : List D → Option (List Int)
  | [] => some []
  | .int b :: r => (intsO r).map (b :: ·)
  | _ :: _ => none
theorem ints_rep {K : PySem.W.Frag} {mg : Str → Option Value} {O : Addr → Prop} {H : Hp} : ∀ {ds : List D} {bs : List Int} {vs : List V}, intsO ds = some bs → Reps K mg O H vs ds → vs = bs.map V.int
  | [], _, _, e, h => by cases e; rw [h.nil_of]; rfl
  | d :: ds, bs, _, e, h => by
    obtain ⟨v, r, rfl, h1, h2⟩ := h.cons_of
    cases d <;> first | cases e | skip
    simp only [intsO] at e
    cases q : intsO ds with
    | none => rw [q] at e; cases e
    | some cs =>
      rw [q] at e
      cases e
      rw [h1.toInt, ints_rep q h2]; rfl
def sumD : D → Option D
  | .list ds => (intsO ds).map fun bs => .int bs.sum
  | _ => none
theorem rc_sum : RC1 X (rSum X.K) sumD := fun P O H x dx d dm rx e Q q => by
  cases dx <;> first | cases e | skip
  obtain ⟨a, xs, rfl, h1, h2⟩ := rx.list
  simp only [sumD] at e
  rename_i ds
  cases hb : intsO ds with
  | none => rw [hb] at e; cases e
  | some bs =>
    rw [hb] at e; cases e
    exact ⟨a, bs, rfl, by rw [← ints_rep hb h2]; exact h1, q _ H (.refl H) (.int _)⟩
def max2 : List D → Option D
  | [.int i, .int j] => some (.int (if j > i then j else i))
  | _ => none
def min2 : List D → Option D
  | [.int i, .int j] => some (.int (if j < i then j else i))
  | _ => none
theorem two_reps {K : PySem.W.Frag} {mg : Str → Option Value} {O : Addr → Prop} {H : Hp} {vs : List V} {i j : Int} (h : Reps K mg O H vs [.int i, .int j]) : vs = [.int i, .int j] := by
  obtain ⟨v, r, rfl, h1, h2⟩ := h.cons_of
  obtain ⟨u, r2, rfl, h3, h4⟩ := h2.cons_of
  rw [h1.toInt, h3.toInt, h4.nil_of]
theorem rc_max2 : RC X (fun xs H Q => ∃ i j, xs = [.int i, .int j] ∧ Q (.int (if j > i then j else i)) H) max2 := fun O H xs ds d dm r e Q q => by
  unfold max2 at e
  split at e <;> first | cases e | skip
  exact ⟨_, _, two_reps r, q _ H (.refl H) (.int _)⟩
theorem rc_min2 : RC X (fun xs H Q => ∃ i j, xs = [.int i, .int j] ∧ Q (.int (if j < i then j else i)) H) min2 := fun O H xs ds d dm r e Q q => by
  unfold min2 at e
  split at e <;> first | cases e | skip
  exact ⟨_, _, two_reps r, q _ H (.refl H) (.int _)⟩
end
end DE

set_option maxHeartbeats 4000000
namespace DE
open PySem PySem.Spec PyProof.Rows L2
variable [τ : TabCtx]
/-! ### another ground: what stands now -/
def ownA (σ : L2.St) (Γ : List Slot) (a : Addr) : Prop := ∃ (i : Nat) (ds : List D), Γ[i]? = some (Slot.own ds) ∧ σ[i]? = some (some (V.ref a))
def rb (F : Frm) (σ : L2.St) (Γ : List Slot) (H : Hp) : Frm := { M := fun a => F.M a ∨ ownA σ Γ a, Dc := F.Dc, O := F.O, H0 := H, B := fun i a => ∃ ds, Γ[i]? = some (Slot.own ds) ∧ σ[i]? = some (some (V.ref a)), nw := F.nw }
section
variable {K : PySem.W.Frag} {mg : Str → Option Value} {F : Frm} {H H1 : Hp} {σ σ' : L2.St} {Γ Γ' : List Slot}
theorem os_rb {a : Addr} : OS (rb F σ Γ H) σ Γ a ↔ OS F σ Γ a := by
  constructor
  · intro h
    rcases h with h | (h | h) | h
    · exact .inl h
    · exact .inr (.inl h)
    · exact .inr (.inr h)
    · exact .inr (.inr h)
  · intro h
    rcases h with h | h | h
    · exact .inl h
    · exact .inr (.inl (.inl h))
    · exact .inr (.inr h)
theorem SlotOK.sub {i : Nat} {F F' : Frm} {O O' : Addr → Prop} {s : Slot} {x : Option V} (m : Mov K mg O O' H H1) (hO : ∀ a, F'.O a → F.O a ∨ H a = none) (h0 : ∀ a, (∃ ds, s = Slot.own ds) → x = some (V.ref a) → (F.H0 a = none ∧ ¬ F.M a ∧ F.nw i) ∨ F.B i a → (F'.H0 a = none ∧ ¬ F'.M a ∧ F'.nw i) ∨ F'.B i a) (hD : F.Dc = F'.Dc)
    (hl : ∀ a xs, (∃ ds, s = Slot.own ds) → x = some (V.ref a) → H a = some (.lst xs) → H1 a = some (.lst xs)) (h : SlotOK K mg F i O H s x) : SlotOK K mg F' i O' H1 s x := by
  cases s with
  | any => trivial
  | dat d => obtain ⟨v, q1, q2⟩ := h; exact ⟨v, q1, q2.mov m⟩
  | own ds => obtain ⟨a, xs, q1, q2, q3, q4, q5⟩ := h; exact ⟨a, xs, q1, fun z => (hO a z).elim q2 (fun z => by rw [q4] at z; cases z), h0 a ⟨ds, rfl⟩ q1 q3, hl a xs ⟨ds, rfl⟩ q1 q4, q5.mov m⟩
  | dice => obtain ⟨a, q1, q2⟩ := h; exact ⟨a, q1, hD ▸ q2⟩
theorem Env.rebase (E : DE.Env K mg F H σ Γ) : DE.Env K mg (rb F σ Γ H) H σ Γ where
  ext := .refl
  subM := fun a h => .inl (E.subM a h)
  subO := E.subO
  dom := E.dom
  domM := fun a h => h.elim (E.domM a) fun h => E.osdom a (.inr (.inr h))
  dic := E.dic
  len := E.len
  slot := fun i s h => by
    obtain ⟨x, q1, q2⟩ := E.slot i s h
    refine ⟨x, q1, SlotOK.sub (F := F) (F' := rb F σ Γ H) (O := OS F σ Γ) (O' := OS (rb F σ Γ H) σ Γ) (mov_anti fun a z => os_rb.mp z) (fun a z => .inl z) (fun a ⟨ds, hs⟩ hx _ => .inr ⟨ds, hs ▸ h, hx ▸ q1⟩) rfl (fun a xs _ _ q => q) q2⟩
  bM := fun i a ⟨ds, h1, h2⟩ => .inr ⟨i, ds, h1, h2⟩
  tbs := E.tbs
  apart := E.apart
/-- back to the old ground -/
theorem Env.unbase (E : DE.Env K mg F H σ Γ) (E' : DE.Env K mg (rb F σ Γ H) H1 σ' Γ') : DE.Env K mg F H1 σ' Γ' where
  ext := {
    keep := fun a o m t h => by
      have h1 := E.ext.keep a o m t h
      refine E'.ext.keep a o (fun z => ?_) t h1
      rcases z with z | ⟨i, ds, z1, z2⟩
      · exact m z
      · obtain ⟨x, q1, b, xs, q2, q3, q4, q5, q6⟩ := E.slot i _ z1
        rw [z2] at q1; cases q1; cases q2
        rcases q4 with ⟨q4, _⟩ | q4
        · rw [h] at q4; cases q4
        · exact m (E.bM _ _ q4)
    there := fun a h => E'.ext.there a (E.ext.there a h)
    tups := fun a xs h => E'.ext.tups a xs (E.ext.tups a xs h)
    frzs := fun a o u h => E'.ext.frzs a o u (E.ext.frzs a o u h)
    dice := fun a d h => E'.ext.dice a d (E.ext.dice a d h)
    tabs := fun P q hT h => E'.ext.tabs P q hT (E.ext.tabs P q hT h) }
  subM := E.subM
  subO := E.subO
  dom := E'.dom
  domM := fun a h => E'.domM a (.inl h)
  dic := E'.dic
  len := E'.len
  slot := fun i s h => by
    obtain ⟨x, q1, q2⟩ := E'.slot i s h
    refine ⟨x, q1, SlotOK.sub (F := rb F σ Γ H) (F' := F) (O := OS (rb F σ Γ H) σ' Γ') (O' := OS F σ' Γ') (mov_anti fun a z => ?_) (fun a z => .inl z) (fun a hs hx q => ?_) rfl (fun a xs _ _ q => q) q2⟩
    · rcases z with z | z | z
      · exact .inl z
      · exact .inr (.inl (.inl z))
      · exact .inr (.inr z)
    · rcases q with ⟨q, n, w⟩ | ⟨ds, z1, z2⟩
      · refine .inl ⟨?_, fun z => n (.inl z), w⟩
        cases hz : F.H0 a with
        | none => rfl
        | some o => exact (E.ext.there a (by rw [hz]; exact fun z => nomatch z) q).elim
      · obtain ⟨y, p1, b, xs, p2, p3, p4, _⟩ := E.slot i _ z1
        rw [z2] at p1; cases p1; cases p2
        exact p4
  bM := E.bM
  tbs := E'.tbs
  apart := E'.apart
/-- a fresh list comes to a slot -/
theorem Env.ownNew (E : DE.Env K mg F H σ Γ) (i : Nat) (hi : i < Γ.length) (hw : F.nw i) {p : Addr} {xs : List V} {ds : List D} (hp : H p = none) (r : Reps K mg (OS F σ Γ) H xs ds) : DE.Env K mg F (upd H p (.lst xs)) (σ.set i (some (V.ref p))) (Γ.set i (.own ds)) := by
  have e : Ext F.Dc F.Dc H (upd H p (.lst xs)) := .new hp
  have E1 := E.mono e
  have nO : ¬ OS F σ Γ p := E.fresh hp
  have back : ∀ a, OS F (σ.set i (some (V.ref p))) (Γ.set i (.own ds)) a → OS F σ Γ a ∨ H a = none := fun a z => by
    rcases z with z | z | ⟨j, es, z1, z2⟩
    · exact .inl (.inl z)
    · exact .inl (.inr (.inl z))
    · by_cases q : j = i
      · subst q
        rw [List.getElem?_set, if_pos rfl, if_pos (by rw [E.len]; exact hi)] at z2
        cases z2
        exact .inr hp
      · rw [List.getElem?_set_ne (Ne.symm q)] at z1 z2
        exact .inl (.inr (.inr ⟨j, es, z1, z2⟩))
  have mv : Mov K mg (OS F σ Γ) (OS F (σ.set i (some (V.ref p))) (Γ.set i (.own ds))) H (upd H p (.lst xs)) := by
    have m1 := mov_fresh (K := K) (mg := mg) (H := H) back
    have m2 := Ext.mov (K := K) (mg := mg) (O := OS F (σ.set i (some (V.ref p))) (Γ.set i (.own ds))) (Ext.new hp : Ext (fun _ => False) (fun _ => False) H (upd H p (.lst xs))) fun _ z => z.elim
    exact ⟨fun q => m2.t (m1.t q), fun q => m2.l (m1.l q), fun q => m2.d (m1.d q)⟩
  exact {
    ext := E1.ext
    subM := E1.subM
    subO := E1.subO
    dom := E1.dom
    domM := E1.domM
    dic := E1.dic
    len := by rw [List.length_set, List.length_set]; exact E.len
    slot := fun j s h => by
      by_cases q : j = i
      · subst q
        rw [List.getElem?_set, if_pos rfl, if_pos hi] at h
        cases h
        refine ⟨_, by rw [List.getElem?_set, if_pos rfl, if_pos (by rw [E.len]; exact hi)], p, xs, rfl, fun z => nO (.inl z), .inl ⟨?_, fun z => nO (.inr (.inl z)), hw⟩, upd_same, r.mov mv⟩
        cases hz : F.H0 p with
        | none => rfl
        | some o => exact (E.ext.there p (by rw [hz]; exact fun z => nomatch z) hp).elim
      · rw [List.getElem?_set_ne (Ne.symm q)] at h ⊢
        obtain ⟨x, q1, q2⟩ := E.slot j s h
        exact ⟨x, q1, q2.sub (F' := F) mv (fun a z => .inl z) (fun a _ _ q => q) rfl fun a ys _ _ q => by rw [upd_ne (ne_of_none q hp)]; exact q⟩
    bM := E.bM
    tbs := E1.tbs
    apart := fun j l es gs a hjl h1 h2 h3 h4 => by
      have isP : ∀ {j : Nat} {es : List D}, (Γ.set i (.own ds))[j]? = some (Slot.own es) → (σ.set i (some (V.ref p)))[j]? = some (some (V.ref a)) → (j = i ∧ a = p) ∨ (j ≠ i ∧ Γ[j]? = some (Slot.own es) ∧ σ[j]? = some (some (V.ref a))) := fun {j es} g1 g2 => by
        by_cases q : j = i
        · subst q
          rw [List.getElem?_set, if_pos rfl, if_pos (by rw [E.len]; exact hi)] at g2
          cases g2
          exact .inl ⟨rfl, rfl⟩
        · rw [List.getElem?_set_ne (Ne.symm q)] at g1 g2
          exact .inr ⟨q, g1, g2⟩
      have old : ∀ {j : Nat} {es : List D}, Γ[j]? = some (Slot.own es) → σ[j]? = some (some (V.ref a)) → a ≠ p := fun {j es} g1 g2 z => nO (.inr (.inr ⟨j, es, g1, z ▸ g2⟩))
      rcases isP h1 h3 with ⟨a1, a2⟩ | ⟨a1, a2, a3⟩
      · rcases isP h2 h4 with ⟨b1, b2⟩ | ⟨b1, b2, b3⟩
        · exact hjl (a1.trans b1.symm)
        · exact old b2 b3 a2
      · rcases isP h2 h4 with ⟨b1, b2⟩ | ⟨b1, b2, b3⟩
        · exact old a2 a3 b2
        · exact E.apart j l es gs a hjl a2 b2 a3 b3 }
/-- our own list is written -/
theorem Env.ownWr (E : DE.Env K mg F H σ Γ) {i : Nat} {ds es : List D} {a : Addr} {xs ys : List V} (hs : Γ[i]? = some (Slot.own ds)) (hv : σ[i]? = some (some (V.ref a))) (ha : H a = some (.lst xs)) (r : Reps K mg (OS F σ Γ) H ys es) : DE.Env K mg F (upd H a (.lst ys)) σ (Γ.set i (.own es)) := by
  have hi : i < Γ.length := (List.getElem?_eq_some_iff.mp hs).1
  obtain ⟨x, p1, b, xs', p2, p3, p4, p5, p6⟩ := E.slot i _ hs
  rw [hv] at p1; cases p1; cases p2
  have sub : ∀ c, OS F σ (Γ.set i (.own es)) c → OS F σ Γ c := fun c z => by
    rcases z with z | z | ⟨j, gs, z1, z2⟩
    · exact .inl z
    · exact .inr (.inl z)
    · by_cases q : j = i
      · subst q; exact .inr (.inr ⟨j, ds, hs, z2⟩)
      · rw [List.getElem?_set_ne (Ne.symm q)] at z1; exact .inr (.inr ⟨j, gs, z1, z2⟩)
  have OA : OS F σ Γ a := .inr (.inr ⟨i, ds, hs, hv⟩)
  have nD : ¬ F.Dc a := fun z => p3 (E.subO a z)
  have e : Ext (fun c => F.Dc c ∨ c = a) F.Dc H (upd H a (.lst ys)) := Ext.wr (.inr rfl) nD ha
  have mv : Mov K mg (OS F σ Γ) (OS F σ (Γ.set i (.own es))) H (upd H a (.lst ys)) := by
    have m1 := mov_wr (K := K) (mg := mg) (ys := ys) ha OA
    have m2 := mov_anti (K := K) (mg := mg) (H := upd H a (.lst ys)) sub
    exact ⟨fun q => m2.t (m1.t q), fun q => m2.l (m1.l q), fun q => m2.d (m1.d q)⟩
  exact {
    ext := {
      keep := fun c o m t h => by
        have h1 := E.ext.keep c o m t h
        have ne : c ≠ a := fun z => by
          subst z
          rcases p4 with ⟨q, _⟩ | q
          · rw [h] at q; cases q
          · exact m (E.bM _ _ q)
        rw [upd_ne ne]; exact h1
      there := fun c h => e.there c (E.ext.there c h)
      tups := fun c o h => e.tups c o (E.ext.tups c o h)
      frzs := fun c o u h => e.frzs c o u (E.ext.frzs c o u h)
      dice := fun c d h => e.dice c d (E.ext.dice c d h)
      tabs := fun P q hT h => e.tabs P q hT (E.ext.tabs P q hT h) }
    subM := E.subM
    subO := E.subO
    dom := fun c h => e.there c (E.dom c h)
    domM := fun c h => e.there c (E.domM c h)
    dic := fun c h => e.dice c h (E.dic c h)
    len := by rw [List.length_set]; exact E.len
    slot := fun j s h => by
      by_cases q : j = i
      · subst q
        rw [List.getElem?_set, if_pos rfl, if_pos hi] at h
        cases h
        exact ⟨_, hv, a, ys, rfl, p3, p4, upd_same, r.mov mv⟩
      · rw [List.getElem?_set_ne (Ne.symm q)] at h
        obtain ⟨x, q1, q2⟩ := E.slot j s h
        refine ⟨x, q1, q2.sub (F' := F) mv (fun a z => .inl z) (fun a _ _ q => q) rfl fun b zs ⟨gs, hsg⟩ hx hb => ?_⟩
        have ne : b ≠ a := fun z => E.apart i j ds gs a (Ne.symm q) hs (hsg ▸ h) hv (by rw [q1, hx, z])
        rw [upd_ne ne]; exact hb
    bM := E.bM
    tbs := E.tbs.ext e
    apart := fun j l gs ks b hjl h1 h2 h3 => by
      have go : ∀ {j : Nat} {gs : List D}, (Γ.set i (.own es))[j]? = some (Slot.own gs) → ∃ gs', Γ[j]? = some (Slot.own gs') := fun {j gs} g => by
        by_cases q : j = i
        · subst q; exact ⟨ds, hs⟩
        · rw [List.getElem?_set_ne (Ne.symm q)] at g; exact ⟨gs, g⟩
      obtain ⟨g1, k1⟩ := go h1
      obtain ⟨g2, k2⟩ := go h2
      exact E.apart j l g1 g2 b hjl k1 k2 h3 }
/-- from now on it is a datum -/
theorem Env.freeze (E : DE.Env K mg F H σ Γ) {i : Nat} {ds : List D} (hs : Γ[i]? = some (Slot.own ds)) (hB : ∀ a, ¬ F.B i a) : DE.Env K mg F H σ (Γ.set i (.dat (.list ds))) := by
  obtain ⟨x, p1, b, xs, p2, p3, p4, p5, p6⟩ := E.slot i _ hs
  subst p2
  have hi : i < Γ.length := (List.getElem?_eq_some_iff.mp hs).1
  have hσ : σ.set i (some (V.ref b)) = σ := by
    apply List.ext_getElem?
    intro j
    by_cases q : j = i
    · subst q
      rw [List.getElem?_set, if_pos rfl, if_pos (by rw [E.len]; exact hi)]; exact p1.symm
    · rw [List.getElem?_set_ne (Ne.symm q)]
  have sub : ∀ c, OS F (σ.set i (some (V.ref b))) (Γ.set i (.dat (.list ds))) c → OS F σ Γ c := fun c z => os_set (fun _ q => by cases q) z
  have nb : ¬ OS F (σ.set i (some (V.ref b))) (Γ.set i (.dat (.list ds))) b := fun z => by
    rcases z with z | z | ⟨j, es, z1, z2⟩
    · exact p3 z
    · exact p4.elim (fun q => q.2.1 z) (hB b)
    · have q : j ≠ i := fun q => by
        subst q
        rw [List.getElem?_set, if_pos rfl, if_pos hi] at z1
        cases z1
      rw [List.getElem?_set_ne (Ne.symm q)] at z1
      rw [hσ] at z2
      exact E.apart i j ds es b (Ne.symm q) hs z1 p1 z2
  have z := E.put i .any (some (V.ref b)) (fun _ q => by cases q) trivial
  rw [hσ] at z sub nb
  exact {
    ext := E.ext
    subM := E.subM
    subO := E.subO
    dom := E.dom
    domM := E.domM
    dic := E.dic
    len := by rw [List.length_set]; exact E.len
    slot := fun j s h => by
      by_cases q : j = i
      · subst q
        rw [List.getElem?_set, if_pos rfl, if_pos hi] at h
        cases h
        exact ⟨_, p1, _, rfl, .lst (.inl ⟨p5, nb⟩) (p6.anti sub)⟩
      · rw [List.getElem?_set_ne (Ne.symm q)] at h
        obtain ⟨y, q1, q2⟩ := E.slot j s h
        exact ⟨y, q1, q2.sub (F' := F) (mov_anti sub) (fun a z => .inl z) (fun a _ _ q => q) rfl fun a xs _ _ q => q⟩
    bM := E.bM
    tbs := E.tbs
    apart := fun j l gs ks c hjl h1 h2 h3 => by
      have go : ∀ {j : Nat} {gs : List D}, (Γ.set i (.dat (.list ds)))[j]? = some (Slot.own gs) → Γ[j]? = some (Slot.own gs) := fun {j gs} g => by
        by_cases q : j = i
        · subst q
          rw [List.getElem?_set, if_pos rfl, if_pos hi] at g
          cases g
        · rw [List.getElem?_set_ne (Ne.symm q)] at g; exact g
      exact E.apart j l gs ks c hjl (go h1) (go h2) h3 }
theorem Env.forget (E : DE.Env K mg F H σ Γ) (i : Nat) : DE.Env K mg F H σ (Γ.set i .any) := by
  by_cases hi : i < σ.length
  · have z := E.drop i σ[i]
    rw [List.set_getElem_self] at z
    exact z
  · have e : Γ.set i .any = Γ := List.set_eq_of_length_le (by rw [← E.len]; omega)
    rw [e]; exact E
theorem Env.forgets (E : DE.Env K mg F H σ Γ) : ∀ vs : List Nat, DE.Env K mg F H σ (wipeG Γ vs)
  | [] => E
  | v :: vs => (Env.forgets E vs).forget v
end
end DE

set_option maxHeartbeats 4000000
namespace DE
open PySem PySem.Spec PyProof.Rows L2
variable [τ : TabCtx]
/-! ### statements -/
inductive Fl (S T : Type) where
  | next (s : S)
  | ret (d : D)
  | brk (t : T)
  | cnt (t : T)
section
variable {M : Type → Type} [SpecM M] {S T U : Type}
def PostS (X : Cx) (W : WX) (F : Frm) (N : S → List Slot) (L : T → List Slot) (Dn : Ends) : Res (Fl S T) → Prop
  | .ok (.next s) => ∀ σ' H', DE.Env X.K X.mg F H' σ' (N s) → Dn.nx σ' H'
  | .ok (.ret d) => ∀ v H', Ext F.M F.Dc F.H0 H' → Rep X.K X.mg (OF F) H' v d → Dn.rt v H'
  | .ok (.brk s) => ∀ σ' H', DE.Env X.K X.mg F H' σ' (L s) → Dn.bk σ' H'
  | .ok (.cnt s) => ∀ σ' H', DE.Env X.K X.mg F H' σ' (L s) → Dn.ct σ' H'
  | .exc ε => ∀ cls dx σ' H', Ext F.M F.Dc F.H0 H' → ExcRep X.K X.mg (OF F) ε cls dx H' → W cls dx σ' H'
  | .bad => False
def JS (X : Cx) (W : WX) (Z : List Nat) (sts : List Stmt) (Γ : List Slot) (m : M (Fl S T)) (N : S → List Slot) (L : T → List Slot) : Prop :=
  ∀ (F : Frm) (H : Hp) (σ : L2.St), (∀ i ∈ Z, (∀ a, ¬ F.B i a) ∧ F.nw i) → DE.Env X.K X.mg F H σ Γ → ∀ Dn : Ends, SpecM.post m (PostS X W F N L Dn) → wpSs X sts Dn σ H
theorem exc_up {K : PySem.W.Frag} {mg : Str → Option Value} {F : Frm} {H : Hp} {σ : L2.St} {Γ : List Slot} {W : WX} {ε : Exc} (E : DE.Env K mg F H σ Γ) (h : ∀ cls dx σ' H', Ext F.M F.Dc F.H0 H' → ExcRep K mg (OF F) ε cls dx H' → W cls dx σ' H') :
    ∀ cls dx H1, Ext F.Dc F.Dc H H1 → ExcRep K mg (OS F σ Γ) ε cls dx H1 → W cls dx σ H1 := fun cls dx H1 e r => h cls dx σ H1 (E.ext.trans (e.wide E.subM)) (r.anti fun a z => z.elim .inl fun z => .inr (.inl z))
section
variable {X : Cx} {W : WX} {Z : List Nat} {Γ : List Slot} {F : Frm} {H : Hp} {σ : L2.St} {N : S → List Slot} {L : T → List Slot} {Dn : Ends}
theorem J.st {α β : Type} {wp : L2.St → Hp → (β → Hp → Prop) → Prop} {Rp : Frm → (Addr → Prop) → Hp → β → α → Prop} {ma : M α} (ja : J X W Γ wp Rp ma) (E : DE.Env X.K X.mg F H σ Γ) {f : α → M (Fl S T)} (h : SpecM.post (SpecM.bind ma f) (PostS X W F N L Dn))
    {Q : β → Hp → Prop} (k : ∀ a b H1, Ext F.Dc F.Dc H H1 → DE.Env X.K X.mg F H1 σ Γ → Rp F (OS F σ Γ) H1 b a → SpecM.post (f a) (PostS X W F N L Dn) → Q b H1) : wp σ H Q := by
  refine ja F H σ E Q (SpecM.mono (fun r hr => ?_) (SpecM.post_bind h))
  cases r with
  | ok a => exact fun b H1 e q => k a b H1 e (E.mono e) q hr
  | exc ε => exact exc_up E hr
  | bad => exact hr
theorem JFR.st {t : TE} {ma : M (List D)} (ja : JFR X W t Γ ma) (E : DE.Env X.K X.mg F H σ Γ) {f : List D → M (Fl S T)} (h : SpecM.post (SpecM.bind ma f) (PostS X W F N L Dn))
    {Q : V → Hp → Prop} (k : ∀ ds p xs H1, Ext F.Dc F.Dc H H1 → DE.Env X.K X.mg F H1 σ Γ → H1 p = none → Reps X.K X.mg (OS F σ Γ) H1 xs ds → SpecM.post (f ds) (PostS X W F N L Dn) → Q (V.ref p) (upd H1 p (.lst xs))) : t σ H Q := by
  refine ja F H σ E Q (SpecM.mono (fun r hr => ?_) (SpecM.post_bind h))
  cases r with
  | ok a => exact fun p xs H1 e hp q => k a p xs H1 e (E.mono e) hp q hr
  | exc ε => exact exc_up E hr
  | bad => exact hr
end
section
variable {X : Cx} {W : WX} {Z : List Nat} {Γ : List Slot} {N : S → List Slot} {L : T → List Slot} {e a b c : Expr} {pos p pos' : Pos} {rest : List Stmt} {me : M D} {mr : D → M (Fl S T)} {x y z : Str}
theorem js_nil (s : S) (vs : List Nat) (hN : N s = wipeG Γ vs := by kernel_rfl) : JS X W Z [] Γ (ok (M := M) (.next s)) N L := fun F H σ hz E Dn hq => by
  refine PSs.wp pss_nil ?_
  have h := SpecM.post_ret hq
  exact h σ H (hN ▸ E.forgets vs)
theorem js_ret (he : JE X W e Γ me) : JS X W Z (.Return (some e) pos :: rest) Γ (bnd me fun d => ok (.ret d)) N L := fun F H σ hz E Dn hq => by
  refine PSs.wp (pss_cons (ps_ret pe_sem) pss_sem) ?_
  refine he.st E hq fun d v H1 e1 E1 r1 h1 => ?_
  exact SpecM.post_ret h1 v H1 E1.ext (r1.anti fun a z => z.elim .inl fun z => .inr (.inl z))
theorem js_retN : JS X W Z (.Return none pos :: rest) Γ (ok (M := M) (.ret .none)) N L := fun F H σ hz E Dn hq => by
  refine PSs.wp (pss_cons ps_retN pss_sem) ?_
  exact SpecM.post_ret hq .non H E.ext .non
theorem js_pass {m : M (Fl S T)} (hr : JS X W Z rest Γ m N L) : JS X W Z (.Pass pos :: rest) Γ m N L := fun F H σ hz E Dn hq => PSs.wp (pss_cons ps_pass pss_sem) (hr F H σ hz E Dn hq)
theorem js_break (t : T) (vs : List Nat) (hN : L t = wipeG Γ vs := by kernel_rfl) : JS X W Z (.Break pos :: rest) Γ (ok (M := M) (.brk t)) N L := fun F H σ hz E Dn hq => by
  refine PSs.wp (pss_cons ps_break pss_sem) ?_
  exact SpecM.post_ret hq σ H (hN ▸ E.forgets vs)
theorem js_continue (t : T) (vs : List Nat) (hN : L t = wipeG Γ vs := by kernel_rfl) : JS X W Z (.Continue pos :: rest) Γ (ok (M := M) (.cnt t)) N L := fun F H σ hz E Dn hq => by
  refine PSs.wp (pss_cons ps_continue pss_sem) ?_
  exact SpecM.post_ret hq σ H (hN ▸ E.forgets vs)
theorem js_expr {m : M (Fl S T)} (he : JE X W e Γ me) (hr : JS X W Z rest Γ m N L) (hs : swapsWith e none pos.line X.env = pure false := by kernel_rfl) : JS X W Z (.Expr e pos :: rest) Γ (bnd me fun _ => m) N L := fun F H σ hz E Dn hq => by
  refine PSs.wp (pss_cons (ps_expr pe_sem hs) pss_sem) ?_
  exact he.st E hq fun d v H1 e1 E1 r1 h1 => hr F H1 σ hz E1 Dn h1
/-- a list of our own is a datum from here on -/
theorem js_freeze (i : Nat) {ds : List D} {m : M (Fl S T)} {sts : List Stmt} (hs : Γ[i]? = some (Slot.own ds) := by rfl) (hi : i ∈ Z) (hr : JS X W Z sts (Γ.set i (.dat (.list ds))) m N L) : JS X W Z sts Γ m N L := fun F H σ hz E Dn hq => hr F H σ hz (E.freeze hs (hz i hi).1) Dn hq
theorem js_forget (i : Nat) {m : M (Fl S T)} {sts : List Stmt} (hr : JS X W Z sts (Γ.set i .any) m N L) : JS X W Z sts Γ m N L := fun F H σ hz E Dn hq => hr F H σ hz (E.forget i) Dn hq
/-- x = e -/
theorem js_set (i : Nat) (he : JE X W e Γ me) (hN : X.N.Nodup) (hi : X.N[i]? = some x := by kernel_rfl) (hx : Loc X.env.scope x) (hr : ∀ d, JS X W Z rest (Γ.set i (.dat d)) (mr d) N L) (hs : swapsWith e (some (.Name x pos')) pos.line X.env = pure false := by kernel_rfl) (hf : X.fn x = true ∨ X.env.scope.names.lookup x = some .local := by exact .inl rfl) :
    JS X W Z (.Assign [.Name x pos'] e pos :: rest) Γ (bnd me mr) N L := fun F H σ hz E Dn hq => by
  refine PSs.wp (pss_cons (ps_set hN hi hx pe_sem hs hf) pss_sem) ?_
  exact he.st E hq fun d v H1 e1 E1 r1 h1 => hr d F H1 _ hz (E1.dat i r1) Dn h1
/-- x = a fresh list, of our own -/
theorem js_own (i : Nat) {ml : M (List D)} {mr : List D → M (Fl S T)} (he : JF X W e Γ ml) (hN : X.N.Nodup) (hi : X.N[i]? = some x := by kernel_rfl) (hx : Loc X.env.scope x) (hl : i < Γ.length := by exact of_decide_eq_true (by kernel_rfl)) (hiZ : i ∈ Z := by decide) (hr : ∀ ds, JS X W Z rest (Γ.set i (.own ds)) (mr ds) N L) (hs : swapsWith e (some (.Name x pos')) pos.line X.env = pure false := by kernel_rfl) (hf : X.fn x = true ∨ X.env.scope.names.lookup x = some .local := by exact .inl rfl) :
    JS X W Z (.Assign [.Name x pos'] e pos :: rest) Γ (bnd ml mr) N L := fun F H σ hz E Dn hq => by
  refine PSs.wp (pss_cons (ps_set hN hi hx pe_sem hs hf) pss_sem) ?_
  exact JFR.st (t := wpE X e) he E hq fun ds p xs H1 e1 E1 hp r1 h1 => hr ds F _ _ hz (E1.ownNew i hl (hz i hiZ).2 hp r1) Dn h1
/-! x = [.. for ..] on one row -/
section
variable {elt tg iter : Expr} {ifs : List Expr} {scope : Scope} {own : List (Str × Nat)} {g : TG} {ml : M (List D)} {py : Pos}
theorem ps_lcR (i : Nat) (hc : X.calm = true) (hN : X.N.Nodup) (hy : X.N[i]? = some x := by kernel_rfl) (hyl : X.env.scope.names.lookup x = some .local := by kernel_rfl) (hsw : swapsWith (.ListComp elt [⟨tg, iter, ifs, 0⟩] scope pos) (some (.Name x py)) pos'.line X.env = pure true := by kernel_rfl) (okb : BlkOk X.N X.env.scope scope own)
    (hg : ∀ (s : Shared) (H : Hp) (C : Addr) (cl : List (Str × Addr)) (fp : List Addr), PG (Blk X s H scope C cl fp) tg g) (hs : ∀ x, foldedSetIterable iter X.env x = pure x := by intro _; rfl) :
    PS X (.Assign [.Name x py] (.ListComp elt [⟨tg, iter, ifs, 0⟩] scope pos) pos') (tAsg (lcT X elt tg iter ifs scope g (own.map (·.2))) (gName i)) :=
  ps_setLc (te := fun σ H Q => ∀ (s : Shared) (H0 : Hp) (C : Addr) (cl : List (Str × Addr)) (fp : List Addr), wpE (Blk X s H0 scope C cl fp) elt σ H Q) hc hN hy hyl hsw pi_sem okb hg
    (fun s H C cl fp => ⟨fun pins s' σ H' Q I h => (h s H C cl fp).run pins s' I⟩) (fun s H C cl fp => ⟨fun pins s' σ H' Q I h => (h s H C cl fp).run pins s' I⟩) hs
theorem js_lcO (i : Nat) {mr : List D → M (Fl S T)} (hc : X.calm = true) (hN : X.N.Nodup) (okb : BlkOk X.N X.env.scope scope own) (hg : ∀ (s : Shared) (H : Hp) (C : Addr) (cl : List (Str × Addr)) (fp : List Addr), PG (Blk X s H scope C cl fp) tg g)
    (rd : JFR X W (lcT X elt tg iter ifs scope g (own.map (·.2))) Γ ml) (hs : ∀ x, foldedSetIterable iter X.env x = pure x := by intro _; rfl) (hy : X.N[i]? = some x := by kernel_rfl) (hyl : X.env.scope.names.lookup x = some .local := by kernel_rfl) (hl : i < Γ.length := by exact of_decide_eq_true (by kernel_rfl)) (hiZ : i ∈ Z := by decide)
    (hr : ∀ ds, JS X W Z rest (Γ.set i (.own ds)) (mr ds) N L) (hsw : swapsWith (.ListComp elt [⟨tg, iter, ifs, 0⟩] scope pos) (some (.Name x py)) pos'.line X.env = pure true := by kernel_rfl) :
    JS X W Z (.Assign [.Name x py] (.ListComp elt [⟨tg, iter, ifs, 0⟩] scope pos) pos' :: rest) Γ (bnd ml mr) N L := fun F H σ hz E Dn hq => by
  refine PSs.wp (pss_cons (ps_lcR i hc hN hy hyl hsw okb hg hs) pss_sem) ?_
  exact JFR.st (Q := fun v H1 => wpSs X rest Dn (σ.set i (some v)) H1) rd E hq fun ds p xs H1 e1 E1 hp r1 h1 => hr ds F _ _ hz (E1.ownNew i hl (hz i hiZ).2 hp r1) Dn h1
theorem js_lcD (i : Nat) {mr : List D → M (Fl S T)} (hc : X.calm = true) (hN : X.N.Nodup) (okb : BlkOk X.N X.env.scope scope own) (hg : ∀ (s : Shared) (H : Hp) (C : Addr) (cl : List (Str × Addr)) (fp : List Addr), PG (Blk X s H scope C cl fp) tg g)
    (rd : JFR X W (lcT X elt tg iter ifs scope g (own.map (·.2))) Γ ml) (hs : ∀ x, foldedSetIterable iter X.env x = pure x := by intro _; rfl) (hy : X.N[i]? = some x := by kernel_rfl) (hyl : X.env.scope.names.lookup x = some .local := by kernel_rfl)
    (hr : ∀ ds, JS X W Z rest (Γ.set i (.dat (.list ds))) (mr ds) N L) (hsw : swapsWith (.ListComp elt [⟨tg, iter, ifs, 0⟩] scope pos) (some (.Name x py)) pos'.line X.env = pure true := by kernel_rfl) :
    JS X W Z (.Assign [.Name x py] (.ListComp elt [⟨tg, iter, ifs, 0⟩] scope pos) pos' :: rest) Γ (bnd ml mr) N L := fun F H σ hz E Dn hq => by
  refine PSs.wp (pss_cons (ps_lcR i hc hN hy hyl hsw okb hg hs) pss_sem) ?_
  refine JFR.st (Q := fun v H1 => wpSs X rest Dn (σ.set i (some v)) H1) rd E hq fun ds p xs H1 e1 E1 hp r1 h1 => ?_
  have e2 : Ext F.Dc F.Dc H1 (upd H1 p (.lst xs)) := .new hp
  exact hr ds F _ _ hz ((E1.mono e2).dat i (.lst (.inl ⟨upd_same, E1.fresh hp⟩) (r1.ext e2 fun a z => E.xk a z))) Dn h1
end
/-- x.append(e), x.extend(e), x a list of our own -/
theorem js_app (i : Nat) {ds : List D} (hs : Γ[i]? = some (Slot.own ds) := by rfl) (he : JE X W e Γ me) (hN : X.N[i]? = some x := by kernel_rfl) (hv : Vis X.env.scope x) (hd : (x == ("__debug__" : Str)) = false := by kernel_rfl) (hcd : (x == ("__classdict__" : Str)) = false := by kernel_rfl) {apos cpos p1 : Pos}
    (hps : ∀ t ta, PE X (.Name x p1) t → PE X e ta → PE X (.Call (.Attribute (.Name x p1) "append" apos) [e] [] cpos) (tBM X.K "list" rAppend t (tCons ta tNil)))
    (hsw : swapsWith (.Call (.Attribute (.Name x p1) "append" apos) [e] [] cpos) none pos.line X.env = pure false := by kernel_rfl)
    (hr : ∀ d, JS X W Z rest (Γ.set i (.own (ds ++ [d]))) (mr d) N L) :
    JS X W Z (.Expr (.Call (.Attribute (.Name x p1) "append" apos) [e] [] cpos) pos :: rest) Γ (bnd me fun d => bnd (op (if ds.length < maxL then some () else none)) fun _ => mr d) N L := fun F H σ hz E Dn hq => by
  refine PSs.wp (pss_cons (ps_expr (hps _ _ (pe_var hN hv hd hcd) pe_sem) hsw) pss_sem) ?_
  obtain ⟨y, h1, a, xs, h2, h3, h4, h5, h6⟩ := E.slot i _ hs
  subst h2
  refine ⟨_, h1, .inl ⟨rfl, _, .inl (.inl h5)⟩, ?_⟩
  refine he.st E hq fun d v H1 e1 E1 r1 g1 => ?_
  have g2 := SpecM.post_ret (SpecM.post_bind g1)
  have h5' : H1 a = some (.lst xs) := e1.keep _ _ (fun z => h3 (E.subO a z)) (fun _ z => nomatch z) h5
  have h6' := h6.ext e1 fun a z => E.xk a z
  by_cases hl : ds.length < maxL
  · rw [if_pos hl] at g2
    refine ⟨a, xs, v, rfl, rfl, h5', by rw [h6.length, ← maxL_eq]; exact hl, ?_⟩
    exact hr d F _ _ hz (E1.ownWr hs h1 h5' (h6'.append (.cons r1 .nil))) Dn g2
  · rw [if_neg hl] at g2
    exact g2.elim
def listO : D → Option (List D)
  | .list xs => some xs
  | _ => none
theorem js_ext (i : Nat) {ds : List D} {mr : List D → M (Fl S T)} (hs : Γ[i]? = some (Slot.own ds) := by rfl) (he : JE X W e Γ me) (hN : X.N[i]? = some x := by kernel_rfl) (hv : Vis X.env.scope x) (hd : (x == ("__debug__" : Str)) = false := by kernel_rfl) (hcd : (x == ("__classdict__" : Str)) = false := by kernel_rfl) {apos cpos p1 : Pos}
    (hps : ∀ t ta, PE X (.Name x p1) t → PE X e ta → PE X (.Call (.Attribute (.Name x p1) "extend" apos) [e] [] cpos) (tBM X.K "list" rExtend t (tCons ta tNil)))
    (hsw : swapsWith (.Call (.Attribute (.Name x p1) "extend" apos) [e] [] cpos) none pos.line X.env = pure false := by kernel_rfl)
    (hr : ∀ es, JS X W Z rest (Γ.set i (.own (ds ++ es))) (mr es) N L) :
    JS X W Z (.Expr (.Call (.Attribute (.Name x p1) "extend" apos) [e] [] cpos) pos :: rest) Γ (bnd me fun d => bnd (op ((listO d).bind fun es => if ds.length + es.length ≤ maxL then some es else none)) mr) N L := fun F H σ hz E Dn hq => by
  refine PSs.wp (pss_cons (ps_expr (hps _ _ (pe_var hN hv hd hcd) pe_sem) hsw) pss_sem) ?_
  obtain ⟨y, h1, a, xs, h2, h3, h4, h5, h6⟩ := E.slot i _ hs
  subst h2
  refine ⟨_, h1, .inl ⟨rfl, _, .inl (.inl h5)⟩, ?_⟩
  refine he.st E hq fun d v H1 e1 E1 r1 g1 => ?_
  have g2 := SpecM.post_ret (SpecM.post_bind g1)
  have h5' : H1 a = some (.lst xs) := e1.keep _ _ (fun z => h3 (E.subO a z)) (fun _ z => nomatch z) h5
  have h6' := h6.ext e1 fun a z => E.xk a z
  cases d <;> first | exact g2.elim | skip
  rename_i es
  obtain ⟨c, us, rfl, k1, k2⟩ := r1.list
  by_cases hl : ds.length + es.length ≤ maxL
  · simp only [listO, Option.bind, if_pos hl] at g2
    refine ⟨a, c, xs, us, rfl, rfl, h5', k1.tr.1, by rw [h6.length, k2.length, ← maxL_eq]; exact hl, ?_⟩
    exact hr es F _ _ hz (E1.ownWr hs h1 h5' (h6'.append k2)) Dn g2
  · simp only [listO, Option.bind, if_neg hl] at g2
    exact g2.elim
/-- a, b = e -/
theorem js_un2 (i j : Nat) {mr : D → D → M (Fl S T)} {p1 p2 tp : Pos} {kk : Nat} (hc : X.calm = true) (he : JE X W e Γ me) (hg1 : PG X (.Name x p1) (gName i)) (hg2 : PG X (.Name y p2) (gName j))
    (hr : ∀ d f, JS X W Z rest ((Γ.set i (.dat d)).set j (.dat f)) (mr d f) N L) (hs : swapsWithSole [.Tuple [.Name x p1, .Name y p2] kk tp] e pos.line X.env = pure false := by kernel_rfl) (hw : swappedStores [.Tuple [.Name x p1, .Name y p2] kk tp] e X.env = pure none := by kernel_rfl) :
    JS X W Z (.Assign [.Tuple [.Name x p1, .Name y p2] kk tp] e pos :: rest) Γ (bnd me (on2 mr)) N L := fun F H σ hz E Dn hq => by
  refine PSs.wp (pss_cons (ps_asg pe_sem (pg_tup hc (pgs_cons hg1 (pgs_cons hg2 pgs_nil))) hs hw) pss_sem) ?_
  refine he.st E hq fun d v H1 e1 E1 r1 g1 => ?_
  unfold on2 at g1
  split at g1
  · obtain ⟨c, xs, rfl, k1, k2⟩ := r1.tuple
    obtain ⟨u, q1, rfl, k3, k4⟩ := k2.cons_of
    obtain ⟨w, q2, rfl, k5, k6⟩ := k4.cons_of
    rw [k6.nil_of] at k1
    have E2 := E1.dat i k3
    exact ⟨c, _, rfl, k1, rfl, u, _, rfl, w, _, rfl, rfl, hr _ _ F _ _ hz (E2.dat j (k5.anti fun a z => os_set (fun _ q => by cases q) z)) Dn g1⟩
  · exact (SpecM.post_ret g1).elim
theorem js_un3 (i j l : Nat) {mr : D → D → D → M (Fl S T)} {p1 p2 p3 tp : Pos} {kk : Nat} (hc : X.calm = true) (he : JE X W e Γ me) (hg1 : PG X (.Name x p1) (gName i)) (hg2 : PG X (.Name y p2) (gName j)) (hg3 : PG X (.Name z p3) (gName l))
    (hr : ∀ d f g, JS X W Z rest (((Γ.set i (.dat d)).set j (.dat f)).set l (.dat g)) (mr d f g) N L) (hs : swapsWithSole [.Tuple [.Name x p1, .Name y p2, .Name z p3] kk tp] e pos.line X.env = pure false := by kernel_rfl) (hw : swappedStores [.Tuple [.Name x p1, .Name y p2, .Name z p3] kk tp] e X.env = pure none := by kernel_rfl) :
    JS X W Z (.Assign [.Tuple [.Name x p1, .Name y p2, .Name z p3] kk tp] e pos :: rest) Γ (bnd me (on3 mr)) N L := fun F H σ hz E Dn hq => by
  refine PSs.wp (pss_cons (ps_asg pe_sem (pg_tup hc (pgs_cons hg1 (pgs_cons hg2 (pgs_cons hg3 pgs_nil)))) hs hw) pss_sem) ?_
  refine he.st E hq fun d v H1 e1 E1 r1 g1 => ?_
  unfold on3 at g1
  split at g1
  · obtain ⟨c, xs, rfl, k1, k2⟩ := r1.tuple
    obtain ⟨u, q1, rfl, k3, k4⟩ := k2.cons_of
    obtain ⟨w, q2, rfl, k5, k6⟩ := k4.cons_of
    obtain ⟨y, q3, rfl, k7, k8⟩ := k6.cons_of
    rw [k8.nil_of] at k1
    have E2 := E1.dat i k3
    have E3 := E2.dat j (k5.anti fun a z => os_set (fun _ q => by cases q) z)
    exact ⟨c, _, rfl, k1, rfl, u, _, rfl, w, _, rfl, y, _, rfl, rfl, hr _ _ _ F _ _ hz (E3.dat l (k7.anti fun a z => os_set (fun _ q => by cases q) (os_set (fun _ q => by cases q) z))) Dn g1⟩
  · exact (SpecM.post_ret g1).elim
/-- if -/
def bndF (m : M (Fl U T)) (k : U → M (Fl S T)) : M (Fl S T) := bnd m fun r => match r with
  | .next s => k s
  | .ret d => ok (.ret d)
  | .brk t => ok (.brk t)
  | .cnt t => ok (.cnt t)
theorem js_if {sa sb : List Stmt} {mc : M Bool} {ma mb : M (Fl U T)} {mr : U → M (Fl S T)} {N1 : U → List Slot} (hc : JT X W c Γ mc) (ha : JS X W Z sa Γ ma N1 L) (hb : JS X W Z sb Γ mb N1 L) (hr : ∀ u, JS X W Z rest (N1 u) (mr u) N L) :
    JS X W Z (.If c sa sb pos :: rest) Γ (bnd mc fun t => bndF (match t with | true => ma | false => mb) mr) N L := fun F H σ hz E Dn hq => by
  refine PSs.wp (pss_cons (ps_if pt_sem pss_sem pss_sem) pss_sem) ?_
  refine hc.st E hq fun t t' H1 e1 E1 r1 g1 => ?_
  subst r1
  have g2 := SpecM.post_bind g1
  have go : ∀ r, thenK (fun a k => SpecM.post (match a with | Fl.next s => mr s | Fl.ret d => ok (.ret d) | Fl.brk t => ok (.brk t) | Fl.cnt t => ok (.cnt t)) k) (PostS X W F N L Dn) r → PostS X W F N1 L { Dn with nx := fun σ H => wpSs X rest Dn σ H } r := fun r hr2 => by
    cases r with
    | ok f =>
      cases f with
      | next s => exact fun σ' H' E' => hr s F H' σ' hz E' Dn hr2
      | ret d =>
        have q : PostS X W F N L Dn (.ok (.ret d)) := SpecM.post_ret (show SpecM.post (ok (M := M) (Fl.ret d)) (PostS X W F N L Dn) from hr2)
        exact q
      | brk t =>
        have q : PostS X W F N L Dn (.ok (.brk t)) := SpecM.post_ret (show SpecM.post (ok (M := M) (Fl.brk t)) (PostS X W F N L Dn) from hr2)
        exact q
      | cnt t =>
        have q : PostS X W F N L Dn (.ok (.cnt t)) := SpecM.post_ret (show SpecM.post (ok (M := M) (Fl.cnt t)) (PostS X W F N L Dn) from hr2)
        exact q
    | exc e => exact hr2
    | bad => exact hr2
  cases t' with
  | true => exact iteT (ha F H1 σ hz E1 _ (SpecM.mono go g2))
  | false => exact iteF (hb F H1 σ hz E1 _ (SpecM.mono go g2))
end
end
end DE

set_option maxHeartbeats 4000000
namespace DE
open PySem PySem.Spec PyProof.Rows L2
variable [τ : TabCtx]
section
variable {M : Type → Type} [SpecM M] {S T U : Type}
def loopM (f : U → D → M (Fl U U)) : List D → U → M (Fl U U)
  | [], s => ok (.next s)
  | d :: ds, s => bnd (f s d) fun r => match r with
    | .next s' => loopM f ds s'
    | .cnt s' => loopM f ds s'
    | .brk s' => ok (.next s')
    | .ret d => ok (.ret d)
/-- behind a loop -/
def endK (k : U → M (Fl S T)) : Fl U U → M (Fl S T)
  | .next s => k s
  | .brk s => k s
  | .cnt s => k s
  | .ret d => ok (.ret d)
def endL (m : M (Fl U U)) (k : U → M (Fl S T)) : M (Fl S T) := bnd m (endK k)
theorem Env.extOut {K : PySem.W.Frag} {mg : Str → Option Value} {F : Frm} {H H1 : Hp} {σ : L2.St} {Γ : List Slot} (E : DE.Env K mg F H σ Γ) (e : Ext (rb F σ Γ H).M F.Dc H H1) : Ext F.M F.Dc F.H0 H1 where
  keep := fun a o m t h => by
    refine e.keep a o (fun z => ?_) t (E.ext.keep a o m t h)
    rcases z with z | ⟨i, ds, z1, z2⟩
    · exact m z
    · obtain ⟨x, q1, b, xs, q2, q3, q4, q5, q6⟩ := E.slot i _ z1
      rw [z2] at q1; cases q1; cases q2
      rcases q4 with ⟨q4, _⟩ | q4
      · rw [h] at q4; cases q4
      · exact m (E.bM _ _ q4)
  there := fun a h => e.there a (E.ext.there a h)
  tups := fun a xs h => e.tups a xs (E.ext.tups a xs h)
  frzs := fun a o u h => e.frzs a o u (E.ext.frzs a o u h)
  dice := fun a d h => e.dice a d (E.ext.dice a d h)
  tabs := fun P q hT h => e.tabs P q hT (E.ext.tabs P q hT h)
theorem rb_free {F : Frm} {σ : L2.St} {Γ : List Slot} {H : Hp} {Z Z0 : List Nat} (hz : ∀ i ∈ Z0, (∀ a, ¬ F.B i a) ∧ F.nw i) (hs : Z.all (Z0.contains ·) = true) (h : noOwn Γ Z = true) : ∀ i ∈ Z, (∀ a, ¬ (rb F σ Γ H).B i a) ∧ (rb F σ Γ H).nw i := fun i hi => by
  refine ⟨fun a ⟨ds, h1, h2⟩ => ?_, (hz i ?_).2⟩
  · have z := List.all_eq_true.mp h i hi
    rw [h1] at z
    cases z
  · have q := List.all_eq_true.mp hs i hi
    simpa using q
section
variable {X : Cx} {W : WX} {Z Z' : List Nat} {Γ : List Slot} {N : S → List Slot} {L : T → List Slot} {I : U → List Slot} {c tg iter : Expr} {pos : Pos} {rest body : List Stmt} {mi : M (List D)} {mr : U → M (Fl S T)} {g : TG}
theorem js_for (s0 : U) (vs : List Nat) {f : U → D → M (Fl U U)} {bt : U → D → Option (List Slot)} (hp : PassesOwn (model X.prog X.w) X.A X.env X.xe) (hc : X.calm = true) (hi : JI X W tg iter Γ mi) (hg : PG X tg g) (hI : I s0 = wipeG Γ vs := by kernel_rfl) (hZ : noOwn (wipeG Γ vs) Z' = true := by kernel_rfl) (hZZ : Z'.all (Z.contains ·) = true := by kernel_rfl)
    (ht : ∀ s, Tgt X g (I s) (bt s)) (hbad : ∀ s d, bt s d = none → f s d = SpecM.ret .bad) (hb : ∀ s d Γ', bt s d = some Γ' → JS X W Z' body Γ' (f s d) I I) (hr : ∀ s, JS X W Z rest (I s) (mr s) N L) (hs : ∀ x, foldedSetIterable iter X.env x = pure x := by intro _; rfl) :
    JS X W Z (.For tg iter body [] pos :: rest) Γ (bnd mi fun ds => endL (loopM f ds s0) mr) N L := fun F H σ hz E Dn hq => by
  refine PSs.wp (pss_cons (ps_for hp hc pi_sem hg pss_sem hs) pss_sem) ?_
  refine J.st (Q := fun J H1 => _) hi E hq fun ds J H1 e1 E1 y1 h1 => ?_
  have EI : DE.Env X.K X.mg F H1 σ (I s0) := hI ▸ E1.forgets vs
  have sub0 : ∀ a, OS F σ (I s0) a → OS F σ Γ a := fun a z => by
    rw [hI] at z
    have go : ∀ vs : List Nat, OS F σ (wipeG Γ vs) a → OS F σ Γ a := by
      intro vs
      induction vs with
      | nil => exact id
      | cons v vs ih =>
        intro z
        refine ih ?_
        rcases z with z | z | ⟨j, es, z1, z2⟩
        · exact .inl z
        · exact .inr (.inl z)
        · rw [wipeG] at z1
          by_cases q : j = v
          · subst q
            rw [List.getElem?_set, if_pos rfl] at z1
            split at z1 <;> cases z1
          · rw [List.getElem?_set_ne (Ne.symm q)] at z1
            exact .inr (.inr ⟨j, es, z1, z2⟩)
    exact go vs z
  have h2 := SpecM.post_bind h1
  refine ⟨fun i m σ' H' => m = ds.length - i ∧ i ≤ ds.length ∧ ∃ s, DE.Env X.K X.mg (rb F σ (I s0) H1) H' σ' (I s) ∧ SpecM.post (loopM f (ds.drop i) s) (thenK (fun a kk => SpecM.post (endK mr a) kk) (PostS X W F N L Dn)),
    ⟨ds.length, by simp, Nat.zero_le _, s0, EI.rebase, h2⟩, ?_⟩
  rintro i m σ' H' ⟨rfl, hil, s, Es, hs2⟩
  have mN : ∀ a, (rb F σ (I s0) H1).M a → OS F σ Γ a := fun a z => by
    rcases z with z | z
    · exact .inr (.inl z)
    · exact sub0 a (.inr (.inr z))
  by_cases hlt : i < ds.length
  · refine .inr ?_
    have hd : ds[i]? = some ds[i] := List.getElem?_eq_getElem hlt
    rw [List.drop_eq_getElem_cons hlt] at hs2
    obtain ⟨d, hdd⟩ : ∃ d, d = ds[i] := ⟨_, rfl⟩
    rw [← hdd] at hd hs2
    have hp2 := SpecM.post_bind hs2
    have src := y1.go (rb F σ (I s0) H1).M (fun a => OS F σ Γ a ∨ OS (rb F σ (I s0) H1) σ' (I s) a) i H' d mN (fun a z => .inl z) (fun a z => by
      rcases z with z | z | z | ⟨j, es, z1, z2⟩
      · exact .inl z
      · exact .inl (.inl z)
      · exact .inl (mN a z)
      · obtain ⟨x, q1, b, xs, q2, q3, q4, _⟩ := Es.slot j _ z1
        rw [z2] at q1; cases q1; cases q2
        rcases q4 with ⟨q4, _⟩ | ⟨gs, q5, q6⟩
        · exact .inr q4
        · exact .inl (sub0 a (.inr (.inr ⟨j, gs, q5, q6⟩)))) Es.ext hd
    refine ⟨src.1, fun σ' H' => ∃ s, DE.Env X.K X.mg (rb F σ (I s0) H1) H' σ' (I s) ∧ SpecM.post (loopM f (ds.drop (i + 1)) s) (thenK (fun a kk => SpecM.post (endK mr a) kk) (PostS X W F N L Dn)),
      fun σ' H' q => ⟨ds.length - (i + 1), by omega, rfl, hlt, q⟩, fun x H'' yl => ?_⟩
    obtain ⟨e3, rx⟩ := src.2 x H'' yl
    have E3 := Es.mono (show Ext (rb F σ (I s0) H1).Dc (rb F σ (I s0) H1).Dc H' H'' from e3)
    cases hb2 : bt s d with
    | none =>
      rw [hbad s d hb2] at hp2
      exact (SpecM.post_ret hp2).elim
    | some Γ' =>
      refine ht s _ H'' σ' x d Γ' E3 (rx.anti fun a z => .inr z) hb2 _ fun σ2 E4 _ => ?_
      refine hb s d Γ' hb2 _ H'' σ2 (rb_free hz hZZ (by rw [hI]; exact hZ)) E4 _ (SpecM.mono (fun r hr2 => ?_) hp2)
      have leave : ∀ s', SpecM.post (mr s') (PostS X W F N L Dn) → ∀ σ' H', DE.Env X.K X.mg (rb F σ (I s0) H1) H' σ' (I s') → wpSs X rest Dn σ' H' := fun s' q σ' H' E' => hr s' F H' σ' hz (EI.unbase E') Dn q
      cases r with
      | bad => exact hr2
      | exc ε => exact fun cls dx σ' H' e r => hr2 cls dx σ' H' (EI.extOut e) (r.anti fun a z => z.elim .inl fun z => .inr (.inl z))
      | ok fl =>
        cases fl with
        | next s' => exact fun σ' H' E' => ⟨s', E', hr2⟩
        | cnt s' => exact fun σ' H' E' => ⟨s', E', hr2⟩
        | brk s' => exact fun σ' H' E' => leave s' (SpecM.post_ret hr2) σ' H' E'
        | ret d =>
          have q : PostS X W F N L Dn (.ok (.ret d)) := SpecM.post_ret (show SpecM.post (ok (M := M) (Fl.ret d)) (PostS X W F N L Dn) from SpecM.post_ret hr2)
          exact fun v H' e r => q v H' (EI.extOut e) (r.anti fun a z => z.elim .inl fun z => .inr (.inl z))
  · have en : i = ds.length := by omega
    subst en
    refine .inl ⟨y1.stop _ H' mN Es.ext, ?_⟩
    rw [List.drop_length] at hs2
    have q : SpecM.post (mr s) (PostS X W F N L Dn) := SpecM.post_ret hs2
    exact hr s F H' σ' hz (EI.unbase Es) Dn q
def whileM (c : U → M Bool) (f : U → M (Fl U U)) : Nat → U → M (Fl U U)
  | 0, _ => SpecM.ret .bad
  | n + 1, s => bnd (c s) fun b => match b with
    | false => ok (.next s)
    | true => bnd (f s) fun r => match r with
      | .next s' => whileM c f n s'
      | .cnt s' => whileM c f n s'
      | .brk s' => ok (.next s')
      | .ret d => ok (.ret d)
theorem js_while (n : Nat) (s0 : U) (vs : List Nat) {cm : U → M Bool} {f : U → M (Fl U U)} (hp : PassesOwn (model X.prog X.w) X.A X.env X.xe) (hI : I s0 = wipeG Γ vs := by kernel_rfl) (hZ : noOwn (wipeG Γ vs) Z' = true := by kernel_rfl) (hZZ : Z'.all (Z.contains ·) = true := by kernel_rfl) (hc : ∀ s, JT X W c (I s) (cm s)) (hb : ∀ s, JS X W Z' body (I s) (f s) I I) (hr : ∀ s, JS X W Z rest (I s) (mr s) N L) :
    JS X W Z (.While c body [] pos :: rest) Γ (endL (whileM cm f n s0) mr) N L := fun F H σ hz E Dn hq => by
  refine PSs.wp (pss_cons (ps_while hp pt_sem pss_sem) pss_sem) ?_
  have EI : DE.Env X.K X.mg F H σ (I s0) := hI ▸ E.forgets vs
  have h2 := SpecM.post_bind hq
  have leave : ∀ s', SpecM.post (mr s') (PostS X W F N L Dn) → ∀ σ' H', DE.Env X.K X.mg (rb F σ (I s0) H) H' σ' (I s') → wpSs X rest Dn σ' H' := fun s' q σ' H' E' => hr s' F H' σ' hz (EI.unbase E') Dn q
  refine ⟨fun m σ' H' => ∃ s, DE.Env X.K X.mg (rb F σ (I s0) H) H' σ' (I s) ∧ SpecM.post (whileM cm f m s) (thenK (fun a kk => SpecM.post (endK mr a) kk) (PostS X W F N L Dn)), ⟨n, s0, EI.rebase, h2⟩, ?_⟩
  rintro m σ' H' ⟨s, Es, hs2⟩
  cases m with
  | zero => exact (SpecM.post_ret hs2).elim
  | succ m =>
    refine (hc s) _ H' σ' Es _ (SpecM.mono (fun r hr2 => ?_) (SpecM.post_bind hs2))
    cases r with
    | bad => exact hr2
    | exc ε =>
      have hr3 : ∀ cls dx σ' H', Ext F.M F.Dc F.H0 H' → ExcRep X.K X.mg (OF F) ε cls dx H' → W cls dx σ' H' := hr2
      exact fun cls dx H1 e r => hr3 cls dx σ' H1 (EI.extOut (Es.ext.trans (e.wide Es.subM))) (r.anti fun a z => by
        rcases z with z | z
        · exact .inl z
        · exact .inr (.inl (.inl z)))
    | ok b =>
      intro b' H1 e1 hb'
      subst hb'
      have E1 := Es.mono e1
      cases b' with
      | false => exact iteF (leave s (SpecM.post_ret hr2) σ' H1 E1)
      | true =>
        refine iteT ⟨fun σ' H' => ∃ s, DE.Env X.K X.mg (rb F σ (I s0) H) H' σ' (I s) ∧ SpecM.post (whileM cm f m s) (thenK (fun a kk => SpecM.post (endK mr a) kk) (PostS X W F N L Dn)), fun σ' H' q => ⟨m, Nat.lt_succ_self m, q⟩, ?_⟩
        refine hb s _ H1 σ' (rb_free hz hZZ (by rw [hI]; exact hZ)) E1 _ (SpecM.mono (fun r hr3 => ?_) (SpecM.post_bind hr2))
        cases r with
        | bad => exact hr3
        | exc ε => exact fun cls dx σ' H' e r => hr3 cls dx σ' H' (EI.extOut e) (r.anti fun a z => z.elim .inl fun z => .inr (.inl z))
        | ok fl =>
          cases fl with
          | next s' => exact fun σ' H' E' => ⟨s', E', hr3⟩
          | cnt s' => exact fun σ' H' E' => ⟨s', E', hr3⟩
          | brk s' => exact fun σ' H' E' => leave s' (SpecM.post_ret hr3) σ' H' E'
          | ret d =>
            have q : PostS X W F N L Dn (.ok (.ret d)) := SpecM.post_ret (show SpecM.post (ok (M := M) (Fl.ret d)) (PostS X W F N L Dn) from SpecM.post_ret hr3)
            exact fun v H' e r => q v H' (EI.extOut e) (r.anti fun a z => z.elim .inl fun z => .inr (.inl z))
end
end
end DE

set_option maxHeartbeats 4000000
namespace DE
open PySem PySem.Spec PyProof.Rows L2
variable [τ : TabCtx]
/-! ### a def -/
def runF {M : Type → Type} [SpecM M] {T : Type} (m : M (Fl Unit T)) : M D := bnd m fun r => match r with
  | .next _ => ok .none
  | .ret d => ok d
  | _ => SpecM.ret .bad
section
variable {P : Program} {w : World} {K : PySem.W.Frag} {mg : Str → Option Value} {base : Heap}
abbrev Wd (E : XK) : WX := fun cls d _ H => E cls d H
abbrev Xd (P : Program) (w : World) (K : PySem.W.Frag) (mg : Str → Option Value) (base : Heap) (N : List Str) (qual : Str) (st : Stmt) (f : Addr) (cdv : Value) (A : Around) (outer : List PySem.Env) (s : Shared) (H : Hp) (E : XK) : Cx :=
  cxOf (L2.CX P w) P w K mg base N qual (defScope st) f cdv A outer s H E
theorem env_start {O M Dc : Addr → Prop} {H : Hp} {vs : List V} {ds : List D} {n : Nat} (tb : TabsOK H) (od : ∀ a, O a → H a ≠ none) (md : ∀ a, M a → H a ≠ none) (dm : ∀ a, Dc a → M a) (mo : ∀ a, M a → O a) (dh : ∀ a, Dc a → DiceAt H a) (r : Reps K mg O H vs ds) {pre : List V} {preG : List Slot} (hpl : pre.length = preG.length) (hpre : ∀ (i : Nat) (s : Slot), preG[i]? = some s → s = Slot.dice ∧ ∃ a, pre[i]? = some (V.ref a) ∧ Dc a) :
    DE.Env K mg ⟨M, Dc, O, H, fun _ _ => False, fun _ => True⟩ H ((pre ++ vs).map some ++ List.replicate n none) (preG ++ ds.map Slot.dat ++ List.replicate n .any) where
  ext := .refl
  subM := dm
  subO := fun a h => mo a (dm a h)
  dom := od
  domM := md
  dic := dh
  len := by simp [hpl, r.length]
  slot := fun i s h => by
    have noOwnG : ∀ (j : Nat) (es : List D), (preG ++ ds.map Slot.dat ++ List.replicate n .any)[j]? ≠ some (Slot.own es) := fun j es z => by
      have m := List.mem_of_getElem? z
      simp only [List.mem_append, List.mem_map, List.mem_replicate] at m
      rcases m with (m | ⟨d, _, m⟩) | ⟨_, m⟩
      · obtain ⟨k, hk⟩ := List.getElem?_of_mem m
        cases (hpre k _ hk).1
      · cases m
      · cases m
    have low : ∀ {v : V} {d : D}, Rep K mg O H v d → Rep K mg (OS ⟨M, Dc, O, H, fun _ _ => False, fun _ => True⟩ ((pre ++ vs).map some ++ List.replicate n none) (preG ++ ds.map Slot.dat ++ List.replicate n .any)) H v d := fun q => q.anti fun a z => by
      rcases z with z | z | ⟨j, es, z1, _⟩
      · exact z
      · exact mo a z
      · exact (noOwnG j es z1).elim
    by_cases h1 : i < preG.length
    · rw [List.append_assoc, List.getElem?_append_left h1] at h
      obtain ⟨rfl, a, h2, h3⟩ := hpre i s h
      refine ⟨some (V.ref a), ?_, a, rfl, h3⟩
      rw [List.getElem?_append_left (by simp; omega), List.getElem?_map, List.getElem?_append_left (by omega), h2]; rfl
    · by_cases h2 : i < preG.length + ds.length
      · rw [List.getElem?_append_left (by simp; omega), List.getElem?_append_right (by omega), List.getElem?_map] at h
        cases q : ds[i - preG.length]? with
        | none => rw [q] at h; cases h
        | some d =>
          rw [q] at h
          cases h
          obtain ⟨v, h3, h4⟩ := r.get q
          refine ⟨some v, ?_, v, rfl, low h4⟩
          have l := r.length
          rw [List.getElem?_append_left (by simp; omega), List.getElem?_map, List.getElem?_append_right (by omega), hpl, h3]; rfl
      · have hl := (List.getElem?_eq_some_iff.mp h).1
        simp only [List.length_append, List.length_map, List.length_replicate] at hl
        rw [List.getElem?_append_right (by simp; omega)] at h
        rw [List.getElem?_replicate] at h
        split at h
        · cases h
          have l := r.length
          refine ⟨none, ?_, trivial⟩
          rw [List.getElem?_append_right (by simp; omega), List.getElem?_replicate, if_pos (by simp; omega)]
        · cases h
  bM := fun _ _ z => z.elim
  tbs := tb
  apart := fun i j es gs a _ h1 => by
    have m := List.mem_of_getElem? h1
    simp only [List.mem_append, List.mem_map, List.mem_replicate] at m
    rcases m with (m | ⟨d, _, m⟩) | ⟨_, m⟩
    · obtain ⟨k, hk⟩ := List.getElem?_of_mem m
      cases (hpre k _ hk).1
    · cases m
    · cases m
theorem fn_pure {x qual : Str} {st : Stmt} {f : Addr} {fd : FuncData} {N ps : List Str} {k n : Nat} {m : List D → Res D} (Fn : Fun K x qual st f fd) (S : FnScope N ps (defScope st)) (hps : ps.length = n) (Z : List Nat)
    (hbad : ∀ ds, ds.length ≠ n → m ds = .bad)
    (hbody : ∀ (cdv : Value) (A : Around) (outer : List PySem.Env) (s : Shared) (H : Hp) (E : XK), Room k (Xd P w K mg base N qual st f cdv A outer s H E).A → ∀ ds, ds.length = n →
      ∃ (G : List Slot) (mb : Res (Fl Unit Empty)), m ds = runF mb ∧ JS (Xd P w K mg base N qual st f cdv A outer s H E) (Wd E) Z (defBody st) (ds.map Slot.dat ++ List.replicate (N.length - n) .any) mb (fun _ => G) (fun t => nomatch t)) :
    FnOk P w K mg base (L2.CX P w) (k + 1) f fd ps (spP K mg n m) := by
  refine Fn.okX S (fun vs H Q E h => ?_) fun cdv A outer s H vs Q E hr h => ?_
  · obtain ⟨O, ds, hl, _⟩ := h
    rw [hl, hps]
  · obtain ⟨O, ds, hl, tb, od, r, hq⟩ := h
    have hd : ds.length = n := r.length.symm.trans hl
    obtain ⟨G, mb, e, js⟩ := hbody cdv A outer s H E hr ds hd
    rw [e] at hq
    refine ⟨_, pss_sem, ?_⟩
    have E0 := env_start (K := K) (mg := mg) (M := fun _ => False) (Dc := fun _ => False) (n := N.length - n) tb od (fun _ z => z.elim) (fun _ z => z.elim) (fun _ z => z.elim) (fun _ z => z.elim) r (pre := []) (preG := []) rfl (fun i s h => by simp at h)
    have est : L2.start N vs = (([] ++ vs).map some ++ List.replicate (N.length - n) none : L2.St) := by unfold L2.start; rw [hl]; rfl
    rw [est]
    refine js _ H _ (fun _ _ => ⟨fun _ z => z, trivial⟩) E0 _ ?_
    cases mb with
    | bad => exact hq
    | exc ε => exact fun cls dx σ' H' e r => hq cls dx H' e (r.anti fun a z => .inl z)
    | ok fl =>
      cases fl with
      | next u => exact fun σ' H' E' => hq .non H' E'.ext .non
      | ret d => exact fun v H' e r => hq v H' e (r.anti fun a z => .inl z)
      | brk t => exact nomatch t
      | cnt t => exact nomatch t
/-- the dice ahead of data -/
theorem fn_dice {x qual : Str} {st : Stmt} {f : Addr} {fd : FuncData} {N ps : List Str} {k n : Nat} {m : List D → Dem D} (Fn : Fun K x qual st f fd) (S : FnScope N ps (defScope st)) (hps : ps.length = n + 1) (Z : List Nat)
    (hbody : ∀ (cdv : Value) (A : Around) (outer : List PySem.Env) (s : Shared) (H : Hp) (E : XK), Room k (Xd P w K mg base N qual st f cdv A outer s H E).A → ∀ ds, ds.length = n →
      ∃ (G : List Slot) (mb : Dem (Fl Unit Empty)), (∀ k, (k .bad → False) → (m ds).run k → (runF mb).run k) ∧ JS (Xd P w K mg base N qual st f cdv A outer s H E) (Wd E) Z (defBody st) ([Slot.dice] ++ ds.map Slot.dat ++ List.replicate (N.length - (n + 1)) .any) mb (fun _ => G) (fun t => nomatch t)) :
    FnOk P w K mg base (L2.CX P w) (k + 1) f fd ps (spD K mg n m) := by
  refine Fn.okX S (fun vs H Q E h => ?_) fun cdv A outer s H vs Q E hr h => ?_
  · obtain ⟨O, a, us, ds, rfl, hl, _⟩ := h
    rw [hps, ← hl]; rfl
  · obtain ⟨O, a, us, ds, rfl, hl, oa, da, tb, od, r, hq⟩ := h
    have hd : ds.length = n := r.length.symm.trans hl
    obtain ⟨G, mb, e, js⟩ := hbody cdv A outer s H E hr ds hd
    replace hq := e _ (fun z => z) hq
    refine ⟨_, pss_sem, ?_⟩
    have E0 := env_start (K := K) (mg := mg) (M := fun b => b = a) (Dc := fun b => b = a) (n := N.length - (n + 1)) tb od (fun b z => z ▸ od a oa) (fun _ z => z) (fun b z => z ▸ oa) (fun b z => z ▸ da) r (pre := [V.ref a]) (preG := [Slot.dice]) rfl (fun i s h => by
      cases i with
      | zero => cases h; exact ⟨rfl, a, rfl, rfl⟩
      | succ i => simp at h)
    have est : L2.start N (V.ref a :: us) = (([V.ref a] ++ us).map some ++ List.replicate (N.length - (n + 1)) none : L2.St) := by
      unfold L2.start
      rw [show (V.ref a :: us).length = n + 1 by rw [List.length_cons, hl]]; rfl
    rw [est]
    refine js _ H _ (fun _ _ => ⟨fun _ z => z, trivial⟩) E0 _ (mb.mono (fun fl h2 => ?_) hq)
    cases fl with
    | bad => exact h2
    | exc ε => exact fun cls dx σ' H' e r => h2 cls dx H' e (r.anti fun a z => .inl z)
    | ok fl =>
      cases fl with
      | next u => exact fun σ' H' E' => h2 .non H' E'.ext .non
      | ret d => exact fun v H' e r => h2 v H' e (r.anti fun a z => .inl z)
      | brk t => exact nomatch t
      | cnt t => exact nomatch t
theorem len0 {ds : List D} (h : ds.length = 0) : ds = [] := List.length_eq_zero_iff.mp h
theorem len1 {ds : List D} (h : ds.length = 1) : ∃ a, ds = [a] := match ds, h with | [a], _ => ⟨a, rfl⟩
theorem len2 {ds : List D} (h : ds.length = 2) : ∃ a b, ds = [a, b] := match ds, h with | [a, b], _ => ⟨a, b, rfl⟩
theorem len3 {ds : List D} (h : ds.length = 3) : ∃ a b c, ds = [a, b, c] := match ds, h with | [a, b, c], _ => ⟨a, b, c, rfl⟩
theorem len4 {ds : List D} (h : ds.length = 4) : ∃ a b c d, ds = [a, b, c, d] := match ds, h with | [a, b, c, d], _ => ⟨a, b, c, d, rfl⟩
theorem len5 {ds : List D} (h : ds.length = 5) : ∃ a b c d e, ds = [a, b, c, d, e] := match ds, h with | [a, b, c, d, e], _ => ⟨a, b, c, d, e, rfl⟩
section
variable {M : Type → Type} [SpecM M]
theorem fn1_bad {f : D → M D} : ∀ ds : List D, ds.length ≠ 1 → fn1 f ds = SpecM.ret .bad
  | [], _ => rfl
  | [_], h => (h rfl).elim
  | _ :: _ :: _, _ => rfl
theorem fn2_bad {f : D → D → M D} : ∀ ds : List D, ds.length ≠ 2 → fn2 f ds = SpecM.ret .bad
  | [], _ => rfl
  | [_], _ => rfl
  | [_, _], h => (h rfl).elim
  | _ :: _ :: _ :: _, _ => rfl
theorem fn3_bad {f : D → D → D → M D} : ∀ ds : List D, ds.length ≠ 3 → fn3 f ds = SpecM.ret .bad
  | [], _ => rfl
  | [_], _ => rfl
  | [_, _], _ => rfl
  | [_, _, _], h => (h rfl).elim
  | _ :: _ :: _ :: _ :: _, _ => rfl
theorem fn4_bad {f : D → D → D → D → M D} : ∀ ds : List D, ds.length ≠ 4 → fn4 f ds = SpecM.ret .bad
  | [], _ => rfl
  | [_], _ => rfl
  | [_, _], _ => rfl
  | [_, _, _], _ => rfl
  | [_, _, _, _], h => (h rfl).elim
  | _ :: _ :: _ :: _ :: _ :: _, _ => rfl
theorem fn5_bad {f : D → D → D → D → D → M D} : ∀ ds : List D, ds.length ≠ 5 → fn5 f ds = SpecM.ret .bad
  | [], _ => rfl
  | [_], _ => rfl
  | [_, _], _ => rfl
  | [_, _, _], _ => rfl
  | [_, _, _, _], _ => rfl
  | [_, _, _, _, _], h => (h rfl).elim
  | _ :: _ :: _ :: _ :: _ :: _ :: _, _ => rfl
theorem fn0_bad {f : M D} : ∀ ds : List D, ds.length ≠ 0 → fn0 f ds = SpecM.ret .bad
  | [], h => (h rfl).elim
  | _ :: _, _ => rfl
end
end
end DE

set_option maxHeartbeats 4000000
namespace DE
open PySem PySem.Spec PyProof.Rows L2
variable [τ : TabCtx]
open AutoSeq1 (wpAny_loadPart')
/-! ### tuple * int, all counts -/
theorem de_mulS (l : Addr) (items : Array Value) (n : Nat) (dd : Option Addr) (sl : Array (Option Value)) (x : Int) (u : Tok) (c0 : (decide (x < -(2 ^ 63)) || decide (x ≥ 2 ^ 63)) = false) (c1 : (items.isEmpty || x == 1) = true) :
    Meets (Builtin.«tuple.__mul__» ⟨[.ref l, .int x u], []⟩) (fun _ R s => s.heap.get? l = some { cls := .type "tuple", dict := dd, data := .seq items n, slots := sl } ∧ R (.ok (.ret (Value.ref l))) s) := .of_wp fun prog w A R s h => by
    obtain ⟨hp, gg, dr, tt, oo⟩ := s; obtain ⟨hl, h⟩ := h
    have ff := AutoSeq1.idx_int
    wp_walk using wpAny_loadPart' hl
    repeat (first
      | (refine wpAny_ite_false (decide_eq_false (by rw [c0]; simp)) ?_; wp_walk using wpAny_loadPart' hl)
      | (refine wpAny_ite_true (decide_eq_true (by rw [c1])) ?_; wp_walk using wpAny_loadPart' hl))
    exact ⟨_, rfl, h⟩
theorem de_mul0 (l : Addr) (items : Array Value) (n : Nat) (dd : Option Addr) (sl : Array (Option Value)) (x : Int) (u : Tok) (c0 : (decide (x < -(2 ^ 63)) || decide (x ≥ 2 ^ 63)) = false) (c1 : (items.isEmpty || x == 1) = false) (c2 : (decide (x ≤ 0) || items.isEmpty) = true) :
    Meets (Builtin.«tuple.__mul__» ⟨[.ref l, .int x u], []⟩) (fun _ R s => s.heap.get? l = some { cls := .type "tuple", dict := dd, data := .seq items n, slots := sl } ∧ R (.ok (.ret (Value.ref s.heap.objs.size))) { s with heap := s.heap.push { cls := Value.type "tuple", data := Data.seq #[] }, toks := s.toks }) := .of_wp fun prog w A R s h => by
    obtain ⟨hp, gg, dr, tt, oo⟩ := s; obtain ⟨hl, h⟩ := h
    have ff := AutoSeq1.idx_int
    wp_walk using wpAny_loadPart' hl
    repeat (first
      | (refine wpAny_ite_false (decide_eq_false (by rw [c0]; simp)) ?_; wp_walk using wpAny_loadPart' hl)
      | (refine wpAny_ite_false (decide_eq_false (by rw [c1]; simp)) ?_; wp_walk using wpAny_loadPart' hl)
      | (refine wpAny_ite_true (decide_eq_true (by rw [c2])) ?_; wp_walk using wpAny_loadPart' hl))
    exact ⟨_, rfl, h⟩

def rRepA (K : PySem.W.Frag) : R2 := fun x y H Q => ∃ l k xs, x = V.ref l ∧ y = V.int k ∧ SqT K H l xs ∧ -(2 ^ 63) ≤ k ∧ k ≤ 1000 ∧ xs.length ≤ 1000 ∧ ((xs = [] ∨ k = 1) → Q (V.ref l) H) ∧ (xs ≠ [] → k ≠ 1 → ∀ p, H p = none → Q (V.ref p) (upd H p (.tup (List.replicate k.toNat xs).flatten)))
theorem op_repA {X : Cx} : OpR X (binaryOp .Mult) (rRepA X.K) := by
  intro pins s σ H x y v u Q I rx ry h
  obtain ⟨l, k, xs, rfl, rfl, hT, h1, h2, hz, q1, q2⟩ := h
  by_cases big : xs ≠ [] ∧ 2 ≤ k
  · exact op_repT pins s σ H _ _ v u Q I rx ry ⟨l, k, xs, rfl, rfl, hT, big.1, big.2, h2, hz, q2 big.1 (by omega)⟩
  · cases rx
    obtain ⟨t, rfl⟩ := ry
    obtain ⟨its, r, ⟨⟨cls, dd, data, sl⟩, ho, hc, n, hd⟩, hs⟩ := I.tuple hT
    simp only at hc hd
    subst hc hd
    have c0 : (decide (k < -(2 ^ 63)) || decide (k ≥ 2 ^ 63)) = false := by rw [decide_eq_false (by omega), decide_eq_false (by omega)]; rfl
    have ie : its.toArray.isEmpty = xs.isEmpty := by
      have hle := r.length
      cases its with
      | nil => rw [List.length_eq_zero_iff.mp hle]; rfl
      | cons a b =>
        cases xs with
        | nil => cases hle
        | cons c d => rfl
    by_cases sm : xs = [] ∨ k = 1
    · have c1 : (its.toArray.isEmpty || k == 1) = true := by
        rw [ie]
        rcases sm with z | z
        · rw [z]; rfl
        · rw [z, Bool.or_eq_true]; exact .inr rfl
      exact wpAny_binaryOp_repeat_ref (T := "tuple") (U := "int") (by decide) ⟨_, ho, rfl⟩ (fun s' => typeIs_int s' k t) noFill_tuple_mul F.fills_int_mul F.slot_int_rmul repeat_tuple F.slot_int_index.lookup
        (call_meets F.slot_int_rmul (typeIs_int s k t) F.entry_int_rmul (F.args_int_rmul_2 _ _) (int_rmul_tuple k t l its.toArray n dd sl)
          ⟨ho, rfl, ⟨_, ho, rfl⟩, call_meets F.slot_tuple_mul ⟨_, ho, rfl⟩ F.entry_tuple_mul (F.args_tuple_mul_2 _ _) (de_mulS l its.toArray n dd sl k t c0 c1) ⟨ho, ⟨V.ref l, H, I, rfl, q1 sm⟩⟩⟩)
    · have hx : xs ≠ [] := fun z => sm (.inl z)
      have hk1 : k ≠ 1 := fun z => sm (.inr z)
      have hk : k ≤ 0 := by
        by_cases z : 2 ≤ k
        · exact (big ⟨hx, z⟩).elim
        · omega
      have xe : xs.isEmpty = false := by cases xs with | nil => exact (hx rfl).elim | cons _ _ => rfl
      have c1 : (its.toArray.isEmpty || k == 1) = false := by rw [ie, xe, Bool.false_or]; exact beq_eq_false_iff_ne.mpr hk1
      have c2 : (decide (k ≤ 0) || its.toArray.isEmpty) = true := by rw [decide_eq_true hk]; rfl
      have fl : (List.replicate k.toNat xs).flatten = [] := by rw [Int.toNat_of_nonpos hk]; rfl
      refine wpAny_binaryOp_repeat_ref (T := "tuple") (U := "int") (by decide) ⟨_, ho, rfl⟩ (fun s' => typeIs_int s' k t) noFill_tuple_mul F.fills_int_mul F.slot_int_rmul repeat_tuple F.slot_int_index.lookup
        (call_meets F.slot_int_rmul (typeIs_int s k t) F.entry_int_rmul (F.args_int_rmul_2 _ _) (int_rmul_tuple k t l its.toArray n dd sl)
          ⟨ho, rfl, ⟨_, ho, rfl⟩, call_meets F.slot_tuple_mul ⟨_, ho, rfl⟩ F.entry_tuple_mul (F.args_tuple_mul_2 _ _) (de_mul0 l its.toArray n dd sl k t c0 c1 c2) ⟨ho, ?_⟩⟩)
      have q := q2 hx hk1 s.heap.objs.size (I.hok.fresh (Nat.le_refl _))
      rw [fl] at q
      exact ⟨.ref s.heap.objs.size, _, I.laid (t' := s.toks) (o := .tup []) (fun b ob q => Heap.get?_push_of_some _ q) (Nat.le_refl _) ⟨Nat.zero_le _, [], .nil, IsTup.new _ _⟩, rfl, q⟩
def repD : D → D → Option D
  | .tuple xs, .int k => if xs.length ≤ 1000 && -9223372036854775808 ≤ k && k ≤ 1000 then some (.tuple (List.replicate k.toNat xs).flatten) else none
  | .list xs, .int k => if -9223372036854775808 ≤ k && k < 9223372036854775808 && xs.length * k.toNat ≤ maxL then some (.list (List.replicate k.toNat xs).flatten) else none
  | .int i, .int j => mulI (.int i) (.int j)
  | _, _ => none
theorem Reps.rep {K : PySem.W.Frag} {mg : Str → Option Value} {O : Addr → Prop} {H : Hp} {vs : List V} {ds : List D} (h : Reps K mg O H vs ds) : ∀ n : Nat, Reps K mg O H (List.replicate n vs).flatten (List.replicate n ds).flatten
  | 0 => .nil
  | n + 1 => by
    rw [List.replicate_succ, List.replicate_succ, List.flatten_cons, List.flatten_cons]
    exact h.append (Reps.rep h n)
/-- * of numbers, tuples, lists -/
def rMulA (K : PySem.W.Frag) : R2 := fun x y H Q => rRepA K x y H Q ∨ rRep x y H Q ∨ rI CMul (fun i j => .int (i * j)) x y H Q
theorem op_mulA {X : Cx} : OpR X (binaryOp .Mult) (rMulA X.K) := by
  intro pins s σ H x y v u Q I rx ry h
  rcases h with h | h | h
  · exact op_repA pins s σ H x y v u Q I rx ry h
  · exact op_rep pins s σ H x y v u Q I rx ry h
  · exact op_mul pins s σ H x y v u Q I rx ry h
theorem ro_mulA {X : Cx} : RO X (rMulA X.K) repD := fun O H x y dx dy d dm rx ry e Q q => by
  cases dx <;> cases dy <;> first | cases e | skip
  · refine .inr (.inr ?_)
    exact ro_mul O H x y _ _ d dm rx ry e Q q
  · rename_i xs k
    simp only [repD] at e
    split at e <;> rename_i hz
    · cases e
      simp only [Bool.and_eq_true, decide_eq_true_eq] at hz
      obtain ⟨a, us, rfl, h1, h2⟩ := rx.list
      refine .inr (.inl ⟨a, k, us, rfl, ry.toInt, h1.tr.1, by omega, by omega, by rw [h2.length, ← maxL_eq]; exact hz.2, fun p hp => ?_⟩)
      exact q _ _ (same_new hp) (.lst (.inl ⟨upd_same, fun z => dm p z hp⟩) (rep_new hp (h2.rep _)))
    · cases e
  · rename_i xs k
    simp only [repD] at e
    split at e <;> rename_i hz
    · cases e
      simp only [Bool.and_eq_true, decide_eq_true_eq] at hz
      obtain ⟨a, us, rfl, h1, h2⟩ := rx.tuple
      refine .inl ⟨a, k, us, rfl, ry.toInt, h1, by omega, by omega, by rw [h2.length]; omega, fun z => ?_, fun z z2 p hp => ?_⟩
      · have e : (List.replicate k.toNat xs).flatten = xs := by
          rcases z with z | z
          · subst z
            have e : xs = [] := List.length_eq_zero_iff.mp h2.length.symm
            rw [e]; simp
          · rw [z]; simp
        rw [e] at q
        exact q _ H (.refl H) rx
      · exact q _ _ (same_new hp) (.tup (.inl (.inl upd_same)) (rep_new hp (h2.rep _)))
    · cases e
/-- + of numbers, tuples, lists -/
def addD : D → D → Option D
  | .int i, .int j => addI (.int i) (.int j)
  | .tuple xs, .tuple ys => catT (.tuple xs) (.tuple ys)
  | .list xs, .list ys => catL (.list xs) (.list ys)
  | .str x, .str y => if x.length + y.length ≤ maxL then some (.str (x ++ y)) else none
  | _, _ => none
def rAddA (K : PySem.W.Frag) : R2 := fun x y H Q => rCatA K x y H Q ∨ rCat x y H Q ∨ rI0 (fun i j => .int (i + j)) x y H Q ∨ (∃ i j, x = .str i ∧ y = .str j ∧ i.length + j.length ≤ sizeLine ∧ Q (.str (i ++ j)) H)
theorem op_addA {X : Cx} : OpR X (binaryOp .Add) (rAddA X.K) := by
  intro pins s σ H x y v u Q I rx ry h
  rcases h with h | h | h | h
  · exact op_catA pins s σ H x y v u Q I rx ry h
  · exact op_cat pins s σ H x y v u Q I rx ry h
  · exact op_add pins s σ H x y v u Q I rx ry h
  · exact op_add_str pins s σ H x y v u Q I rx ry h
theorem ro_addA {X : Cx} : RO X (rAddA X.K) addD := fun O H x y dx dy d dm rx ry e Q q => by
  cases dx <;> cases dy <;> first | cases e | skip
  · exact .inr (.inr (.inl (ro_add O H x y _ _ _ dm rx ry rfl Q q)))
  · simp only [addD] at e
    split at e <;> rename_i hz
    · cases e
      exact .inr (.inr (.inr ⟨_, _, rx.toStr, ry.toStr, by rw [← maxL_eq]; exact hz, q _ H (.refl H) (.str _)⟩))
    · cases e
  · exact .inr (.inl (ro_catL O H x y _ _ _ dm rx ry e Q q))
  · exact .inl (ro_catT O H x y _ _ _ dm rx ry e Q q)
/-! ### slices -/
def cutX (ds : List D) (lo hi : Option Int) : List D := (ds.drop (HT.sIx ds.length 0 lo)).take (HT.sIx ds.length ds.length hi - HT.sIx ds.length 0 lo)
theorem cut_reps {K : PySem.W.Frag} {mg : Str → Option Value} {O : Addr → Prop} {H : Hp} {vs : List V} {ds : List D} (h : Reps K mg O H vs ds) (lo hi : Option Int) : Reps K mg O H (cutV vs lo hi) (cutX ds lo hi) := by
  unfold cutV cutX
  rw [h.length]
  exact (h.drop _).take _
theorem cut_whole {K : PySem.W.Frag} {mg : Str → Option Value} {O : Addr → Prop} {H : Hp} {vs : List V} {ds : List D} (h : Reps K mg O H vs ds) {lo hi : Option Int} (z1 : HT.sIx vs.length 0 lo = 0) (z2 : HT.sIx vs.length vs.length hi = vs.length) : cutX ds lo hi = ds := by
  unfold cutX
  rw [← h.length, z1, z2, Nat.sub_zero, List.drop_zero, h.length]
  exact List.take_length
def sliceD (x : D) (lo hi : Option Int) : Option D := match x with
  | .list xs => some (.list (cutX xs lo hi))
  | .tuple xs => some (.tuple (cutX xs lo hi))
  | _ => none
def intO : D → Option Int
  | .int i => some i
  | _ => none
section
variable {M : Type → Type} [SpecM M] {X : Cx} {W : WX} {Γ : List Slot} {pos p2 p : Pos} {a b e lo hi : Expr} {ma ml mh : M D}
@[irreducible] def wpO (X : Cx) (e : Option Expr) (σ : L2.St) (H : Hp) (Q : Option Int → Hp → Prop) : Prop := ∀ pins s, Inv X pins σ H s → wpAny (model X.prog X.w) X.A (evalPart e X.env) (fun u s' => ∃ o H', Inv X pins σ H' s' ∧ IsPart u o ∧ Q o H') X.xe s
abbrev JO (X : Cx) (W : WX) (e : Option Expr) (Γ : List Slot) (m : M (Option Int)) : Prop := J X W Γ (wpO X e) (fun _ _ _ v d => v = d) m
theorem po_sem {e : Option Expr} : PO X e (wpO X e) := ⟨fun pins s σ H Q I h => by unfold wpO at h; exact h pins s I⟩
theorem jo_none : JO X W none Γ (ok (M := M) none) := fun F H σ E Q hq => by
  unfold wpO
  exact fun pins s I => po_none.run pins s σ H Q I (post_ok hq none H .refl rfl)
theorem jo_some (h : JE X W e Γ ma) : JO X W (some e) Γ (bnd ma fun d => bnd (op (intO d)) fun i => ok (some i)) := fun F H σ E Q hq => by
  unfold wpO
  exact fun pins s I => (po_some pe_sem).run pins s σ H Q I (h.bind E hq fun d v H1 e1 E1 r1 h1 => by
  have h2 := SpecM.post_ret (SpecM.post_bind h1)
  cases d <;> first | exact h2.elim | skip
  exact ⟨_, r1.toInt, post_ok h2 _ H1 .refl rfl⟩)
theorem je_slice {l h : Option Expr} {mlo mhi : M (Option Int)} (ha : JQ X W e Γ ma) (hl : JO X W l Γ mlo) (hh : JO X W h Γ mhi) : JE X W (.Subscript e (.Slice l h none p2) pos) Γ (bnd ma fun x => bnd mlo fun i => bnd mhi fun j => op (sliceD x i j)) := fun F H σ E Q hq => by
  refine PE.wp (pe_slice (SlR.or sl_list sl_tupA) pe_sem po_sem po_sem) ?_
  refine ha.bind E hq fun d v H1 e1 E1 r1 hq => ?_
  refine hl.bind E1 hq fun i i' H2 e2 E2 r2 g2 => ?_
  subst r2
  refine hh.bind E2 g2 fun j j' H3 e3 E3 r3 g3 => ?_
  subst r3
  clear hq
  obtain ⟨z, hz, q⟩ := post_ofO g3
  have r1' := (r1.ext e2 (fun a z => E.xk a z) E.subO).ext e3 (fun a z => E.xk a z) E.subO
  cases d <;> first | cases hz | skip
  · obtain ⟨c, xs, rfl, h1, h2⟩ := r1'.list
    exact .inl ⟨c, xs, rfl, h1, fun p hp => q _ _ (.new hp) (.lst (.inl ⟨upd_same, E3.fresh hp⟩) (rep_new hp (cut_reps h2 _ _)))⟩
  · obtain ⟨c, xs, rfl, h1, h2⟩ := r1'.tuple
    refine .inr ⟨c, xs, rfl, h1, fun z => ?_, fun z p hp => q _ _ (.new hp) (.tup (.inl (.inl upd_same)) (rep_new hp (cut_reps h2 _ _)))⟩
    rw [cut_whole h2 z.1 z.2] at q
    exact q _ H3 .refl (.tup h1 h2)
/-! ### isinstance of a built-in class -/
inductive Ty where
  | tup | lst | int | bol | str | dic
def Ty.nm : Ty → String
  | .tup => "tuple"
  | .lst => "list"
  | .int => "int"
  | .bol => "bool"
  | .str => "str"
  | .dic => "dict"
def isT : Ty → D → Option Bool
  | t, .none => some false
  | .bol, .bool _ => some true
  | .int, .bool _ => some true
  | _, .bool _ => some false
  | .int, .int _ => some true
  | _, .int _ => some false
  | .str, .str _ => some true
  | _, .str _ => some false
  | .lst, .list _ => some true
  | _, .list _ => some false
  | .tup, .tuple _ => some true
  | _, .tuple _ => some false
  | .dic, .dict [] => some true
  | _, .dict [] => some false
  | _, .dict _ => none
theorem kit_all : ∀ t : Ty, kitB "NoneType" t.nm = some false ∧ kitB "bool" t.nm = isT t (.bool true) ∧ kitB "int" t.nm = isT t (.int 0) ∧ kitB "str" t.nm = isT t (.str Str.empty) ∧ kitB "list" t.nm = isT t (.list []) ∧ kitB "tuple" t.nm = isT t (.tuple []) ∧ kitB "dict" t.nm = isT t (.dict []) := by
  intro t
  cases t <;> decide +kernel
theorem je_isi (t : Ty) {x : Str} (ha : JE X W a Γ ma) (hm : X.mg "isinstance" = none) (hmT : X.mg x = none) (hv : bootBuiltins x = some (.type t.nm) := by kernel_rfl) (hg : Gl X "isinstance" := by (show _ = _); kernel_rfl) (hgT : Gl X x := by (show _ = _); kernel_rfl) (hn : x ≠ "__name__" := by decide) (hdb : (x == ("__debug__" : Str)) = false := by kernel_rfl)
    (he : starEach [a, .Name x p2] X.env = (false, eval a X.env) :: starEach [.Name x p2] X.env := by kernel_rfl) (he2 : starEach [.Name x p2] X.env = (false, eval (.Name x p2) X.env) :: starEach [] X.env := by kernel_rfl) (hpl : (backTo pos (starEach [.Name x p2] X.env)).any (·.1) = false := by kernel_rfl) (hv2 : bootBuiltins "isinstance" = some (.builtin "isinstance") := by kernel_rfl) :
    JE X W (.Call (.Name "isinstance" p) [a, .Name x p2] [] pos) Γ (bnd ma fun d => op ((isT t d).map PyData.bool)) := fun F H σ E Q hq => by
  refine PE.wp (pe_callB call_isi hg hm hv2 (pa_cons pe_sem (pa_cons (pe_bltn hgT hmT hv (show RelV (.ty t.nm) (.type t.nm) from rfl) hn hdb) pa_nil he2) he) (by decide) (by decide) he hpl) ?_
  refine ha.bind E hq fun d v H1 e1 E1 r1 h1 => ?_
  obtain ⟨z, hz, q⟩ := post_ofO h1
  obtain ⟨k1, k2, k3, k4, k5, k6, k7⟩ := kit_all t
  have fin : ∀ (ty : String) (b : Bool), kitB ty t.nm = some b → isT t d = some b → TyX X.K H1 v (.type ty) → ∃ (x c : V) (t' u : Value) (b : Bool), [v, V.ty t.nm] = [x, c] ∧ ClsV c u ∧ TyX X.K H1 x t' ∧ PySem.W.kitOne X.K t' u = some b ∧ Q (.bl b) H1 := fun ty b h1 h2 h3 => by
    rw [h2] at hz
    cases hz
    exact ⟨v, .ty t.nm, .type ty, .type t.nm, b, rfl, .ty _, h3, kit_ty h1, q _ H1 .refl (.bl b)⟩
  cases hi : isT t d with
  | none => rw [hi] at hz; cases hz
  | some b =>
    cases d with
    | none => exact fin _ b (k1.trans (by cases t <;> exact hi)) hi (r1.toNon ▸ .base .non)
    | bool c => exact fin _ b (k2.trans (by cases t <;> exact hi)) hi (r1.toBool ▸ .base (.bl _))
    | int c => exact fin _ b (k3.trans (by cases t <;> exact hi)) hi (r1.toInt ▸ .base (.int _))
    | str c => exact fin _ b (k4.trans (by cases t <;> exact hi)) hi (r1.toStr ▸ .base (.str _))
    | list c =>
      obtain ⟨l, xs, rfl, h2, _⟩ := r1.list
      exact fin _ b (k5.trans (by cases t <;> exact hi)) hi (.base (.lst h2.tr.1))
    | tuple c =>
      obtain ⟨l, xs, rfl, h2, _⟩ := r1.tuple
      refine fin _ b (k6.trans (by cases t <;> exact hi)) hi ?_
      rcases h2 with (h2 | ⟨o, h2⟩) | ⟨o, its, n, h2, h3, _⟩
      · exact .base (.tup h2)
      · exact .fTuple h2
      · exact .kTuple h2 h3
    | dict c =>
      cases c with
      | nil =>
        rcases r1.dict with ⟨_, l, rfl, h2, _⟩ | ⟨_, _, h2, _⟩ | ⟨_, _, h2, _⟩ | ⟨_, _, _, h2, _⟩
        · exact fin _ b (k7.trans (by cases t <;> exact hi)) hi (.base (.dK h2))
        · cases h2
        · cases h2
        · cases h2
      | cons _ _ => cases t <;> cases hi
end
end DE

set_option maxHeartbeats 4000000
namespace DE
open PySem PySem.Spec PyProof.Rows L2
variable [τ : TabCtx]
/-- a constant of the module -/
def GC (K : PySem.W.Frag) (mg : Str → Option Value) (x : Str) (d : D) : Prop := ∃ (u : Value) (v : V), mg x = some u ∧ RelV v u ∧ ∀ (O : Addr → Prop) (H : Hp), Rep K mg O H v d
section
variable {M : Type → Type} [SpecM M] {X : Cx} {W : WX} {Γ : List Slot} {pos p p2 tpos : Pos} {a b c e : Expr} {ma mb mc : M D} {x : Str} {f f' : D → D → Option D} {r r' : R2}
theorem je_gc {d : D} (h : GC X.K X.mg x d) (hg : Gl X x := by (show _ = _); kernel_rfl) (hd : (x == ("__debug__" : Str)) = false := by kernel_rfl) : JE X W (.Name x pos) Γ (ok (M := M) d) := by
  obtain ⟨u, v, h1, h2, h3⟩ := h
  exact je_glob h1 h2 h3 hg hd
/-- a comparison as a test -/
theorem jt_cmp2 {o : CmpOp} (hr : OpR X (compareOp o) r) (ro : RO X r f) (ha : JE X W a Γ ma) (hb : JE X W b Γ mb) (h1 : behindInMarks o b = false := by kernel_rfl) : JT X W (.Compare a [o] [b] pos) Γ (bnd ma fun x => bnd mb fun y => op ((f x y).bind asB)) := fun F H σ E Q hq => by
  refine PT.wp (pt_cmpR hr pe_sem pe_sem h1) ?_
  refine ha.bind E hq fun d v H1 e1 E1 r1 hq => ?_
  refine hb.bind E1 hq fun d2 u H2 e2 E2 r2 hq => ?_
  obtain ⟨z, hz, q⟩ := post_ofO hq
  cases hf : f d d2 with
  | none => rw [hf] at hz; cases hz
  | some w =>
    rw [hf] at hz
    refine ro _ H2 v u d d2 w E2.osdom (r1.ext e2 fun a z => E.xk a z) r2 hf _ fun v H3 s3 r3 => ?_
    cases w with
    | bool k => exact ⟨k, r3.toBool, q k H3 (.same s3) (Option.some.inj hz)⟩
    | _ => cases hz
/-- a < b < c -/
theorem chain_go {F : Frm} {H : Hp} {σ : L2.St} (ro : RO X r f) (ro' : RO X r' f') (ha : JE X W a Γ ma) (hb : JE X W b Γ mb) (hc : JE X W c Γ mc) (E : DE.Env X.K X.mg F H σ Γ) {Q : V → Hp → Prop}
    (hq : SpecM.post (bnd ma fun x => bnd mb fun y => bnd (op ((f x y).bind asB)) fun k => match k with | true => bnd mc fun z => op (f' y z) | false => ok (.bool false)) (Post X.K X.mg W F (OS F σ Γ) σ H (fun H v d => Rep X.K X.mg (OS F σ Γ) H v d) Q)) : tChain r r' (wpE X a) (wpE X b) (wpE X c) σ H Q := by
  refine ha.bind E hq fun d v H1 e1 E1 r1 g1 => ?_
  refine hb.bind E1 g1 fun d2 u H2 e2 E2 r2 g2 => ?_
  have g3 := SpecM.post_ret (SpecM.post_bind g2)
  cases hf : f d d2 with
  | none => rw [hf] at g3; exact g3.elim
  | some w =>
    rw [hf] at g3
    refine ro _ H2 v u d d2 w E2.osdom (r1.ext e2 fun a z => E.xk a z) r2 hf _ fun v H3 s3 r3 => ?_
    cases w with
    | bool k =>
      have E3 := E2.mono (.same s3)
      have g4 := SpecM.mono (fun r => Post.up (X := X) (Ext.same s3 : Ext F.Dc F.Dc H2 H3)) (show SpecM.post (match k with | true => bnd mc fun z => op (f' d2 z) | false => ok (.bool false)) _ from g3)
      refine ⟨k, r3.toBool, ?_⟩
      cases k with
      | true =>
        refine iteT (hc.bind E3 g4 fun d3 w H4 e4 E4 r4 g5 => ?_)
        obtain ⟨z, hz, q⟩ := post_ofO g5
        exact ro' _ H4 u w d2 d3 z E4.osdom ((r2.ext (Ext.same s3 : Ext F.Dc F.Dc H2 H3) fun a z => E.xk a z).ext e4 fun a z => E.xk a z) r4 hz Q fun v H5 s5 r5 => q v H5 (.same s5) r5
      | false => exact iteF (post_ok g4 _ H3 .refl (.bl _))
    | _ => exact g3.elim
theorem je_chain {o o' : CmpOp} (ho : OpR X (compareOp o) r) (ho' : OpR X (compareOp o') r') (ro : RO X r f) (ro' : RO X r' f') (ha : JE X W a Γ ma) (hb : JE X W b Γ mb) (hc : JE X W c Γ mc) (hm : lastMarks [o, o'] [b, c] = false := by kernel_rfl) :
    JE X W (.Compare a [o, o'] [b, c] pos) Γ (bnd ma fun x => bnd mb fun y => bnd (op ((f x y).bind asB)) fun k => match k with | true => bnd mc fun z => op (f' y z) | false => ok (.bool false)) := fun F H σ E Q hq => PE.wp (pe_chain ho ho' pe_sem pe_sem pe_sem hm) (chain_go ro ro' ha hb hc E hq)
theorem jt_chain {o o' : CmpOp} (ho : OpR X (compareOp o) r) (ho' : OpR X (compareOp o') r') (ro : RO X r f) (ro' : RO X r' f') (ha : JE X W a Γ ma) (hb : JE X W b Γ mb) (hc : JE X W c Γ mc) (hm : lastMarks [o, o'] [b, c] = false := by kernel_rfl) :
    JT X W (.Compare a [o, o'] [b, c] pos) Γ (bnd (bnd ma fun x => bnd mb fun y => bnd (op ((f x y).bind asB)) fun k => match k with | true => bnd mc fun z => op (f' y z) | false => ok (.bool false)) fun d => op (asB d)) := fun F H σ E Q hq => by
  refine PT.wp (pt_chain ho ho' pe_sem pe_sem pe_sem hm) ?_
  refine chain_go ro ro' ha hb hc E (SpecM.mono (fun r hr => ?_) (SpecM.post_bind hq))
  cases r with
  | bad => exact hr
  | exc ε => exact hr
  | ok d =>
    intro v H1 e1 r1
    obtain ⟨z, hz, q⟩ := post_ofO hr
    cases d <;> first | cases hz | skip
    exact ⟨_, r1.toBool, q _ H1 e1 rfl⟩
/-- in, not in: flat items of a list or tuple -/
def flatD : D → Bool
  | .none => true
  | .bool _ => true
  | .int _ => true
  | .str _ => true
  | _ => false
def seqF : D → Option (List D)
  | .list xs => if xs.all flatD then some xs else none
  | .tuple xs => if xs.all flatD then some xs else none
  | _ => none
def inF (x y : D) : Option D := if flatD x then (seqF y).map fun xs => .bool (xs.any fun z => PyData.eqv z x) else none
def notInF (x y : D) : Option D := if flatD x then (seqF y).map fun xs => .bool (!xs.any fun z => PyData.eqv z x) else none
section
variable {K : PySem.W.Frag} {mg : Str → Option Value} {O : Addr → Prop} {H : Hp}
theorem flat_rep {d : D} {v : V} (hd : flatD d = true) (h : Rep K mg O H v d) : flatV v = true := by
  cases d <;> first | cases hd | skip
  · rw [h.toNon]; rfl
  · rw [h.toBool]; rfl
  · rw [h.toInt]; rfl
  · rw [h.toStr]; rfl
theorem eq_flat {d e : D} {v u : V} (hd : flatD d = true) (he : flatD e = true) (h : Rep K mg O H v d) (h' : Rep K mg O H u e) : eqV v u = PyData.eqv d e := by
  cases d <;> first | cases hd | skip
  · rw [h.toNon]; cases e <;> first | cases he | skip
    · rw [h'.toNon]; rfl
    · rw [h'.toBool]; rfl
    · rw [h'.toInt]; rfl
    · rw [h'.toStr]; rfl
  · rw [h.toBool]; cases e <;> first | cases he | skip
    · rw [h'.toNon]; rfl
    · rw [h'.toBool]; rfl
    · rw [h'.toInt]; rfl
    · rw [h'.toStr]; rfl
  · rw [h.toInt]; cases e <;> first | cases he | skip
    · rw [h'.toNon]; rfl
    · rw [h'.toBool]; rfl
    · rw [h'.toInt]; rfl
    · rw [h'.toStr]; rfl
  · rw [h.toStr]; cases e <;> first | cases he | skip
    · rw [h'.toNon]; rfl
    · rw [h'.toBool]; rfl
    · rw [h'.toInt]; rfl
    · rw [h'.toStr]; rfl
theorem in_flat {d : D} {v : V} (hd : flatD d = true) (h : Rep K mg O H v d) : ∀ {ds : List D} {vs : List V}, ds.all flatD = true → Reps K mg O H vs ds → vs.all flatV = true ∧ inV v vs = ds.any fun z => PyData.eqv z d
  | [], _, _, q => by rw [q.nil_of]; exact ⟨rfl, rfl⟩
  | e :: ds, _, ha, q => by
    obtain ⟨u, r, rfl, h1, h2⟩ := q.cons_of
    simp only [List.all_cons, Bool.and_eq_true] at ha
    obtain ⟨i1, i2⟩ := in_flat hd h ha.2 h2
    refine ⟨by simp [flat_rep ha.1 h1, i1], ?_⟩
    unfold inV at i2 ⊢
    rw [List.any_cons, List.any_cons, i2, eq_flat ha.1 hd h1 h]
end
theorem ro_in : RO X (rIn X.K false) inF := fun O H x y dx dy d dm rx ry e Q q => by
  unfold inF at e
  split at e <;> rename_i hf <;> first | cases e | skip
  cases dy <;> first | cases e | skip
  all_goals simp only [seqF] at e; split at e <;> rename_i ha <;> first | cases e | skip
  · obtain ⟨l, xs, rfl, h1, h2⟩ := ry.list
    obtain ⟨i1, i2⟩ := in_flat hf rx ha h2
    exact ⟨l, xs, rfl, .inl h1.sq, flat_rep hf rx, i1, by rw [i2]; exact q _ H (.refl H) (.bl _)⟩
  · obtain ⟨l, xs, rfl, h1, h2⟩ := ry.tuple
    obtain ⟨i1, i2⟩ := in_flat hf rx ha h2
    exact ⟨l, xs, rfl, .inr h1, flat_rep hf rx, i1, by rw [i2]; exact q _ H (.refl H) (.bl _)⟩
theorem ro_notin : RO X (rIn X.K true) notInF := fun O H x y dx dy d dm rx ry e Q q => by
  unfold notInF at e
  split at e <;> rename_i hf <;> first | cases e | skip
  cases dy <;> first | cases e | skip
  all_goals simp only [seqF] at e; split at e <;> rename_i ha <;> first | cases e | skip
  · obtain ⟨l, xs, rfl, h1, h2⟩ := ry.list
    obtain ⟨i1, i2⟩ := in_flat hf rx ha h2
    exact ⟨l, xs, rfl, .inl h1.sq, flat_rep hf rx, i1, by rw [i2]; exact q _ H (.refl H) (.bl _)⟩
  · obtain ⟨l, xs, rfl, h1, h2⟩ := ry.tuple
    obtain ⟨i1, i2⟩ := in_flat hf rx ha h2
    exact ⟨l, xs, rfl, .inr h1, flat_rep hf rx, i1, by rw [i2]; exact q _ H (.refl H) (.bl _)⟩
/-- fresh lists -/
theorem jf_lst {es : List Expr} {m : M (List D)} (h : JA X W es Γ m) : JF X W (.List es pos) Γ (bnd m fun xs => op (if xs.length ≤ maxL then some xs else none)) := fun F H σ E Q hq => by
  refine PE.wp (pe_lst pa_sem) ?_
  refine h F H σ E _ (SpecM.mono (fun r hr => ?_) (SpecM.post_bind hq))
  cases r with
  | bad => exact hr
  | exc ε => exact hr
  | ok ds =>
    intro vs H1 e1 r1
    have g := SpecM.post_ret hr
    by_cases hl : ds.length ≤ maxL
    · rw [if_pos hl] at g
      exact ⟨by rw [r1.length, ← maxL_eq]; exact hl, fun p hp => g p vs H1 e1 hp r1⟩
    · rw [if_neg hl] at g
      exact g.elim
theorem jf_list {m : M D} (hm : X.mg "list" = none) (ha : JQ X W e Γ m) (hg : Gl X "list" := by (show _ = _); kernel_rfl) (he : starEach [e] X.env = (false, eval e X.env) :: starEach [] X.env := by kernel_rfl) (hpl : (backTo pos (starEach [] X.env)).any (·.1) = false := by kernel_rfl) (hv : bootBuiltins "list" = some (.type "list") := by kernel_rfl) :
    JF X W (.Call (.Name "list" p) [e] [] pos) Γ (bnd m fun d => op ((listD d).bind listO)) := fun F H σ E Q hq => by
  refine PE.wp (pe_callTy call_list_of hg hm hv (pa_cons pe_sem pa_nil he) (by decide) (by decide) he hpl) ?_
  refine ha F H σ E _ (SpecM.mono (fun r hr => ?_) (SpecM.post_bind hq))
  cases r with
  | bad => exact hr
  | exc ε => exact hr
  | ok d =>
    intro v H1 e1 r1
    have g := SpecM.post_ret hr
    cases d <;> first | exact g.elim | skip
    · obtain ⟨l, xs, rfl, h1, h2⟩ := r1.list
      exact ⟨l, xs, rfl, .inl h1, fun q hq => g q xs H1 e1 hq h2⟩
    · obtain ⟨l, xs, rfl, h1, h2⟩ := r1.tuple
      exact ⟨l, xs, rfl, .inr h1, fun q hq => g q xs H1 e1 hq h2⟩
theorem jf_cat (ha : JE X W a Γ ma) (hb : JE X W b Γ mb) : JF X W (.BinOp a .Add b pos) Γ (bnd ma fun x => bnd mb fun y => op ((catL x y).bind listO)) := fun F H σ E Q hq => by
  refine PE.wp (pe_op op_cat pe_sem pe_sem) ?_
  refine ha F H σ E _ (SpecM.mono (fun r hr => ?_) (SpecM.post_bind hq))
  cases r with
  | bad => exact hr
  | exc ε => exact hr
  | ok d =>
    intro v H1 e1 r1
    have E1 := E.mono e1
    refine hb F H1 σ E1 _ (SpecM.mono (fun r' hr' => ?_) (SpecM.post_bind hr))
    cases r' with
    | bad => exact hr'
    | exc ε => exact fun c d H2 e2 q => hr' c d H2 (e1.trans e2) q
    | ok d2 =>
      intro u H2 e2 r2
      have g := SpecM.post_ret hr'
      clear hr hr'
      cases d <;> cases d2 <;> first | exact g.elim | skip
      rename_i xs ys
      obtain ⟨l, us, rfl, h1, h2⟩ := (r1.ext e2 fun a z => E.xk a z).list
      obtain ⟨l', ws, rfl, h3, h4⟩ := r2.list
      by_cases hz : xs.length + ys.length ≤ maxL
      · simp only [catL, if_pos hz] at g
        exact ⟨l, l', us, ws, rfl, rfl, h1.tr.1, h3.tr.1, by rw [h2.length, h4.length, ← maxL_eq]; exact hz, fun p hp => g p _ H2 (e1.trans e2) hp (h2.append h4)⟩
      · simp only [catL, if_neg hz] at g
        exact g.elim
/-- zip of two -/
def zipO (x y : D) : Option (List D) := match x, y with
  | .list xs, .list ys => if (zipD xs ys).length ≤ maxL then some (zipD xs ys) else none
  | .tuple xs, .tuple ys => if (zipD xs ys).length ≤ maxL then some (zipD xs ys) else none
  | _, _ => none
theorem ji_zip {elts : List Expr} {kk : Nat} (ha : JE X W a Γ ma) (hb : JE X W b Γ mb) (hm : X.mg "zip" = none) (hg : Gl X "zip" := by (show _ = _); kernel_rfl) (h1 : starEach [a, b] X.env = (false, eval a X.env) :: starEach [b] X.env := by kernel_rfl) (h2 : starEach [b] X.env = (false, eval b X.env) :: starEach [] X.env := by kernel_rfl)
    (hpl : (backTo pos (starEach [b] X.env)).any (·.1) = false := by kernel_rfl) : JI X W (.Tuple elts kk tpos) (.Call (.Name "zip" p) [a, b] [] pos) Γ (bnd ma fun x => bnd mb fun y => op (zipO x y)) := fun F H σ E Q hq => by
  refine PI.wp (RZ.pi_zipA hg hm (pa_cons pe_sem (pa_cons pe_sem pa_nil h2) h1) h1 hpl) ?_
  refine ha.bind E hq fun d v H1 e1 E1 r1 g1 => ?_
  refine hb.bind E1 g1 fun d2 u H2 e2 E2 r2 g2 => ?_
  obtain ⟨ds, hz, q⟩ := post_ofO g2
  have r1' := r1.ext e2 fun a z => E.xk a z
  cases d <;> cases d2 <;> first | cases hz | skip
  all_goals simp only [zipO] at hz; split at hz <;> rename_i hl <;> first | cases hz | skip
  · obtain ⟨l, us, rfl, h3, h4⟩ := r1'.list
    obtain ⟨l', ws, rfl, h5, h6⟩ := r2.list
    exact ⟨l, l', us, ws, rfl, .inl ⟨h3.sq, h5.sq, q _ H2 .refl (yi_zipL hl (lsA_all h3) h4 (lsA_all h5) h6 fun _ z => z)⟩⟩
  · obtain ⟨l, us, rfl, h3, h4⟩ := r1'.tuple
    obtain ⟨l', ws, rfl, h5, h6⟩ := r2.tuple
    exact ⟨l, l', us, ws, rfl, .inr ⟨h3, h5, q _ H2 .refl (yi_zipT hl h3 h4 h5 h6 fun _ z => z)⟩⟩
end
section
variable {M : Type → Type} [SpecM M] {S T U : Type} {X : Cx} {W : WX} {Z Z' : List Nat} {Γ : List Slot} {N : S → List Slot} {L : T → List Slot} {I : U → List Slot} {e iter : Expr} {pos p1 p2 p3 tp pos' tpos : Pos} {rest body : List Stmt} {mi : M (List D)} {mr : U → M (Fl S T)} {x y z : Str} {kk : Nat} {me : M D}
theorem js_for1 (i : Nat) (s0 : U) (vs : List Nat) {f : U → D → M (Fl U U)} (hp : PassesOwn (model X.prog X.w) X.A X.env X.xe) (hc : X.calm = true) (hi : JI X W (.Name x p1) iter Γ mi) (hg : PG X (.Name x p1) (gName i)) (hb : ∀ s d, JS X W Z' body ((I s).set i (.dat d)) (f s d) I I) (hr : ∀ s, JS X W Z rest (I s) (mr s) N L)
    (hI : I s0 = wipeG Γ vs := by kernel_rfl) (hZ : noOwn (wipeG Γ vs) Z' = true := by kernel_rfl) (hZZ : Z'.all (Z.contains ·) = true := by kernel_rfl) (hn : ∀ s, noOwn (I s) [i] = true := by intro _; kernel_rfl) (hs : ∀ x, foldedSetIterable iter X.env x = pure x := by intro _; rfl) :
    JS X W Z (.For (.Name x p1) iter body [] pos :: rest) Γ (bnd mi fun ds => endL (loopM f ds s0) mr) N L :=
  js_for (hZZ := hZZ) s0 vs hp hc hi hg hI hZ (fun s => tgt1 i (hn s)) (fun s d h => nomatch h) (fun s d Γ' h => by cases h; exact hb s d) hr hs
theorem js_for2 (i j : Nat) (s0 : U) (vs : List Nat) {f : U → D → D → M (Fl U U)} (hp : PassesOwn (model X.prog X.w) X.A X.env X.xe) (hc : X.calm = true) (hi : JI X W (.Tuple [.Name x p1, .Name y p2] kk tp) iter Γ mi) (hg1 : PG X (.Name x p1) (gName i)) (hg2 : PG X (.Name y p2) (gName j)) (hb : ∀ s a b, JS X W Z' body (((I s).set i (.dat a)).set j (.dat b)) (f s a b) I I) (hr : ∀ s, JS X W Z rest (I s) (mr s) N L)
    (hI : I s0 = wipeG Γ vs := by kernel_rfl) (hZ : noOwn (wipeG Γ vs) Z' = true := by kernel_rfl) (hZZ : Z'.all (Z.contains ·) = true := by kernel_rfl) (hn : ∀ s, noOwn (I s) [i] = true := by intro _; kernel_rfl) (hn2 : ∀ s, noOwn (I s) [j] = true := by intro _; kernel_rfl) (hs : ∀ x, foldedSetIterable iter X.env x = pure x := by intro _; rfl) :
    JS X W Z (.For (.Tuple [.Name x p1, .Name y p2] kk tp) iter body [] pos :: rest) Γ (bnd mi fun ds => endL (loopM (fun s => on2 (f s)) ds s0) mr) N L :=
  js_for s0 vs hp hc hi (pg_tup hc (pgs_cons hg1 (pgs_cons hg2 pgs_nil))) hI hZ (hZZ := hZZ) (fun s => tgt2 i j (hn s) (hn2 s)) (fun s d h => by
    unfold bt2 at h
    split at h <;> first | cases h | skip
    rename_i hne
    unfold on2
    split
    · exact (hne _ _ rfl).elim
    · rfl) (fun s d Γ' h => by
    unfold bt2 at h
    split at h <;> first | cases h | skip
    exact hb s _ _) hr hs
theorem js_for3 (i j l : Nat) (s0 : U) (vs : List Nat) {f : U → D → D → D → M (Fl U U)} (hp : PassesOwn (model X.prog X.w) X.A X.env X.xe) (hc : X.calm = true) (hi : JI X W (.Tuple [.Name x p1, .Name y p2, .Name z p3] kk tp) iter Γ mi) (hg1 : PG X (.Name x p1) (gName i)) (hg2 : PG X (.Name y p2) (gName j)) (hg3 : PG X (.Name z p3) (gName l)) (hb : ∀ s a b c, JS X W Z' body ((((I s).set i (.dat a)).set j (.dat b)).set l (.dat c)) (f s a b c) I I) (hr : ∀ s, JS X W Z rest (I s) (mr s) N L)
    (hI : I s0 = wipeG Γ vs := by kernel_rfl) (hZ : noOwn (wipeG Γ vs) Z' = true := by kernel_rfl) (hZZ : Z'.all (Z.contains ·) = true := by kernel_rfl) (hn : ∀ s, noOwn (I s) [i] = true := by intro _; kernel_rfl) (hn2 : ∀ s, noOwn (I s) [j] = true := by intro _; kernel_rfl) (hn3 : ∀ s, noOwn (I s) [l] = true := by intro _; kernel_rfl) (hs : ∀ x, foldedSetIterable iter X.env x = pure x := by intro _; rfl) :
    JS X W Z (.For (.Tuple [.Name x p1, .Name y p2, .Name z p3] kk tp) iter body [] pos :: rest) Γ (bnd mi fun ds => endL (loopM (fun s => on3 (f s)) ds s0) mr) N L :=
  js_for s0 vs hp hc hi (pg_tup hc (pgs_cons hg1 (pgs_cons hg2 (pgs_cons hg3 pgs_nil)))) hI hZ (hZZ := hZZ) (fun s => tgt3 i j l (hn s) (hn2 s) (hn3 s)) (fun s d h => by
    unfold bt3 at h
    split at h <;> first | cases h | skip
    rename_i hne
    unfold on3
    split
    · exact (hne _ _ _ rfl).elim
    · rfl) (fun s d Γ' h => by
    unfold bt3 at h
    split at h <;> first | cases h | skip
    exact hb s _ _ _) hr hs
/-! x op= e -/
theorem js_aug (i : Nat) {o : Operator} {r : R2} {f : D → D → Option D} {d0 : D} {mr : D → M (Fl S T)} (ho : OpR X (inplaceOp o) r) (ro : RO X r f) (he : JE X W e Γ me) (hN : X.N.Nodup) (hx : Loc X.env.scope x) (hr : ∀ d, JS X W Z rest (Γ.set i (.dat d)) (mr d) N L)
    (hs : Γ[i]? = some (Slot.dat d0) := by rfl) (hi : X.N[i]? = some x := by kernel_rfl) (hf : X.fn x = true ∨ X.env.scope.names.lookup x = some .local := by exact .inl rfl) :
    JS X W Z (.AugAssign (.Name x pos') o e pos :: rest) Γ (bnd me fun y => bnd (op (f d0 y)) mr) N L := fun F H σ hz E Dn hq => by
  refine PSs.wp (pss_cons (ps_aug hN hi hx pe_sem (ti := r) ho hf) pss_sem) ?_
  obtain ⟨y, h1, v, h2, h3⟩ := E.slot i _ hs
  subst h2
  refine ⟨v, h1, ?_⟩
  refine he.st E hq fun d u H1 e1 E1 r1 g1 => ?_
  have g2 := SpecM.post_ret (SpecM.post_bind g1)
  cases hfd : f d0 d with
  | none => rw [hfd] at g2; exact g2.elim
  | some w =>
    rw [hfd] at g2
    refine ro _ H1 v u d0 d w E1.osdom (h3.ext e1 fun a z => E.xk a z) r1 hfd _ fun v' H2 s2 r2 => ?_
    exact hr w F H2 _ hz ((E1.mono (.same s2)).dat i r2) Dn g2
end
end DE

set_option maxHeartbeats 4000000
namespace DE
open PySem PySem.Spec PyProof.Rows L2
variable [τ : TabCtx]
section
variable {M : Type → Type} [SpecM M] {X : Cx} {W : WX} {Γ : List Slot} {tpos pos p p2 : Pos} {elts : List Expr} {kk : Nat} {e : Expr} {ma : M D}
theorem ji_enumI (ha : JE X W e Γ ma) (hm : X.mg "enumerate" = none) (hg : Gl X "enumerate" := by (show _ = _); kernel_rfl) (hs : starEach [e] X.env = [(false, eval e X.env)] := by kernel_rfl) : JI X W (.Tuple elts kk tpos) (.Call (.Name "enumerate" p) [e] [] pos) Γ (bnd ma fun x => op (enumO x)) := fun F H σ E Q hq => by
  unfold wpI
  intro pins s I
  refine Call_ (ld_blt I hg hm boot_enumerate (PyProof.Rows.callWith_type1 (thn ((pa_cons pe_sem pa_nil hs).run pos pins s σ H (fun vs H1 => ∃ v, vs = [v] ∧ ∀ pins s, Inv X pins σ H1 s → ∀ u, RelV v u → wpAny (model X.prog X.w) X.A (call (.type "enumerate") [u]) (fun v s1 => wpAny (model X.prog X.w) X.A (pyIter v) (PIE X pins σ (.Tuple elts kk tpos) Q) X.xe s1) X.xe s) I ?_) fun us s1 ⟨vs, H1, I1, r1, v, ev, q1⟩ => ?_) hs rfl))
  · refine ha.bind E hq fun d v H1 e1 E1 r1 h1 => ⟨v, rfl, fun pins s I u ru => ?_⟩
    obtain ⟨xs, hz, q⟩ := post_ofO h1
    have sub : ∀ a, OS F σ Γ a → OS F σ Γ a := fun a z => z
    have fin : ∀ (c : Addr) (h' : Heap) (Jt : It) (tn : Nat → Heap → Prop), (∀ b x, s.heap.get? b = some x → h'.get? b = some x) → Turn X.prog X.w X.K (.Tuple elts kk tpos) Jt [s.heap.objs.size + 1, s.heap.objs.size] (s.heap.objs.size + 1) tn → tn 0 h' → Q Jt H1 →
        PIE X pins σ (.Tuple elts kk tpos) Q (.ref (s.heap.objs.size + 1)) { s with heap := h' } := fun c h' Jt tn hk T st qq => by
      refine ⟨_, [s.heap.objs.size + 1, s.heap.objs.size], _, _, H1, rfl, I.kept (t' := s.toks) hk, T, st, fun b hb => ?_, qq⟩
      have hle : s.heap.objs.size ≤ b := by
        rcases (show b = s.heap.objs.size + 1 ∨ b = s.heap.objs.size by simpa using hb) with z | z
        · rw [z]; exact Nat.le_succ _
        · rw [z]; exact Nat.le_refl _
      exact I.fpOk hle (I.hok.fresh hle)
    have tup : ∀ (c : Addr) (vs : List V) (es : List D), v = V.ref c → SqT X.K H1 c vs → Reps X.K X.mg (OS F σ Γ) H1 vs es → es.length ≤ maxL → xs = enumD 0 es → wpAny (model X.prog X.w) X.A (call (.type "enumerate") [u]) (fun v s1 => wpAny (model X.prog X.w) X.A (pyIter v) (PIE X pins σ (.Tuple elts kk tpos) Q) X.xe s1) X.xe s := fun c vs es hv h2 h3 hl hx => by
      subst hv hx
      cases ru
      obtain ⟨its, rv, pl, _⟩ := I.tuple h2
      have lc : c < s.heap.objs.size := pl.lt
      refine PySem.de_call_enum (PySem.begins_tuple c its.toArray) pl fun h' he hi hk => wpAny_pyIter_enum he ?_
      exact fin c h' _ _ hk (turn_enT c (s.heap.objs.size + 1) s.heap.objs.size (Nat.ne_of_lt lc) (Nat.ne_of_lt (Nat.lt_succ_of_lt lc))) ⟨⟨.none, he⟩, ⟨_, hi, rfl, rfl⟩, Nat.succ_ne_self _⟩ (q _ H1 .refl (yi_enT hl h2 h3 sub))
    have lst : ∀ (c : Addr) (vs : List V) (es : List D), v = V.ref c → (∀ M' H', (∀ a, M' a → OS F σ Γ a) → Ext M' F.Dc H1 H' → SqL X.K H' c vs) → Reps X.K X.mg (OS F σ Γ) H1 vs es → es.length ≤ maxL → xs = enumD 0 es → wpAny (model X.prog X.w) X.A (call (.type "enumerate") [u]) (fun v s1 => wpAny (model X.prog X.w) X.A (pyIter v) (PIE X pins σ (.Tuple elts kk tpos) Q) X.xe s1) X.xe s := fun c vs es hv h2 h3 hl hx => by
      subst hv hx
      cases ru
      obtain ⟨its, rv, pl, _⟩ := I.list (h2 (OS F σ Γ) H1 (fun _ z => z) .refl)
      refine PySem.de_call_enum (PySem.begins_list c its.toArray) pl.isList fun h' he hi hk => wpAny_pyIter_enum he ?_
      exact fin c h' _ _ hk (turn_enum c (s.heap.objs.size + 1) s.heap.objs.size) ⟨⟨.none, he⟩, ⟨_, hi, rfl, rfl⟩, Nat.succ_ne_self _⟩ (q _ H1 .refl (yi_enL hl h2 h3 sub))
    unfold enumO at hz
    cases hsq : seqO d with
    | none => rw [hsq] at hz; cases hz
    | some es =>
      rw [hsq] at hz
      cases hz
      cases d <;> first | cases hsq | skip
      · obtain ⟨c, vs, hv, h2, h3⟩ := r1.list
        simp only [seqO] at hsq
        split at hsq
        · cases hsq
          exact lst c vs _ hv (fun M' H' m e => lsA_all h2 M' H' m e) h3 ‹_› rfl
        · cases hsq
      · obtain ⟨c, vs, hv, h2, h3⟩ := r1.tuple
        simp only [seqO] at hsq
        split at hsq
        · cases hsq
          exact tup c vs _ hv h2 h3 ‹_› rfl
        · cases hsq
  · subst ev
    cases r1 with
    | cons r rr =>
      cases rr
      exact q1 pins s1 I1 _ r
end
end DE

set_option maxHeartbeats 4000000
namespace DE
open PySem PySem.Spec PyProof.Rows L2
variable [τ : TabCtx]
/-! what nobody reaches -/
section
variable {M : Type → Type} [SpecM M] {S T α β : Type} {X : Cx} {W : WX} {Z : List Nat} {Γ : List Slot} {N : S → List Slot} {L : T → List Slot} {sts : List Stmt} {e : Expr}
theorem js_bad : JS X W Z sts Γ (SpecM.ret (M := M) .bad) N L := fun F H σ hz E Dn hq => (SpecM.post_ret hq).elim
theorem j_bad {wp : L2.St → Hp → (β → Hp → Prop) → Prop} {Rp : Frm → (Addr → Prop) → Hp → β → α → Prop} : J X W Γ wp Rp (SpecM.ret (M := M) .bad) := fun F H σ E Q hq => (SpecM.post_ret hq).elim
theorem jf_bad : JF X W e Γ (SpecM.ret (M := M) .bad) := fun F H σ E Q hq => (SpecM.post_ret hq).elim
end
theorem uE {k : Nat} {A : Around} (r : Room k A) : A.units + 64 < cLine := by have := r.un; omega
theorem uE5 {k : Nat} {A : Around} (r : Room k A) : A.units + 65 < cLine := by have := r.un; omega
theorem uE0 {k : Nat} {A : Around} (r : Room k A) : A.units < cLine := by have := r.un; omega
def lst2 {M : Type → Type} [SpecM M] {α : Type} (f : D → D → M α) : List D → M α
  | [a, b] => f a b
  | _ => SpecM.ret .bad
def lst3 {M : Type → Type} [SpecM M] {α : Type} (f : D → D → D → M α) : List D → M α
  | [a, b, c] => f a b c
  | _ => SpecM.ret .bad
/-! a fresh list held back -/
abbrev Frm.hold (F : Frm) (p : Addr) : Frm := { F with O := fun a => F.O a ∨ a = p }
section
variable {K : PySem.W.Frag} {mg : Str → Option Value} {F : Frm} {H H2 : Hp} {σ : L2.St} {Γ : List Slot} {p : Addr} {xs : List V} {ds : List D}
theorem os_hold {a : Addr} : OS (F.hold p) σ Γ a ↔ OS F σ Γ a ∨ a = p := by
  constructor
  · rintro ((h | h) | h | h)
    · exact .inl (.inl h)
    · exact .inr h
    · exact .inl (.inr (.inl h))
    · exact .inl (.inr (.inr h))
  · rintro ((h | h | h) | h)
    · exact .inl (.inl h)
    · exact .inr (.inl h)
    · exact .inr (.inr h)
    · exact .inl (.inr h)
theorem Env.hide (E : DE.Env K mg F H σ Γ) (hp : H p = none) (xs : List V) : DE.Env K mg (F.hold p) (upd H p (.lst xs)) σ Γ := by
  have e : Ext F.Dc F.Dc H (upd H p (.lst xs)) := .new hp
  have E1 := E.mono e
  have mv : Mov K mg (OS F σ Γ) (OS (F.hold p) σ Γ) H (upd H p (.lst xs)) := by
    have m1 := mov_fresh (K := K) (mg := mg) (H := H) (O := OS F σ Γ) (O' := OS (F.hold p) σ Γ) fun a z => (os_hold.mp z).elim .inl fun q => .inr (q ▸ hp)
    have m2 := Ext.mov (K := K) (mg := mg) (O := OS (F.hold p) σ Γ) (Ext.new hp : Ext (fun _ => False) (fun _ => False) H (upd H p (.lst xs))) fun _ z => z.elim
    exact ⟨fun q => m2.t (m1.t q), fun q => m2.l (m1.l q), fun q => m2.d (m1.d q)⟩
  exact {
    ext := E1.ext
    subM := E.subM
    subO := fun a h => .inl (E.subO a h)
    dom := fun a h => h.elim (E1.dom a) fun q => by rw [q, upd_same]; exact fun z => nomatch z
    domM := E1.domM
    dic := E1.dic
    len := E.len
    slot := fun i s h => by
      obtain ⟨x, q1, q2⟩ := E.slot i s h
      refine ⟨x, q1, ?_⟩
      cases s with
      | any => trivial
      | dat d => obtain ⟨v, q3, q4⟩ := q2; exact ⟨v, q3, q4.mov mv⟩
      | own ds =>
        obtain ⟨a, ys, q3, q4, q5, q6, q7⟩ := q2
        have ne : a ≠ p := ne_of_none q6 hp
        exact ⟨a, ys, q3, fun z => z.elim q4 ne, q5, by rw [upd_ne ne]; exact q6, q7.mov mv⟩
      | dice => exact q2
    bM := E.bM
    tbs := E1.tbs
    apart := E.apart }
theorem Env.show_ (E : DE.Env K mg (F.hold p) H σ Γ) (i : Nat) (hi : i < Γ.length) (hw : F.nw i) (h0 : F.H0 p = none) (hM : ¬ F.M p) (hO : ¬ F.O p) (hp : H p = some (.lst xs)) (r : Reps K mg (OS (F.hold p) σ Γ) H xs ds) : DE.Env K mg F H (σ.set i (some (V.ref p))) (Γ.set i (.own ds)) := by
  have sub : ∀ a, OS F (σ.set i (some (V.ref p))) (Γ.set i (.own ds)) a → OS (F.hold p) σ Γ a := fun a z => by
    rcases z with z | z | ⟨j, es, z1, z2⟩
    · exact .inl (.inl z)
    · exact .inr (.inl z)
    · by_cases q : j = i
      · subst q
        rw [List.getElem?_set, if_pos rfl, if_pos (by rw [E.len]; exact hi)] at z2
        cases z2
        exact .inl (.inr rfl)
      · rw [List.getElem?_set_ne (Ne.symm q)] at z1 z2
        exact .inr (.inr ⟨j, es, z1, z2⟩)
  have old : ∀ {j : Nat} {es : List D} {a : Addr}, Γ[j]? = some (Slot.own es) → σ[j]? = some (some (V.ref a)) → a ≠ p := fun {j es a} g1 g2 z => by
    obtain ⟨x, q1, b, ys, q3, q4, _⟩ := E.slot j _ g1
    rw [g2] at q1
    cases q1
    cases q3
    exact q4 (.inr z)
  exact {
    ext := E.ext
    subM := E.subM
    subO := fun a h => by
      rcases E.subO a h with z | z
      · exact z
      · exact (hM (z ▸ E.subM a h)).elim
    dom := fun a h => E.dom a (.inl h)
    domM := E.domM
    dic := E.dic
    len := by rw [List.length_set, List.length_set]; exact E.len
    slot := fun j s h => by
      by_cases q : j = i
      · subst q
        rw [List.getElem?_set, if_pos rfl, if_pos hi] at h
        cases h
        exact ⟨_, by rw [List.getElem?_set, if_pos rfl, if_pos (by rw [E.len]; exact hi)], p, xs, rfl, hO, .inl ⟨h0, hM, hw⟩, hp, r.anti sub⟩
      · rw [List.getElem?_set_ne (Ne.symm q)] at h ⊢
        obtain ⟨x, q1, q2⟩ := E.slot j s h
        refine ⟨x, q1, ?_⟩
        cases s with
        | any => trivial
        | dat d => obtain ⟨v, q3, q4⟩ := q2; exact ⟨v, q3, q4.anti sub⟩
        | own ds => obtain ⟨a, ys, q3, q4, q5, q6, q7⟩ := q2; exact ⟨a, ys, q3, fun z => q4 (.inl z), q5, q6, q7.anti sub⟩
        | dice => exact q2
    bM := E.bM
    tbs := E.tbs
    apart := fun j l es gs a hjl h1 h2 h3 h4 => by
      have isP : ∀ {j : Nat} {es : List D}, (Γ.set i (.own ds))[j]? = some (Slot.own es) → (σ.set i (some (V.ref p)))[j]? = some (some (V.ref a)) → (j = i ∧ a = p) ∨ (j ≠ i ∧ Γ[j]? = some (Slot.own es) ∧ σ[j]? = some (some (V.ref a))) := fun {j es} g1 g2 => by
        by_cases q : j = i
        · subst q
          rw [List.getElem?_set, if_pos rfl, if_pos (by rw [E.len]; exact hi)] at g2
          cases g2
          exact .inl ⟨rfl, rfl⟩
        · rw [List.getElem?_set_ne (Ne.symm q)] at g1 g2
          exact .inr ⟨q, g1, g2⟩
      rcases isP h1 h3 with ⟨a1, a2⟩ | ⟨a1, a2, a3⟩
      · rcases isP h2 h4 with ⟨b1, b2⟩ | ⟨b1, b2, b3⟩
        · exact hjl (a1.trans b1.symm)
        · exact old b2 b3 a2
      · rcases isP h2 h4 with ⟨b1, b2⟩ | ⟨b1, b2, b3⟩
        · exact old a2 a3 b2
        · exact E.apart j l es gs a hjl a2 b2 a3 b3 }
end
section
variable {M : Type → Type} [SpecM M] {S T : Type} {X : Cx} {W : WX} {Z : List Nat} {Γ : List Slot} {N : S → List Slot} {L : T → List Slot} {a b c : Expr} {pos px py pz pt pt2 : Pos} {kt k2 : Nat} {rest : List Stmt} {x y z : Str} {F : Frm} {H : Hp} {σ : L2.St} {Dn : Ends}
/-- behind a held list -/
theorem PostS.hold {p : Addr} {r : Res (Fl S T)} : PostS X W F N L Dn r → (∀ d, r ≠ .ok d) → PostS X W (F.hold p) N L Dn r := fun h n => by
  cases r with
  | ok d => exact (n d rfl).elim
  | exc ε => exact fun cls dx σ' H' e q => h cls dx σ' H' e (q.anti fun a z => z.elim (fun z => .inl (.inl z)) .inr)
  | bad => exact h
theorem J.stH {α β : Type} {wp : L2.St → Hp → (β → Hp → Prop) → Prop} {Rp : Frm → (Addr → Prop) → Hp → β → α → Prop} {ma : M α} {p : Addr} (ja : J X W Γ wp Rp ma) (E : DE.Env X.K X.mg (F.hold p) H σ Γ) {f : α → M (Fl S T)} (h : SpecM.post (SpecM.bind ma f) (PostS X W F N L Dn))
    {Q : β → Hp → Prop} (k : ∀ a b H1, Ext F.Dc F.Dc H H1 → DE.Env X.K X.mg (F.hold p) H1 σ Γ → Rp (F.hold p) (OS (F.hold p) σ Γ) H1 b a → SpecM.post (f a) (PostS X W F N L Dn) → Q b H1) : wp σ H Q := by
  refine ja (F.hold p) H σ E Q (SpecM.mono (fun r hr => ?_) (SpecM.post_bind h))
  cases r with
  | ok a => exact fun b H1 e q => k a b H1 e (E.mono e) q hr
  | exc ε => exact exc_up (F := F.hold p) E fun cls dx σ' H' e q => hr cls dx σ' H' e (q.anti fun a z => z.elim (fun z => .inl (.inl z)) .inr)
  | bad => exact hr
theorem JF.stH {ma : M (List D)} {p : Addr} {e : Expr} (ja : JF X W e Γ ma) (E : DE.Env X.K X.mg (F.hold p) H σ Γ) {f : List D → M (Fl S T)} (h : SpecM.post (SpecM.bind ma f) (PostS X W F N L Dn))
    {Q : V → Hp → Prop} (k : ∀ ds q xs H1, Ext F.Dc F.Dc H H1 → DE.Env X.K X.mg (F.hold p) H1 σ Γ → H1 q = none → Reps X.K X.mg (OS (F.hold p) σ Γ) H1 xs ds → SpecM.post (f ds) (PostS X W F N L Dn) → Q (V.ref q) (upd H1 q (.lst xs))) : wpE X e σ H Q := by
  refine ja (F.hold p) H σ E Q (SpecM.mono (fun r hr => ?_) (SpecM.post_bind h))
  cases r with
  | ok a => exact fun p xs H1 e hp q => k a p xs H1 e (E.mono e) hp q hr
  | exc ε => exact exc_up (F := F.hold p) E fun cls dx σ' H' e q => hr cls dx σ' H' e (q.anti fun a z => z.elim (fun z => .inl (.inl z)) .inr)
  | bad => exact hr
theorem JF.st {ma : M (List D)} {e : Expr} (ja : JF X W e Γ ma) (E : DE.Env X.K X.mg F H σ Γ) {f : List D → M (Fl S T)} (h : SpecM.post (SpecM.bind ma f) (PostS X W F N L Dn))
    {Q : V → Hp → Prop} (k : ∀ ds q xs H1, Ext F.Dc F.Dc H H1 → DE.Env X.K X.mg F H1 σ Γ → H1 q = none → Reps X.K X.mg (OS F σ Γ) H1 xs ds → SpecM.post (f ds) (PostS X W F N L Dn) → Q (V.ref q) (upd H1 q (.lst xs))) : wpE X e σ H Q := JFR.st (t := wpE X e) ja E h k
theorem js_par2 (i j : Nat) {ma : M (List D)} {mr : D → D → M (Fl S T)} (hc : X.calm = true) (hN : X.N.Nodup) (ja : JA X W [a, b] Γ ma) (hr : ∀ d e, JS X W Z rest ((Γ.set i (.dat d)).set j (.dat e)) (mr d e) N L)
    (hi : X.N[i]? = some x := by kernel_rfl) (hj : X.N[j]? = some y := by kernel_rfl) (hij : i ≠ j := by decide) (hx : X.env.scope.names.lookup x = some .local := by kernel_rfl) (hy : X.env.scope.names.lookup y = some .local := by kernel_rfl)
    (hw : swappedStores [.Tuple [.Name x px, .Name y py] kt pt] (.Tuple [a, b] k2 pt2) X.env = pure (some [x, y]) := by kernel_rfl) (hs : swapsWithSole [.Tuple [.Name x px, .Name y py] kt pt] (.Tuple [a, b] k2 pt2) pos.line X.env = pure false := by kernel_rfl) :
    JS X W Z (.Assign [.Tuple [.Name x px, .Name y py] kt pt] (.Tuple [a, b] k2 pt2) pos :: rest) Γ (bnd ma (lst2 mr)) N L := fun F H σ hz E Dn hq => by
  refine PSs.wp (pss_cons (ps_par hc hN hi hj hij hx hy pa_sem hw hs) pss_sem) ?_
  refine ja.st E hq fun ds vs H1 e1 E1 r1 g1 => ?_
  unfold lst2 at g1
  split at g1
  · obtain ⟨u, q1, rfl, k3, k4⟩ := r1.cons_of
    obtain ⟨w, q2, rfl, k5, k6⟩ := k4.cons_of
    rw [k6.nil_of]
    exact ⟨u, w, rfl, hr _ _ F _ _ hz ((E1.dat i k3).dat j (k5.anti fun a z => os_set (fun _ q => by cases q) z)) Dn g1⟩
  · exact (SpecM.post_ret g1).elim
theorem js_par3 (i j l : Nat) {ma : M (List D)} {mr : D → D → D → M (Fl S T)} (hc : X.calm = true) (hN : X.N.Nodup) (ja : JA X W [a, b, c] Γ ma) (hr : ∀ d e f, JS X W Z rest (((Γ.set i (.dat d)).set j (.dat e)).set l (.dat f)) (mr d e f) N L)
    (hi : X.N[i]? = some x := by kernel_rfl) (hj : X.N[j]? = some y := by kernel_rfl) (hl : X.N[l]? = some z := by kernel_rfl) (hij : i ≠ j := by decide) (hil : i ≠ l := by decide) (hjl : j ≠ l := by decide)
    (hx : X.env.scope.names.lookup x = some .local := by kernel_rfl) (hy : X.env.scope.names.lookup y = some .local := by kernel_rfl) (hzz : X.env.scope.names.lookup z = some .local := by kernel_rfl)
    (hw : swappedStores [.Tuple [.Name x px, .Name y py, .Name z pz] kt pt] (.Tuple [a, b, c] k2 pt2) X.env = pure (some [x, y, z]) := by kernel_rfl) (hs : swapsWithSole [.Tuple [.Name x px, .Name y py, .Name z pz] kt pt] (.Tuple [a, b, c] k2 pt2) pos.line X.env = pure false := by kernel_rfl) :
    JS X W Z (.Assign [.Tuple [.Name x px, .Name y py, .Name z pz] kt pt] (.Tuple [a, b, c] k2 pt2) pos :: rest) Γ (bnd ma (lst3 mr)) N L := fun F H σ hz E Dn hq => by
  refine PSs.wp (pss_cons (ps_par3 hc hN hi hj hl hij hil hjl hx hy hzz pa_sem hw hs) pss_sem) ?_
  refine ja.st E hq fun ds vs H1 e1 E1 r1 g1 => ?_
  unfold lst3 at g1
  split at g1
  · obtain ⟨u, q1, rfl, k3, k4⟩ := r1.cons_of
    obtain ⟨w, q2, rfl, k5, k6⟩ := k4.cons_of
    obtain ⟨t, q3, rfl, k7, k8⟩ := k6.cons_of
    rw [k8.nil_of]
    exact ⟨u, w, t, rfl, hr _ _ _ F _ _ hz (((E1.dat i k3).dat j (k5.anti fun a z => os_set (fun _ q => by cases q) z)).dat l (k7.anti fun a z => os_set (fun _ q => by cases q) (os_set (fun _ q => by cases q) z))) Dn g1⟩
  · exact (SpecM.post_ret g1).elim
/-- own, datum -/
theorem js_par10 (i j : Nat) {ma : M (List D)} {mb : M D} {mr : List D → D → M (Fl S T)} (hc : X.calm = true) (hN : X.N.Nodup) (ja : JF X W a Γ ma) (jb : JE X W b Γ mb) (hr : ∀ d e, JS X W Z rest ((Γ.set i (.own d)).set j (.dat e)) (mr d e) N L)
    (hi : X.N[i]? = some x := by kernel_rfl) (hj : X.N[j]? = some y := by kernel_rfl) (hij : i ≠ j := by decide) (hl : i < Γ.length := by exact of_decide_eq_true (by kernel_rfl)) (hiZ : i ∈ Z := by decide) (hx : X.env.scope.names.lookup x = some .local := by kernel_rfl) (hy : X.env.scope.names.lookup y = some .local := by kernel_rfl)
    (h1 : starEach [a, b] X.env = (false, eval a X.env) :: starEach [b] X.env := by kernel_rfl) (h2 : starEach [b] X.env = (false, eval b X.env) :: starEach [] X.env := by kernel_rfl)
    (hw : swappedStores [.Tuple [.Name x px, .Name y py] kt pt] (.Tuple [a, b] k2 pt2) X.env = pure (some [x, y]) := by kernel_rfl) (hs : swapsWithSole [.Tuple [.Name x px, .Name y py] kt pt] (.Tuple [a, b] k2 pt2) pos.line X.env = pure false := by kernel_rfl) :
    JS X W Z (.Assign [.Tuple [.Name x px, .Name y py] kt pt] (.Tuple [a, b] k2 pt2) pos :: rest) Γ (bnd ma fun d => bnd mb fun e => mr d e) N L := fun F H σ hz E Dn hq => by
  refine PSs.wp (pss_cons (ps_par hc hN hi hj hij hx hy (pa_cons pe_sem (pa_cons pe_sem pa_nil h2) h1) hw hs) pss_sem) ?_
  refine JF.st ja E hq fun ds p xs H1 e1 E1 hp r1 g1 => ?_
  have nO := E1.fresh hp
  have h0 : F.H0 p = none := by
    cases hx0 : F.H0 p with
    | none => rfl
    | some o => exact (E1.ext.there p (by rw [hx0]; exact fun z => nomatch z) hp).elim
  refine jb.stH (E1.hide hp xs) g1 fun d v H2 e2 E2 r2 g2 => ?_
  have hp2 : H2 p = some (.lst xs) := e2.keep _ _ (fun z => nO (.inl (E1.subO p z))) (fun _ z => nomatch z) upd_same
  have mv : Reps X.K X.mg (OS (F.hold p) σ Γ) (upd H1 p (.lst xs)) xs ds := (r1.mov (mov_fresh fun a z => (os_hold.mp z).elim .inl fun q => .inr (q ▸ hp))).ext (Ext.new hp : Ext (fun _ => False) (fun _ => False) _ _) fun _ z => z.elim
  have E3 := E2.show_ i hl (hz i hiZ).2 h0 (fun z => nO (.inr (.inl z))) (fun z => nO (.inl z)) hp2 (mv.ext e2 fun a z => os_hold.mpr (.inl (E1.xk a z)))
  refine ⟨_, _, rfl, hr ds d F _ _ hz (E3.dat j (r2.anti fun a z => ?_)) Dn g2⟩
  rcases z with z | z | ⟨l, es, z1, z2⟩
  · exact .inl (.inl z)
  · exact .inr (.inl z)
  · by_cases q : l = i
    · subst q
      rw [List.getElem?_set, if_pos rfl, if_pos (by rw [E.len]; exact hl)] at z2
      cases z2
      exact .inl (.inr rfl)
    · rw [List.getElem?_set_ne (Ne.symm q)] at z1 z2
      exact .inr (.inr ⟨l, es, z1, z2⟩)
/-- datum, own -/
theorem js_par01 (i j : Nat) {ma : M D} {mb : M (List D)} {mr : D → List D → M (Fl S T)} (hc : X.calm = true) (hN : X.N.Nodup) (ja : JE X W a Γ ma) (jb : JF X W b Γ mb) (hr : ∀ d e, JS X W Z rest ((Γ.set i (.dat d)).set j (.own e)) (mr d e) N L)
    (hi : X.N[i]? = some x := by kernel_rfl) (hj : X.N[j]? = some y := by kernel_rfl) (hij : i ≠ j := by decide) (hl : j < (Γ.set i .any).length := by exact of_decide_eq_true (by kernel_rfl)) (hjZ : j ∈ Z := by decide) (hx : X.env.scope.names.lookup x = some .local := by kernel_rfl) (hy : X.env.scope.names.lookup y = some .local := by kernel_rfl)
    (h1 : starEach [a, b] X.env = (false, eval a X.env) :: starEach [b] X.env := by kernel_rfl) (h2 : starEach [b] X.env = (false, eval b X.env) :: starEach [] X.env := by kernel_rfl)
    (hw : swappedStores [.Tuple [.Name x px, .Name y py] kt pt] (.Tuple [a, b] k2 pt2) X.env = pure (some [x, y]) := by kernel_rfl) (hs : swapsWithSole [.Tuple [.Name x px, .Name y py] kt pt] (.Tuple [a, b] k2 pt2) pos.line X.env = pure false := by kernel_rfl) :
    JS X W Z (.Assign [.Tuple [.Name x px, .Name y py] kt pt] (.Tuple [a, b] k2 pt2) pos :: rest) Γ (bnd ma fun d => bnd mb fun e => mr d e) N L := fun F H σ hz E Dn hq => by
  refine PSs.wp (pss_cons (ps_par hc hN hi hj hij hx hy (pa_cons pe_sem (pa_cons pe_sem pa_nil h2) h1) hw hs) pss_sem) ?_
  refine ja.st E hq fun d v H1 e1 E1 r1 g1 => ?_
  refine JF.st jb E1 g1 fun ds p xs H2 e2 E2 hp r2 g2 => ?_
  have E3 := E2.dat i (r1.ext e2 fun a z => E.xk a z)
  have hl' : j < (Γ.set i (.dat d)).length := by rw [List.length_set] at hl ⊢; exact hl
  exact ⟨_, _, rfl, hr d ds F _ _ hz (E3.ownNew j hl' (hz j hjZ).2 hp (r2.anti fun a z => os_set (fun _ q => by cases q) z)) Dn g2⟩
/-- own, own -/
theorem js_par11 (i j : Nat) {ma : M (List D)} {mb : M (List D)} {mr : List D → List D → M (Fl S T)} (hc : X.calm = true) (hN : X.N.Nodup) (ja : JF X W a Γ ma) (jb : JF X W b Γ mb) (hr : ∀ d e, JS X W Z rest ((Γ.set i (.own d)).set j (.own e)) (mr d e) N L)
    (hi : X.N[i]? = some x := by kernel_rfl) (hj : X.N[j]? = some y := by kernel_rfl) (hij : i ≠ j := by decide) (hli : i < Γ.length := by exact of_decide_eq_true (by kernel_rfl)) (hiZ : i ∈ Z := by decide) (hl : j < (Γ.set i .any).length := by exact of_decide_eq_true (by kernel_rfl)) (hjZ : j ∈ Z := by decide) (hx : X.env.scope.names.lookup x = some .local := by kernel_rfl) (hy : X.env.scope.names.lookup y = some .local := by kernel_rfl)
    (h1 : starEach [a, b] X.env = (false, eval a X.env) :: starEach [b] X.env := by kernel_rfl) (h2 : starEach [b] X.env = (false, eval b X.env) :: starEach [] X.env := by kernel_rfl)
    (hw : swappedStores [.Tuple [.Name x px, .Name y py] kt pt] (.Tuple [a, b] k2 pt2) X.env = pure (some [x, y]) := by kernel_rfl) (hs : swapsWithSole [.Tuple [.Name x px, .Name y py] kt pt] (.Tuple [a, b] k2 pt2) pos.line X.env = pure false := by kernel_rfl) :
    JS X W Z (.Assign [.Tuple [.Name x px, .Name y py] kt pt] (.Tuple [a, b] k2 pt2) pos :: rest) Γ (bnd ma fun d => bnd mb fun e => mr d e) N L := fun F H σ hz E Dn hq => by
  refine PSs.wp (pss_cons (ps_par hc hN hi hj hij hx hy (pa_cons pe_sem (pa_cons pe_sem pa_nil h2) h1) hw hs) pss_sem) ?_
  refine JF.st ja E hq fun ds p xs H1 e1 E1 hp r1 g1 => ?_
  have nO := E1.fresh hp
  have h0 : F.H0 p = none := by
    cases hx0 : F.H0 p with
    | none => rfl
    | some o => exact (E1.ext.there p (by rw [hx0]; exact fun z => nomatch z) hp).elim
  refine JF.stH jb (E1.hide hp xs) g1 fun d p2 ys H2 e2 E2 hq2 r2 g2 => ?_
  have hp2 : H2 p = some (.lst xs) := e2.keep _ _ (fun z => nO (.inl (E1.subO p z))) (fun _ z => nomatch z) upd_same
  have mv : Reps X.K X.mg (OS (F.hold p) σ Γ) (upd H1 p (.lst xs)) xs ds := (r1.mov (mov_fresh fun a z => (os_hold.mp z).elim .inl fun q => .inr (q ▸ hp))).ext (Ext.new hp : Ext (fun _ => False) (fun _ => False) _ _) fun _ z => z.elim
  have E3 := E2.show_ i hli (hz i hiZ).2 h0 (fun z => nO (.inr (.inl z))) (fun z => nO (.inl z)) hp2 (mv.ext e2 fun a z => os_hold.mpr (.inl (E1.xk a z)))
  have hl' : j < (Γ.set i (.own ds)).length := by rw [List.length_set] at hl ⊢; exact hl
  refine ⟨_, _, rfl, hr ds d F _ _ hz (E3.ownNew j hl' (hz j hjZ).2 hq2 (r2.anti fun a z => ?_)) Dn g2⟩
  rcases z with z | z | ⟨l, es, z1, z2⟩
  · exact .inl (.inl z)
  · exact .inr (.inl z)
  · by_cases q : l = i
    · subst q
      rw [List.getElem?_set, if_pos rfl, if_pos (by rw [E.len]; exact hli)] at z2
      cases z2
      exact .inl (.inr rfl)
    · rw [List.getElem?_set_ne (Ne.symm q)] at z1 z2
      exact .inr (.inr ⟨l, es, z1, z2⟩)
end
end DE

set_option maxHeartbeats 4000000
namespace DE
open PySem PySem.Spec PyProof.Rows L2
variable [τ : TabCtx]
section
variable {M : Type → Type} [SpecM M] {S T : Type} {X : Cx} {W : WX} {Z : List Nat} {Γ : List Slot} {N : S → List Slot} {L : T → List Slot} {a e : Expr} {pos apos cpos p1 p2 : Pos} {rest : List Stmt} {x : Str} {me : M D}
theorem js_appP (i : Nat) {ds : List D} {mr : D → M (Fl S T)} (he : JE X W e Γ me) (hv : Vis X.env.scope x) (hr : ∀ d, JS X W Z rest (Γ.set i (.own (ds ++ [d]))) (mr d) N L) (hs : Γ[i]? = some (Slot.own ds) := by rfl) (hN : X.N[i]? = some x := by kernel_rfl)
    (hd : (x == ("__debug__" : Str)) = false := by kernel_rfl) (hcd : (x == ("__classdict__" : Str)) = false := by kernel_rfl) (hst : starEach [e] X.env = (false, eval e X.env) :: starEach [] X.env := by kernel_rfl)
    (hsw : swapsWith (.Call (.Attribute (.Name x p1) "append" apos) [e] [] cpos) none pos.line X.env = pure false := by kernel_rfl) (hpl : (backTo cpos (starEach [] X.env)).any (·.1) = false := by kernel_rfl)
    (hfew : ((backTo cpos (starEach [e] X.env)).all (fun x => !x.1) && (backToKw cpos (keywordEach [] X.env)).all (fun x => x.1.isSome) && decide ([e].length + ([] : List Keyword).length + (if ([] : List Keyword).isEmpty then 0 else 1) < 30)) = true := by kernel_rfl) (hln : (apos.endLine == cpos.line) = true := by kernel_rfl)
    (hba : attributeBase (.Name x p1) "append" X.env (eval (.Name x p1) X.env) = eval (.Name x p1) X.env := by kernel_rfl) :
    JS X W Z (.Expr (.Call (.Attribute (.Name x p1) "append" apos) [e] [] cpos) pos :: rest) Γ (bnd me fun d => bnd (op (if ds.length < maxL then some () else none)) fun _ => mr d) N L :=
  js_app i hs he hN hv hd hcd (fun t ta h1 h2 => pe_bm PySem.F.plainAttrs_list PySem.F.slot_list_append PySem.F.type_list_append mt_append h1 (pa_cons h2 pa_nil hst) hba hfew hln hst hpl) hsw hr
theorem js_extP (i : Nat) {ds : List D} {mr : List D → M (Fl S T)} (he : JE X W e Γ me) (hv : Vis X.env.scope x) (hr : ∀ d, JS X W Z rest (Γ.set i (.own (ds ++ d))) (mr d) N L) (hs : Γ[i]? = some (Slot.own ds) := by rfl) (hN : X.N[i]? = some x := by kernel_rfl)
    (hd : (x == ("__debug__" : Str)) = false := by kernel_rfl) (hcd : (x == ("__classdict__" : Str)) = false := by kernel_rfl) (hst : starEach [e] X.env = (false, eval e X.env) :: starEach [] X.env := by kernel_rfl)
    (hsw : swapsWith (.Call (.Attribute (.Name x p1) "extend" apos) [e] [] cpos) none pos.line X.env = pure false := by kernel_rfl) (hpl : (backTo cpos (starEach [] X.env)).any (·.1) = false := by kernel_rfl)
    (hfew : ((backTo cpos (starEach [e] X.env)).all (fun x => !x.1) && (backToKw cpos (keywordEach [] X.env)).all (fun x => x.1.isSome) && decide ([e].length + ([] : List Keyword).length + (if ([] : List Keyword).isEmpty then 0 else 1) < 30)) = true := by kernel_rfl) (hln : (apos.endLine == cpos.line) = true := by kernel_rfl)
    (hba : attributeBase (.Name x p1) "extend" X.env (eval (.Name x p1) X.env) = eval (.Name x p1) X.env := by kernel_rfl) :
    JS X W Z (.Expr (.Call (.Attribute (.Name x p1) "extend" apos) [e] [] cpos) pos :: rest) Γ (bnd me fun d => bnd (op ((listO d).bind fun es => if ds.length + es.length ≤ maxL then some es else none)) mr) N L :=
  js_ext i hs he hN hv hd hcd (fun t ta h1 h2 => pe_bm PySem.F.plainAttrs_list PySem.F.slot_list_extend PySem.F.type_list_extend mt_extend h1 (pa_cons h2 pa_nil hst) hba hfew hln hst hpl) hsw hr
end
end DE

set_option maxHeartbeats 4000000
namespace DE
open PySem PySem.Spec PyProof.Rows L2
variable [τ : TabCtx]
/-! a list of one number, handed down as the last argument -/
def PostSt (K : PySem.W.Frag) (mg : Str → Option Value) (O : Addr → Prop) (a : Addr) (H : Hp) (Q : VK) (E : XK) : Res (D × Int) → Prop
  | .ok (d, c) => ∀ v H', Ext (fun b => b = a) (fun _ => False) H H' → H' a = some (.lst [.int c]) → Rep K mg O H' v d → Q v H'
  | .exc ε => ∀ cls dx H', Ext (fun b => b = a) (fun _ => False) H H' → ExcRep K mg O ε cls dx H' → E cls dx H'
  | .bad => False
def spS (K : PySem.W.Frag) (mg : Str → Option Value) (n : Nat) (m : List D → Int → Res (D × Int)) : Sp := fun vs H Q E =>
  ∃ (O : Addr → Prop) (us : List V) (a : Addr) (ds : List D) (c : Int), vs = us ++ [V.ref a] ∧ us.length = n ∧ O a ∧ H a = some (.lst [.int c]) ∧ TabsOK H ∧ (∀ b, O b → H b ≠ none) ∧ Reps K mg O H us ds ∧ PostSt K mg O a H Q E (m ds c)
structure DefS (P : Program) (w : World) (K : PySem.W.Frag) (mg : Str → Option Value) (base : Heap) (x : Str) (k n : Nat) (m : List D → Int → Res (D × Int)) : Prop where
  ex : ∃ (f : Addr) (fd : FuncData) (ps : List Str), mg x = some (Value.ref f) ∧ PySem.W.keepIn K (.ref f) = true ∧ Binds K fd ps [] ∧ FnOk P w K mg base (L2.CX P w) k f fd ps (spS K mg n m) ∧ ∀ ds c, ds.length ≠ n → m ds c = .bad
/-! heaps -/
theorem Ext.at {M D1 : Addr → Prop} {H H' : Hp} {a : Addr} {ws ys : List V} (h0 : H a = some (.lst ws)) (e : Ext (fun b => b = a) (fun _ => False) H H') (h1 : H' a = some (.lst ys)) : Ext M D1 (upd H a (.lst ys)) H' := by
  have nx : ∀ b o, (upd H a (.lst ys)) b = some o → (∀ zs, o ≠ .lst zs) → (∀ ps, o ≠ .tbl ps) → H' b = some o := fun b o h n t => by
    by_cases q : b = a
    · rw [q, upd_same] at h; exact (n ys (Option.some.inj h).symm).elim
    · rw [upd_ne q] at h; exact e.keep b o q t h
  exact {
    keep := fun b o _ t h => by
      by_cases q : b = a
      · rw [q, upd_same] at h; rw [q, h1]; exact h
      · rw [upd_ne q] at h; exact e.keep b o q t h
    there := fun b h => by
      by_cases q : b = a
      · rw [q, h1]; exact fun z => nomatch z
      · rw [upd_ne q] at h; exact e.there b h
    tups := fun b xs h => nx b _ h (fun _ z => nomatch z) (fun _ z => nomatch z)
    frzs := fun b o u h => nx b _ h (fun _ z => nomatch z) (fun _ z => nomatch z)
    dice := fun b _ ⟨x, y, z, h⟩ => by
      by_cases q : b = a
      · refine ⟨x, y, z, ?_⟩
        rw [q, upd_same] at h; rw [q, h1]; exact h
      · rw [upd_ne q] at h; exact ⟨x, y, z, e.keep b _ q (fun _ z => nomatch z) h⟩
    tabs := fun P q hT t => e.tabs P q hT (by
      obtain ⟨ps, t1, t2, t3⟩ := t
      have back : ∀ b o, (upd H a (.lst ys)) b = some o → (∀ zs, o ≠ .lst zs) → H b = some o := fun b o h n => by
        by_cases q : b = a
        · rw [q, upd_same] at h; exact (n ys (Option.some.inj h).symm).elim
        · rw [upd_ne q] at h; exact h
      exact ⟨ps, back _ _ t1 (fun _ z => nomatch z), t2, fun pos cv hc => by
        obtain ⟨c, t4, t5⟩ := t3 pos cv hc
        exact ⟨c, t4, back _ _ t5 (fun _ z => nomatch z)⟩⟩) }
theorem Ext.own {M Dc : Addr → Prop} {H0 H H' : Hp} {a : Addr} (e0 : Ext M Dc H0 H) (hd : ∀ b, Dc b → b ≠ a) (ha : H0 a = none ∨ M a) (e : Ext (fun b => b = a) (fun _ => False) H H') : Ext M Dc H0 H' where
  keep := fun b o m t h => by
    have q : b ≠ a := fun z => ha.elim (fun k => by rw [z, k] at h; cases h) fun k => m (z ▸ k)
    exact e.keep b o q t (e0.keep b o m t h)
  there := fun b h => e.there b (e0.there b h)
  tups := fun b xs h => e.tups b xs (e0.tups b xs h)
  frzs := fun b o u h => e.frzs b o u (e0.frzs b o u h)
  dice := fun b d h => by
    obtain ⟨x, y, z, h⟩ := e0.dice b d h
    exact ⟨x, y, z, e.keep b _ (hd b d) (fun _ z => nomatch z) h⟩
  tabs := fun P q hT t => e.tabs P q hT (e0.tabs P q hT t)
theorem one_int {K : PySem.W.Frag} {mg : Str → Option Value} {O : Addr → Prop} {H : Hp} {xs : List V} {c : Int} (h : Reps K mg O H xs [.int c]) : xs = [.int c] := by
  obtain ⟨v, r, rfl, h1, h2⟩ := h.cons_of
  rw [h1.toInt, h2.nil_of]
section
variable {K : PySem.W.Frag} {mg : Str → Option Value} {F : Frm} {H H' : Hp} {σ : L2.St} {Γ : List Slot} {j : Nat} {c c' : Int} {a : Addr}
theorem Env.stp (E : DE.Env K mg F H σ Γ) (hs : Γ[j]? = some (Slot.own [.int c])) : ∃ a, σ[j]? = some (some (V.ref a)) ∧ OS F σ Γ a ∧ H a = some (.lst [.int c]) ∧ (∀ b, F.Dc b → b ≠ a) ∧ (F.H0 a = none ∨ F.M a) := by
  obtain ⟨x, q1, a, xs, q2, q3, q4, q5, q6⟩ := E.slot j _ hs
  subst q2
  rw [one_int q6] at q5
  exact ⟨a, q1, .inr (.inr ⟨j, _, hs, q1⟩), q5, fun b d z => q3 (E.subO a (z ▸ d)), q4.elim (fun z => .inl z.1) fun z => .inr (E.bM _ _ z)⟩
theorem Env.ownCall (E : DE.Env K mg F H σ Γ) (hs : Γ[j]? = some (Slot.own [.int c])) (hv : σ[j]? = some (some (V.ref a))) (h0 : H a = some (.lst [.int c])) (e : Ext (fun b => b = a) (fun _ => False) H H') (h1 : H' a = some (.lst [.int c'])) : DE.Env K mg F H' σ (Γ.set j (.own [.int c'])) :=
  (E.ownWr hs hv h0 (.cons (.int c') .nil)).mono (Ext.at h0 e h1)
theorem os_own (hs : Γ[j]? = some (Slot.own [.int c])) {b : Addr} (h : OS F σ (Γ.set j (.own [.int c'])) b) : OS F σ Γ b := by
  rcases h with h | h | ⟨i, es, h1, h2⟩
  · exact .inl h
  · exact .inr (.inl h)
  · by_cases q : i = j
    · subst q; exact .inr (.inr ⟨i, _, hs, h2⟩)
    · rw [List.getElem?_set_ne (Ne.symm q)] at h1; exact .inr (.inr ⟨i, es, h1, h2⟩)
end
/-! arguments, the list last -/
def JAO {M : Type → Type} [SpecM M] (X : Cx) (W : WX) (es : List Expr) (Γ : List Slot) (j : Nat) (m : M (List D)) : Prop := ∀ (F : Frm) (H : Hp) (σ : L2.St) (a : Addr), DE.Env X.K X.mg F H σ Γ → σ[j]? = some (some (V.ref a)) → ∀ Q : List V → Hp → Prop,
  SpecM.post m (Post X.K X.mg W F (OS F σ Γ) σ H (fun H vs ds => Reps X.K X.mg (OS F σ Γ) H vs ds) (fun vs H1 => Q (vs ++ [V.ref a]) H1)) → wpA X es σ H Q
def JAF {M : Type → Type} [SpecM M] (X : Cx) (W : WX) (es : List Expr) (Γ : List Slot) (m : M (List D × D)) : Prop := ∀ (F : Frm) (H : Hp) (σ : L2.St), DE.Env X.K X.mg F H σ Γ → ∀ Q : List V → Hp → Prop,
  SpecM.post m (fun r => match r with
    | .ok (ds, d) => ∀ (vs : List V) (v : V) (p : Addr) (H1 : Hp), Ext F.Dc F.Dc H H1 → H1 p = none → Reps X.K X.mg (OS F σ Γ) H1 vs ds → Rep X.K X.mg (OS F σ Γ) H1 v d → Q (vs ++ [V.ref p]) (upd H1 p (.lst [v]))
    | .exc ε => ∀ cls dx H1, Ext F.Dc F.Dc H H1 → ExcRep X.K X.mg (OS F σ Γ) ε cls dx H1 → W cls dx σ H1
    | .bad => False) → wpA X es σ H Q
section
variable {M : Type → Type} [SpecM M] {S T : Type} {X : Cx} {W : WX} {Z : List Nat} {Γ : List Slot} {N : S → List Slot} {L : T → List Slot} {e : Expr} {es : List Expr} {pos pos' p p1 p2 tpos : Pos} {rest : List Stmt} {x y : Str} {me : M D} {j k n q : Nat}
theorem jao_last (hN : X.N[j]? = some y := by kernel_rfl) (hv : Vis X.env.scope y) (hd : (y == ("__debug__" : Str)) = false := by kernel_rfl) (hcd : (y == ("__classdict__" : Str)) = false := by kernel_rfl) (hst : starEach [.Name y p] X.env = (false, eval (.Name y p) X.env) :: starEach [] X.env := by kernel_rfl) : JAO X W [.Name y p] Γ j (ok (M := M) []) := fun F H σ a E hs Q hq => by
  refine PA.wp (pa_cons (pe_var hN hv hd hcd) pa_nil hst) ?_
  exact ⟨_, hs, post_ok hq [] H .refl .nil⟩
theorem jao_cons {mr : M (List D)} (he : JE X W e Γ me) (hr : JAO X W es Γ j mr) (hst : starEach (e :: es) X.env = (false, eval e X.env) :: starEach es X.env := by kernel_rfl) : JAO X W (e :: es) Γ j (bnd me fun d => bnd mr fun ds => ok (d :: ds)) := fun F H σ a E hs Q hq => by
  refine PA.wp (pa_cons pe_sem pa_sem hst) ?_
  refine he F H σ E _ (SpecM.mono (fun r hr2 => ?_) (SpecM.post_bind hq))
  cases r with
  | bad => exact hr2
  | exc ε => exact hr2
  | ok d =>
    intro v H1 e1 r1
    have E1 := E.mono e1
    refine hr F H1 σ a E1 hs _ (SpecM.mono (fun r hr3 => ?_) (SpecM.post_bind hr2))
    cases r with
    | bad => exact hr3
    | exc ε => exact fun cls dx H2 e2 q => hr3 cls dx H2 (e1.trans e2) q
    | ok ds =>
      intro vs H2 e2 r2
      exact SpecM.post_ret hr3 (v :: vs) H2 (e1.trans e2) (.cons (r1.ext e2 fun a z => E.xk a z) r2)
theorem jaf_last (he : JE X W e Γ me) (hst : starEach [.List [e] p] X.env = (false, eval (.List [e] p) X.env) :: starEach [] X.env := by kernel_rfl) (hst2 : starEach [e] X.env = (false, eval e X.env) :: starEach [] X.env := by kernel_rfl) : JAF X W [.List [e] p] Γ (bnd me fun d => ok ([], d)) := fun F H σ E Q hq => by
  refine PA.wp (pa_cons (pe_lst (pa_cons pe_sem pa_nil hst2)) pa_nil hst) ?_
  refine he F H σ E _ (SpecM.mono (fun r hr2 => ?_) (SpecM.post_bind hq))
  cases r with
  | bad => exact hr2
  | exc ε => exact hr2
  | ok d =>
    intro v H1 e1 r1
    exact ⟨(by rw [sizeLine_eq]; show 1 ≤ _; omega), fun p hp => SpecM.post_ret hr2 [] v p H1 e1 hp .nil r1⟩
theorem jaf_cons {mr : M (List D × D)} (he : JE X W e Γ me) (hr : JAF X W es Γ mr) (hst : starEach (e :: es) X.env = (false, eval e X.env) :: starEach es X.env := by kernel_rfl) : JAF X W (e :: es) Γ (bnd me fun d => bnd mr fun ds => ok (d :: ds.1, ds.2)) := fun F H σ E Q hq => by
  refine PA.wp (pa_cons pe_sem pa_sem hst) ?_
  refine he F H σ E _ (SpecM.mono (fun r hr2 => ?_) (SpecM.post_bind hq))
  cases r with
  | bad => exact hr2
  | exc ε => exact hr2
  | ok d =>
    intro v H1 e1 r1
    have E1 := E.mono e1
    refine hr F H1 σ E1 _ (SpecM.mono (fun r hr3 => ?_) (SpecM.post_bind hr2))
    cases r with
    | bad => exact hr3
    | exc ε => exact fun cls dx H2 e2 q => hr3 cls dx H2 (e1.trans e2) q
    | ok ds =>
      obtain ⟨ds, d2⟩ := ds
      intro vs v2 p H2 e2 hp r2 r3
      exact SpecM.post_ret hr3 (v :: vs) v2 p H2 (e1.trans e2) hp (.cons (r1.ext e2 fun a z => E.xk a z) r2) r3
/-! x = f(.., y) -/
theorem js_setO (i j : Nat) {c : Int} {ma : M (List D)} {f : List D → Int → Res (D × Int)} {mr : D → Int → M (Fl S T)} (G : DefS X.prog X.w X.K X.mg X.base y q n f) (hR : Room k X.A) (hk : q ≤ k) (tk : Takes X W) (ja : JAO X W (e :: es) Γ j ma) (hN : X.N.Nodup) (hx : Loc X.env.scope x)
    (hr : ∀ d c', JS X W Z rest ((Γ.set j (.own [.int c'])).set i (.dat d)) (mr d c') N L) (hs : Γ[j]? = some (Slot.own [.int c]) := by rfl) (hi : X.N[i]? = some x := by kernel_rfl) (hg : Gl X y := by (show _ = _); kernel_rfl) (hdb : (y == ("__debug__" : Str)) = false := by kernel_rfl)
    (he : starEach (e :: es) X.env = (false, eval e X.env) :: starEach es X.env := by kernel_rfl) (hpl : (backTo p2 (starEach es X.env)).any (·.1) = false := by kernel_rfl)
    (hsw : swapsWith (.Call (.Name y p) (e :: es) [] p2) (some (.Name x pos')) pos.line X.env = pure false := by kernel_rfl) (hf : X.fn x = true ∨ X.env.scope.names.lookup x = some .local := by exact .inl rfl) :
    JS X W Z (.Assign [.Name x pos'] (.Call (.Name y p) (e :: es) [] p2) pos :: rest) Γ (bnd ma fun ds => bnd (SpecM.ret (f ds c)) fun r => mr r.1 r.2) N L := fun F H σ hz E Dn hq => by
  obtain ⟨fa, fd, ps, hm, kp, bi, okf, bad⟩ := G.ex
  refine PSs.wp (pss_cons (ps_set hN hi hx (pe_callS (E := WE W) (okf.mono hk) hR hg hm kp bi (fun σ => passAt tk σ) pa_sem hdb he hpl) hsw hf) pss_sem) ?_
  obtain ⟨a, hv, _⟩ := E.stp hs
  refine ja F H σ a E hv _ (SpecM.mono (fun r hr2 => ?_) (SpecM.post_bind hq))
  cases r with
  | bad => exact hr2
  | exc ε => exact exc_up E hr2
  | ok ds =>
    intro vs H1 e1 r1
    have E1 := E.mono e1
    obtain ⟨a', hv', oa, h0, hd, ha⟩ := E1.stp hs
    rw [hv] at hv'
    cases hv'
    have h2 := SpecM.post_ret (SpecM.post_bind hr2)
    by_cases hn : ds.length = n
    · refine ⟨OS F σ Γ, vs, a, ds, c, rfl, r1.length.trans hn, oa, h0, E1.tbs, E1.osdom, r1, ?_⟩
      cases hfd : f ds c with
      | bad => rw [hfd] at h2; exact h2
      | exc ε =>
        rw [hfd] at h2
        intro cls dx H' e' r'
        have h3 : ∀ cls dx σ' H', Ext F.M F.Dc F.H0 H' → ExcRep X.K X.mg (OF F) ε cls dx H' → W cls dx σ' H' := h2
        exact h3 cls dx σ H' (E1.ext.own hd ha e') (r'.anti fun a z => z.elim .inl fun z => .inr (.inl z))
      | ok d =>
        obtain ⟨d, c'⟩ := d
        rw [hfd] at h2
        intro v H' e' h1 r'
        exact hr d c' F H' _ hz ((E1.ownCall hs hv h0 e' h1).dat i (r'.anti fun a z => os_own hs z)) Dn h2
    · rw [bad ds c hn] at h2
      exact h2.elim
/-! f(.., [0]) -/
theorem je_callS {ma : M (List D × D)} {f : List D → Int → Res (D × Int)} (G : DefS X.prog X.w X.K X.mg X.base y q n f) (hR : Room k X.A) (hk : q ≤ k) (tk : Takes X W) (ja : JAF X W (e :: es) Γ ma) (hg : Gl X y := by (show _ = _); kernel_rfl) (hdb : (y == ("__debug__" : Str)) = false := by kernel_rfl)
    (he : starEach (e :: es) X.env = (false, eval e X.env) :: starEach es X.env := by kernel_rfl) (hpl : (backTo p2 (starEach es X.env)).any (·.1) = false := by kernel_rfl) :
    JE X W (.Call (.Name y p) (e :: es) [] p2) Γ (bnd ma fun r => match r.2 with | .int c => bnd (SpecM.ret (f r.1 c)) fun r => ok r.1 | _ => SpecM.ret .bad) := fun F H σ E Q hq => by
  obtain ⟨fa, fd, ps, hm, kp, bi, okf, bad⟩ := G.ex
  refine PE.wp (pe_callS (E := WE W) (okf.mono hk) hR hg hm kp bi (fun σ => passAt tk σ) pa_sem hdb he hpl) ?_
  refine ja F H σ E _ (SpecM.mono (fun r hr2 => ?_) (SpecM.post_bind hq))
  cases r with
  | bad => exact hr2
  | exc ε => exact hr2
  | ok ds =>
    obtain ⟨ds, d0⟩ := ds
    intro vs v0 p H1 e1 hp r1 r0
    have E1 := E.mono e1
    cases d0 <;> first | exact (SpecM.post_ret hr2).elim | skip
    rename_i c
    have h2 := SpecM.post_ret (SpecM.post_bind hr2)
    rw [r0.toInt]
    have nO := E1.fresh hp
    by_cases hn : ds.length = n
    · refine ⟨fun b => OS F σ Γ b ∨ b = p, vs, p, ds, c, rfl, r1.length.trans hn, .inr rfl, upd_same, (E1.tbs.ext (Ext.new hp : Ext F.Dc F.Dc H1 _)), fun b z => ?_, ?_, ?_⟩
      · rcases z with z | z
        · exact (Ext.new hp : Ext F.Dc F.Dc H1 _).there b (E1.osdom b z)
        · rw [z, upd_same]; exact fun z => nomatch z
      · exact (r1.mov (mov_fresh fun a z => z.elim .inl fun q => .inr (q ▸ hp))).ext (Ext.new hp : Ext (fun _ => False) (fun _ => False) _ _) fun _ z => z.elim
      · have ex : ∀ H', Ext (fun b => b = p) (fun _ => False) (upd H1 p (.lst [.int c])) H' → Ext F.Dc F.Dc H H' := fun H' e' => (e1.trans (Ext.new hp)).own (a := p) (fun b d z => nO (by rw [← z]; exact E1.xk b d)) (by
          cases hx0 : H p with
          | none => exact .inl rfl
          | some o => exact (e1.there p (by rw [hx0]; exact fun z => nomatch z) hp).elim) e'
        cases hfd : f ds c with
        | bad => rw [hfd] at h2; exact h2
        | exc ε =>
          rw [hfd] at h2
          have h3 : ∀ cls dx H1, Ext F.Dc F.Dc H H1 → ExcRep X.K X.mg (OS F σ Γ) ε cls dx H1 → W cls dx σ H1 := h2
          exact fun cls dx H' e' r' => h3 cls dx H' (ex H' e') (r'.anti fun a z => .inl z)
        | ok d =>
          obtain ⟨d, c'⟩ := d
          rw [hfd] at h2
          exact fun v H' e' h1 r' => SpecM.post_ret h2 v H' (ex H' e') (r'.anti fun a z => .inl z)
    · rw [bad ds c hn] at h2
      exact h2.elim
/-! y[0] += e -/
theorem get_list : PGet X (fun o i H Q => ∃ (p : Addr) (v : V) (xs : List V), o = .ref p ∧ i = .int 0 ∧ SqL X.K H p (v :: xs) ∧ Q v H) := by
  intro pins s σ H o i ov iv Q I ro ri h
  obtain ⟨p, v, xs, rfl, rfl, hq, q⟩ := h
  cases ro
  obtain ⟨t, rfl⟩ := ri
  obtain ⟨its, r, pl, hz⟩ := I.list hq
  cases r with
  | cons r rr => exact getItem_listL pl.isList (by omega) (by simp) (by rfl) ⟨v, H, I, r, q⟩
theorem js_step (j : Nat) {c : Int} {mr : Int → M (Fl S T)} {jj : Nat} (he : JE X W e Γ me) (hv : Vis X.env.scope y) (hr : ∀ c', JS X W Z rest (Γ.set j (.own [.int c'])) (mr c') N L) (hs : Γ[j]? = some (Slot.own [.int c]) := by rfl) (hN : X.N[j]? = some y := by kernel_rfl) (hd : (y == ("__debug__" : Str)) = false := by kernel_rfl) (hcd : (y == ("__classdict__" : Str)) = false := by kernel_rfl) :
    JS X W Z (.AugAssign (.Subscript (.Name y p1) (.Constant (.int 0) jj p2) tpos) .Add e pos :: rest) Γ (bnd me fun d => match d with | .int i => mr (c + i) | _ => SpecM.ret .bad) N L := fun F H σ hz E Dn hq => by
  refine PSs.wp (pss_cons (ps_augS (pe_var hN hv hd hcd) pe_int get_list pe_sem ip_add set_list) pss_sem) ?_
  obtain ⟨a, hv', oa, h0, _, _⟩ := E.stp hs
  refine ⟨_, hv', a, .int c, [], rfl, rfl, .inl (.inl h0), ?_⟩
  refine he.st E hq fun d u H1 e1 E1 r1 g1 => ?_
  cases d <;> first | exact (SpecM.post_ret g1).elim | skip
  rename_i i
  obtain ⟨a', hv2, _, h1, _, _⟩ := E1.stp hs
  rw [hv'] at hv2
  cases hv2
  refine ⟨c, i, rfl, r1.toInt, a, [.int c], 0, 0, rfl, rfl, h1, rfl, ?_⟩
  exact hr (c + i) F _ _ hz (E1.ownWr hs hv' h1 (.cons (.int _) .nil)) Dn g1
end
end DE

set_option maxHeartbeats 4000000
namespace DE
open PySem PySem.Spec PyProof.Rows L2
variable [τ : TabCtx]
theorem wp_app {M : Model} {Γ : PySem.Ctx} {env : PySem.Env} {b : List Stmt} {Q : Flow → Shared → Prop} {E : Value → Shared → Prop} : ∀ (a : List Stmt) (p) (s : Shared), Sem.wp M Γ (execs a env) (fun f p' s' => match f with | .next => Sem.wp M Γ (execs b env) (fun a _ s' => Q a s') (fun e _ s' => E e s') p' s' | f => Q f s') (fun e _ s' => E e s') p s → Sem.wp M Γ (execs (a ++ b) env) (fun a _ s' => Q a s') (fun e _ s' => E e s') p s
  | [], p, s, h => h
  | st :: a, p, s, h => by
    rw [List.cons_append, execs_cons, Sem.wp_bind']
    rw [execs_cons, Sem.wp_bind'] at h
    refine Sem.wp_mono M Γ _ (fun f p' s' h' => ?_) (fun _ _ _ h' => h') p s h
    cases f with
    | next => exact wp_app a p' s' h'
    | ret v => exact h'
    | brk => exact h'
    | cont => exact h'
theorem wpSs_app {X : Cx} {a b : List Stmt} {Dn : Ends} {σ : L2.St} {H : Hp} (h : wpSs X a { Dn with nx := fun σ H => wpSs X b Dn σ H } σ H) : wpSs X (a ++ b) Dn σ H := by
  unfold wpSs at h ⊢
  intro pins s I Γ p hΓ
  refine wp_app a p s (Sem.wp_mono _ Γ _ (fun f p' s' h' => ?_) (fun _ _ _ h' => h') p s (h pins s I Γ p hΓ))
  cases f with
  | next =>
    obtain ⟨σ', H', I', q⟩ := h'
    exact q pins s' I' Γ p' hΓ
  | ret v => exact h'
  | brk => exact h'
  | cont => exact h'
/-! a def that gets the list last -/
def runS : Res (Fl (D × Int) Empty) → Res (D × Int)
  | .ok (.next r) => .ok r
  | .ok _ => .bad
  | .exc ε => .exc ε
  | .bad => .bad
theorem env_startS {K : PySem.W.Frag} {mg : Str → Option Value} {O : Addr → Prop} {H : Hp} {us : List V} {ds : List D} {n k : Nat} {a : Addr} {c : Int} (tb : TabsOK H) (od : ∀ b, O b → H b ≠ none) (oa : O a) (h0 : H a = some (.lst [.int c])) (hl : us.length = n) (r : Reps K mg O H us ds) :
    DE.Env K mg ⟨fun b => b = a, fun _ => False, fun b => O b ∧ b ≠ a, H, fun i b => i = n ∧ b = a, fun i => i ≠ n⟩ H ((us ++ [V.ref a]).map some ++ List.replicate k none) (ds.map Slot.dat ++ [.own [.int c]] ++ List.replicate k .any) := by
  have ld : ds.length = n := r.length.symm.trans hl
  have atN : ∀ {i : Nat} {es : List D}, (ds.map Slot.dat ++ [.own [.int c]] ++ List.replicate k .any)[i]? = some (Slot.own es) → i = n ∧ es = [.int c] := fun {i es} h => by
    by_cases h1 : i < n
    · rw [List.append_assoc, List.getElem?_append_left (by simp; omega), List.getElem?_map] at h
      cases q : ds[i]? with
      | none => rw [q] at h; cases h
      | some d => rw [q] at h; cases h
    · by_cases h2 : i = n
      · subst h2
        rw [List.getElem?_append_left (by simp; omega), List.getElem?_append_right (by simp; omega)] at h
        simp [ld] at h
        exact ⟨rfl, h.symm⟩
      · rw [List.getElem?_append_right (by simp; omega), List.getElem?_replicate] at h
        split at h <;> cases h
  have σN : ((us ++ [V.ref a]).map some ++ List.replicate k none : L2.St)[n]? = some (some (V.ref a)) := by
    rw [List.getElem?_append_left (by simp; omega), List.getElem?_map, List.getElem?_append_right (by omega)]
    simp [hl]
  have sub : ∀ b, OS ⟨fun b => b = a, fun _ => False, fun b => O b ∧ b ≠ a, H, fun i b => i = n ∧ b = a, fun i => i ≠ n⟩ ((us ++ [V.ref a]).map some ++ List.replicate k none) (ds.map Slot.dat ++ [.own [.int c]] ++ List.replicate k .any) b → O b := fun b z => by
    rcases z with z | z | ⟨i, es, z1, z2⟩
    · exact z.1
    · exact z ▸ oa
    · obtain ⟨rfl, _⟩ := atN z1
      rw [σN] at z2
      cases z2
      exact oa
  exact {
    ext := .refl
    subM := fun _ z => z.elim
    subO := fun _ z => z.elim
    dom := fun b h => od b h.1
    domM := fun b h => by rw [show b = a from h, h0]; exact fun z => nomatch z
    dic := fun _ z => z.elim
    len := by simp [hl, ld]
    slot := fun i s h => by
      by_cases h1 : i < n
      · rw [List.append_assoc, List.getElem?_append_left (by simp; omega), List.getElem?_map] at h
        cases q : ds[i]? with
        | none => rw [q] at h; cases h
        | some d =>
          rw [q] at h
          cases h
          obtain ⟨v, h3, h4⟩ := r.get q
          refine ⟨some v, ?_, v, rfl, h4.anti sub⟩
          rw [List.getElem?_append_left (by simp; omega), List.getElem?_map, List.getElem?_append_left (by omega), h3]; rfl
      · by_cases h2 : i = n
        · subst h2
          rw [List.getElem?_append_left (by simp; omega), List.getElem?_append_right (by simp; omega)] at h
          simp [ld] at h
          subst h
          exact ⟨_, σN, a, _, rfl, fun z => z.2 rfl, .inr ⟨rfl, rfl⟩, h0, .cons (.int c) .nil⟩
        · have hl2 := (List.getElem?_eq_some_iff.mp h).1
          simp at hl2
          rw [List.getElem?_append_right (by simp; omega), List.getElem?_replicate] at h
          split at h
          · cases h
            refine ⟨none, ?_, trivial⟩
            rw [List.getElem?_append_right (by simp; omega), List.getElem?_replicate, if_pos (by simp; omega)]
          · cases h
    bM := fun i b h => h.2
    tbs := tb
    apart := fun i l es gs b hil h1 h2 => by
      exact (hil ((atN h1).1.trans (atN h2).1.symm)).elim }
def fnS2 (f : D → D → Int → Res (D × Int)) : List D → Int → Res (D × Int)
  | [a, b], s => f a b s
  | _, _ => .bad
def fnS3 (f : D → D → D → Int → Res (D × Int)) : List D → Int → Res (D × Int)
  | [a, b, c], s => f a b c s
  | _, _ => .bad
theorem fnS2_bad {f : D → D → Int → Res (D × Int)} : ∀ (ds : List D) (c : Int), ds.length ≠ 2 → fnS2 f ds c = .bad
  | [], _, _ => rfl
  | [_], _, _ => rfl
  | [_, _], _, h => (h rfl).elim
  | _ :: _ :: _ :: _, _, _ => rfl
theorem fnS3_bad {f : D → D → D → Int → Res (D × Int)} : ∀ (ds : List D) (c : Int), ds.length ≠ 3 → fnS3 f ds c = .bad
  | [], _, _ => rfl
  | [_], _, _ => rfl
  | [_, _], _, _ => rfl
  | [_, _, _], _, h => (h rfl).elim
  | _ :: _ :: _ :: _ :: _, _, _ => rfl
section
variable {P : Program} {w : World} {K : PySem.W.Frag} {mg : Str → Option Value} {base : Heap}
theorem fn_steps {x qual y : Str} {st : Stmt} {f : Addr} {fd : FuncData} {N ps : List Str} {k n i : Nat} {m : List D → Int → Res (D × Int)} {b0 : List Stmt} {p1 p2 : Pos} (Fn : Fun K x qual st f fd) (S : FnScope N ps (defScope st)) (hps : ps.length = n + 1) (Z : List Nat) (hZ : n ∉ Z)
    (hb : defBody st = b0 ++ [.Return (some (.Name y p1)) p2]) (hi : N[i]? = some y) (hv : Vis (defScope st) y) (hd : (y == ("__debug__" : Str)) = false) (hcd : (y == ("__classdict__" : Str)) = false)
    (hbody : ∀ (cdv : Value) (A : Around) (outer : List PySem.Env) (s : Shared) (H : Hp) (E : XK), Room k (Xd P w K mg base N qual st f cdv A outer s H E).A → ∀ ds c, ds.length = n →
      ∃ (I : D × Int → List Slot) (mb : Res (Fl (D × Int) Empty)), (∀ r, (I r)[i]? = some (.dat r.1) ∧ (I r)[n]? = some (.own [.int r.2])) ∧ m ds c = runS mb ∧ JS (Xd P w K mg base N qual st f cdv A outer s H E) (Wd E) Z b0 (ds.map Slot.dat ++ [.own [.int c]] ++ List.replicate (N.length - (n + 1)) .any) mb I (fun t => nomatch t)) :
    FnOk P w K mg base (L2.CX P w) (k + 1) f fd ps (spS K mg n m) := by
  refine Fn.okX S (fun vs H Q E h => ?_) fun cdv A outer s H vs Q E hr h => ?_
  · obtain ⟨O, us, a, ds, c, rfl, hl, _⟩ := h
    rw [hps, List.length_append, hl]; rfl
  · obtain ⟨O, us, a, ds, c, rfl, hl, oa, h0, tb, od, r, hq⟩ := h
    have hdl : ds.length = n := r.length.symm.trans hl
    obtain ⟨I, mb, hI, e, js⟩ := hbody cdv A outer s H E hr ds c hdl
    rw [e] at hq
    refine ⟨_, pss_sem, ?_⟩
    have E0 := env_startS (K := K) (mg := mg) (k := N.length - (n + 1)) tb od oa h0 hl r
    have est : L2.start N (us ++ [V.ref a]) = ((us ++ [V.ref a]).map some ++ List.replicate (N.length - (n + 1)) none : L2.St) := by
      unfold L2.start
      rw [List.length_append, hl]; rfl
    rw [est, hb]
    refine wpSs_app (js ⟨fun b => b = a, fun _ => False, fun b => O b ∧ b ≠ a, H, fun i b => i = n ∧ b = a, fun i => i ≠ n⟩ H _ (fun j hj => ⟨fun b z => hZ (z.1 ▸ hj), fun z => hZ (z ▸ hj)⟩) E0 _ ?_)
    have low : ∀ b : Addr, (O b ∧ b ≠ a) ∨ b = a → O b := fun b z => z.elim (·.1) fun z => z ▸ oa
    have up : ∀ b : Addr, O b → (O b ∧ b ≠ a) ∨ b = a := fun b z => by
      by_cases q : b = a
      · exact .inr q
      · exact .inl ⟨z, q⟩
    cases mb with
    | bad => exact hq
    | exc ε => exact fun cls dx σ' H' e r => hq cls dx H' e (r.anti up)
    | ok fl =>
      cases fl with
      | ret d => exact (show False from hq).elim
      | brk t => exact nomatch t
      | cnt t => exact nomatch t
      | next u =>
        obtain ⟨d, c'⟩ := u
        intro σ' H' E'
        obtain ⟨g1, g2⟩ := hI (d, c')
        obtain ⟨x1, q1, v, q2, q3⟩ := E'.slot i _ g1
        subst q2
        obtain ⟨x2, t1, a', xs, t2, t3, t4, t5, t6⟩ := E'.slot n _ g2
        rw [one_int t6] at t5
        have ea : a' = a := t4.elim (fun z => (z.2.2 rfl).elim) fun z => z.2
        subst ea
        refine PSs.wp (pss_one (ps_ret (pe_var hi hv hd hcd))) ?_
        refine ⟨v, q1, ?_⟩
        exact hq v H' E'.ext t5 (q3.anti fun b z => (up b z).elim (fun z => .inl z) fun z => .inr (.inl z))
end
end DE

set_option maxHeartbeats 4000000
namespace DE
open PySem PySem.Spec PyProof.Rows L2
variable [τ : TabCtx]
/-! the dice: three numbers, told as any three -/
def anyInt : Dem D := ⟨fun k => ∀ i : Int, k (.ok (.int i)), fun f h i => f _ (h i)⟩
def rollM : D → Dem D
  | .int n => if 0 < n ∧ n < 1073741824 then roll n else SpecM.ret .bad
  | _ => SpecM.ret .bad
theorem rep_l (i j : Int) (h : (decide (-big64 < i) && decide (i < big64)) = true) : repD (.int i) (.int j) = some (.int (i * j)) := by
  simp only [repD, mulI]
  rw [h, Bool.true_or, if_pos rfl]
theorem rep_r (i j : Int) (h : (decide (-big64 < j) && decide (j < big64)) = true) : repD (.int i) (.int j) = some (.int (i * j)) := by
  simp only [repD, mulI]
  rw [h, Bool.or_true, if_pos rfl]
theorem Ext.wrD {M Dc : Addr → Prop} {H : Hp} {a : Addr} {xs : List V} {x y z : Int} (hM : M a) (h0 : H a = some (.lst xs)) : Ext M Dc H (upd H a (.lst [.int x, .int y, .int z])) := by
  have e : Ext (fun b => b = a) (fun _ => False) H (upd H a (.lst [.int x, .int y, .int z])) := Ext.wr (show a = a from rfl) (fun q => q) h0
  exact {
    keep := fun b o m t h => e.keep b o (fun q => m (q ▸ hM)) t h
    there := e.there
    tups := e.tups
    frzs := e.frzs
    dice := fun b _ ⟨x', y', z', h⟩ => by
      by_cases q : b = a
      · exact ⟨x, y, z, by rw [q, upd_same]⟩
      · exact ⟨x', y', z', by rw [upd_ne q]; exact h⟩
    tabs := e.tabs }
section
variable {S T : Type} {X : Cx} {W : WX} {Z : List Nat} {Γ : List Slot} {N : S → List Slot} {L : T → List Slot} {e : Expr} {pos pos' p p1 p2 : Pos} {rest : List Stmt} {y : Str} {me : Dem D} {i jj : Nat}
theorem dice_at {x y z : Int} {k : Int} (hk : k = 0 ∨ k = 1 ∨ k = 2) : ∃ i : Int, atI [V.int x, V.int y, V.int z] k = some (.int i) := by
  rcases hk with rfl | rfl | rfl
  · exact ⟨x, rfl⟩
  · exact ⟨y, rfl⟩
  · exact ⟨z, rfl⟩
theorem je_dice (i : Nat) {k : Int} (hv : Vis X.env.scope y) (hk : (k == 0 || k == 1 || k == 2) = true := by kernel_rfl) (hs : Γ[i]? = some Slot.dice := by rfl) (hN : X.N[i]? = some y := by kernel_rfl) (hd : (y == ("__debug__" : Str)) = false := by kernel_rfl) (hcd : (y == ("__classdict__" : Str)) = false := by kernel_rfl)
    (hp : PlainIx (.Constant (.int k) jj p2) := by intro _ _; rfl) : JE X W (.Subscript (.Name y p1) (.Constant (.int k) jj p2) pos) Γ anyInt := fun F H σ E Q hq => by
  refine PE.wp (pe_ix ix_seq (pe_var hN hv hd hcd) pe_int hp) ?_
  obtain ⟨v, h1, a, h2, h3⟩ := E.slot i _ hs
  subst h2
  obtain ⟨x, y, z, h4⟩ := E.dic a h3
  have hk' : k = 0 ∨ k = 1 ∨ k = 2 := by simpa [or_assoc] using hk
  obtain ⟨j, hj⟩ := dice_at (x := x) (y := y) (z := z) hk'
  exact ⟨_, h1, .inl ⟨a, _, k, .int j, rfl, rfl, .inl (.inl h4), hj, hq j (.int j) H .refl (.int j)⟩⟩
theorem js_dice (i : Nat) {k : Int} {mr : Dem (Fl S T)} (he : JE X W e Γ me) (hv : Vis X.env.scope y) (hr : JS X W Z rest Γ mr N L) (hk : (k == 0 || k == 1 || k == 2) = true := by kernel_rfl) (hs : Γ[i]? = some Slot.dice := by rfl) (hN : X.N[i]? = some y := by kernel_rfl) (hd : (y == ("__debug__" : Str)) = false := by kernel_rfl) (hcd : (y == ("__classdict__" : Str)) = false := by kernel_rfl)
    (hss : swapsWithSole [.Subscript (.Name y p1) (.Constant (.int k) jj p2) pos'] e pos.line X.env = pure false := by kernel_rfl) (hw : swappedStores [.Subscript (.Name y p1) (.Constant (.int k) jj p2) pos'] e X.env = pure none := by kernel_rfl) :
    JS X W Z (.Assign [.Subscript (.Name y p1) (.Constant (.int k) jj p2) pos'] e pos :: rest) Γ (bnd me fun d => match d with | .int _ => mr | _ => SpecM.ret .bad) N L := fun F H σ hz E Dn hq => by
  refine PSs.wp (pss_cons (ps_asg pe_sem (pg_sub (pe_var hN hv hd hcd) pe_int set_list) hss hw) pss_sem) ?_
  refine he.st E hq fun d u H1 e1 E1 r1 g1 => ?_
  cases d <;> first | exact (SpecM.post_ret g1).elim | skip
  rename_i c
  rw [r1.toInt]
  obtain ⟨v, h1, a, h2, h3⟩ := E1.slot i _ hs
  subst h2
  obtain ⟨x, y, z, h4⟩ := E1.dic a h3
  have hk' : k = 0 ∨ k = 1 ∨ k = 2 := by simpa [or_assoc] using hk
  have fin : ∀ x y z : Int, wpSs X rest Dn σ (upd H1 a (.lst [.int x, .int y, .int z])) := fun x y z => hr F _ _ hz (E1.mono (Ext.wrD h3 h4)) Dn g1
  refine ⟨_, h1, ?_⟩
  rcases hk' with rfl | rfl | rfl
  · exact ⟨a, _, 0, 0, rfl, rfl, h4, rfl, fin c y z⟩
  · exact ⟨a, _, 1, 1, rfl, rfl, h4, rfl, fin x c z⟩
  · exact ⟨a, _, 2, 2, rfl, rfl, h4, rfl, fin x y c⟩
end
end DE

set_option maxHeartbeats 4000000
namespace DE
open PySem PySem.Spec PyProof.Rows L2
variable [τ : TabCtx]
/-! raise of a class of one's own without its own making -/
structure XF (K : PySem.W.Frag) (mg : Str → Option Value) (x : Str) : Prop where
  ex : ∃ C : Addr, mg x = some (.ref C) ∧ (∃ (B n i : String) (bm : List Value), ExcBaseFacts B n i bm ∧ PySem.W.excIn K C bm n = true) ∧ PySem.W.keepIn K (.ref C) = true ∧ PySem.W.subIn K (.ref C) (.type "BaseException") = some true ∧ PySem.W.typeIn K (.ref C) = some (.type "type")
section
variable {M : Type → Type} [SpecM M] {S T : Type} {X : Cx} {W : WX} {Z : List Nat} {Γ : List Slot} {N : S → List Slot} {L : T → List Slot} {rest : List Stmt} {x m : Str} {j : Nat} {p p2 pos pos2 : Pos}
theorem js_raise (h : XF X.K X.mg x) (hc : X.calm = true) (tk : Takes X W) (hg : Gl X x := by (show _ = _); kernel_rfl) (hdb : (x == ("__debug__" : Str)) = false := by kernel_rfl) :
    JS X W Z (.Raise (some (.Call (.Name x p) [.Constant (.str m) j p2] [] pos)) none pos2 :: rest) Γ (SpecM.ret (M := M) (.exc ⟨x, none⟩)) N L := fun F H σ hz E Dn hq => by
  obtain ⟨C, gC, ⟨B, n, i, bm, xF, xP⟩, kC, bC, tC⟩ := h.ex
  refine PSs.wp (pss_cons (ps_raise hc tk (pmk_own xF xP gC kC (raises_own bC tC) hg hdb)) pss_sem) ?_
  exact SpecM.post_ret hq (.ref C) none σ H E.ext ⟨C, gC, rfl, (fun f d e => nomatch e), fun _ => rfl⟩
end
/-! is, is not of truth values -/
def isB : D → D → Option D
  | .bool a, .bool b => some (.bool (decide (a = b)))
  | _, _ => none
def isntB : D → D → Option D
  | .bool a, .bool b => some (.bool (!decide (a = b)))
  | _, _ => none
section
variable {X : Cx}
theorem ro_isB : RO X (fun x y H Q => ∃ a b, x = .bl a ∧ y = .bl b ∧ Q (.bl (decide (a = b))) H) isB := fun O H x y dx dy d dm rx ry e Q q => by
  cases dx <;> cases dy <;> first | cases e | skip
  exact ⟨_, _, rx.toBool, ry.toBool, q _ H (.refl H) (.bl _)⟩
theorem ro_notB : RO X (fun x y H Q => ∃ a b, x = .bl a ∧ y = .bl b ∧ Q (.bl (!decide (a = b))) H) isntB := fun O H x y dx dy d dm rx ry e Q q => by
  cases dx <;> cases dy <;> first | cases e | skip
  exact ⟨_, _, rx.toBool, ry.toBool, q _ H (.refl H) (.bl _)⟩
def absD : D → Option D
  | .int i => some (.int (if i < 0 then -i else i))
  | _ => none
theorem rc_abs : RC1 X (fun xs H Q => ∃ i, xs = [.int i] ∧ Q (.int (if i < 0 then -i else i)) H) absD := fun P O H x dx d dm rx e Q q => by
  rcases rx with rx | ⟨_, _, _, _, h, _⟩
  · cases dx <;> first | cases e | skip
    exact ⟨_, by rw [rx.toInt], q _ H (.refl H) (.int _)⟩
  · cases h
    cases e
/-! any of a tuple of numbers -/
theorem truth_ints {prog : Program} {w : World} {A : Around} {is : List Int} {its : List Value} (e : Vals (is.map V.int) its) : TruthOf prog w A (fun i v => its.toArray[i]? = some v) (fun i => (is.getD i 0) != 0) := fun i v s Q E hv hq => by
  have hv' : its[i]? = some v := by simpa using hv
  have go : ∀ {is : List Int} {its : List Value} {i : Nat}, Vals (is.map V.int) its → its[i]? = some v → ∃ t, v = .int (is.getD i 0) t := by
    intro is
    induction is with
    | nil => intro its i e h; cases e; simp at h
    | cons n r ih =>
      intro its i e h
      cases e with
      | cons r1 r2 =>
        cases i with
        | zero =>
          obtain ⟨t, rfl⟩ := r1
          simp at h
          exact ⟨t, h.symm⟩
        | succ i => exact ih r2 (by simpa using h)
  obtain ⟨t, rfl⟩ := go e hv'
  exact PyProof.Rows.truthy_int hq
theorem any_ints : ∀ is : List Int, (List.range is.length).any (fun i => (is.getD i 0) != 0) = is.any (· != 0)
  | [] => rfl
  | n :: r => by
    rw [List.length_cons, List.range_succ_eq_map, List.any_cons, List.any_map, List.any_cons, ← any_ints r]
    rfl
theorem call_anyTI (hc : X.calm = true) : CallR X (.builtin "any") (fun vs H Q => ∃ (a : Addr) (is : List Int), vs = [V.ref a] ∧ SqT X.K H a (is.map V.int) ∧ Q (.bl (is.any (· != 0))) H) := by
  intro pins s σ H vs us Q I r h
  obtain ⟨a, is, rfl, hs, q⟩ := h
  obtain ⟨its, rv, hl, _⟩ := I.tuple hs
  rw [Vals.ref1 r]
  have hne : a ≠ s.heap.objs.size := Nat.ne_of_lt hl.lt
  refine call_any_walk (wpAny_pyIter_tuple (show s.heap.IsTuple a its.toArray from hl) ?_)
  refine ⟨_, _, _, _, _, _, _, rfl, Walks.tuple (A := X.A.in1) (I.ok.hd hc) _ a hne its.toArray, ⟨⟨_, Heap.get?_push_size _ rfl, rfl, rfl⟩, Heap.IsTuple.push hl _⟩, truth_ints rv, fun h' tk hk => ?_⟩
  refine ⟨.bl _, H, I.kept fun b o eo => hk b o (fun hmem => ?_) (Heap.get?_push_of_some _ eo), ?_, q⟩
  · rcases List.mem_cons.mp hmem with e1 | hmem
    · exact absurd (e1 ▸ Heap.lt_size eo) (Nat.lt_irrefl _)
    · cases hmem
  · show Value.bool _ = Value.bool _
    rw [← any_ints, List.size_toArray, ← rv.length, List.length_map]
def anyI : D → Option D
  | .tuple ds => (intsO ds).map fun is => .bool (is.any (· != 0))
  | _ => none
theorem rc_anyI : RC1 X (fun vs H Q => ∃ (a : Addr) (is : List Int), vs = [V.ref a] ∧ SqT X.K H a (is.map V.int) ∧ Q (.bl (is.any (· != 0))) H) anyI := fun P O H x dx d dm rx e Q q => by
  rcases rx with rx | ⟨_, _, _, _, h, _⟩
  · cases dx <;> first | cases e | skip
    obtain ⟨a, xs, rfl, h1, h2⟩ := rx.tuple
    simp only [anyI] at e
    rename_i ds
    cases hb : intsO ds with
    | none => rw [hb] at e; cases e
    | some bs =>
      rw [hb] at e; cases e
      exact ⟨a, bs, rfl, by rw [← ints_rep hb h2]; exact h1, q _ H (.refl H) (.bl _)⟩
  · cases h
    cases e
end
end DE

set_option maxHeartbeats 4000000
namespace DE
open PySem PySem.Spec PyProof.Rows L2
variable [τ : TabCtx]
section
variable {M : Type → Type} [SpecM M] {X : Cx} {W : WX} {Γ : List Slot} {a e : Expr} {pos p1 p2 p3 : Pos} {jj : Nat} {ma : M D}
def revD : D → Option D
  | .list xs => some (.list xs.reverse)
  | _ => none
theorem je_rev (ha : JQ X W a Γ ma) : JE X W (.Subscript a (.Slice none none (some (.UnaryOp .USub (.Constant (.int 1) jj p1) p2)) p3) pos) Γ (bnd ma fun x => op (revD x)) := fun F H σ E Q hq => by
  refine PE.wp (pe_revL pe_sem) ?_
  refine ha.bind E hq fun d v H1 e1 E1 r1 hq => ?_
  obtain ⟨z, hz, q⟩ := post_ofO hq
  cases d <;> first | cases hz | skip
  obtain ⟨l, xs, rfl, h1, h2⟩ := r1.list
  refine ⟨l, xs, rfl, h1, fun p hp => ?_⟩
  have e2 : Ext F.Dc F.Dc H1 (upd H1 p (.lst xs.reverse)) := .new hp
  exact q _ _ e2 (.lst (.inl ⟨upd_same, E1.fresh hp⟩) (h2.rev.ext e2 fun a z => E.xk a z))
theorem je_dict0 : JE X W (.Dict [] [] pos) Γ (ok (M := M) (.dict [])) := fun F H σ E Q hq => PE.wp pe_dnewK fun p hp => post_ok hq (.ref p) _ (.new hp) (.dic (.inl ⟨rfl, p, rfl, upd_same, E.fresh hp⟩))
/-! a def as a value, called through a name -/
theorem je_fn {x : Str} {f : Addr} (hm : X.mg x = some (.ref f)) (hg : Gl X x := by (show _ = _); kernel_rfl) (hd : (x == ("__debug__" : Str)) = false := by kernel_rfl) : JE X W (.Name x pos) Γ (ok (M := M) (fnD x)) := je_glob hm (show RelV (.ref f) (.ref f) from rfl) (fun O H => .dic (.inr (.inl ⟨x, f, rfl, rfl, hm⟩))) hg hd
def appG (T : List (Str × (List D → Res D))) : D → Res (List D → Res D)
  | .dict [(.none, .str x)] => match T.lookup x with
    | some f => .ok f
    | none => .bad
  | _ => .bad
theorem je_callL (i : Nat) {k : Nat} {y : Str} {es : List Expr} {p : Pos} {d : D} {E : XK} {ma : M (List D)} (T : List (Str × (List D → Res D))) (hT : ∀ x f, T.lookup x = some f → ∃ j n, j ≤ k ∧ DefP X.prog X.w X.K X.mg X.base x j n f) (hR : Room k X.A) (tk : Takes X (Wd E)) (hv : Vis X.env.scope y) (ha : JA X (Wd E) (e :: es) Γ ma) (hs : Γ[i]? = some (Slot.dat d) := by rfl) (hN : X.N[i]? = some y := by kernel_rfl)
    (hd : (y == ("__debug__" : Str)) = false := by kernel_rfl) (hcd : (y == ("__classdict__" : Str)) = false := by kernel_rfl) (he : starEach (e :: es) X.env = (false, eval e X.env) :: starEach es X.env := by kernel_rfl) (hpl : (backTo pos (starEach es X.env)).any (·.1) = false := by kernel_rfl) :
    JE X (Wd E) (.Call (.Name y p) (e :: es) [] pos) Γ (bnd (SpecM.ret (appG T d)) fun f => bnd ma fun ds => SpecM.ret (f ds)) := fun F H σ Ev Q hq => by
  obtain ⟨v, h1, u, h2, h3⟩ := Ev.slot i _ hs
  subst h2
  have h4 := SpecM.post_ret (SpecM.post_bind hq)
  cases hx : appG T d with
  | bad => rw [hx] at h4; exact h4.elim
  | exc ε => unfold appG at hx; split at hx <;> first | (split at hx <;> cases hx) | cases hx
  | ok f =>
    rw [hx] at h4
    unfold appG at hx
    split at hx <;> first | cases hx | skip
    rename_i x
    split at hx <;> first | cases hx | skip
    rename_i hf
    obtain ⟨j, n, hj, G⟩ := hT x f hf
    obtain ⟨fa, fd, ps, hm, kp, bi, okf, bad⟩ := G.ex
    obtain ⟨q1, _⟩ | ⟨x', a, q1, q2, q3⟩ | ⟨_, _, q1, _⟩ | ⟨_, _, _, q1, _⟩ := h3.dict
    rotate_right
    · cases q1
    · cases q1
    · cases q1
      rw [hm] at q3
      cases q3
      subst q2
      refine PE.wp (pe_callL (i := i) (E := E) (dvs := []) (okf.mono hj) hR hN hv kp bi .nil (passes_call tk fun _ _ _ _ h => h) pa_sem hd hcd he hpl) ⟨h1, ?_⟩
      refine ha.bind Ev h4 fun ds vs H1 e1 E1 r1 g1 => ?_
      have g2 := SpecM.post_ret g1
      by_cases hn : ds.length = n
      · refine ⟨OS F σ Γ, ds, by simpa using r1.length.trans hn, E1.tbs, E1.osdom, by simpa using r1, ?_⟩
        cases q : f ds with
        | ok d => rw [q] at g2; exact fun v H' e r => g2 v H' e.up r
        | exc ε => rw [q] at g2; exact fun c d H' e r => g2 c d H' e.up r
        | bad => rw [q] at g2; exact g2
      · rw [bad ds hn] at g2
        exact g2.elim
    · cases q1
def powI : D → D → Option D
  | .int i, .int j => if 0 ≤ j ∧ j ≤ 1000000 ∧ i.natAbs < 18446744073709551616 then some (.int (i ^ j.toNat)) else none
  | _, _ => none
theorem ro_pow : RO X (rI CPow fun i j => .int (i ^ j.toNat)) powI := fun O H x y dx dy d dm rx ry e Q q => by
  cases dx <;> cases dy <;> first | cases e | skip
  simp only [powI] at e
  split at e
  · cases e
    exact ⟨_, _, rx.toInt, ry.toInt, by unfold CPow; assumption, q _ H (.refl H) (.int _)⟩
  · cases e
end
end DE

set_option maxHeartbeats 4000000
namespace DE
open PySem PySem.Spec PyProof.Rows L2 LamX
variable [τ : TabCtx]
/-! a lambda is made: all but its one table stays -/
abbrev lamQ (X : Cx) : Str := X.env.qual ++ "<lambda>"
section
variable {X : Cx} {pins : List (Addr × Obj)} {σ : L2.St} {H : Hp} {s : Shared} {params : Arguments} {body : Expr} {scope : Scope} {pos : Pos} {c P : Addr}
theorem lam_new {Ex : Value → Shared → Prop} {Q : Value → Shared → Prop} (J : Inv X pins σ H s) (tb : TabB X.base X.mg c P) (cd : X.env.code = .ref c) (ht : TabS H P (lamQ X)) (nd : defaultsOf params X.env = ([], []))
    (fr : ∀ y ∈ scope.names, y.2 = .free → ∃ c, X.env.cells.lookup y.1 = some c)
    (go : ∀ (f k : Addr) (pm ctv : Value) (H1 : Hp) (s1 : Shared), Inv X pins σ H1 s1 → (∀ b o, b ≠ P → H b = some o → H1 b = some o) → TabS H1 P (lamQ X) → s1.heap.get? f = some (PySem.W.kla_obj "<lambda>" (lamQ X) params body scope (cloFrom X.env.cells scope.names []) pm k ctv) →
      H1 f = none → f ∉ frs X.stack → H1 k = some (CodeO k (lamQ X)) → Q (.ref f) s1) : wpAny (model X.prog X.w) X.A (eval (.Lambda params body scope pos) X.env) Q Ex s := by
  obtain ⟨tab, atP, tri, names⟩ := ht
  refine PySem.W.kla_eval nd ?_
  have bld := tb.bm.keeps J.bk
  have obP : s.heap.get? P = some { cls := .none, data := .fields tab } := J.hok P _ atP
  have notFrame : ∀ f, s.heap.objs.size ≤ f → f ∉ frs X.stack := by
    intro f big m
    cases List.mem_cons.mp (J.stkSub _ m) with
    | inl e =>
      have l := J.lt
      rw [← e] at l
      exact absurd big (Nat.not_le_of_lt l)
    | inr e => exact J.nofs big e
  match hcd : codeAmong pos tab.toList with
  | some cv =>
    obtain ⟨k, rfl, atK⟩ := names pos cv hcd
    refine PySem.W.kla_makeFunctionHit (mg := X.mg) (c := c) (P := P) (ps := tab) (closure_ok fr) J.ok.glob (J.mod.glob.keeps J.bk) cd (tb.code.keeps J.bk) obP tri hcd bld ?_
    intro ctv hp tk kept size
    refine go hp.objs.size k ((X.mg "__name__").getD .none) ctv H _ (J.kept fun b o e => ?_) (fun b o _ e => e) ⟨tab, atP, tri, names⟩ (Heap.get?_push_size _ rfl) (J.hok.fresh size) (notFrame _ size) atK
    exact Heap.get?_push_of_some _ (kept b o e)
  | none =>
    refine PySem.W.kla_makeFunction (mg := X.mg) (c := c) (P := P) (ps := tab) (closure_ok fr) J.ok.glob (J.mod.glob.keeps J.bk) cd (tb.code.keeps J.bk) obP tri hcd tb.gP bld ?_
    intro k ctv hp tk kept big small rec wr
    obtain ⟨k', oc, vs, t, ek, oK, dK, nK⟩ := rec
    cases ek
    have sz : s.heap.objs.size ≤ hp.objs.size := by omega
    have noK : H k = none := J.hok.fresh big
    have PK : P ≠ k := ne_of_none atP noK
    have J1 := inv_table (X := X) (pins := pins) (σ := σ) (t' := tk) (q := lamQ X) (more := #[rawInt pos.line, rawInt pos.col, .ref k]) (h' := hp.push (PySem.W.kla_obj "<lambda>" (lamQ X) params body scope (cloFrom X.env.cells scope.names []) ((X.mg "__name__").getD .none) k ctv)) J atP
      (fun b o nb e => Heap.get?_push_of_some _ (kept b o nb e)) (Heap.get?_push_of_some _ wr) big ⟨oc, vs, t, Heap.get?_push_of_some _ oK, dK, nK⟩
    have other : ∀ b o, b ≠ P → H b = some o → (upd (upd H P (.tbl (tab ++ #[rawInt pos.line, rawInt pos.col, .ref k]))) k (CodeO k (lamQ X))) b = some o := by
      intro b o nb e
      rw [upd_ne (ne_of_none e noK), upd_ne nb]
      exact e
    have lst : (tab ++ #[rawInt pos.line, rawInt pos.col, .ref k]).toList = tab.toList ++ [rawInt pos.line, rawInt pos.col, .ref k] := by simp
    refine go hp.objs.size k ((X.mg "__name__").getD .none) ctv _ _ J1 other ⟨_, by rw [upd_ne PK, upd_same], by rw [lst]; exact PySem.TriplesOk_snoc _ _ _ _ tri, fun p cv hc2 => ?_⟩ (Heap.get?_push_size _ rfl) ?_ (notFrame _ sz) upd_same
    · rw [lst] at hc2
      cases among_app _ tri hc2 with
      | inl q =>
        obtain ⟨d, e1, e2⟩ := names p cv q
        have nd : d ≠ P := fun z => by
          rw [z, atP] at e2
          exact codeO_ne tab (Option.some.inj e2).symm
        exact ⟨d, e1, other _ _ nd e2⟩
      | inr q => exact ⟨k, q, upd_same⟩
    · have a1 : hp.objs.size ≠ k := fun z => absurd small (by rw [z]; exact Nat.lt_irrefl _)
      have a2 : hp.objs.size ≠ P := by
        exact fun z => absurd (Nat.lt_of_lt_of_le (Heap.lt_size obP) sz) (by rw [z]; exact Nat.lt_irrefl _)
      rw [upd_ne a1, upd_ne a2]
      exact J.hok.fresh sz
end
end DE

set_option maxHeartbeats 4000000
namespace DE
open PySem PySem.Spec PyProof.Rows L2 LamX
variable [τ : TabCtx]
/-! a def that calls what it got and tells the error's word -/
def wordsM (tab : List (Str × Str)) (fin : Str) : Res D → Res D
  | .ok _ => .ok (.str fin)
  | .exc ε => match tab.lookup ε.cls with
    | some w => .ok (.str w)
    | none => .bad
  | .bad => .bad
inductive HTab (sg : Scope) (mg : Str → Option Value) : List ExceptHandler → List (Str × Str) → Prop
  | nil : HTab sg mg [] []
  | cons {e w : Str} {np p5 p6 p7 : Pos} {j : Nat} {hds : List ExceptHandler} {tab : List (Str × Str)} {C : Addr} (hm : mg e = some (.ref C)) (hg : sg.names.lookup e = some .globalImplicit) (hd : (e == ("__debug__" : Str)) = false) (r : HTab sg mg hds tab) :
      HTab sg mg (.ExceptHandler (some (.Name e np)) none [.Return (some (.Constant (.str w) j p5)) p6] p7 :: hds) ((e, w) :: tab)
def wW (K : PySem.W.Frag) (mg : Str → Option Value) (Q : VK) : List (Str × Str) → XK
  | [], _, _, _ => False
  | (e, w) :: r, cls, d, H => ∃ (C : Addr) (b : Bool), mg e = some (.ref C) ∧ PySem.W.exmOne K cls (.ref C) = some b ∧ (b = true → Q (.str w) H) ∧ (b = false → wW K mg Q r cls d H)
def TWords (K : PySem.W.Frag) (mg : Str → Option Value) (tab : List (Str × Str)) (fin : Str) : (XK → Hp → VK → Prop) → Hp → VK → Prop := fun tl H Q => tl (wW K mg Q tab) H fun _ H' => Q (.str fin) H'
theorem hds_ok {X : Cx} {sg : Scope} {mg : Str → Option Value} {hds : List ExceptHandler} {tab : List (Str × Str)} (h : HTab sg mg hds tab) (hmg : X.mg = mg) (hs : X.env.scope = sg) : ∃ l, HdsOk X hds l ∧ ∀ (Q : VK) (D : Ends) (cls : Value) (d : Option Addr) (σ : L2.St) (H : Hp), D.rt = Q → wW X.K mg Q tab cls d H → wMany X.K (fun _ _ _ _ => False) D l cls d σ H := by
  induction h with
  | nil => exact ⟨[], .nil, fun _ _ _ _ _ _ _ z => z⟩
  | @cons e w np p5 p6 p7 j hds tab C hm hg hd r ih =>
    obtain ⟨l, h1, h2⟩ := ih
    refine ⟨(.ref C, fun _ _ _ => _) :: l, .cons ⟨?_, hd, .inl (by rw [hmg]; exact hm)⟩ (fun a oe cls d pn _ _ => pss_one (ps_ret pe_str)) h1, ?_⟩
    · show X.env.kindOf e = some .globalImplicit
      unfold PySem.Env.kindOf
      rw [hs]
      exact hg
    · intro Q D cls d σ H hQ ⟨C', b, g1, g2, g3, g4⟩
      rw [hm] at g1
      cases g1
      exact ⟨b, g2, fun hb a _ => by
        show D.rt _ _
        rw [hQ]
        exact g3 hb, fun hb => h2 Q D cls d σ H hQ (g4 hb)⟩
theorem words_gives {X : Cx} {Ng : List Str} {x a q fin : Str} {sg : Scope} {g : Addr} {cdg : Value} {j : Nat} {p1 p2 p3 p8 p9 p10 : Pos} {h0 : ExceptHandler} {hds : List ExceptHandler} {tab : List (Str × Str)} (ht : HTab sg X.mg (h0 :: hds) tab) (hn : ∀ f : Addr, (L2.start Ng [V.ref f])[0]? = some (some (V.ref f)))
    (hsw : ∀ e : PySem.Env, swapsWith (.Call (.Name a p1) [] [] p2) none p3.line e = pure false) :
    GivesTo X Ng x sg g cdg [.Try [.Expr (.Call (.Name a p1) [] [] p2) p3] (h0 :: hds) [] [] p8, .Return (some (.Constant (.str fin) j p9)) p10] a q (TWords X.K X.mg tab fin) := by
  intro f c' s H Q tl act hc h
  obtain ⟨l, hl, hw⟩ := hds_ok (X := (cxOf C8.CX0 X.prog X.w X.K X.mg X.base Ng x sg g cdg X.A X.stack s H C8.E0).nox) ht rfl rfl
  refine ⟨_, pss_cons (ps_try_many (X := (cxOf C8.CX0 X.prog X.w X.K X.mg X.base Ng x sg g cdg X.A X.stack s H C8.E0).nox) (Wout := fun _ _ _ _ => False)
    (tb := fun W D σ H => ∃ Ec : XK, (∀ cls d σ' H', Ec cls d H' → W cls d σ' H') ∧ σ[0]? = some (some (.ref f)) ∧ H c' = some (CodeO c' q) ∧ tl Ec H fun _ H' => D.nx σ H') rfl rfl L2.takes0 (fun W pn xe tk _ => ⟨fun pins s' σ H' D I h' => ?_⟩) hl) (pss_one (ps_ret pe_str)), ?_⟩
  · obtain ⟨Ec, hW, k1, k2, k3⟩ := h'
    exact (pss_one (ps_expr (act W pn xe Ec p1 p2 tk hW) (hsw _))).run pins s' σ H' D I ⟨k1, k2, k3⟩
  · exact ⟨wW X.K X.mg Q tab, fun cls d σ' H' z => hw Q _ cls d σ' H' rfl z, hn f, hc, h⟩
theorem wW_of {K : PySem.W.Frag} {mg : Str → Option Value} {Q : VK} {ε : Exc} {cls : Value} {d : Option Addr} {H : Hp} {C : Addr} (hm : mg ε.cls = some (.ref C)) (hc : cls = .ref C) : ∀ (tab : List (Str × Str)) (w : Str),
    (∀ e ∈ tab.map (·.1), ∃ Ce, mg e = some (Value.ref Ce) ∧ PySem.W.exmOne K (.ref C) (.ref Ce) = some (ε.cls == e)) → tab.lookup ε.cls = some w → Q (.str w) H → wW K mg Q tab cls d H
  | [], _, _, h, _ => by cases h
  | (e, v) :: r, w, hx, h, q => by
    obtain ⟨Ce, g1, g2⟩ := hx e (by simp)
    subst hc
    refine ⟨Ce, ε.cls == e, g1, g2, fun hb => ?_, fun hb => ?_⟩
    · simp only [List.lookup, hb] at h
      cases h
      exact q
    · simp only [List.lookup, hb] at h
      exact wW_of hm rfl r w (fun e' he' => hx e' (by simp at he' ⊢; exact .inr he')) h q
theorem Ext.tab1 {M Dc : Addr → Prop} {H H1 : Hp} {P : Addr} {q : Str} (hI : τ.T P q) (t0 : TabS H P q) (o : ∀ b o, b ≠ P → H b = some o → H1 b = some o) (t1 : TabS H1 P q) : Ext M Dc H H1 := by
  obtain ⟨ps, hP, _⟩ := t0
  have nP : ∀ b u, H b = some u → (∀ z, u ≠ .tbl z) → b ≠ P := fun b u h n e => by
    rw [e, hP] at h
    exact n ps (Option.some.inj h).symm
  exact {
    keep := fun b u _ t h => o b u (nP b u h t) h
    there := fun b h => by
      by_cases e : b = P
      · obtain ⟨ps1, h1, _⟩ := t1
        rw [e, h1]
        exact fun z => nomatch z
      · cases hb : H b with
        | none => exact (h hb).elim
        | some u => rw [o b u e hb]; exact fun z => nomatch z
    tups := fun b xs h => o b _ (nP b _ h fun _ z => nomatch z) h
    frzs := fun b u v h => o b _ (nP b _ h fun _ z => nomatch z) h
    dice := fun b _ ⟨x, y, z, h⟩ => ⟨x, y, z, o b _ (nP b _ h fun _ z => nomatch z) h⟩
    tabs := fun P' q' hT t => by
      by_cases e : P' = P
      · subst e
        rw [τ.uniq P' q' q hT hI]
        exact t1
      · obtain ⟨tp, h1, h2, h3⟩ := t
        exact ⟨tp, o P' _ e h1, h2, fun pos cv hc => by
          obtain ⟨c, h4, h5⟩ := h3 pos cv hc
          exact ⟨c, h4, o c _ (nP c _ h5 fun ps => codeO_ne ps) h5⟩⟩ }
end DE

set_option maxHeartbeats 4000000
namespace DE
open PySem PySem.Spec PyProof.Rows L2 LamX
variable [τ : TabCtx]
/-! x(lambda: e), x a def that tells the error's word -/
structure WordF (K : PySem.W.Frag) (mg : Str → Option Value) (x a : Str) (st : Stmt) (Ng : List Str) (tab : List (Str × Str)) (fin : Str) : Prop where
  ex : ∃ (g : Addr) (fd : FuncData), mg x = some (.ref g) ∧ PySem.W.keepIn K (.ref g) = true ∧ Fun K x x st g fd ∧ Binds K fd [a] []
  sc : FnScope Ng [a] (defScope st)
  vis : Vis (defScope st) a
  hN : Ng[0]? = some a
  form : ∃ (p1 p2 p3 p8 p9 p10 : Pos) (h0 : ExceptHandler) (hds : List ExceptHandler) (j : Nat), defBody st = [.Try [.Expr (.Call (.Name a p1) [] [] p2) p3] (h0 :: hds) [] [] p8, .Return (some (.Constant (.str fin) j p9)) p10] ∧ HTab (defScope st) mg (h0 :: hds) tab ∧ ∀ e : PySem.Env, swapsWith (.Call (.Name a p1) [] [] p2) none p3.line e = pure false
  cls : ∀ a ∈ tab.map (·.1), ∀ b ∈ tab.map (·.1), ∀ Ca, mg a = some (Value.ref Ca) → ∃ Cb, mg b = some (Value.ref Cb) ∧ PySem.W.exmOne K (.ref Ca) (.ref Cb) = some (a == b)
  dbg : (a == ("__debug__" : Str)) = false ∧ (a == ("__classdict__" : Str)) = false
theorem lookup_mem {tab : List (Str × Str)} {e w : Str} (h : tab.lookup e = some w) : e ∈ tab.map (·.1) := by
  have := PySem.mem_of_lookup h
  exact List.mem_map.mpr ⟨_, this, rfl⟩
section
variable {M : Type → Type} [SpecM M] {X : Cx} {W : WX} {Γ : List Slot} {x a : Str} {st : Stmt} {Ng : List Str} {tab : List (Str × Str)} {fin : Str} {c P : Addr} {k : Nat} {params : Arguments} {body : Expr} {scope : Scope} {p lpos pos : Pos} {mb : Res D}
theorem je_lam (Fw : WordF X.K X.mg x a st Ng tab fin) (tb : TabB X.base X.mg c P) (cd : X.env.code = .ref c) (hI : τ.T P (lamQ X)) (hR : Room (k + 2) X.A) (hb : ∀ (E : XK) (A : Around) (outer : List PySem.Env) (s : Shared) (H : Hp) (f c' : Addr), Room k (A.deeper (lamEnv X scope s.heap.objs.size f c')) → JE (M := Res) (lamCx X A outer s H E scope f c') (Wd E) body Γ mb)
    (hn : ∀ f : Addr, (L2.start Ng [V.ref f])[0]? = some (some (V.ref f)) := by intro _; rfl) (hL : lamSB X.env.scope scope = true := by kernel_rfl) (hdef : defaultsOf params X.env = ([], []) := by kernel_rfl)
    (hbind : ∀ (q : Str) (cl : List (Str × Addr)) (pm cv ctv : Value), bindArgs (PySem.W.kla_fn "<lambda>" q params body scope cl pm cv ctv) ⟨[], []⟩ = pure [] := by intros; rfl) (hg : Gl X x := by (show _ = _); kernel_rfl) (hdb : (x == ("__debug__" : Str)) = false := by kernel_rfl) :
    JE X W (.Call (.Name x p) [.Lambda params body scope lpos] [] pos) Γ (SpecM.ret (M := M) (wordsM tab fin mb)) := fun F H σ E Q hq => by
  obtain ⟨g, fd, hm, hk, Fn, bi⟩ := Fw.ex
  obtain ⟨p1, p2, p3, p8, p9, p10, h0, hds, j, hform, hT, hsw⟩ := Fw.form
  obtain ⟨oc, od, kV, doc, pm, an, cdv, ct, osl, rfl, lk, hcd⟩ := Fn.ex
  have h2 := SpecM.post_ret hq
  have L := lamS_by hL
  refine wpE.mk ?_
  intro pins s I
  refine wpAny_Call_Name_kw (ld_glob I hg hm (PySem.W.callWith_K (h₀ := X.base) I.ok.mod.kin hk ?_ (by rfl) (by rfl)) hdb)
  show wpAny _ _ (spliced ((false, eval (.Lambda params body scope lpos) X.env) :: backTo pos (starEach [] X.env))) _ _ s
  refine Calls.spliced_cons (lam_new I tb cd (E.tbs P _ hI) hdef (L.has I.ok) fun f c' pm' ctv H1 s1 I1 ot T1 hf hfn hfr hco => Calls.spliced_nil ⟨I1.kIn, ?_⟩)
  have e1 : Ext F.Dc F.Dc H H1 := Ext.tab1 hI (E.tbs P _ hI) ot T1
  have E1 := E.mono e1
  have told : TWords X.K X.mg tab fin (fun E2 H2 Q2 => ∀ (A : Around) (outer : List PySem.Env) (s0 : Shared) (H0 : Hp) (f c' : Addr), Room k (A.deeper (lamEnv X scope s0.heap.objs.size f c')) → wpE (lamCx X A outer s0 H0 E2 scope f c') body σ H2 Q2) H1 Q := by
    intro A outer s0 H0 f c' hr2
    refine hb _ A outer s0 H0 f c' hr2 F H1 σ E1 _ ?_
    cases hmb : mb with
    | bad => rw [hmb] at h2; exact h2
    | ok d => rw [hmb] at h2; exact fun v H2 e2 r2 => h2 (.str fin) H2 (e1.trans e2) (.str fin)
    | exc ε =>
      rw [hmb] at h2
      intro cls dx H2 e2 r2
      unfold wordsM at h2
      cases hl : tab.lookup ε.cls with
      | none => simp only [hl] at h2; exact h2.elim
      | some w =>
        simp only [hl] at h2
        obtain ⟨C, g1, g2, _⟩ := r2
        exact wW_of g1 g2 tab w (fun e he => Fw.cls ε.cls (lookup_mem hl) e he C g1) hl (h2 (.str w) H2 (e1.trans e2) (.str w))
  have run : codeAny (model X.prog X.w) X.A (.call (.ref g) ⟨[.ref f], []⟩) (CR C8.CX0 X.stack X.prog X.w H1 s1 Q C8.E0) s1 := by
    refine run_ofS (N := Ng) (ps := [a]) (us := [.ref f]) (vs := [.ref f]) lk hcd Fw.sc hR I1.env0 (bi s1 [.ref f] I1.kIn rfl) (.cons rfl .nil) rfl fun hr1 => ?_
    rw [hform]
    obtain ⟨t, ht, hq1⟩ := words_gives (Ng := Ng) (x := x) (g := g) (cdg := cdv) (q := lamQ X) hT hn hsw f c' s1 H1 Q
      (fun E2 H2 Q2 => ∀ (A : Around) (outer : List PySem.Env) (s0 : Shared) (H0 : Hp) (f c' : Addr), Room k (A.deeper (lamEnv X scope s0.heap.objs.size f c')) → wpE (lamCx X A outer s0 H0 E2 scope f c') body σ H2 Q2)
      (fun W2 pn xe E2 q1 q2 tk hW => pe_act (i := 0) (tb := fun σ2 H2 Q2 => ∀ (A : Around) (outer : List PySem.Env) (s0 : Shared) (H0 : Hp) (f c' : Addr), Room k (A.deeper (lamEnv X scope s0.heap.objs.size f c')) → wpE (lamCx X A outer s0 H0 E2 scope f c') body σ2 H2 Q2) I1 L hf hfn hfr (hbind _ _ _ _ _) tk hW hr1
        (fun A outer s0 H0 hr2 => ⟨fun pins s' σ' H' Q' I' h => (h A outer s0 H0 f c' hr2).run pins s' I'⟩) Fw.hN Fw.vis Fw.dbg.1 Fw.dbg.2) hco told
    exact ⟨t, ht.nox, hq1⟩
  refine wpAny_call (codeAny_mono run fun r s2 hz => ?_)
  match r, hz with
  | .ok (.ret u), hz => exact I1.after hz
  | .ok .next, hz => exact False.elim hz
  | .ok .brk, hz => exact False.elim hz
  | .ok .cont, hz => exact False.elim hz
  | .error e, hz => exact (show False from hz).elim
end
end DE

set_option maxHeartbeats 4000000
namespace DE
open PySem PySem.Spec PyProof.Rows L2 LamX
variable [τ : TabCtx]
/-! defs whose code object is known: those that make lambdas -/
structure FunC (K : PySem.W.Frag) (x qual : Str) (st : Stmt) (f : Addr) (fd : FuncData) (cdv : Value) : Prop where
  ex : ∃ (oc : Value) (od : Option Addr) (kV doc pm : Value) (an : Option Addr) (ct : Value) (osl : Array (Option Value)),
    fd = PySem.W.fnOf x qual (defArgs st) (defBody st) (defScope st) .none kV doc pm an cdv ct ∧ K.lookup f = some ⟨oc, od, .func fd, osl⟩ ∧ PySem.W.codeIn K cdv qual = true
structure FnL (K : PySem.W.Frag) (mg : Str → Option Value) (base : Heap) (x : Str) (st : Stmt) (ps : List Str) : Prop where
  ex : ∃ (f : Addr) (fd : FuncData) (c P : Addr), mg x = some (.ref f) ∧ PySem.W.keepIn K (.ref f) = true ∧ FunC K x x st f fd (.ref c) ∧ Binds K fd ps [] ∧ TabB base mg c P ∧ τ.T P (x ++ ".<locals>." ++ "<lambda>")
section
variable {P : Program} {w : World} {K : PySem.W.Frag} {mg : Str → Option Value} {base : Heap}
theorem fn_pureC {x qual : Str} {st : Stmt} {f : Addr} {fd : FuncData} {cdv : Value} {N ps : List Str} {k n : Nat} {m : List D → Res D} (Fn : FunC K x qual st f fd cdv) (S : FnScope N ps (defScope st)) (hps : ps.length = n) (Z : List Nat)
    (hbody : ∀ (A : Around) (outer : List PySem.Env) (s : Shared) (H : Hp) (E : XK), Room k (Xd P w K mg base N qual st f cdv A outer s H E).A → ∀ ds, ds.length = n →
      ∃ (G : List Slot) (mb : Res (Fl Unit Empty)), m ds = runF mb ∧ JS (Xd P w K mg base N qual st f cdv A outer s H E) (Wd E) Z (defBody st) (ds.map Slot.dat ++ List.replicate (N.length - n) .any) mb (fun _ => G) (fun t => nomatch t)) :
    FnOk P w K mg base (L2.CX P w) (k + 1) f fd ps (spP K mg n m) := by
  obtain ⟨oc, od, kV, doc, pm, an, ct, osl, rfl, lk, hcd⟩ := Fn.ex
  refine fn_of lk hcd S (fun vs H Q E h => ?_) fun A outer s H vs Q E hr h => ?_
  · obtain ⟨O, ds, hl, _⟩ := h
    exact hl.trans hps.symm
  · obtain ⟨O, ds, hl, tb, od, r, hq⟩ := h
    obtain ⟨G, mb, e, js⟩ := hbody A outer s H E hr ds (r.length.symm.trans hl)
    rw [e] at hq
    refine ⟨_, pss_sem, ?_⟩
    have E0 := env_start (K := K) (mg := mg) (M := fun _ => False) (Dc := fun _ => False) (n := N.length - n) tb od (fun _ z => z.elim) (fun _ z => z.elim) (fun _ z => z.elim) (fun _ z => z.elim) r (pre := []) (preG := []) rfl (fun i s h => by simp at h)
    have est : L2.start N vs = (([] ++ vs).map some ++ List.replicate (N.length - n) none : L2.St) := by unfold L2.start; rw [hl]; rfl
    rw [est]
    refine js _ H _ (fun _ _ => ⟨fun _ z => z, trivial⟩) E0 _ ?_
    cases mb with
    | bad => exact hq
    | exc ε => exact fun cls dx σ' H' e r => hq cls dx H' e (r.anti fun a z => .inl z)
    | ok fl =>
      cases fl with
      | next u => exact fun σ' H' E' => hq .non H' E'.ext .non
      | ret d => exact fun v H' e r => hq v H' e (r.anti fun a z => .inl z)
      | brk t => exact nomatch t
      | cnt t => exact nomatch t
theorem fn_diceC {x qual : Str} {st : Stmt} {f : Addr} {fd : FuncData} {cdv : Value} {N ps : List Str} {k n : Nat} {m : List D → Dem D} (Fn : FunC K x qual st f fd cdv) (S : FnScope N ps (defScope st)) (hps : ps.length = n + 1) (Z : List Nat)
    (hbody : ∀ (A : Around) (outer : List PySem.Env) (s : Shared) (H : Hp) (E : XK), Room k (Xd P w K mg base N qual st f cdv A outer s H E).A → ∀ ds, ds.length = n →
      ∃ (G : List Slot) (mb : Dem (Fl Unit Empty)), (∀ k, (k .bad → False) → (m ds).run k → (runF mb).run k) ∧ JS (Xd P w K mg base N qual st f cdv A outer s H E) (Wd E) Z (defBody st) ([Slot.dice] ++ ds.map Slot.dat ++ List.replicate (N.length - (n + 1)) .any) mb (fun _ => G) (fun t => nomatch t)) :
    FnOk P w K mg base (L2.CX P w) (k + 1) f fd ps (spD K mg n m) := by
  obtain ⟨oc, od, kV, doc, pm, an, ct, osl, rfl, lk, hcd⟩ := Fn.ex
  refine fn_of lk hcd S (fun vs H Q E h => ?_) fun A outer s H vs Q E hr h => ?_
  · obtain ⟨O, a, us, ds, rfl, hl, _⟩ := h
    rw [hps, ← hl]; rfl
  · obtain ⟨O, a, us, ds, rfl, hl, oa, da, tb, od, r, hq⟩ := h
    obtain ⟨G, mb, e, js⟩ := hbody A outer s H E hr ds (r.length.symm.trans hl)
    replace hq := e _ (fun z => z) hq
    refine ⟨_, pss_sem, ?_⟩
    have E0 := env_start (K := K) (mg := mg) (M := fun b => b = a) (Dc := fun b => b = a) (n := N.length - (n + 1)) tb od (fun b z => z ▸ od a oa) (fun _ z => z) (fun b z => z ▸ oa) (fun b z => z ▸ da) r (pre := [V.ref a]) (preG := [Slot.dice]) rfl (fun i s h => by
      cases i with
      | zero => cases h; exact ⟨rfl, a, rfl, rfl⟩
      | succ i => simp at h)
    have est : L2.start N (V.ref a :: us) = (([V.ref a] ++ us).map some ++ List.replicate (N.length - (n + 1)) none : L2.St) := by
      unfold L2.start
      rw [show (V.ref a :: us).length = n + 1 by rw [List.length_cons, hl]]; rfl
    rw [est]
    refine js _ H _ (fun _ _ => ⟨fun _ z => z, trivial⟩) E0 _ (mb.mono (fun fl h2 => ?_) hq)
    cases fl with
    | bad => exact h2
    | exc ε => exact fun cls dx σ' H' e r => h2 cls dx H' e (r.anti fun a z => .inl z)
    | ok fl =>
      cases fl with
      | next u => exact fun σ' H' E' => h2 .non H' E'.ext .non
      | ret d => exact fun v H' e r => h2 v H' e (r.anti fun a z => .inl z)
      | brk t => exact nomatch t
      | cnt t => exact nomatch t
end
/-! tables of defs as values -/
section
variable {P : Program} {w : World} {K : PySem.W.Frag} {mg : Str → Option Value} {base : Heap} {k j n : Nat} {x0 : Str} {f0 : List D → Res D} {T : List (Str × (List D → Res D))}
theorem tblN : ∀ x f, ([] : List (Str × (List D → Res D))).lookup x = some f → ∃ j n, j ≤ k ∧ DefP P w K mg base x j n f := fun _ _ h => by cases h
theorem tblC (h : DefP P w K mg base x0 j n f0) (hj : j ≤ k) (r : ∀ x f, T.lookup x = some f → ∃ j n, j ≤ k ∧ DefP P w K mg base x j n f) : ∀ x f, ((x0, f0) :: T).lookup x = some f → ∃ j n, j ≤ k ∧ DefP P w K mg base x j n f := fun x f h => by
  cases e : x == x0 with
  | true =>
    simp only [List.lookup, e] at h
    cases h
    have : x = x0 := by simpa using e
    subst this
    exact ⟨j, n, hj, ‹_›⟩
  | false =>
    simp only [List.lookup, e] at h
    exact r x f h
end
end DE

set_option maxHeartbeats 4000000
namespace DE
open PySem PySem.Spec PyProof.Rows L2
variable [τ : TabCtx]
section
variable {X : Cx}
theorem iop_addI : OpR X (inplaceOp .Add) (rI0 fun i j => .int (i + j)) := ip_add
theorem iop_subI : OpR X (inplaceOp .Sub) (rI0 fun i j => .int (i - j)) := ip_sub
def fdivP : D → D → Option D
  | .int i, .int j => if 0 < j ∧ j < 1073741824 then some (.int (i / j)) else none
  | _, _ => none
theorem ro_fdivP : RO X (rI CDiv fun i j => .int (i / j)) fdivP := fun O H x y dx dy d dm rx ry e Q q => by
  cases dx <;> cases dy <;> first | cases e | skip
  simp only [fdivP] at e
  split at e
  · rename_i h
    cases e
    exact ⟨_, _, rx.toInt, ry.toInt, by unfold CDiv; exact h, q _ H (.refl H) (.int _)⟩
  · cases e
end
end DE

set_option maxHeartbeats 4000000
namespace DE
open PySem PySem.Spec PyProof.Rows L2
variable [τ : TabCtx]
/-! values that shorten a list of our own: y.pop() within -/
section
variable {M : Type → Type} [SpecM M] {S T : Type} {X : Cx} {W : WX} {Z : List Nat} {Γ : List Slot} {N : S → List Slot} {L : T → List Slot} {e b : Expr} {es : List Expr} {pos pos' p p1 apos cpos : Pos} {rest : List Stmt} {x y : Str} {me : M D} {j k n q : Nat} {ds : List D}
def PostP (X : Cx) (W : WX) (F : Frm) (H : Hp) (σ : L2.St) (Γ Γ' : List Slot) {α β : Type} (Rp : (Addr → Prop) → Hp → β → α → Prop) (Q : β → Hp → Prop) : Res α → Prop
  | .ok d => ∀ v H1, Ext (OS F σ Γ) F.Dc H H1 → DE.Env X.K X.mg F H1 σ Γ' → Rp (OS F σ Γ') H1 v d → Q v H1
  | .exc ε => ∀ cls dx H1, Ext F.M F.Dc F.H0 H1 → ExcRep X.K X.mg (OF F) ε cls dx H1 → W cls dx σ H1
  | .bad => False
def JEp (X : Cx) (W : WX) (e : Expr) (Γ Γ' : List Slot) (m : M D) : Prop := ∀ (F : Frm) (H : Hp) (σ : L2.St), DE.Env X.K X.mg F H σ Γ → ∀ Q : V → Hp → Prop, SpecM.post m (PostP X W F H σ Γ Γ' (fun O H v d => Rep X.K X.mg O H v d) Q) → wpE X e σ H Q
def JAp (X : Cx) (W : WX) (es : List Expr) (Γ Γ' : List Slot) (m : M (List D)) : Prop := ∀ (F : Frm) (H : Hp) (σ : L2.St), DE.Env X.K X.mg F H σ Γ → ∀ Q : List V → Hp → Prop, SpecM.post m (PostP X W F H σ Γ Γ' (fun O H v d => Reps X.K X.mg O H v d) Q) → wpA X es σ H Q
theorem os_ownS (i : Nat) {ds es : List D} {F : Frm} {σ : L2.St} (hs : Γ[i]? = some (Slot.own ds)) {a : Addr} (h : OS F σ (Γ.set i (.own es)) a) : OS F σ Γ a := by
  rcases h with h | h | ⟨l, gs, h1, h2⟩
  · exact .inl h
  · exact .inr (.inl h)
  · by_cases q : l = i
    · subst q; exact .inr (.inr ⟨l, _, hs, h2⟩)
    · rw [List.getElem?_set_ne (Ne.symm q)] at h1; exact .inr (.inr ⟨l, gs, h1, h2⟩)
theorem jep_pop (j : Nat) {ds : List D} (hv : Vis X.env.scope y) (hs : Γ[j]? = some (Slot.own ds) := by rfl) (hN : X.N[j]? = some y := by kernel_rfl) (hd : (y == ("__debug__" : Str)) = false := by kernel_rfl) (hcd : (y == ("__classdict__" : Str)) = false := by kernel_rfl)
    (hba : attributeBase (.Name y p1) "pop" X.env (eval (.Name y p1) X.env) = eval (.Name y p1) X.env := by kernel_rfl) (hln : (apos.endLine == cpos.line) = true := by kernel_rfl) :
    JEp X W (.Call (.Attribute (.Name y p1) "pop" apos) [] [] cpos) Γ (Γ.set j (.own ds.dropLast)) (op (M := M) ds.getLast?) := fun F H σ E Q hq => by
  refine PE.wp (pe_bm0 PySem.F.plainAttrs_list PySem.F.slot_list_pop PySem.F.type_list_pop mt_pop (pe_var hN hv hd hcd) hba hln) ?_
  obtain ⟨z, h1, a, xs, h2, h3, h4, h5, h6⟩ := E.slot j _ hs
  subst h2
  have h7 := SpecM.post_ret hq
  cases hl : ds.getLast? with
  | none => rw [hl] at h7; exact h7.elim
  | some d =>
    rw [hl] at h7
    have hlast : ds[ds.length - 1]? = some d := by rw [← List.getLast?_eq_getElem?]; exact hl
    obtain ⟨v, g1, g2⟩ := h6.get hlast
    have hx : xs[xs.length - 1]? = some v := by rw [h6.length]; exact g1
    refine ⟨_, h1, .inl ⟨rfl, _, .inl (.inl h5)⟩, a, xs, v, rfl, rfl, h5, hx, ?_⟩
    have r6 : Reps X.K X.mg (OS F σ Γ) H xs.dropLast ds.dropLast := by
      rw [List.dropLast_eq_take, List.dropLast_eq_take, h6.length]
      exact h6.take _
    have oa : OS F σ Γ a := .inr (.inr ⟨j, _, hs, h1⟩)
    exact h7 v _ (Ext.wr oa (fun z => h3 (E.subO a z)) h5) (E.ownWr hs h1 h5 r6) ((g2.mov (mov_wr h5 oa)).anti fun b z => os_ownS j hs z)
theorem jap_last {Γ' : List Slot} (he : JEp X W e Γ Γ' me) (hst : starEach [e] X.env = (false, eval e X.env) :: starEach [] X.env := by kernel_rfl) : JAp X W [e] Γ Γ' (bnd me fun d => ok [d]) := fun F H σ E Q hq => by
  refine PA.wp (pa_cons pe_sem pa_nil hst) ?_
  refine he F H σ E _ (SpecM.mono (fun r hr2 => ?_) (SpecM.post_bind hq))
  cases r with
  | bad => exact hr2
  | exc ε => exact hr2
  | ok d => exact fun v H1 e1 E1 r1 => SpecM.post_ret hr2 [v] H1 e1 E1 (.cons r1 .nil)
theorem jap_cons {Γ' : List Slot} {mr : M (List D)} (hsub : ∀ (F : Frm) (σ : L2.St) (a : Addr), OS F σ Γ' a → OS F σ Γ a) (he : JE X W e Γ me) (hr : JAp X W es Γ Γ' mr) (hst : starEach (e :: es) X.env = (false, eval e X.env) :: starEach es X.env := by kernel_rfl) : JAp X W (e :: es) Γ Γ' (bnd me fun d => bnd mr fun ds => ok (d :: ds)) := fun F H σ E Q hq => by
  refine PA.wp (pa_cons pe_sem pa_sem hst) ?_
  refine he F H σ E _ (SpecM.mono (fun r hr2 => ?_) (SpecM.post_bind hq))
  cases r with
  | bad => exact hr2
  | exc ε =>
    have hr3 : ∀ cls dx H1, Ext F.M F.Dc F.H0 H1 → ExcRep X.K X.mg (OF F) ε cls dx H1 → W cls dx σ H1 := hr2
    exact fun cls dx H1 e1 r1 => hr3 cls dx H1 (E.ext.trans (e1.wide E.subM)) (r1.anti fun a z => z.elim .inl fun z => .inr (.inl z))
  | ok d =>
    intro v H1 e1 r1
    have E1 := E.mono e1
    refine hr F H1 σ E1 _ (SpecM.mono (fun r hr3 => ?_) (SpecM.post_bind hr2))
    cases r with
    | bad => exact hr3
    | exc ε => exact hr3
    | ok ds => exact fun vs H2 e2 E2 r2 => SpecM.post_ret hr3 (v :: vs) H2 ((e1.wide fun a z => E.xk a z).trans e2) E2 (.cons ((r1.ext e2 fun a z => z).anti fun a z => hsub F σ a z) r2)
/-! f(.., y.pop()) -/
theorem jep_call {Γ' : List Slot} {ma : M (List D)} {f : List D → Res D} (G : DefP X.prog X.w X.K X.mg X.base x q n f) (hR : Room k X.A) (hk : q ≤ k) (tk : Takes X W) (ha : JAp X W (e :: es) Γ Γ' ma) (hsub : ∀ (F : Frm) (σ : L2.St) (a : Addr), OS F σ Γ' a → OS F σ Γ a) (hg : Gl X x := by (show _ = _); kernel_rfl) (hdb : (x == ("__debug__" : Str)) = false := by kernel_rfl)
    (he : starEach (e :: es) X.env = (false, eval e X.env) :: starEach es X.env := by kernel_rfl) (hpl : (backTo pos (starEach es X.env)).any (·.1) = false := by kernel_rfl) :
    JEp X W (.Call (.Name x p) (e :: es) [] pos) Γ Γ' (bnd ma fun ds => SpecM.ret (f ds)) := fun F H σ E Q hq => by
  obtain ⟨fa, fd, ps, hm, kp, bi, okf, bad⟩ := G.ex
  refine PE.wp (pe_callS (E := WE W) (okf.mono hk) hR hg hm kp bi (fun σ => passAt tk σ) pa_sem hdb he hpl) ?_
  refine ha F H σ E _ (SpecM.mono (fun r hr2 => ?_) (SpecM.post_bind hq))
  cases r with
  | bad => exact hr2
  | exc ε => exact hr2
  | ok ds =>
    intro vs H1 e1 E1 r1
    have h2 := SpecM.post_ret hr2
    by_cases hn : ds.length = n
    · refine ⟨OS F σ Γ', ds, r1.length.trans hn, E1.tbs, E1.osdom, r1, ?_⟩
      cases hfd : f ds with
      | bad => rw [hfd] at h2; exact h2
      | exc ε =>
        rw [hfd] at h2
        intro cls dx H' e' r'
        have E2 := E1.mono (e'.up : Ext F.Dc F.Dc H1 H')
        have h3 : ∀ cls dx H1, Ext F.M F.Dc F.H0 H1 → ExcRep X.K X.mg (OF F) ε cls dx H1 → W cls dx σ H1 := h2
        exact h3 cls dx H' E2.ext (r'.anti fun a z => z.elim .inl fun z => .inr (.inl z))
      | ok d =>
        rw [hfd] at h2
        exact fun v H' e' r' => h2 v H' (e1.trans e'.up) (E1.mono e'.up) r'
    · rw [bad ds hn] at h2
      exact h2.elim
theorem jep_ix {Γ' : List Slot} {i : Int} {jj : Nat} {p2 : Pos} (ha : JEp X W e Γ Γ' me) (hp : PlainIx (.Constant (.int i) jj p2) := by intro _ _; rfl) : JEp X W (.Subscript e (.Constant (.int i) jj p2) pos) Γ Γ' (bnd me fun d => op (itemD d (.int i))) := fun F H σ E Q hq => by
  refine PE.wp (pe_ix ix_seq pe_sem pe_int hp) ?_
  refine ha F H σ E _ (SpecM.mono (fun r hr2 => ?_) (SpecM.post_bind hq))
  cases r with
  | bad => exact hr2
  | exc ε => exact hr2
  | ok d =>
    intro v H1 e1 E1 r1
    have h2 := SpecM.post_ret hr2
    cases hz : itemD d (.int i) with
    | none => rw [hz] at h2; exact h2.elim
    | some z =>
      rw [hz] at h2
      cases d <;> first | cases hz | skip
      · obtain ⟨a, xs, rfl, g1, g2⟩ := r1.list
        obtain ⟨w, g3, g4⟩ := atI_reps g2 hz
        exact .inl ⟨a, xs, _, w, rfl, rfl, g1.sq, g3, h2 w H1 e1 E1 g4⟩
      · obtain ⟨a, xs, rfl, g1, g2⟩ := r1.tuple
        obtain ⟨w, g3, g4⟩ := atI_reps g2 hz
        exact .inr (.inl ⟨a, xs, _, w, rfl, rfl, g1, g3, h2 w H1 e1 E1 g4⟩)
theorem js_setP (i : Nat) {Γ' : List Slot} {mr : D → M (Fl S T)} (he : JEp X W e Γ Γ' me) (hN : X.N.Nodup) (hx : Loc X.env.scope x) (hr : ∀ d, JS X W Z rest (Γ'.set i (.dat d)) (mr d) N L) (hi : X.N[i]? = some x := by kernel_rfl) (hs : swapsWith e (some (.Name x pos')) pos.line X.env = pure false := by kernel_rfl) (hf : X.fn x = true ∨ X.env.scope.names.lookup x = some .local := by exact .inl rfl) :
    JS X W Z (.Assign [.Name x pos'] e pos :: rest) Γ (bnd me mr) N L := fun F H σ hz E Dn hq => by
  refine PSs.wp (pss_cons (ps_set hN hi hx pe_sem hs hf) pss_sem) ?_
  refine he F H σ E _ (SpecM.mono (fun r hr2 => ?_) (SpecM.post_bind hq))
  cases r with
  | bad => exact hr2
  | exc ε => exact fun cls dx H1 e1 r1 => hr2 cls dx σ H1 e1 r1
  | ok d => exact fun v H1 e1 E1 r1 => hr d F H1 _ hz (E1.dat i r1) Dn hr2
end
end DE

set_option maxHeartbeats 4000000
namespace DE
open PySem PySem.Spec PyProof.Rows L2
variable [τ : TabCtx]
/-! the script -/
theorem ScA.sq {K : PySem.W.Frag} {O : Addr → Prop} {H : Hp} {a : Addr} {xs : List V} (h : ScA K O H a xs) : SqL K H a xs := by
  rcases h with ⟨h, _⟩ | ⟨o, h⟩ | h
  · exact .inl (.inl h)
  · exact .inl (.inr ⟨o, h⟩)
  · exact h H
theorem ScA.of {K : PySem.W.Frag} {H : Hp} {a : Addr} {xs : List V} (h : SqL K H a xs) : ScA K (fun _ => False) H a xs := by
  rcases h with (h | ⟨o, h⟩) | h
  · exact .inl ⟨h, fun z => z⟩
  · exact .inr (.inl ⟨o, h⟩)
  · exact .inr (.inr fun H' => .inr h)
def scrD (ns : List Int) : D := .dict [(.bool true, .list (ns.map PyData.int))]
def lenS : D → Option D
  | .dict [(.bool true, .list ds)] => some (.int ds.length)
  | _ => none
def itemS : D → D → Option D
  | .dict [(.bool true, .list ds)], .int i => atI ds i
  | _, _ => none
theorem script_of {K : PySem.W.Frag} {mg : Str → Option Value} {O : Addr → Prop} {H : Hp} {v : V} {ds : List D} (h : Rep K mg O H v (.dict [(.bool true, .list ds)])) : ∃ (ns : List Int) (a : Addr), ds = ns.map PyData.int ∧ v = V.ref a ∧ SqL K H a (ns.map V.int) := by
  rcases h.dict with ⟨z, _⟩ | ⟨_, _, z, _⟩ | ⟨ns, a, z, q, r⟩ | ⟨_, _, _, z, _⟩
  · cases z
  · cases z
  · cases z
    exact ⟨ns, a, rfl, q, r.sq⟩
  · cases z
section
variable {M : Type → Type} [SpecM M] {X : Cx} {W : WX} {Γ : List Slot} {a b e : Expr} {pos p : Pos} {ma mb : M D}
theorem rc_lenS : RC1 X (fun xs H Q => ∃ p ys, xs = [.ref p] ∧ (SqL X.K H p ys ∨ SqT X.K H p ys) ∧ Q (.int ys.length) H) lenS := fun P O H x dx d dm rx e Q q => by
  unfold lenS at e
  split at e <;> first | cases e | skip
  rcases rx with rx | ⟨_, _, _, _, h, _⟩
  · obtain ⟨ns, a, rfl, rfl, h⟩ := script_of rx
    exact ⟨a, _, rfl, .inl h, by rw [List.length_map, ← List.length_map (f := PyData.int)]; exact q _ H (.refl H) (.int _)⟩
  · cases h
theorem je_ixS (ha : JE X W a Γ ma) (hb : JE X W b Γ mb) (hs : PlainIx b := by intro _ _; rfl) : JE X W (.Subscript a b pos) Γ (bnd ma fun x => bnd mb fun y => op (itemS x y)) := fun F H σ E Q hq => by
  refine PE.wp (pe_ix ix_list pe_sem pe_sem hs) ?_
  refine ha.bind E hq fun d v H1 e1 E1 r1 hq => ?_
  refine hb.bind E1 hq fun d2 u H2 e2 E2 r2 hq => ?_
  obtain ⟨z, hz, q⟩ := post_ofO hq
  have r1' := r1.ext e2 fun a z => E.xk a z
  unfold itemS at hz
  split at hz <;> first | cases hz | skip
  obtain ⟨ns, a, rfl, rfl, h⟩ := script_of r1'
  obtain ⟨w, h3, h4⟩ := atI_reps (Reps.ints ns) hz
  exact ⟨a, _, _, w, rfl, r2.toInt, h, h3, q w H2 .refl h4⟩
/-! great products -/
def mulX : D → D → Option D
  | .int i, .int j => if (Builtin.Int.intBits i : Int) + (Builtin.Int.intBits j : Int) ≤ 134217728 then some (.int (i * j)) else none
  | _, _ => none
theorem ro_mulX : RO X (rI CMulX fun i j => .int (i * j)) mulX := fun O H x y dx dy d dm rx ry e Q q => by
  cases dx <;> cases dy <;> first | cases e | skip
  simp only [mulX] at e
  split at e
  · cases e
    exact ⟨_, _, rx.toInt, ry.toInt, by unfold CMulX; assumption, q _ H (.refl H) (.int _)⟩
  · cases e
end
/-! a def that ends with a list of its own -/
def PostN (K : PySem.W.Frag) (mg : Str → Option Value) (O : Addr → Prop) (H : Hp) (Q : VK) (E : XK) : Res (List D) → Prop
  | .ok ds => ∀ p xs H', Ext0 H H' → H p = none → H' p = some (.lst xs) → ¬ O p → Reps K mg O H' xs ds → Q (.ref p) H'
  | .exc ε => ∀ cls dx H', Ext0 H H' → ExcRep K mg O ε cls dx H' → E cls dx H'
  | .bad => False
def spN (K : PySem.W.Frag) (mg : Str → Option Value) (n : Nat) (m : List D → Res (List D)) : Sp := fun vs H Q E =>
  ∃ (O : Addr → Prop) (ds : List D), vs.length = n ∧ TabsOK H ∧ (∀ a, O a → H a ≠ none) ∧ Reps K mg O H vs ds ∧ PostN K mg O H Q E (m ds)
structure DefN (P : Program) (w : World) (K : PySem.W.Frag) (mg : Str → Option Value) (base : Heap) (x : Str) (k n : Nat) (m : List D → Res (List D)) : Prop where
  ex : ∃ (f : Addr) (fd : FuncData) (ps : List Str), mg x = some (Value.ref f) ∧ PySem.W.keepIn K (.ref f) = true ∧ Binds K fd ps [] ∧ FnOk P w K mg base (L2.CX P w) k f fd ps (spN K mg n m) ∧ ∀ ds, ds.length ≠ n → m ds = .bad
def runN {S : Type} (mf : S → Res (List D)) : Res (Fl S Empty) → Res (List D)
  | .ok (.next s) => mf s
  | .ok _ => .bad
  | .exc ε => .exc ε
  | .bad => .bad
section
variable {P : Program} {w : World} {K : PySem.W.Frag} {mg : Str → Option Value} {base : Heap}
theorem fn_new {x qual : Str} {st : Stmt} {f : Addr} {fd : FuncData} {N ps : List Str} {k n : Nat} {m : List D → Res (List D)} {b0 : List Stmt} {e : Expr} {p2 : Pos} {S : Type} (Fn : Fun K x qual st f fd) (Sc : FnScope N ps (defScope st)) (hps : ps.length = n) (Z : List Nat) (hb : defBody st = b0 ++ [.Return (some e) p2])
    (hbody : ∀ (cdv : Value) (A : Around) (outer : List PySem.Env) (s : Shared) (H : Hp) (E : XK), Room k (Xd P w K mg base N qual st f cdv A outer s H E).A → ∀ ds, ds.length = n →
      ∃ (I : S → List Slot) (mb : Res (Fl S Empty)) (mf : S → Res (List D)), m ds = runN mf mb ∧ JS (Xd P w K mg base N qual st f cdv A outer s H E) (Wd E) Z b0 (ds.map Slot.dat ++ List.replicate (N.length - n) .any) mb I (fun t => nomatch t) ∧ ∀ s', JF (Xd P w K mg base N qual st f cdv A outer s H E) (Wd E) e (I s') (mf s')) :
    FnOk P w K mg base (L2.CX P w) (k + 1) f fd ps (spN K mg n m) := by
  refine Fn.okX Sc (fun vs H Q E h => ?_) fun cdv A outer s H vs Q E hr h => ?_
  · obtain ⟨O, ds, hl, _⟩ := h
    exact hl.trans hps.symm
  · obtain ⟨O, ds, hl, tb, od, r, hq⟩ := h
    obtain ⟨I, mb, mf, e1, js, jf⟩ := hbody cdv A outer s H E hr ds (r.length.symm.trans hl)
    rw [e1] at hq
    refine ⟨_, pss_sem, ?_⟩
    have E0 := env_start (K := K) (mg := mg) (M := fun _ => False) (Dc := fun _ => False) (n := N.length - n) tb od (fun _ z => z.elim) (fun _ z => z.elim) (fun _ z => z.elim) (fun _ z => z.elim) r (pre := []) (preG := []) rfl (fun i s h => by simp at h)
    have est : L2.start N vs = (([] ++ vs).map some ++ List.replicate (N.length - n) none : L2.St) := by unfold L2.start; rw [hl]; rfl
    rw [est, hb]
    refine wpSs_app (js _ H _ (fun _ _ => ⟨fun _ z => z, trivial⟩) E0 _ ?_)
    cases mb with
    | bad => exact hq
    | exc ε => exact fun cls dx σ' H' e r => hq cls dx H' e (r.anti fun a z => .inl z)
    | ok fl =>
      cases fl with
      | ret d => exact (show False from hq).elim
      | brk t => exact nomatch t
      | cnt t => exact nomatch t
      | next u =>
        intro σ' H' E'
        refine PSs.wp (pss_one (ps_ret pe_sem)) ?_
        refine jf u _ H' σ' E' _ ?_
        have hq2 : PostN K mg O H Q E (mf u) := hq
        show PostL _ _ _ _ _ _ _ (mf u)
        cases hm : mf u with
        | bad => rw [hm] at hq2; exact hq2
        | exc ε =>
          rw [hm] at hq2
          exact fun cls dx H1 e2 r2 => hq2 cls dx H1 (E'.ext.trans (e2.wide fun _ z => z)) (r2.anti fun a z => .inl z)
        | ok es =>
          rw [hm] at hq2
          intro p xs H1 e2 hp r2
          have e3 : Ext0 H (upd H1 p (.lst xs)) := (E'.ext.trans (e2.wide fun _ z => z)).trans (.new hp)
          have hp0 : H p = none := by
            cases hx0 : H p with
            | none => rfl
            | some o => exact ((E'.ext.trans (e2.wide fun _ z => z)).there p (show H p ≠ none by rw [hx0]; exact fun z => nomatch z) hp).elim
          exact hq2 p xs _ e3 hp0 upd_same (fun z => od p z hp0) ((r2.anti fun a z => .inl z).ext (Ext.new hp : Ext (fun _ => False) (fun _ => False) _ _) fun _ z => z.elim)
end
end DE

set_option maxHeartbeats 4000000
namespace DE
open PySem PySem.Spec PyProof.Rows L2
variable [τ : TabCtx]
/-! new dice -/
abbrev Frm.roll (F : Frm) (σ : L2.St) (Γ : List Slot) (H : Hp) (p : Addr) : Frm := { M := fun a => F.M a ∨ ownA σ Γ a ∨ a = p, Dc := fun a => F.Dc a ∨ a = p, O := fun a => F.O a ∨ a = p, H0 := H, B := (rb F σ Γ H).B, nw := F.nw }
def noDice (Γ : List Slot) : Bool := Γ.all fun s => match s with
  | .dice => false
  | _ => true
section
variable {K : PySem.W.Frag} {mg : Str → Option Value} {F : Frm} {H1 H' H2 : Hp} {σ σ' : L2.St} {Γ Γ' : List Slot} {p : Addr}
theorem os_roll {a : Addr} {i : Nat} {s : Slot} (hs : ∀ ds, s ≠ .own ds) (h : OS (F.roll σ Γ H' p) σ (Γ.set i s) a) : OS F σ Γ a ∨ a = p := by
  rcases h with (h | h) | (h | h | h) | ⟨j, ds, h1, h2⟩
  · exact .inl (.inl h)
  · exact .inr h
  · exact .inl (.inr (.inl h))
  · exact .inl (.inr (.inr h))
  · exact .inr h
  · by_cases q : j = i
    · subst q
      rw [List.getElem?_set, if_pos rfl] at h1
      split at h1
      · exact (hs ds (Option.some.inj h1)).elim
      · cases h1
    · rw [List.getElem?_set_ne (Ne.symm q)] at h1
      exact .inl (.inr (.inr ⟨j, ds, h1, h2⟩))
theorem Env.toRoll (E : DE.Env K mg F H1 σ Γ) (i : Nat) (hi : i < Γ.length) (hv : σ[i]? = some (some (V.ref p))) (hn : ∀ ds, Γ[i]? ≠ some (Slot.own ds)) (e : Ext0 H1 H') (hp0 : H1 p = none) {x y z : Int} (hp : H' p = some (.lst [.int x, .int y, .int z])) : DE.Env K mg (F.roll σ Γ H' p) H' σ (Γ.set i .dice) := by
  have E1 : DE.Env K mg F H' σ Γ := E.mono e.up
  have mv : Mov K mg (OS F σ Γ) (OS (F.roll σ Γ H' p) σ (Γ.set i .dice)) H1 H' := by
    have m1 := mov_fresh (K := K) (mg := mg) (H := H1) (O := OS F σ Γ) (O' := OS (F.roll σ Γ H' p) σ (Γ.set i .dice)) fun a z => (os_roll (fun _ q => by cases q) z).elim .inl fun q => .inr (q ▸ hp0)
    have m2 := Ext.mov (K := K) (mg := mg) (O := OS (F.roll σ Γ H' p) σ (Γ.set i .dice)) e fun _ z => z.elim
    exact ⟨fun q => m2.t (m1.t q), fun q => m2.l (m1.l q), fun q => m2.d (m1.d q)⟩
  exact {
    ext := .refl
    subM := fun a h => h.elim (fun h => .inl (E.subM a h)) fun h => .inr (.inr h)
    subO := fun a h => h.elim (fun h => .inl (E.subO a h)) .inr
    dom := fun a h => h.elim (E1.dom a) fun h => by rw [h, hp]; exact fun z => nomatch z
    domM := fun a h => by
      rcases h with h | h | h
      · exact E1.domM a h
      · exact E1.osdom a (.inr (.inr h))
      · rw [h, hp]; exact fun z => nomatch z
    dic := fun a h => h.elim (E1.dic a) fun h => ⟨x, y, z, by rw [h]; exact hp⟩
    len := by rw [List.length_set]; exact E.len
    slot := fun j s h => by
      by_cases q : j = i
      · subst q
        rw [List.getElem?_set, if_pos rfl, if_pos hi] at h
        cases h
        exact ⟨_, hv, p, rfl, .inr rfl⟩
      · rw [List.getElem?_set_ne (Ne.symm q)] at h
        obtain ⟨x, q1, q2⟩ := E.slot j s h
        refine ⟨x, q1, ?_⟩
        cases s with
        | any => trivial
        | dat d => obtain ⟨v, q3, q4⟩ := q2; exact ⟨v, q3, q4.mov mv⟩
        | own ds =>
          obtain ⟨a, ys, q3, q4, q5, q6, q7⟩ := q2
          subst q3
          exact ⟨a, ys, rfl, fun z => z.elim q4 (ne_of_none q6 hp0), .inr ⟨ds, h, q1⟩, e.keep _ _ (fun z => z) (fun _ z => nomatch z) q6, q7.mov mv⟩
        | dice => obtain ⟨a, q3, q4⟩ := q2; exact ⟨a, q3, .inl q4⟩
    bM := fun i a ⟨ds, h1, h2⟩ => .inr (.inl ⟨i, ds, h1, h2⟩)
    tbs := E1.tbs
    apart := fun j l es gs a hjl h1 h2 h3 => by
      have old : ∀ {j : Nat} {es : List D}, (Γ.set i .dice)[j]? = some (Slot.own es) → Γ[j]? = some (Slot.own es) := fun {j es} g => by
        by_cases q : j = i
        · subst q
          rw [List.getElem?_set, if_pos rfl, if_pos hi] at g
          cases g
        · rw [List.getElem?_set_ne (Ne.symm q)] at g; exact g
      exact E.apart j l es gs a hjl (old h1) (old h2) h3 }
theorem Ext.ofRoll (E : DE.Env K mg F H1 σ Γ) (e : Ext0 H1 H') (hp0 : H1 p = none) (e2 : Ext (F.roll σ Γ H' p).M (F.roll σ Γ H' p).Dc H' H2) : Ext F.M F.Dc F.H0 H2 where
  keep := fun a o m t h => by
    have h1 := E.ext.keep a o m t h
    refine e2.keep a o (fun z => ?_) t (e.keep a o (fun z => z) t h1)
    rcases z with z | ⟨i, ds, z1, z2⟩ | z
    · exact m z
    · obtain ⟨x, q1, b, xs, q2, q3, q4, q5, q6⟩ := E.slot i _ z1
      rw [z2] at q1; cases q1; cases q2
      rcases q4 with ⟨q4, _⟩ | q4
      · rw [h] at q4; cases q4
      · exact m (E.bM _ _ q4)
    · rw [z, hp0] at h1
      cases h1
  there := fun a h => e2.there a (e.there a (E.ext.there a h))
  tups := fun a xs h => e2.tups a xs (e.tups a xs (E.ext.tups a xs h))
  frzs := fun a o u h => e2.frzs a o u (e.frzs a o u (E.ext.frzs a o u h))
  dice := fun a d h => by
    obtain ⟨x, y, z, h⟩ := E.ext.dice a d h
    exact e2.dice a (.inl d) ⟨x, y, z, e.keep _ _ (fun z => z) (fun _ z => nomatch z) h⟩
  tabs := fun P q hT h => e2.tabs P q hT (e.tabs P q hT (E.ext.tabs P q hT h))
theorem Env.ofRoll (E : DE.Env K mg F H1 σ Γ) (e : Ext0 H1 H') (hp0 : H1 p = none) (E' : DE.Env K mg (F.roll σ Γ H' p) H2 σ' Γ') (nd : noDice Γ' = true) : DE.Env K mg F H2 σ' Γ' where
  ext := Ext.ofRoll E e hp0 E'.ext
  subM := E.subM
  subO := E.subO
  dom := fun a h => E'.dom a (.inl h)
  domM := fun a h => E'.domM a (.inl h)
  dic := fun a h => E'.dic a (.inl h)
  len := E'.len
  slot := fun i s h => by
    obtain ⟨x, q1, q2⟩ := E'.slot i s h
    have sub : ∀ a, OS F σ' Γ' a → OS (F.roll σ Γ H' p) σ' Γ' a := fun a z => by
      rcases z with z | z | z
      · exact .inl (.inl z)
      · exact .inr (.inl (.inl z))
      · exact .inr (.inr z)
    refine ⟨x, q1, ?_⟩
    cases s with
    | any => trivial
    | dat d => obtain ⟨v, q3, q4⟩ := q2; exact ⟨v, q3, q4.anti sub⟩
    | dice =>
      have z := List.all_eq_true.mp nd _ (List.mem_of_getElem? h)
      cases z
    | own ds =>
      obtain ⟨a, ys, q3, q4, q5, q6, q7⟩ := q2
      refine ⟨a, ys, q3, fun z => q4 (.inl z), ?_, q6, q7.anti sub⟩
      rcases q5 with ⟨q5, n, w⟩ | ⟨es, z1, z2⟩
      · refine .inl ⟨?_, fun z => n (.inl z), w⟩
        cases hz : F.H0 a with
        | none => rfl
        | some o => exact (e.there a (E.ext.there a (by rw [hz]; exact fun z => nomatch z)) q5).elim
      · obtain ⟨y, p1, b, xs, p2, p3, p4, _⟩ := E.slot i _ z1
        rw [z2] at p1; cases p1; cases p2
        exact p4
  bM := E.bM
  tbs := E'.tbs
  apart := E'.apart
end
section
variable {S T : Type} {X : Cx} {W : WX} {Z Z' : List Nat} {Γ : List Slot} {N : S → List Slot} {L : T → List Slot} {e : Expr} {es : List Expr} {pos pos' p p2 : Pos} {rest : List Stmt} {x y : Str} {k n q : Nat}
/-- dice = f(..) -/
theorem js_roll (i : Nat) {ma : Dem (List D)} {f : List D → Res (List D)} {mr : Dem (Fl S T)} (G : DefN X.prog X.w X.K X.mg X.base y q n f) (hR : Room k X.A) (hk : q ≤ k) (tk : Takes X W) (ja : JA X W (e :: es) Γ ma) (hN : X.N.Nodup) (hx : Loc X.env.scope x)
    (hr : JS X W Z' rest (Γ.set i .dice) mr N L) (hl : i < Γ.length := by exact of_decide_eq_true (by kernel_rfl)) (hZ : noOwn (Γ.set i .any) Z' = true := by kernel_rfl) (hZZ : Z'.all (Z.contains ·) = true := by kernel_rfl) (hNd : ∀ s, noDice (N s) = true := by intro _; kernel_rfl) (hLd : ∀ s, noDice (L s) = true := by intro _; kernel_rfl)
    (hi : X.N[i]? = some x := by kernel_rfl) (hg : Gl X y := by (show _ = _); kernel_rfl) (hdb : (y == ("__debug__" : Str)) = false := by kernel_rfl)
    (he : starEach (e :: es) X.env = (false, eval e X.env) :: starEach es X.env := by kernel_rfl) (hpl : (backTo p2 (starEach es X.env)).any (·.1) = false := by kernel_rfl)
    (hsw : swapsWith (.Call (.Name y p) (e :: es) [] p2) (some (.Name x pos')) pos.line X.env = pure false := by kernel_rfl) (hf : X.fn x = true ∨ X.env.scope.names.lookup x = some .local := by exact .inl rfl) :
    JS X W Z (.Assign [.Name x pos'] (.Call (.Name y p) (e :: es) [] p2) pos :: rest) Γ (bnd ma fun ds => bnd (SpecM.ret (f ds)) fun r => match r with | [.int _, .int _, .int _] => mr | _ => SpecM.ret .bad) N L := fun F H σ hz E Dn hq => by
  obtain ⟨fa, fd, ps, hm, kp, bi, okf, bad⟩ := G.ex
  refine PSs.wp (pss_cons (ps_set hN hi hx (pe_callS (E := WE W) (okf.mono hk) hR hg hm kp bi (fun σ => passAt tk σ) pa_sem hdb he hpl) hsw hf) pss_sem) ?_
  refine ja.st E hq fun ds vs H1 e1 E1 r1 g1 => ?_
  have g2 := SpecM.post_ret (SpecM.post_bind g1)
  by_cases hn : ds.length = n
  · refine ⟨OS F σ Γ, ds, r1.length.trans hn, E1.tbs, E1.osdom, r1, ?_⟩
    cases hfd : f ds with
    | bad => rw [hfd] at g2; exact g2
    | exc ε =>
      rw [hfd] at g2
      have g3 : ∀ cls dx σ' H', Ext F.M F.Dc F.H0 H' → ExcRep X.K X.mg (OF F) ε cls dx H' → W cls dx σ' H' := g2
      intro cls dx H' e' r'
      have E2 := E1.mono (e'.up : Ext F.Dc F.Dc H1 H')
      exact g3 cls dx σ H' E2.ext (r'.anti fun a z => z.elim .inl fun z => .inr (.inl z))
    | ok r =>
      rw [hfd] at g2
      intro p xs H' e' hp0 hp nO r'
      have g3 : SpecM.post (match r with | [.int _, .int _, .int _] => mr | _ => SpecM.ret .bad) (PostS X W F N L Dn) := g2
      split at g3
      · rename_i a b c
        obtain ⟨v1, q1, rfl, k1, k2⟩ := r'.cons_of
        obtain ⟨v2, q2, rfl, k3, k4⟩ := k2.cons_of
        obtain ⟨v3, q3, rfl, k5, k6⟩ := k4.cons_of
        rw [k6.nil_of, k1.toInt, k3.toInt, k5.toInt] at hp
        have E0 := E1.drop i (some (V.ref p))
        have hl0 : i < (Γ.set i .any).length := by rw [List.length_set]; exact hl
        have hv : (σ.set i (some (V.ref p)))[i]? = some (some (V.ref p)) := by
          rw [List.getElem?_set, if_pos rfl, if_pos (by rw [E.len]; exact hl)]
        have hno : ∀ ds, (Γ.set i .any)[i]? ≠ some (Slot.own ds) := fun ds z => by
          rw [List.getElem?_set, if_pos rfl, if_pos hl] at z
          cases z
        have ER := E0.toRoll i hl0 hv hno e' hp0 hp
        rw [List.set_set] at ER
        refine hr (F.roll (σ.set i (some (V.ref p))) (Γ.set i .any) H' p) H' _ (fun j hj => rb_free (F := F) (σ := σ.set i (some (V.ref p))) (Γ := Γ.set i .any) (H := H') hz hZZ hZ j hj) ER Dn (SpecM.mono (fun fl h => ?_) g3)
        cases fl with
        | bad => exact h
        | exc ε =>
          have h' : ∀ cls dx σ' H', Ext F.M F.Dc F.H0 H' → ExcRep X.K X.mg (OF F) ε cls dx H' → W cls dx σ' H' := h
          exact fun cls dx σ' H2 e2 r2 => h' cls dx σ' H2 (Ext.ofRoll E0 e' hp0 e2) (r2.anti fun a z => z.elim (fun z => .inl (.inl z)) fun z => .inr (.inl z))
        | ok fl =>
          cases fl with
          | next s => exact fun σ' H2 E2 => h σ' H2 (E0.ofRoll e' hp0 E2 (hNd s))
          | brk s => exact fun σ' H2 E2 => h σ' H2 (E0.ofRoll e' hp0 E2 (hLd s))
          | cnt s => exact fun σ' H2 E2 => h σ' H2 (E0.ofRoll e' hp0 E2 (hLd s))
          | ret d => exact fun v H2 e2 r2 => h v H2 (Ext.ofRoll E0 e' hp0 e2) (r2.anti fun a z => z.elim (fun z => .inl (.inl z)) fun z => .inr (.inl z))
      · exact (SpecM.post_ret g3).elim
  · rw [bad ds hn] at g2
    exact g2.elim
end
end DE

set_option maxHeartbeats 4000000
namespace DE
open PySem PySem.Spec PyProof.Rows L2
variable [τ : TabCtx]
/-! sorted({x: True for x in e}) -/
def dedupI (ns : List Int) : List Int := ns.foldl (fun acc n => if acc.contains n then acc else acc ++ [n]) []
def insI (n : Int) : List Int → List Int
  | [] => [n]
  | m :: r => if n ≤ m then n :: m :: r else m :: insI n r
def isortI : List Int → List Int
  | [] => []
  | n :: r => insI n (isortI r)
theorem insI_perm (n : Int) : ∀ l : List Int, (insI n l).Perm (n :: l)
  | [] => .refl _
  | m :: r => by
    unfold insI
    split
    · exact .refl _
    · exact ((insI_perm n r).cons m).trans (.swap n m r)
theorem isortI_perm : ∀ l : List Int, (isortI l).Perm l
  | [] => .refl _
  | n :: r => (insI_perm n _).trans ((isortI_perm r).cons n)
theorem insI_mem {n a : Int} {l : List Int} (h : a ∈ insI n l) : a = n ∨ a ∈ l := by
  have := (insI_perm n l).mem_iff.mp h
  simpa using this
theorem insI_sorted (n : Int) : ∀ l : List Int, l.Pairwise (· ≤ ·) → (insI n l).Pairwise (· ≤ ·)
  | [], _ => by simp [insI]
  | m :: r, h => by
    have h' := List.pairwise_cons.mp h
    unfold insI
    split
    · rename_i hl
      refine List.pairwise_cons.mpr ⟨fun a ha => ?_, h⟩
      rcases List.mem_cons.mp ha with e | e
      · rw [e]; exact hl
      · exact Int.le_trans hl (h'.1 a e)
    · rename_i hl
      refine List.pairwise_cons.mpr ⟨fun a ha => ?_, insI_sorted n r h'.2⟩
      rcases insI_mem ha with e | e
      · rw [e]; omega
      · exact h'.1 a e
theorem isortI_sorted : ∀ l : List Int, (isortI l).Pairwise (· ≤ ·)
  | [] => .nil
  | n :: r => insI_sorted n _ (isortI_sorted r)
theorem sorted_eq {ys ks : List Int} (p : ys.Perm ks) (s : ys.Pairwise (· ≤ ·)) : ys = isortI ks :=
  List.Perm.eq_of_pairwise (le := (· ≤ ·)) (fun a b _ _ h1 h2 => Int.le_antisymm h1 h2) s (isortI_sorted ks) (p.trans (isortI_perm ks).symm)
theorem putK_keys {kvs : List (Key × V)} {ks : List Int} {n : Int} {v : V} (h : kvs.map (·.1) = ks.map Sum.inl) : (putK kvs (.inl n) v).map (·.1) = (if ks.contains n then ks else ks ++ [n]).map Sum.inl := by
  have hc : (kvs.any fun kv => decide (kv.1 = (.inl n : Key))) = ks.contains n := by
    have e1 : (kvs.any fun kv => decide (kv.1 = (.inl n : Key))) = (kvs.map (·.1)).any fun k => decide (k = (.inl n : Key)) := by rw [List.any_map]; rfl
    rw [e1, h, List.any_map, List.contains_eq_any_beq]
    congr 1
    funext m
    show decide ((Sum.inl m : Key) = .inl n) = (n == m)
    by_cases e : m = n
    · subst e; simp
    · have e2 : ¬ ((Sum.inl m : Key) = .inl n) := fun z => e (Sum.inl.inj z)
      rw [decide_eq_false e2]
      symm
      simp
      exact fun z => e z.symm
  unfold putK
  rw [hc]
  cases ks.contains n with
  | true =>
    rw [if_pos rfl, if_pos rfl, ← h, List.map_map]
    congr 1
    funext kv
    show (if kv.1 = .inl n then (kv.1, v) else kv).1 = kv.1
    split <;> rfl
  | false =>
    rw [if_neg (by simp), if_neg (by simp), List.map_append, List.map_append, h]
    rfl
theorem dedup_step (ns : List Int) (n : Int) : dedupI (ns ++ [n]) = if (dedupI ns).contains n then dedupI ns else dedupI ns ++ [n] := by
  unfold dedupI
  rw [List.foldl_append]
  rfl
theorem dedup_len : ∀ ns : List Int, (dedupI ns).length ≤ ns.length := by
  have go : ∀ (ns acc : List Int), (ns.foldl (fun acc n => if acc.contains n then acc else acc ++ [n]) acc).length ≤ acc.length + ns.length := by
    intro ns
    induction ns with
    | nil => intro acc; simp
    | cons n r ih =>
      intro acc
      rw [List.foldl_cons]
      refine Nat.le_trans (ih _) ?_
      split <;> simp <;> omega
  intro ns
  have := go ns []
  rw [List.length_nil, Nat.zero_add] at this
  exact this
def sortKeys (ds : List D) : Option D := (intsO ds).bind fun ns => if ns.length < 64 then some (.list ((isortI (dedupI ns)).map PyData.int)) else none
section
variable {M : Type → Type} [SpecM M] {X : Cx} {W : WX} {Γ : List Slot} {x : Str} {iter : Expr} {scope : Scope} {own : List (Str × Nat)} {p q1 q2 q3 dpos pos : Pos} {j2 : Nat} {mi : M (List D)}
theorem je_keys (i : Nat) (hc : X.calm = true) (hN : X.N.Nodup) (okb : BlkOk X.N X.env.scope scope own) (hg : ∀ (s : Shared) (H : Hp) (C : Addr) (cl : List (Str × Addr)) (fp : List Addr), PG (Blk X s H scope C cl fp) (.Name x q3) (gName i))
    (hk : ∀ (s : Shared) (H : Hp) (C : Addr) (cl : List (Str × Addr)) (fp : List Addr), Vis (Blk X s H scope C cl fp).env.scope x) (hiv : i ∈ own.map (·.2)) (hi : JC X W (.Name x q3) iter Γ mi) (hm : X.mg "sorted" = none) (hsx : ∀ x, foldedSetIterable iter X.env x = pure x := by intro _; rfl)
    (hix : X.N[i]? = some x := by kernel_rfl) (hl : i < Γ.length := by exact of_decide_eq_true (by kernel_rfl)) (hd : (x == ("__debug__" : Str)) = false := by kernel_rfl) (hcd : (x == ("__classdict__" : Str)) = false := by kernel_rfl) (hgl : Gl X "sorted" := by (show _ = _); kernel_rfl)
    (he : starEach [.DictComp (.Name x q1) (.Constant (.bool true) j2 q2) [⟨.Name x q3, iter, [], 0⟩] scope dpos] X.env = (false, eval (.DictComp (.Name x q1) (.Constant (.bool true) j2 q2) [⟨.Name x q3, iter, [], 0⟩] scope dpos) X.env) :: starEach [] X.env := by kernel_rfl)
    (hpl : (backTo pos (starEach [] X.env)).any (·.1) = false := by kernel_rfl) (hv : bootBuiltins "sorted" = some (.builtin "sorted") := by kernel_rfl) :
    JE X W (.Call (.Name "sorted" p) [.DictComp (.Name x q1) (.Constant (.bool true) j2 q2) [⟨.Name x q3, iter, [], 0⟩] scope dpos] [] pos) Γ (bnd mi fun ds => op (sortKeys ds)) := fun F H σ E Q hq => by
  refine PE.wp (pe_callB (call_sortedDI hc) hgl hm hv (pa_cons (pe_dc (own := own) (g := gName i) (tt := tYes) (tk := tVar i) (tv := tC (.bl true)) hc hN pi_sem okb hg (fun _ _ _ _ _ => pts_nil) (fun s H C cl fp => pe_var hix (hk s H C cl fp) hd hcd) (fun _ _ _ _ _ => pe_bl) hsx) pa_nil he) (by decide) (by decide) he hpl) ?_
  refine hi F H σ E _ (SpecM.mono (fun r hr => ?_) (SpecM.post_bind hq))
  cases r with
  | bad => exact hr
  | exc ε => exact hr
  | ok ds =>
    intro Jt H1 e1 y
    have h2 := SpecM.post_ret hr
    have E1 := E.mono e1
    unfold sortKeys at h2
    cases hns : intsO ds with
    | none => rw [hns] at h2; exact h2.elim
    | some ns =>
      rw [hns] at h2
      by_cases h64 : ns.length < 64
      · simp only [Option.bind, if_pos h64] at h2
        have hds : ds = ns.map PyData.int := by
          have go : ∀ (ds : List D) (ns : List Int), intsO ds = some ns → ds = ns.map PyData.int := by
            intro ds
            induction ds with
            | nil => intro ns h; cases h; rfl
            | cons d r ih =>
              intro ns h
              cases d <;> first | cases h | skip
              simp only [intsO] at h
              cases q : intsO r with
              | none => rw [q] at h; cases h
              | some cs =>
                rw [q] at h
                cases h
                rw [ih cs q]; rfl
          exact go ds ns hns
        subst hds
        intro Dd hD
        have nD : ∀ a, F.Dc a → a ≠ Dd := fun a z q => E1.fresh hD (.inl (E1.subO _ (q ▸ z)))
        let R : Nat → Hp → Prop := fun i H' => ∃ kvs : List (Key × V), H' Dd = some (.dK kvs) ∧ kvs.map (·.1) = (dedupI (ns.take i)).map Sum.inl ∧ Ext F.Dc F.Dc H1 H'
        refine ⟨fun i m H' => m = ns.length - i ∧ i ≤ ns.length ∧ R i H', ⟨ns.length, by simp, Nat.zero_le _, [], upd_same, rfl, .new hD⟩, ?_⟩
        rintro k m H' ⟨rfl, hk2, kvs, g1, g2, g3⟩
        by_cases hlt : k < ns.length
        · have hget : (ns.map PyData.int)[k]? = some (.int ns[k]) := by rw [List.getElem?_map, List.getElem?_eq_getElem hlt]; rfl
          obtain ⟨go, yl⟩ := y.go F.Dc (OS F σ Γ) k H' (.int ns[k]) (fun _ z => z) (fun _ z => z) (fun _ z => .inl z) g3 hget
          refine .inr ⟨go, R (k + 1), fun H2 h => ⟨ns.length - (k + 1), by omega, rfl, hlt, h⟩, fun v H2 hy => ?_⟩
          obtain ⟨e2, rv⟩ := yl v H2 hy
          obtain rfl := rv.toInt
          have g1' : H2 Dd = some (.dK kvs) := e2.keep _ _ (fun z => nD _ z rfl) (fun _ z => nomatch z) g1
          refine ⟨by rw [wipe_set _ _ hiv, wipe_wipe], ?_⟩
          refine iteT (B := R (k + 1) H2) ⟨.int ns[k], by rw [List.getElem?_set, if_pos rfl, if_pos (show i < (L2.wipe σ (own.map (·.2))).length by rw [L2.wipe_length, E.len]; exact hl)], kvs, .inl ns[k], rfl, g1', ?_, ?_⟩
          · have : kvs.length = (dedupI (ns.take k)).length := by
              have := congrArg List.length g2
              simpa using this
            rw [this, sizeLine_eq]
            have := dedup_len (ns.take k)
            have := List.length_take_le k ns
            omega
          · refine ⟨_, upd_same, ?_, ?_⟩
            · rw [putK_keys g2, ← dedup_step, List.take_add_one, List.getElem?_eq_getElem hlt]
              rfl
            · have e3 := g3.trans e2
              exact {
                keep := fun b o m t h => by
                  rw [upd_ne (show b ≠ Dd from fun z => by rw [z, hD] at h; cases h)]
                  exact e3.keep b o m t h
                there := fun b h => by
                  by_cases z : b = Dd
                  · rw [z, upd_same]; exact fun z => nomatch z
                  · rw [upd_ne z]; exact e3.there b h
                tups := fun b xs h => by
                  rw [upd_ne (show b ≠ Dd from fun z => by rw [z, hD] at h; cases h)]
                  exact e3.tups b xs h
                frzs := fun b o u h => by
                  rw [upd_ne (show b ≠ Dd from fun z => by rw [z, hD] at h; cases h)]
                  exact e3.frzs b o u h
                dice := fun b d h => by
                  obtain ⟨x, y, z, q⟩ := e3.dice b d h
                  exact ⟨x, y, z, by rw [upd_ne (nD b d)]; exact q⟩
                tabs := fun P q hT t => by
                  obtain ⟨ps, t1, t2, t3⟩ := e3.tabs P q hT t
                  have nx : ∀ b o, H2 b = some o → (∀ z, o ≠ .dK z) → (upd H2 Dd (.dK (putK kvs (.inl ns[k]) (V.bl true)))) b = some o := fun b o h n => by
                    rw [upd_ne (show b ≠ Dd from fun z => by rw [z, g1'] at h; exact n _ (Option.some.inj h).symm)]
                    exact h
                  exact ⟨ps, nx _ _ t1 (fun _ z => nomatch z), t2, fun pos cv hc => by
                    obtain ⟨c, t4, t5⟩ := t3 pos cv hc
                    exact ⟨c, t4, nx _ _ t5 (fun _ z => nomatch z)⟩⟩ }
        · have ek : k = ns.length := by omega
          subst ek
          rw [List.take_length] at g2
          refine .inl ⟨by have := y.stop F.Dc H' (fun _ z => z) g3; rw [List.length_map] at this; exact this, Dd, kvs, dedupI ns, rfl, .inl g1, g2, Nat.lt_of_le_of_lt (dedup_len ns) h64, fun ys p hp hs hf => ?_⟩
          rw [sorted_eq hp hs]
          have e4 : Ext F.Dc F.Dc H' (upd H' p (.lst ((isortI (dedupI ns)).map V.int))) := .new hf
          exact h2 (.ref p) _ ((e1.trans g3).trans e4) (.lst (.inl ⟨upd_same, fun z => E1.osdom p z (by
            cases hx : H1 p with
            | none => rfl
            | some o => exact (g3.there p (by rw [hx]; exact fun z => nomatch z) hf).elim)⟩) (Reps.ints _))
      · simp only [Option.bind, if_neg h64] at h2
        exact h2.elim
end
end DE

set_option maxHeartbeats 4000000
namespace DE
open PySem PySem.Spec PyProof.Rows L2
variable [τ : TabCtx]
/-! sorted(xs, key=f), f a def whose answers are numbers -/
section order
variable {β γ : Type}
def insK (k : β → Int) (p : β) : List β → List β
  | [] => [p]
  | q :: r => if k p ≤ k q then p :: q :: r else q :: insK k p r
def sortK (k : β → Int) : List β → List β
  | [] => []
  | p :: r => insK k p (sortK k r)
theorem insK_mid (k : β → Int) (p : β) : ∀ (a b : List β), (∀ q ∈ a, k q < k p) → (∀ q ∈ b, k p ≤ k q) → insK k p (a ++ b) = a ++ p :: b
  | [], [], _, _ => rfl
  | [], q :: r, _, h => if_pos (h q List.mem_cons_self)
  | q :: r, b, h1, h2 => by
    show insK k p (q :: (r ++ b)) = q :: (r ++ p :: b)
    unfold insK
    rw [if_neg (by have := h1 q List.mem_cons_self; omega), insK_mid k p r b (fun x hx => h1 x (List.mem_cons_of_mem _ hx)) h2]
theorem mergeK (k : β → Int) : ∀ l : List β, l.mergeSort (fun a b => decide (k a ≤ k b)) = sortK k l
  | [] => by rw [List.mergeSort_nil]; rfl
  | p :: r => by
    have tr : ∀ a b c : β, (decide (k a ≤ k b)) = true → (decide (k b ≤ k c)) = true → (decide (k a ≤ k c)) = true := fun a b c h1 h2 => by
      have h1 := of_decide_eq_true h1
      have h2 := of_decide_eq_true h2
      exact decide_eq_true (Int.le_trans h1 h2)
    have to : ∀ a b : β, (decide (k a ≤ k b) || decide (k b ≤ k a)) = true := fun a b => by
      rcases Int.le_total (k a) (k b) with h | h
      · rw [decide_eq_true h]; rfl
      · rw [decide_eq_true h, Bool.or_true]
    obtain ⟨a, b, e1, e2, h⟩ := List.mergeSort_cons tr to p r
    have srt := List.pairwise_mergeSort tr to (p :: r)
    rw [e1] at srt ⊢
    rw [mergeK k r] at e2
    show a ++ p :: b = insK k p (sortK k r)
    rw [e2]
    refine (insK_mid k p a b (fun q hq => ?_) fun q hq => ?_).symm
    · have := h q hq
      simpa using this
    · have := (List.pairwise_cons.mp (List.pairwise_append.mp srt).2.1).1 q hq
      exact of_decide_eq_true this
theorem insK_map {k : γ → Int} (g : β → γ) (p : β) : ∀ l : List β, (insK (fun b => k (g b)) p l).map g = insK k (g p) (l.map g)
  | [] => rfl
  | q :: r => by
    unfold insK
    rw [List.map_cons]
    show _ = if _ then _ else _
    split
    · rfl
    · rw [List.map_cons, insK_map g p r]
theorem sortK_map {k : γ → Int} (g : β → γ) : ∀ l : List β, (sortK (fun b => k (g b)) l).map g = sortK k (l.map g)
  | [] => rfl
  | p :: r => by
    show (insK _ p (sortK _ r)).map g = insK k (g p) (sortK k (r.map g))
    rw [insK_map, sortK_map g r]
theorem insK_mem {k : β → Int} {p x : β} : ∀ {l : List β}, x ∈ insK k p l → x = p ∨ x ∈ l
  | [], h => by simpa [insK] using h
  | q :: r, h => by
    unfold insK at h
    split at h
    · simpa using h
    · rcases List.mem_cons.mp h with e | h
      · exact .inr (by rw [e]; exact List.mem_cons_self)
      · rcases insK_mem h with e | h
        · exact .inl e
        · exact .inr (List.mem_cons_of_mem _ h)
theorem sortK_mem {k : β → Int} {x : β} : ∀ {l : List β}, x ∈ sortK k l → x ∈ l
  | [], h => by cases h
  | p :: r, h => by
    rcases insK_mem (show x ∈ insK k p (sortK k r) from h) with e | h
    · rw [e]; exact List.mem_cons_self
    · exact List.mem_cons_of_mem _ (sortK_mem h)
end order
section
variable {X : Cx} {pins : List (Addr × Obj)} {σ : L2.St} {H : Hp} {s : Shared}
/-- an address behind all that stood -/
structure Big (X : Cx) (pins : List (Addr × Obj)) (it : Addr) : Prop where
  s0 : X.s_0.heap.objs.size ≤ it
  loc : it ≠ X.env.locals
  cell : ∀ x c, X.env.cells.lookup x = some c → c ≠ it
  pn : ∀ p ∈ X.pn ++ pins, p.1 ≠ it
  fs : it ∉ X.fs
theorem big_of (I : Inv X pins σ H s) {it : Addr} (h : s.heap.objs.size ≤ it) : Big X pins it where
  s0 := Nat.le_trans I.sz h
  loc := fun z => absurd I.lt (by rw [← z]; exact Nat.not_lt.mpr h)
  cell := fun x c e z => by
    obtain ⟨v, o, ho, _⟩ := I.cell x c e
    exact absurd (Heap.lt_size ho) (by rw [z]; exact Nat.not_lt.mpr h)
  pn := fun p hp z => by
    obtain ⟨e, _⟩ := I.pin p hp
    exact absurd (Heap.lt_size e) (by rw [z]; exact Nat.not_lt.mpr h)
  fs := I.nofs h
theorem Big.turn {it : Addr} {more : List (Addr × Obj)} {h' : Heap} {t' : Nat} (B : Big X pins it) (J : Inv X (more ++ pins) σ H s) (hm : ∀ p ∈ more, p.1 ≠ it) (hn : H it = none) (k : ∀ b o, b ≠ it → s.heap.get? b = some o → h'.get? b = some o) : Inv X (more ++ pins) σ H { s with heap := h', toks := t' } :=
  J.turned k hn B.loc (.inr B.s0) B.cell fun p hp => by
    rcases List.mem_append.mp hp with q | q
    · exact B.pn p (List.mem_append_left _ q)
    · rcases List.mem_append.mp q with q | q
      · exact hm p q
      · exact B.pn p (List.mem_append_right _ q)
theorem Big.pin {it : Addr} {o : Obj} {more : List (Addr × Obj)} (B : Big X pins it) (J : Inv X (more ++ pins) σ H s) (hn : H it = none) (ho : s.heap.get? it = some o) (hd : ∀ v, o.data ≠ .cell v) : Inv X ((it, o) :: more ++ pins) σ H s :=
  J.pins_of fun p hp => by
    rcases List.mem_cons.mp hp with e | hp
    · subst e
      exact ⟨ho, hn, B.loc, B.fs, hd⟩
    · exact J.pin p (List.mem_append_right _ hp)
theorem unpin {p : Addr × Obj} {more : List (Addr × Obj)} (J : Inv X (p :: more) σ H s) : Inv X more σ H s := J.pins_of fun q hq => J.pin q (List.mem_append_right _ (List.mem_cons_of_mem _ hq))
end
def rSortedF (K : PySem.W.Frag) (f : Addr) (sp : Sp) : List V → List V → Hp → VK → Prop := fun vs zs H Q => ∃ (l : Addr) (xs : List V) (ns : List Int) (G : Hp → Prop), vs = [V.ref l] ∧ zs = [V.ref f] ∧ SqL K H l xs ∧ ns.length = xs.length ∧ G H ∧
  (∀ H1, G H1 → ∀ (i : Nat) (v : V) (n : Int), xs[i]? = some v → ns[i]? = some n → sp [v] H1 (fun u H2 => u = V.int n ∧ G H2) fun _ _ _ => False) ∧
  ∀ H1 p, G H1 → H1 p = none → Q (.ref p) (upd H1 p (.lst ((sortK (·.2) (xs.zip ns)).map (·.1))))
theorem each_vals {β : Type} {g : β → V} : ∀ {us : List Value} {bs : List β}, PySem.W.EachIs (fun u b => RelV (g b) u) us bs → Vals (bs.map g) us
  | _, _, .nil => .nil
  | _, _, .cons h t => .cons h (each_vals t)
theorem vals_each {xs : List V} {its : List Value} {ns : List Int} (r : Vals xs its) (hl : ns.length = xs.length) : PySem.W.EachIs (fun u (b : V × Int) => RelV b.1 u) its (xs.zip ns) := by
  induction r generalizing ns with
  | nil => exact .nil
  | cons h t ih =>
    cases ns with
    | nil => simp at hl
    | cons n r => exact .cons h (ih (by simpa using hl))
theorem each_ints {h : Heap} : ∀ {us : List Value} {ns : List Int}, Vals (ns.map V.int) us → PySem.W.EachIs (fun u (k : PyData) => ∃ as, Reads h u k as) us (ns.map PyData.int)
  | _, [], .nil => .nil
  | _, n :: r, .cons h t => by
    obtain ⟨tk, rfl⟩ := h
    exact .cons ⟨[], .int _ _⟩ (each_ints t)
theorem zip_snd {α β : Type} : ∀ {xs : List α} {ns : List β}, ns.length = xs.length → (xs.zip ns).map (·.2) = ns
  | [], [], _ => rfl
  | _ :: xs, n :: ns, h => by
    show n :: (xs.zip ns).map (·.2) = n :: ns
    rw [zip_snd (by simpa using h)]
section
variable {X : Cx} {f : Addr} {fd : FuncData} {ps : List Str} {sp : Sp} {k : Nat}
theorem cr_sortedF (F : FnOk X.prog X.w X.K X.mg X.base (L2.CX X.prog X.w) k f fd ps sp) (hr : Room (k + 2) X.A) (hb : Binds X.K fd ps []) : CallRK X (.builtin "sorted") [Str.ofString "key"] (rSortedF X.K f sp) := by
  intro pins s σ H vs zs us ws Q I r rz h
  obtain ⟨l, xs, ns, G, rfl, rfl, hs, hln, hG, turn, done⟩ := h
  obtain rfl := Vals.ref1 r
  obtain rfl := Vals.ref1 rz
  obtain ⟨its, rv, hl, hz⟩ := I.list hs
  have hlen : its.length = xs.length := rv.length.symm
  show wpAny _ _ (call (.builtin "sorted") [.ref l] [(Str.ofString "key", .ref f)]) _ _ _
  refine PySem.W.sorted_of_sort hl.isList (by rw [hlen]; exact hz) (ksk_s1 _ _) (fun _ => ksk_l1 _ _) fun E' => ?_
  rw [ksk_t1]
  have Ba : Big X pins (s.heap.objs.size + 1) := big_of I (Nat.le_succ _)
  have ha0 : H (s.heap.objs.size + 1) = none := I.hok.fresh (Nat.le_succ _)
  generalize hea : s.heap.objs.size + 1 = a at Ba ha0 ⊢
  have oA : (PySem.W.copyHeap s.heap its).get? a = some (seqObj "list" its.toArray 0) := by rw [← hea]; exact PySem.W.copyHeap_at _ _
  have I1 : Inv X ([] ++ pins) σ H { s with heap := PySem.W.copyHeap s.heap its } := I.kept (t' := s.toks) fun b o e => PySem.W.copyHeap_old e
  obtain ⟨e1, oA1⟩ : ∃ e1, ((PySem.W.copyHeap s.heap its).update a (Obj.mapSeq fun _ => (#[] : Array Value))).get? a = some (seqObj "list" #[] e1) := ⟨_, get?_update_seq oA fun _ => #[]⟩
  have I2 : Inv X ([] ++ pins) σ H { s with heap := (PySem.W.copyHeap s.heap its).update a (Obj.mapSeq fun _ => (#[] : Array Value)) } := Ba.turn (s := { s with heap := PySem.W.copyHeap s.heap its }) (t' := s.toks) I1 (fun _ z => nomatch z) ha0 fun b o hb e => (Heap.get?_update_ne _ _ _ _ hb).trans e
  have I2 := Ba.pin I2 ha0 oA1 (fun _ z => nomatch z)
  unfold ksk_tree
  refine wpAny_bind (listItems_at oA rfl ?_)
  refine wpAny_bind (listUpdate_at oA rfl ?_ (by rw [List.size_toArray, hlen]; exact hz) (Nat.zero_le _))
  refine wpAny_bind (seqEpoch_at oA1 rfl ?_)
  refine wpAny_bind (wpAny_newTuple ?_ (by show its.length ≤ _; rw [hlen]; exact hz))
  generalize (PySem.W.copyHeap s.heap its).update a (Obj.mapSeq fun _ => (#[] : Array Value)) = h2 at I2 oA1 ⊢
  have I3 := I2.kept (t' := s.toks) (h' := h2.push { cls := .type "tuple", data := .seq its.toArray }) fun b o e => Heap.get?_push_of_some _ e
  refine wpAny_bind (wpAny_newList ?_ (Nat.zero_le _))
  have oA3 : (h2.push { cls := .type "tuple", data := .seq its.toArray }).get? a = some (seqObj "list" #[] e1) := Heap.get?_push_of_some _ oA1
  generalize h2.push { cls := .type "tuple", data := .seq its.toArray } = h3 at I3 oA3 ⊢
  have Bk' := big_of I3 (Nat.le_refl _)
  have hk0 : H h3.objs.size = none := I3.hok.fresh (Nat.le_refl _)
  have hka : h3.objs.size ≠ a := fun z => absurd (Heap.lt_size oA3) (by rw [← z]; exact Nat.lt_irrefl _)
  have Bk : Big X pins h3.objs.size := ⟨Bk'.s0, Bk'.loc, Bk'.cell, fun p hp => Bk'.pn p (by
    rcases List.mem_append.mp hp with q | q
    · exact List.mem_append_left _ q
    · exact List.mem_append_right _ (List.mem_cons_of_mem _ q)), Bk'.fs⟩
  have I4 := I3.kept (t' := s.toks) (h' := h3.push { cls := .type "list", data := .seq (([] : List Value).toArray) }) fun b o e => Heap.get?_push_of_some _ e
  have oK : (h3.push { cls := .type "list", data := .seq (([] : List Value).toArray) }).get? h3.objs.size = some (seqObj "list" #[] 0) := Heap.get?_push_size _ rfl
  have I5 := Bk.pin (more := [(a, seqObj "list" #[] e1)]) I4 hk0 oK (fun _ z => nomatch z)
  clear I4 I3 I2 I1 oA3 oA1
  generalize h3.push { cls := .type "list", data := .seq (([] : List Value).toArray) } = h4 at I5 oK ⊢
  generalize h3.objs.size = kS at Bk hk0 hka I5 oK ⊢
  refine wpAny_holding ?_
  unfold ksk_rest
  refine wpAny_bind (wpAny_rule ?_)
  first
    | rw [List.forIn_toArray]
    | (rw [← Array.forIn_toList]; simp only [List.toList_toArray])
    | rw [← Array.forIn_toList]
  refine wpAny_bind (ksk_fold (fun i s' => ∃ H1 kA e, Inv X ((kS, seqObj "list" kA e) :: [(a, seqObj "list" #[] e1)] ++ pins) σ H1 s' ∧ G H1 ∧ Vals ((ns.take i).map V.int) kA.toList) its 0 _ ⟨H, #[], 0, I5, hG, by rw [List.take_zero]; exact .nil⟩ ?step ?done)
  case step =>
    rintro j u s' hu ⟨H1, kA, e, J, g1, rk⟩
    simp only [Nat.zero_add] at rk ⊢
    have hj : j < its.length := (List.getElem?_eq_some_iff.mp hu).1
    obtain ⟨v, hv⟩ : ∃ v, xs[j]? = some v := ⟨_, List.getElem?_eq_getElem (by omega)⟩
    obtain ⟨n, hn⟩ : ∃ n, ns[j]? = some n := ⟨_, List.getElem?_eq_getElem (by omega)⟩
    obtain ⟨u', hu', ruv⟩ := rv.get hv
    rw [hu] at hu'
    cases hu'
    have hsz : kA.size ≤ its.length := by
      have := rk.length
      have hh : kA.toList.length = kA.size := Array.length_toList
      rw [List.length_map, List.length_take] at this
      omega
    have hszl : its.length ≤ sizeLine := by rw [hlen]; exact hz
    refine wpAny_bind (wpAny_attempt (wpAny_call (codeAny_mono (F.run X.A.in1.in1 X.stack s' H1 ⟨[u], []⟩ [u] [v] _ _ hr.in1.in1 J.env0.in1.in1 (hb s' [u] J.kIn (F.len _ _ _ _ (turn H1 g1 j v n hv hn))) (.cons ruv .nil) (turn H1 g1 j v n hv hn)) fun r s2 hq => ?_)))
    match r, hq with
    | .ok .next, hq => exact False.elim hq
    | .ok .brk, hq => exact False.elim hq
    | .ok .cont, hq => exact False.elim hq
    | .error e, hq =>
      obtain ⟨_, _, _, _, _, _, _, _, _, _, _, _, z⟩ := hq
      exact z.elim
    | .ok (.ret w), hq =>
      obtain ⟨v2, H2, J2, rw2, ev, g2⟩ := J.after hq
      subst ev
      obtain ⟨tk, rfl⟩ := rw2
      obtain ⟨ok2, hk2, _⟩ := J2.pin (kS, seqObj "list" kA e) (List.mem_append_right _ List.mem_cons_self)
      have oN := get?_update_seq ok2 (·.push (Value.int n tk))
      refine wpAny_bind (listUpdate_at ok2 rfl ?_ (Nat.le_trans hsz hszl) (Nat.le_trans (Nat.le_of_eq (Array.size_push ..)) (Nat.succ_le_succ (Nat.le_trans hsz hszl))))
      have J3 := Bk.turn (more := [(a, seqObj "list" #[] e1)]) (t' := s2.toks) (h' := s2.heap.update kS (Obj.mapSeq (·.push (Value.int n tk)))) (unpin J2) (fun p hp => by
        rw [List.mem_singleton.mp hp]; exact hka.symm) hk2 fun b o hb e => (Heap.get?_update_ne _ _ _ _ hb).trans e
      have J4 := Bk.pin (more := [(a, seqObj "list" #[] e1)]) J3 hk2 oN (fun _ z => nomatch z)
      refine wpAny_pure ⟨rfl, H2, kA.push (Value.int n tk), _, J4, g2, ?_⟩
      have ek : ns.take (j + 1) = ns.take j ++ [n] := by rw [List.take_add_one, hn]; rfl
      rw [ek, List.map_append, Array.toList_push]
      exact rk.append (.cons ⟨tk, rfl⟩ .nil)
  case done =>
    rintro s' ⟨H1, kA, e, J, g1, rk⟩
    have e3 : ns.take (0 + its.length) = ns := List.take_of_length_le (by omega)
    rw [e3] at rk
    obtain ⟨oK1, hk1, _⟩ := J.pin (kS, seqObj "list" kA e) (List.mem_append_right _ List.mem_cons_self)
    obtain ⟨oA1, ha1, _⟩ := J.pin (a, seqObj "list" #[] e1) (List.mem_append_right _ (List.mem_cons_of_mem _ List.mem_cons_self))
    have hsz : kA.size = its.length := by
      have := rk.length
      have hh : kA.toList.length = kA.size := Array.length_toList
      rw [List.length_map] at this
      omega
    refine wpAny_bind (listItems_at oK1 rfl ?_)
    obtain ⟨h1, r1, r2⟩ := restrict s'.heap fun b => decide (b ≠ kS)
    have k1 : ∀ b o, h1.get? b = some o → b ≠ kS ∧ s'.heap.get? b = some o := fun b o eo => by
      by_cases hb : b = kS
      · rw [r2 b (decide_eq_false (fun z => z hb))] at eo
        cases eo
      · exact ⟨hb, (r1 b (decide_eq_true hb)).symm.trans eo⟩
    have hE : PySem.W.EachIs (fun u (k : PyData) => ∃ as, Reads s'.heap u k as) kA.toList (ns.map PyData.int) := each_ints rk
    have hal : PySem.W.AllAlike (ns.map PyData.int) := by
      intro d hd d' hd'
      obtain ⟨n, _, rfl⟩ := List.mem_map.mp hd
      obtain ⟨n', _, rfl⟩ := List.mem_map.mp hd'
      simp [PySem.W.alike]
    have hso : PySem.W.Sortable (ns.map PyData.int) := .inr fun d hd => by
      obtain ⟨n, _, rfl⟩ := List.mem_map.mp hd
      exact ⟨fun z => (nomatch z), fun _ z => (nomatch z)⟩
    refine PySem.W.keyH_end (κ := PySem.W.dataKind s'.heap (ns.map PyData.int)) (h₁ := h1) (vs := its) (fun b o hb eo => (k1 b o eo).2) (r2 kS (decide_eq_false (fun z => z rfl))) oK1 oA1 hka (PySem.W.SortsAt.data hE hal hso fun d hd => ?_) hsz (by rw [hlen]; exact hz) fun h' tk c kp' hA => ⟨rfl, ?_⟩
    · obtain ⟨n, _, rfl⟩ := List.mem_map.mp hd
      have := hr.units
      show X.A.units + 1 + 1 + PyData.depth (.int n) < cLine
      simp only [PyData.depth]
      omega
    have keep : ∀ b o, b ≠ a → b ≠ kS → s'.heap.get? b = some o → h'.get? b = some o := fun b o n1 n2 eo => kp' b o n1 ((r1 b (decide_eq_true n2)).trans eo)
    have hR := PySem.W.keyedOut_each (R := fun u (b : V × Int) => RelV b.1 u) (bs := xs.zip ns) (rev := false) (vs := its) (fun b : V × Int => PyData.int b.2) ⟨s'.heap, kA.toList, by
        have em : (xs.zip ns).map (fun b : V × Int => PyData.int b.2) = ns.map PyData.int := by
          have := zip_snd (xs := xs) hln
          rw [← congrArg (List.map PyData.int) this, List.map_map]
          rfl
        rw [em]
        exact ⟨hal, rfl, hE⟩⟩ (vals_each rv hln)
    rw [PySem.W.dataLe_int, mergeK] at hR
    have hV := each_vals hR
    have hol : (PySem.W.sortVals (PySem.W.dataKind s'.heap (ns.map PyData.int)) false kA.toList its).length = its.length := PySem.W.sortVals_length false (by rw [Array.length_toList]; exact hsz)
    have J0 : Inv X pins σ H1 s' := unpin (unpin J)
    have na : ∀ b u, H1 b = some u → b ≠ a := fun b u e z => by rw [z, ha1] at e; cases e
    have nk : ∀ b u, H1 b = some u → b ≠ kS := fun b u e z => by rw [z, hk1] at e; cases e
    have upn : ∀ b u, H1 b = some u → (upd H1 a (.lst ((sortK (·.2) (xs.zip ns)).map (·.1)))) b = some u := fun b u e => by rw [upd_ne (na b u e)]; exact e
    refine ⟨.ref a, upd H1 a (.lst ((sortK (·.2) (xs.zip ns)).map (·.1))), ?_, rfl, done H1 a g1 ha1⟩
    refine J0.step (ch := [kS, a]) (g' := s'.gens) (d' := s'.drawn) (t' := tk) (fun b hb => ?_) (fun b o _ _ hc e _ => keep b o (fun z => hc (by simp [z])) (fun z => hc (by simp [z])) e) (fun b o _ _ hc e _ => ⟨o.slots, keep b o (fun z => hc (by simp [z])) (fun z => hc (by simp [z])) e⟩)
      (fun b o hc e n => by rw [upd_ne (fun z => hc (by simp [z]))]; exact n) (fun b o hc e => ⟨o, keep b o (fun z => hc (by simp [z])) (fun z => hc (by simp [z])) e⟩) (fun b xs e => upn b _ e) (fun b o u e => upn b _ e) (fun b ps e => ⟨#[], by rw [upn b _ e]; simp⟩) (fun m hm => ?_) (fun b u e => ?_) J0.bare
    · rcases List.mem_cons.mp hb with e | hb
      · subst e; exact ⟨.inr Bk.s0, Bk.loc, Bk.cell, Bk.pn⟩
      · rw [List.mem_singleton.mp hb]; exact ⟨.inr Ba.s0, Ba.loc, Ba.cell, Ba.pn⟩
    · obtain ⟨o, es, ep, ho, r⟩ := hm
      exact ⟨o, es, ep, keep _ o (Ne.symm Ba.loc) (Ne.symm Bk.loc) ho, r⟩
    · by_cases hb : b = a
      · subst hb
        rw [upd_same] at e
        cases e
        refine ⟨?_, _, c, hV, hA⟩
        rw [hV.length, hol, hlen]
        exact hz
      · rw [upd_ne hb] at e
        refine (J0.hok b u e).stay (fun c v hc q => keep c v ?_ ?_ q) (fun c q => upn c _ q) fun c xs q => upn c _ q
        · rcases hc with z | z
          · rw [z]; exact na b u e
          · exact na c _ z
        · rcases hc with z | z
          · rw [z]; exact nk b u e
          · exact nk c _ z
end
end DE

set_option maxHeartbeats 4000000
namespace DE
open PySem PySem.Spec PyProof.Rows L2
variable [τ : TabCtx]
/-! sorted(e, key=f): the mirror and the rule -/
def keysM (f : List D → Res D) : List D → Res (List Int)
  | [] => .ok []
  | d :: r => match f [d] with
    | .ok (.int n) => match keysM f r with
      | .ok ns => .ok (n :: ns)
      | _ => .bad
    | _ => .bad
def sortKeyL (f : List D → Res D) : D → Res (List D)
  | .list xs => match keysM f xs with
    | .ok ns => .ok ((sortK (·.1) (ns.zip xs)).map (·.2))
    | _ => .bad
  | _ => .bad
theorem keysM_get {f : List D → Res D} : ∀ {xs : List D} {ns : List Int}, keysM f xs = .ok ns → ns.length = xs.length ∧ ∀ (i : Nat) (d : D) (n : Int), xs[i]? = some d → ns[i]? = some n → f [d] = .ok (.int n)
  | [], ns, h => by
    cases h
    exact ⟨rfl, fun i d n h => by simp at h⟩
  | d :: r, ns, h => by
    unfold keysM at h
    split at h <;> first | cases h | skip
    rename_i m hm
    split at h <;> first | cases h | skip
    rename_i ns' hn
    obtain ⟨q1, q2⟩ := keysM_get hn
    refine ⟨by simp [q1], fun i x n hx hn => ?_⟩
    cases i with
    | zero =>
      simp at hx hn
      subst hx hn
      exact hm
    | succ i => exact q2 i x n (by simpa using hx) (by simpa using hn)
section
variable {K : PySem.W.Frag} {mg : Str → Option Value} {O : Addr → Prop} {H : Hp}
theorem reps_zip {ns : List Int} : ∀ {ds : List D} {vs : List V}, Reps K mg O H vs ds → ns.length = vs.length → ∃ L : List (V × Int × D), L.map (fun t => (t.1, t.2.1)) = vs.zip ns ∧ L.map (·.2) = ns.zip ds ∧ ∀ t ∈ L, Rep K mg O H t.1 t.2.2 := by
  induction ns with
  | nil =>
    intro ds vs h hl
    have e : vs = [] := by simpa using hl.symm
    subst e
    exact ⟨[], rfl, rfl, fun _ z => nomatch z⟩
  | cons n r ih =>
    intro ds vs h hl
    cases ds with
    | nil => rw [h.nil_of] at hl; simp at hl
    | cons d ds =>
      obtain ⟨v, us, rfl, h1, h2⟩ := h.cons_of
      obtain ⟨L, e1, e2, e3⟩ := ih h2 (by simpa using hl)
      refine ⟨(v, n, d) :: L, ?_, ?_, fun t ht => ?_⟩
      · rw [List.map_cons, e1]; rfl
      · rw [List.map_cons, e2]; rfl
      · rcases List.mem_cons.mp ht with e | ht
        · rw [e]; exact h1
        · exact e3 t ht
theorem reps_of_all : ∀ {L : List (V × Int × D)}, (∀ t ∈ L, Rep K mg O H t.1 t.2.2) → Reps K mg O H (L.map (·.1)) (L.map (·.2.2))
  | [], _ => .nil
  | t :: r, h => .cons (h t List.mem_cons_self) (reps_of_all fun s hs => h s (List.mem_cons_of_mem _ hs))
theorem reps_sort {ns : List Int} {ds : List D} {vs : List V} (h : Reps K mg O H vs ds) (hl : ns.length = vs.length) : Reps K mg O H ((sortK (·.2) (vs.zip ns)).map (·.1)) ((sortK (·.1) (ns.zip ds)).map (·.2)) := by
  obtain ⟨L, e1, e2, e3⟩ := reps_zip (ns := ns) h hl
  have f1 := sortK_map (k := fun p : V × Int => p.2) (fun t : V × Int × D => (t.1, t.2.1)) L
  have f2 := sortK_map (k := fun p : Int × D => p.1) (fun t : V × Int × D => t.2) L
  rw [e1] at f1
  rw [e2] at f2
  rw [← f1, ← f2, List.map_map, List.map_map]
  exact reps_of_all (L := sortK (fun t : V × Int × D => t.2.1) L) fun t ht => e3 t (sortK_mem ht)
end
section
variable {M : Type → Type} [SpecM M] {X : Cx} {W : WX} {Γ : List Slot} {e : Expr} {p p1 pos kpos : Pos} {x : Str} {j k : Nat} {ma : M D}
theorem jf_sortF {f : List D → Res D} (G : DefP X.prog X.w X.K X.mg X.base x j 1 f) (hR : Room (k + 2) X.A) (hk : j ≤ k) (ha : JQ X W e Γ ma) (hm : X.mg "sorted" = none) (hgl : Gl X "sorted" := by (show _ = _); kernel_rfl) (hv : bootBuiltins "sorted" = some (.builtin "sorted") := by kernel_rfl) (hgx : Gl X x := by (show _ = _); kernel_rfl) (hdb : (x == ("__debug__" : Str)) = false := by kernel_rfl)
    (he : backTo pos (starEach [e] X.env) = (false, eval e X.env) :: backTo pos (starEach [] X.env) := by kernel_rfl) (hpl : (backTo pos (starEach [e] X.env)).any (·.1) = false := by kernel_rfl)
    (hs0 : starEach [e] X.env = (false, eval e X.env) :: starEach [] X.env := by kernel_rfl)
    (hall : (backToKw pos (keywordEach [⟨some "key", .Name x p1, kpos⟩] X.env)).all (·.1.isSome) = true := by kernel_rfl) (hnone : (backToKw pos (keywordEach [⟨some "key", .Name x p1, kpos⟩] X.env)).any (·.1.isNone) = false := by kernel_rfl) (hks : (backToKw pos (keywordEach [⟨some "key", .Name x p1, kpos⟩] X.env)).filterMap (·.1) = [Str.ofString "key"] := by kernel_rfl) :
    JF X W (.Call (.Name "sorted" p) [e] [⟨some "key", .Name x p1, kpos⟩] pos) Γ (bnd ma fun d => SpecM.ret (sortKeyL f d)) := fun F H σ E Q hq => by
  obtain ⟨fa, fd, ps, hmf, kp, bi, okf, bad⟩ := G.ex
  refine PE.wp (pe_callBK (cr_sortedF (okf.mono hk) hR bi) hgl hm hv (pa_cons pe_sem pa_nil hs0) (pk_cons (pe_glob hgx hmf (show RelV (.ref fa) (.ref fa) from rfl) hdb) pk_nil) (by decide) (by decide) he hpl hall hnone hks) ?_
  refine ha F H σ E _ (SpecM.mono (fun r hr => ?_) (SpecM.post_bind hq))
  cases r with
  | bad => exact hr
  | exc ε => exact hr
  | ok d =>
    intro v H1 e1 r1
    have h2 := SpecM.post_ret hr
    cases d <;> first | exact h2.elim | skip
    rename_i ds
    obtain ⟨l, xs, rfl, h3, h4⟩ := r1.list
    unfold sortKeyL at h2
    cases hns : keysM f ds with
    | bad => simp only [hns] at h2; exact h2.elim
    | exc ε => simp only [hns] at h2; exact h2.elim
    | ok ns =>
      simp only [hns] at h2
      obtain ⟨q1, q2⟩ := keysM_get hns
      have E1 := E.mono e1
      have hl : ns.length = xs.length := q1.trans h4.length.symm
      refine ⟨l, xs, ns, fun H2 => Ext F.Dc F.Dc H1 H2, rfl, rfl, h3, hl, .refl, fun H2 g2 i u n hu hn => ?_, fun H2 q g2 hp => ?_⟩
      · obtain ⟨d, hd, rd⟩ := h4.getV hu
        have E2 := E1.mono g2
        refine ⟨OS F σ Γ, [d], rfl, E2.tbs, E2.osdom, .cons (rd.ext g2 fun a z => E.xk a z) .nil, ?_⟩
        rw [q2 i d n hd hn]
        exact fun w H3 e3 r3 => ⟨r3.toInt, g2.trans e3.up⟩
      · exact h2 q _ H2 (e1.trans g2) hp (reps_sort (h4.ext g2 fun a z => E.xk a z) hl)
end
theorem op_isnot_bl {X : Cx} : OpR X (compareOp .IsNot) (fun x y H Q => ∃ a b, x = .bl a ∧ y = .bl b ∧ Q (.bl (!decide (a = b))) H) := by
  intro pins s σ H x y v u Q I rx ry h
  obtain ⟨a, b, rfl, rfl, q⟩ := h
  cases (show v = Value.bool a from rx)
  cases (show u = Value.bool b from ry)
  by_cases e : a = b
  · subst e
    exact wpAny_isNot_self rfl ⟨.bl false, H, I, rfl, by simpa using q⟩
  · exact wpAny_isNot_other rfl (fun z => e (Value.bool.inj z)) ⟨.bl true, H, I, rfl, by simpa [e] using q⟩
end DE

set_option maxHeartbeats 4000000
namespace DE
open PySem PySem.Spec PyProof.Rows L2
/-! the law's own def -/
section
variable [τ : TabCtx]
variable {P : Program} {w : World} {K : PySem.W.Frag} {mg : Str → Option Value} {base : Heap}
def spM (K : PySem.W.Frag) (mg : Str → Option Value) (n : Nat) (m : List D → Dem D) : Sp := fun vs H Q E =>
  ∃ (O : Addr → Prop) (ds : List D), vs.length = n ∧ TabsOK H ∧ (∀ a, O a → H a ≠ none) ∧ Reps K mg O H vs ds ∧ (m ds).run (PostF K mg O Ext0 H Q E)
theorem fn_demC {x qual : Str} {st : Stmt} {f : Addr} {fd : FuncData} {cdv : Value} {N ps : List Str} {k n : Nat} {m : List D → Dem D} (Fn : FunC K x qual st f fd cdv) (S : FnScope N ps (defScope st)) (hps : ps.length = n) (Z : List Nat)
    (hbody : ∀ (A : Around) (outer : List PySem.Env) (s : Shared) (H : Hp) (E : XK), Room k (Xd P w K mg base N qual st f cdv A outer s H E).A → ∀ ds, ds.length = n →
      ∃ (G : List Slot) (mb : Dem (Fl Unit Empty)), m ds = runF mb ∧ JS (Xd P w K mg base N qual st f cdv A outer s H E) (Wd E) Z (defBody st) (ds.map Slot.dat ++ List.replicate (N.length - n) .any) mb (fun _ => G) (fun t => nomatch t)) :
    FnOk P w K mg base (L2.CX P w) (k + 1) f fd ps (spM K mg n m) := by
  obtain ⟨oc, od, kV, doc, pm, an, ct, osl, rfl, lk, hcd⟩ := Fn.ex
  refine fn_of lk hcd S (fun vs H Q E h => ?_) fun A outer s H vs Q E hr h => ?_
  · obtain ⟨O, ds, hl, _⟩ := h
    exact hl.trans hps.symm
  · obtain ⟨O, ds, hl, tb, od, r, hq⟩ := h
    obtain ⟨G, mb, e, js⟩ := hbody A outer s H E hr ds (r.length.symm.trans hl)
    rw [e] at hq
    refine ⟨_, pss_sem, ?_⟩
    have E0 := env_start (K := K) (mg := mg) (M := fun _ => False) (Dc := fun _ => False) (n := N.length - n) tb od (fun _ z => z.elim) (fun _ z => z.elim) (fun _ z => z.elim) (fun _ z => z.elim) r (pre := []) (preG := []) rfl (fun i s h => by simp at h)
    have est : L2.start N vs = (([] ++ vs).map some ++ List.replicate (N.length - n) none : L2.St) := by unfold L2.start; rw [hl]; rfl
    rw [est]
    refine js _ H _ (fun _ _ => ⟨fun _ z => z, trivial⟩) E0 _ (mb.mono (fun fl h2 => ?_) hq)
    cases fl with
    | bad => exact h2
    | exc ε => exact fun cls dx σ' H' e r => h2 cls dx H' e (r.anti fun a z => .inl z)
    | ok fl =>
      cases fl with
      | next u => exact fun σ' H' E' => h2 .non H' E'.ext .non
      | ret d => exact fun v H' e r => h2 v H' e (r.anti fun a z => .inl z)
      | brk t => exact nomatch t
      | cnt t => exact nomatch t
end
/-! what the top has left, by names -/
structure FnF (K : PySem.W.Frag) (mg : Str → Option Value) (x : Str) (st : Stmt) (ps : List Str) : Prop where
  ex : ∃ (f : Addr) (fd : FuncData), mg x = some (.ref f) ∧ PySem.W.keepIn K (.ref f) = true ∧ Fun K x x st f fd ∧ Binds K fd ps []
def dOf (x : Str) (st : Stmt) : He.DefD := ⟨(x, none), x, x, defArgs st, defBody st, defScope st, [], []⟩
section
variable {K : PySem.W.Frag} {h : Heap} {mg : Str → Option Value} {fa : List He.Fa} {fn : List He.DefD}
abbrev BindsBy (x : Str) (st : Stmt) (ps : List Str) : Prop := ∀ (kV doc pm : Value) (an : Option Addr) (cdv ct : Value) (us : List Value), us.length = ps.length → bindArgs (PySem.W.fnOf x x (defArgs st) (defBody st) (defScope st) .none kV doc pm an cdv ct) ⟨us, []⟩ = pure (ps.zip us)
theorem fnF_of (X : K.In h) (G : h.Ns mainGlobals mg) (c : He.SaysD fa fn K) {x : Str} {st : Stmt} {ps : List Str} (i j : Nat) (hb : BindsBy x st ps) (hi : fn[i]? = some (dOf x st) := by kernel_rfl) (hj : fa[j]? = some (.glo x) := by kernel_rfl) : FnF K mg x st ps := by
  obtain ⟨fd, F⟩ := c.def_ i hi
  have F' : Fun K x x st (He.ga K x) fd := He5.fun_of F
  exact ⟨_, fd, He.glo_ok X G (c.fact j hj), F'.kp, F', F'.binds hb⟩
theorem free_of (X : K.In h) (G : h.Ns mainGlobals mg) (c : He.SaysD fa fn K) {x : Str} (j : Nat) (hj : fa[j]? = some (.free x) := by kernel_rfl) : mg x = none := He.free_ok X G (c.fact j hj)
end
/-! classes that are raised -/
theorem xF_of {K : PySem.W.Frag} {h : Heap} {mg : Str → Option Value} {fa : List He.Fa} {fn : List He.DefD} (X : K.In h) (G : h.Ns mainGlobals mg) (c : He.SaysD fa fn K) {x : Str} (j e : Nat) (hj : fa[j]? = some (.glo x) := by kernel_rfl) (he : fa[e]? = some (.exc x) := by kernel_rfl) : XF K mg x := by
  obtain ⟨h1, h2, h3, h4⟩ := He.exc_ok (c.fact e he)
  exact ⟨_, He.glo_ok X G (c.fact j hj), ⟨_, _, _, _, PySem.F.excBase_ValueError, h1⟩, h2, h3, h4⟩
/-! constants -/
mutual
def repB (K : PySem.W.Frag) : D → Value → Bool
  | .none, .none => true
  | .bool b, .bool c => b == c
  | .int i, .int j _ => decide (i = j)
  | .str x, .str y _ => decide (x = y)
  | .tuple ds, .ref a => match K.lookup a with
    | some ⟨.type t, _, .seq its _, _⟩ => decide (t = "tuple") && (decide (its.size ≤ sizeLine) && repBs K ds its.toList)
    | _ => false
  | _, _ => false
def repBs (K : PySem.W.Frag) : List D → List Value → Bool
  | [], [] => true
  | d :: ds, u :: us => repB K d u && repBs K ds us
  | _, _ => false
end
mutual
theorem repB_ok {K : PySem.W.Frag} {mg : Str → Option Value} : ∀ (d : D) (u : Value), repB K d u = true → ∃ v, RelV v u ∧ ∀ (O : Addr → Prop) (H : Hp), Rep K mg O H v d
  | .none, u, h => by
    cases u <;> first | exact ⟨.non, rfl, fun _ _ => .non⟩ | (simp [repB] at h)
  | .bool b, u, h => by
    cases u <;> first | (simp [repB] at h; subst h; exact ⟨.bl b, rfl, fun _ _ => .bl b⟩) | (simp [repB] at h)
  | .int i, u, h => by
    cases u <;> first | (rename_i t; simp [repB] at h; subst h; exact ⟨.int i, ⟨t, rfl⟩, fun _ _ => .int i⟩) | (simp [repB] at h)
  | .str x, u, h => by
    cases u <;> first | (rename_i t; simp [repB] at h; subst h; exact ⟨.str x, ⟨t, rfl⟩, fun _ _ => .str x⟩) | (simp [repB] at h)
  | .tuple ds, u, h => by
    cases u <;> first | (simp [repB] at h; done) | skip
    rename_i a
    rw [repB] at h
    split at h <;> first | cases h | skip
    rename_i t od its n sl hk
    simp only [Bool.and_eq_true, decide_eq_true_eq] at h
    obtain ⟨h1, h2, h3⟩ := h
    obtain ⟨vs, r1, r2⟩ := repBs_ok (mg := mg) ds its.toList h3
    subst h1
    exact ⟨V.ref a, rfl, fun O H => .tup (.inr ⟨_, its, n, hk, rfl, rfl, h2, r1⟩) (r2 O H)⟩
  | .list ds, u, h => by cases u <;> simp [repB] at h
  | .dict ds, u, h => by cases u <;> simp [repB] at h
theorem repBs_ok {K : PySem.W.Frag} {mg : Str → Option Value} : ∀ (ds : List D) (us : List Value), repBs K ds us = true → ∃ vs, Vals vs us ∧ ∀ (O : Addr → Prop) (H : Hp), Reps K mg O H vs ds
  | [], us, h => by
    cases us with
    | nil => exact ⟨[], .nil, fun _ _ => .nil⟩
    | cons u us => simp [repBs] at h
  | d :: ds, us, h => by
    cases us with
    | nil => simp [repBs] at h
    | cons u us =>
      rw [repBs, Bool.and_eq_true] at h
      obtain ⟨v, r1, r2⟩ := repB_ok (mg := mg) d u h.1
      obtain ⟨vs, q1, q2⟩ := repBs_ok (mg := mg) ds us h.2
      exact ⟨v :: vs, .cons r1 q1, fun O H => .cons (r2 O H) (q2 O H)⟩
end
def constB (K : PySem.W.Frag) (p : Str × D) : Bool := match PySem.W.nsIn K mainGlobals p.1 with
  | some (some u) => repB K p.2 u
  | _ => false
theorem gC_of {K : PySem.W.Frag} {h : Heap} {mg : Str → Option Value} (X : K.In h) (G : h.Ns mainGlobals mg) {x : Str} {d : D} (hc : constB K (x, d) = true) : GC K mg x d := by
  unfold constB at hc
  split at hc <;> first | cases hc | skip
  rename_i u e
  obtain ⟨v, r1, r2⟩ := repB_ok (mg := mg) d u hc
  exact ⟨u, v, PySem.W.mg_of X G e, r1, r2⟩
def constsB (L : List (Str × D)) (K : PySem.W.Frag) : Bool := L.all (constB K)
theorem gC_at {K : PySem.W.Frag} {h : Heap} {mg : Str → Option Value} (X : K.In h) (G : h.Ns mainGlobals mg) {L : List (Str × D)} (hc : constsB L K = true) {x : Str} {d : D} (i : Nat) (hi : L[i]? = some (x, d) := by kernel_rfl) : GC K mg x d := gC_of X G (List.all_eq_true.mp hc _ (List.mem_of_getElem? hi))
/-! the classes that a def tells by words -/
def wordsB (L : List Str) (K : PySem.W.Frag) : Bool := L.all fun a => (He.Fa.glo a).ok K && L.all fun b => decide (PySem.W.exmOne K (.ref (He.ga K a)) (.ref (He.ga K b)) = some (a == b))
theorem words_glo {K : PySem.W.Frag} {h : Heap} {mg : Str → Option Value} (X : K.In h) (G : h.Ns mainGlobals mg) {L : List Str} (hc : wordsB L K = true) {a : Str} (ha : a ∈ L) : mg a = some (.ref (He.ga K a)) := by
  have z := List.all_eq_true.mp hc a ha
  rw [Bool.and_eq_true] at z
  exact He.glo_ok X G z.1
theorem words_cls {K : PySem.W.Frag} {h : Heap} {mg : Str → Option Value} (X : K.In h) (G : h.Ns mainGlobals mg) {L : List Str} (hc : wordsB L K = true) : ∀ a ∈ L, ∀ b ∈ L, ∀ Ca, mg a = some (Value.ref Ca) → ∃ Cb, mg b = some (Value.ref Cb) ∧ PySem.W.exmOne K (.ref Ca) (.ref Cb) = some (a == b) := fun a ha b hb Ca h => by
  have z := List.all_eq_true.mp hc a ha
  rw [Bool.and_eq_true] at z
  have z2 := of_decide_eq_true (List.all_eq_true.mp z.2 b hb)
  rw [words_glo X G hc ha] at h
  cases h
  exact ⟨_, words_glo X G hc hb, z2⟩
/-! tables -/
def isTb (o : Obj) : Bool := match o.cls, o.data with
  | .none, .fields _ => true
  | _, _ => false
def noT (K : PySem.W.Frag) : PySem.W.Frag := K.filter fun p => !isTb p.2
/-- what the module's names reach: values, code objects, class dicts, items (n levels) -/
def refsZ (o : Obj) : List Addr := match o.data with
  | .seq its _ => its.toList.flatMap He.refV
  | .func fd => He.refV fd.code ++ fd.closure.map (·.2)
  | .cell (some v) => He.refV v
  | .cls cd => cd.ns :: cd.mro.flatMap He.refV
  | .dict es _ => es.toList.flatMap fun e => He.refV e.val
  | _ => []
def lvZ (g : Addr → Option Obj) (as : List Addr) : List Addr := as.flatMap fun a => match g a with
  | some o => refsZ o
  | none => []
def asZ (g : Addr → Option Obj) : Nat → List Addr → List Addr
  | 0, as => as
  | n + 1, as => as ++ asZ g n (lvZ g as)
def KY (n : Nat) (g : Addr → Option Obj) : PySem.W.Frag := noT (He.frG g (asZ g n [mainGlobals] ++ [cStatics]))
theorem frG_mem {g : Addr → Option Obj} {as : List Addr} {a : Addr} {o : Obj} (h : (a, o) ∈ He.frG g as) : g a = some o := by
  unfold He.frG at h
  obtain ⟨b, _, hb⟩ := List.mem_filterMap.mp h
  cases q : g b with
  | none => rw [q] at hb; cases hb
  | some x =>
    rw [q] at hb
    cases hb
    exact q
theorem mem_lookup {a : Addr} {o : Obj} : ∀ {l : List (Addr × Obj)}, l.lookup a = some o → (a, o) ∈ l
  | [], h => by cases h
  | (b, u) :: r, h => by
    unfold List.lookup at h
    split at h
    · rename_i e
      cases h
      have e : a = b := by simpa using e
      subst e
      exact List.mem_cons_self
    · exact List.mem_cons_of_mem _ (mem_lookup h)
theorem kY_get {n : Nat} {g : Addr → Option Obj} {a : Addr} {o : Obj} (h : (KY n g).lookup a = some o) : g a = some o ∧ isTb o = false := by
  have m := mem_lookup h
  unfold KY noT at m
  obtain ⟨m1, m2⟩ := List.mem_filter.mp m
  exact ⟨frG_mem m1, by simpa using m2⟩
theorem kY_in {n : Nat} {h : Heap} : (KY n h.get?).In h := fun _ _ e => (kY_get e).1
/-- a def of the module, or C.m -/
def pth (x : Str) : Str × Option Str := match x.cps.toList.span (· != 46) with
  | (a, 46 :: b) => (⟨a.toArray⟩, some ⟨b.toArray⟩)
  | _ => (x, none)
def codeA (K : PySem.W.Frag) (x : Str) : Addr := match K.lookup (He.fAd K (pth x)) with
  | some ⟨_, _, .func fd, _⟩ => (match fd.code with
    | .ref c => c
    | _ => 0)
  | _ => 0
def tabA (K : PySem.W.Frag) (x : Str) : Addr := match K.lookup (codeA K x) with
  | some ⟨_, _, .fields vs, _⟩ => (match (vs[11]? : Option Value) with
    | some (.ref P) => P
    | _ => 0)
  | _ => 0
def isCodeB (K : PySem.W.Frag) (x : Str) : Bool := match K.lookup (He.fAd K (pth x)) with
  | some ⟨_, _, .func fd, _⟩ => (match fd.code with
    | .ref c => c == codeA K x
    | _ => false)
  | _ => false
def codeB (K : PySem.W.Frag) (x : Str) : Bool := match K.lookup (codeA K x) with
  | some ⟨.type t, _, .fields vs, _⟩ => decide (t = "code") && ((match (vs[11]? : Option Value) with
    | some (.ref P) => P == tabA K x
    | _ => false) && ((match (vs[18]? : Option Value) with
    | some (.str _ _) => true
    | _ => false) && ((match (vs[7]? : Option Value) with
    | some (.int _ _) => true
    | _ => false) && ((match (vs[9]? : Option Value) with
    | some (.bool _) => true
    | _ => false) && ((match (vs[10]? : Option Value) with
    | some (.int _ _) => true
    | _ => false) && !(codeA K x == tabA K x))))))
  | _ => false
def emptyB (g : Addr → Option Obj) (P : Addr) : Bool := match g P with
  | some ⟨.none, none, .fields vs, sl⟩ => vs.isEmpty && sl.isEmpty
  | _ => false
theorem emptyB_ok {g : Addr → Option Obj} {P : Addr} (h : emptyB g P = true) : g P = some { cls := .none, data := .fields #[] } := by
  unfold emptyB at h
  split at h <;> first | cases h | skip
  rename_i vs sl e
  simp only [Bool.and_eq_true, Array.isEmpty_iff] at h
  rw [e, h.1, h.2]
theorem getD_of {vs : Array Value} {i : Nat} {v : Value} (h : vs[i]? = some v) : vs.getD i .none = v := by
  rw [Array.getD_eq_getD_getElem?, h]; rfl
theorem codeB_ok {K : PySem.W.Frag} {h : Heap} (X : K.In h) {x : Str} (hc : codeB K x = true) : PySem.W.CodeHd h (codeA K x) (tabA K x) := by
  unfold codeB at hc
  split at hc <;> first | cases hc | skip
  rename_i t od vs sl e
  simp only [Bool.and_eq_true, decide_eq_true_eq] at hc
  obtain ⟨rfl, h1, h2, h3, h4, h5, h6⟩ := hc
  split at h1 <;> first | cases h1 | skip
  rename_i P e1
  split at h2 <;> first | cases h2 | skip
  rename_i f ft e2
  split at h3 <;> first | cases h3 | skip
  rename_i fl tg e3
  split at h4 <;> first | cases h4 | skip
  rename_i inF e4
  split at h5 <;> first | cases h5 | skip
  rename_i tx tt e5
  have hP : P = tabA K x := by simpa using h1
  subst hP
  exact ⟨_, vs, f, ft, fl, tg, inF, tx, tt, X _ _ e, rfl, rfl, e1, getD_of e1, getD_of e2, getD_of e3, getD_of e4, getD_of e5, by simpa using h6⟩
def nodupB : List Addr → Bool
  | [] => true
  | a :: r => !r.contains a && nodupB r
theorem nodupB_ok : ∀ {l : List Addr}, nodupB l = true → l.Nodup
  | [], _ => .nil
  | a :: r, h => by
    unfold nodupB at h
    rw [Bool.and_eq_true] at h
    exact List.nodup_cons.mpr ⟨by simpa using h.1, nodupB_ok h.2⟩
/-- what is said of the defs that make lambdas -/
structure TbOk (h : Heap) (K : PySem.W.Frag) (tb : List Str) : Prop where
  nd : (tb.map (tabA K)).Nodup
  all : ∀ x ∈ tb, isCodeB K x = true ∧ h.get? (tabA K x) = some { cls := .none, data := .fields #[] } ∧ PySem.W.CodeHd h (codeA K x) (tabA K x) ∧ K.lookup (tabA K x) = none
def tbB (g : Addr → Option Obj) (K : PySem.W.Frag) (tb : List Str) : Bool := nodupB (tb.map (tabA K)) && tb.all fun x => isCodeB K x && (emptyB g (tabA K x) && codeB K x)
theorem tbB_ok {n : Nat} {h : Heap} {tb : List Str} (q : tbB h.get? (KY n h.get?) tb = true) : TbOk h (KY n h.get?) tb := by
  unfold tbB at q
  rw [Bool.and_eq_true] at q
  refine ⟨nodupB_ok q.1, fun x hx => ?_⟩
  have z := List.all_eq_true.mp q.2 x hx
  simp only [Bool.and_eq_true] at z
  obtain ⟨z1, z2, z3⟩ := z
  have e := emptyB_ok z2
  refine ⟨z1, e, codeB_ok kY_in z3, ?_⟩
  cases hk : (KY n h.get?).lookup (tabA (KY n h.get?) x) with
  | none => rfl
  | some o =>
    obtain ⟨e2, e3⟩ := kY_get hk
    rw [e] at e2
    cases e2
    cases e3
theorem CodeHd.up {h h' : Heap} {c P : Addr} (x : PySem.W.CodeHd h c P) (k : ∀ b o, h.get? b = some o → h'.get? b = some o) : PySem.W.CodeHd h' c P := by
  obtain ⟨o, vs, f, ft, fl, tg, inF, tx, tt, e, r⟩ := x
  exact ⟨o, vs, f, ft, fl, tg, inF, tx, tt, k _ _ e, r⟩
/-- the hook -/
def obsY (n : Nat) (fa : List He.Fa) (fn : List He.DefD) (ck : PySem.W.Frag → Bool) (tb : List Str) (g : Addr → Option Obj) : He.AlD × Bool := (He.obsD fa fn (KY n g), ck (KY n g) && tbB g (KY n g) tb)
structure SaysY (h : Heap) (K : PySem.W.Frag) (fa : List He.Fa) (fn : List He.DefD) (ck : PySem.W.Frag → Bool) (tb : List Str) : Prop where
  d : He.SaysD fa fn K
  c : ck K = true
  t : TbOk h K tb
def hookY (n : Nat) (fa : List He.Fa) (fn : List He.DefD) (ck : PySem.W.Frag → Bool) (tb : List Str) : PySem.W.Hook where
  α := He.AlD × Bool
  obs := fun s => obsY n fa fn ck tb s.heap.get?
  val := fun _ => (He.valD fn, true)
  says := fun _ h => ∃ K : PySem.W.Frag, K.In h ∧ SaysY h K fa fn ck tb
  of := fun _ _ e => by
    have e1 := congrArg (fun z : He.AlD × Bool => z.1) e
    have e2 : (ck _ && tbB _ _ tb) = true := congrArg (fun z : He.AlD × Bool => z.2) e
    rw [Bool.and_eq_true] at e2
    exact ⟨_, kY_in, e1, e2.1, tbB_ok e2.2⟩
  keeps := fun _ _ _ ⟨K, hK, c⟩ k => ⟨K, PySem.W.Frag.In.keeps hK k, c.d, c.c, c.t.nd, fun x hx => let ⟨a1, a2, a3, a4⟩ := c.t.all x hx; ⟨a1, k _ _ a2, CodeHd.up a3 k, a4⟩⟩
theorem obsY_eq {n : Nat} {fa : List He.Fa} {fn : List He.DefD} {ck : PySem.W.Frag → Bool} {tb : List Str} {g : Addr → Option Obj} {s : Shared} (h : ∀ a, g a = s.heap.get? a) : obsY n fa fn ck tb g = (hookY n fa fn ck tb).obs s := by
  have e : g = s.heap.get? := funext h
  rw [e] <;> rfl
end DE

set_option maxHeartbeats 4000000
namespace DE
open PySem PySem.Spec PyProof.Rows L2
/-! the end of a law -/
@[reducible] def tau (K : PySem.W.Frag) (tb : List Str) (nd : (tb.map (tabA K)).Nodup) : TabCtx where
  T := fun P q => ∃ x ∈ tb, P = tabA K x ∧ q = x ++ ".<locals>." ++ "<lambda>"
  uniq := fun P q q' ⟨x, hx, e1, e2⟩ ⟨y, hy, e3, e4⟩ => by
    have : x = y := by
      obtain ⟨i, hi⟩ := List.getElem?_of_mem hx
      obtain ⟨j, hj⟩ := List.getElem?_of_mem hy
      have ei : (tb.map (tabA K))[i]? = some P := by rw [List.getElem?_map, hi, e1]; rfl
      have ej : (tb.map (tabA K))[j]? = some P := by rw [List.getElem?_map, hj, e3]; rfl
      obtain ⟨h1, h2⟩ := List.getElem?_eq_some_iff.mp ei
      obtain ⟨h3, h4⟩ := List.getElem?_eq_some_iff.mp ej
      have : i = j := (List.getElem_inj nd).mp (h2.trans h4.symm)
      subst this
      rw [hi] at hj
      exact Option.some.inj hj
    rw [e2, e4, this]
section
variable {K : PySem.W.Frag} {h : Heap} {mg : Str → Option Value} {fa : List He.Fa} {fn : List He.DefD} {ck : PySem.W.Frag → Bool} {tb : List Str}
theorem funC_of {x : Str} {st : Stmt} {f : Addr} {fd : FuncData} (F : FunD K x x (defArgs st) (defBody st) (defScope st) [] [] f fd) : ∃ cdv, FunC K x x st f fd cdv := by
  obtain ⟨⟨oc, od, kV, doc, pm, an, cdv, ct, osl, rfl, l, c⟩, _⟩ := (He5.fun_of F : Fun K x x st f fd)
  exact ⟨cdv, ⟨oc, od, kV, doc, pm, an, ct, osl, rfl, l, c⟩⟩
theorem code_ofA {x name qual : Str} {st : Stmt} {fd : FuncData} {cdv : Value} (F : FunC K name qual st (He.fAd K (pth x)) fd cdv) (hc : isCodeB K x = true) : cdv = .ref (codeA K x) := by
  obtain ⟨oc, od, kV, doc, pm, an, ct, osl, rfl, l, c⟩ := F.ex
  unfold isCodeB at hc
  rw [l] at hc
  dsimp only [PySem.W.fnOf] at hc
  cases cdv <;> first | cases hc | skip
  rename_i a
  have : a = codeA K x := beq_iff_eq.mp hc
  rw [this]
theorem code_of {x : Str} {st : Stmt} {fd : FuncData} {cdv : Value} (F : FunC K x x st (He.ga K x) fd cdv) (hc : isCodeB K x = true) (hp : pth x = (x, none) := by kernel_rfl) : cdv = .ref (codeA K x) := code_ofA (by rw [hp]; exact F) hc
theorem fnL_of (X : K.In h) (G : h.Ns mainGlobals mg) (S : SaysY h K fa fn ck tb) {base : Heap} (TB : ∀ x ∈ tb, LamX.TabB base mg (codeA K x) (tabA K x)) {x : Str} {st : Stmt} {ps : List Str} (i j : Nat) (hb : BindsBy x st ps) (hx : x ∈ tb) (hp : pth x = (x, none) := by kernel_rfl) (hi : fn[i]? = some (dOf x st) := by kernel_rfl) (hj : fa[j]? = some (.glo x) := by kernel_rfl) :
    @FnL (tau K tb S.t.nd) K mg base x st ps := by
  obtain ⟨fd, F⟩ := S.d.def_ i hi
  have F' : Fun K x x st (He.ga K x) fd := He5.fun_of F
  obtain ⟨cdv, C⟩ := funC_of (K := K) (x := x) (st := st) F
  have e := code_of C (S.t.all x hx).1 hp
  subst e
  exact @FnL.mk (tau K tb S.t.nd) K mg base x st ps ⟨_, fd, codeA K x, tabA K x, He.glo_ok X G (S.d.fact j hj), F'.kp, C, F'.binds hb, TB x hx, ⟨x, hx, rfl, rfl⟩⟩
theorem tabsOK_of (nd : (tb.map (tabA K)).Nodup) {H : Hp} (hH : ∀ x ∈ tb, H (tabA K x) = some (.tbl #[])) : @TabsOK (tau K tb nd) H := fun P q ⟨x, hx, e1, e2⟩ => by
  subst e1
  exact ⟨#[], hH x hx, by first | trivial | exact .nil | simp [TriplesOk], fun pos cv hc => by
    have hc' : codeAmong pos [] = some cv := hc
    simp [codeAmong] at hc'⟩
theorem lawAt_of {l : PySem.W.OpenLaw} {w : World} {f : Addr} (X : K.In h) (G : h.Ns mainGlobals mg) (S : SaysY h K fa fn ck tb) {st : Stmt} {k : Nat} {m : List D → Dem D} (i j : Nat) (hf : mg "law" = some (.ref f)) (hb : BindsBy "law" st ["script"])
    (okl : ∀ base : Heap, (∀ x ∈ tb, LamX.TabB base mg (codeA K x) (tabA K x)) → ∀ (f : Addr) (fd : FuncData) (cdv : Value), FunC K "law" "law" st f fd cdv → (("law" : Str) ∈ tb → cdv = .ref (codeA K "law")) → FnOk l.prog w K mg base (L2.CX l.prog w) k f fd ["script"] (@spM (tau K tb S.t.nd) K mg 1 m))
    (plain : ∀ ns : List Int, ns.length ≤ 63 → (∀ z ∈ ns, Builtin.Int.intBits z ≤ 1048576) → (m [scrD ns]).run fun r => r = .ok (.bool true)) (hi : fn[i]? = some (dOf "law" st) := by kernel_rfl) (hj : fa[j]? = some (.glo "law") := by kernel_rfl) : LamX.LawAtS l w K (L2.CX l.prog w) k 63 "script" mg f h := by
  obtain ⟨fd, F⟩ := S.d.def_ i hi
  have F' : Fun K "law" "law" st (He.ga K "law") fd := He5.fun_of F
  obtain ⟨cdv, C⟩ := funC_of (K := K) (x := "law") (st := st) F
  have e := hf.symm.trans (He.glo_ok X G (S.d.fact j hj))
  cases e
  have B := F'.binds hb
  refine ⟨fd, tb.map fun x => (codeA K x, tabA K x), @spM (tau K tb S.t.nd) K mg 1 m, fun p hp => ?_, fun p hp => ?_, fun p hp => ?_, fun s u => ?_, fun H a ns hl hbits hH hS => ?_, fun base hX hG TB => ?_⟩
  · obtain ⟨x, hx, rfl⟩ := List.mem_map.mp hp
    exact (S.t.all x hx).2.1
  · obtain ⟨x, hx, rfl⟩ := List.mem_map.mp hp
    exact (S.t.all x hx).2.2.2
  · obtain ⟨x, hx, rfl⟩ := List.mem_map.mp hp
    exact (S.t.all x hx).2.2.1
  · obtain ⟨oc, od, kV, doc, pm, an, ct, osl, rfl, _⟩ := C.ex
    exact .of_eq (hb _ _ _ _ _ _ [u] rfl)
  · letI := tau K tb S.t.nd
    refine ⟨fun _ => False, [scrD ns], rfl, tabsOK_of S.t.nd fun x hx => hH (codeA K x, tabA K x) (List.mem_map.mpr ⟨x, hx, rfl⟩), fun _ z => z.elim, .cons (.dic (.inr (.inr (.inl ⟨ns, a, rfl, rfl, ScA.of hS⟩)))) .nil, (m [scrD ns]).mono (fun r hr => ?_) (plain ns hl hbits)⟩
    subst hr
    exact fun v H' _ rv => rv.toBool
  · exact okl base (fun x hx => TB (codeA K x, tabA K x) (List.mem_map.mpr ⟨x, hx, rfl⟩)) _ fd cdv C fun hx => code_of C (S.t.all "law" hx).1
end
theorem walk_Y {l : PySem.W.OpenLaw} {n k : Nat} {q : Program} {loose : List Str} {XP : (Str → Option Value) → Heap → Prop} {YP : World → Heap → Prop} {d : DefRec} {CX : World → CXT} {x : Str} (h1 : l.most = some n) (h2 : n ≤ sizeLine) (h3 : d.params.defaults = []) (hr : Room k callerA)
    (F : ∀ (w : World) (mg : Str → Option Value) (f : Addr) (h : Heap), YP w h → h.Ns mainGlobals mg → mg d.name = some (.ref f) → ∃ K : PySem.W.Frag, K.In h ∧ LamX.LawAtS l w K (CX w) k n x mg f h)
    (no : ∀ (w : World) (H : Hp) (s : Shared) (e : Value) (s' : Shared), CX w [] H s (fun _ _ _ => False) e s' → False) : PySem.W.WalkO q loose XP YP l.row.toRowW d [] (fun f vs => PySem.call f vs) := by
  refine Att.attach_callB h1 h3 fun w s₀ s mg mb f o pm cd doc a vs ns Gr Y z1 z2 z3 hm ob its len bits gens => ?_
  obtain ⟨K, KX, fd, cs, sp, t1, t2, t3, hb, hsp, ok⟩ := F w mg f _ Y Gr.T.g hm
  exact LamX.law_callTs KX Gr.T.g Gr.T.b Gr.T.builtins Gr.T.nolimit gens t1 t2 t3 Gr.T.bmain ob its (Nat.le_trans len h2) hr ok hb (fun H hH hS => hsp H a ns len bits hH hS) fun H e s' => no w H s e s'
theorem cx_no {P : Program} {w : World} {H : Hp} {s : Shared} {e : Value} {s' : Shared} (h : L2.CX P w [] H s (fun _ _ _ => False) e s') : False := by
  obtain ⟨_, _, _, _, _, _, _, _, _, _, _, _, z⟩ := h
  exact z
end DE
namespace DE
open PySem
theorem mem_sub {L M : List Str} (h : (L.all fun a => M.contains a) = true) {a : Str} (ha : a ∈ L) : a ∈ M := by
  have z := List.all_eq_true.mp h a ha
  simpa using z
end DE

set_option maxHeartbeats 4000000
namespace DE
open PySem PySem.Spec PyProof.Rows L2
/-! the plain side: demonic runs step by step -/
section
variable {α β : Type}
theorem run_ret (r : Res α) (k : Res α → Prop) : (SpecM.ret (M := Dem) r).run k = k r := rfl
theorem run_bnd (m : Dem α) (f : α → Dem β) (k : Res β → Prop) : (SpecM.bind m f).run k = m.run (thenK (fun a k => (f a).run k) k) := rfl
theorem thenK_ok (f : α → (Res β → Prop) → Prop) (k : Res β → Prop) (a : α) : thenK f k (.ok a) = f a k := rfl
theorem bind_ok (a : α) (f : α → Res β) : SpecM.bind (M := Res) (.ok a) f = f a := rfl
theorem ret_res (r : Res α) : SpecM.ret (M := Res) r = r := rfl
theorem ofO_some (a : α) : ofO (some a) = .ok a := rfl
/-- a step whose value is known -/
theorem p_set {m : Dem α} {f : α → Dem β} {k : Res β → Prop} (a : α) (hm : ∀ k : Res α → Prop, m.run k = k (.ok a)) (h : (f a).run k) : (SpecM.bind m f).run k := by
  show m.run _
  rw [hm]
  exact h
/-- a step that may end in several ways -/
theorem p_any {m : Dem α} {f : α → Dem β} {k : Res β → Prop} (P : α → Prop) (hm : ∀ k : Res α → Prop, (∀ a, P a → k (.ok a)) → m.run k) (h : ∀ a, P a → (f a).run k) : (SpecM.bind m f).run k := hm _ fun a ha => h a ha
theorem p_ifF {S T U : Type} {mc : Dem Bool} {ma mb : Dem (Fl U T)} {mr : U → Dem (Fl S T)} {k : Res (Fl S T) → Prop} (hc : ∀ k : Res Bool → Prop, mc.run k = k (.ok false)) (h : (bndF mb mr).run k) : (SpecM.bind mc fun t => bndF (match t with | true => ma | false => mb) mr).run k := by
  show mc.run _
  rw [hc]
  exact h
theorem p_ifT {S T U : Type} {mc : Dem Bool} {ma mb : Dem (Fl U T)} {mr : U → Dem (Fl S T)} {k : Res (Fl S T) → Prop} (hc : ∀ k : Res Bool → Prop, mc.run k = k (.ok true)) (h : (bndF ma mr).run k) : (SpecM.bind mc fun t => bndF (match t with | true => ma | false => mb) mr).run k := by
  show mc.run _
  rw [hc]
  exact h
theorem p_ifN {S T U : Type} {mc : Dem Bool} {ma : Dem (Fl U T)} {u : U} {mr : U → Dem (Fl S T)} {k : Res (Fl S T) → Prop} (hc : ∀ k : Res Bool → Prop, mc.run k = k (.ok false)) (h : (mr u).run k) : (SpecM.bind mc fun t => bndF (match t with | true => ma | false => SpecM.ret (.ok (.next u))) mr).run k := p_ifF hc h
theorem p_orF {mA mB : Dem Bool} {k : Res Bool → Prop} (hA : ∀ k : Res Bool → Prop, mA.run k = k (.ok false)) (hB : ∀ k : Res Bool → Prop, mB.run k = k (.ok false)) : (SpecM.bind mA fun c => match c with | true => SpecM.ret (.ok true) | false => mB).run k = k (.ok false) := by
  show mA.run _ = _
  rw [hA]
  exact hB k
theorem p_end {S T U : Type} {m : Dem (Fl U U)} {u : U} {g : U → Dem (Fl S T)} {k : Res (Fl S T) → Prop} (hm : ∀ k : Res (Fl U U) → Prop, m.run k = k (.ok (.next u))) (h : (g u).run k) : (endL m g).run k := by
  show m.run _
  rw [hm]
  exact h
theorem p_endL {S T U : Type} {m : Dem (Fl U U)} {u : U} {g : U → Dem (Fl S T)} {k : Res (Fl S T) → Prop} (hm : ∀ k : Res (Fl U U) → Prop, k (.ok (.next u)) → m.run k) (h : (g u).run k) : (endL m g).run k := hm _ h
theorem p_forC {S T U α : Type} {mi : Dem α} {m : α → Dem (Fl U U)} {g : U → Dem (Fl S T)} {k : Res (Fl S T) → Prop} (v : U) (h0 : ∀ k : Res (Fl U U) → Prop, (SpecM.bind mi m).run k = k (.ok (.next v))) (h : (g v).run k) : (SpecM.bind mi fun ds => endL (m ds) g).run k := by
  have e := h0 (thenK (fun a k => (endK g a).run k) k)
  have h' : (SpecM.bind mi m).run (thenK (fun a k => (endK g a).run k) k) := by rw [e]; exact h
  refine mi.mono (fun r hr => ?_) h'
  cases r <;> exact hr
theorem p_seq {m : Dem α} {f : α → Dem β} {k : Res β → Prop} (a : α) {b : β} (h1 : ∀ k : Res α → Prop, m.run k = k (.ok a)) (h2 : (f a).run k = k (.ok b)) : (SpecM.bind m f).run k = k (.ok b) := by
  show m.run _ = _
  rw [h1]
  exact h2
theorem p_call {ja : Dem (List D)} {f : List D → Res D} {k : Res D → Prop} (ds : List D) {v : D} (h1 : ∀ k : Res (List D) → Prop, ja.run k = k (.ok ds)) (h2 : f ds = .ok v) : (SpecM.bind ja fun ds => SpecM.ret (f ds)).run k = k (.ok v) := by
  show ja.run _ = _
  rw [h1]
  show k (f ds) = _
  rw [h2]
theorem p_loop {T : Type} {f : Unit → D → Dem (Fl Unit Unit)} : ∀ {ds : List D}, (∀ d ∈ ds, ∀ k : Res (Fl Unit Unit) → Prop, k (.ok (.next ())) → (f () d).run k) → ∀ {k : Res (Fl Unit Unit) → Prop}, k (.ok (.next ())) → (loopM f ds ()).run k
  | [], _, k, hk => hk
  | d :: ds, h, k, hk => h d List.mem_cons_self _ (p_loop (T := T) (fun e he => h e (List.mem_cons_of_mem _ he)) hk)
end
theorem all_n {α : Type} {P : α → Prop} : ∀ x ∈ ([] : List α), P x := fun _ h => nomatch h
theorem all_c {α : Type} {P : α → Prop} {a : α} {l : List α} (h : P a) (t : ∀ x ∈ l, P x) : ∀ x ∈ a :: l, P x := fun x hx => by
  rcases List.mem_cons.mp hx with e | hx
  · rw [e]; exact h
  · exact t x hx
theorem atI_pos {α : Type} {xs : List α} {r : Int} (h0 : 0 ≤ r) (h1 : r < xs.length) : ∃ x ∈ xs, atI xs r = some x := by
  have hn : r.toNat < xs.length := by omega
  refine ⟨xs[r.toNat], List.getElem_mem hn, ?_⟩
  have e : ixN xs.length r = some r.toNat := by
    unfold ixN
    simp only [h0, h1]
    first | rfl | (simp; omega) | simp
  unfold atI
  rw [e]
  exact List.getElem?_eq_getElem hn
theorem p_last {α : Type} {m : Dem α} {k : Res α → Prop} (a : α) (h : ∀ k : Res α → Prop, m.run k = k (.ok a)) (hk : k (.ok a)) : m.run k := by
  rw [h]
  exact hk
theorem p_forL {S T U α : Type} {mi : Dem α} {m : α → Dem (Fl U U)} {g : U → Dem (Fl S T)} {k : Res (Fl S T) → Prop} (a : α) (v : U) (hi : ∀ k : Res α → Prop, mi.run k = k (.ok a)) (hm : ∀ k : Res (Fl U U) → Prop, k (.ok (.next v)) → (m a).run k) (h : (g v).run k) : (SpecM.bind mi fun ds => endL (m ds) g).run k := by
  show mi.run _
  rw [hi]
  exact hm _ h
theorem d_orF {mA mB : Dem Bool} {k : Res Bool → Prop} (hA : ∀ k : Res Bool → Prop, k (.ok false) → mA.run k) (hB : ∀ k : Res Bool → Prop, k (.ok false) → mB.run k) (hk : k (.ok false)) : (SpecM.bind mA fun c => match c with | true => SpecM.ret (.ok true) | false => mB).run k := hA _ (hB k hk)
theorem d_not {f : List D → Dem D} {ds : List D} (h : ∀ k : Res D → Prop, k (.ok (.bool true)) → (f ds).run k) {k : Res Bool → Prop} (hk : k (.ok false)) : (SpecM.bind (SpecM.bind (SpecM.bind (SpecM.ret (.ok ds)) f) fun x => SpecM.ret (ofO (truth x))) fun c => SpecM.ret (.ok (!c))).run k := h _ hk
theorem p_ifD {S T U : Type} {mc : Dem Bool} {ma : Dem (Fl U T)} {u : U} {mr : U → Dem (Fl S T)} {k : Res (Fl S T) → Prop} (hc : ∀ k : Res Bool → Prop, k (.ok false) → mc.run k) (h : (mr u).run k) : (SpecM.bind mc fun t => bndF (match t with | true => ma | false => SpecM.ret (.ok (.next u))) mr).run k := hc _ h
theorem rangeO_small (j : Int) (h0 : 0 ≤ j) (h1 : j ≤ 1000) : ∃ ds, rangeO (.int 0) (.int j) = some ds ∧ ∀ d ∈ ds, ∃ i : Int, 0 ≤ i ∧ d = .int i := by
  have hc : (-4611686018427387904 ≤ (0 : Int) && (0 : Int) < 4611686018427387904 && -4611686018427387904 ≤ j && j < 4611686018427387904 && (j - 0).toNat ≤ maxL) = true := by
    have : (j - 0).toNat ≤ maxL := by unfold maxL; omega
    simp only [Bool.and_eq_true, decide_eq_true_eq]
    exact ⟨⟨⟨⟨by omega, by omega⟩, by omega⟩, by omega⟩, this⟩
  refine ⟨(List.range (j - 0).toNat).map fun k => PyData.int (0 + (k : Nat)), ?_, fun d hd => ?_⟩
  · simp only [rangeO]
    rw [if_pos hc]
  · obtain ⟨n, _, rfl⟩ := List.mem_map.mp hd
    exact ⟨0 + (n : Nat), by omega, rfl⟩
theorem spots_ok (c : Int) (h0 : 0 ≤ c) (h1 : c ≤ 63) (n : Nat) : ∃ ds, rangeO (.int 0) (.int (if (if (n : Int) < c then (n : Int) else c) > 1 then (if (n : Int) < c then (n : Int) else c) else 1)) = some ds ∧ ∀ d ∈ ds, ∃ i : Int, 0 ≤ i ∧ d = .int i := by
  refine rangeO_small _ ?_ ?_
  · split <;> (try split) <;> omega
  · split <;> (try split) <;> omega
end DE

set_option maxHeartbeats 4000000
/-! making and starting an exception of a class over any base, KeyError too (turned from KE.KExcPX and KE.KExcSuper, which want the base's own __new__) -/
namespace DE
structure NewIn (bm : List PySem.Value) (B : String) : Prop where
  hasB : bm.contains (.type B) = true
  noA : bm.contains (.type "AttributeError") = false
  noN : bm.contains (.type "NameError") = false
open PySem in
structure InitF (B i : String) : Prop where
  init : PySem.Slot B "__init__" i
  initEntry : entryFor table i = some Builtin.«BaseException.__init__»
  initKind : builtinKind i = some .slot
  initRow : Manifest.signature? i = some ⟨.positional, "*", B, .self, [⟨"args", .varPos, false⟩]⟩
  noStar : (B != "*") = true
theorem initF_of {B n i : String} (F : PySem.ExcCallFacts B n i) : InitF B i := ⟨F.init, F.initEntry, F.initKind, F.initRow, F.noStar⟩
theorem initF_Key : InitF "KeyError" "KeyError.__init__" := ⟨PyProof.Rows.excClass_KeyError.init, PyProof.Rows.excClass_KeyError.initEntry, PyProof.Rows.excClass_KeyError.initKind, by kernel_rfl, by decide +kernel⟩
end DE
namespace PySem
namespace DEx
open DE HandSPX
section
variable {M : Model} {A : Around} {E : Value → Shared → Prop} {h : Heap} {g : Array GenState} {d : Drawn} {t : Nat} {os : OsState}
variable {prog : Program} {w : World} {R : Result → Shared → Prop}
variable {nm q : Str} {C N : Addr} {bs bm bmB : List Value} {hdct : Bool} {sn : List Str} {sub : List Value} {ab : Bool} {col : Option Bool} {dd : Option Addr} {k0 k1 k2 k3 k5 : Option Value} {B newId initId : String}
theorem check_new_ownX (F : ExcBaseFacts B newId initId bmB) (hT : NewIn bm B) {rest : List Value} {Q : Unit → Shared → Prop}
    (hC : h.get? C = some (excClassObj nm q C N bs bm hdct sn sub ab col dd k0 k1 k2 k3 k5 newId)) (hq : Q () ⟨h, g, d, t, os⟩) : wpAny M A (checkBuiltinCall newId ⟨.ref C :: rest, []⟩) Q E ⟨h, g, d, t, os⟩ := by
  have hcont : (Value.ref C :: bm).contains (.type B) = true := by rw [List.contains_cons, hT.hasB, Bool.or_true]
  have hstar := F.noStar
  simp only [checkBuiltinCall, F.newKind, F.newSplit, F.newRow]
  repeat (first | refine wpAny_loadPart_at hC ?_ | (refine wpAny_isSubtype_exc hC ?_; rw [hcont]) | refine wpAny_staticBase_exc hC ?_ | refine wpAny_madeBy_exc hC ?_ | simp only [bne_self_eq_false, Bool.false_eq_true, if_false] | wp_step)
  exact hq

theorem new_ownX (F : ExcBaseFacts B newId initId bmB) (hT : NewIn bm B) {rest : List Value}
    (hC : h.get? C = some (excClassObj nm q C N bs bm hdct sn sub ab col dd k0 k1 k2 k3 k5 newId))
    (hq : R (.ok (.ret (.ref (h.objs.size + 1)))) ⟨(h.push { cls := .type "tuple", data := .seq rest.toArray }).push
      { cls := .ref C, data := .fields #[.ref h.objs.size, .none, .none, .none, .bool false, .none] }, g, d, t, os⟩) (hrest : rest.length ≤ sizeLine) :
    codeAny (model prog w) A (.builtin newId ⟨.ref C :: rest, []⟩) R ⟨h, g, d, t, os⟩ := by
  have hends := F.ends
  have hcB : (Value.ref C :: bm).contains (.type B) = true := by rw [List.contains_cons, hT.hasB, Bool.or_true]
  have hcA : (Value.ref C :: bm).contains (.type "AttributeError") = false := by rw [List.contains_cons, hT.noA]; rfl
  have hcN : (Value.ref C :: bm).contains (.type "NameError") = false := by rw [List.contains_cons, hT.noN]; rfl
  refine codeAny_builtinAt F.entry ?_
  unfold Builtin.«BaseException.__new__»
  refine wpAt_bind ?_
  show wpAt _ _ _ (stack >>= _) _ _ _
  refine wpAt_bind (wpAt_stack fun p below => wpAt_of_wpAny ?_)
  wp_walk
  refine wpAt_of_wpAny ?_
  rw [F.owner]
  repeat (first | with_reducible refine wpAny_madeHere_exc F.canon hC ?_ | with_reducible refine wpAny_loadPart_at hC ?_ | (with_reducible refine wpAny_isSubtype_exc hC ?_; first | rw [hcB] | rw [hcA] | rw [hcN]) | wp_step)
  show R _ _
  rw [Heap.size_push]
  exact hq

theorem type_call_ownX (F : ExcBaseFacts B newId initId bmB) (hT : NewIn bm B) {rest : List Value} {fI : Addr} {Q : Fin → Shared → Prop}
    (hC : h.get? C = some (excClassObj nm q C N bs bm hdct sn sub ab col dd k0 k1 k2 k3 k5 newId))
    (hi : W.Looks (model prog w) h (typeLookup (.ref C) "__init__") (some (.ref fI))) (hb : ∀ self, W.Looks (model prog w) h (bindSpecial (.ref fI) self) (.ref fI, [self])) (hrest : rest.length ≤ sizeLine)
    (hq : codeAny (model prog w) A (.call (.ref fI) ⟨.ref (h.objs.size + 1) :: rest, []⟩)
      (fun r s' => match r with | .ok (.ret v) => v = .none ∧ Q (.done (.ret (.ref (h.objs.size + 1)))) s' | .ok _ => False | .error e => E e s')
      ⟨(h.push (W.kdv_tup rest)).push (excO C h.objs.size), g, d, t, os⟩) :
    wpAny (model prog w) A (Builtin.«type.__call__» ⟨.ref C :: rest, []⟩) Q E ⟨h, g, d, t, os⟩ := by
  repeat (first | with_reducible refine wpAny_loadPart_at hC ?_ | with_reducible refine wpAny_madeBy_exc hC ?_ | wp_step)
  refine codeAny_call_builtin_code (Code.quiet_builtin _ F.quiet) (check_new_ownX F hT hC ?_)
  refine new_ownX F hT hC ?_ hrest
  show wpAny _ _ _ _ _ _
  have k : ∀ b o, h.get? b = some o → ((h.push (W.kdv_tup rest)).push (excO C h.objs.size)).get? b = some o := fun b o e => Heap.get?_push_of_some _ (Heap.get?_push_of_some _ e)
  have hC₁ := k _ _ hC
  have hget : ((h.push (W.kdv_tup rest)).push (excO C h.objs.size)).get? (h.objs.size + 1) = some (excO C h.objs.size) := by heap_get
  have hcC : (Value.ref C :: bm).contains (.ref C) = true := by simp
  have i1 := hi.keeps k
  have b1 := (hb (.ref (h.objs.size + 1))).keeps k
  unfold isInstance
  repeat (first | with_reducible refine wpAny_loadPart_at hget ?_ | (with_reducible refine wpAny_isSubtype_exc hC₁ ?_; rw [hcC]) | wp_step)
  show wpAny _ _ (typeLookup (.ref C) _) _ _ _
  refine i1.at ?_
  refine wpAny_holding (wpAny_bind (b1.at ?_))
  refine wpAny_bind (wpAny_call (codeAny_mono hq fun r s' z => ?_))
  rcases r with e | (v | _ | _ | _) <;> first | exact z | exact z.elim | skip
  obtain ⟨rfl, z⟩ := z
  first
    | exact wpAny_pure (wpAny_pure z)
    | (wp_walk; exact z)

theorem call_ownX (F : ExcBaseFacts B newId initId bmB) (hT : NewIn bm B) {rest : List Value} {fI : Addr}
    (hC : h.get? C = some (excClassObj nm q C N bs bm hdct sn sub ab col dd k0 k1 k2 k3 k5 newId))
    (hi : W.Looks (model prog w) h (typeLookup (.ref C) "__init__") (some (.ref fI))) (hb : ∀ self, W.Looks (model prog w) h (bindSpecial (.ref fI) self) (.ref fI, [self])) (hrest : rest.length ≤ sizeLine)
    (hq : codeAny (model prog w) (A.under (.builtin "type.__call__" ⟨.ref C :: rest, []⟩)) (.call (.ref fI) ⟨.ref (h.objs.size + 1) :: rest, []⟩) (W.InitBack (h.objs.size + 1) R)
      ⟨(h.push (W.kdv_tup rest)).push (excO C h.objs.size), g, d, t, os⟩) :
    codeAny (model prog w) A (.call (.ref C) ⟨rest, []⟩) R ⟨h, g, d, t, os⟩ := by
  have f1 := tc_lookup
  have f2 := tc_bind (.ref C)
  have hTy : (⟨h, g, d, t, os⟩ : Shared).TypeIs (.ref C) "type" := ⟨_, hC, rfl⟩
  refine codeAny_of_tree ?_
  show wpAny _ _ (callAny (.ref C) _) _ _ _
  repeat (any_goals (first | assumption | with_reducible refine wpAny_loadPart_at hC ?_ | wp_step))
  refine ⟨rfl, ?_⟩
  refine codeAny_call_builtin_at (Code.quiet_builtin _ (by decide +kernel)) entry_typeCall (wpAny_check_type_call_sub hC (type_call_ownX F hT hC hi hb hrest ?_))
  refine codeAny_mono hq fun r s' z => ?_
  rcases r with e | (v | _ | _ | _) <;> exact z
end
end DEx
end PySem
namespace PySem.W.DEx
open PySem PySem.Calls PyProof.Rows PyProof.V PySem.Spec DE
section
variable {prog : Program} {w : World} {M : Model} {A : Around} {E : Value → Shared → Prop} {h : Heap} {g : Array GenState} {d : Drawn} {t : Nat} {os : OsState} {B i : String}
theorem check_bound_initX {cls newId initId : String} (F : InitF cls initId) {nm q : Str} {C N e : Addr} {oe : Obj} {bs bm : List Value} {hdct : Bool} {sn : List Str} {sub : List Value} {ab : Bool} {col : Option Bool} {dd : Option Addr} {k0 k1 k2 k3 k5 : Option Value} {rest : List Value} {Q : Unit → Shared → Prop}
    (hC : h.get? C = some (excClassObj nm q C N bs bm hdct sn sub ab col dd k0 k1 k2 k3 k5 newId)) (he : h.get? e = some oe) (hcls : oe.cls = .ref C) (hq : Q () ⟨h, g, d, t, os⟩) : wpAny M A (checkBoundCall initId ⟨.ref e :: rest, []⟩) Q E ⟨h, g, d, t, os⟩ := by
  have hshort := F.noStar
  simp only [checkBoundCall, F.initKind, F.initRow]
  repeat (first | (with_reducible refine wpAny_loadPart_at he ?_; rw [hcls]) | with_reducible refine wpAny_loadPart_at hC ?_ | wp_step)
  refine wpAny_onRaise ?_
  rw [show ∀ (a b : String) (n : Nat), Bind.check ⟨.positional, "*", cls, .self, [⟨"args", .varPos, false⟩]⟩ a b n (List.map (fun x => x.fst) ({ pos := Value.ref e :: rest } : Args).kw) = pure () from
    fun a b n => check_star_args _ _ _ _ _ _]
  exact wpAny_pure hq
end
section
variable {prog : Program} {w : World} {A : Around} {E : Value → Shared → Prop} {s : Shared} {h₀ : Heap} {L : Addr} {m : Str → Option Value} {news : List (Addr × Obj)} {K : Frag} {x C D so u : Addr} {ox : Obj} {odx : Option Obj} {B i newId : String} {bmB : List Value}
theorem kxs_callX {t : Addr} {dv : Option Addr} {c2 : Value} {rest : List Value} {nw : Obj → List (Addr × Obj)} {Q : Value → Shared → Prop} (F : Fr h₀ L s.heap m) (X₀ : K.In h₀) (N : News h₀ L s.heap news) (FB : InitF B i) (q : excInitIn K C bmB newId = true) (hm : (u, kxs_mw i x) ∈ news)
    (U : UpdF x (excObj C t dv c2) news nw) (hz : rest.length ≤ sizeLine)
    (h : ∀ t' h', Fr h₀ L h' m → News h₀ L h' ((t', excTup rest) :: nw (excObj C t' dv c2)) → (∀ p ∈ news, p.1 < t') → Q .none { s with heap := h' }) :
    wpAny (model prog w) A (call (.ref u) rest) Q E s := by
  obtain ⟨nm, N', qn, bs, bm, hdct, sn, sub, ab, col, dd, k0, k1, k2, k3, k5, hC, hT⟩ := excInit_of (X₀.keeps F.keep) q
  have hu := (N _ hm).1
  obtain ⟨pre, post, rfl, hg, a, b⟩ := U.split
  have he := (N (x, excObj C t dv c2) (by simp)).1
  have lt : ∀ p ∈ pre ++ (x, excObj C t dv c2) :: post, p.1 < s.heap.objs.size := fun p hp => Heap.lt_size (N p hp).1
  have fin : ∀ h', (∀ b o, b ≠ x → s.heap.get? b = some o → h'.get? b = some o) → h'.get? x = some (excObj C s.heap.objs.size dv c2) → h'.get? s.heap.objs.size = some (excTup rest) → Q .none { s with heap := h' } := fun h' k e' t' => by
    obtain ⟨oL, es, ep, hL, r⟩ := F.ns
    have xL : L ≠ x := fun z => (N (x, excObj C t dv c2) (by simp)).2.1 z.symm
    have xn : h₀.get? x = none := (N (x, excObj C t dv c2) (by simp)).2.2
    refine h s.heap.objs.size h' ⟨⟨oL, es, ep, k _ _ xL hL, r⟩, fun b o z => k b o (fun y => by rw [y, xn] at z; cases z) (F.keep b o z), F.above⟩ ?_ lt
    rw [hg]
    intro p hp
    rcases List.mem_cons.mp hp with rfl | hp
    · refine ⟨t', fun z => ?_, ?_⟩
      · have y := Heap.lt_size (show s.heap.get? L = some oL from hL)
        rw [← z] at y
        exact absurd y (Nat.lt_irrefl _)
      · cases z : h₀.get? s.heap.objs.size with
        | none => rfl
        | some o => exact absurd (Heap.lt_size (F.keep _ _ z)) (Nat.lt_irrefl _)
    rcases List.mem_append.mp hp with hp | hp
    · have y := N p (List.mem_append_left _ hp)
      exact ⟨k _ _ (a p hp) y.1, y.2⟩
    rcases List.mem_cons.mp hp with rfl | hp
    · exact ⟨e', (N (x, excObj C t dv c2) (by simp)).2⟩
    · have y := N p (List.mem_append_right _ (.tail _ hp))
      exact ⟨k _ _ (b p hp) y.1, y.2⟩
  obtain ⟨hh, g, d, tk, os⟩ := s
  refine wpAny_call (codeAny_of_tree ?_)
  show wpAny _ A.in1 (callAny (.ref u) ⟨rest, []⟩) _ _ _
  simp only [callAny]
  refine wpAny_bind (wpAny_load hu ?_)
  simp only [kxs_mw, show (Value.type "method-wrapper" == Value.type "method" || Value.type "method-wrapper" == Value.type "builtin_function_or_method" || Value.type "method-wrapper" == Value.type "method-wrapper") = true by decide, if_true]
  refine KFB.if_so (by decide) ?_
  refine wpAny_bind (check_bound_initX FB hC he rfl ?_)
  refine wpAny_bind (wpAny_pure (wpAny_pure ?_))
  refine ⟨plainId_quiet FB.init.plain _, codeAny_builtin FB.initEntry ?_⟩
  exact exc_init_tree (cls := .ref C) (t0 := t) (dv := dv) (c2 := c2) (c3 := .none) (b4 := .bool false) he hz fin
end
end PySem.W.DEx
namespace DE
open PySem PySem.Spec PyProof.Rows L2
/-! own exception classes whose __init__ hands a text to the base's and keeps a value -/
structure InitTxt (K : PySem.W.Frag) (P : Program) (C fI : Addr) (f y : Str) : Prop where
  ex : ∃ (qual msg file : Str) (st : Stmt) (cda cc : Addr) (oc ccl cl : Value) (od cdd cld an : Option Addr) (osl ccs csl : Array (Option Value)) (kV doc pm ct : Value) (vs : Array Value) (tf : Tok) (j : Nat) (p0 p1 p2 p3 p4 p5 p6 p7 p8 p9 : Pos),
    K.lookup fI = some ⟨oc, od, .func (PySem.W.ksFn "__init__" qual (defArgs st) (defBody st) (defScope st) .none kV doc pm an (.ref cda) ct cc), osl⟩ ∧ PySem.W.codeIn K (.ref cda) qual = true ∧ K.lookup cda = some ⟨ccl, cdd, .fields vs, ccs⟩ ∧ vs[2]? = some (.str file tf) ∧
    ((P.main.file : Str) == file) = true ∧ K.lookup cc = some ⟨cl, cld, .cell (some (.ref C)), csl⟩ ∧
    defBody st = [.Expr (.Call (.Attribute (.Call (.Name "super" p0) [] [] p1) "__init__" p2) [.Constant (.str msg) j p3] [] p4) p5, .Assign [.Attribute (.Name "self" p6) f p7] (.Name y p8) p9] ∧
    (∀ (x : Addr) (v : Value), bindArgs (PySem.W.ksFn "__init__" qual (defArgs st) (defBody st) (defScope st) .none kV doc pm an (.ref cda) ct cc) ⟨[.ref x, v], []⟩ = pure [(("self" : Str), .ref x), (y, v)]) ∧
    (∃ (ar : Arg), ((defArgs st).posonlyargs ++ (defArgs st).args).head? = some ar ∧ ar.arg = "self") ∧
    (defScope st).names.lookup ("super" : Str) = some .globalImplicit ∧ (defScope st).names.lookup ("__class__" : Str) = some .free ∧ (defScope st).names.lookup ("self" : Str) = some .local ∧ (defScope st).names.lookup y = some .local ∧
    (∀ z ∈ (defScope st).names, z.2 ≠ .cell) ∧ (defScope st).isCoroutine = false ∧ (defScope st).isGenerator = false ∧ (defScope st).kind = .function ∧
    ∃ pl : Sem Bool, ∀ env : PySem.Env, eval (.Call (.Attribute (.Call (.Name "super" p0) [] [] p1) "__init__" p2) [.Constant (.str msg) j p3] [] p4) env = (do
        let ov ← attributeBase (.Call (.Name "super" p0) [] [] p1) "__init__" env (eval (.Call (.Name "super" p0) [] [] p1) env)
        standAt p2.atName
        let (f, first) ← holding [ov] (getMethod ov "__init__" pl)
        callWith p4 f first (backTo p4 (starEach [.Constant (.str msg) j p3] env)) [])
structure OwnX (K : PySem.W.Frag) (P : Program) (C fI : Addr) (B newId i : String) (bmB : List Value) (f y : Str) : Prop where
  fn : ∃ (Bn iN : String) (bmN : List Value), ExcBaseFacts Bn newId iN bmN ∧ NewIn bmB Bn
  fi : InitF B i
  sf : StoreFacts B bmB "object.__setattr__" "object"
  kf : PySem.W.KxsFacts B i
  cls : PySem.W.excInitIn K C bmB newId = true
  over : PySem.W.excOver K C bmB = true
  ini : PySem.W.findIn K (.ref C) "__init__" = some (some (.ref fI))
  isf : PySem.W.isFn K (.ref fI) = true
  hd : PySem.W.hasDictIn K C = true
  sa : PySem.W.findIn K (.ref C) "__setattr__" = some (some (.builtin "object.__setattr__"))
  tk : PySem.W.takerIn K C f = some none
  st3 : PySem.W.nsIn K cStatics "thirdparty.any" = some none
  sup : PySem.W.ks_superIn K C C "__init__" = some (some (.builtin i))
  sub : PySem.W.subIn K (.ref C) (.type B) = some true
  slf : PySem.W.mroIn K C (.ref C) = some true
  cd : ∃ cd, PySem.W.clsIn K C = some cd
  yn : (("self" : Str) == y) = false ∧ (y == ("__debug__" : Str)) = false
  txt : InitTxt K P C fI f y
theorem ns1_one {h : Heap} {dx : Addr} {f : Str} {hs : Int} {tk : Tok} {v : Value} {n : Nat} (e : h.get? dx = some (PySem.W.dictOf [⟨hs, .str f tk, v⟩] n)) : h.Ns1 dx fun z => if z = f then some v else none := by
  refine ⟨_, _, _, e, rfl, ?_, ?_, fun z => ?_⟩
  · intro en hen
    have : en = ⟨hs, .str f tk, v⟩ := by simpa using hen
    subst this
    exact ⟨_, _, rfl⟩
  · exact List.pairwise_singleton _ _
  · show nsFind _ z = if z = f then some v else none
    by_cases hz : z = f
    · subst hz
      rw [if_pos rfl]
      simp [nsFind, findBy, Value.isStr]
    · rw [if_neg hz]
      have : ¬ f = z := fun q => hz q.symm
      simp [nsFind, findBy, Value.isStr, this]
section
open PySem.W
variable {prog : Program} {w : World} {A : Around} {R : Result → Shared → Prop} {s : Shared} {K : PySem.W.Frag} {C fI x t0 : Addr} {B newId i : String} {bmB : List Value} {f y : Str} {v : Value} {mg mb : Str → Option Value}
theorem init_run (T : OwnX K prog C fI B newId i bmB f y) (X : K.In s.heap) (G : s.heap.Ns mainGlobals mg) (hsup : mg "super" = none) (Gb : s.heap.Ns builtinsNs mb) (hbb : ∀ z : Str, z ≠ "__name__" → mb z = bootBuiltins z) (hlim : s.heap.NoLimit) (htop : (prog.main.scope.names.lookup ("super" : Str)).isSome = false)
    (hx : s.heap.get? x = some (excObj C t0 none .none)) (hnx : K.lookup x = none) (hroom : A.depth < recursionLimit)
    (hq : ∀ h' tk t1 dx, (∀ b o, b ≠ x → s.heap.get? b = some o → h'.get? b = some o) → s.heap.objs.size ≤ dx → h'.get? x = some (excObj C t1 (some dx) .none) → h'.Ns1 dx (fun z => if z = f then some v else none) → R (.ok (.ret .none)) { s with heap := h', toks := tk }) :
    codeAny (model prog w) A (.call (.ref fI) ⟨[.ref x, v], []⟩) R s := by
  obtain ⟨qual, msg, file, st, cda, cc, oc, ccl, cl, od, cdd, cld, an, osl, ccs, csl, kV, doc, pm, ct, vs, tf, j, p0, p1, p2, p3, p4, p5, p6, p7, p8, p9, ho, hcd, hcode, hvs, hfile, hcell, hbody, hbind, ⟨ar, har, hself⟩, n1, n2, n3, n4, n5, n6, n7, n8, pl, hcall⟩ := T.txt.ex
  obtain ⟨cdD, hD⟩ := T.cd
  have Xg : K.In (hideAll s.heap [x]) := fun a o e => hideAll_get [x] (X a o e) (by
    simp only [List.mem_singleton]
    rintro rfl
    rw [hnx] at e
    cases e)
  have nsg : ∀ {L : Addr} {m : Str → Option Value}, s.heap.Ns L m → (hideAll s.heap [x]).Ns L m := fun {L m} ⟨o, es, ep, e, d, r⟩ => ⟨o, es, ep, hideAll_get [x] e (by
    simp only [List.mem_singleton]
    rintro rfl
    rw [hx] at e
    cases e
    cases d), d, r⟩
  refine ks_codeAny_call_defAt (fd := ksFn "__init__" qual (defArgs st) (defBody st) (defScope st) .none kV doc pm an (.ref cda) ct cc) (body := defBody st) (binds := [(("self" : Str), .ref x), (y, v)]) hroom (X _ _ ho) rfl hlim (codeRec_of X hcd) rfl (.of_eq (hbind x v)) n5 (fun z hz => ?_) (fun h₁ hns hk₁ => ?_) n6 n7 n8
  · rcases List.mem_cons.mp hz with e | hz
    · subst e; exact n3
    · rw [List.mem_singleton.mp hz]; exact n4
  have F1 : Fr (hideAll s.heap [x]) s.heap.objs.size h₁ (fun z => ([(("self" : Str), .ref x), (y, v)] : List (Str × Value)).reverse.lookup z) := ⟨hns, fun b o e => hk₁ b o (of_hideAll [x] e), Nat.le_of_eq (hideAll_size [x] _)⟩
  have N1 : News (hideAll s.heap [x]) s.heap.objs.size h₁ [(x, excObj C t0 none .none)] := fun p hp => by
    rw [List.mem_singleton.mp hp]
    exact ⟨hk₁ _ _ hx, Nat.ne_of_lt (Heap.lt_size hx), hideAll_none [x] (by simp)⟩
  have lSelf : ([(("self" : Str), .ref x), (y, v)] : List (Str × Value)).reverse.lookup ("self" : Str) = some (.ref x) := by
    show List.lookup ("self" : Str) [(y, v), (("self" : Str), .ref x)] = _
    simp only [List.lookup, T.yn.1]
    simp
  have lY : ([(("self" : Str), .ref x), (y, v)] : List (Str × Value)).reverse.lookup y = some v := by
    show List.lookup y [(y, v), (("self" : Str), .ref x)] = _
    simp [List.lookup]
  obtain ⟨hp, g, d, tk, os⟩ := s
  show _root_.PySem.wpAt (model prog w) (A.deeper (ksEnv qual (defScope st) hp.objs.size fI (.ref cda) cc)) (.func (defBody st) (ksEnv qual (defScope st) hp.objs.size fI (.ref cda) cc)) (execs (defBody st) (ksEnv qual (defScope st) hp.objs.size fI (.ref cda) cc)) _ _ _
  generalize hB : defBody st = bd at hbody ⊢
  have k1 : K.In h₁ := Xg.keeps F1.keep
  obtain ⟨oD, hD1, hD2⟩ : ∃ oD, h₁.get? C = some oD ∧ oD.data = .cls cdD := by
    unfold clsIn at hD
    split at hD
    · rename_i c' d' cd' sl ho'
      cases hD
      exact ⟨_, k1 _ _ ho', rfl⟩
    · cases hD
  rw [show execs bd (ksEnv qual (defScope st) hp.objs.size fI (.ref cda) cc) = execs (.Expr (.Call (.Attribute (.Call (.Name "super" p0) [] [] p1) "__init__" p2) [.Constant (.str msg) j p3] [] p4) p5 :: [.Assign [.Attribute (.Name "self" p6) f p7] (.Name y p8) p9]) (ksEnv qual (defScope st) hp.objs.size fI (.ref cda) cc) from by rw [hbody]]
  have hint : interactive (ksEnv qual (defScope st) hp.objs.size fI (.ref cda) cc) = false := by
    unfold interactive
    show _ = _
    simp [envX, callEnv, n8]
  refine ks_wpAt_execs_cons (ks_wpAt_Expr_any (ks_wpAt_MethodCall (pl := pl) ?_ (hcall _)) hint rfl)
  · refine ks_wpAt_super_base (env := ksEnv qual (defScope st) hp.objs.size fI (.ref cda) cc) n1 n2 (by decide) rfl (k1 _ _ ho) rfl har rfl (k1 _ _ hcode) rfl hvs hfile htop ?_
    refine ks_loadName_global n8 n1 (Calls.loadGlobal_builtin (mg := mg) (mb := mb) ((nsg G).keeps F1.keep) hsup ((nsg Gb).keeps F1.keep) ((hbb _ (by decide)).trans (by kernel_rfl)) ⟨rfl, ?_⟩)
    refine wpAny_loadName_free n8 n2 rfl ⟨_, k1 _ _ hcell, rfl⟩ ?_
    rw [hself]
    refine wpAny_loadName_local n8 n3 F1.ns lSelf ?_
    refine ks_wpAny_isType_cls hD1 hD2 ⟨rfl, ?_⟩
    have hx1 := (N1 (x, excObj C t0 none .none) (by simp)).1
    refine ks_wpAny_call_super hD1 hD2 hx1 rfl (fun c e => nomatch e) (looks_mroIn k1 T.slf) (fun h2 e2 k2 => ?_)
    obtain ⟨F2, N2, l2⟩ := ks_newsPush (s := ⟨h₁, g, d, tk, os⟩) (o := ks_superObj C x C) F1 N1 rfl e2 k2
    have hxm : (x, excObj C t0 none .none) ∈ (h₁.objs.size, ks_superObj C x C) :: [(x, excObj C t0 none .none)] := by simp
    refine kxs_method T.kf F2 Xg N2 List.mem_cons_self (InstAt.of_exc0 N2 hxm) T.st3 T.sup T.sub (by decide) (fun u h3 F3 N3 l3 => ?_)
    refine kxs_callWith1 (i := i) (x := x) N3 List.mem_cons_self ?_ rfl rfl
    show wpAny _ _ (spliced ((false, eval (.Constant (.str msg) j p3) (ksEnv qual (defScope st) hp.objs.size fI (.ref cda) cc)) :: backTo p4 (starEach [] (ksEnv qual (defScope st) hp.objs.size fI (.ref cda) cc)))) _ _ _
    refine Calls.spliced_cons (Calls.Constant_str (Calls.spliced_nil ⟨(N3 _ List.mem_cons_self).1, ?_⟩))
    have q1 : x < h₁.objs.size := l2 (x, excObj C t0 none .none) (by simp)
    have q2 : x < u := l3 (x, excObj C t0 none .none) (by simp)
    have U3 : UpdF x (excObj C t0 none .none) ((u, kxs_mw i x) :: (h₁.objs.size, ks_superObj C x C) :: [(x, excObj C t0 none .none)]) (fun o => (u, kxs_mw i x) :: (h₁.objs.size, ks_superObj C x C) :: [(x, o)]) :=
      .tail (Ne.symm (Nat.ne_of_lt q2)) (.tail (Ne.symm (Nat.ne_of_lt q1)) (.head fun _ z => nomatch z))
    have F3' := F3
    refine PySem.W.DEx.kxs_callX (s := ⟨h3, g, d, _, os⟩) F3 Xg N3 T.fi T.cls List.mem_cons_self U3 (by rw [sizeLine_eq]; simp) (fun t1 h4 F4 N4 l4 => ?_)
    have k4 : K.In h4 := Xg.keeps F4.keep
    show _root_.PySem.wpAt (model prog w) _ _ (execs [.Assign [.Attribute (.Name "self" p6) f p7] (.Name y p8) p9] _) _ _ _
    refine wpAt_of_wpAny (wpAny_execs_cons (plainObj_wpAny_Assign_Attribute ?_ rfl))
    refine wpAny_Name (wpAny_loadName_local n8 n4 F4.ns lY ?_) T.yn.2
    refine wpAny_Name (wpAny_loadName_local n8 n3 F4.ns lSelf ?_) (by decide)
    refine set_exc0 (s := ⟨h4, g, d, _, os⟩) T.sf F4 Xg N4 (by simp) T.sa T.over T.tk T.hd rfl
      (.tail (Ne.symm (Nat.ne_of_lt (l4 _ (.tail _ (.tail _ List.mem_cons_self))))) (.tail (Ne.symm (Nat.ne_of_lt q2)) (.tail (Ne.symm (Nat.ne_of_lt q1)) (.head fun _ z => nomatch z)))) (by simp [putL]) (fun dx h5 F5 N5 l5 => ?_)
    have lL : hp.objs.size < h₁.objs.size := F1.ns.lt
    have lD : h₁.objs.size < dx := l5 (h₁.objs.size, ks_superObj C x C) (by simp)
    show wpAny _ _ (execs [] _) _ _ _
    exact wpAny_execs_nil (hq h5 _ t1 dx (fun b o hb e => F5.keep b o (hideAll_get [x] e (by simpa using hb))) (Nat.le_of_lt (Nat.lt_trans lL lD)) (N5 (x, excObj C t1 (some dx) .none) (by simp)).1 (ns1_one (N5 (dx, _) List.mem_cons_self).1))
end
end DE

set_option maxHeartbeats 4000000
namespace DE
open PySem PySem.Spec PyProof.Rows L2
variable [τ : TabCtx]
/-! raise X(e), X a class with its own __init__ -/
structure XV (K : PySem.W.Frag) (P : Program) (mg : Str → Option Value) (x f : Str) : Prop where
  ex : ∃ (C fI : Addr) (B n i : String) (bm : List Value) (y : Str), mg x = some (.ref C) ∧ OwnX K P C fI B n i bm f y ∧ PySem.W.keepIn K (.ref C) = true ∧ PySem.W.typeIn K (.ref C) = some (.type "type") ∧ PySem.W.typeIn K (.ref fI) = some (.type "function") ∧ PySem.W.subIn K (.ref C) (.type "BaseException") = some true
  sup : mg "super" = none
  top : (P.main.scope.names.lookup ("super" : Str)).isSome = false
section
open PySem.W PySem.HandSPX
variable {prog : Program} {w : World} {A : Around} {R : Result → Shared → Prop} {s : Shared} {K : PySem.W.Frag} {C fI : Addr} {B newId i : String} {bmB : List Value} {f y : Str} {v : Value} {mg mb : Str → Option Value}
theorem own_made (T : OwnX K prog C fI B newId i bmB f y) (tC : typeIn K (.ref fI) = some (.type "function")) (X : K.In s.heap) (G : s.heap.Ns mainGlobals mg) (hsup : mg "super" = none) (Gb : s.heap.Ns builtinsNs mb) (hbb : ∀ z : Str, z ≠ "__name__" → mb z = bootBuiltins z) (hlim : s.heap.NoLimit) (htop : (prog.main.scope.names.lookup ("super" : Str)).isSome = false)
    (hroom : A.depth + 1 < recursionLimit)
    (hq : ∀ h' tk t1 dx, (∀ b o, s.heap.get? b = some o → h'.get? b = some o) → s.heap.objs.size + 1 < dx → h'.get? (s.heap.objs.size + 1) = some (excObj C t1 (some dx) .none) → h'.Ns1 dx (fun z => if z = f then some v else none) → R (.ok (.ret (.ref (s.heap.objs.size + 1)))) { s with heap := h', toks := tk }) :
    codeAny (model prog w) A (.call (.ref C) ⟨[v], []⟩) R s := by
  obtain ⟨nm, N, qn, bs, bm, hdct, sn, sub, ab, col, dd, k0, k1, k2, k3, k5, hC, hbm⟩ := excInit_of X T.cls
  obtain ⟨hp, g, dr, tk, os⟩ := s
  have k : ∀ b o, hp.get? b = some o → ((hp.push (kdv_tup [v])).push (excO C hp.objs.size)).get? b = some o := fun b o e => Heap.get?_push_of_some _ (Heap.get?_push_of_some _ e)
  have hget : ((hp.push (kdv_tup [v])).push (excO C hp.objs.size)).get? (hp.objs.size + 1) = some (excO C hp.objs.size) := by heap_get
  have hnx : K.lookup (hp.objs.size + 1) = none := by
    cases e : K.lookup (hp.objs.size + 1) with
    | none => rfl
    | some o =>
      have z : hp.get? (hp.objs.size + 1) = some o := X _ _ e
      exact absurd (Nat.lt_of_succ_lt (Heap.lt_size z)) (Nat.lt_irrefl _)
  obtain ⟨Bn, iN, bmN, FN, hN⟩ := T.fn
  refine PySem.DEx.call_ownX FN ⟨(hbm _).trans hN.hasB, (hbm _).trans hN.noA, (hbm _).trans hN.noN⟩ hC (looks_findIn X T.ini) (fun self => bind_fn X self tC) (by rw [sizeLine_eq]; simp) ?_
  refine init_run (s := ⟨(hp.push (kdv_tup [v])).push (excO C hp.objs.size), g, dr, tk, os⟩) (t0 := hp.objs.size) T (X.keeps k) (G.keeps k) hsup (Gb.keeps k) hbb (hlim.keeps k) htop hget hnx ?_ fun h' tk' t1 dx k' dn hx hns => ?_
  · show A.depth + 1 < recursionLimit
    exact hroom
  · have old : ∀ b o, hp.get? b = some o → h'.get? b = some o := fun b o e => k' b o (Nat.ne_of_lt (Nat.lt_succ_of_lt (Heap.lt_size e))) (k b o e)
    have z : hp.objs.size + 1 + 1 ≤ dx := by
      first
        | (simpa only [Heap.size_push] using dn)
        | exact dn
        | (have q := dn; rw [Heap.size_push, Heap.size_push] at q; exact q)
    exact ⟨rfl, hq h' tk' t1 dx old z hx hns⟩
end
theorem relO_one {f : Str} {v : V} {v' : Value} (r : RelV v v') (z : Str) : RelO (List.lookup z [(f, v)]) (if z = f then some v' else none) := by
  by_cases hw : z = f
  · subst hw
    rw [if_pos rfl]
    have q : List.lookup z [(z, v)] = some v := by simp [List.lookup]
    rw [q]
    exact r
  · rw [if_neg hw]
    have qw : (z == f) = false := by simpa using hw
    have q2 : List.lookup z [(f, v)] = none := by simp [List.lookup, qw]
    rw [q2]
    exact trivial
section
variable {X : Cx}
def tMkV (C : Addr) (f : Str) (ta : TA) : L2.St → Hp → XK → Prop := fun σ H Q => ta σ H fun vs H1 => ∃ v, vs = [v] ∧ ∀ d, H1 d = none → Q (.ref C) (some d) (upd H1 d (.xd [(f, v)]))
theorem pmk_own1 {a : Expr} {ta : TA} {p pos : Pos} {k : Nat} {C fI : Addr} {B n i : String} {bm : List Value} {x f y : Str} (gC : X.mg x = some (.ref C)) (kC : PySem.W.keepIn X.K (.ref C) = true) (tyC : PySem.W.typeIn X.K (.ref C) = some (.type "type")) (exC : PySem.W.subIn X.K (.ref C) (.type "BaseException") = some true) (T : OwnX X.K X.prog C fI B n i bm f y) (tC : PySem.W.typeIn X.K (.ref fI) = some (.type "function"))
    (hsup : X.mg "super" = none) (htop : (X.prog.main.scope.names.lookup ("super" : Str)).isSome = false) (hr : Room k X.A) (ha : PA X [a] ta) (hg : Gl X x) (hdb : (x == ("__debug__" : Str)) = false)
    (he : starEach (a :: []) X.env = (false, eval a X.env) :: starEach [] X.env := by rfl) (hpl : (backTo pos (starEach [] X.env)).any (·.1) = false := by rfl) :
    PMk X (.Call (.Name x p) [a] [] pos) (tMkV C f ta) := by
  intro pins s σ H Q I h
  refine wpAny_Call_Name_kw (ld_glob I hg gC ?_ hdb)
  refine PySem.W.callWith_K (h₀ := X.base) I.ok.mod.kin kC (thn (ha.run pos pins s σ H _ I h) fun us s1 hh => ?_) he hpl
  obtain ⟨vs, H1, I1, r1, v, ev, q1⟩ := hh
  subst ev
  refine ⟨I1.kIn, ?_⟩
  cases r1 with
  | cons rv rn =>
    rename_i v' us'
    cases rn
    show wpAny _ _ (call (.ref C) [v']) _ _ _
    have hlim := I1.nolimit
    obtain ⟨mb, hb1, hb2⟩ := I1.mod.blt
    have G1 := I1.mod.glob.keeps I1.bk
    have G2 := hb1.keeps I1.bk
    have kI := I1.kIn
    obtain ⟨hp, g, dr, tk, os⟩ := s1
    refine wpAny_call (own_made T tC kI G1 hsup G2 hb2 hlim htop (by have := hr.dp; omega) fun h' tk' t1 d old dbig hoe hns => ?_)
    show MkP X pins σ Q (.ref (hp.objs.size + 1)) ⟨h', g, dr, tk', os⟩
    have new : hp.objs.size ≤ hp.objs.size + 1 := Nat.le_succ _
    have dne : d ≠ hp.objs.size + 1 := Nat.ne_of_gt dbig
    have dbig' : hp.objs.size ≤ d := Nat.le_of_lt (Nat.lt_of_succ_lt dbig)
    obtain ⟨G', g1, g2⟩ := restrict h' fun b => decide (b ≠ hp.objs.size + 1)
    have gk : ∀ b, b ≠ hp.objs.size + 1 → G'.get? b = h'.get? b := fun b hb => g1 b (decide_eq_true hb)
    have ge : G'.get? (hp.objs.size + 1) = none := g2 _ (by simp)
    have old' : ∀ b o, hp.get? b = some o → G'.get? b = some o := fun b o q => (gk b (Nat.ne_of_lt (Nat.lt_succ_of_lt (Heap.lt_size q)))).trans (old b o q)
    have ob : ObjOk X.prog X.w (upd H1 d (.xd [(f, v)])) G' d (.xd [(f, v)]) :=
      ⟨_, hns.at (fun o q => (gk d dne).trans q), fun z => relO_one rv z⟩
    have J : Inv X pins σ (upd H1 d (.xd [(f, v)])) ⟨G', g, dr, tk', os⟩ := I1.laid (t' := tk') old' dbig' ob
    refine ⟨_, _, _, ⟨G', g, dr, tk', os⟩, _, .ref C, some d, rfl, J, fun b o q => ?_, ge, hoe, ⟨rfl, rfl⟩, rfl, rfl, ?_, rfl, I1.bare, raises_own exC tyC, q1 d (I1.hok.fresh dbig')⟩
    · by_cases hb : b = hp.objs.size + 1
      · have q' : G'.get? b = some o := q
        rw [hb, ge] at q'; cases q'
      · exact (gk b hb).symm.trans q
    · rw [upd_ne (Ne.symm dne)]
      exact I1.hok.fresh new
end
section
variable {M : Type → Type} [SpecM M] {S T : Type} {X : Cx} {W : WX} {Z : List Nat} {Γ : List Slot} {N : S → List Slot} {L : T → List Slot} {rest : List Stmt} {x f : Str} {a : Expr} {ma : M D} {k : Nat} {p pos pos2 : Pos}
theorem js_raiseV (h : XV X.K X.prog X.mg x f) (hR : Room k X.A) (hc : X.calm = true) (tk : Takes X W) (ha : JE X W a Γ ma) (hg : Gl X x := by (show _ = _); kernel_rfl) (hdb : (x == ("__debug__" : Str)) = false := by kernel_rfl)
    (he : starEach (a :: []) X.env = (false, eval a X.env) :: starEach [] X.env := by rfl) (hpl : (backTo pos (starEach [] X.env)).any (·.1) = false := by rfl) :
    JS X W Z (.Raise (some (.Call (.Name x p) [a] [] pos)) none pos2 :: rest) Γ (bnd ma fun d => SpecM.ret (M := M) (.exc ⟨x, some (f, d)⟩)) N L := fun F H σ hz E Dn hq => by
  obtain ⟨C, fI, B, n, i, bm, y, gC, T, kC, tC, tI, bC⟩ := h.ex
  refine PSs.wp (pss_cons (ps_raise hc tk (pmk_own1 gC kC tC bC T tI h.sup h.top hR (pa_cons pe_sem pa_nil he) hg hdb he hpl)) pss_sem) ?_
  refine ha.st E hq fun d v H1 e1 E1 r1 h1 => ?_
  refine ⟨v, rfl, fun dd hdd => ?_⟩
  have e2 : Ext F.Dc F.Dc H1 (upd H1 dd (.xd [(f, v)])) := .new hdd
  exact SpecM.post_ret h1 (.ref C) (some dd) σ _ ((E1.mono e2).ext) ⟨C, gC, rfl, fun f' d' e => by
    cases e
    exact ⟨dd, v, rfl, upd_same, (r1.ext e2 fun a z => .inl (E1.subO a z)).anti fun a z => z.elim .inl fun z => .inr (.inl z)⟩, fun e => nomatch e⟩
end
end DE

set_option maxHeartbeats 4000000
namespace DE
open PySem PySem.Spec PyProof.Rows L2
variable [τ : TabCtx]
/-! try with several clauses, named or not -/
abbrev TSA := Addr → Value → Option Addr → TS
def wAlt (K : PySem.W.Frag) (Wout : WX) (D : Ends) : List (Value × Option Nat × TSA) → WX
  | [] => Wout
  | (c, none, ts) :: r => fun cls d σ H => ∃ b, PySem.W.exmOne K cls c = some b ∧ (b = true → ∀ a, H a = none → ts a cls d D σ H) ∧ (b = false → wAlt K Wout D r cls d σ H)
  | (c, some i, ts) :: r => fun cls d σ H => ∃ b, PySem.W.exmOne K cls c = some b ∧ (b = true → ∀ a, H a = none → i < σ.length → ts a cls d { nx := fun σ' H' => D.nx (σ'.set i none) H', rt := D.rt, bk := fun σ' H' => D.bk (σ'.set i none) H', ct := fun σ' H' => D.ct (σ'.set i none) H' } (σ.set i (some (.ref a))) H) ∧ (b = false → wAlt K Wout D r cls d σ H)
inductive HdsA (X : Cx) : List ExceptHandler → List (Value × Option Nat × TSA) → Prop
  | nil : HdsA X [] []
  | plain {x : Str} {c : Value} {ts : TSA} {b₀ : Stmt} {suite : List Stmt} {np pos' : Pos} {hds : List ExceptHandler} {l : List (Value × Option Nat × TSA)} (hc : Names X x c)
      (hsu : ∀ (a : Addr) (oe : Obj) (cls : Value) (d : Option Addr) (pn : List (Addr × Obj)), Zc cls d oe → (∃ vs, oe.data = .fields vs) → PSs (X.suite a ((a, oe) :: pn)) (b₀ :: suite) (ts a cls d)) (r : HdsA X hds l) :
      HdsA X (.ExceptHandler (some (.Name x np)) none (b₀ :: suite) pos' :: hds) ((c, none, ts) :: l)
  | named {x n : Str} {i : Nat} {c : Value} {ts : TSA} {b₀ : Stmt} {suite : List Stmt} {np pos' : Pos} {hds : List ExceptHandler} {l : List (Value × Option Nat × TSA)} (hc : Names X x c) (hi : X.N[i]? = some n) (hln : X.env.kindOf n = some .local)
      (hsu : ∀ (a : Addr) (oe : Obj) (cls : Value) (d : Option Addr) (pn : List (Addr × Obj)), Zc cls d oe → (∃ vs, oe.data = .fields vs) → PSs (X.suite a ((a, oe) :: pn)) (b₀ :: suite) (ts a cls d)) (r : HdsA X hds l) :
      HdsA X (.ExceptHandler (some (.Name x np)) (some n) (b₀ :: suite) pos' :: hds) ((c, some i, ts) :: l)
section
variable {X : Cx} {body : List Stmt} {h₀ : ExceptHandler} {hds : List ExceptHandler} {l : List (Value × Option Nat × TSA)} {pos : Pos} {tb : WX → TS} {Wout : WX}
theorem ps_try_alt (hs : X.stack = X.env :: X.outer) (hf : X.env.frame = some X.env.locals) (hN : X.N.Nodup) (tk : Takes X Wout)
    (hb : ∀ (W : WX) (pn : List (Addr × Obj)) (xe : Value → Shared → Prop), Takes (X.tr pn xe) W → PassesOwn (model X.prog X.w) X.A X.env xe → PSs (X.tr pn xe) body (tb W))
    (hh : HdsA X (h₀ :: hds) l) : PS X (.Try body (h₀ :: hds) [] [] pos) (fun D σ H => tb (wAlt X.K Wout D l) D σ H) := by
  refine ⟨fun pins s σ H D I h => ?_⟩
  have ok := I.ok
  have hfr : X.A.frames = some (X.env :: X.outer) := by rw [ok.frames, hs]
  refine wpAny_Try_except ?_
  refine wpAny_mono ((hb (wAlt X.K Wout D l) (X.pn ++ pins) (fun e s₁ => wpAny (model X.prog X.w) X.A (noteFrame e X.env) (fun _ s₂ => wpAny (model X.prog X.w) X.A (setFlight e none) (fun _ s₃ =>
    wpAny (model X.prog X.w) X.A (handleBy e X.env (h₀ :: hds)) (SP X pins D) X.xe s₃) X.xe s₂) X.xe s₁) (fun u s' xx => ?_) PassesOwn.looking).run [] s σ H D (I.toTry _) h) (fun f s1 hsp => ?_) (fun e s1 he => he)
  · obtain ⟨a, B, sI, pins', σ', H', cls, d, rfl, J', nb, up, sky, na, os, ag, w⟩ := xx
    have J : Inv X pins σ' H' sI := J'.ofTry ok
    have sky' : Sky B (X.env :: X.outer) a (Zc cls d) X.env.locals s'.heap := by rw [← hs]; exact sky
    show wpAny (model X.prog X.w) X.A (noteFrame (.ref a) X.env) _ _ _
    refine Sky.land Zc.steady hfr hf sky' fun h3 fl3 up3 => ?_
    have J3 : Inv X pins σ' H' { s' with heap := h3 } := J.landed nb fl3.1 (up.trans up3) os ag
    obtain ⟨oe3, vs3, he3, hz3, hd3⟩ := fl3.there
    have nfr : a ∉ frs (X.env :: X.outer) := fun hm => by
      obtain ⟨_, o', e', hnf⟩ := fl3.2.2.1.mem hm
      rw [he3] at e'; cases e'
      exact hnf _ hd3
    have nL : a ≠ X.env.locals := fun z => nfr (List.mem_filterMap.mpr ⟨X.env, List.mem_cons_self, by rw [hf, z]⟩)
    have nF : a ∉ X.fs := fun hm => by
      obtain ⟨e, he, q⟩ := List.mem_filterMap.mp hm
      exact nfr (List.mem_filterMap.mpr ⟨e, List.mem_cons_of_mem _ he, q⟩)
    have S3 := J3.suite he3 hd3 na nL nF
    have LT : PySem.W.Looks (model X.prog X.w) h3 (typeOf (.ref a)) cls := fun A Q E s k q => wpAny_typeOf_ref (k _ _ he3) (by rw [hz3.1]; exact q)
    have test : ∀ {x : Str} {np : Pos} {c : Value}, Names X x c → ∀ {Q : Value → Shared → Prop} {E : Value → Shared → Prop}, Q c { s' with heap := h3 } → wpAny (model X.prog X.w) (X.A.mark (some (.ref a))) (eval (.Name x np) X.env) Q E { s' with heap := h3 } := fun {x np c} hc {Q E} q => by
      obtain ⟨hg, hdbg, hm | ⟨hm, hv, hnn⟩⟩ := hc
      · exact ld_glob (X := X.suite a ((a, oe3) :: (X.pn ++ pins))) S3 hg hm q hdbg
      · exact ld_blt (X := X.suite a ((a, oe3) :: (X.pn ++ pins))) S3 hg hm hv q hnn hdbg
    have go : ∀ {hds' : List ExceptHandler} {l' : List (Value × Option Nat × TSA)}, HdsA X hds' l' → wAlt X.K Wout D l' cls d σ' H' →
        wpAny (model X.prog X.w) X.A (handleBy (.ref a) X.env hds') (SP X pins D) X.xe { s' with heap := h3 } := by
      intro hds' l' hk
      induction hk with
      | nil =>
        intro w
        refine wpAny_handleBy_nil ?_
        obtain ⟨k1, k2, k3, oe, vs, T, oT, ts', he, hz, hd, h1, hr⟩ := id fl3
        unfold PySem.passOn
        refine wpAny_bind (wpAny_field he hd h1 ?_)
        rw [if_neg (show ¬ ((Value.ref T == Value.none) = true) from by simp)]
        have fin : wpAny (model X.prog X.w) X.A (setFlight (.ref a) X.env.frame) (fun _ s4 => wpAny (model X.prog X.w) X.A (throw (.ref a) : Sem Flow) (SP X pins D) X.xe s4) X.xe { s' with heap := h3 } := by
          rw [hf]
          refine HandSPX.setFlight_upZ fl3 fun h4 hh4 up4 => wpAny_throw (tk _ _ ?_)
          exact ⟨a, B, sI, pins, σ', H', cls, d, rfl, J, nb, (up.trans up3).trans up4, .inr (.inr (by rw [hs]; exact hh4)), na, os, ag, w⟩
        first
          | exact wpAny_bind (wpAny_pure (wpAny_bind fin))
          | exact wpAny_bind fin
      | @plain x c ts b₀ suite np pos' hds2 l2 hc hsu r ih =>
        intro w
        obtain ⟨b, hb1, hyes, hno⟩ := w
        refine wpAny_handleBy_cons (codeAny_handlers_test ?_) (by intro q; cases q)
        have LM := PySem.W.exm_one (M := model X.prog X.w) (J3.kIn) LT hb1
        refine test hc (LM.here ?_)
        cases b with
        | true =>
          refine codeAny_handlers_suite ?_
          refine HandSPX.lands_againZ fl3 fun h4 fl4 up4 => ?_
          have J4 : Inv X pins σ' H' { s' with heap := h4 } := J.landed nb fl4.1 ((up.trans up3).trans up4) os ag
          obtain ⟨oe4, vs4, he4, hz4, hd4⟩ := fl4.there
          have S4 := J4.suite he4 hd4 na nL nF
          refine wpAny_mono ((hsu a oe4 cls d (X.pn ++ pins) hz4 ⟨_, hd4⟩).run [] _ _ H' _ S4 (hyes rfl a na)) (fun f s6 hsp => ?_) (fun _ _ z => False.elim z)
          cases f with
          | next => obtain ⟨σ6, H6, S6, q6⟩ := hsp; exact ⟨_, _, S6.unsuite ok, q6⟩
          | brk => obtain ⟨σ6, H6, S6, q6⟩ := hsp; exact ⟨_, _, S6.unsuite ok, q6⟩
          | cont => obtain ⟨σ6, H6, S6, q6⟩ := hsp; exact ⟨_, _, S6.unsuite ok, q6⟩
          | ret u => obtain ⟨v6, σ6, H6, S6, r6, q6⟩ := hsp; exact ⟨_, _, _, S6.unsuite ok, r6, q6⟩
        | false =>
          show wpAny _ X.A (handleBy (.ref a) X.env hds2) _ _ _
          exact ih (hno rfl)
      | @named x n i c ts b₀ suite np pos' hds2 l2 hc hi hln hsu r ih =>
        intro w
        obtain ⟨b, hb1, hyes, hno⟩ := w
        have hloc : Loc X.env.scope n := .inl hln
        refine wpAny_handleBy_cons (codeAny_handlers_test ?_) (by intro q; cases q)
        have LM := PySem.W.exm_one (M := model X.prog X.w) (J3.kIn) LT hb1
        refine test hc (LM.here ?_)
        cases b with
        | true =>
          refine codeAny_handlers_suite_as ?_
          refine HandSPX.lands_againZ fl3 fun h4 fl4 up4 => ?_
          have J4 : Inv X pins σ' H' { s' with heap := h4 } := J.landed nb fl4.1 ((up.trans up3).trans up4) os ag
          obtain ⟨oe4, vs4, he4, hz4, hd4⟩ := fl4.there
          have S4 := J4.suite he4 hd4 na nL nF
          refine store_ok (X := X.suite a ((a, oe4) :: (X.pn ++ pins))) (v := .ref a) S4 hN hi hloc rfl (fun s5 S5 => ?_) (.inr hln)
          refine wpAny_mono ((hsu a oe4 cls d (X.pn ++ pins) hz4 ⟨_, hd4⟩).run [] s5 _ H' _ S5 (hyes rfl a na (by rw [J.len]; exact (List.getElem?_eq_some_iff.mp hi).1))) (fun f s6 hsp => ?_) (fun _ _ z => False.elim z)
          have end_ : ∀ {σ6 : L2.St} {H6 : Hp} {Q : Shared → Prop}, Inv (X.suite a ((a, oe4) :: (X.pn ++ pins))) [] σ6 H6 s6 → (∀ s7, Inv X pins (σ6.set i none) H6 s7 → Q s7) →
              wpAny (model X.prog X.w) X.A (do bindName X.env n .none; unbindBehindTheSuite X.env n pos') (fun _ s7 => Q s7) X.xe s6 := fun {σ6 H6 Q} S6 hq => gone_ok (S6.unsuite ok) hN hi hln hq
          cases f with
          | next => obtain ⟨σ6, H6, S6, q6⟩ := hsp; exact end_ S6 fun s7 J7 => ⟨_, _, J7, q6⟩
          | brk => obtain ⟨σ6, H6, S6, q6⟩ := hsp; exact end_ S6 fun s7 J7 => ⟨_, _, J7, q6⟩
          | cont => obtain ⟨σ6, H6, S6, q6⟩ := hsp; exact end_ S6 fun s7 J7 => ⟨_, _, J7, q6⟩
          | ret u => obtain ⟨v6, σ6, H6, S6, r6, q6⟩ := hsp; exact end_ S6 fun s7 J7 => ⟨_, _, _, J7, r6, q6⟩
        | false =>
          show wpAny _ X.A (handleBy (.ref a) X.env hds2) _ _ _
          exact ih (hno rfl)
    exact go hh w
  · cases f with
    | next =>
      obtain ⟨σ', H', J', q⟩ := hsp
      exact wpAny_execs_nil ⟨σ', H', J'.ofTry ok, q⟩
    | brk => obtain ⟨σ', H', J', q⟩ := hsp; exact ⟨σ', H', J'.ofTry ok, q⟩
    | cont => obtain ⟨σ', H', J', q⟩ := hsp; exact ⟨σ', H', J'.ofTry ok, q⟩
    | ret u => obtain ⟨v, σ', H', J', r, q⟩ := hsp; exact ⟨v, σ', H', J'.ofTry ok, r, q⟩
end
end DE

set_option maxHeartbeats 4000000
/-! the calls where it is known that nothing is being shown (repr looks at that) -/
namespace DE
open PySem PySem.Spec PyProof.Rows L2
structure FnG (P : Program) (w : World) (K : PySem.W.Frag) (mg : Str → Option Value) (base : Heap) (CX : CXT) (k : Nat) (f : Addr) (fd : FuncData) (ps : List Str) (sp : Sp) : Prop where
  len : ∀ vs H Q E, sp vs H Q E → vs.length = ps.length
  run : ∀ (A : Around) (outer : List PySem.Env) (s : Shared) (H : Hp) (args : Args) (us : List Value) (vs : List V) (Q : VK) (E : XK), Room k A → A.guards = some [] → Env0 P w K mg base A outer s H → BindsTo s fd args (ps.zip us) → Vals vs us → sp vs H Q E →
    codeAny (model P w) A (.call (.ref f) args) (CR CX outer P w H s Q E) s
section
variable {P : Program} {w : World} {K : PySem.W.Frag} {mg : Str → Option Value} {base : Heap} {CX : CXT} {k : Nat} {f : Addr} {fd : FuncData} {ps : List Str} {sp : Sp}
theorem FnG.mono {j : Nat} (F : FnG P w K mg base CX j f fd ps sp) (h : j ≤ k) : FnG P w K mg base CX k f fd ps sp := ⟨F.len, fun A outer s H args us vs Q E hr => F.run A outer s H args us vs Q E (hr.mono h)⟩
theorem fn_ofG {name qual : Str} {params : Arguments} {body : List Stmt} {scope : Scope} {dV kV doc pm cdv ct oc : Value} {an od : Option Addr} {osl : Array (Option Value)} {N : List Str} (lk : K.lookup f = some ⟨oc, od, .func (PySem.W.fnOf name qual params body scope dV kV doc pm an cdv ct), osl⟩) (hcd : PySem.W.codeIn K cdv qual = true) (S : FnScope N ps scope)
    (len : ∀ vs H Q E, sp vs H Q E → vs.length = ps.length)
    (hbody : ∀ (A : Around) (outer : List PySem.Env) (s : Shared) (H : Hp) (vs : List V) (Q : VK) (E : XK), Room k (A.deeper (envOfC qual scope s.heap.objs.size f cdv)) → A.guards = some [] → sp vs H Q E →
      ∃ t, PSs (cxOf CX P w K mg base N qual scope f cdv A outer s H E) body t ∧ t { nx := fun _ H' => Q .non H', rt := Q } (start N vs) H) :
    FnG P w K mg base CX (k + 1) f (PySem.W.fnOf name qual params body scope dV kV doc pm an cdv ct) ps sp := by
  refine ⟨len, fun A outer s H args us vs Q E hr hgu e0 hb r hsp => ?_⟩
  have hl := len _ _ _ _ hsp
  have KX : K.In s.heap := e0.mod.kin.keeps fun b o e => (e0.bs b o e).1
  have lim : s.heap.NoLimit := e0.mod.nolimit.keeps fun b o e => (e0.bs b o e).1
  have hkind : ∀ y ∈ ps.zip us, scope.names.lookup y.1 = some .local ∨ (scope.names.lookup y.1 = some .cell ∧ ((cellsFrom (s.heap.objs.size + 1) scope.names []).lookup y.1).isSome = true) := fun ⟨n, v⟩ hy => by
    rcases S.par n (List.of_mem_zip hy).1 with q | q
    · exact .inl q
    · exact .inr ⟨q, PySem.W.cellsFrom_some _ _ _ (.inl q)⟩
  refine codeAny_call_function hr.depth (KX _ _ lk) rfl S.co S.gen rfl (PySem.W.codeRec_of KX hcd) (hb _ _ _ _ ?_)
  refine wpAny_newFunctionEnv_cells S.kind hkind fun env he s1 x => ?_
  subst he
  refine ⟨lim.keeps x.toInCall.keep, codeAny_func ?_⟩
  obtain ⟨t, ht, hq⟩ := hbody A outer s H vs Q E (hr.deeper _) hgu hsp
  have I : Inv (cxOf CX P w K mg base N qual scope f cdv A outer s H E) [] (start N vs) H s1 := inv_start S hr.hd e0 hl r x
  refine wpAny_mono (ht.run [] s1 (start N vs) H _ I hq) (fun fl s' hs => ?_) fun e s' hs => hs
  have fin : ∀ {σ' : L2.St} {H' : Hp} {v : V} {u : Value}, Inv (cxOf CX P w K mg base N qual scope f cdv A outer s H E) [] σ' H' s' → RelV v u → Q v H' → CE outer P w H s Q u s' :=
    fun {σ' H' v u} J rv q => ⟨v, H', J.os, J.bare, J.base, J.hok, rv, q⟩
  cases fl with
  | ret u =>
    obtain ⟨v, σ', H', J, rv, q⟩ := hs
    exact fin J rv q
  | next =>
    obtain ⟨σ', H', J, q⟩ := hs
    exact fin (v := V.non) (u := Value.none) J rfl q
  | brk =>
    obtain ⟨_, _, _, q⟩ := hs
    exact False.elim q
  | cont =>
    obtain ⟨_, _, _, q⟩ := hs
    exact False.elim q
end
section
variable {X : Cx} {CX : CXT} {k : Nat} {f : Addr} {fd : FuncData} {ps : List Str} {sp : Sp} {E : L2.St → XK} {x : Str} {p pos : Pos} {e : Expr} {es : List Expr} {t : TA}
theorem pe_callG (F : FnG X.prog X.w X.K X.mg X.base CX k f fd ps sp) (hr : Room k X.A) (hgu : X.A.guards = some []) (hg : Gl X x) (hm : X.mg x = some (.ref f)) (hk : PySem.W.keepIn X.K (.ref f) = true) (hb : Binds X.K fd ps []) (hx : ∀ σ, PassesAt CX X σ (E σ))
    (ha : PA X (e :: es) t) (hdb : (x == ("__debug__" : Str)) = false := by decide) (he : starEach (e :: es) X.env = (false, eval e X.env) :: starEach es X.env := by rfl) (hpl : (backTo pos (starEach es X.env)).any (·.1) = false := by rfl) :
    PE X (.Call (.Name x p) (e :: es) [] pos) (tCallS sp E t) := by
  refine ⟨fun pins s σ H Q I h => ?_⟩
  refine wpAny_Call_Name_kw (ld_glob I hg hm ?_ hdb)
  refine PySem.W.callWith_K (h₀ := X.base) I.ok.mod.kin hk (thn (ha.run pos pins s σ H _ I h) fun us s1 ⟨vs, H1, I1, r, q⟩ => ⟨I1.kIn, ?_⟩) he hpl
  show wpAny _ _ (call (.ref f) us) _ _ _
  have hl : us.length = ps.length := by rw [← r.length]; exact F.len _ _ _ _ q
  have b := hb s1 us I1.kIn (by rw [List.append_nil]; exact hl)
  rw [List.append_nil] at b
  refine wpAny_call (codeAny_mono (F.run X.A X.stack s1 H1 ⟨us, []⟩ us vs Q (E σ) hr hgu I1.env0 b r q) fun r s' hq => ?_)
  cases r with
  | error e => exact hx σ pins H1 s1 e s' I1 hq
  | ok fl =>
    cases fl with
    | ret u => exact I1.after hq
    | next => exact False.elim hq
    | brk => exact False.elim hq
    | cont => exact False.elim hq
end
end DE
namespace DE
open PySem PySem.Spec PyProof.Rows L2 LamX
/-- the law's own call, where it is known that nothing is being shown (turned from HandS.EndTab's law_callTs) -/
theorem law_callG {P : Program} {w : World} {K : PySem.W.Frag} {mg mb : Str → Option Value} {CX : CXT} {k : Nat} {fa a : Addr} {cs : List (Addr × Addr)} {fd : FuncData} {x : Str} {sp : Sp} {s₁ : Shared} {vs : List Value} {ns : List Int}
    (KX : K.In s₁.heap) (hns : s₁.heap.Ns mainGlobals mg) (hb : s₁.heap.Ns builtinsNs mb) (hbb : ∀ x : Str, x ≠ "__name__" → mb x = bootBuiltins x) (hlim : s₁.heap.NoLimit) (hg : s₁.gens = #[])
    (hT : ∀ p ∈ cs, s₁.heap.get? p.2 = some { cls := .none, data := .fields #[] }) (nT : ∀ p ∈ cs, K.lookup p.2 = none) (C : ∀ p ∈ cs, PySem.W.CodeHd s₁.heap p.1 p.2)
    (hbm : ∃ (bm : Addr) (ob : Obj), mg "__builtins__" = some (.ref bm) ∧ bm ≠ builtinsNs ∧ s₁.heap.get? bm = some ob ∧ ob.cls = .type "module" ∧ ob.dict = some builtinsNs ∧ ob.data = .plain)
    (ha : s₁.heap.get? a = some { cls := .type "list", data := .seq vs.toArray }) (hi : IntsAre vs ns) (hl : ns.length ≤ sizeLine) (hr : Room k callerA)
    (F : ∀ base : Heap, K.In base → base.Ns mainGlobals mg → (∀ p ∈ cs, TabB base mg p.1 p.2) → FnG P w K mg base CX k fa fd [x] sp) (hbind : ∀ (s : Shared) (u : Value), BindsTo s fd ⟨[u], []⟩ [(x, u)])
    (hsp : ∀ H : Hp, (∀ p ∈ cs, H p.2 = some (.tbl #[])) → SqL K H a (ns.map V.int) → sp [.ref a] H (fun v _ => v = .bl true) fun _ _ _ => False)
    (hCX : ∀ H e s', CX [] H s₁ (fun _ _ _ => False) e s' → False) :
    codeAny (model P w) callerA (.call (.ref fa) ⟨[.ref a], []⟩) (fun r s' => r = .ok (.ret (.bool true)) ∧ OldK s₁.heap s'.heap ∧ s'.os = s₁.os ∧ AllBare s'.gens) s₁ := by
  have rv := vals_ints hi
  have lenV := hi.length
  have isT : ∀ b : Addr, b ∈ cs.map (·.2) → s₁.heap.get? b = some { cls := .none, data := .fields #[] } := fun b hb => by
    obtain ⟨p, hp, e⟩ := List.mem_map.mp hb
    rw [← e]
    exact hT p hp
  have aT : a ∉ cs.map (·.2) := fun z => by
    have q := isT a z
    rw [ha] at q
    have z' : Data.seq vs.toArray _ = Data.fields #[] := congrArg Obj.data (Option.some.inj q)
    cases z'
  have memT : ∀ p ∈ cs, p.2 ∈ cs.map (·.2) := fun p hp => List.mem_map.mpr ⟨p, hp, rfl⟩
  -- from an abstract heap in which nothing but the script and the tables may be tracked
  have core : ∀ H : Hp, (∀ p ∈ cs, H p.2 = some (.tbl #[])) → (∀ b, H b = none ∨ b ∈ cs.map (·.2) ∨ ∃ o xs, H b = some (.frz o (.lst xs))) → SqL K H a (ns.map V.int) → HOk P w H s₁.heap → (∀ b, H b ≠ none → b = a ∨ b ∈ cs.map (·.2)) → (H a ≠ none → K.lookup a = none) →
      codeAny (model P w) callerA (.call (.ref fa) ⟨[.ref a], []⟩) (fun r s' => r = .ok (.ret (.bool true)) ∧ OldK s₁.heap s'.heap ∧ s'.os = s₁.os ∧ AllBare s'.gens) s₁ := by
    intro H hH hO hS hok hA hK
    have base_of : ∀ {b : Addr} {o : Obj}, s₁.heap.get? b = some o → H b = none → (hidT s₁.heap H).get? b = some o := fun e n => hidT_get e n
    have noD : ∀ {b : Addr} {o : Obj}, s₁.heap.get? b = some o → (∀ vs n, o.data ≠ .seq vs n) → o.data ≠ .fields #[] → H b = none := fun {b o} e h1 h2 => by
      cases q : H b with
      | none => rfl
      | some u =>
        rcases hA b (by rw [q]; simp) with e' | e'
        · rw [e', ha] at e
          cases e
          exact (h1 _ _ rfl).elim
        · rw [isT b e'] at e
          cases e
          exact (h2 rfl).elim
    have noA : ∀ {b : Addr} {o : Obj} {es : Array DictEntry} {ep : Nat}, s₁.heap.get? b = some o → o.data = .dict es ep → H b = none := fun {b o es ep} e d => by
      refine noD e (fun vs n z => ?_) fun z => ?_
      · rw [d] at z
        cases z
      · rw [d] at z
        cases z
    have nsK : ∀ {b : Addr} {m : Str → Option Value}, s₁.heap.Ns b m → (hidT s₁.heap H).Ns b m := fun {b m} ⟨o, es, ep, e, d, r⟩ => ⟨o, es, ep, base_of e (noA e d), d, r⟩
    have hKb : K.In (hidT s₁.heap H) := fun b o e => base_of (KX b o e) (by
      cases q : H b with
      | none => rfl
      | some u =>
        rcases hA b (by rw [q]; simp) with e' | e'
        · rw [e'] at e q
          rw [hK (by rw [q]; simp)] at e
          cases e
        · obtain ⟨p, hp, ep⟩ := List.mem_map.mp e'
          rw [← ep, nT p hp] at e
          cases e)
    have hM : L2.Mod K mg (hidT s₁.heap H) := ⟨hKb, nsK hns, ⟨mb, nsK hb, hbb⟩, let ⟨mc, h1, h2⟩ := hlim; ⟨mc, nsK h1, h2⟩⟩
    have TB : ∀ p ∈ cs, TabB (hidT s₁.heap H) mg p.1 p.2 := fun p hp => by
      have hTp := hT p hp
      refine ⟨?_, ?_, fun z => ?_⟩
      · obtain ⟨o, us, file, tf, flags, tg, inF, text, tt, e1, r1, r2, r3, r4, r5, r6, r7, r8, hne⟩ := C p hp
        refine ⟨o, us, file, tf, flags, tg, inF, text, tt, base_of e1 (noD e1 (fun vs n z => ?_) fun z => ?_), r1, r2, r3, r4, r5, r6, r7, r8, hne⟩
        · rw [r2] at z
          cases z
        · rw [r2] at z
          cases z
          simp at r3
      · obtain ⟨bm, ob, b1, b2, b3, b4, b5, b6⟩ := hbm
        have nG : bm ≠ mainGlobals := fun q => by
          obtain ⟨o, es, ep, e, hd, _⟩ := hns
          rw [q, e] at b3
          cases b3
          rw [hd] at b6
          cases b6
        have nP : bm ≠ p.2 := fun q => by
          rw [q, hTp] at b3
          cases b3
          cases b6
        refine ⟨bm, ob, b1, b2, nG, nP, base_of b3 (noD b3 (fun vs n z => ?_) fun z => ?_), b4, b5, b6⟩
        · rw [b6] at z
          cases z
        · rw [b6] at z
          cases z
      · obtain ⟨o, es, ep, e, hd, _⟩ := hns
        rw [z, hTp] at e
        cases e
        cases hd
    have e0 : Env0 P w K mg (hidT s₁.heap H) callerA [] s₁ H := ⟨rfl, hM, fun b o e => of_hidT e, Nat.le_of_eq (hidT_size _ _), trivial, fun b hb => absurd (show b ∈ ([] : List Addr) from hb) (by simp), hok, .of_eq hg⟩
    refine codeAny_mono ((F _ hKb (nsK hns) TB).run callerA [] s₁ H ⟨[.ref a], []⟩ [.ref a] [.ref a] _ _ hr rfl e0 (hbind s₁ (.ref a)) (.cons rfl .nil) (hsp H hH hS)) fun r s' h => ?_
    cases r with
    | error e => exact (hCX H e s' h).elim
    | ok fl =>
      cases fl with
      | next => exact False.elim h
      | brk => exact False.elim h
      | cont => exact False.elim h
      | ret u =>
        obtain ⟨v, H', os, bare, un, hok', r', q⟩ := h
        have q' : v = .bl true := q
        subst q'
        obtain rfl : u = Value.bool true := r'
        have key : ∀ b o, b ∉ cs.map (·.2) → s₁.heap.get? b = some o → s'.heap.get? b = some o := fun b o nb e => by
          cases q : H b with
          | none => exact un.keep b o e q (by intro z; exact absurd (show b ∈ ([] : List Addr) from z) (by simp)) (by simp)
          | some u =>
            rcases hO b with z | z | ⟨ob, xs, z⟩
            · rw [q] at z; cases z
            · exact absurd z nb
            · have z2 := un.frzs b ob _ z
              obtain ⟨e1, _⟩ := hok b _ z
              obtain ⟨e2, _⟩ := hok' b _ z2
              rw [e] at e1; cases e1
              exact e2
        have grown : ∀ p ∈ cs, ∃ more : Array Value, s'.heap.get? p.2 = some { cls := .none, data := .fields more } := fun p hp => by
          obtain ⟨more, z⟩ := un.tbls p.2 #[] (hH p hp)
          exact ⟨_, hok' p.2 _ z⟩
        refine ⟨rfl, ⟨fun b o e => ?_, fun b o e => ?_⟩, os, bare⟩
        · by_cases hb : b ∈ cs.map (·.2)
          · obtain ⟨p, hp, ep⟩ := List.mem_map.mp hb
            obtain ⟨more, hm⟩ := grown p hp
            rw [← ep] at e ⊢
            rw [hT p hp] at e
            cases e
            exact .inr (.inl ⟨((C p hp).tab (hT p hp)).isCodeTable, rfl, #[], more, rfl, by rw [Array.empty_append]; exact hm⟩)
          · exact .inl (key b o hb e)
        · by_cases hb : b ∈ cs.map (·.2)
          · obtain ⟨p, hp, ep⟩ := List.mem_map.mp hb
            obtain ⟨more, hm⟩ := grown p hp
            rw [← ep]
            exact ⟨_, hm⟩
          · exact ⟨o, key b o hb e⟩
  cases hk : K.lookup a with
  | some o =>
    have e := KX a o hk
    rw [ha] at e
    cases e
    refine core (fun b => if b ∈ cs.map (·.2) then some (.tbl #[]) else none) (fun p hp => if_pos (memT p hp)) (fun b => ?_) (.inr ⟨_, vs.toArray, _, hk, rfl, rfl, rfl, by rw [List.size_toArray, lenV]; exact hl, by simpa using rv⟩) (fun b u z => ?_) (fun b z => ?_) fun z => absurd (show (if a ∈ cs.map (·.2) then some (HO.tbl #[]) else none) = none from if_neg aT) z
    · by_cases hb : b ∈ cs.map (·.2)
      · exact .inr (.inl hb)
      · exact .inl (if_neg hb)
    · by_cases hb : b ∈ cs.map (·.2)
      · have z' := (if_pos hb).symm.trans z
        cases z'
        exact isT b hb
      · have z' := (if_neg hb).symm.trans z
        cases z'
    · by_cases hb : b ∈ cs.map (·.2)
      · exact .inr hb
      · exact absurd (if_neg hb) z
  | none =>
    refine core (fun b => if b = a then some (.frz { cls := .type "list", data := .seq vs.toArray } (.lst (ns.map V.int))) else if b ∈ cs.map (·.2) then some (.tbl #[]) else none) (fun p hp => (if_neg (show ¬ p.2 = a from fun z => aT (by rw [← z]; exact memT p hp))).trans (if_pos (memT p hp))) (fun b => ?_)
      (.inl (.inr ⟨{ cls := .type "list", data := .seq vs.toArray }, if_pos rfl⟩)) (fun b u z => ?_) (fun b z => ?_) fun _ => hk
    · by_cases hb : b = a
      · exact .inr (.inr ⟨_, _, if_pos hb⟩)
      · by_cases hb2 : b ∈ cs.map (·.2)
        · exact .inr (.inl hb2)
        · exact .inl ((if_neg hb).trans (if_neg hb2))
    · by_cases hb : b = a
      · have z' := (if_pos hb).symm.trans z
        cases z'
        rw [hb]
        exact ⟨ha, by rw [List.length_map]; exact hl, vs, _, rv, ha⟩
      · have z1 := (if_neg hb).symm.trans z
        by_cases hb2 : b ∈ cs.map (·.2)
        · have z' := (if_pos hb2).symm.trans z1
          cases z'
          exact isT b hb2
        · have z' := (if_neg hb2).symm.trans z1
          cases z'
    · by_cases hb : b = a
      · exact .inl hb
      · by_cases hb2 : b ∈ cs.map (·.2)
        · exact .inr hb2
        · exact absurd ((if_neg hb).trans (if_neg hb2)) z
end DE

set_option maxHeartbeats 4000000
namespace DE
open PySem PySem.Spec PyProof.Rows L2
variable [τ : TabCtx]
/-! defs that show something: their calls -/
structure DefPG (P : Program) (w : World) (K : PySem.W.Frag) (mg : Str → Option Value) (base : Heap) (x : Str) (k n : Nat) (m : List D → Res D) : Prop where
  ex : ∃ (f : Addr) (fd : FuncData) (ps : List Str), mg x = some (Value.ref f) ∧ PySem.W.keepIn K (.ref f) = true ∧ Binds K fd ps [] ∧ FnG P w K mg base (L2.CX P w) k f fd ps (spP K mg n m) ∧ ∀ ds, ds.length ≠ n → m ds = .bad
structure DefDG (P : Program) (w : World) (K : PySem.W.Frag) (mg : Str → Option Value) (base : Heap) (x : Str) (k n : Nat) (m : List D → Dem D) : Prop where
  ex : ∃ (f : Addr) (fd : FuncData) (ps : List Str), mg x = some (Value.ref f) ∧ PySem.W.keepIn K (.ref f) = true ∧ Binds K fd ps [] ∧ FnG P w K mg base (L2.CX P w) k f fd ps (spD K mg n m) ∧ ∀ ds, ds.length ≠ n → m ds = SpecM.ret .bad
section
variable {P : Program} {w : World} {K : PySem.W.Frag} {mg : Str → Option Value} {base : Heap}
theorem fn_pureG {x qual : Str} {st : Stmt} {f : Addr} {fd : FuncData} {cdv : Value} {N ps : List Str} {k n : Nat} {m : List D → Res D} (Fn : FunC K x qual st f fd cdv) (S : FnScope N ps (defScope st)) (hps : ps.length = n) (Z : List Nat)
    (hbody : ∀ (A : Around) (outer : List PySem.Env) (s : Shared) (H : Hp) (E : XK), Room k (Xd P w K mg base N qual st f cdv A outer s H E).A → (Xd P w K mg base N qual st f cdv A outer s H E).A.guards = some [] → ∀ ds, ds.length = n →
      ∃ (G : List Slot) (mb : Res (Fl Unit Empty)), m ds = runF mb ∧ JS (Xd P w K mg base N qual st f cdv A outer s H E) (Wd E) Z (defBody st) (ds.map Slot.dat ++ List.replicate (N.length - n) .any) mb (fun _ => G) (fun t => nomatch t)) :
    FnG P w K mg base (L2.CX P w) (k + 1) f fd ps (spP K mg n m) := by
  obtain ⟨oc, od, kV, doc, pm, an, ct, osl, rfl, lk, hcd⟩ := Fn.ex
  refine fn_ofG lk hcd S (fun vs H Q E h => ?_) fun A outer s H vs Q E hr hgu h => ?_
  · obtain ⟨O, ds, hl, _⟩ := h
    exact hl.trans hps.symm
  · obtain ⟨O, ds, hl, tb, od, r, hq⟩ := h
    obtain ⟨G, mb, e, js⟩ := hbody A outer s H E hr hgu ds (r.length.symm.trans hl)
    rw [e] at hq
    refine ⟨_, pss_sem, ?_⟩
    have E0 := env_start (K := K) (mg := mg) (M := fun _ => False) (Dc := fun _ => False) (n := N.length - n) tb od (fun _ z => z.elim) (fun _ z => z.elim) (fun _ z => z.elim) (fun _ z => z.elim) r (pre := []) (preG := []) rfl (fun i s h => by simp at h)
    have est : L2.start N vs = (([] ++ vs).map some ++ List.replicate (N.length - n) none : L2.St) := by unfold L2.start; rw [hl]; rfl
    rw [est]
    refine js _ H _ (fun _ _ => ⟨fun _ z => z, trivial⟩) E0 _ ?_
    cases mb with
    | bad => exact hq
    | exc ε => exact fun cls dx σ' H' e r => hq cls dx H' e (r.anti fun a z => .inl z)
    | ok fl =>
      cases fl with
      | next u => exact fun σ' H' E' => hq .non H' E'.ext .non
      | ret d => exact fun v H' e r => hq v H' e (r.anti fun a z => .inl z)
      | brk t => exact nomatch t
      | cnt t => exact nomatch t
theorem fn_diceG {x qual : Str} {st : Stmt} {f : Addr} {fd : FuncData} {cdv : Value} {N ps : List Str} {k n : Nat} {m : List D → Dem D} (Fn : FunC K x qual st f fd cdv) (S : FnScope N ps (defScope st)) (hps : ps.length = n + 1) (Z : List Nat)
    (hbody : ∀ (A : Around) (outer : List PySem.Env) (s : Shared) (H : Hp) (E : XK), Room k (Xd P w K mg base N qual st f cdv A outer s H E).A → (Xd P w K mg base N qual st f cdv A outer s H E).A.guards = some [] → ∀ ds, ds.length = n →
      ∃ (G : List Slot) (mb : Dem (Fl Unit Empty)), (∀ k, (k .bad → False) → (m ds).run k → (runF mb).run k) ∧ JS (Xd P w K mg base N qual st f cdv A outer s H E) (Wd E) Z (defBody st) ([Slot.dice] ++ ds.map Slot.dat ++ List.replicate (N.length - (n + 1)) .any) mb (fun _ => G) (fun t => nomatch t)) :
    FnG P w K mg base (L2.CX P w) (k + 1) f fd ps (spD K mg n m) := by
  obtain ⟨oc, od, kV, doc, pm, an, ct, osl, rfl, lk, hcd⟩ := Fn.ex
  refine fn_ofG lk hcd S (fun vs H Q E h => ?_) fun A outer s H vs Q E hr hgu h => ?_
  · obtain ⟨O, a, us, ds, rfl, hl, _⟩ := h
    rw [hps, ← hl]; rfl
  · obtain ⟨O, a, us, ds, rfl, hl, oa, da, tb, od, r, hq⟩ := h
    obtain ⟨G, mb, e, js⟩ := hbody A outer s H E hr hgu ds (r.length.symm.trans hl)
    replace hq := e _ (fun z => z) hq
    refine ⟨_, pss_sem, ?_⟩
    have E0 := env_start (K := K) (mg := mg) (M := fun b => b = a) (Dc := fun b => b = a) (n := N.length - (n + 1)) tb od (fun b z => z ▸ od a oa) (fun _ z => z) (fun b z => z ▸ oa) (fun b z => z ▸ da) r (pre := [V.ref a]) (preG := [Slot.dice]) rfl (fun i s h => by
      cases i with
      | zero => cases h; exact ⟨rfl, a, rfl, rfl⟩
      | succ i => simp at h)
    have est : L2.start N (V.ref a :: us) = (([V.ref a] ++ us).map some ++ List.replicate (N.length - (n + 1)) none : L2.St) := by
      unfold L2.start
      rw [show (V.ref a :: us).length = n + 1 by rw [List.length_cons, hl]]; rfl
    rw [est]
    refine js _ H _ (fun _ _ => ⟨fun _ z => z, trivial⟩) E0 _ (mb.mono (fun fl h2 => ?_) hq)
    cases fl with
    | bad => exact h2
    | exc ε => exact fun cls dx σ' H' e r => h2 cls dx H' e (r.anti fun a z => .inl z)
    | ok fl =>
      cases fl with
      | next u => exact fun σ' H' E' => h2 .non H' E'.ext .non
      | ret d => exact fun v H' e r => h2 v H' e (r.anti fun a z => .inl z)
      | brk t => exact nomatch t
      | cnt t => exact nomatch t
theorem fn_demG {x qual : Str} {st : Stmt} {f : Addr} {fd : FuncData} {cdv : Value} {N ps : List Str} {k n : Nat} {m : List D → Dem D} (Fn : FunC K x qual st f fd cdv) (S : FnScope N ps (defScope st)) (hps : ps.length = n) (Z : List Nat)
    (hbody : ∀ (A : Around) (outer : List PySem.Env) (s : Shared) (H : Hp) (E : XK), Room k (Xd P w K mg base N qual st f cdv A outer s H E).A → (Xd P w K mg base N qual st f cdv A outer s H E).A.guards = some [] → ∀ ds, ds.length = n →
      ∃ (G : List Slot) (mb : Dem (Fl Unit Empty)), m ds = runF mb ∧ JS (Xd P w K mg base N qual st f cdv A outer s H E) (Wd E) Z (defBody st) (ds.map Slot.dat ++ List.replicate (N.length - n) .any) mb (fun _ => G) (fun t => nomatch t)) :
    FnG P w K mg base (L2.CX P w) (k + 1) f fd ps (spM K mg n m) := by
  obtain ⟨oc, od, kV, doc, pm, an, ct, osl, rfl, lk, hcd⟩ := Fn.ex
  refine fn_ofG lk hcd S (fun vs H Q E h => ?_) fun A outer s H vs Q E hr hgu h => ?_
  · obtain ⟨O, ds, hl, _⟩ := h
    exact hl.trans hps.symm
  · obtain ⟨O, ds, hl, tb, od, r, hq⟩ := h
    obtain ⟨G, mb, e, js⟩ := hbody A outer s H E hr hgu ds (r.length.symm.trans hl)
    rw [e] at hq
    refine ⟨_, pss_sem, ?_⟩
    have E0 := env_start (K := K) (mg := mg) (M := fun _ => False) (Dc := fun _ => False) (n := N.length - n) tb od (fun _ z => z.elim) (fun _ z => z.elim) (fun _ z => z.elim) (fun _ z => z.elim) r (pre := []) (preG := []) rfl (fun i s h => by simp at h)
    have est : L2.start N vs = (([] ++ vs).map some ++ List.replicate (N.length - n) none : L2.St) := by unfold L2.start; rw [hl]; rfl
    rw [est]
    refine js _ H _ (fun _ _ => ⟨fun _ z => z, trivial⟩) E0 _ (mb.mono (fun fl h2 => ?_) hq)
    cases fl with
    | bad => exact h2
    | exc ε => exact fun cls dx σ' H' e r => h2 cls dx H' e (r.anti fun a z => .inl z)
    | ok fl =>
      cases fl with
      | next u => exact fun σ' H' E' => h2 .non H' E'.ext .non
      | ret d => exact fun v H' e r => h2 v H' e (r.anti fun a z => .inl z)
      | brk t => exact nomatch t
      | cnt t => exact nomatch t
end
section
variable {M : Type → Type} [SpecM M] {X : Cx} {W : WX} {Γ : List Slot} {pos p p2 p3 : Pos} {e : Expr} {es : List Expr} {x y : Str} {j k n q : Nat}
theorem je_callG {m : M (List D)} {f : List D → Res D} (G : DefPG X.prog X.w X.K X.mg X.base x j n f) (hr : Room k X.A) (hgu : X.A.guards = some []) (hk : j ≤ k) (tk : Takes X W) (ha : JA X W (e :: es) Γ m) (hg : Gl X x := by (show _ = _); kernel_rfl) (hdb : (x == ("__debug__" : Str)) = false := by kernel_rfl)
    (he : starEach (e :: es) X.env = (false, eval e X.env) :: starEach es X.env := by kernel_rfl) (hpl : (backTo pos (starEach es X.env)).any (·.1) = false := by kernel_rfl) :
    JE X W (.Call (.Name x p) (e :: es) [] pos) Γ (bnd m fun ds => SpecM.ret (f ds)) := fun F H σ E Q hq => by
  obtain ⟨fa, fd, ps, hm, kp, bi, ok, bad⟩ := G.ex
  refine PE.wp (pe_callG (E := WE W) (ok.mono hk) hr hgu hg hm kp bi (fun σ => passAt tk σ) pa_sem hdb he hpl) ?_
  refine ha.bind E hq fun ds vs H1 e1 E1 r1 h1 => ?_
  have h2 := SpecM.post_ret h1
  by_cases hn : ds.length = n
  · refine ⟨OS F σ Γ, ds, r1.length.trans hn, E1.tbs, E1.osdom, r1, ?_⟩
    cases q : f ds with
    | ok d => rw [q] at h2; exact fun v H' e r => h2 v H' e.up r
    | exc ε => rw [q] at h2; exact fun c d H' e r => h2 c d H' e.up r
    | bad => rw [q] at h2; exact h2
  · rw [bad ds hn] at h2
    exact h2.elim
theorem Ext.fresh {M Dc : Addr → Prop} {H H' H2 : Hp} {p : Addr} (e : Ext0 H H') (hp : H p = none) (e2 : Ext (fun b => b = p) (fun b => b = p) H' H2) : Ext M Dc H H2 := by
  have ne : ∀ b o, H b = some o → b ≠ p := fun b o h z => by rw [z, hp] at h; cases h
  have kp : ∀ b o, (∀ ps, o ≠ .tbl ps) → H b = some o → H2 b = some o := fun b o t h => e2.keep b o (ne b o h) t (e.keep b o (fun z => z) t h)
  exact ⟨fun b o _ t h => kp b o t h, fun b h => e2.there b (e.there b h), fun b xs h => e2.tups b xs (e.tups b xs h), fun b o v h => e2.frzs b o v (e.frzs b o v h), fun b _ ⟨x, y, z, h⟩ => ⟨x, y, z, kp b _ (fun _ z => nomatch z) h⟩, fun P q h t => e2.tabs P q h (e.tabs P q h t)⟩
/-- x(y(..)), y giving fresh dice -/
theorem je_rollG {ma : Dem (List D)} {g : List D → Res (List D)} {f : List D → Dem D} (G : DefN X.prog X.w X.K X.mg X.base y q n g) (G2 : DefDG X.prog X.w X.K X.mg X.base x j 0 f) (hR : Room k X.A) (hgu : X.A.guards = some []) (hk : q ≤ k) (hk2 : j ≤ k) (tk : Takes X W) (ja : JA X W (e :: es) Γ ma)
    (hg : Gl X y := by (show _ = _); kernel_rfl) (hdb : (y == ("__debug__" : Str)) = false := by kernel_rfl) (hgx : Gl X x := by (show _ = _); kernel_rfl) (hdbx : (x == ("__debug__" : Str)) = false := by kernel_rfl)
    (he : starEach (e :: es) X.env = (false, eval e X.env) :: starEach es X.env := by kernel_rfl) (hpl : (backTo p2 (starEach es X.env)).any (·.1) = false := by kernel_rfl)
    (he2 : starEach [.Call (.Name y p) (e :: es) [] p2] X.env = (false, eval (.Call (.Name y p) (e :: es) [] p2) X.env) :: starEach [] X.env := by kernel_rfl) (hpl2 : (backTo pos (starEach [] X.env)).any (·.1) = false := by kernel_rfl) :
    JE X W (.Call (.Name x p3) [.Call (.Name y p) (e :: es) [] p2] [] pos) Γ (bnd ma fun ds => bnd (SpecM.ret (g ds)) fun r => match r with | [.int _, .int _, .int _] => f [] | _ => SpecM.ret .bad) := fun F H σ E Q hq => by
  obtain ⟨fa, fd, ps, hm, kp, bi, okf, bad⟩ := G.ex
  obtain ⟨fa2, fd2, ps2, hm2, kp2, bi2, okf2, bad2⟩ := G2.ex
  refine PE.wp (pe_callG (E := WE W) (okf2.mono hk2) hR hgu hgx hm2 kp2 bi2 (fun σ => passAt tk σ) (pa_cons (pe_callS (E := WE W) (okf.mono hk) hR hg hm kp bi (fun σ => passAt tk σ) pa_sem hdb he hpl) pa_nil he2) hdbx he2 hpl2) ?_
  refine ja.bind E hq fun ds vs H1 e1 E1 r1 g1 => ?_
  have g2 := SpecM.post_ret (SpecM.post_bind g1)
  by_cases hn : ds.length = n
  · refine ⟨OS F σ Γ, ds, r1.length.trans hn, E1.tbs, E1.osdom, r1, ?_⟩
    cases hfd : g ds with
    | bad => rw [hfd] at g2; exact g2
    | exc ε => rw [hfd] at g2; exact fun c d H' e r => g2 c d H' e.up r
    | ok r =>
      rw [hfd] at g2
      intro p xs H' e' hp0 hp nO r'
      have g3 : SpecM.post (match r with | [.int _, .int _, .int _] => f [] | _ => SpecM.ret .bad) (Post X.K X.mg W F (OS F σ Γ) σ H1 (fun H v d => Rep X.K X.mg (OS F σ Γ) H v d) Q) := g2
      split at g3
      · rename_i a b c
        obtain ⟨v1, q1, rfl, k1, k2⟩ := r'.cons_of
        obtain ⟨v2, q2, rfl, k3, k4⟩ := k2.cons_of
        obtain ⟨v3, q3, rfl, k5, k6⟩ := k4.cons_of
        rw [k6.nil_of, k1.toInt, k3.toInt, k5.toInt] at hp
        refine ⟨fun b => OS F σ Γ b ∨ b = p, p, [], [], rfl, rfl, .inr rfl, ⟨_, _, _, hp⟩, E1.tbs.ext (e'.up : Ext F.Dc F.Dc H1 H'), fun b hb => ?_, .nil, (f []).mono (fun r hr => ?_) g3⟩
        · rcases hb with hb | hb
          · exact e'.there b (E1.osdom b hb)
          · rw [hb, hp]; exact fun z => nomatch z
        · cases r with
          | ok d => exact fun v H2 e2 r2 => hr v H2 (Ext.fresh e' hp0 e2) (r2.anti fun a z => .inl z)
          | exc ε => exact fun c d H2 e2 r2 => hr c d H2 (Ext.fresh e' hp0 e2) (r2.anti fun a z => .inl z)
          | bad => exact hr
      · exact (SpecM.post_ret g3).elim
  · rw [bad ds hn] at g2
    exact g2.elim
end
end DE

set_option maxHeartbeats 4000000
namespace DE
open PySem PySem.Spec PyProof.Rows L2
def LawAtG (l : PySem.W.OpenLaw) (w : World) (K : PySem.W.Frag) (CX : CXT) (k n : Nat) (x : Str) (mg : Str → Option Value) (fa : Addr) (h : Heap) : Prop :=
  ∃ (fd : FuncData) (cs : List (Addr × Addr)) (sp : Sp), (∀ p ∈ cs, h.get? p.2 = some { cls := .none, data := .fields #[] }) ∧ (∀ p ∈ cs, K.lookup p.2 = none) ∧ (∀ p ∈ cs, PySem.W.CodeHd h p.1 p.2) ∧ (∀ (s : Shared) (u : Value), BindsTo s fd ⟨[u], []⟩ [(x, u)]) ∧
    (∀ (H : Hp) (a : Addr) (ns : List Int), ns.length ≤ n → (∀ z ∈ ns, Builtin.Int.intBits z ≤ 1048576) → (∀ p ∈ cs, H p.2 = some (.tbl #[])) → SqL K H a (ns.map V.int) → sp [.ref a] H (fun v _ => v = .bl true) fun _ _ _ => False) ∧
    ∀ base : Heap, K.In base → base.Ns mainGlobals mg → (∀ p ∈ cs, LamX.TabB base mg p.1 p.2) → FnG l.prog w K mg base CX k fa fd [x] sp
section
variable {K : PySem.W.Frag} {h : Heap} {mg : Str → Option Value} {fa : List He.Fa} {fn : List He.DefD} {ck : PySem.W.Frag → Bool} {tb : List Str}
theorem lawAt_ofG {l : PySem.W.OpenLaw} {w : World} {f : Addr} (X : K.In h) (G : h.Ns mainGlobals mg) (S : SaysY h K fa fn ck tb) {st : Stmt} {k : Nat} {m : List D → Dem D} (i j : Nat) (hf : mg "law" = some (.ref f)) (hb : BindsBy "law" st ["script"])
    (okl : ∀ base : Heap, (∀ x ∈ tb, LamX.TabB base mg (codeA K x) (tabA K x)) → ∀ (f : Addr) (fd : FuncData) (cdv : Value), FunC K "law" "law" st f fd cdv → (("law" : Str) ∈ tb → cdv = .ref (codeA K "law")) → FnG l.prog w K mg base (L2.CX l.prog w) k f fd ["script"] (@spM (tau K tb S.t.nd) K mg 1 m))
    (plain : ∀ ns : List Int, ns.length ≤ 63 → (∀ z ∈ ns, Builtin.Int.intBits z ≤ 1048576) → (m [scrD ns]).run fun r => r = .ok (.bool true)) (hi : fn[i]? = some (dOf "law" st) := by kernel_rfl) (hj : fa[j]? = some (.glo "law") := by kernel_rfl) : LawAtG l w K (L2.CX l.prog w) k 63 "script" mg f h := by
  obtain ⟨fd, F⟩ := S.d.def_ i hi
  have F' : Fun K "law" "law" st (He.ga K "law") fd := He5.fun_of F
  obtain ⟨cdv, C⟩ := funC_of (K := K) (x := "law") (st := st) F
  have e := hf.symm.trans (He.glo_ok X G (S.d.fact j hj))
  cases e
  have B := F'.binds hb
  refine ⟨fd, tb.map fun x => (codeA K x, tabA K x), @spM (tau K tb S.t.nd) K mg 1 m, fun p hp => ?_, fun p hp => ?_, fun p hp => ?_, fun s u => ?_, fun H a ns hl hbits hH hS => ?_, fun base hX hG TB => ?_⟩
  · obtain ⟨x, hx, rfl⟩ := List.mem_map.mp hp
    exact (S.t.all x hx).2.1
  · obtain ⟨x, hx, rfl⟩ := List.mem_map.mp hp
    exact (S.t.all x hx).2.2.2
  · obtain ⟨x, hx, rfl⟩ := List.mem_map.mp hp
    exact (S.t.all x hx).2.2.1
  · obtain ⟨oc, od, kV, doc, pm, an, ct, osl, rfl, _⟩ := C.ex
    exact .of_eq (hb _ _ _ _ _ _ [u] rfl)
  · letI := tau K tb S.t.nd
    refine ⟨fun _ => False, [scrD ns], rfl, tabsOK_of S.t.nd fun x hx => hH (codeA K x, tabA K x) (List.mem_map.mpr ⟨x, hx, rfl⟩), fun _ z => z.elim, .cons (.dic (.inr (.inr (.inl ⟨ns, a, rfl, rfl, ScA.of hS⟩)))) .nil, (m [scrD ns]).mono (fun r hr => ?_) (plain ns hl hbits)⟩
    subst hr
    exact fun v H' _ rv => rv.toBool
  · exact okl base (fun x hx => TB (codeA K x, tabA K x) (List.mem_map.mpr ⟨x, hx, rfl⟩)) _ fd cdv C fun hx => code_of C (S.t.all "law" hx).1
end
theorem walk_G {l : PySem.W.OpenLaw} {n k : Nat} {q : Program} {loose : List Str} {XP : (Str → Option Value) → Heap → Prop} {YP : World → Heap → Prop} {d : DefRec} {CX : World → CXT} {x : Str} (h1 : l.most = some n) (h2 : n ≤ sizeLine) (h3 : d.params.defaults = []) (hr : Room k callerA)
    (F : ∀ (w : World) (mg : Str → Option Value) (f : Addr) (h : Heap), YP w h → h.Ns mainGlobals mg → mg d.name = some (.ref f) → ∃ K : PySem.W.Frag, K.In h ∧ LawAtG l w K (CX w) k n x mg f h)
    (no : ∀ (w : World) (H : Hp) (s : Shared) (e : Value) (s' : Shared), CX w [] H s (fun _ _ _ => False) e s' → False) : PySem.W.WalkO q loose XP YP l.row.toRowW d [] (fun f vs => PySem.call f vs) := by
  refine Att.attach_callB h1 h3 fun w s₀ s mg mb f o pm cd doc a vs ns Gr Y z1 z2 z3 hm ob its len bits gens => ?_
  obtain ⟨K, KX, fd, cs, sp, t1, t2, t3, hb, hsp, ok⟩ := F w mg f _ Y Gr.T.g hm
  exact law_callG KX Gr.T.g Gr.T.b Gr.T.builtins Gr.T.nolimit gens t1 t2 t3 Gr.T.bmain ob its (Nat.le_trans len h2) hr ok hb (fun H hH hS => hsp H a ns len bits hH hS) fun H e s' => no w H s e s'
end DE

set_option maxHeartbeats 4000000
namespace DE
open PySem PySem.Spec PyProof.Rows L2
variable [τ : TabCtx]
/-! repr of data -/
def noDc : D → Bool
  | .dict [] => true
  | .dict [(.tuple [.int _], .int _)] => true
  | d => !d.hasDict
theorem noDc_or {d : D} (h : noDc d = true) : d.hasDict = false ∨ d = .dict [] ∨ ∃ i j, d = .dict [(.tuple [.int i], .int j)] := by
  unfold noDc at h
  split at h
  · exact .inr (.inl rfl)
  · exact .inr (.inr ⟨_, _, rfl⟩)
  · exact .inl (by simpa using h)
/-- what is told of a datum that may be shown -/
def DpR (K : PySem.W.Frag) (H : Hp) (v : V) (d : D) : Prop := (d.hasDict = false ∧ Dp K H v d) ∨ (d = .dict [] ∧ ∃ a, v = .ref a ∧ H a = some (.dK [])) ∨ ∃ i j a, d = .dict [(.tuple [.int i], .int j)] ∧ v = .ref a ∧ H a = some (.dT [([.inl i], .int j)])
def reprD (d : D) : Option D := if noDc d = true ∧ d.showable = true ∧ d.depth ≤ 60 ∧ d.shown.length ≤ 100000 then some (.str d.shown) else none
section
variable {K : PySem.W.Frag} {mg : Str → Option Value} {O : Addr → Prop} {H : Hp}
mutual
theorem Rep.dpN : ∀ (d : D) (v : V), d.hasDict = false → Rep K mg O H v d → Dp K H v d
  | .none, v, _, h => by rw [h.toNon]; exact .non
  | .bool b, v, _, h => by rw [h.toBool]; exact .bl b
  | .int i, v, _, h => by rw [h.toInt]; exact .int i
  | .str x, v, _, h => by rw [h.toStr]; exact .str x
  | .tuple ds, v, q, h => by
    obtain ⟨a, xs, rfl, h1, h2⟩ := h.tuple
    exact .tup h1 (Reps.dpN ds xs (by rw [PyData.hasDict] at q; exact q) h2)
  | .list ds, v, q, h => by
    obtain ⟨a, xs, rfl, h1, h2⟩ := h.list
    exact .lst h1.sq (Reps.dpN ds xs (by rw [PyData.hasDict] at q; exact q) h2)
  | .dict kvs, v, q, h => by rw [PyData.hasDict] at q; cases q
theorem Reps.dpN : ∀ (ds : List D) (vs : List V), PyData.hasDictAll ds = false → Reps K mg O H vs ds → DpAll K H vs ds
  | [], vs, _, h => by rw [h.nil_of]; exact .nil
  | d :: ds, vs, q, h => by
    obtain ⟨v, r, rfl, h1, h2⟩ := h.cons_of
    rw [PyData.hasDictAll, Bool.or_eq_false_iff] at q
    exact .cons (Rep.dpN d v q.1 h1) (Reps.dpN ds r q.2 h2)
end
end
theorem Rep.dpR {K : PySem.W.Frag} {mg : Str → Option Value} {O : Addr → Prop} {H : Hp} {v : V} {d : D} (h : Rep K mg O H v d) (c : noDc d = true) : DpR K H v d := by
  rcases noDc_or c with c1 | rfl | ⟨i, j, rfl⟩
  · exact .inl ⟨c1, h.dpN d v c1⟩
  · rcases h.dict with ⟨_, a, h1, h2, _⟩ | ⟨_, _, h1, _⟩ | ⟨_, _, h1, _⟩ | ⟨_, _, _, h1, _⟩
    · exact .inr (.inl ⟨rfl, a, h1, h2⟩)
    · cases h1
    · cases h1
    · cases h1
  · rcases h.dict with ⟨h1, _⟩ | ⟨_, _, h1, _⟩ | ⟨_, _, h1, _⟩ | ⟨i', j', a, h1, h2, h3, _⟩
    · cases h1
    · cases h1
    · cases h1
    · cases h1
      exact .inr (.inr ⟨_, _, a, rfl, h2, h3⟩)
section
variable {X : Cx}
theorem call_reprD (hgu : X.A.guards = some []) (hu : X.A.units + 100 < cLine) : CallR X (.builtin "repr") (fun xs H Q => ∃ (v : V) (d : D), xs = [v] ∧ DpR X.K H v d ∧ d.showable = true ∧ d.depth ≤ 60 ∧ d.shown.length ≤ 100000 ∧ Q (.str d.shown) H) := by
  intro pins s σ H xs us Q I r h
  obtain ⟨v, d, rfl, hd, hs, hz, hl, q⟩ := h
  obtain ⟨u, rfl, rv⟩ := vals1 r
  have hl' : d.shown.length ≤ sizeLine := by rw [sizeLine_eq]; omega
  have end_ : ∀ (h' : Heap) (t tk : Tok), (∀ b o, s.heap.get? b = some o → h'.get? b = some o) → EP X pins σ Q (.str d.shown t) { s with heap := h', toks := tk } := fun h' t tk hk => ⟨.str _, H, I.kept fun b o e => hk b o e, ⟨_, rfl⟩, q⟩
  have refs : ∀ {a : Addr} {as : List Addr}, Reads s.heap (.ref a) d as → (d.hasDict = true → sysModules ∉ as) → wpAny (model X.prog X.w) X.A (call (.builtin "repr") [.ref a]) (EP X pins σ Q) X.xe s := fun {a as} rd hsm =>
    repr_of_reads' rd hs hsm hgu (by omega) (fun _ _ e => e) (fun h' t tk hk => end_ h' t tk hk) hl'
  rcases hd with ⟨nd, hd⟩ | ⟨rfl, a, rfl, ha⟩ | ⟨i, j, a, rfl, rfl, ha⟩
  · obtain ⟨as, rd⟩ := Dp.reads I d v u hd rv
    cases rd with
    | none => exact PySem.P.repr_of_none (end_ s.heap _ _ fun _ _ e => e)
    | bool b =>
      refine PySem.P.repr_of_bool ?_
      have := end_ s.heap s.toks (s.toks + 1) fun _ _ e => e
      simp only [PyData.shown] at this
      exact this
    | int i t =>
      have hi : i.natAbs.log2 < 1920 := by simpa [PyData.showable] using hs
      exact PySem.P.repr_of_int hi (end_ s.heap _ _ fun _ _ e => e)
    | str x t =>
      refine PySem.P.repr_of_str ?_ (by simpa [PyData.shown] using hl')
      have := end_ s.heap s.toks (s.toks + 1) fun _ _ e => e
      simp only [PyData.shown] at this
      exact this
    | list h1 h2 h3 h4 => exact refs (.list h1 h2 h3 h4) (fun z => by rw [nd] at z; cases z)
    | tuple h1 h2 h3 h4 => exact refs (.tuple h1 h2 h3 h4) (fun z => by rw [nd] at z; cases z)
    | dict h1 h2 h3 h4 h5 => rw [PyData.hasDict] at nd; cases nd
  · obtain rfl : u = Value.ref a := rv
    have ok : ObjOk X.prog X.w H s.heap a (.dK []) := I.hok a _ ha
    obtain ⟨_, hm, vs, kv, o, es, ep, h1, h2, h3, h4⟩ := ok
    cases kv
    have he : es.toList = [] := by
      have z := h4.2.1
      generalize es.toList = l at z
      cases z
      rfl
    refine refs (.dict (kvs := []) (as := []) (bs := []) h1 h2.1 h3 (by rw [he]; exact .nil) (by rw [he]; exact .nil)) (fun _ z => ?_)
    simp at z
    rw [z] at hm
    simp at hm
  · obtain rfl : u = Value.ref a := rv
    have ok : ObjOk X.prog X.w H s.heap a (.dT [([.inl i], .int j)]) := I.hok a _ ha
    obtain ⟨_, hm, xs, kv, o, es, ep, h1, h2, h3, h4, _⟩ := ok
    cases kv with
    | @cons p q ps qs hp ht =>
      cases ht
      obtain ⟨e1, e2, e3⟩ := hp
      obtain ⟨qk, qa, qv⟩ := q
      dsimp only at e1 e2 e3
      obtain ⟨tj, rfl⟩ : ∃ t, qv = Value.int j t := e3
      have tp : ObjOk X.prog X.w H s.heap qa (.tup [.int i]) := I.hok qa _ e2
      obtain ⟨_, its, rv, ⟨o2, ho2, hc2, n2, hd2⟩⟩ := tp
      cases rv with
      | cons r1 r2 =>
        cases r2
        obtain ⟨ti, rfl⟩ := r1
        refine refs (.dict (kvs := [(.tuple [.int i], .int j)]) (as := [] ++ []) (bs := [] ++ []) h1 h2.1 h3 (by
          rw [h4]
          exact .cons (.tuple ho2 hc2 hd2 (as := [] ++ []) (.cons (.int i ti) .nil)) .nil) (by
          rw [h4]
          exact .cons (.int j tj) .nil)) (fun _ z => ?_)
        simp at z
        rw [z] at hm
        simp at hm
end
section
variable {M : Type → Type} [SpecM M] {X : Cx} {W : WX} {Γ : List Slot} {e : Expr} {ma : M D} {k : Nat} {p pos : Pos}
theorem je_repr (hgu : X.A.guards = some []) (hR : Room k X.A) (hm : X.mg "repr" = none) (ha : JE X W e Γ ma) (hg : Gl X "repr" := by (show _ = _); kernel_rfl)
    (he : starEach [e] X.env = (false, eval e X.env) :: starEach [] X.env := by kernel_rfl) (hpl : (backTo pos (starEach [] X.env)).any (·.1) = false := by kernel_rfl) :
    JE X W (.Call (.Name "repr" p) [e] [] pos) Γ (bnd ma fun d => op (reprD d)) := fun F H σ E Q hq => by
  refine PE.wp (pe_callB (call_reprD hgu (by have := hR.un; omega)) hg hm (by kernel_rfl) (pa_cons pe_sem pa_nil he) (by decide) (by kernel_rfl) he hpl) ?_
  refine ha.bind E hq fun d v H1 e1 E1 r1 h1 => ?_
  obtain ⟨z, hz, q⟩ := post_ofO h1
  unfold reprD at hz
  split at hz
  · rename_i c
    cases hz
    exact ⟨v, d, rfl, r1.dpR c.1, c.2.1, c.2.2.1, c.2.2.2, q _ H1 .refl (.str _)⟩
  · cases hz
end
end DE

set_option maxHeartbeats 4000000
namespace DE
open PySem PySem.Spec PyProof.Rows L2
variable [τ : TabCtx]
/-! what a clause gives -/
def JH (X : Cx) (i : Option Nat) (e : Expr) (h : Exc → Option D) : Prop :=
  ∀ (a : Addr) (oe : Obj) (cls : Value) (dx : Option Addr) (pn : List (Addr × Obj)), Zc cls dx oe → (∃ vs, oe.data = .fields vs) →
    ∀ (σ : L2.St) (H : Hp) (Q : V → Hp → Prop) (ε : Exc) (O : Addr → Prop) (r : D), (∀ k, i = some k → σ[k]? = some (some (V.ref a))) → ExcRep X.K X.mg O ε cls dx H → h ε = some r →
      (∀ v H', Ext0 H H' → Rep X.K X.mg O H' v r → Q v H') → wpE (X.suite a ((a, oe) :: pn)) e σ H Q
theorem ExcRep.ext {K : PySem.W.Frag} {mg : Str → Option Value} {O : Addr → Prop} {H H1 : Hp} {ε : Exc} {cls : Value} {dx : Option Addr} (e : Ext0 H H1) (h : ExcRep K mg O ε cls dx H) : ExcRep K mg O ε cls dx H1 := by
  obtain ⟨C, h1, h2, h3, h4⟩ := h
  exact ⟨C, h1, h2, fun f d q => let ⟨dd, v, q1, q2, q3⟩ := h3 f d q; ⟨dd, v, q1, e.keep dd _ (fun z => z) (fun _ z => nomatch z) q2, q3.ext e fun _ z => z.elim⟩, h4⟩
section
variable {X : Cx} {i : Option Nat} {k : Nat} {e e1 e2 c : Expr} {h h1 h2 hc : Exc → Option D} {p p1 p2 p3 pos : Pos}
theorem jh_int {n : Int} {j : Nat} : JH X i (.Constant (.int n) j p) (fun _ => some (.int n)) := fun a oe cls dx pn hz hf σ H Q ε O r hs hx hr hq => by
  cases hr
  exact PE.wp pe_int (hq _ H .refl (.int n))
theorem jh_str {n : Str} {j : Nat} : JH X i (.Constant (.str n) j p) (fun _ => some (.str n)) := fun a oe cls dx pn hz hf σ H Q ε O r hs hx hr hq => by
  cases hr
  exact PE.wp pe_str (hq _ H .refl (.str n))
theorem jh_bool {b : Bool} {j : Nat} : JH X i (.Constant (.bool b) j p) (fun _ => some (.bool b)) := fun a oe cls dx pn hz hf σ H Q ε O r hs hx hr hq => by
  cases hr
  exact PE.wp pe_bl (hq _ H .refl (.bl b))
theorem jh_neg {n : Int} {j : Nat} : JH X i (.UnaryOp .USub (.Constant (.int n) j p) p2) (fun _ => some (.int (-n))) := fun a oe cls dx pn hz hf σ H Q ε O r hs hx hr hq => by
  cases hr
  refine PE.wp (pe_un un_neg pe_int) ?_
  exact ⟨n, rfl, hq _ H .refl (.int _)⟩
/-- error.f -/
def fldE (L : List Str) (f : Str) (ε : Exc) : Option D := if L.contains ε.cls then (match ε.val with | some (g, d) => if g = f then some d else none | none => none) else none
theorem jh_fld {n f : Str} {L : List Str} (hL : ∀ x ∈ L, ∀ C, X.mg x = some (.ref C) → XfC X.K C ∧ PySem.W.findIn X.K (.ref C) f = some none) (hi : X.N[k]? = some n := by kernel_rfl) (hv : Vis X.env.scope n) (hd : (n == ("__debug__" : Str)) = false := by kernel_rfl) (hcd : (n == ("__classdict__" : Str)) = false := by kernel_rfl)
    (hb : attributeBase (.Name n p1) f X.env (eval (.Name n p1) X.env) = eval (.Name n p1) X.env := by rfl) : JH X (some k) (.Attribute (.Name n p1) f p2) (fldE L f) := fun a oe cls dx pn hz hf σ H Q ε O r hs hx hr hq => by
  obtain ⟨C, hm, rfl, hval⟩ := hx
  unfold fldE at hr
  split at hr
  · rename_i hc
    have hmem : ε.cls ∈ L := by simpa using hc
    obtain ⟨T, hno⟩ := hL _ hmem C hm
    cases hvv : ε.val with
    | none => rw [hvv] at hr; cases hr
    | some gd =>
      obtain ⟨g, d⟩ := gd
      rw [hvv] at hr
      dsimp only at hr
      split at hr
      · rename_i hg
        subst hg
        cases hr
        obtain ⟨dd, v, e1, e2, e3⟩ := hval.1 _ _ hvv
        refine PE.wp (pe_xf (X := X) T hno hz hf (pe_var (X := X.suite a ((a, oe) :: pn)) hi hv hd hcd) hb) ?_
        exact ⟨_, hs k rfl, rfl, rfl, dd, _, v, e1, e2, by simp [List.lookup], hq v H .refl e3⟩
      · cases hr
  · cases hr
/-- isinstance(error, T) -/
structure ExcK (K : PySem.W.Frag) (C : Addr) : Prop where
  cl : (PySem.W.clsIn K C).isSome = true
  ga : PySem.W.findIn K (.ref C) "__getattribute__" = some (some (.builtin "BaseException.__getattribute__"))
  gt : PySem.W.findIn K (.ref C) "__getattr__" = some none
  sb : PySem.W.subIn K (.ref C) (.type "BaseException") = some true
  ca : PySem.W.findIn K (.ref C) "__class__" = some (some (.builtin "object.__class__"))
  sp : PySem.W.specialIn K (.builtin "object.__class__") "__get__" = some (some (.builtin "getset_descriptor.__get__"))
  tk : PySem.W.takesIn K (.builtin "object.__class__") = some true
  mr : PySem.W.mroIn K C (.type "object") = some true
def isiE (tab : List (Str × Bool)) (ε : Exc) : Option D := (tab.lookup ε.cls).map PyData.bool
theorem call_isiE {a C : Addr} {oe : Obj} {dx : Option Addr} {pn : List (Addr × Obj)} (T : ExcK X.K C) (hz : Zc (.ref C) dx oe) (hf : ∃ vs, oe.data = .fields vs) : CallR (X.suite a ((a, oe) :: pn)) (.builtin "isinstance") (fun xs H Q => ∃ (t : String) (b : Bool), xs = [.ref a, .ty t] ∧ (∀ dd, dx = some dd → ∃ fs, H dd = some (.xd fs)) ∧ PySem.W.kitOne X.K (.ref C) (.type t) = some b ∧ Q (.bl b) H) := by
  intro pins s σ H xs us Q I r h
  obtain ⟨t, b, rfl, hdd, e, q⟩ := h
  cases r with
  | cons rx rr =>
    cases rr with
    | cons rt rr =>
      cases rr
      cases rx
      cases rt
      obtain ⟨hget, _⟩ := I.pin (a, oe) (List.mem_append.mpr (.inl List.mem_cons_self))
      obtain ⟨vs, hv⟩ := hf
      obtain ⟨od, J⟩ : ∃ od, PySem.W.InstAt s.heap a oe C od := by
        cases dx with
        | none =>
          obtain ⟨oc, od, oda, osl⟩ := oe
          obtain ⟨h1, h2⟩ := hz
          dsimp only at h1 h2 hv
          subst h1 h2 hv
          exact ⟨none, hget, rfl, rfl, trivial⟩
        | some dd =>
          obtain ⟨fs, hfs⟩ := hdd dd rfl
          have hx : ObjOk X.prog X.w H s.heap dd (.xd fs) := I.hok dd _ hfs
          obtain ⟨mA, hns, hr⟩ := hx
          obtain ⟨od, ho, hl⟩ := lookIn_ns hns
          exact ⟨some od, hget, hz.1, by unfold PySem.W.notCls; rw [hv] <;> rfl, by rw [hz.2]; exact ho⟩
      exact PySem.W.kia_one (PySem.W.kitx_exc T.cl T.ga T.gt T.sb T.ca T.sp T.tk T.mr) I.kIn J e (fun z => nomatch z) fun tk => ⟨.bl b, H, I.kept (t' := tk) fun _ _ z => z, rfl, q⟩
theorem jh_isi {n t : Str} {tab : List (Str × Bool)} {T : String} (hL : ∀ x b, tab.lookup x = some b → ∀ C, X.mg x = some (.ref C) → ExcK X.K C ∧ PySem.W.kitOne X.K (.ref C) (.type T) = some b) (hmi : X.mg "isinstance" = none) (hmt : X.mg t = none) (hvt : bootBuiltins t = some (.type T) := by kernel_rfl)
    (hi : X.N[k]? = some n := by kernel_rfl) (hv : Vis X.env.scope n) (hd : (n == ("__debug__" : Str)) = false := by kernel_rfl) (hcd : (n == ("__classdict__" : Str)) = false := by kernel_rfl) (hgi : Gl X "isinstance" := by (show _ = _); kernel_rfl) (hgt : Gl X t := by (show _ = _); kernel_rfl) (hnt : t ≠ "__name__" := by decide) (hdt : (t == ("__debug__" : Str)) = false := by kernel_rfl)
    (he : starEach [.Name n p1, .Name t p2] X.env = (false, eval (.Name n p1) X.env) :: starEach [.Name t p2] X.env := by kernel_rfl) (he2 : starEach [.Name t p2] X.env = (false, eval (.Name t p2) X.env) :: starEach [] X.env := by kernel_rfl) (hpl : (backTo pos (starEach [.Name t p2] X.env)).any (·.1) = false := by kernel_rfl) :
    JH X (some k) (.Call (.Name "isinstance" p) [.Name n p1, .Name t p2] [] pos) (isiE tab) := fun a oe cls dx pn hz hf σ H Q ε O r hs hx hr hq => by
  obtain ⟨C, hm, rfl, h3, h4⟩ := hx
  unfold isiE at hr
  cases hb : tab.lookup ε.cls with
  | none => rw [hb] at hr; cases hr
  | some b =>
    rw [hb] at hr
    cases hr
    obtain ⟨T1, kt⟩ := hL _ _ hb C hm
    refine PE.wp (pe_callB (X := X.suite a ((a, oe) :: pn)) (call_isiE T1 hz hf) hgi hmi (by kernel_rfl) (pa_cons (pe_var (X := X.suite a ((a, oe) :: pn)) hi hv hd hcd) (pa_cons (pe_bltn (X := X.suite a ((a, oe) :: pn)) (v := .ty T) hgt hmt hvt rfl hnt hdt) pa_nil he2) he) (by decide) (by kernel_rfl) he hpl) ?_
    refine ⟨_, hs k rfl, T, b, rfl, fun dd hdd => ?_, kt, hq _ H .refl (.bl b)⟩
    cases hvv : ε.val with
    | none => rw [h4 hvv] at hdd; cases hdd
    | some gd =>
      obtain ⟨d2, v, e1, e2, e3⟩ := h3 gd.1 gd.2 hvv
      rw [e1] at hdd
      cases hdd
      exact ⟨_, e2⟩
def ifE (hc h1 h2 : Exc → Option D) (ε : Exc) : Option D := match hc ε with
  | some (.bool true) => h1 ε
  | some (.bool false) => h2 ε
  | _ => none
theorem jh_if (jc : JH X i c hc) (j1 : JH X i e1 h1) (j2 : JH X i e2 h2) (he : ∀ whole, isTrue c X.env whole = (do let v ← whole; standAt c.pos; holding [v] (truthy v)) := by intro _; rfl) : JH X i (.IfExp c e1 e2 pos) (ifE hc h1 h2) := fun a oe cls dx pn hz hf σ H Q ε O r hs hx hr hq => by
  refine PE.wp (pe_ifExp (X := X.suite a ((a, oe) :: pn)) (pt_truth pe_sem he) pe_sem pe_sem) ?_
  unfold ifE at hr
  split at hr
  · rename_i hcv
    refine jc a oe cls dx pn hz hf σ H _ ε O _ hs hx hcv fun v H1 ex rv => ?_
    refine ⟨true, by rw [rv.toBool]; exact rfl, ?_⟩
    exact iteT (j1 a oe cls dx pn hz hf σ H1 Q ε O r hs (hx.ext ex) hr fun v H2 e2 r2 => hq v H2 (ex.trans e2) r2)
  · rename_i hcv
    refine jc a oe cls dx pn hz hf σ H _ ε O _ hs hx hcv fun v H1 ex rv => ?_
    refine ⟨false, by rw [rv.toBool]; exact rfl, ?_⟩
    exact iteF (j2 a oe cls dx pn hz hf σ H1 Q ε O r hs (hx.ext ex) hr fun v H2 e2 r2 => hq v H2 (ex.trans e2) r2)
  · cases hr
def tupE (h1 h2 : Exc → Option D) (ε : Exc) : Option D := match h1 ε, h2 ε with
  | some a, some b => some (.tuple [a, b])
  | _, _ => none
theorem jh_tup {x1} (j1 : JH X i e1 h1) (j2 : JH X i e2 h2) (he : starEach [e1, e2] X.env = (false, eval e1 X.env) :: starEach [e2] X.env := by kernel_rfl) (he2 : starEach [e2] X.env = (false, eval e2 X.env) :: starEach [] X.env := by kernel_rfl) : JH X i (.Tuple [e1, e2] x1 pos) (tupE h1 h2) := fun a oe cls dx pn hz hf σ H Q ε O r hs hx hr hq => by
  refine PE.wp (pe_tup (X := X.suite a ((a, oe) :: pn)) (pa_cons pe_sem (pa_cons pe_sem pa_nil he2) he)) ?_
  unfold tupE at hr
  split at hr
  · rename_i d1 d2 q1 q2
    cases hr
    refine j1 a oe cls dx pn hz hf σ H _ ε O _ hs hx q1 fun v1 H1 x1 r1 => ?_
    refine j2 a oe cls dx pn hz hf σ H1 _ ε O _ hs (hx.ext x1) q2 fun v2 H2 x2 r2 => ?_
    refine ⟨by rw [sizeLine_eq]; simp, fun q hqn => ?_⟩
    have x3 : Ext0 H2 (upd H2 q (.tup [v1, v2])) := .new hqn
    exact hq _ _ ((x1.trans x2).trans x3) (.tup (.inl (.inl upd_same)) (.cons (r1.ext (x2.trans x3) fun _ z => z.elim) (.cons (r2.ext x3 fun _ z => z.elim) .nil)))
  · cases hr
end
end DE

set_option maxHeartbeats 4000000
namespace DE
open PySem PySem.Spec PyProof.Rows L2
variable [τ : TabCtx]
section
variable {X : Cx} {i : Option Nat} {e e1 e2 : Expr} {h h1 h2 : Exc → Option D} {p pos : Pos} {k : Nat}
def repE (h : Exc → Option D) (ε : Exc) : Option D := match h ε with
  | some d => reprD d
  | none => none
theorem jh_repr (hgu : X.A.guards = some []) (hR : Room k X.A) (hm : X.mg "repr" = none) (j : JH X i e h) (hg : Gl X "repr" := by (show _ = _); kernel_rfl)
    (he : starEach [e] X.env = (false, eval e X.env) :: starEach [] X.env := by kernel_rfl) (hpl : (backTo pos (starEach [] X.env)).any (·.1) = false := by kernel_rfl) : JH X i (.Call (.Name "repr" p) [e] [] pos) (repE h) := fun a oe cls dx pn hz hf σ H Q ε O r hs hx hr hq => by
  refine PE.wp (pe_callB (X := X.suite a ((a, oe) :: pn)) (call_reprD hgu (by show X.A.units + 100 < cLine; have := hR.un; omega)) hg hm (by kernel_rfl) (pa_cons pe_sem pa_nil he) (by decide) (by kernel_rfl) he hpl) ?_
  unfold repE at hr
  split at hr
  · rename_i d hd
    refine j a oe cls dx pn hz hf σ H _ ε O _ hs hx hd fun v H1 x1 r1 => ?_
    unfold reprD at hr
    split at hr
    · rename_i c
      cases hr
      exact ⟨v, d, rfl, r1.dpR c.1, c.2.1, c.2.2.1, c.2.2.2, hq _ H1 x1 (.str _)⟩
    · cases hr
  · cases hr
def catE (h1 h2 : Exc → Option D) (ε : Exc) : Option D := match h1 ε, h2 ε with
  | some (.str a), some (.str b) => if a.length + b.length ≤ 1000000 then some (.str (a ++ b)) else none
  | _, _ => none
theorem jh_cat (j1 : JH X i e1 h1) (j2 : JH X i e2 h2) : JH X i (.BinOp e1 .Add e2 pos) (catE h1 h2) := fun a oe cls dx pn hz hf σ H Q ε O r hs hx hr hq => by
  refine PE.wp (pe_op (X := X.suite a ((a, oe) :: pn)) op_add_str pe_sem pe_sem) ?_
  unfold catE at hr
  split at hr
  · rename_i d1 d2 q1 q2
    split at hr
    · rename_i hl
      cases hr
      refine j1 a oe cls dx pn hz hf σ H _ ε O _ hs hx q1 fun v1 H1 x1 r1 => ?_
      refine j2 a oe cls dx pn hz hf σ H1 _ ε O _ hs (hx.ext x1) q2 fun v2 H2 x2 r2 => ?_
      exact ⟨_, _, r1.toStr, r2.toStr, by rw [sizeLine_eq]; omega, hq _ H2 (x1.trans x2) (.str _)⟩
    · cases hr
  · cases hr
end
/-! the clauses, one after the other -/
inductive HJ (X : Cx) : List ExceptHandler → List (Str × (Exc → Option D)) → Prop
  | nil : HJ X [] []
  | plain {x : Str} {e : Expr} {h : Exc → Option D} {np p pos : Pos} {hds : List ExceptHandler} {tab : List (Str × (Exc → Option D))} {C : Addr} (hm : X.mg x = some (.ref C)) (hg : Gl X x) (hd : (x == ("__debug__" : Str)) = false) (je : JH X none e h) (r : HJ X hds tab) :
      HJ X (.ExceptHandler (some (.Name x np)) none [.Return (some e) p] pos :: hds) ((x, h) :: tab)
  | named {x n : Str} {k : Nat} {e : Expr} {h : Exc → Option D} {np p pos : Pos} {hds : List ExceptHandler} {tab : List (Str × (Exc → Option D))} {C : Addr} (hm : X.mg x = some (.ref C)) (hg : Gl X x) (hd : (x == ("__debug__" : Str)) = false) (hi : X.N[k]? = some n) (hln : X.env.kindOf n = some .local)
      (je : JH X (some k) e h) (r : HJ X hds tab) : HJ X (.ExceptHandler (some (.Name x np)) (some n) [.Return (some e) p] pos :: hds) ((x, h) :: tab)
def goT (sub : Str → Str → Bool) (ε : Exc) : List (Str × (Exc → Option D)) → Option D
  | [] => none
  | (x, h) :: r => match sub ε.cls x with
    | true => h ε
    | false => goT sub ε r
def hndT (LS : List Str) (sub : Str → Str → Bool) (tab : List (Str × (Exc → Option D))) (ε : Exc) : Option D := if LS.contains ε.cls then goT sub ε tab else none
def tryM {M : Type → Type} [SpecM M] {S T : Type} (mb : Res D) (hnd : Exc → Option D) (mr : M (Fl S T)) : M (Fl S T) := match mb with
  | .ok _ => mr
  | .exc ε => match hnd ε with
    | some d => SpecM.ret (.ok (.ret d))
    | none => SpecM.ret .bad
  | .bad => SpecM.ret .bad
theorem hj_alt {X : Cx} {hds : List ExceptHandler} {tab : List (Str × (Exc → Option D))} {sub : Str → Str → Bool} (hh : HJ X hds tab) : ∃ l, HdsA X hds l ∧ ∀ (Dn : Ends) (ε : Exc) (cls : Value) (dx : Option Addr) (σ : L2.St) (H : Hp) (O : Addr → Prop) (r : D),
    (∀ b ∈ tab.map (·.1), ∃ Cb, X.mg b = some (Value.ref Cb) ∧ PySem.W.exmOne X.K cls (.ref Cb) = some (sub ε.cls b)) → ExcRep X.K X.mg O ε cls dx H → goT sub ε tab = some r → (∀ v H', Ext0 H H' → Rep X.K X.mg O H' v r → Dn.rt v H') → wAlt X.K (fun _ _ _ _ => False) Dn l cls dx σ H := by
  induction hh with
  | nil => exact ⟨[], .nil, fun _ _ _ _ _ _ _ _ _ _ z => nomatch z⟩
  | @plain x e h np p pos hds tab C hm hg hd je r ih =>
    obtain ⟨l, q1, q2⟩ := ih
    refine ⟨(.ref C, none, fun a cls dx Dn σ H => ∀ (oe : Obj) (pn : List (Addr × Obj)), Zc cls dx oe → (∃ vs, oe.data = .fields vs) → wpE (X.suite a ((a, oe) :: pn)) e σ H fun v H' => Dn.rt v H') :: l,
      .plain ⟨hg, hd, .inl hm⟩ (fun a oe cls d pn hz hf => ⟨fun pins s σ H Dn I hq => (pss_one (ps_ret pe_sem)).run pins s σ H Dn I (hq oe pn hz hf)⟩) q1, ?_⟩
    intro Dn ε cls dx σ H O r hsub hx hr hq
    obtain ⟨Cb, g1, g2⟩ := hsub x (by simp)
    rw [hm] at g1
    cases g1
    refine ⟨sub ε.cls x, g2, fun hb a ha oe pn hz hf => ?_, fun hb => ?_⟩
    · simp only [goT, hb] at hr
      exact je a oe cls dx pn hz hf σ H _ ε O r (fun _ z => nomatch z) hx hr hq
    · simp only [goT, hb] at hr
      exact q2 Dn ε cls dx σ H O r (fun b hb' => hsub b (by simp at hb' ⊢; exact .inr hb')) hx hr hq
  | @named x n k e h np p pos hds tab C hm hg hd hi hln je r ih =>
    obtain ⟨l, q1, q2⟩ := ih
    refine ⟨(.ref C, some k, fun a cls dx Dn σ H => ∀ (oe : Obj) (pn : List (Addr × Obj)), Zc cls dx oe → (∃ vs, oe.data = .fields vs) → wpE (X.suite a ((a, oe) :: pn)) e σ H fun v H' => Dn.rt v H') :: l,
      .named ⟨hg, hd, .inl hm⟩ hi hln (fun a oe cls d pn hz hf => ⟨fun pins s σ H Dn I hq => (pss_one (ps_ret pe_sem)).run pins s σ H Dn I (hq oe pn hz hf)⟩) q1, ?_⟩
    intro Dn ε cls dx σ H O r hsub hx hr hq
    obtain ⟨Cb, g1, g2⟩ := hsub x (by simp)
    rw [hm] at g1
    cases g1
    refine ⟨sub ε.cls x, g2, fun hb a ha hk oe pn hz hf => ?_, fun hb => ?_⟩
    · simp only [goT, hb] at hr
      refine je a oe cls dx pn hz hf _ H _ ε O r (fun k' z => ?_) hx hr hq
      cases z
      rw [List.getElem?_set, if_pos rfl, if_pos hk]
    · simp only [goT, hb] at hr
      exact q2 Dn ε cls dx σ H O r (fun b hb' => hsub b (by simp at hb' ⊢; exact .inr hb')) hx hr hq
section
variable {M : Type → Type} [SpecM M] {S T : Type} {X : Cx} {W : WX} {Z : List Nat} {Γ : List Slot} {N : S → List Slot} {L : T → List Slot} {rest : List Stmt} {e : Expr} {mb : Res D} {mr : M (Fl S T)} {h₀ : ExceptHandler} {hds : List ExceptHandler} {tab : List (Str × (Exc → Option D))} {p pos : Pos}
theorem js_try (LS : List Str) (sub : Str → Str → Bool) (hs : X.stack = X.env :: X.outer) (hf : X.env.frame = some X.env.locals) (hN : X.N.Nodup)
    (hb : ∀ (W' : WX) (pn : List (Addr × Obj)) (xe : Value → Shared → Prop), Takes (X.tr pn xe) W' → JE (M := Res) (X.tr pn xe) W' e Γ mb)
    (hh : HJ X (h₀ :: hds) tab) (hsub : ∀ a ∈ LS, ∀ b ∈ tab.map (·.1), ∀ Ca, X.mg a = some (.ref Ca) → ∃ Cb, X.mg b = some (Value.ref Cb) ∧ PySem.W.exmOne X.K (.ref Ca) (.ref Cb) = some (sub a b))
    (hr : JS X W Z rest Γ mr N L) (hsw : swapsWith e none p.line X.env = pure false := by kernel_rfl) :
    JS X W Z (.Try [.Expr e p] (h₀ :: hds) [] [] pos :: rest) Γ (tryM mb (hndT LS sub tab) mr) N L := fun F H σ hz E Dn hq => by
  obtain ⟨l, hl, hw⟩ := hj_alt (sub := sub) hh
  refine PSs.wp (pss_cons (ps_try_alt hs hf hN takes_none5 (tb := fun W' D σ H => ∀ pn xe, Takes (X.tr pn xe) W' → wpSs (X.tr pn xe) [.Expr e p] D σ H) (fun W' pn xe tk _ => ⟨fun pins s σ' H' D I h => pss_sem.run pins s σ' H' D I (h pn xe tk)⟩) hl) pss_sem) ?_
  intro pn xe tk
  refine PSs.wp (pss_one (ps_expr (X := X.tr pn xe) pe_sem hsw)) ?_
  refine hb _ pn xe tk F H σ E _ ?_
  show Post _ _ _ _ _ _ _ _ _ mb
  cases mb with
  | ok d => exact fun v H1 e1 r1 => hr F H1 σ hz (E.mono e1) Dn hq
  | bad => exact (SpecM.post_ret hq).elim
  | exc ε =>
    intro cls dx H1 e1 r1
    have hq' : SpecM.post (match hndT LS sub tab ε with | some d => (SpecM.ret (.ok (.ret d)) : M (Fl S T)) | none => SpecM.ret .bad) (PostS X W F N L Dn) := hq
    cases hd : hndT LS sub tab ε with
    | none => rw [hd] at hq'; exact (SpecM.post_ret hq').elim
    | some d =>
      rw [hd] at hq'
      have g := SpecM.post_ret hq'
      unfold hndT at hd
      split at hd
      · rename_i hc
        have hmem : ε.cls ∈ LS := by simpa using hc
        refine hw _ ε cls dx σ H1 _ d (fun b hb' => ?_) r1 hd fun v H2 e2 r2 => ?_
        · obtain ⟨C, c1, c2, _⟩ := r1
          rw [c2]
          exact hsub _ hmem b hb' C c1
        · exact g v H2 (((E.mono e1).mono (e2.up : Ext F.Dc F.Dc H1 H2)).ext) (r2.anti fun a z => z.elim .inl fun z => .inr (.inl z))
      · cases hd
end
end DE

set_option maxHeartbeats 4000000
namespace DE
open PySem PySem.Spec PyProof.Rows L2
/-! the facts of classes with their own __init__, read off the top's heap -/
theorem store_KeyError : StoreFacts "KeyError" [.type "KeyError", .type "LookupError", .type "Exception", .type "BaseException", .type "object"] "object.__setattr__" "object" where
  mro := by kernel_rfl
  slot := .of (owner := "object") (n := "__setattr__") (by rw [typeLookup_type, builtinLookup_eq_fast]; kernel_rfl) (by decide +kernel) (by decide +kernel) (by decide +kernel)
    (by first | exact .inl (by decide +kernel) | exact .inr (by decide +kernel)) (by rw [isSubtype_type]; kernel_rfl)
  entry := PySem.F.store_IndexError.entry
  kind := by decide +kernel
  split := by decide +kernel
  hasOwner := by decide +kernel
  args := fun a b c => by unfold argsOk; kernel_rfl
  passes := fun self => by kernel_rfl
/-- what a base must say -/
structure BaseX (B n i : String) (bm : List Value) : Prop where
  fn : ∃ (Bn iN : String) (bmN : List Value), ExcBaseFacts Bn n iN bmN ∧ NewIn bm Bn
  fi : InitF B i
  sf : StoreFacts B bm "object.__setattr__" "object"
  kf : PySem.W.KxsFacts B i
theorem baseX_of {B n i : String} {bm : List Value} (F : ExcBaseFacts B n i bm) (sf : StoreFacts B bm "object.__setattr__" "object") (kf : PySem.W.KxsFacts B i) : BaseX B n i bm := ⟨⟨B, i, bm, F, ⟨F.hasB, F.noAttr, F.noName⟩⟩, initF_of F.toExcCallFacts, sf, kf⟩
theorem base_Value : BaseX "ValueError" "ValueError.__new__" "ValueError.__init__" [.type "ValueError", .type "Exception", .type "BaseException", .type "object"] := baseX_of PySem.F.excBase_ValueError PySem.F.store_ValueError PySem.W.kxs_ValueError
theorem base_Index : BaseX "IndexError" "IndexError.__new__" "IndexError.__init__" [.type "IndexError", .type "LookupError", .type "Exception", .type "BaseException", .type "object"] := baseX_of PySem.F.excBase_IndexError PySem.F.store_IndexError PySem.W.kxs_IndexError
theorem base_Overflow : BaseX "OverflowError" "OverflowError.__new__" "OverflowError.__init__" [.type "OverflowError", .type "ArithmeticError", .type "Exception", .type "BaseException", .type "object"] := baseX_of PySem.F.excBase_OverflowError PySem.F.store_OverflowError PySem.W.kxs_OverflowError
theorem base_Arith : BaseX "ArithmeticError" "ArithmeticError.__new__" "ArithmeticError.__init__" [.type "ArithmeticError", .type "Exception", .type "BaseException", .type "object"] := baseX_of PySem.F.excBase_ArithmeticError PySem.F.store_ArithmeticError PySem.W.kxs_ArithmeticError
theorem base_Runtime : BaseX "RuntimeError" "RuntimeError.__new__" "RuntimeError.__init__" [.type "RuntimeError", .type "Exception", .type "BaseException", .type "object"] := baseX_of PySem.F.excBase_RuntimeError PySem.F.store_RuntimeError PySem.W.kxs_RuntimeError
theorem base_Key : BaseX "KeyError" "LookupError.__new__" "KeyError.__init__" [.type "KeyError", .type "LookupError", .type "Exception", .type "BaseException", .type "object"] :=
  ⟨⟨"LookupError", _, _, PySem.F.excBase_LookupError, ⟨by decide +kernel, by decide +kernel, by decide +kernel⟩⟩, initF_Key, store_KeyError, ⟨by show builtinType _ = _; rw [builtinType_eq_fast]; kernel_rfl, by first | kernel_rfl | rfl⟩⟩
abbrev FnI : Type := Option (Str × Arguments × FuncBody × Scope × Addr × Addr)
def fIa (K : PySem.W.Frag) (x : Str) : Addr := match PySem.W.findIn K (.ref (He.ga K x)) "__init__" with
  | some (some (.ref a)) => a
  | _ => 0
def fnI (K : PySem.W.Frag) (x : Str) : FnI := match K.lookup (fIa K x) with
  | some ⟨_, _, .func fd, _⟩ => some (fd.name, fd.params, fd.body, fd.scope, fd.globals, fd.builtins)
  | _ => none
def valI (st : Stmt) : FnI := some ("__init__", defArgs st, .stmts (defBody st), defScope st, mainGlobals, builtinsNs)
def cellB (K : PySem.W.Frag) (C : Addr) : List (Str × Addr) → Bool
  | [(nm, cc)] => (nm == ("__class__" : Str)) && (match K.lookup cc with
    | some ⟨_, _, .cell (some (.ref C')), _⟩ => C' == C
    | _ => false)
  | _ => false
def codeFB (K : PySem.W.Frag) (file qual : Str) : Value → Bool
  | .ref cda => PySem.W.codeIn K (.ref cda) qual && (match K.lookup cda with
    | some ⟨_, _, .fields vs, _⟩ => (match (vs[2]? : Option Value) with
      | some (.str fl _) => file == fl
      | _ => false)
    | _ => false)
  | _ => false
def isNoneV : Value → Bool
  | .none => true
  | _ => false
def initB (K : PySem.W.Frag) (C fI : Addr) (file : Str) : Bool := match K.lookup fI with
  | some ⟨_, _, .func fd, _⟩ => isNoneV fd.defaults && (cellB K C fd.closure && codeFB K file fd.qualname fd.code)
  | _ => false
def ownB (K : PySem.W.Frag) (file x f : Str) (B n i : String) (bm : List Value) : Bool :=
  PySem.W.excInitIn K (He.ga K x) bm n && (PySem.W.excOver K (He.ga K x) bm && (decide (PySem.W.findIn K (.ref (He.ga K x)) "__init__" = some (some (.ref (fIa K x)))) && (PySem.W.isFn K (.ref (fIa K x)) && (PySem.W.hasDictIn K (He.ga K x) &&
  (decide (PySem.W.findIn K (.ref (He.ga K x)) "__setattr__" = some (some (.builtin "object.__setattr__"))) && (decide (PySem.W.takerIn K (He.ga K x) f = some none) && (decide (PySem.W.nsIn K cStatics "thirdparty.any" = some none) &&
  (decide (PySem.W.ks_superIn K (He.ga K x) (He.ga K x) "__init__" = some (some (.builtin i))) && (decide (PySem.W.subIn K (.ref (He.ga K x)) (.type B) = some true) && (decide (PySem.W.mroIn K (He.ga K x) (.ref (He.ga K x)) = some true) && ((PySem.W.clsIn K (He.ga K x)).isSome &&
  (PySem.W.keepIn K (.ref (He.ga K x)) && (decide (PySem.W.typeIn K (.ref (He.ga K x)) = some (.type "type")) && (decide (PySem.W.typeIn K (.ref (fIa K x)) = some (.type "function")) && (decide (PySem.W.subIn K (.ref (He.ga K x)) (.type "BaseException") = some true) && initB K (He.ga K x) (fIa K x) file)))))))))))))))
/-- what the text of __init__ says, whatever the heap -/
structure InitS (st : Stmt) (f y : Str) : Prop where
  ex : ∃ (msg : Str) (j : Nat) (p0 p1 p2 p3 p4 p5 p6 p7 p8 p9 : Pos),
    defBody st = [.Expr (.Call (.Attribute (.Call (.Name "super" p0) [] [] p1) "__init__" p2) [.Constant (.str msg) j p3] [] p4) p5, .Assign [.Attribute (.Name "self" p6) f p7] (.Name y p8) p9] ∧
    (∀ (qual : Str) (kV doc pm ct cdv : Value) (an : Option Addr) (cc : Addr) (x : Addr) (v : Value), bindArgs (PySem.W.ksFn "__init__" qual (defArgs st) (defBody st) (defScope st) .none kV doc pm an cdv ct cc) ⟨[.ref x, v], []⟩ = pure [(("self" : Str), .ref x), (y, v)]) ∧
    (∃ (ar : Arg), ((defArgs st).posonlyargs ++ (defArgs st).args).head? = some ar ∧ ar.arg = "self") ∧
    (defScope st).names.lookup ("super" : Str) = some .globalImplicit ∧ (defScope st).names.lookup ("__class__" : Str) = some .free ∧ (defScope st).names.lookup ("self" : Str) = some .local ∧ (defScope st).names.lookup y = some .local ∧
    (∀ z ∈ (defScope st).names, z.2 ≠ .cell) ∧ (defScope st).isCoroutine = false ∧ (defScope st).isGenerator = false ∧ (defScope st).kind = .function ∧
    ∃ pl : Sem Bool, ∀ env : PySem.Env, eval (.Call (.Attribute (.Call (.Name "super" p0) [] [] p1) "__init__" p2) [.Constant (.str msg) j p3] [] p4) env = (do
        let ov ← attributeBase (.Call (.Name "super" p0) [] [] p1) "__init__" env (eval (.Call (.Name "super" p0) [] [] p1) env)
        standAt p2.atName
        let (f, first) ← holding [ov] (getMethod ov "__init__" pl)
        callWith p4 f first (backTo p4 (starEach [.Constant (.str msg) j p3] env)) [])
  yn : (("self" : Str) == y) = false ∧ (y == ("__debug__" : Str)) = false
theorem own_of {K : PySem.W.Frag} {P : Program} {file x f y : Str} {B n i : String} {bm : List Value} {st : Stmt} (hfile : P.main.file = file) (Bx : BaseX B n i bm) (S : InitS st f y) (hI : fnI K x = valI st) (hb : ownB K file x f B n i bm = true) :
    OwnX K P (He.ga K x) (fIa K x) B n i bm f y ∧ PySem.W.keepIn K (.ref (He.ga K x)) = true ∧ PySem.W.typeIn K (.ref (He.ga K x)) = some (.type "type") ∧ PySem.W.typeIn K (.ref (fIa K x)) = some (.type "function") ∧ PySem.W.subIn K (.ref (He.ga K x)) (.type "BaseException") = some true := by
  unfold ownB at hb
  simp only [Bool.and_eq_true, decide_eq_true_eq] at hb
  obtain ⟨b1, b2, b3, b4, b5, b6, b7, b8, b9, b10, b11, b12, b13, b14, b15, b16, b17⟩ := hb
  obtain ⟨msg, j, p0, p1, p2, p3, p4, p5, p6, p7, p8, p9, s1, s2, s3, s4, s5, s6, s7, s8, s9, s10, s11, s12⟩ := S.ex
  refine ⟨⟨Bx.fn, Bx.fi, Bx.sf, Bx.kf, b1, b2, b3, b4, b5, b6, b7, b8, b9, b10, b11, Option.isSome_iff_exists.mp b12, S.yn, ⟨?_⟩⟩, b13, b14, b15, b16⟩
  unfold initB at b17
  unfold fnI at hI
  cases q : K.lookup (fIa K x) with
  | none => rw [q] at hI; cases hI
  | some o =>
    obtain ⟨oc, od, dt, osl⟩ := o
    rw [q] at hI b17
    cases dt with
    | func fd =>
      obtain ⟨n1, n2, n3, n4, n5, n6, n7, n8, n9, n10, n11, n12, n13, n14, n15⟩ := fd
      have e2 : (some (n1, n3, n4, n5, n6, n15) : FnI) = some (("__init__" : Str), defArgs st, FuncBody.stmts (defBody st), defScope st, mainGlobals, builtinsNs) := hI
      simp only [Option.some.injEq, Prod.mk.injEq] at e2
      obtain ⟨h1, h2, h3, h4, h5, h6⟩ := e2
      subst h1 h2 h3 h4 h5 h6
      have c3 : (isNoneV n8 && (cellB K (He.ga K x) n7 && codeFB K file n2 n13)) = true := b17
      simp only [Bool.and_eq_true] at c3
      obtain ⟨k1, k2, k3⟩ := c3
      have e8 : n8 = .none := by
        cases n8 <;> first | rfl | cases k1
      subst e8
      unfold cellB at k2
      split at k2
      · rename_i nm cc
        simp only [Bool.and_eq_true] at k2
        obtain ⟨m1, m2⟩ := k2
        have em : nm = "__class__" := by simpa using m1
        subst em
        split at m2
        · rename_i cl cld C' csl hcc
          have eC : C' = He.ga K x := by simpa using m2
          subst eC
          unfold codeFB at k3
          split at k3
          · rename_i cda
            simp only [Bool.and_eq_true] at k3
            obtain ⟨c1, c2⟩ := k3
            split at c2
            · rename_i ccl cdd vs ccs hcd
              split at c2
              · rename_i fl tf hv
                have ef : (file == fl) = true := c2
                exact ⟨n2, msg, fl, st, cda, cc, oc, ccl, cl, od, cdd, cld, n12, osl, ccs, csl, n9, n10, n11, n14, vs, tf, j, p0, p1, p2, p3, p4, p5, p6, p7, p8, p9, rfl, c1, hcd, hv, hfile ▸ ef, hcc, s1, fun x v => s2 _ _ _ _ _ _ _ _ x v, s3, s4, s5, s6, s7, s8, s9, s10, s11, s12⟩
              · cases c2
            · cases c2
          · cases k3
        · cases m2
      · cases k2
    | _ => cases hI
theorem xv_of {K : PySem.W.Frag} {P : Program} {h : Heap} {mg : Str → Option Value} {fa : List He.Fa} {fn : List He.DefD} (X : K.In h) (G : h.Ns mainGlobals mg) (c : He.SaysD fa fn K) {file x f y : Str} {B n i : String} {bm : List Value} {st : Stmt} (hfile : P.main.file = file) (Bx : BaseX B n i bm) (S : InitS st f y) (hI : fnI K x = valI st) (hb : ownB K file x f B n i bm = true)
    (hsup : mg "super" = none) (htop : (P.main.scope.names.lookup ("super" : Str)).isSome = false) (j : Nat) (hj : fa[j]? = some (.glo x) := by kernel_rfl) : XV K P mg x f := by
  obtain ⟨h1, h2, h3, h4, h5⟩ := own_of hfile Bx S hI hb
  exact ⟨⟨_, _, _, _, _, _, _, He.glo_ok X G (c.fact j hj), h1, h2, h3, h4, h5⟩, hsup, htop⟩
end DE

set_option maxHeartbeats 4000000
namespace DE
open PySem PySem.Spec PyProof.Rows L2
section
variable {K : PySem.W.Frag} {h : Heap} {mg : Str → Option Value}
/-! which clause takes which class -/
def gloB (K : PySem.W.Frag) (a : Str) : Bool := (He.Fa.glo a).ok K
def subsB (LS LC : List Str) (sub : Str → Str → Bool) (K : PySem.W.Frag) : Bool := LS.all fun a => gloB K a && LC.all fun b => gloB K b && decide (PySem.W.exmOne K (.ref (He.ga K a)) (.ref (He.ga K b)) = some (sub a b))
theorem subs_ok (X : K.In h) (G : h.Ns mainGlobals mg) {LS LC : List Str} {sub : Str → Str → Bool} (hb : subsB LS LC sub K = true) : ∀ a ∈ LS, ∀ b ∈ LC, ∀ Ca, mg a = some (Value.ref Ca) → ∃ Cb, mg b = some (Value.ref Cb) ∧ PySem.W.exmOne K (.ref Ca) (.ref Cb) = some (sub a b) := fun a ha b hb' Ca hm => by
  have h1 := List.all_eq_true.mp hb a ha
  rw [Bool.and_eq_true] at h1
  have h2 := List.all_eq_true.mp h1.2 b hb'
  rw [Bool.and_eq_true, decide_eq_true_eq] at h2
  have e := (He.glo_ok X G h1.1).symm.trans hm
  cases e
  exact ⟨_, He.glo_ok X G h2.1, h2.2⟩
/-! fields of caught errors -/
def fldsB (L : List Str) (f : Str) (K : PySem.W.Frag) : Bool := L.all fun x => gloB K x && (xfB K (He.ga K x) && decide (PySem.W.findIn K (.ref (He.ga K x)) f = some none))
theorem flds_ok (X : K.In h) (G : h.Ns mainGlobals mg) {L : List Str} {f : Str} (hb : fldsB L f K = true) : ∀ x ∈ L, ∀ C, mg x = some (Value.ref C) → XfC K C ∧ PySem.W.findIn K (.ref C) f = some none := fun x hx C hm => by
  have h1 := List.all_eq_true.mp hb x hx
  rw [Bool.and_eq_true, Bool.and_eq_true, decide_eq_true_eq] at h1
  have e := (He.glo_ok X G h1.1).symm.trans hm
  cases e
  exact ⟨xfB_ok h1.2.1, h1.2.2⟩
/-! isinstance of caught errors -/
def excKB (K : PySem.W.Frag) (C : Addr) : Bool := (PySem.W.clsIn K C).isSome && (decide (PySem.W.findIn K (.ref C) "__getattribute__" = some (some (.builtin "BaseException.__getattribute__"))) && (decide (PySem.W.findIn K (.ref C) "__getattr__" = some none) && (decide (PySem.W.subIn K (.ref C) (.type "BaseException") = some true) &&
  (decide (PySem.W.findIn K (.ref C) "__class__" = some (some (.builtin "object.__class__"))) && (decide (PySem.W.specialIn K (.builtin "object.__class__") "__get__" = some (some (.builtin "getset_descriptor.__get__"))) && (decide (PySem.W.takesIn K (.builtin "object.__class__") = some true) && decide (PySem.W.mroIn K C (.type "object") = some true)))))))
theorem excKB_ok {C : Addr} (hb : excKB K C = true) : ExcK K C := by
  unfold excKB at hb
  simp only [Bool.and_eq_true, decide_eq_true_eq] at hb
  obtain ⟨b1, b2, b3, b4, b5, b6, b7, b8⟩ := hb
  exact ⟨b1, b2, b3, b4, b5, b6, b7, b8⟩
def isisB (tab : List (Str × Bool)) (T : String) (K : PySem.W.Frag) : Bool := tab.all fun p => gloB K p.1 && (excKB K (He.ga K p.1) && decide (PySem.W.kitOne K (.ref (He.ga K p.1)) (.type T) = some p.2))
theorem isis_ok (X : K.In h) (G : h.Ns mainGlobals mg) {tab : List (Str × Bool)} {T : String} (hb : isisB tab T K = true) : ∀ x b, tab.lookup x = some b → ∀ C, mg x = some (Value.ref C) → ExcK K C ∧ PySem.W.kitOne K (.ref C) (.type T) = some b := fun x b hl C hm => by
  have h1 := List.all_eq_true.mp hb (x, b) (PySem.mem_of_lookup hl)
  simp only [Bool.and_eq_true, decide_eq_true_eq] at h1
  have e := (He.glo_ok X G h1.1).symm.trans hm
  cases e
  exact ⟨excKB_ok h1.2.1, h1.2.2⟩
end
/-! the hook that reads __init__s too -/
def obsZ (n : Nat) (fa : List He.Fa) (fn : List He.DefD) (ck : PySem.W.Frag → Bool) (tb : List Str) (is : List (Str × Stmt)) (g : Addr → Option Obj) : (He.AlD × Bool) × List FnI := (obsY n fa fn ck tb g, is.map fun p => fnI (KY n g) p.1)
structure SaysZ (h : Heap) (K : PySem.W.Frag) (fa : List He.Fa) (fn : List He.DefD) (ck : PySem.W.Frag → Bool) (tb : List Str) (is : List (Str × Stmt)) : Prop where
  y : SaysY h K fa fn ck tb
  i : is.map (fun p => fnI K p.1) = is.map fun p => valI p.2
theorem SaysZ.at {h : Heap} {K : PySem.W.Frag} {fa : List He.Fa} {fn : List He.DefD} {ck : PySem.W.Frag → Bool} {tb : List Str} {is : List (Str × Stmt)} (S : SaysZ h K fa fn ck tb is) {x : Str} {st : Stmt} (i : Nat) (hi : is[i]? = some (x, st) := by kernel_rfl) : fnI K x = valI st := by
  have e := congrArg (fun l : List FnI => l[i]?) S.i
  simp only [List.getElem?_map, hi, Option.map_some] at e
  exact Option.some.inj e
def hookZ (n : Nat) (fa : List He.Fa) (fn : List He.DefD) (ck : PySem.W.Frag → Bool) (tb : List Str) (is : List (Str × Stmt)) : PySem.W.Hook where
  α := (He.AlD × Bool) × List FnI
  obs := fun s => obsZ n fa fn ck tb is s.heap.get?
  val := fun _ => ((He.valD fn, true), is.map fun p => valI p.2)
  says := fun _ h => ∃ K : PySem.W.Frag, K.In h ∧ SaysZ h K fa fn ck tb is
  of := fun _ _ e => by
    have e0 := congrArg (fun z : (He.AlD × Bool) × List FnI => z.1) e
    have e3 := congrArg (fun z : (He.AlD × Bool) × List FnI => z.2) e
    have e1 := congrArg (fun z : He.AlD × Bool => z.1) e0
    have e2 : (ck _ && tbB _ _ tb) = true := congrArg (fun z : He.AlD × Bool => z.2) e0
    rw [Bool.and_eq_true] at e2
    exact ⟨_, kY_in, ⟨e1, e2.1, tbB_ok e2.2⟩, e3⟩
  keeps := fun _ _ _ ⟨K, hK, c⟩ k => ⟨K, PySem.W.Frag.In.keeps hK k, ⟨c.y.d, c.y.c, c.y.t.nd, fun x hx => let ⟨a1, a2, a3, a4⟩ := c.y.t.all x hx; ⟨a1, k _ _ a2, CodeHd.up a3 k, a4⟩⟩, c.i⟩
theorem obsZ_eq {n : Nat} {fa : List He.Fa} {fn : List He.DefD} {ck : PySem.W.Frag → Bool} {tb : List Str} {is : List (Str × Stmt)} {g : Addr → Option Obj} {s : Shared} (h : ∀ a, g a = s.heap.get? a) : obsZ n fa fn ck tb is g = (hookZ n fa fn ck tb is).obs s := by
  have e : g = s.heap.get? := funext h
  rw [e] <;> rfl
end DE

set_option maxHeartbeats 4000000
namespace DE
open PySem PySem.Spec PyProof.Rows L2
variable [τ : TabCtx]
section
variable {X : Cx} {i j : Int} {c1 c2 : Nat} {p1 p2 p3 pos : Pos} {x1 : Nat}
theorem pe_d1 (hu : X.A.units + 1 < cLine) : PE X (.Dict [some (.Tuple [.Constant (.int i) c1 p1] x1 p2)] [.Constant (.int j) c2 p3] pos)
    (fun σ H Q => ∀ a b, H a = none → (upd H a (.dT [])) b = none → Q (.ref a) (upd (upd (upd H a (.dT [])) b (.tup [.int i])) a (.dT [([.inl i], .int j)]))) := by
  refine ⟨fun pins s σ H Q I q => ?_⟩
  have hn := I.hok.fresh (Nat.le_refl s.heap.objs.size)
  have I1 := I.laid (a := s.heap.objs.size) (o := .dT []) (h' := s.heap.push { cls := .type "dict", data := .dict #[] }) (t' := s.toks) (fun _ _ q => Heap.get?_push_of_some _ q) (Nat.le_refl _) (dt_empty s.heap I.big)
  refine wpAny_Dict_any rfl rfl (by simp) (by simp) (thn ((pps_cons (pe_tup (pa_cons pe_int pa_nil rfl)) pe_int pps_nil).run pins _ σ _ (fun ps H2 => ∃ b, (upd H s.heap.objs.size (.dT [])) b = none ∧ ps = [(.ref b, .int j)] ∧ H2 = upd (upd H s.heap.objs.size (.dT [])) b (.tup [.int i])) I1 ?_) fun ws s2 ⟨ps, H2, I2, rel, b, hb, e1, e2⟩ => ?_)
  · refine ⟨by rw [sizeLine_eq]; simp, fun b hb => ⟨b, hb, rfl, rfl⟩⟩
  · subst e1 e2
    cases rel with
    | @cons _ wv _ _ r1 r2 =>
      cases r2
      obtain ⟨u, r⟩ := wv
      obtain ⟨ru, rr⟩ := r1
      dsimp only at ru rr
      obtain rfl : u = Value.ref b := ru
      have ne : s.heap.objs.size ≠ b := fun z => by rw [← z, upd_same] at hb; cases hb
      have hD : (upd (upd H s.heap.objs.size (.dT [])) b (.tup [.int i])) s.heap.objs.size = some (.dT []) := by rw [upd_ne ne, upd_same]
      have eb : (upd (upd H s.heap.objs.size (.dT [])) b (.tup [.int i])) b = some (.tup ([(.inl i : Key)].map kV)) := upd_same
      obtain ⟨z, hd, xs, rel, dd⟩ := dt_of I2.hok hD
      have hz : xs.length ≤ sizeLine := by rw [← Paired.length rel]; exact z
      show wpAny _ _ (storeAll s.heap.objs.size [(.ref b, r)]) _ _ _
      unfold storeAll
      rw [List.forIn_cons]
      refine wpAny_bind (wpAny_bind (wpAny_dictSet_heap (hsz := hz) (show X.A.units < cLine by omega) (key_of I2.hok eb) dd fun h' dd' hs => wpAny_pure ?_))
      show wpAny _ _ (forIn [] PUnit.unit _) _ _ _
      rw [List.forIn_nil]
      refine wpAny_pure ⟨.ref s.heap.objs.size, _, ?_, rfl, q _ b hn hb⟩
      obtain ⟨q1, es, ep, hq1, h2, h3, h4, _, h5⟩ := dd'
      refine d_write I2 (by rw [hD]; exact True.intro) hs ⟨q1, hq1⟩ ⟨by rw [sizeLine_eq]; simp, hd, _, (rel.put (kvs := []) (.inl i :: []) eb rr).keeps fun c ys ec => ?_, q1, es, ep, hq1, h2, h3, h4, h5⟩
      rw [upd_ne (ne_of ec hD (fun z => nomatch z))]
      exact ec
end
section
variable {M : Type → Type} [SpecM M] {X : Cx} {W : WX} {Γ : List Slot} {i j : Int} {c1 c2 k : Nat} {p1 p2 p3 pos : Pos} {x1 : Nat}
theorem je_d1 (hR : Room k X.A) : JE X W (.Dict [some (.Tuple [.Constant (.int i) c1 p1] x1 p2)] [.Constant (.int j) c2 p3] pos) Γ (ok (M := M) (.dict [(.tuple [.int i], .int j)])) := fun F H σ E Q hq => PE.wp (pe_d1 (by have := hR.un; omega)) fun a b ha hb => by
  have e1 : Ext F.Dc F.Dc H (upd H a (.dT [])) := .new ha
  have ne : a ≠ b := fun z => by rw [← z, upd_same] at hb; cases hb
  have hb0 : H b = none := by rw [upd_ne (Ne.symm ne)] at hb; exact hb
  have e : Ext F.Dc F.Dc H (upd (upd (upd H a (.dT [])) b (.tup [.int i])) a (.dT [([.inl i], .int j)])) := .same fun c o h => by
    have h1 : c ≠ a := fun z => by rw [z, ha] at h; cases h
    have h2 : c ≠ b := fun z => by rw [z, hb0] at h; cases h
    rw [upd_ne h1, upd_ne h2, upd_ne h1]
    exact h
  exact post_ok hq (.ref a) _ e (.dic (.inr (.inr (.inr ⟨i, j, a, rfl, rfl, upd_same, E.fresh ha⟩))))
end
end DE
namespace DE
open PySem PySem.Spec PyProof.Rows L2
theorem funC_of_fun {K : PySem.W.Frag} {x q : Str} {st : Stmt} {f : Addr} {fd : FuncData} (F : Fun K x q st f fd) : ∃ cdv, FunC K x q st f fd cdv := by
  obtain ⟨oc, od, kV, doc, pm, an, cdv, ct, osl, e, lk, hcd⟩ := F.ex
  exact ⟨cdv, oc, od, kV, doc, pm, an, ct, osl, e, lk, hcd⟩
def initAt (st : Stmt) (j : Nat) : Stmt := match st with
  | .ClassDef _ _ _ body _ _ _ _ _ _ _ => body.getD j (.Pass ⟨0, 0, 0, 0⟩)
  | _ => .Pass ⟨0, 0, 0, 0⟩
theorem ck_at {cks : List (PySem.W.Frag → Bool)} {K : PySem.W.Frag} (h : (cks.all fun c => c K) = true) (i : Nat) {c : PySem.W.Frag → Bool} (hi : cks[i]? = some c := by rfl) : c K = true := List.all_eq_true.mp h c (List.mem_of_getElem? hi)
end DE

set_option maxHeartbeats 4000000
namespace DE
open PySem PySem.Spec PyProof.Rows L2 LamX
variable [τ : TabCtx]
/-! a def that calls what it got and tells the error's word, with what the error keeps -/
def wordsA (hnd : Exc → Option D) (fin : Str) : Res D → Res D
  | .ok _ => .ok (.str fin)
  | .exc ε => match hnd ε with
    | some d => .ok d
    | none => .bad
  | .bad => .bad
def wWA (K : PySem.W.Frag) (mg : Str → Option Value) (hnd : Exc → Option D) (Q : VK) : XK := fun cls dx H => ∃ (ε : Exc) (O : Addr → Prop) (r : D), ExcRep K mg O ε cls dx H ∧ hnd ε = some r ∧ ∀ v H', Ext0 H H' → Rep K mg O H' v r → Q v H'
def TWordsA (K : PySem.W.Frag) (mg : Str → Option Value) (hnd : Exc → Option D) (fin : Str) : (XK → Hp → VK → Prop) → Hp → VK → Prop := fun tl H Q => tl (wWA K mg hnd Q) H fun _ H' => Q (.str fin) H'
abbrev wcx (P : Program) (w : World) (K : PySem.W.Frag) (mg : Str → Option Value) (base : Heap) (Ng : List Str) (x : Str) (sg : Scope) (g : Addr) (cdg : Value) (A : Around) (stack : List PySem.Env) (s : Shared) (H : Hp) : Cx := (cxOf C8.CX0 P w K mg base Ng x sg g cdg A stack s H C8.E0).nox
theorem words_givesA {X : Cx} {Ng : List Str} {x a q fin : Str} {sg : Scope} {g : Addr} {cdg : Value} {j : Nat} {p1 p2 p3 p8 p9 p10 : Pos} {h0 : ExceptHandler} {hds : List ExceptHandler} {tab : List (Str × (Exc → Option D))} {LS : List Str} {sub : Str → Str → Bool} (hN : Ng.Nodup)
    (ht : ∀ (s : Shared) (H : Hp), HJ (wcx X.prog X.w X.K X.mg X.base Ng x sg g cdg X.A X.stack s H) (h0 :: hds) tab) (hsub : ∀ a ∈ LS, ∀ b ∈ tab.map (·.1), ∀ Ca, X.mg a = some (.ref Ca) → ∃ Cb, X.mg b = some (Value.ref Cb) ∧ PySem.W.exmOne X.K (.ref Ca) (.ref Cb) = some (sub a b))
    (hn : ∀ f : Addr, (L2.start Ng [V.ref f])[0]? = some (some (V.ref f))) (hsw : ∀ e : PySem.Env, swapsWith (.Call (.Name a p1) [] [] p2) none p3.line e = pure false) :
    GivesTo X Ng x sg g cdg [.Try [.Expr (.Call (.Name a p1) [] [] p2) p3] (h0 :: hds) [] [] p8, .Return (some (.Constant (.str fin) j p9)) p10] a q (TWordsA X.K X.mg (hndT LS sub tab) fin) := by
  intro f c' s H Q tl act hc h
  obtain ⟨l, hl, hw⟩ := hj_alt (sub := sub) (ht s H)
  refine ⟨_, pss_cons (ps_try_alt (X := (cxOf C8.CX0 X.prog X.w X.K X.mg X.base Ng x sg g cdg X.A X.stack s H C8.E0).nox) (Wout := fun _ _ _ _ => False)
    (tb := fun W D σ H => ∃ Ec : XK, (∀ cls d σ' H', Ec cls d H' → W cls d σ' H') ∧ σ[0]? = some (some (.ref f)) ∧ H c' = some (CodeO c' q) ∧ tl Ec H fun _ H' => D.nx σ H') rfl rfl hN L2.takes0 (fun W pn xe tk _ => ⟨fun pins s' σ H' D I h' => ?_⟩) hl) (pss_one (ps_ret pe_str)), ?_⟩
  · obtain ⟨Ec, hW, k1, k2, k3⟩ := h'
    exact (pss_one (ps_expr (act W pn xe Ec p1 p2 tk hW) (hsw _))).run pins s' σ H' D I ⟨k1, k2, k3⟩
  · refine ⟨wWA X.K X.mg (hndT LS sub tab) Q, fun cls d σ' H' z => ?_, hn f, hc, h⟩
    obtain ⟨ε, O, r, hx, hnd, hq⟩ := z
    unfold hndT at hnd
    split at hnd
    · rename_i hcn
      have hmem : ε.cls ∈ LS := by simpa using hcn
      refine hw _ ε cls d σ' H' O r (fun b hb' => ?_) hx hnd hq
      obtain ⟨C, c1, c2, _⟩ := hx
      rw [c2]
      exact hsub _ hmem b hb' C c1
    · cases hnd
structure WordA (K : PySem.W.Frag) (mg : Str → Option Value) (x a : Str) (st : Stmt) (Ng : List Str) (LS : List Str) (sub : Str → Str → Bool) (tab : List (Str × (Exc → Option D))) (fin : Str) : Prop where
  ex : ∃ (g : Addr) (fd : FuncData), mg x = some (.ref g) ∧ PySem.W.keepIn K (.ref g) = true ∧ Fun K x x st g fd ∧ Binds K fd [a] []
  sc : FnScope Ng [a] (defScope st)
  vis : Vis (defScope st) a
  hN : Ng[0]? = some a
  form : ∃ (p1 p2 p3 p8 p9 p10 : Pos) (h0 : ExceptHandler) (hds : List ExceptHandler) (j : Nat), defBody st = [.Try [.Expr (.Call (.Name a p1) [] [] p2) p3] (h0 :: hds) [] [] p8, .Return (some (.Constant (.str fin) j p9)) p10] ∧
    (∀ (P : Program) (w : World) (base : Heap) (g : Addr) (cdg : Value) (A : Around) (stack : List PySem.Env) (s : Shared) (H : Hp), Room 1 A → A.guards = some [] → HJ (wcx P w K mg base Ng x (defScope st) g cdg A stack s H) (h0 :: hds) tab) ∧ ∀ e : PySem.Env, swapsWith (.Call (.Name a p1) [] [] p2) none p3.line e = pure false
  cls : ∀ a ∈ LS, ∀ b ∈ tab.map (·.1), ∀ Ca, mg a = some (Value.ref Ca) → ∃ Cb, mg b = some (Value.ref Cb) ∧ PySem.W.exmOne K (.ref Ca) (.ref Cb) = some (sub a b)
  dbg : (a == ("__debug__" : Str)) = false ∧ (a == ("__classdict__" : Str)) = false
section
variable {M : Type → Type} [SpecM M] {X : Cx} {W : WX} {Γ : List Slot} {x a : Str} {st : Stmt} {Ng : List Str} {LS : List Str} {sub : Str → Str → Bool} {tab : List (Str × (Exc → Option D))} {fin : Str} {c P : Addr} {k : Nat} {params : Arguments} {body : Expr} {scope : Scope} {p lpos pos : Pos} {mb : Res D}
theorem je_lamA (Fw : WordA X.K X.mg x a st Ng LS sub tab fin) (hgu : X.A.guards = some []) (tb : TabB X.base X.mg c P) (cd : X.env.code = .ref c) (hI : τ.T P (lamQ X)) (hR : Room (k + 2) X.A) (hb : ∀ (E : XK) (A : Around) (outer : List PySem.Env) (s : Shared) (H : Hp) (f c' : Addr), Room k (A.deeper (lamEnv X scope s.heap.objs.size f c')) → JE (M := Res) (lamCx X A outer s H E scope f c') (Wd E) body Γ mb)
    (hn : ∀ f : Addr, (L2.start Ng [V.ref f])[0]? = some (some (V.ref f)) := by intro _; rfl) (hL : lamSB X.env.scope scope = true := by kernel_rfl) (hdef : defaultsOf params X.env = ([], []) := by kernel_rfl)
    (hbind : ∀ (q : Str) (cl : List (Str × Addr)) (pm cv ctv : Value), bindArgs (PySem.W.kla_fn "<lambda>" q params body scope cl pm cv ctv) ⟨[], []⟩ = pure [] := by intros; rfl) (hg : Gl X x := by (show _ = _); kernel_rfl) (hdb : (x == ("__debug__" : Str)) = false := by kernel_rfl) :
    JE X W (.Call (.Name x p) [.Lambda params body scope lpos] [] pos) Γ (SpecM.ret (M := M) (wordsA (hndT LS sub tab) fin mb)) := fun F H σ E Q hq => by
  obtain ⟨g, fd, hm, hk, Fn, bi⟩ := Fw.ex
  obtain ⟨p1, p2, p3, p8, p9, p10, h0, hds, j, hform, hT, hsw⟩ := Fw.form
  obtain ⟨oc, od, kV, doc, pm, an, cdv, ct, osl, rfl, lk, hcd⟩ := Fn.ex
  have h2 := SpecM.post_ret hq
  have L := lamS_by hL
  refine wpE.mk ?_
  intro pins s I
  refine wpAny_Call_Name_kw (ld_glob I hg hm (PySem.W.callWith_K (h₀ := X.base) I.ok.mod.kin hk ?_ (by rfl) (by rfl)) hdb)
  show wpAny _ _ (spliced ((false, eval (.Lambda params body scope lpos) X.env) :: backTo pos (starEach [] X.env))) _ _ s
  refine Calls.spliced_cons (lam_new I tb cd (E.tbs P _ hI) hdef (L.has I.ok) fun f c' pm' ctv H1 s1 I1 ot T1 hf hfn hfr hco => Calls.spliced_nil ⟨I1.kIn, ?_⟩)
  have e1 : Ext F.Dc F.Dc H H1 := Ext.tab1 hI (E.tbs P _ hI) ot T1
  have E1 := E.mono e1
  have told : TWordsA X.K X.mg (hndT LS sub tab) fin (fun E2 H2 Q2 => ∀ (A : Around) (outer : List PySem.Env) (s0 : Shared) (H0 : Hp) (f c' : Addr), Room k (A.deeper (lamEnv X scope s0.heap.objs.size f c')) → wpE (lamCx X A outer s0 H0 E2 scope f c') body σ H2 Q2) H1 Q := by
    intro A outer s0 H0 f c' hr2
    refine hb _ A outer s0 H0 f c' hr2 F H1 σ E1 _ ?_
    cases hmb : mb with
    | bad => rw [hmb] at h2; exact h2
    | ok d => rw [hmb] at h2; exact fun v H2 e2 r2 => h2 (.str fin) H2 (e1.trans e2) (.str fin)
    | exc ε =>
      rw [hmb] at h2
      intro cls dx H2 e2 r2
      unfold wordsA at h2
      cases hl : hndT LS sub tab ε with
      | none => simp only [hl] at h2; exact h2.elim
      | some w =>
        simp only [hl] at h2
        exact ⟨ε, _, w, r2, hl, fun v H3 e3 r3 => h2 v H3 ((e1.trans e2).trans e3.up) r3⟩
  have run : codeAny (model X.prog X.w) X.A (.call (.ref g) ⟨[.ref f], []⟩) (CR C8.CX0 X.stack X.prog X.w H1 s1 Q C8.E0) s1 := by
    refine run_ofS (N := Ng) (ps := [a]) (us := [.ref f]) (vs := [.ref f]) lk hcd Fw.sc hR I1.env0 (bi s1 [.ref f] I1.kIn rfl) (.cons rfl .nil) rfl fun hr1 => ?_
    rw [hform]
    obtain ⟨t, ht, hq1⟩ := words_givesA (X := X) (Ng := Ng) (x := x) (g := g) (cdg := cdv) (q := lamQ X) (sub := sub) (LS := LS) Fw.sc.nd (fun s H => hT X.prog X.w X.base g cdv X.A X.stack s H (hR.mono (by omega)) hgu) Fw.cls hn hsw f c' s1 H1 Q
      (fun E2 H2 Q2 => ∀ (A : Around) (outer : List PySem.Env) (s0 : Shared) (H0 : Hp) (f c' : Addr), Room k (A.deeper (lamEnv X scope s0.heap.objs.size f c')) → wpE (lamCx X A outer s0 H0 E2 scope f c') body σ H2 Q2)
      (fun W2 pn xe E2 q1 q2 tk hW => pe_act (i := 0) (tb := fun σ2 H2 Q2 => ∀ (A : Around) (outer : List PySem.Env) (s0 : Shared) (H0 : Hp) (f c' : Addr), Room k (A.deeper (lamEnv X scope s0.heap.objs.size f c')) → wpE (lamCx X A outer s0 H0 E2 scope f c') body σ2 H2 Q2) I1 L hf hfn hfr (hbind _ _ _ _ _) tk hW hr1
        (fun A outer s0 H0 hr2 => ⟨fun pins s' σ' H' Q' I' h => (h A outer s0 H0 f c' hr2).run pins s' I'⟩) Fw.hN Fw.vis Fw.dbg.1 Fw.dbg.2) hco told
    exact ⟨t, ht.nox, hq1⟩
  refine wpAny_call (codeAny_mono run fun r s2 hz => ?_)
  match r, hz with
  | .ok (.ret u), hz => exact I1.after hz
  | .ok .next, hz => exact False.elim hz
  | .ok .brk, hz => exact False.elim hz
  | .ok .cont, hz => exact False.elim hz
  | .error e, hz => exact (show False from hz).elim
end
end DE
namespace DE
open PySem PySem.Spec PyProof.Rows L2
variable [τ : TabCtx]
section
variable {M : Type → Type} [SpecM M] {X : Cx} {W : WX} {Γ : List Slot} {pos p p2 : Pos} {e : Expr} {es : List Expr} {x y : Str} {j k n : Nat}
theorem je_calldG (i : Nat) {m : Dem (List D)} {f : List D → Dem D} (hs : Γ[i]? = some Slot.dice := by rfl) (G : DefDG X.prog X.w X.K X.mg X.base x j n f) (hr : Room k X.A) (hgu : X.A.guards = some []) (hk : j ≤ k) (tk : Takes X W) (hN : X.N[i]? = some y := by kernel_rfl) (hv : Vis X.env.scope y) (hd : (y == ("__debug__" : Str)) = false := by kernel_rfl) (hcd : (y == ("__classdict__" : Str)) = false := by kernel_rfl)
    (ha : JA X W es Γ m) (hg : Gl X x := by (show _ = _); kernel_rfl) (hdb : (x == ("__debug__" : Str)) = false := by kernel_rfl)
    (he : starEach (.Name y p2 :: es) X.env = (false, eval (.Name y p2) X.env) :: starEach es X.env := by kernel_rfl) (hpl : (backTo pos (starEach es X.env)).any (·.1) = false := by kernel_rfl) :
    JE X W (.Call (.Name x p) (.Name y p2 :: es) [] pos) Γ (bnd m f) := fun F H σ E Q hq => by
  obtain ⟨fa, fd, ps, hm, kp, bi, okf, bad⟩ := G.ex
  refine PE.wp (pe_callG (E := WE W) (t := tCons (tVar i) (wpA X es)) (okf.mono hk) hr hgu hg hm kp bi (fun σ => passAt tk σ) (pa_cons (pe_var hN hv hd hcd) pa_sem he) hdb he hpl) ?_
  obtain ⟨z, q1, a, q2, q3⟩ := E.slot i _ hs
  subst q2
  refine ⟨_, q1, ?_⟩
  refine ha.bind E hq fun ds vs H1 e1 E1 r1 h1 => ?_
  by_cases hn : ds.length = n
  · refine ⟨OS F σ Γ, a, vs, ds, rfl, r1.length.trans hn, .inl (E.subO a q3), E1.dic a q3, E1.tbs, E1.osdom, r1, (f ds).mono (fun r hr => ?_) h1⟩
    cases r with
    | ok d => exact fun v H' e r => hr v H' (e.one q3) r
    | exc ε => exact fun c d H' e r => hr c d H' (e.one q3) r
    | bad => exact hr
  · rw [bad ds hn] at h1
    exact (SpecM.post_ret h1).elim
end
end DE
namespace DE
open PySem PySem.Spec PyProof.Rows L2
variable [τ : TabCtx]
/-! range with a step -/
def range3O : D → D → D → Option (List D)
  | .int i, .int j, .int c => if c ≠ 0 ∧ c.natAbs < 1073741824 ∧ Builtin.Range.small i j c = true ∧ 0 ≤ Builtin.Range.rangeSize i j c ∧ (Builtin.Range.rangeSize i j c).toNat ≤ maxL then some ((List.range (Builtin.Range.rangeSize i j c).toNat).map fun k => PyData.int (i + (k : Nat) * c)) else none
  | _, _, _ => none
section
variable {K : PySem.W.Frag} {mg : Str → Option Value} {F : Frm} {O N : Addr → Prop} {H : Hp}
theorem yi_rngC {lo c : Int} {n : Nat} (hl : n ≤ maxL) : YI K mg F O N (Itc lo c n) H ((List.range n).map fun k => PyData.int (lo + (k : Nat) * c)) := ⟨by rw [List.length_map, List.length_range]; exact hl, fun M' O' i H' d m o1 o2 e hd => by
  rw [List.getElem?_map] at hd
  cases q : (List.range n)[i]? with
  | none => rw [q] at hd; cases hd
  | some k =>
    rw [q] at hd
    have hk : i = k ∧ i < n := by
      obtain ⟨l, e⟩ := List.getElem?_eq_some_iff.mp q
      rw [List.getElem_range] at e
      rw [List.length_range] at l
      exact ⟨e, l⟩
    obtain ⟨rfl, hk⟩ := hk
    cases hd
    refine ⟨hk, fun x H'' y => ?_⟩
    obtain ⟨rfl, rfl⟩ := y
    exact ⟨.refl, .int _⟩, fun M' H' m e => by rw [List.length_map, List.length_range]; exact Nat.le_refl _⟩
end
section
variable {M : Type → Type} [SpecM M] {X : Cx} {W : WX} {Γ : List Slot} {a b c tg : Expr} {p pos : Pos} {ma mb mc : M D}
theorem ji_range3 (ha : JE X W a Γ ma) (hb : JE X W b Γ mb) (hcc : JE X W c Γ mc) (hm : X.mg "range" = none) (hg : Gl X "range" := by (show _ = _); kernel_rfl) (h1 : starEach [a, b, c] X.env = (false, eval a X.env) :: starEach [b, c] X.env := by kernel_rfl) (h2 : starEach [b, c] X.env = (false, eval b X.env) :: starEach [c] X.env := by kernel_rfl) (h3 : starEach [c] X.env = (false, eval c X.env) :: starEach [] X.env := by kernel_rfl)
    (hpl : (backTo pos (starEach [b, c] X.env)).any (·.1) = false := by kernel_rfl) : JI X W tg (.Call (.Name "range" p) [a, b, c] [] pos) Γ (bnd ma fun x => bnd mb fun y => bnd mc fun z => op (range3O x y z)) := fun F H σ E Q hq => by
  refine PI.wp (pi_range3 hg hm (pa_cons pe_sem (pa_cons pe_sem (pa_cons pe_sem pa_nil h3) h2) h1) h1 hpl) ?_
  refine ha.bind E hq fun d v H1 e1 E1 r1 hq => ?_
  refine hb.bind E1 hq fun d2 u H2 e2 E2 r2 hq => ?_
  refine hcc.bind E2 hq fun d3 w H3 e3 E3 r3 hq => ?_
  obtain ⟨ds, hz, q⟩ := post_ofO hq
  clear hq
  obtain ⟨i, j, k, rfl, rfl, rfl⟩ : ∃ i j k : Int, d = .int i ∧ d2 = .int j ∧ d3 = .int k := by
    unfold range3O at hz
    split at hz
    · exact ⟨_, _, _, rfl, rfl, rfl⟩
    · cases hz
  simp only [range3O] at hz
  split at hz
  · rename_i hc
    obtain ⟨c1, c2, c3, c4, c5⟩ := hc
    cases hz
    exact ⟨i, j, k, _, by rw [r1.toInt, r2.toInt, r3.toInt], ⟨c1, c2, c3, (Int.toNat_of_nonneg c4).symm⟩, q _ H3 .refl (yi_rngC c5)⟩
  · cases hz
end
end DE

set_option maxHeartbeats 4000000
namespace DE
open PySem PySem.Spec PyProof.Rows L2
variable [τ : TabCtx]
section
variable {M : Type → Type} [SpecM M] {S T : Type} {X : Cx} {W : WX} {Z : List Nat} {Γ : List Slot} {N : S → List Slot} {L : T → List Slot} {a b c : Expr} {pos px py pz pt pt2 : Pos} {kt k2 : Nat} {rest : List Stmt} {x y z : Str}
/-- datum, own, own -/
theorem js_par011 (i j l : Nat) {ma : M D} {mb mc : M (List D)} {mr : D → List D → List D → M (Fl S T)} (hc : X.calm = true) (hN : X.N.Nodup) (ja : JE X W a Γ ma) (jb : JF X W b Γ mb) (jc : JF X W c Γ mc) (hr : ∀ d e f, JS X W Z rest (((Γ.set i (.dat d)).set j (.own e)).set l (.own f)) (mr d e f) N L)
    (hi : X.N[i]? = some x := by kernel_rfl) (hj : X.N[j]? = some y := by kernel_rfl) (hl : X.N[l]? = some z := by kernel_rfl) (hij : i ≠ j := by decide) (hil : i ≠ l := by decide) (hjl : j ≠ l := by decide)
    (hlj : j < Γ.length := by exact of_decide_eq_true (by kernel_rfl)) (hjZ : j ∈ Z := by decide) (hll : l < Γ.length := by exact of_decide_eq_true (by kernel_rfl)) (hlZ : l ∈ Z := by decide)
    (hx : X.env.scope.names.lookup x = some .local := by kernel_rfl) (hy : X.env.scope.names.lookup y = some .local := by kernel_rfl) (hzz : X.env.scope.names.lookup z = some .local := by kernel_rfl)
    (h1 : starEach [a, b, c] X.env = (false, eval a X.env) :: starEach [b, c] X.env := by kernel_rfl) (h2 : starEach [b, c] X.env = (false, eval b X.env) :: starEach [c] X.env := by kernel_rfl) (h3 : starEach [c] X.env = (false, eval c X.env) :: starEach [] X.env := by kernel_rfl)
    (hw : swappedStores [.Tuple [.Name x px, .Name y py, .Name z pz] kt pt] (.Tuple [a, b, c] k2 pt2) X.env = pure (some [x, y, z]) := by kernel_rfl) (hs : swapsWithSole [.Tuple [.Name x px, .Name y py, .Name z pz] kt pt] (.Tuple [a, b, c] k2 pt2) pos.line X.env = pure false := by kernel_rfl) :
    JS X W Z (.Assign [.Tuple [.Name x px, .Name y py, .Name z pz] kt pt] (.Tuple [a, b, c] k2 pt2) pos :: rest) Γ (bnd ma fun d => bnd mb fun e => bnd mc fun f => mr d e f) N L := fun F H σ hz E Dn hq => by
  refine PSs.wp (pss_cons (ps_par3 hc hN hi hj hl hij hil hjl hx hy hzz (pa_cons pe_sem (pa_cons pe_sem (pa_cons pe_sem pa_nil h3) h2) h1) hw hs) pss_sem) ?_
  refine ja.st E hq fun d v H1 e1 E1 r1 g1 => ?_
  refine JF.st jb E1 g1 fun ds p xs H2 e2 E2 hp r2 g2 => ?_
  have nO := E2.fresh hp
  have h0 : F.H0 p = none := by
    cases hx0 : F.H0 p with
    | none => rfl
    | some o => exact (E2.ext.there p (by rw [hx0]; exact fun z => nomatch z) hp).elim
  refine JF.stH jc (E2.hide hp xs) g2 fun d3 p2 ys H3 e3 E3 hq2 r3 g3 => ?_
  have hp2 : H3 p = some (.lst xs) := e3.keep _ _ (fun z => nO (.inl (E2.subO p z))) (fun _ z => nomatch z) upd_same
  have mf : ∀ a, OS (F.hold p) σ Γ a → OS F σ Γ a ∨ H2 a = none := fun a z => (os_hold.mp z).elim .inl fun q => .inr (q ▸ hp)
  have xk : ∀ a, F.Dc a → OS (F.hold p) σ Γ a := fun a z => os_hold.mpr (.inl (E2.xk a z))
  have rV : Rep X.K X.mg (OS (F.hold p) σ Γ) H3 v d := (((r1.ext e2 fun a z => E.xk a z).mov (mov_fresh mf)).ext (Ext.new hp : Ext (fun _ => False) (fun _ => False) _ _) fun _ z => z.elim).ext e3 xk
  have mv : Reps X.K X.mg (OS (F.hold p) σ Γ) H3 xs ds := ((r2.mov (mov_fresh mf)).ext (Ext.new hp : Ext (fun _ => False) (fun _ => False) _ _) fun _ z => z.elim).ext e3 xk
  have Ed := E3.dat i rV
  have E4 := Ed.show_ j (by rw [List.length_set]; exact hlj) (hz j hjZ).2 h0 (fun z => nO (.inr (.inl z))) (fun z => nO (.inl z)) hp2 (mv.anti fun a z => os_set (fun _ q => by cases q) z)
  refine ⟨_, _, _, rfl, hr d ds d3 F _ _ hz (E4.ownNew l (by rw [List.length_set, List.length_set]; exact hll) (hz l hlZ).2 hq2 (r3.anti fun a z => ?_)) Dn g3⟩
  rcases z with z | z | ⟨n, es, z1, z2⟩
  · exact .inl (.inl z)
  · exact .inr (.inl z)
  · by_cases q : n = j
    · subst q
      rw [List.getElem?_set, if_pos rfl, if_pos (by rw [List.length_set, E.len]; exact hlj)] at z2
      cases z2
      exact .inl (.inr rfl)
    · rw [List.getElem?_set_ne (Ne.symm q)] at z1 z2
      by_cases q2 : n = i
      · subst q2
        rw [List.getElem?_set] at z1
        rw [if_pos rfl] at z1
        split at z1 <;> cases z1
      · rw [List.getElem?_set_ne (Ne.symm q2)] at z1 z2
        exact .inr (.inr ⟨n, es, z1, z2⟩)
end
end DE

set_option maxHeartbeats 4000000
namespace DE
open PySem PySem.Spec PyProof.Rows L2
variable [τ : TabCtx]
section
variable {M : Type → Type} [SpecM M] {S T U : Type} {X : Cx} {W : WX} {Z : List Nat} {Γ : List Slot} {N : S → List Slot} {L : T → List Slot} {I : U → List Slot} {c : Expr} {pos : Pos} {rest body : List Stmt} {mr : U → M (Fl S T)}
/-- while, in the frame that stands: own lists may be shown in its body -/
theorem js_whileF (n : Nat) (s0 : U) (vs : List Nat) {cm : U → M Bool} {f : U → M (Fl U U)} (hp : PassesOwn (model X.prog X.w) X.A X.env X.xe) (hI : I s0 = wipeG Γ vs := by kernel_rfl) (hc : ∀ s, JT X W c (I s) (cm s)) (hb : ∀ s, JS X W Z body (I s) (f s) I I) (hr : ∀ s, JS X W Z rest (I s) (mr s) N L) :
    JS X W Z (.While c body [] pos :: rest) Γ (endL (whileM cm f n s0) mr) N L := fun F H σ hz E Dn hq => by
  refine PSs.wp (pss_cons (ps_while hp pt_sem pss_sem) pss_sem) ?_
  have EI : DE.Env X.K X.mg F H σ (I s0) := hI ▸ E.forgets vs
  have h2 := SpecM.post_bind hq
  refine ⟨fun m σ' H' => ∃ s, DE.Env X.K X.mg F H' σ' (I s) ∧ SpecM.post (whileM cm f m s) (thenK (fun a kk => SpecM.post (endK mr a) kk) (PostS X W F N L Dn)), ⟨n, s0, EI, h2⟩, ?_⟩
  rintro m σ' H' ⟨s, Es, hs2⟩
  cases m with
  | zero => exact (SpecM.post_ret hs2).elim
  | succ m =>
    refine (hc s) _ H' σ' Es _ (SpecM.mono (fun r hr2 => ?_) (SpecM.post_bind hs2))
    cases r with
    | bad => exact hr2
    | exc ε => exact exc_up (F := F) Es fun cls dx σ' H' e q => hr2 cls dx σ' H' e q
    | ok b =>
      intro b' H1 e1 hb'
      subst hb'
      have E1 := Es.mono e1
      cases b' with
      | false => exact iteF (hr s F H1 σ' hz E1 Dn (SpecM.post_ret hr2))
      | true =>
        refine iteT ⟨fun σ' H' => ∃ s, DE.Env X.K X.mg F H' σ' (I s) ∧ SpecM.post (whileM cm f m s) (thenK (fun a kk => SpecM.post (endK mr a) kk) (PostS X W F N L Dn)), fun σ' H' q => ⟨m, Nat.lt_succ_self m, q⟩, ?_⟩
        refine hb s _ H1 σ' hz E1 _ (SpecM.mono (fun r hr3 => ?_) (SpecM.post_bind hr2))
        cases r with
        | bad => exact hr3
        | exc ε => exact fun cls dx σ' H' e r => hr3 cls dx σ' H' e r
        | ok fl =>
          cases fl with
          | next s' => exact fun σ' H' E' => ⟨s', E', hr3⟩
          | cnt s' => exact fun σ' H' E' => ⟨s', E', hr3⟩
          | brk s' => exact fun σ' H' E' => hr s' F H' σ' hz E' Dn (SpecM.post_ret hr3)
          | ret d =>
            have q : PostS X W F N L Dn (.ok (.ret d)) := SpecM.post_ret (show SpecM.post (ok (M := M) (Fl.ret d)) (PostS X W F N L Dn) from SpecM.post_ret hr3)
            exact fun v H' e r => q v H' e r
end
end DE

set_option maxHeartbeats 4000000
namespace DE
open PySem PySem.Spec PyProof.Rows L2
variable [τ : TabCtx]
section
variable {M : Type → Type} [SpecM M] {X : Cx} {W : WX} {Γ : List Slot} {pos p2 p : Pos} {a b e lo hi : Expr} {ma mb ml mh : M D}
/-! texts: x[i], x[i:j], in -/
theorem reps_str {K : PySem.W.Frag} {mg : Str → Option Value} {O P : Addr → Prop} {H : Hp} {v : V} {t : Str} (h : RepS K mg O H P v (.str t)) : v = .str t := by
  rcases h with h | ⟨_, _, _, _, h, _⟩
  · exact h.toStr
  · cases h
def itemT : D → D → Option D
  | .str z, .int i => if z.length ≤ maxL then (atI z.cps.toList i).map fun c => .str ⟨#[c]⟩ else none
  | x, y => itemD x y
theorem je_ixT (ha : JQ X W a Γ ma) (hb : JE X W b Γ mb) (hs : PlainIx b := by intro _ _; rfl) : JE X W (.Subscript a b pos) Γ (bnd ma fun x => bnd mb fun y => op (itemT x y)) := fun F H σ E Q hq => by
  refine PE.wp (pe_ix ix_seq pe_sem pe_sem hs) ?_
  refine ha.bind E hq fun d v H1 e1 E1 r1 hq => ?_
  refine hb.bind E1 hq fun d2 u H2 e2 E2 r2 hq => ?_
  obtain ⟨z, hz, q⟩ := post_ofO hq
  have r1' := r1.ext e2 (fun a z => .inl (E.subO a z)) E.subO
  cases d <;> cases d2 <;> first | cases hz | skip
  · rename_i t _ i
    simp only [itemT] at hz
    split at hz <;> rename_i hl
    · cases hc : atI t.cps.toList i with
      | none => rw [hc] at hz; cases hz
      | some c =>
        rw [hc] at hz
        cases hz
        rw [maxL_eq] at hl
        exact .inr (.inr ⟨t, i, c, reps_str r1', r2.toInt, hl, hc, q _ H2 .refl (.str _)⟩)
    · cases hz
  · obtain ⟨a, xs, rfl, h1, h2⟩ := r1'.list
    obtain ⟨w, h3, h4⟩ := atI_reps h2 hz
    exact .inl ⟨a, xs, _, w, rfl, r2.toInt, h1, h3, q w H2 .refl h4⟩
  · obtain ⟨a, xs, rfl, h1, h2⟩ := r1'.tuple
    obtain ⟨w, h3, h4⟩ := atI_reps h2 hz
    exact .inr (.inl ⟨a, xs, _, w, rfl, r2.toInt, h1, h3, q w H2 .refl h4⟩)
def sliceT (x : D) (lo hi : Option Int) : Option D := match x with
  | .str z => if z.length ≤ maxL then some (.str (cutS z lo hi)) else none
  | x => sliceD x lo hi
theorem je_sliceT {l h : Option Expr} {mlo mhi : M (Option Int)} (ha : JQ X W e Γ ma) (hl : JO X W l Γ mlo) (hh : JO X W h Γ mhi) : JE X W (.Subscript e (.Slice l h none p2) pos) Γ (bnd ma fun x => bnd mlo fun i => bnd mhi fun j => op (sliceT x i j)) := fun F H σ E Q hq => by
  refine PE.wp (pe_slice (SlR.or (SlR.or sl_list sl_tupA) sl_str) pe_sem po_sem po_sem) ?_
  refine ha.bind E hq fun d v H1 e1 E1 r1 hq => ?_
  refine hl.bind E1 hq fun i i' H2 e2 E2 r2 g2 => ?_
  subst r2
  refine hh.bind E2 g2 fun j j' H3 e3 E3 r3 g3 => ?_
  subst r3
  clear hq
  obtain ⟨z, hz, q⟩ := post_ofO g3
  have r1' := (r1.ext e2 (fun a z => E.xk a z) E.subO).ext e3 (fun a z => E.xk a z) E.subO
  cases d <;> first | cases hz | skip
  · rename_i t
    simp only [sliceT] at hz
    split at hz <;> rename_i hl
    · cases hz
      rw [maxL_eq] at hl
      exact .inr ⟨t, reps_str r1', hl, q _ H3 .refl (.str _)⟩
    · cases hz
  · obtain ⟨c, xs, rfl, h1, h2⟩ := r1'.list
    exact .inl (.inl ⟨c, xs, rfl, h1, fun p hp => q _ _ (.new hp) (.lst (.inl ⟨upd_same, E3.fresh hp⟩) (rep_new hp (cut_reps h2 _ _)))⟩)
  · obtain ⟨c, xs, rfl, h1, h2⟩ := r1'.tuple
    refine .inl (.inr ⟨c, xs, rfl, h1, fun z => ?_, fun z p hp => q _ _ (.new hp) (.tup (.inl (.inl upd_same)) (rep_new hp (cut_reps h2 _ _)))⟩)
    rw [cut_whole h2 z.1 z.2] at q
    exact q _ H3 .refl (.tup h1 h2)
/-- whether a text stands in a text -/
def subS (i j : Str) : Bool := !(Builtin.Str.occurrences j i 0 j.length 1).isEmpty
def inT : D → D → Option D
  | .str i, .str j => some (.bool (subS i j))
  | x, y => inF x y
def notInT : D → D → Option D
  | .str i, .str j => some (.bool (!subS i j))
  | x, y => notInF x y
def rInT (K : PySem.W.Frag) : R2 := fun x y H Q => rIn K false x y H Q ∨ ∃ i j, x = .str i ∧ y = .str j ∧ Q (.bl (subS i j)) H
def rNotInT (K : PySem.W.Frag) : R2 := fun x y H Q => rIn K true x y H Q ∨ ∃ i j, x = .str i ∧ y = .str j ∧ Q (.bl (!subS i j)) H
theorem op_inT : OpR X (compareOp .In) (rInT X.K) := by
  intro pins s σ H x y v u Q I rx ry h
  rcases h with h | h
  · exact op_in_seq pins s σ H x y v u Q I rx ry h
  · exact op_in_str pins s σ H x y v u Q I rx ry h
theorem op_notInT : OpR X (compareOp .NotIn) (rNotInT X.K) := by
  intro pins s σ H x y v u Q I rx ry h
  rcases h with h | h
  · exact op_notIn_seq pins s σ H x y v u Q I rx ry h
  · exact op_notin_str pins s σ H x y v u Q I rx ry h
theorem ro_inT : RO X (rInT X.K) inT := fun O H x y dx dy d dm rx ry e Q q => by
  cases dx <;> cases dy <;> first
    | exact .inl (ro_in O H x y _ _ d dm rx ry e Q q)
    | (cases e; exact .inr ⟨_, _, rx.toStr, ry.toStr, q _ H (.refl H) (.bl _)⟩)
theorem ro_notInT : RO X (rNotInT X.K) notInT := fun O H x y dx dy d dm rx ry e Q q => by
  cases dx <;> cases dy <;> first
    | exact .inl (ro_notin O H x y _ _ d dm rx ry e Q q)
    | (cases e; exact .inr ⟨_, _, rx.toStr, ry.toStr, q _ H (.refl H) (.bl _)⟩)
/-! join -/
def strsO : List D → Option (List Str)
  | [] => some []
  | .str y :: ys => (strsO ys).map (y :: ·)
  | _ :: _ => none
theorem strs_rep {K : PySem.W.Frag} {mg : Str → Option Value} {O : Addr → Prop} {H : Hp} : ∀ {ds : List D} {ys : List Str} {vs : List V}, strsO ds = some ys → Reps K mg O H vs ds → vs = ys.map V.str
  | [], ys, vs, e, h => by cases e; rw [h.nil_of]; rfl
  | d :: ds, ys, vs, e, h => by
    obtain ⟨u, r, rfl, h1, h2⟩ := h.cons_of
    cases d <;> first | cases e | skip
    rename_i y
    simp only [strsO] at e
    cases e2 : strsO ds with
    | none => rw [e2] at e; cases e
    | some zs =>
      rw [e2] at e
      cases e
      rw [h1.toStr, strs_rep e2 h2]
      rfl
def joinL (a : Str) (ds : List D) : Option D := (strsO ds).bind fun ys => if (ys.map (·.length)).sum + ys.length * a.length ≤ maxL then some (.str (Txt.join a ys)) else none
def strO : D → Option Str
  | .str a => some a
  | _ => none
def joinD (a : Str) : D → Option D
  | .list ds => joinL a ds
  | .tuple ds => joinL a ds
  | _ => none
theorem joinL_some {a : Str} {ds : List D} {d : D} (h : joinL a ds = some d) : ∃ ys, strsO ds = some ys ∧ (ys.map (·.length)).sum + ys.length * a.length ≤ 16777216 ∧ d = .str (Txt.join a ys) := by
  unfold joinL at h
  cases e : strsO ds with
  | none => rw [e] at h; cases h
  | some ys =>
    rw [e] at h
    simp only [Option.bind] at h
    split at h <;> rename_i hl
    · cases h
      exact ⟨ys, rfl, hl, rfl⟩
    · cases h
theorem je_join {apos : Pos} (ha : JE X W a Γ ma) (hb : JQ X W b Γ mb) (h1 : starEach [b] X.env = [(false, eval b X.env)] := by kernel_rfl) (h2 : attributeBase a "join" X.env (eval a X.env) = eval a X.env := by kernel_rfl) (h3 : (apos.endLine == pos.line) = true := by kernel_rfl) :
    JE X W (.Call (.Attribute a "join" apos) [b] [] pos) Γ (bnd ma fun x => bnd (op (strO x)) fun t => bnd mb fun y => op (joinD t y)) := fun F H σ E Q hq => by
  refine PE.wp (pe_join pe_sem pe_sem h1 h2 h3) ?_
  refine ha.bind E hq fun d v H1 e1 E1 r1 hq => ?_
  have hq2 := SpecM.post_bind hq
  cases hd : strO d with
  | none => rw [hd] at hq2; exact (SpecM.post_ret hq2).elim
  | some t =>
    rw [hd] at hq2
    have e : d = .str t := by cases d <;> first | (cases hd; rfl) | cases hd
    subst e
    refine ⟨⟨t, r1.toStr⟩, ?_⟩
    have hq3 := SpecM.post_ret hq2
    refine hb.bind E1 hq3 fun d2 u H2 e2 E2 r2 hq4 => ?_
    obtain ⟨z, hz, q⟩ := post_ofO hq4
    cases d2 <;> first | cases hz | skip
    · obtain ⟨c, xs, rfl, g1, g2⟩ := r2.list
      obtain ⟨ys, y1, y2, rfl⟩ := joinL_some hz
      exact ⟨t, c, ys, r1.toStr, rfl, .inl (strs_rep y1 g2 ▸ g1), y2, q _ H2 .refl (.str _)⟩
    · obtain ⟨c, xs, rfl, g1, g2⟩ := r2.tuple
      obtain ⟨ys, y1, y2, rfl⟩ := joinL_some hz
      exact ⟨t, c, ys, r1.toStr, rfl, .inr (strs_rep y1 g2 ▸ g1), y2, q _ H2 .refl (.str _)⟩
/-! f".." -/
def fmtD : D → Option D
  | .str y => if y.length ≤ maxL then some (.str y) else none
  | .int i => if i.natAbs.log2 < 1920 then some (.str (Str.ofString (toString i))) else none
  | _ => none
theorem je_fmt (he : JE X W e Γ ma) : JE X W (.FormattedValue e (-1) none pos) Γ (bnd ma fun d => op (fmtD d)) := fun F H σ E Q hq => by
  refine PE.wp (pe_fmt pe_sem) ?_
  refine he.bind E hq fun d v H1 e1 E1 r1 hq => ?_
  obtain ⟨z, hz, q⟩ := post_ofO hq
  cases d <;> first | cases hz | skip
  · simp only [fmtD] at hz
    split at hz <;> rename_i hl <;> cases hz
    exact .inr ⟨_, r1.toInt, hl, q _ H1 .refl (.str _)⟩
  · simp only [fmtD] at hz
    split at hz <;> rename_i hl <;> cases hz
    rw [maxL_eq] at hl
    exact .inl ⟨_, r1.toStr, hl, q _ H1 .refl (.str _)⟩
theorem pj_sem : ∀ {es : List Expr}, PJ X es (es.map (wpE X))
  | [] => .nil
  | _ :: _ => .cons pe_sem pj_sem
/-- the parts of f".." behind a text -/
def JJ (X : Cx) (W : WX) (es : List Expr) (Γ : List Slot) (f : Str → M D) : Prop := ∀ (acc : Str) (F : Frm) (H : Hp) (σ : L2.St), DE.Env X.K X.mg F H σ Γ → ∀ Q : V → Hp → Prop, SpecM.post (f acc) (Post X.K X.mg W F (OS F σ Γ) σ H (fun H' v d => Rep X.K X.mg (OS F σ Γ) H' v d) Q) → tJs (es.map (wpE X)) acc σ H fun out H1 => Q (.str out) H1
def catS (acc : Str) : D → Option Str
  | .str y => if (acc ++ y).length ≤ maxL then some (acc ++ y) else none
  | _ => none
theorem jj_nil : JJ X W [] Γ (fun acc => ok (M := M) (.str acc)) := fun acc F H σ E Q hq => post_ok hq _ H .refl (.str _)
theorem jj_cons {es : List Expr} {f : Str → M D} (he : JE X W e Γ ma) (hr : JJ X W es Γ f) : JJ X W (e :: es) Γ (fun acc => bnd ma fun d => bnd (op (catS acc d)) fun t => f t) := fun acc F H σ E Q hq => by
  refine he.bind E hq fun d v H1 e1 E1 r1 hq => ?_
  have hq2 := SpecM.post_bind hq
  cases hd : catS acc d with
  | none => rw [hd] at hq2; exact (SpecM.post_ret hq2).elim
  | some t =>
    rw [hd] at hq2
    cases d <;> first | cases hd | skip
    simp only [catS] at hd
    split at hd <;> rename_i hl <;> cases hd
    rw [maxL_eq] at hl
    exact ⟨_, r1.toStr, hl, hr _ F H1 σ E1 Q (SpecM.post_ret hq2)⟩
theorem je_fstr {v1 v2 : Expr} {rest : List Expr} {f : Str → M D} (h : JJ X W (v1 :: v2 :: rest) Γ f) : JE X W (.JoinedStr (v1 :: v2 :: rest) pos) Γ (f Str.empty) := fun F H σ E Q hq => PE.wp (pe_joined pj_sem) (h Str.empty F H σ E Q hq)
/-! str(i) -/
def strD : D → Option D
  | .int i => if i.natAbs.log2 < 1920 then some (.str (Str.ofString (toString i))) else none
  | _ => none
theorem rc_str : RC1 X (fun xs H Q => ∃ i, xs = [.int i] ∧ i.natAbs.log2 < 1920 ∧ Q (V.str (Str.ofString (toString i))) H) strD := fun P O H x dx d dm rx e Q q => by
  rcases rx with rx | ⟨_, _, _, _, h, _⟩
  · cases dx <;> first | cases e | skip
    simp only [strD] at e
    split at e <;> rename_i hl <;> cases e
    exact ⟨_, by rw [rx.toInt], hl, q _ H (.refl H) (.str _)⟩
  · cases h
    cases e
end
end DE

set_option maxHeartbeats 4000000
namespace DE
open PySem PySem.Spec PyProof.Rows L2
variable [τ : TabCtx]
section
variable {M : Type → Type} [SpecM M] {S T : Type} {X : Cx} {W : WX} {Z : List Nat} {Γ : List Slot} {N : S → List Slot} {L : T → List Slot} {a b e : Expr} {pos p1 p2 tp pt2 : Pos} {kk k2 : Nat} {rest : List Stmt} {x y : Str}
/-! > of alike data -/
def rGtD (K : PySem.W.Frag) : R2 := fun x y H Q => ∃ d e, Dp K H x d ∧ Dp K H y e ∧ SeqAt.shaped d = true ∧ SeqAt.shaped e = true ∧ PySem.W.alike d e = true ∧ isN d = false ∧ Q (.bl (PySem.W.dataLt e d)) H
def gtDD (x y : D) : Option D := if SeqAt.shaped x && SeqAt.shaped y && (PySem.W.alike x y && !isN x) then some (.bool (PySem.W.dataLt y x)) else none
theorem op_gtDD (hu : X.A.units + 64 < cLine) : OpR X (compareOp .Gt) (rGtD X.K) := by
  intro pins s σ H x y v u Q I rx ry h
  obtain ⟨d, e, hd, he, sd, se, ha, hn, q⟩ := h
  obtain ⟨as, r1⟩ := Dp.reads I d x v hd rx
  obtain ⟨bs, r2⟩ := Dp.reads I e y u he ry
  refine PySem.W.gt_data r1 r2 ha (fun z => by rw [z] at hn; cases hn) ?_ ⟨.bl _, H, I, rfl, q⟩
  have h1 : d.depth ≤ 64 := by
    simp only [SeqAt.shaped, Bool.and_eq_true, decide_eq_true_eq] at sd
    exact sd.2
  omega
theorem ro_gtDD : ROq X (rGtD X.K) gtDD := fun P O H x y dx dy d dm rx ry e Q q => by
  unfold gtDD at e
  split at e
  · rename_i h
    simp only [Bool.and_eq_true, Bool.not_eq_true'] at h
    cases e
    exact ⟨dx, dy, rx.dp h.1.1, ry.dp h.1.2, h.1.1, h.1.2, h.2.1, h.2.2, q _ H (.refl H) (.bl _)⟩
  · cases e
theorem je_bad : JE X W e Γ (SpecM.ret (M := M) .bad) := fun F H σ E Q hq => (SpecM.post_ret hq).elim
/-- datum, own, where a name may be held by a cell -/
theorem js_un01 (i j : Nat) {ma : M D} {mb : M (List D)} {mr : D → List D → M (Fl S T)} (hc : X.calm = true) (ja : JE X W a Γ ma) (jb : JF X W b Γ mb) (hg1 : PG X (.Name x p1) (gName i)) (hg2 : PG X (.Name y p2) (gName j)) (hr : ∀ d e, JS X W Z rest ((Γ.set i (.dat d)).set j (.own e)) (mr d e) N L)
    (hl : j < (Γ.set i .any).length := by exact of_decide_eq_true (by kernel_rfl)) (hjZ : j ∈ Z := by decide)
    (h1 : starEach [a, b] X.env = (false, eval a X.env) :: starEach [b] X.env := by kernel_rfl) (h2 : starEach [b] X.env = (false, eval b X.env) :: starEach [] X.env := by kernel_rfl)
    (hs : swapsWithSole [.Tuple [.Name x p1, .Name y p2] kk tp] (.Tuple [a, b] k2 pt2) pos.line X.env = pure false := by kernel_rfl) (hw : swappedStores [.Tuple [.Name x p1, .Name y p2] kk tp] (.Tuple [a, b] k2 pt2) X.env = pure none := by kernel_rfl) :
    JS X W Z (.Assign [.Tuple [.Name x p1, .Name y p2] kk tp] (.Tuple [a, b] k2 pt2) pos :: rest) Γ (bnd ma fun d => bnd mb fun e => mr d e) N L := fun F H σ hz E Dn hq => by
  refine PSs.wp (pss_cons (ps_asg (pe_tup (pa_cons pe_sem (pa_cons pe_sem pa_nil h2) h1)) (pg_tup hc (pgs_cons hg1 (pgs_cons hg2 pgs_nil))) hs hw) pss_sem) ?_
  refine ja.st E hq fun d v H1 e1 E1 r1 g1 => ?_
  refine JF.st jb E1 g1 fun ds p xs H2 e2 E2 hp r2 g2 => ?_
  refine ⟨by rw [sizeLine_eq]; exact (by decide : (2 : Nat) ≤ 16777216), fun q hq2 => ?_⟩
  have E3 := E2.dat i (r1.ext e2 fun a z => E.xk a z)
  have hl' : j < (Γ.set i (.dat d)).length := by rw [List.length_set] at hl ⊢; exact hl
  have E4 := E3.ownNew j hl' (hz j hjZ).2 hp (r2.anti fun a z => os_set (fun _ q => by cases q) z)
  have E5 := E4.mono (.new hq2 : Ext F.Dc F.Dc _ (upd (upd H2 p (.lst xs)) q (.tup [v, V.ref p])))
  exact ⟨q, _, rfl, .inl (.inl upd_same), rfl, v, _, rfl, _, _, rfl, rfl, hr d ds F _ _ hz E5 Dn g2⟩
end
end DE

set_option maxHeartbeats 4000000
namespace DE
open PySem PySem.Spec PyProof.Rows L2 LamX
variable [τ : TabCtx]
/-! a lambda of one parameter, handed to a method -/
structure LamS1 (sc scope : Scope) (y : Str) : Prop where
  kind : scope.kind = .function
  co : scope.isCoroutine = false
  gen : scope.isGenerator = false
  own : ∀ z ∈ scope.names, z.2 ≠ .cell ∧ (z.2 = .local → z.1 = y)
  loc : scope.names.lookup y = some .local
  free : ∀ z ∈ scope.names, z.2 = .free → sc.names.lookup z.1 = some .cell ∨ sc.names.lookup z.1 = some .free
def lamS1B (sc scope : Scope) (y : Str) : Bool :=
  decide (scope.kind = .function) && !scope.isCoroutine && !scope.isGenerator && decide (scope.names.lookup y = some .local) && scope.names.all fun z => !decide (z.2 = .cell) && (!decide (z.2 = .local) || decide (z.1 = y)) && (!decide (z.2 = .free) || decide (sc.names.lookup z.1 = some .cell) || decide (sc.names.lookup z.1 = some .free))
theorem lamS1_by {sc scope : Scope} {y : Str} (h : lamS1B sc scope y = true) : LamS1 sc scope y := by
  unfold lamS1B at h
  simp only [Bool.and_eq_true, Bool.or_eq_true, Bool.not_eq_true', decide_eq_true_eq, decide_eq_false_iff_not, List.all_eq_true] at h
  obtain ⟨⟨⟨⟨h1, h2⟩, h3⟩, h5⟩, h4⟩ := h
  refine ⟨h1, h2, h3, fun z hz => ⟨(h4 z hz).1.1, fun e => ?_⟩, h5, fun z hz e => ?_⟩
  · rcases (h4 z hz).1.2 with q | q
    · exact absurd e q
    · exact q
  · rcases (h4 z hz).2 with (q | q) | q
    · exact absurd e q
    · exact .inl q
    · exact .inr q
theorem LamS1.has {X : Cx} {scope : Scope} {y : Str} (L : LamS1 X.env.scope scope y) (ok : X.Ok) : ∀ z ∈ scope.names, z.2 = .free → ∃ c, X.env.cells.lookup z.1 = some c := fun z hz e => by
  rcases L.free z hz e with k | k
  · exact ok.has _ (.inl k)
  · exact ok.has _ (.inr k)
def lamCx1 (X : Cx) (A : Around) (outer : List PySem.Env) (s : Shared) (H : Hp) (E : XK) (scope : Scope) (f c' : Addr) (y : Str) : Cx := { lamCx X A outer s H E scope f c' with N := y :: X.N }
section
variable {X : Cx} {pins : List (Addr × Obj)} {σ : L2.St} {H HZ : Hp} {s s1 : Shared}
theorem lam_start3 {A : Around} {outer : List PySem.Env} {E : XK} {scope : Scope} {f c' : Addr} {h₁ : Heap} {tk : Nat} {y0 : Str} {v0 : V} {u0 : Value} (I : Inv X pins σ H s) (L : LamS1 X.env.scope scope y0) (hy0 : y0 ∉ X.N) (rv : RelV v0 u0) (e0 : Env0 X.prog X.w X.K X.mg X.base A outer s1 HZ) (hd : A.handled = none)
    (un : Un (frs X.stack) [] H HZ s.heap s1.heap) (hns : h₁.Ns s1.heap.objs.size fun y => ([(y0, u0)] : List (Str × Value)).reverse.lookup y) (kp : ∀ b o, s1.heap.get? b = some o → h₁.get? b = some o) :
    Inv (lamCx1 X A outer s1 HZ E scope f c' y0) [] (some v0 :: σ) HZ { s1 with heap := h₁, toks := tk } := by
  have hfree := L.has I.ok
  have cm : ∀ {y c}, (cloFrom X.env.cells scope.names []).lookup y = some c → X.env.cells.lookup y = some c := fun {y c} e => by
    rcases cloFrom_mem (PySem.mem_of_lookup e) with hm | ⟨h1, h2⟩
    · cases hm
    · obtain ⟨c1, hc⟩ := hfree _ h1 rfl
      have hc : X.env.cells.lookup y = some c1 := hc
      have e2 : c = c1 := by
        rw [h2, hc] <;> rfl
      rw [e2]
      exact hc
  have look : ∀ {y}, scope.names.lookup y = some .free → ∃ c, (cloFrom X.env.cells scope.names []).lookup y = some c := fun {y} hl => by
    have hy : (y, NameKind.free) ∈ scope.names := PySem.mem_of_lookup hl
    exact L2.mem_lookup (cloFrom_has (cells := X.env.cells) (acc := []) hy)
  have cellK : ∀ {c : Addr} {v : Option Value}, H c = none → s.heap.IsCell c v → h₁.IsCell c v := fun {c v} n ⟨o, ho, hd⟩ => by
    obtain ⟨sl, q⟩ := un.any ho n (by simp)
    exact ⟨_, kp _ _ q, hd⟩
  have noA : ∀ b : Addr, b ∉ (lamCx1 X A outer s1 HZ E scope f c' y0).ex := fun b z => absurd (show b ∈ ([] : List Addr) from z) (by simp)
  refine ⟨⟨e0.mod, L.kind, rfl, rfl, Nat.le_refl _, fun y z c e1 e2 => I.ok.inj y z c (cm e1) (cm e2), fun y hy => ?_, fun y c z _ => ?_, fun _ => hd, Around.frames_deeper e0.frames, .inr ⟨rfl, rfl⟩, fun b z => absurd z (noA b), e0.bs, e0.bsz, fun b _ _ => noA b,
      fun b z => absurd z (noA b), e0.funs, e0.frf⟩,
    rfl, e0.bare, Un.kept kp, ⟨_, hns, fun i y v e1 e2 e3 => ?_⟩, fun y c e => ?_, e0.hok.fresh (Nat.le_refl _), fun y c e => ?_, fun q hq => absurd (show q ∈ ([] : List (Addr × Obj)) ++ [] from hq) (by simp), e0.hok.kept kp, by show σ.length + 1 = X.N.length + 1; rw [I.len]⟩
  · have hy : scope.names.lookup y = some .cell ∨ scope.names.lookup y = some .free := hy
    rcases hy with hy | hy
    · exact absurd rfl (L.own _ (PySem.mem_of_lookup hy)).1
    · exact look hy
  · have z : false = true := z
    cases z
  · have e3 : Vis scope y := e3
    cases i with
    | zero =>
      have e1 : some y0 = some y := e1
      have e2 : some (some v0) = some (some v) := e2
      cases e1
      cases e2
      refine ⟨u0, rv, .inl ⟨L.loc, ?_⟩⟩
      show (([(y0, u0)] : List (Str × Value)).reverse.lookup y0) = some u0
      simp [List.lookup]
    | succ i =>
      have e1 : X.N[i]? = some y := e1
      have e2 : σ[i]? = some (some v) := e2
      rcases e3 with k | k | k
      · have : y = y0 := (L.own _ (PySem.mem_of_lookup k)).2 rfl
        exact absurd (List.mem_of_getElem? e1) (this ▸ hy0)
      · exact absurd rfl (L.own _ (PySem.mem_of_lookup k)).1
      · obtain ⟨m, hn, hl⟩ := I.loc
        have hvis : Vis X.env.scope y := (L.free _ (PySem.mem_of_lookup k) rfl).elim (fun k => .inr (.inl k)) (fun k => .inr (.inr k))
        obtain ⟨w', r, q⟩ := hl i y v e1 e2 hvis
        obtain ⟨c2, h2⟩ := look k
        refine ⟨w', r, .inr ⟨.inr k, c2, h2, ?_⟩⟩
        have c1 := cm h2
        rcases q with ⟨k', _⟩ | ⟨_, c3, e', z⟩
        · have k' : X.env.scope.names.lookup y = some .local := k'
          rcases L.free _ (PySem.mem_of_lookup k) rfl with k2 | k2 <;> rw [show X.env.scope.names.lookup y = _ from k2] at k' <;> cases k'
        · rw [c1] at e'
          cases e'
          exact cellK (I.freeC y _ c1) z
  · obtain ⟨w', z⟩ := I.cell y c (cm e)
    exact ⟨w', cellK (I.freeC y c (cm e)) z⟩
  · obtain ⟨v, o, ho, hd⟩ := I.cell y c (cm e)
    exact un.free c o ho (I.freeC y c (cm e)) (by simp)
/-- x(e), in the def that got the lambda -/
theorem pe_act1 {CXg : CXT} {Eg : XK} {Ng : List Str} {qg : Str} {sg : Scope} {g f c' : Addr} {cdg pm ctv : Value} {params : Arguments} {body : Expr} {scope : Scope} {k i : Nat} {a y : Str} {e : Expr} {te tb : TE} {p1 p2 : Pos}
    (I : Inv X pins σ H s) (L : LamS1 X.env.scope scope y) (hy : y ∉ X.N) (hf : s.heap.get? f = some (PySem.W.kla_obj "<lambda>" (lamQ X) params body scope (cloFrom X.env.cells scope.names []) pm c' ctv)) (hfn : H f = none) (hfr : f ∉ frs X.stack)
    (hbind : ∀ u, bindArgs (PySem.W.kla_fn "<lambda>" (lamQ X) params body scope (cloFrom X.env.cells scope.names []) pm (.ref c') ctv) ⟨[u], []⟩ = pure [(y, u)])
    (hr : Room (k + 1) (X.A.deeper (envOfC qg sg s.heap.objs.size g cdg)))
    (hbody : ∀ (A : Around) (outer : List PySem.Env) (s : Shared) (H : Hp), Room k (A.deeper (lamEnv X scope s.heap.objs.size f c')) → PE (lamCx1 X A outer s H (fun _ _ _ => False) scope f c' y) body tb)
    (hN : Ng[i]? = some a) (hv : Vis sg a) (he : PE (cxOf CXg X.prog X.w X.K X.mg X.base Ng qg sg g cdg X.A X.stack s H Eg) e te) (hd : (a == ("__debug__" : Str)) = false := by decide) (hcd : (a == ("__classdict__" : Str)) = false := by decide)
    (hst : starEach [e] (envOfC qg sg s.heap.objs.size g cdg) = (false, eval e (envOfC qg sg s.heap.objs.size g cdg)) :: starEach [] (envOfC qg sg s.heap.objs.size g cdg) := by rfl) (hpl : (backTo p2 (starEach [] (envOfC qg sg s.heap.objs.size g cdg))).any (·.1) = false := by rfl) :
    PE (cxOf CXg X.prog X.w X.K X.mg X.base Ng qg sg g cdg X.A X.stack s H Eg) (.Call (.Name a p1) [e] [] p2)
      (fun σZ HZ Q => σZ[i]? = some (some (.ref f)) ∧ te σZ HZ fun v H1 => H1 c' = some (CodeO c' (lamQ X)) ∧ tb (some v :: σ) H1 Q) := by
  refine ⟨fun pinsZ sZ σZ HZ Q IZ h => ?_⟩
  obtain ⟨hs, ht⟩ := h
  refine wpAny_Call_Name_kw (thn ((pe_var (pos := p1) (i := i) hN hv hd hcd).run pinsZ sZ σZ HZ (fun v H1 => v = .ref f ∧ H1 = HZ) IZ ⟨.ref f, hs, rfl, rfl⟩) fun u s1 ⟨v, H1, I1, r1, q1⟩ => ?_)
  obtain ⟨ev, eH⟩ := q1
  subst ev
  rw [eH] at I1
  obtain rfl : u = Value.ref f := r1
  have ofA : ∀ {s2 : Shared} {H2 : Hp} {σ2 : L2.St} {pins2}, Inv (cxOf CXg X.prog X.w X.K X.mg X.base Ng qg sg g cdg X.A X.stack s H Eg) pins2 σ2 H2 s2 → s2.heap.get? f = some (PySem.W.kla_obj "<lambda>" (lamQ X) params body scope (cloFrom X.env.cells scope.names []) pm c' ctv) := fun I2 => I2.base.keep f _ hf hfn hfr (fun z => nomatch (show f ∈ ([] : List Addr) from z))
  let Q' : List V → Hp → Prop := fun vs H1 => match vs with
    | [v] => H1 c' = some (CodeO c' (lamQ X)) ∧ tb (some v :: σ) H1 Q
    | _ => False
  have ht' : tCons te tNil σZ HZ Q' := ht
  refine PySem.W.callWith_F (q := f) ⟨_, _, _, _, ofA I1⟩ (thn ((pa_cons he pa_nil hst).run p2 pinsZ s1 σZ HZ Q' I1 ht') fun us s2 ⟨vs, H2, I2, r, q2⟩ => ⟨⟨_, _, _, _, ofA I2⟩, ?_⟩) hst hpl
  match vs, q2, r with
  | [v], q2, r =>
  obtain ⟨hc, hq⟩ := q2
  have r1 : ∃ u, us = [u] ∧ RelV v u := by
    cases r with
    | cons a b => cases b; exact ⟨_, rfl, a⟩
  obtain ⟨u, rfl, rv⟩ := r1
  have of1 := ofA I2
  have un : Un (frs X.stack) [] H H2 s.heap s2.heap := I2.base
  obtain ⟨⟨oc, cs, t, hoc, hdc, hvc⟩, _, _⟩ := I2.hok c' _ hc
  have rc : codeAny (model X.prog X.w) (X.A.deeper (envOfC qg sg s.heap.objs.size g cdg)) (.call (.ref f) ⟨[u], []⟩) (CR (L2.CX X.prog X.w) (envOfC qg sg s.heap.objs.size g cdg :: X.stack) X.prog X.w H2 s2 Q (fun _ _ _ => False)) s2 := by
    refine PySem.W.kla_callFunE hr.depth of1 rfl L.co L.gen rfl ⟨c', oc, cs, t, rfl, hoc, hdc, hvc⟩ ?_
    rw [hbind]
    refine wpAny_pure (wpAny_newFunctionEnv (fun z hz => (L.own z hz).1) (fun z hz => by rw [List.mem_singleton.mp hz]; exact L.loc) (fun h₁ hns hsb => ⟨I2.nolimit.fresh _ hsb, ?_⟩) L.kind)
    show codeAny _ _ (.expr body (lamEnv X scope s2.heap.objs.size f c')) _ _
    have kp : ∀ b o, s2.heap.get? b = some o → h₁.get? b = some o := fun b o e => hsb.extBut b o (Nat.ne_of_lt (Heap.lt_size e)) (Heap.get?_push_of_some _ e)
    have J : Inv (lamCx1 X (X.A.deeper (envOfC qg sg s.heap.objs.size g cdg)) (envOfC qg sg s.heap.objs.size g cdg :: X.stack) s2 H2 (fun _ _ _ => False) scope f c' y) [] (some v :: σ) H2 { s2 with heap := h₁, toks := s2.toks + ([(y, u)] : List (Str × Value)).length } :=
      lam_start3 I L hy rv I2.env0 hr.hd un hns kp
    refine PySem.W.kla_codeExpr (wpAny_mono ((hbody _ _ s2 H2 (hr.deeper _)).run [] _ _ H2 Q J hq) (fun v s' hq => ?_) fun e s' hq => hq)
    obtain ⟨w', H', J', rv, q⟩ := hq
    exact ⟨w', H', J'.os, J'.bare, J'.base, J'.hok, rv, q⟩
  have hx : Passes (L2.CX X.prog X.w) (cxOf CXg X.prog X.w X.K X.mg X.base Ng qg sg g cdg X.A X.stack s H Eg) (fun _ _ _ => False) := L2.passes_call L2.takes0 (fun _ _ _ _ z => z)
  refine wpAny_call (codeAny_mono rc fun r s' hq => ?_)
  cases r with
  | error e => exact hx pinsZ σZ H2 s2 e s' I2 hq
  | ok fl =>
    cases fl with
    | ret u => exact I2.after hq
    | next => exact False.elim hq
    | brk => exact False.elim hq
    | cont => exact False.elim hq
end
end DE

set_option maxHeartbeats 4000000
namespace DE
open PySem PySem.Spec PyProof.Rows L2 LamX
variable [τ : TabCtx]
/-- a call of the lambda in the def that got it -/
def ActP (Z : Cx) (Ng : List Str) (sg : Scope) (f c' : Addr) (q : Str) (tb : V → Hp → VK → Prop) : Prop := ∀ {i : Nat} {a : Str} {e : Expr} {te : TE} {p1 p2 : Pos}, Ng[i]? = some a → Vis sg a → PE Z e te → (a == ("__debug__" : Str)) = false → (a == ("__classdict__" : Str)) = false →
  starEach [e] Z.env = (false, eval e Z.env) :: starEach [] Z.env → (backTo p2 (starEach [] Z.env)).any (·.1) = false →
  PE Z (.Call (.Name a p1) [e] [] p2) (fun σZ HZ Q => σZ[i]? = some (some (.ref f)) ∧ te σZ HZ fun v H1 => H1 c' = some (CodeO c' q) ∧ tb v H1 Q)
section
variable {X : Cx} {C g cc P : Addr} {m sf a y qual : Str} {st : Stmt} {Ng : List Str} {k : Nat} {ta tbody : TE} {E : XK} {fd : FuncData} {o : Expr} {params : Arguments} {body : Expr} {scope : Scope} {apos pos lpos : Pos}
/-- o.m(lambda y: ..) -/
theorem pe_methLam {pl : Sem Bool} (he : PE X o ta) (c : Cls X.K C) (hm : Meth X.K C m g) (Fn : Fun X.K m qual st g fd) (bi : Binds X.K fd [sf, a] []) (Sg : FnScope Ng [sf, a] (defScope st)) (hR : Room (k + 2) X.A) (hx : Passes (L2.CX X.prog X.w) X E)
    (tb : TabB X.base X.mg cc P) (cd : X.env.code = .ref cc) (L : LamS1 X.env.scope scope y) (hy : y ∉ X.N) (hdef : defaultsOf params X.env = ([], []))
    (hbind : ∀ (q : Str) (cl : List (Str × Addr)) (pm cv ctv u : Value), bindArgs (PySem.W.kla_fn "<lambda>" q params body scope cl pm cv ctv) ⟨[u], []⟩ = pure [(y, u)])
    (hbody : ∀ (A : Around) (outer : List PySem.Env) (s : Shared) (H : Hp) (f c' : Addr), Room k (A.deeper (lamEnv X scope s.heap.objs.size f c')) → PE (lamCx1 X A outer s H (fun _ _ _ => False) scope f c' y) body tbody)
    (hst : starEach [.Lambda params body scope lpos] X.env = (false, eval (.Lambda params body scope lpos) X.env) :: starEach [] X.env := by rfl) (hpl : (backTo pos (starEach [] X.env)).any (·.1) = false := by rfl)
    (ht : eval (.Call (.Attribute o m apos) [.Lambda params body scope lpos] [] pos) X.env = (do
      let ov ← eval o X.env
      standAt apos.atName
      let (f, first) ← holding [ov] (getMethod ov m pl)
      callWith pos f first (backTo pos (starEach [.Lambda params body scope lpos] X.env)) (backToKw pos (keywordEach [] X.env))) := by rfl) :
    PE X (.Call (.Attribute o m apos) [.Lambda params body scope lpos] [] pos) (fun σ H Q => ta σ H fun x H1 => ∃ p dx fs, x = .ref p ∧ H1 p = some (.ins C dx fs) ∧ fs.lookup m = none ∧ TabS H1 P (lamQ X) ∧ ∀ (cdv : Value) (s1 : Shared) (H2 : Hp) (f c' : Addr),
      (∀ b o, b ≠ P → H1 b = some o → H2 b = some o) → TabS H2 P (lamQ X) → H2 c' = some (CodeO c' (lamQ X)) → Room (k + 1) (cxOf (L2.CX X.prog X.w) X.prog X.w X.K X.mg X.base Ng qual (defScope st) g cdv X.A X.stack s1 H2 E).A →
      ActP (cxOf (L2.CX X.prog X.w) X.prog X.w X.K X.mg X.base Ng qual (defScope st) g cdv X.A X.stack s1 H2 E) Ng (defScope st) f c' (lamQ X) (fun v => tbody (some v :: σ)) →
      ∃ t, PSs (cxOf (L2.CX X.prog X.w) X.prog X.w X.K X.mg X.base Ng qual (defScope st) g cdv X.A X.stack s1 H2 E) (defBody st) t ∧ t { nx := fun _ H' => Q .non H', rt := Q } (L2.start Ng [.ref p, .ref f]) H2) := by
  refine ⟨fun pins s σ H Q I h => ?_⟩
  refine PySem.W.methodCall_KW (pl := pl) (thn (he.run pins s σ H _ I h) fun u s1 ⟨x, H1, I1, rx, p, dx, fs, ex, ea, l, hT, q⟩ => ?_) ht
  subst ex
  obtain rfl : u = Value.ref p := rx
  refine getmeth_ok I1 ea c hm l ?_
  refine PySem.W.callWith_K (first := [.ref p]) (h₀ := X.base) I.ok.mod.kin hm.kp ?_ hst hpl
  rw [hst]
  refine Calls.spliced_cons (lam_new I1 tb cd hT hdef (L.has I1.ok) fun f c' pm' ctv H2 s2 I2 ot T1 hf hfn hfr hco => Calls.spliced_nil ⟨I2.kIn, ?_⟩)
  obtain ⟨oc, od, kV, doc, pm, an, cdv, ct, osl, rfl, lk, hcd⟩ := Fn.ex
  have run : codeAny (model X.prog X.w) X.A (.call (.ref g) ⟨[.ref p, .ref f], []⟩) (CR (L2.CX X.prog X.w) X.stack X.prog X.w H2 s2 Q E) s2 := by
    refine run_ofS (N := Ng) (ps := [sf, a]) (us := [.ref p, .ref f]) (vs := [.ref p, .ref f]) lk hcd Sg hR I2.env0 (bi s2 [.ref p, .ref f] I2.kIn rfl) (.cons rfl (.cons rfl .nil)) rfl fun hr1 => ?_
    refine q cdv s2 H2 f c' ot T1 hco hr1 ?_
    intro i a' e te p1 p2 hN hv hpe hd hcd' hst' hpl'
    exact pe_act1 (y := y) (k := k) I2 L hy hf hfn hfr (fun u => hbind _ _ _ _ _ u) hr1 (fun A outer s H hr => hbody A outer s H f c' hr) hN hv hpe hd hcd' hst' hpl'
  refine wpAny_call (codeAny_mono run fun r s' hq => ?_)
  cases r with
  | error e => exact hx pins σ H2 s2 e s' I2 hq
  | ok fl =>
    cases fl with
    | ret u => exact I2.after hq
    | next => exact False.elim hq
    | brk => exact False.elim hq
    | cont => exact False.elim hq
end
end DE

set_option maxHeartbeats 4000000
namespace DE
open PySem PySem.Spec PyProof.Rows L2 LamX
variable [τ : TabCtx]
theorem wpAny_assign_Attr {M : Model} {A : Around} {E : Value → Shared → Prop} {s : Shared} {env : PySem.Env} {o : Expr} {attr : Str} {pos : Pos} {v : Value} {Q : Unit → Shared → Prop} (h : wpAny M A (eval o env) (fun ov s₂ => wpAny M A (setAttr ov attr v) Q E s₂) E s) : wpAny M A (assign (.Attribute o attr pos) env v) Q E s := fun Γ p hΓ => by
  simp only [assign_Attribute, Sem.wp_bind', Sem.wp_holding, Sem.wp_cmd_standAt, Sem.wp_release, Sem.wp_pure']
  exact Sem.wp_mono M Γ _ (fun ov _ s₂ h₂ => h₂ Γ _ hΓ) (fun _ _ _ h' => h') _ _ (h Γ _ hΓ)
section
variable {X : Cx} {ta : TE} {o : Expr} {f : Str} {pos : Pos}
/-- o.f as a target -/
def gFld (K : PySem.W.Frag) (ta : TE) (f : Str) : TG := fun v σ H Q => ta σ H fun x H1 => ∃ (a C dx : Addr) (fs : List (Str × V)), x = .ref a ∧ H1 a = some (.ins C dx fs) ∧ Cls K C ∧ NoAttr K C f ∧ fs.length < 1000 ∧ Q σ (upd H1 a (.ins C dx (putF f v fs)))
theorem pg_fld (ha : PE X o ta) : PG X (.Attribute o f pos) (gFld X.K ta f) := by
  refine ⟨fun pins s σ H v u Q I r h => ?_⟩
  refine wpAny_assign_Attr (thn (ha.run pins s σ H _ I h) fun ov s2 ⟨x, H2, I2, rx, a, C, dx, fs, ex, ea, c, n, l, q2⟩ => ?_)
  subst ex
  obtain rfl : ov = Value.ref a := rx
  exact setattr_ok I2 ea c n l r fun s3 I3 => ⟨σ, _, I3, q2⟩
end
end DE

set_option maxHeartbeats 4000000
namespace DE
open PySem PySem.Spec PyProof.Rows L2 LamX
/-! methods, read off the top's heap -/
def mOf (C m qual : Str) (st : Stmt) : He.DefD := ⟨(C, some m), m, qual, defArgs st, defBody st, defScope st, [], []⟩
abbrev BindsM (m qual : Str) (st : Stmt) (ps : List Str) : Prop := ∀ (kV doc pm : Value) (an : Option Addr) (cdv ct : Value) (us : List Value), us.length = ps.length → bindArgs (PySem.W.fnOf m qual (defArgs st) (defBody st) (defScope st) .none kV doc pm an cdv ct) ⟨us, []⟩ = pure (ps.zip us)
section
variable {K : PySem.W.Frag} {h : Heap} {mg : Str → Option Value} {fa : List He.Fa} {fn : List He.DefD} {ck : PySem.W.Frag → Bool} {tb : List Str}
theorem mth_of (c : He.SaysD fa fn K) {C m qual : Str} {st : Stmt} {ps : List Str} (i : Nat) (hb : BindsM m qual st ps) (hi : fn[i]? = some (mOf C m qual st) := by kernel_rfl) : ∃ fd, Fun K m qual st (He.ma K (He.ga K C) m) fd ∧ Binds K fd ps [] := by
  obtain ⟨fd, F⟩ := c.def_ i hi
  have F' : Fun K m qual st (He.ma K (He.ga K C) m) fd := He5.fun_of F
  exact ⟨fd, F', F'.binds hb⟩
theorem funC_ofM {name qual : Str} {st : Stmt} {f : Addr} {fd : FuncData} (F : FunD K name qual (defArgs st) (defBody st) (defScope st) [] [] f fd) : ∃ cdv, FunC K name qual st f fd cdv := by
  obtain ⟨⟨oc, od, kV, doc, pm, an, cdv, ct, osl, rfl, l, c⟩, _⟩ := (He5.fun_of F : Fun K name qual st f fd)
  exact ⟨cdv, ⟨oc, od, kV, doc, pm, an, ct, osl, rfl, l, c⟩⟩
theorem mthL_of (S : SaysY h K fa fn ck tb) {base : Heap} (TB : ∀ x ∈ tb, LamX.TabB base mg (codeA K x) (tabA K x)) {C m qual : Str} {st : Stmt} {ps : List Str} (i : Nat) (hb : BindsM m qual st ps) (hx : qual ∈ tb) (hp : pth qual = (C, some m) := by kernel_rfl) (hi : fn[i]? = some (mOf C m qual st) := by kernel_rfl) :
    ∃ fd c Pt, FunC K m qual st (He.ma K (He.ga K C) m) fd (.ref c) ∧ Binds K fd ps [] ∧ TabB base mg c Pt ∧ (tau K tb S.t.nd).T Pt (qual ++ ".<locals>." ++ "<lambda>") := by
  obtain ⟨fd, F⟩ := S.d.def_ i hi
  have F' : Fun K m qual st (He.ma K (He.ga K C) m) fd := He5.fun_of F
  obtain ⟨cdv, Fc⟩ := funC_ofM (K := K) (name := m) (qual := qual) (st := st) F
  have e := code_ofA (x := qual) (by rw [hp]; exact Fc) (S.t.all qual hx).1
  subst e
  exact ⟨fd, codeA K qual, tabA K qual, Fc, F'.binds hb, TB qual hx, ⟨qual, hx, rfl, rfl⟩⟩
end
end DE

set_option maxHeartbeats 4000000
namespace DE
open PySem PySem.Spec PyProof.Rows L2
variable [τ : TabCtx]
/-! for over a text's signs -/
def signsO : D → Option (List D)
  | .str z => if z.length ≤ maxL then some (z.cps.toList.map fun c => PyData.str ⟨#[c]⟩) else none
  | _ => none
section
variable {K : PySem.W.Frag} {mg : Str → Option Value} {F : Frm} {O N : Addr → Prop} {H : Hp}
theorem yi_str {z : Str} (hl : z.length ≤ maxL) : YI K mg F O N (Its z) H (z.cps.toList.map fun c => PyData.str ⟨#[c]⟩) := ⟨by rw [List.length_map, Array.length_toList]; exact hl, fun M' O' i H' d m o1 o2 e hd => by
  rw [List.getElem?_map] at hd
  cases q : z.cps.toList[i]? with
  | none => rw [q] at hd; cases hd
  | some c =>
    rw [q] at hd
    cases hd
    have hk : i < z.cps.size := by
      obtain ⟨l, _⟩ := List.getElem?_eq_some_iff.mp q
      rwa [Array.length_toList] at l
    refine ⟨hk, fun x H'' y => ?_⟩
    obtain ⟨rfl, c', hc, rfl⟩ := y
    rw [Array.getElem?_toList] at q
    rw [q] at hc
    cases hc
    exact ⟨.refl, .str _⟩, fun M' H' m e => by rw [List.length_map, Array.length_toList]; exact Nat.le_refl _⟩
end
section
variable {M : Type → Type} [SpecM M] {X : Cx} {W : WX} {Γ : List Slot} {e tg : Expr} {ma : M D}
theorem ji_str (ha : JE X W e Γ ma) : JI X W tg e Γ (bnd ma fun x => op (signsO x)) := fun F H σ E Q hq => by
  refine PI.wp (pi_str pe_sem) ?_
  refine ha.bind E hq fun d v H1 e1 E1 r1 h1 => ?_
  obtain ⟨xs, hz, q⟩ := post_ofO h1
  cases d <;> first | cases hz | skip
  rename_i z
  simp only [signsO] at hz
  split at hz <;> rename_i hl
  · cases hz
    exact ⟨z, r1.toStr, q _ H1 .refl (yi_str hl)⟩
  · cases hz
end
/-! a text times a number -/
theorem fold_rep (c : Array Nat) : ∀ (m : Nat) (a : Array Nat), (List.replicate m c).foldl (· ++ ·) a = ⟨a.toList ++ (List.replicate m c.toList).flatten⟩
  | 0, a => by simp
  | m + 1, a => by
    rw [List.replicate_succ, List.foldl_cons, fold_rep c m (a ++ c), List.replicate_succ, List.flatten_cons, Array.toList_append, List.append_assoc]
def repS (z : Str) (k : Int) : Str := ⟨⟨(List.replicate k.toNat z.cps.toList).flatten⟩⟩
def rRepS : R2 := fun x y H Q => ∃ (z : Str) (k : Int), x = .str z ∧ y = .int k ∧ 2 ≤ k ∧ k ≤ 1000000 ∧ 1 ≤ z.length ∧ z.length * k.toNat ≤ 1000000 ∧ Q (.str (repS z k)) H
theorem op_repS {X : Cx} : OpR X (binaryOp .Mult) rRepS := by
  intro pins s σ H x y v u Q I rx ry h
  obtain ⟨z, k, rfl, rfl, h1, h2, h3, h4, q⟩ := h
  obtain ⟨t, rfl⟩ := rx
  obtain ⟨t', rfl⟩ := ry
  have hz : z.length ≤ 1000000 := by
    have : z.length * 1 ≤ z.length * k.toNat := Nat.mul_le_mul_left _ (by omega)
    omega
  have hk : (k == 1 || z.length == 0) = false := by
    rw [Bool.or_eq_false_iff]
    exact ⟨beq_eq_false_iff_ne.mpr (by omega), beq_eq_false_iff_ne.mpr (by omega)⟩
  have e : (⟨(List.replicate k.toNat z.cps).foldl (· ++ ·) #[]⟩ : Str) = repS z k := by rw [fold_rep]; rfl
  refine PySem.P.mul_str ?_ (fun _ _ => ?_) (fun _ _ => ?_) ?_
  · rw [decide_eq_false (by omega), decide_eq_false (by omega)]; rfl
  · have : k ≤ 1000000 := h2
    have h5 : (9223372036854 : Int) ≤ (2 ^ 63 - 1) / k := by
      rw [Int.le_ediv_iff_mul_le (by omega)]
      omega
    omega
  · unfold Builtin.Str.tooLong
    rw [sizeLine_eq]
    exact decide_eq_false (by omega)
  · rw [if_neg (by omega), if_neg (by rw [hk]; decide), e]
    have hl : (repS z k).length ≤ 1000000 := by
      have : (repS z k).length = k.toNat * z.length := by
        show (List.replicate k.toNat z.cps.toList).flatten.length = _
        rw [List.length_flatten, List.map_replicate, List.sum_replicate_nat, Array.length_toList]
        rfl
      rw [this, Nat.mul_comm]
      exact h4
    refine ⟨?_, .str (repS z k), H, I.tok _, ⟨_, rfl⟩, q⟩
    rw [sizeLine_eq]
    omega
def repT : D → D → Option D
  | .str z, .int k => if decide (2 ≤ k) && decide (k ≤ 1000000) && decide (1 ≤ z.length) && decide (z.length * k.toNat ≤ 1000000) then some (.str (repS z k)) else none
  | x, y => repD x y
def rMulT (K : PySem.W.Frag) : R2 := fun x y H Q => rRepS x y H Q ∨ rMulA K x y H Q
theorem op_mulT {X : Cx} : OpR X (binaryOp .Mult) (rMulT X.K) := by
  intro pins s σ H x y v u Q I rx ry h
  rcases h with h | h
  · exact op_repS pins s σ H x y v u Q I rx ry h
  · exact op_mulA pins s σ H x y v u Q I rx ry h
theorem ro_mulT {X : Cx} : RO X (rMulT X.K) repT := fun O H x y dx dy d dm rx ry e Q q => by
  cases dx <;> cases dy <;> first
    | exact .inr (ro_mulA O H x y _ _ d dm rx ry e Q q)
    | skip
  simp only [repT] at e
  split at e <;> rename_i hz
  · cases e
    simp only [Bool.and_eq_true, decide_eq_true_eq] at hz
    obtain ⟨⟨⟨h1, h2⟩, h3⟩, h4⟩ := hz
    exact .inl ⟨_, _, rx.toStr, ry.toInt, h1, h2, h3, h4, q _ H (.refl H) (.str _)⟩
  · cases e
end DE

set_option maxHeartbeats 0
namespace DE
open PySem PySem.Spec PyProof.Rows L2
abbrev topS (i : Nat) : Stmt := PySem.Challenge.pw_stairgroups_k60_errors_of_texts.main.body.getD i (.Pass ⟨0, 0, 0, 0⟩)
def exLS : List Str := ["InvalidBook", "InvalidThing", "InvalidWord", "InvalidOperation", "ParseError"]
def exC : List Str := ["GroupError", "InvalidBook", "InvalidThing", "InvalidWord", "InvalidOperation", "ParseError"]
def exUp : List (Str × Str) := ([("InvalidBook", "GroupError"), ("InvalidThing", "GroupError"), ("InvalidWord", "GroupError"), ("InvalidOperation", "GroupError"), ("ParseError", "GroupError")] : List (Str × Str))
def subT (a b : Str) : Bool := a == b || exUp.contains (a, b)
abbrev in_ParseError : Stmt := initAt (topS 6) 0
theorem is_ParseError : InitS in_ParseError "spot" "spot" := ⟨⟨_, _, _, _, _, _, _, _, _, _, _, _, rfl, fun _ _ _ _ _ _ _ _ _ _ => rfl, ⟨_, rfl, rfl⟩, by kernel_rfl, by kernel_rfl, by kernel_rfl, by kernel_rfl, by decide +kernel, rfl, rfl, rfl, ⟨_, fun _ => rfl⟩⟩, by kernel_rfl, by kernel_rfl⟩
end DE

set_option maxHeartbeats 0
namespace DE
open PySem PySem.Spec PyProof.Rows L2
def EN_fa : List He.Fa := ([.glo "_law_word_of", .glo "_law_dice", .glo "_law_pick", .glo "_law_right", .glo "_law_roll", .glo "are_primes", .glo "are_turns", .glo "book_rows", .glo "book_text", .glo "is_behind", .glo "is_book_in", .glo "is_digits", .glo "is_free_word", .glo "is_letters", .glo "is_name", .glo "is_pair", .glo "is_row_of", .glo "is_vector_by", .glo "is_vector_in", .glo "is_whole", .glo "is_within", .glo "is_word_told", .glo "item_text", .glo "items_text", .glo "noughts_in"] : List He.Fa) ++ ([.glo "one_at", .glo "only_items", .glo "plain_book", .glo "read_book", .glo "read_items", .glo "read_thing", .glo "read_word", .glo "require_book_form", .glo "require_text", .glo "sign_word_end", .glo "sign_words", .glo "sign_words_in", .glo "thing_text", .glo "vector_text", .glo "vector_told", .glo "word_text", .glo "_law_reads", .glo "_law_tells", .glo "law", .free "abs", .free "all", .free "any", .free "bool", .free "enumerate", .free "int"] : List He.Fa) ++ ([.free "isinstance", .free "len", .free "list", .free "max", .free "min", .free "range", .free "repr", .free "str", .free "super", .free "tuple", .free "zip", .glo "InvalidBook", .glo "InvalidOperation", .glo "InvalidThing", .glo "InvalidWord", .glo "ParseError", .exc "InvalidBook", .exc "InvalidOperation", .exc "InvalidThing", .exc "InvalidWord", .glo "SignReader", .cls "SignReader", .noat "SignReader" "words", .noat "SignReader" "end", .noat "SignReader" "is_whole"] : List He.Fa) ++ ([.noat "SignReader" "at", .mkr "SignReader", .meth "SignReader" "is_over", .meth "SignReader" "next_word", .meth "SignReader" "spot", .meth "SignReader" "taken", .meth "SignReader" "told"] : List He.Fa)
def EN_fn : List He.DefD := ([dOf "_law_word_of" (topS 78), dOf "_law_dice" (topS 75), dOf "_law_pick" (topS 77), dOf "_law_right" (topS 81), dOf "_law_roll" (topS 76), dOf "are_primes" (topS 17), dOf "are_turns" (topS 20), dOf "book_rows" (topS 56), dOf "book_text" (topS 73), dOf "is_behind" (topS 19), dOf "is_book_in" (topS 21), dOf "is_digits" (topS 47), dOf "is_free_word" (topS 65), dOf "is_letters" (topS 46), dOf "is_name" (topS 48), dOf "is_pair" (topS 12), dOf "is_row_of" (topS 11), dOf "is_vector_by" (topS 18), dOf "is_vector_in" (topS 22), dOf "is_whole" (topS 9), dOf "is_within" (topS 10), dOf "is_word_told" (topS 57), dOf "item_text" (topS 61), dOf "items_text" (topS 62), dOf "noughts_in" (topS 23)] : List He.DefD) ++ ([dOf "one_at" (topS 24), dOf "only_items" (topS 54), dOf "plain_book" (topS 64), dOf "read_book" (topS 70), dOf "read_items" (topS 53), dOf "read_thing" (topS 69), dOf "read_word" (topS 68), dOf "require_book_form" (topS 25), dOf "require_text" (topS 66), dOf "sign_word_end" (topS 49), dOf "sign_words" (topS 67), dOf "sign_words_in" (topS 50), dOf "thing_text" (topS 72), dOf "vector_text" (topS 63), dOf "vector_told" (topS 58), dOf "word_text" (topS 71), dOf "_law_reads" (topS 79), dOf "_law_tells" (topS 80), dOf "law" (topS 82), mOf "SignReader" "__init__" "SignReader.__init__" (initAt (topS 51) 0), mOf "SignReader" "is_over" "SignReader.is_over" (initAt (topS 51) 2), mOf "SignReader" "next_word" "SignReader.next_word" (initAt (topS 51) 3), mOf "SignReader" "spot" "SignReader.spot" (initAt (topS 51) 4), mOf "SignReader" "taken" "SignReader.taken" (initAt (topS 51) 5), mOf "SignReader" "told" "SignReader.told" (initAt (topS 51) 6)] : List He.DefD)
def EN_cL : List (Str × D) := ([("BLANKS", (.str " 
")), ("BOOK_SIZE", (.int 3)), ("BY", (.str "by")), ("CARET", (.str "^")), ("COLON", (.str ":")), ("DIGITS", (.str "0123456789")), ("END", (.str ";")), ("LAYERS", (.str "layers")), ("LETTERS", (.str "abcdefghijklmnopqrstuvwxyz")), ("MARKS", (.str "^:;")), ("MOST_DIGITS", (.int 4)), ("MOST_ITEMS", (.int 100)), ("MOST_LAYERS", (.int 10)), ("MOST_LETTERS", (.int 8)), ("MOST_NAMES", (.int 10)), ("MOST_POWER", (.int 1000)), ("MOST_SIGNS", (.int 2000)), ("NAMES", (.str "abcdefghij")), ("ONE", (.str "one")), ("PAIR_SIZE", (.int 2)), ("POWER", (.str "power")), ("PRIMES", (.tuple [(.int 2), (.int 3), (.int 5), (.int 7)])), ("TURN", (.str "turn"))] : List (Str × D))
def EN_wl : List Str := ([] : List Str)
def EN_cks : List (PySem.W.Frag → Bool) := ([constsB EN_cL, wordsB EN_wl, fldsB ["ParseError"] "spot", subsB exLS exC subT, fun K => ownB K PySem.Challenge.pw_stairgroups_k60_errors_of_texts.main.file "ParseError" "spot" "ValueError" "ValueError.__new__" "ValueError.__init__" [.type "ValueError", .type "Exception", .type "BaseException", .type "object"]] : List (PySem.W.Frag → Bool))
def EN_ck (K : PySem.W.Frag) : Bool := EN_cks.all fun c => c K
def EN_is : List (Str × Stmt) := ([("ParseError", in_ParseError)] : List (Str × Stmt))
def EN_tb : List Str := (["_law_reads", "_law_tells", "SignReader.told"] : List Str)
def EN_names : List Str := (["GroupError", "InvalidBook", "InvalidThing", "InvalidWord", "InvalidOperation", "ParseError", "PAIR_SIZE", "is_whole", "is_within", "is_row_of", "is_pair", "MOST_LAYERS", "PRIMES", "BOOK_SIZE", "are_primes", "is_vector_by", "is_behind", "are_turns", "is_book_in", "is_vector_in", "noughts_in", "one_at", "require_book_form", "MOST_SIGNS", "MOST_LETTERS"] : List Str) ++ (["MOST_DIGITS", "MOST_ITEMS", "MOST_POWER", "MOST_NAMES", "LETTERS", "NAMES", "DIGITS", "BLANKS", "MARKS", "CARET", "COLON", "END", "ONE", "LAYERS", "POWER", "TURN", "BY", "is_letters", "is_digits", "is_name", "sign_word_end", "sign_words_in", "SignReader", "read_item", "read_items"] : List Str) ++ (["only_items", "read_row", "book_rows", "is_word_told", "vector_told", "rows_told", "book_told", "item_text", "items_text", "vector_text", "plain_book", "is_free_word", "require_text", "sign_words", "read_word", "read_thing", "read_book", "word_text", "thing_text", "book_text", "_law_dice", "_law_roll", "_law_pick", "_law_word_of", "_law_reads"] : List Str) ++ (["_law_tells", "_law_right"] : List Str)
abbrev EN_R : PySem.W.OpenRow := PySem.W.OpenLaw.row PySem.Challenge.rw_stairgroups_k60_errors_of_texts
abbrev EN_q : Program := PySem.W.view EN_R.prog [82]
abbrev EN_hk : PySem.W.Hook := hookZ 5 EN_fa EN_fn EN_ck EN_tb EN_is
def EN_ob (s : PySem.W.SharedT) : (He.AlD × Bool) × List FnI := obsZ 5 EN_fa EN_fn EN_ck EN_tb EN_is (HandSHeadRun.getT s)
theorem EN_ob_eq (s : PySem.W.SharedT) : EN_ob s = EN_hk.obs s.abs := obsZ_eq (HandSHeadRun.getT_eq s)
theorem EN_run (w : World) : HandSHeadRun.RunEq EN_R EN_q EN_hk EN_ob 6000 EN_names w := by
  intro os
  kernel_rfl
end DE

set_option maxHeartbeats 4000000
namespace DE
open PySem PySem.Spec PyProof.Rows L2 LamX
variable [τ : TabCtx]
/-! the reader of sign words -/
abbrev rdI : Stmt := initAt (topS 51) 0
abbrev rdO : Stmt := initAt (topS 51) 2
abbrev rdN : Stmt := initAt (topS 51) 3
abbrev rdS : Stmt := initAt (topS 51) 4
abbrev rdT : Stmt := initAt (topS 51) 5
abbrev rdD : Stmt := initAt (topS 51) 6
abbrev rdC (K : PySem.W.Frag) : Addr := He.ga K "SignReader"
abbrev rdM (K : PySem.W.Frag) (m : Str) : Addr := He.ma K (He.ga K "SignReader") m
structure RdrF (P : Program) (w : World) (K : PySem.W.Frag) (mg : Str → Option Value) (base : Heap) : Prop where
  mgC : mg "SignReader" = some (.ref (rdC K))
  cl : Cls K (rdC K)
  nW : NoAttr K (rdC K) "words"
  nE : NoAttr K (rdC K) "end"
  nI : NoAttr K (rdC K) "is_whole"
  nA : NoAttr K (rdC K) "at"
  mkr : Mk K (rdC K) (rdM K "__init__")
  mO : Meth K (rdC K) "is_over" (rdM K "is_over")
  mN : Meth K (rdC K) "next_word" (rdM K "next_word")
  mS : Meth K (rdC K) "spot" (rdM K "spot")
  mT : Meth K (rdC K) "taken" (rdM K "taken")
  mD : Meth K (rdC K) "told" (rdM K "told")
  fI : ∃ fd, Fun K "__init__" "SignReader.__init__" rdI (rdM K "__init__") fd ∧ Binds K fd ["self", "text"] []
  fO : ∃ fd, Fun K "is_over" "SignReader.is_over" rdO (rdM K "is_over") fd ∧ Binds K fd ["self"] []
  fN : ∃ fd, Fun K "next_word" "SignReader.next_word" rdN (rdM K "next_word") fd ∧ Binds K fd ["self"] []
  fS : ∃ fd, Fun K "spot" "SignReader.spot" rdS (rdM K "spot") fd ∧ Binds K fd ["self"] []
  fT : ∃ fd, Fun K "taken" "SignReader.taken" rdT (rdM K "taken") fd ∧ Binds K fd ["self", "is_let"] []
  fD : ∃ fd c Pt, FunC K "told" "SignReader.told" rdD (rdM K "told") fd (.ref c) ∧ Binds K fd ["self", "word"] [] ∧ TabB base mg c Pt ∧ τ.T Pt ("SignReader.told" ++ ".<locals>." ++ "<lambda>")
  len : mg "len" = none
  pe : XV K P mg "ParseError" "spot"
def rdF (L : Addr) (en : Int) (wh : Bool) (n : Int) : List (Str × V) := [("words", .ref L), ("end", .int en), ("is_whole", .bl wh), ("at", .int n)]
/-- a reader at p -/
structure RdAt (K : PySem.W.Frag) (mg : Str → Option Value) (O : Addr → Prop) (H : Hp) (p : Addr) (ws : List D) (en : Int) (wh : Bool) (n : Int) : Prop where
  own : O p
  ex : ∃ dx L, H p = some (.ins (rdC K) dx (rdF L en wh n)) ∧ Rep K mg O H (.ref L) (.list ws)
theorem rd_words (L : Addr) (en : Int) (wh : Bool) (n : Int) : (rdF L en wh n).lookup ("words" : Str) = some (.ref L) := by kernel_rfl
theorem rd_end (L : Addr) (en : Int) (wh : Bool) (n : Int) : (rdF L en wh n).lookup ("end" : Str) = some (.int en) := by kernel_rfl
theorem rd_whole (L : Addr) (en : Int) (wh : Bool) (n : Int) : (rdF L en wh n).lookup ("is_whole" : Str) = some (.bl wh) := by kernel_rfl
theorem rd_at (L : Addr) (en : Int) (wh : Bool) (n : Int) : (rdF L en wh n).lookup ("at" : Str) = some (.int n) := by kernel_rfl
/-- the next sign word with its spot; none at the end -/
def nextD (ws : List D) (n : Int) : Option (Option (Str × Int)) := if n = ws.length then some none else match atI ws n with
  | some (.tuple [.str w, .int s]) => some (some (w, s))
  | _ => none
theorem nextD_at {ws : List D} {n : Int} {w : Str} {s : Int} (h : nextD ws n = some (some (w, s))) : n ≠ ws.length ∧ atI ws n = some (.tuple [.str w, .int s]) := by
  unfold nextD at h
  split at h
  · cases h
  · rename_i hn
    split at h
    · rename_i e
      cases h
      exact ⟨hn, e⟩
    · cases h
theorem nextD_end {ws : List D} {n : Int} (h : nextD ws n = some none) : n = ws.length := by
  unfold nextD at h
  split at h
  · assumption
  · split at h <;> cases h
theorem word_at {K : PySem.W.Frag} {mg : Str → Option Value} {O : Addr → Prop} {H : Hp} {xs : List V} {ws : List D} {n : Int} {w : Str} {s : Int} (r : Reps K mg O H xs ws) (h : atI ws n = some (.tuple [.str w, .int s])) : ∃ t, atI xs n = some (.ref t) ∧ SqT K H t [.str w, .int s] := by
  obtain ⟨v, h1, h2⟩ := atI_reps r h
  obtain ⟨a, ys, rfl, h3, h4⟩ := h2.tuple
  obtain ⟨u, q1, rfl, k3, k4⟩ := h4.cons_of
  obtain ⟨u2, q2, rfl, k5, k6⟩ := k4.cons_of
  rw [k6.nil_of, k3.toStr, k5.toInt] at h3
  exact ⟨a, h1, h3⟩
/-- in range: from 0 on, below the end -/
def inW (ws : List D) (n : Int) : Prop := 0 ≤ n ∧ n ≤ ws.length
section
variable {P : Program} {w : World} {K : PySem.W.Frag} {mg : Str → Option Value} {base : Heap}
theorem scO : FnScope ["self"] ["self"] (defScope rdO) := ⟨rfl, rfl, rfl, by decide +kernel, rfl, by decide +kernel, by decide +kernel⟩
def spOver (K : PySem.W.Frag) (mg : Str → Option Value) : Sp := fun vs H Q _ => ∃ (O : Addr → Prop) (p : Addr) (ws : List D) (en : Int) (wh : Bool) (n : Int), vs = [.ref p] ∧ RdAt K mg O H p ws en wh n ∧ Q (.bl (wh && decide (n = ws.length))) H
theorem ok_over (T : RdrF P w K mg base) {fd : FuncData} (F : Fun K "is_over" "SignReader.is_over" rdO (rdM K "is_over") fd) : FnOk P w K mg base (L2.CX P w) 1 (rdM K "is_over") fd ["self"] (spOver K mg) := by
  refine F.okX scO (fun vs H Q E h => ?_) (fun cdv A outer s H vs Q E hr h => ?_)
  · obtain ⟨O, p, ws, en, wh, n, rfl, _⟩ := h
    rfl
  · obtain ⟨O, p, ws, en, wh, n, rfl, ⟨op, dx, L, hp, rl⟩, q⟩ := h
    obtain ⟨L', xs, eL, hL1, r⟩ := rl.list
    cases eL
    have hL := hL1.sq
    refine ⟨_, pss_one (ps_ret (pe_and (pe_fld (pv 0) rfl) (pe_one (pe_cmpR op_eq (pe_fld (pv 0) rfl) (pe_callB call_len_seq (by rfl) T.len PySem.boot_len (pa_cons (pe_fld (pv 0) rfl) pa_nil)) (nomark _))))), ?_⟩
    refine ⟨_, rfl, p, _, dx, _, _, rfl, hp, T.cl, T.nI, rd_whole _ _ _ _, wh, rfl, ?_⟩
    cases wh with
    | false => exact iteF q
    | true =>
      refine iteT ⟨_, rfl, p, _, dx, _, _, rfl, hp, T.cl, T.nA, rd_at _ _ _ _, ?_⟩
      refine ⟨_, rfl, p, _, dx, _, _, rfl, hp, T.cl, T.nW, rd_words _ _ _ _, L, xs, rfl, .inl (hL), ?_⟩
      have e : decide (V.int n = V.int xs.length) = (true && decide (n = ws.length)) := by
        rw [r.length, Bool.true_and]
        simp
      refine ⟨rfl, ?_⟩
      show Q (.bl (decide (V.int n = V.int xs.length))) H
      rw [e]
      exact q
theorem scN : FnScope ["self"] ["self"] (defScope rdN) := ⟨rfl, rfl, rfl, by decide +kernel, rfl, by decide +kernel, by decide +kernel⟩
def spNext (K : PySem.W.Frag) (mg : Str → Option Value) : Sp := fun vs H Q _ => ∃ (O : Addr → Prop) (p : Addr) (ws : List D) (en : Int) (wh : Bool) (n : Int), vs = [.ref p] ∧ RdAt K mg O H p ws en wh n ∧ n ≤ ws.length ∧ ((nextD ws n = some none ∧ Q (.str "") H) ∨ ∃ w s, nextD ws n = some (some (w, s)) ∧ Q (.str w) H)
theorem ok_next (T : RdrF P w K mg base) {fd : FuncData} (F : Fun K "next_word" "SignReader.next_word" rdN (rdM K "next_word") fd) : FnOk P w K mg base (L2.CX P w) 1 (rdM K "next_word") fd ["self"] (spNext K mg) := by
  refine F.okX scN (fun vs H Q E h => ?_) (fun cdv A outer s H vs Q E hr h => ?_)
  · obtain ⟨O, p, ws, en, wh, n, rfl, _⟩ := h
    rfl
  · obtain ⟨O, p, ws, en, wh, n, rfl, ⟨op, dx, L, hp, rl⟩, hn, q⟩ := h
    obtain ⟨L', xs, eL, hL1, r⟩ := rl.list
    cases eL
    have hL := hL1.sq
    refine ⟨_, pss_one (ps_ret (pe_ifExp (pt_cmpR op_lt (pe_fld (pv 0) rfl) (pe_callB call_len_seq (by rfl) T.len PySem.boot_len (pa_cons (pe_fld (pv 0) rfl) pa_nil)) (nomark _)) (pe_ix ix_seq (pe_ix ix_seq (pe_fld (pv 0) rfl) (pe_fld (pv 0) rfl) (by intro _ _; rfl)) pe_int (by intro _ _; rfl)) pe_str)), ?_⟩
    refine ⟨_, rfl, p, _, dx, _, _, rfl, hp, T.cl, T.nA, rd_at _ _ _ _, ?_⟩
    refine ⟨_, rfl, p, _, dx, _, _, rfl, hp, T.cl, T.nW, rd_words _ _ _ _, L, xs, rfl, .inl (hL), ?_⟩
    refine ⟨_, _, rfl, rfl, ?_⟩
    rcases q with ⟨e, q⟩ | ⟨w1, s1, e, q⟩
    · have hl := nextD_end e
      have hd : decide (n < (xs.length : Int)) = false := by rw [r.length]; simp; omega
      exact ⟨false, by show V.bl (decide _) = _; rw [hd], iteF q⟩
    · obtain ⟨h1, h2⟩ := nextD_at e
      have hd : decide (n < (xs.length : Int)) = true := by rw [r.length]; simp; omega
      obtain ⟨t, h3, h4⟩ := word_at r h2
      refine ⟨true, by show V.bl (decide _) = _; rw [hd], iteT ⟨_, rfl, p, _, dx, _, _, rfl, hp, T.cl, T.nW, rd_words _ _ _ _, _, rfl, p, _, dx, _, _, rfl, hp, T.cl, T.nA, rd_at _ _ _ _, ?_⟩⟩
      refine .inl ⟨L, xs, n, _, rfl, rfl, hL, h3, ?_⟩
      exact .inr (.inl ⟨t, _, 0, _, rfl, rfl, h4, rfl, q⟩)
theorem scS : FnScope ["self"] ["self"] (defScope rdS) := ⟨rfl, rfl, rfl, by decide +kernel, rfl, by decide +kernel, by decide +kernel⟩
def spSpot (K : PySem.W.Frag) (mg : Str → Option Value) : Sp := fun vs H Q _ => ∃ (O : Addr → Prop) (p : Addr) (ws : List D) (en : Int) (wh : Bool) (n : Int), vs = [.ref p] ∧ RdAt K mg O H p ws en wh n ∧ n ≤ ws.length ∧ ((nextD ws n = some none ∧ Q (.int en) H) ∨ ∃ w s, nextD ws n = some (some (w, s)) ∧ Q (.int s) H)
theorem ok_spot (T : RdrF P w K mg base) {fd : FuncData} (F : Fun K "spot" "SignReader.spot" rdS (rdM K "spot") fd) : FnOk P w K mg base (L2.CX P w) 1 (rdM K "spot") fd ["self"] (spSpot K mg) := by
  refine F.okX scS (fun vs H Q E h => ?_) (fun cdv A outer s H vs Q E hr h => ?_)
  · obtain ⟨O, p, ws, en, wh, n, rfl, _⟩ := h
    rfl
  · obtain ⟨O, p, ws, en, wh, n, rfl, ⟨op, dx, L, hp, rl⟩, hn, q⟩ := h
    obtain ⟨L', xs, eL, hL1, r⟩ := rl.list
    cases eL
    have hL := hL1.sq
    refine ⟨_, pss_one (ps_ret (pe_ifExp (pt_cmpR op_lt (pe_fld (pv 0) rfl) (pe_callB call_len_seq (by rfl) T.len PySem.boot_len (pa_cons (pe_fld (pv 0) rfl) pa_nil)) (nomark _)) (pe_ix ix_seq (pe_ix ix_seq (pe_fld (pv 0) rfl) (pe_fld (pv 0) rfl) (by intro _ _; rfl)) pe_int (by intro _ _; rfl)) (pe_fld (pv 0) rfl))), ?_⟩
    refine ⟨_, rfl, p, _, dx, _, _, rfl, hp, T.cl, T.nA, rd_at _ _ _ _, ?_⟩
    refine ⟨_, rfl, p, _, dx, _, _, rfl, hp, T.cl, T.nW, rd_words _ _ _ _, L, xs, rfl, .inl (hL), ?_⟩
    refine ⟨_, _, rfl, rfl, ?_⟩
    rcases q with ⟨e, q⟩ | ⟨w1, s1, e, q⟩
    · have hl := nextD_end e
      have hd : decide (n < (xs.length : Int)) = false := by rw [r.length]; simp; omega
      exact ⟨false, by show V.bl (decide _) = _; rw [hd], iteF ⟨_, rfl, p, _, dx, _, _, rfl, hp, T.cl, T.nE, rd_end _ _ _ _, q⟩⟩
    · obtain ⟨h1, h2⟩ := nextD_at e
      have hd : decide (n < (xs.length : Int)) = true := by rw [r.length]; simp; omega
      obtain ⟨t, h3, h4⟩ := word_at r h2
      refine ⟨true, by show V.bl (decide _) = _; rw [hd], iteT ⟨_, rfl, p, _, dx, _, _, rfl, hp, T.cl, T.nW, rd_words _ _ _ _, _, rfl, p, _, dx, _, _, rfl, hp, T.cl, T.nA, rd_at _ _ _ _, ?_⟩⟩
      refine .inl ⟨L, xs, n, _, rfl, rfl, hL, h3, ?_⟩
      exact .inr (.inl ⟨t, _, 1, _, rfl, rfl, h4, rfl, q⟩)
end
end DE

set_option maxHeartbeats 4000000
namespace DE
open PySem PySem.Spec PyProof.Rows L2 LamX
variable [τ : TabCtx]
section
variable {P : Program} {w : World} {K : PySem.W.Frag} {mg : Str → Option Value} {base : Heap}
theorem rd_step (L : Addr) (en : Int) (wh : Bool) (n m : Int) : putF ("at" : Str) (.int m) (rdF L en wh n) = rdF L en wh m := by kernel_rfl
theorem scT : FnScope ["self", "is_let"] ["self", "is_let"] (defScope rdT) := ⟨rfl, rfl, rfl, by decide +kernel, rfl, by decide +kernel, by decide +kernel⟩
theorem scD : FnScope ["self", "word"] ["self", "word"] (defScope rdD) := ⟨rfl, rfl, rfl, by decide +kernel, rfl, by decide +kernel, by decide +kernel⟩
theorem ext_ins {H : Hp} {p C dx : Addr} {fs fs' : List (Str × V)} (h : H p = some (.ins C dx fs)) : Ext (fun a => a = p) (fun _ => False) H (upd H p (.ins C dx fs')) where
  keep := fun b o m t hb => by rw [upd_ne m]; exact hb
  there := fun b hb => by
    by_cases q : b = p
    · rw [q, upd_same]; exact fun z => nomatch z
    · rw [upd_ne q]; exact hb
  tups := fun b xs hb => by
    by_cases q : b = p
    · rw [q, h] at hb; cases hb
    · rw [upd_ne q]; exact hb
  frzs := fun b o u hb => by
    by_cases q : b = p
    · rw [q, h] at hb; cases hb
    · rw [upd_ne q]; exact hb
  dice := fun b z => z.elim
  tabs := fun P q hT t => by
    have k : ∀ b o, H b = some o → (∀ C dx fs, o ≠ .ins C dx fs) → (upd H p (.ins C dx fs')) b = some o := fun b o hb n => by
      by_cases q : b = p
      · rw [q, h] at hb; exact (n _ _ _ (Option.some.inj hb).symm).elim
      · rw [upd_ne q]; exact hb
    obtain ⟨ps, t1, t2, t3⟩ := t
    exact ⟨ps, k _ _ t1 (fun _ _ _ z => nomatch z), t2, fun pos cv hc => by
      obtain ⟨c, t4, t5⟩ := t3 pos cv hc
      exact ⟨c, t4, k _ _ t5 (fun _ _ _ z => nomatch z)⟩⟩
/-- what told(word) ends in -/
def PostTold (K : PySem.W.Frag) (mg : Str → Option Value) (O : Addr → Prop) (H : Hp) (p : Addr) (ws : List D) (en : Int) (wh : Bool) (n : Int) (word : Str) (Q : VK) (E : XK) : Prop :=
  let ex := fun s : Int => ∀ cls dx H', Ext (fun a => a = p) (fun _ => False) H H' → ExcRep K mg O ⟨"ParseError", some ("spot", .int s)⟩ cls dx H' → E cls dx H'
  (nextD ws n = some none ∧ ex en) ∨ ∃ w s, nextD ws n = some (some (w, s)) ∧ (w ≠ word → ex s) ∧ (w = word → ∀ H', Ext (fun a => a = p) (fun _ => False) H H' → RdAt K mg O H' p ws en wh (n + 1) → Q .non H')
def spTold (K : PySem.W.Frag) (mg : Str → Option Value) : Sp := fun vs H Q E => ∃ (O : Addr → Prop) (p : Addr) (ws : List D) (en : Int) (wh : Bool) (n : Int) (word : Str), vs = [.ref p, .str word] ∧ TabsOK H ∧ RdAt K mg O H p ws en wh n ∧ 0 ≤ n ∧ n ≤ ws.length ∧ PostTold K mg O H p ws en wh n word Q E
theorem ok_told (T : RdrF P w K mg base) {fd : FuncData} {c Pt : Addr} (F : FunC K "told" "SignReader.told" rdD (rdM K "told") fd (.ref c)) (tb : TabB base mg c Pt) (hI : τ.T Pt ("SignReader.told" ++ ".<locals>." ++ "<lambda>")) : FnOk P w K mg base (L2.CX P w) 5 (rdM K "told") fd ["self", "word"] (spTold K mg) := by
  obtain ⟨oc, od, kV, doc, pm, an, ct, osl, rfl, lk, hcd⟩ := F.ex
  obtain ⟨fdT, FT, bT⟩ := T.fT
  refine fn_of lk hcd scD (fun vs H Q E h => ?_) fun A outer s H vs Q E hr h => ?_
  · obtain ⟨O, p, ws, en, wh, n, word, rfl, _⟩ := h
    rfl
  · obtain ⟨O, p, ws, en, wh, n, word, rfl, ht, R, n0, n1, q⟩ := h
    refine ⟨_, pss_one (ps_expr (pe_methLam (k := 2) (y := "one") (E := E) (pv 0) T.cl T.mT FT bT scT hr (L2.passes_call (takes_of rfl rfl rfl rfl) fun _ _ _ _ h => h) tb rfl (lamS1_by (by kernel_rfl)) (by show ("one" : Str) ∉ (["self", "word"] : List Str); decide +kernel) rfl (fun _ _ _ _ _ _ => rfl) (fun A outer s H f c' hr => pe_cmpR op_eq (pv 0) (pv 2) (nomark _)))), ?_⟩
    obtain ⟨op, dx, L, hp, rl⟩ := R
    refine ⟨_, rfl, p, dx, _, rfl, hp, (by kernel_rfl), ht Pt _ hI, fun cdv s1 H2 f c' ot T1 hco hr1 act => ?_⟩
    have e2 : Ext (fun a => a = p) (fun _ => False) H H2 := Ext.tab1 hI (ht Pt _ hI) ot T1
    have nt : ∀ b o, H b = some o → (∀ z, o ≠ .tbl z) → H2 b = some o := fun b o h n => ot b o (fun z => by
      obtain ⟨ps, hP, _⟩ := ht Pt _ hI
      rw [z, hP] at h
      exact n ps (Option.some.inj h).symm) h
    have hp2 := nt p _ hp (fun _ z => nomatch z)
    have rl2 : Rep K mg O H2 (.ref L) (.list ws) := rl.ext (Ext.tab1 hI (ht Pt _ hI) ot T1 : Ext (fun _ => False) (fun _ => False) H H2) (fun _ z => z.elim)
    obtain ⟨L', xs, eL, hL1, r2⟩ := rl2.list
    cases eL
    have hL2 := hL1.sq
    have r := r2
    obtain ⟨C, fI, B, nn, i, bm, y, gC, TX, kC, tC, tI, bC⟩ := T.pe.ex
    obtain ⟨fdS, FS, bS⟩ := T.fS
    refine ⟨_, pss_cons (ps_if (pw_or (pt_cmpR op_eq (pe_fld (pv 0) rfl) (pe_callB call_len_seq (by rfl) T.len PySem.boot_len (pa_cons (pe_fld (pv 0) rfl) pa_nil)) (nomark _)) (pw_or1 (pt_not (pt_val (act (i := 1) (a := "is_let") rfl (.inl (by kernel_rfl)) (pe_ix ix_seq (pe_ix ix_seq (pe_fld (pv 0) rfl) (pe_fld (pv 0) rfl) (by intro _ _; rfl)) pe_int (by intro _ _; rfl)) (by kernel_rfl) (by kernel_rfl) (by rfl) (by rfl)))))).pt
      (pss_one (ps_raise rfl (takes_of rfl rfl rfl rfl) (pmk_own1 gC kC tC bC TX tI T.pe.sup T.pe.top hr1 (pa_cons (pe_meth0 (E := fun _ _ _ => False) (pv 0) T.cl T.mS (ok_spot T FS) (hr1.mono (by decide)) bS .nil (L2.passes_call L2.takes0 fun _ _ _ _ z => z)) pa_nil) (by (show _ = _); kernel_rfl) (by kernel_rfl) rfl rfl))) pss_nil)
      (pss_cons (ps_fldaug (pv 0) pe_int in_add) (pss_one (ps_ret (pe_ix ix_seq (pe_ix ix_seq (pe_fld (pv 0) rfl) (pe_op op_sub (pe_fld (pv 0) rfl) pe_int) (by intro _ _; rfl)) pe_int (by intro _ _; rfl))))), ?_⟩
    have R2 : RdAt K mg O H2 p ws en wh n := ⟨op, dx, L, hp2, rl2⟩
    -- the error
    have err : ∀ s : Int, (∀ cls dx H', Ext (fun a => a = p) (fun _ => False) H H' → ExcRep K mg O ⟨"ParseError", some ("spot", .int s)⟩ cls dx H' → E cls dx H') → ∀ dd, H2 dd = none → E (.ref C) (some dd) (upd H2 dd (.xd [("spot", .int s)])) := fun s he dd hdd => by
      refine he _ _ _ (e2.trans (.new hdd)) ⟨C, gC, rfl, fun f' d' e => ?_, fun e => nomatch e⟩
      cases e
      exact ⟨dd, .int s, rfl, upd_same, .int s⟩
    refine ⟨_, rfl, p, _, dx, _, _, rfl, hp2, T.cl, T.nA, rd_at _ _ _ _, ?_⟩
    refine ⟨_, rfl, p, _, dx, _, _, rfl, hp2, T.cl, T.nW, rd_words _ _ _ _, L, xs, rfl, .inl (hL2), rfl, ?_⟩
    rcases q with ⟨e, q⟩ | ⟨w1, s1', e, qne, qeq⟩
    · have hl := nextD_end e
      refine ⟨true, by show V.bl (decide _) = _; rw [r.length, hl]; simp, iteT (iteT ?_)⟩
      exact ⟨_, rfl, p, dx, _, rfl, hp2, (by kernel_rfl), O, p, ws, en, wh, n, rfl, R2, n1, .inl ⟨e, .int en, rfl, err en q⟩⟩
    · obtain ⟨h1, h2⟩ := nextD_at e
      obtain ⟨t, h3, h4⟩ := word_at r2 h2
      refine ⟨false, by show V.bl (decide _) = _; rw [r.length]; simp; exact h1, iteF ?_⟩
      refine ⟨rfl, _, rfl, p, _, dx, _, _, rfl, hp2, T.cl, T.nW, rd_words _ _ _ _, _, rfl, p, _, dx, _, _, rfl, hp2, T.cl, T.nA, rd_at _ _ _ _, ?_⟩
      refine .inl ⟨L, xs, n, _, rfl, rfl, hL2, h3, ?_⟩
      refine .inr (.inl ⟨t, _, 0, _, rfl, rfl, h4, rfl, hco, ?_⟩)
      refine ⟨_, rfl, _, rfl, rfl, _, rfl, ?_⟩
      by_cases hw : w1 = word
      · have e1 : decide (V.str w1 = V.str word) = true := by rw [hw]; simp
        rw [e1]
        refine iteF ?_
        refine ⟨_, rfl, p, _, dx, _, _, rfl, hp2, T.cl, T.nA, rd_at _ _ _ _, n, 1, rfl, rfl, dx, _, hp2, (by show (4 : Nat) < 1000; decide), ?_⟩
        rw [rd_step]
        have e3 : Ext (fun a => a = p) (fun _ => False) H2 (upd H2 p (.ins (rdC K) dx (rdF L en wh (n + 1)))) := ext_ins hp2
        have rl3 := rl2.ext e3 fun a z => z ▸ op
        obtain ⟨L3, xs3, eL3, hL31, r3⟩ := rl3.list
        cases eL3
        have hL3 := hL31.sq
        obtain ⟨t3, h33, h43⟩ := word_at r3 h2
        refine ⟨_, rfl, p, _, dx, _, _, rfl, upd_same, T.cl, T.nW, rd_words _ _ _ _, _, rfl, p, _, dx, _, _, rfl, upd_same, T.cl, T.nA, rd_at _ _ _ _, n + 1, 1, rfl, rfl, ?_⟩
        refine .inl ⟨L, xs3, n + 1 - 1, _, rfl, rfl, hL3, by rw [Int.add_sub_cancel]; exact h33, ?_⟩
        refine .inr (.inl ⟨t3, _, 0, _, rfl, rfl, h43, rfl, ?_⟩)
        exact qeq hw _ (e2.trans e3) ⟨op, dx, L, upd_same, rl3⟩
      · have e1 : decide (V.str w1 = V.str word) = false := by simp [hw]
        rw [e1]
        refine iteT ?_
        exact ⟨_, rfl, p, dx, _, rfl, hp2, (by kernel_rfl), O, p, ws, en, wh, n, rfl, R2, n1, .inr ⟨w1, s1', e, .int s1', rfl, err s1' (qne hw)⟩⟩
end
end DE

set_option maxHeartbeats 4000000
namespace DE
open PySem PySem.Spec PyProof.Rows L2
variable [τ : TabCtx]
structure Facts (P : Program) (w : World) (K : PySem.W.Frag) (mg : Str → Option Value) (base : Heap) : Prop where
  W__law_word_of : WordA K mg "_law_word_of" "call" (topS 78) ["call", "error"] exLS subT [("InvalidBook", (fun _ => some (.str "book"))), ("InvalidThing", (fun _ => some (.str "thing"))), ("InvalidWord", (fun _ => some (.str "word"))), ("InvalidOperation", (fun _ => some (.str "operation"))), ("ParseError", (catE (fun _ => some (.str "spot ")) (repE (fldE ["ParseError"] "spot"))))] "fine"
  b_abs : mg "abs" = none
  b_all : mg "all" = none
  b_any : mg "any" = none
  b_bool : mg "bool" = none
  b_enumerate : mg "enumerate" = none
  b_int : mg "int" = none
  b_isinstance : mg "isinstance" = none
  b_len : mg "len" = none
  b_list : mg "list" = none
  b_max : mg "max" = none
  b_min : mg "min" = none
  b_range : mg "range" = none
  b_repr : mg "repr" = none
  b_str : mg "str" = none
  b_super : mg "super" = none
  b_tuple : mg "tuple" = none
  b_zip : mg "zip" = none
  c_BLANKS : GC K mg "BLANKS" (.str " 
")
  c_BOOK_SIZE : GC K mg "BOOK_SIZE" (.int 3)
  c_BY : GC K mg "BY" (.str "by")
  c_CARET : GC K mg "CARET" (.str "^")
  c_COLON : GC K mg "COLON" (.str ":")
  c_DIGITS : GC K mg "DIGITS" (.str "0123456789")
  c_END : GC K mg "END" (.str ";")
  c_LAYERS : GC K mg "LAYERS" (.str "layers")
  c_LETTERS : GC K mg "LETTERS" (.str "abcdefghijklmnopqrstuvwxyz")
  c_MARKS : GC K mg "MARKS" (.str "^:;")
  c_MOST_DIGITS : GC K mg "MOST_DIGITS" (.int 4)
  c_MOST_ITEMS : GC K mg "MOST_ITEMS" (.int 100)
  c_MOST_LAYERS : GC K mg "MOST_LAYERS" (.int 10)
  c_MOST_LETTERS : GC K mg "MOST_LETTERS" (.int 8)
  c_MOST_NAMES : GC K mg "MOST_NAMES" (.int 10)
  c_MOST_POWER : GC K mg "MOST_POWER" (.int 1000)
  c_MOST_SIGNS : GC K mg "MOST_SIGNS" (.int 2000)
  c_NAMES : GC K mg "NAMES" (.str "abcdefghij")
  c_ONE : GC K mg "ONE" (.str "one")
  c_PAIR_SIZE : GC K mg "PAIR_SIZE" (.int 2)
  c_POWER : GC K mg "POWER" (.str "power")
  c_PRIMES : GC K mg "PRIMES" (.tuple [(.int 2), (.int 3), (.int 5), (.int 7)])
  c_TURN : GC K mg "TURN" (.str "turn")
  d_ParseError_spot : ∀ x ∈ (["ParseError"] : List Str), ∀ C, mg x = some (Value.ref C) → XfC K C ∧ PySem.W.findIn K (.ref C) "spot" = some none
  f__law_dice : FnF K mg "_law_dice" (topS 75) ["script", "spot"]
  f__law_pick : FnF K mg "_law_pick" (topS 77) ["dice", "items"]
  f__law_right : FnF K mg "_law_right" (topS 81) ["dice"]
  f__law_roll : FnF K mg "_law_roll" (topS 76) ["dice", "total"]
  f_are_primes : FnF K mg "are_primes" (topS 17) ["value", "most"]
  f_are_turns : FnF K mg "are_turns" (topS 20) ["primes", "i", "value"]
  f_book_rows : FnF K mg "book_rows" (topS 56) ["text"]
  f_book_text : FnF K mg "book_text" (topS 73) ["book"]
  f_is_behind : FnF K mg "is_behind" (topS 19) ["primes", "i", "value"]
  f_is_book_in : FnF K mg "is_book_in" (topS 21) ["value"]
  f_is_digits : FnF K mg "is_digits" (topS 47) ["word"]
  f_is_free_word : FnF K mg "is_free_word" (topS 65) ["value"]
  f_is_letters : FnF K mg "is_letters" (topS 46) ["word"]
  f_is_name : FnF K mg "is_name" (topS 48) ["word"]
  f_is_pair : FnF K mg "is_pair" (topS 12) ["value"]
  f_is_row_of : FnF K mg "is_row_of" (topS 11) ["value", "least", "most"]
  f_is_vector_by : FnF K mg "is_vector_by" (topS 18) ["primes", "value"]
  f_is_vector_in : FnF K mg "is_vector_in" (topS 22) ["book", "value"]
  f_is_whole : FnF K mg "is_whole" (topS 9) ["value"]
  f_is_within : FnF K mg "is_within" (topS 10) ["value", "least", "most"]
  f_is_word_told : FnF K mg "is_word_told" (topS 57) ["items"]
  f_item_text : FnF K mg "item_text" (topS 61) ["i", "often"]
  f_items_text : FnF K mg "items_text" (topS 62) ["items"]
  f_noughts_in : FnF K mg "noughts_in" (topS 23) ["many"]
  f_one_at : FnF K mg "one_at" (topS 24) ["many", "i"]
  f_only_items : FnF K mg "only_items" (topS 54) ["text"]
  f_plain_book : FnF K mg "plain_book" (topS 64) ["book"]
  f_read_book : FnF K mg "read_book" (topS 70) ["text"]
  f_read_items : FnF K mg "read_items" (topS 53) ["reader"]
  f_read_thing : FnF K mg "read_thing" (topS 69) ["book", "text"]
  f_read_word : FnF K mg "read_word" (topS 68) ["text"]
  f_require_book_form : FnF K mg "require_book_form" (topS 25) ["book"]
  f_require_text : FnF K mg "require_text" (topS 66) ["text"]
  f_sign_word_end : FnF K mg "sign_word_end" (topS 49) ["text", "spot"]
  f_sign_words : FnF K mg "sign_words" (topS 67) ["text"]
  f_sign_words_in : FnF K mg "sign_words_in" (topS 50) ["text"]
  f_thing_text : FnF K mg "thing_text" (topS 72) ["book", "thing"]
  f_vector_text : FnF K mg "vector_text" (topS 63) ["vector"]
  f_vector_told : FnF K mg "vector_told" (topS 58) ["primes", "items"]
  f_word_text : FnF K mg "word_text" (topS 71) ["word"]
  k_InvalidBook : ∃ C, mg "InvalidBook" = some (Value.ref C)
  k_InvalidOperation : ∃ C, mg "InvalidOperation" = some (Value.ref C)
  k_InvalidThing : ∃ C, mg "InvalidThing" = some (Value.ref C)
  k_InvalidWord : ∃ C, mg "InvalidWord" = some (Value.ref C)
  k_ParseError : ∃ C, mg "ParseError" = some (Value.ref C)
  l__law_reads : FnL K mg base "_law_reads" (topS 79) ["book", "text"]
  l__law_tells : FnL K mg base "_law_tells" (topS 80) ["book", "thing", "word"]
  s_sub : ∀ a ∈ exLS, ∀ b ∈ exC, ∀ Ca, mg a = some (Value.ref Ca) → ∃ Cb, mg b = some (Value.ref Cb) ∧ PySem.W.exmOne K (.ref Ca) (.ref Cb) = some (subT a b)
  v_ParseError : XV K P mg "ParseError" "spot"
  x_InvalidBook : XF K mg "InvalidBook"
  x_InvalidOperation : XF K mg "InvalidOperation"
  x_InvalidThing : XF K mg "InvalidThing"
  x_InvalidWord : XF K mg "InvalidWord"
  R : RdrF P w K mg base
abbrev s_is_whole : Stmt := topS 9
theorem sc_is_whole : FnScope ["value"] ["value"] (defScope s_is_whole) := ⟨rfl, rfl, rfl, by decide +kernel, rfl, by decide +kernel, by decide +kernel⟩
def w_is_whole : {m : D → Res (Fl Unit Empty) // ∀ {P : Program} {w : World} {K : PySem.W.Frag} {mg : Str → Option Value} {base : Heap} (Fx : Facts P w K mg base) (f : Addr) (cdv : Value) (A : Around) (outer : List PySem.Env) (s : Shared) (H : Hp) (E : XK) (hr : Room 0 (Xd P w K mg base ["value"] "is_whole" s_is_whole f cdv A outer s H E).A), ∀ (v_value : D), JS (Xd P w K mg base ["value"] "is_whole" s_is_whole f cdv A outer s H E) (Wd E) [0] (defBody s_is_whole) [.dat v_value] (m v_value) (fun _ => [.any]) (fun t => nomatch t)} :=
  ⟨_, fun Fx f cdv A outer s H E hr v_value =>
    js_ret (je_and (je_isi .int (je_var 0 (d := v_value) (hv := .inl (by kernel_rfl))) Fx.b_isinstance Fx.b_int) (je_one (je_not (je_isi .bol (je_var 0 (d := v_value) (hv := .inl (by kernel_rfl))) Fx.b_isinstance Fx.b_bool))))⟩
def m_is_whole : List D → Res D := fn1 fun v_value => runF (w_is_whole.1 v_value)
theorem ok_is_whole {P : Program} {w : World} {K : PySem.W.Frag} {mg : Str → Option Value} {base : Heap} (Fx : Facts P w K mg base) : DefP P w K mg base "is_whole" 1 1 m_is_whole := by
  obtain ⟨f, fd, hm, kp, Fn, bi⟩ := Fx.f_is_whole.ex
  exact ⟨f, fd, ["value"], hm, kp, bi, fn_pure Fn sc_is_whole rfl [0] fn1_bad (fun cdv A outer s H E hr ds hd => by
      obtain ⟨a, rfl⟩ := len1 hd
      exact ⟨_, w_is_whole.1 a, rfl, w_is_whole.2 Fx f cdv A outer s H E hr a⟩), fn1_bad⟩
abbrev s_is_within : Stmt := topS 10
theorem sc_is_within : FnScope ["value", "least", "most"] ["value", "least", "most"] (defScope s_is_within) := ⟨rfl, rfl, rfl, by decide +kernel, rfl, by decide +kernel, by decide +kernel⟩
def w_is_within : {m : D → D → D → Res (Fl Unit Empty) // ∀ {P : Program} {w : World} {K : PySem.W.Frag} {mg : Str → Option Value} {base : Heap} (Fx : Facts P w K mg base) (f : Addr) (cdv : Value) (A : Around) (outer : List PySem.Env) (s : Shared) (H : Hp) (E : XK) (hr : Room 1 (Xd P w K mg base ["value", "least", "most"] "is_within" s_is_within f cdv A outer s H E).A), ∀ (v_value v_least v_most : D), JS (Xd P w K mg base ["value", "least", "most"] "is_within" s_is_within f cdv A outer s H E) (Wd E) [0, 1, 2] (defBody s_is_within) [.dat v_value, .dat v_least, .dat v_most] (m v_value v_least v_most) (fun _ => [.any, .any, .any]) (fun t => nomatch t)} :=
  ⟨_, fun Fx f cdv A outer s H E hr v_value v_least v_most =>
    js_ret (je_and (je_call (ok_is_whole Fx) hr (by decide) (takes_of rfl rfl rfl rfl) (ja_cons (je_var 0 (d := v_value) (hv := .inl (by kernel_rfl))) ja_nil)) (je_one (je_chain op_le op_le ro_le ro_le (je_var 1 (d := v_least) (hv := .inl (by kernel_rfl))) (je_var 0 (d := v_value) (hv := .inl (by kernel_rfl))) (je_var 2 (d := v_most) (hv := .inl (by kernel_rfl))))))⟩
def m_is_within : List D → Res D := fn3 fun v_value v_least v_most => runF (w_is_within.1 v_value v_least v_most)
theorem ok_is_within {P : Program} {w : World} {K : PySem.W.Frag} {mg : Str → Option Value} {base : Heap} (Fx : Facts P w K mg base) : DefP P w K mg base "is_within" 2 3 m_is_within := by
  obtain ⟨f, fd, hm, kp, Fn, bi⟩ := Fx.f_is_within.ex
  exact ⟨f, fd, ["value", "least", "most"], hm, kp, bi, fn_pure Fn sc_is_within rfl [0, 1, 2] fn3_bad (fun cdv A outer s H E hr ds hd => by
      obtain ⟨a, b, c, rfl⟩ := len3 hd
      exact ⟨_, w_is_within.1 a b c, rfl, w_is_within.2 Fx f cdv A outer s H E hr a b c⟩), fn3_bad⟩
abbrev s_is_row_of : Stmt := topS 11
theorem sc_is_row_of : FnScope ["value", "least", "most", "one"] ["value", "least", "most"] (defScope s_is_row_of) := ⟨rfl, rfl, rfl, by decide +kernel, rfl, by decide +kernel, by decide +kernel⟩
def w_is_row_of : {m : D → D → D → Res (Fl Unit Empty) // ∀ {P : Program} {w : World} {K : PySem.W.Frag} {mg : Str → Option Value} {base : Heap} (Fx : Facts P w K mg base) (f : Addr) (cdv : Value) (A : Around) (outer : List PySem.Env) (s : Shared) (H : Hp) (E : XK) (hr : Room 2 (Xd P w K mg base ["value", "least", "most", "one"] "is_row_of" s_is_row_of f cdv A outer s H E).A), ∀ (v_value v_least v_most : D), JS (Xd P w K mg base ["value", "least", "most", "one"] "is_row_of" s_is_row_of f cdv A outer s H E) (Wd E) [0, 1, 2, 3] (defBody s_is_row_of) [.dat v_value, .dat v_least, .dat v_most, .any] (m v_value v_least v_most) (fun _ => [.any, .any, .any, .any]) (fun t => nomatch t)} :=
  ⟨_, fun Fx f cdv A outer s H E hr v_value v_least v_most =>
    js_ret (je_and (je_isi .tup (je_var 0 (d := v_value) (hv := .inl (by kernel_rfl))) Fx.b_isinstance Fx.b_tuple) (je_one (je_callB1 (cr_all rfl) rc_all Fx.b_all (ha := (jq (je_jf (jf_lc rfl sc_is_row_of.nd (blkOk_by (own := [("one", 3)]) (by kernel_rfl)) (fun _ _ _ _ _ => (pg_name sc_is_row_of.nd (by kernel_rfl) (.inl (by kernel_rfl)))) (rd1 3 (jc (ji_seq (je_var 0 (d := v_value) (hv := .inl (by kernel_rfl))))) (by decide) (ht := fun d_one_1 _ _ _ _ _ => jts_nil) (he := fun d_one_1 _ _ _ _ _ => (je_call (ok_is_within Fx) hr (by decide) L2.takes0 (ja_cons (je_var 3 (d := d_one_1) (hv := .inl (by kernel_rfl))) (ja_cons (je_var 1 (d := v_least) (hv := .inr (.inl (by kernel_rfl)))) (ja_cons (je_var 2 (d := v_most) (hv := .inr (.inl (by kernel_rfl)))) ja_nil)))))))))))))⟩
def m_is_row_of : List D → Res D := fn3 fun v_value v_least v_most => runF (w_is_row_of.1 v_value v_least v_most)
theorem ok_is_row_of {P : Program} {w : World} {K : PySem.W.Frag} {mg : Str → Option Value} {base : Heap} (Fx : Facts P w K mg base) : DefP P w K mg base "is_row_of" 3 3 m_is_row_of := by
  obtain ⟨f, fd, hm, kp, Fn, bi⟩ := Fx.f_is_row_of.ex
  exact ⟨f, fd, ["value", "least", "most"], hm, kp, bi, fn_pure Fn sc_is_row_of rfl [0, 1, 2, 3] fn3_bad (fun cdv A outer s H E hr ds hd => by
      obtain ⟨a, b, c, rfl⟩ := len3 hd
      exact ⟨_, w_is_row_of.1 a b c, rfl, w_is_row_of.2 Fx f cdv A outer s H E hr a b c⟩), fn3_bad⟩
abbrev s_is_pair : Stmt := topS 12
theorem sc_is_pair : FnScope ["value"] ["value"] (defScope s_is_pair) := ⟨rfl, rfl, rfl, by decide +kernel, rfl, by decide +kernel, by decide +kernel⟩
def w_is_pair : {m : D → Res (Fl Unit Empty) // ∀ {P : Program} {w : World} {K : PySem.W.Frag} {mg : Str → Option Value} {base : Heap} (Fx : Facts P w K mg base) (f : Addr) (cdv : Value) (A : Around) (outer : List PySem.Env) (s : Shared) (H : Hp) (E : XK) (hr : Room 0 (Xd P w K mg base ["value"] "is_pair" s_is_pair f cdv A outer s H E).A), ∀ (v_value : D), JS (Xd P w K mg base ["value"] "is_pair" s_is_pair f cdv A outer s H E) (Wd E) [0] (defBody s_is_pair) [.dat v_value] (m v_value) (fun _ => [.any]) (fun t => nomatch t)} :=
  ⟨_, fun Fx f cdv A outer s H E hr v_value =>
    js_ret (je_and (je_isi .tup (je_var 0 (d := v_value) (hv := .inl (by kernel_rfl))) Fx.b_isinstance Fx.b_tuple) (je_one (je_cmp (op_eqD (uE hr)) ro_eq.ro (ha := (je_callB1 call_len rc_len Fx.b_len (ha := (jq (je_var 0 (d := v_value) (hv := .inl (by kernel_rfl))))))) (hb := (je_gc Fx.c_PAIR_SIZE)))))⟩
def m_is_pair : List D → Res D := fn1 fun v_value => runF (w_is_pair.1 v_value)
theorem ok_is_pair {P : Program} {w : World} {K : PySem.W.Frag} {mg : Str → Option Value} {base : Heap} (Fx : Facts P w K mg base) : DefP P w K mg base "is_pair" 1 1 m_is_pair := by
  obtain ⟨f, fd, hm, kp, Fn, bi⟩ := Fx.f_is_pair.ex
  exact ⟨f, fd, ["value"], hm, kp, bi, fn_pure Fn sc_is_pair rfl [0] fn1_bad (fun cdv A outer s H E hr ds hd => by
      obtain ⟨a, rfl⟩ := len1 hd
      exact ⟨_, w_is_pair.1 a, rfl, w_is_pair.2 Fx f cdv A outer s H E hr a⟩), fn1_bad⟩
abbrev s_are_primes : Stmt := topS 17
theorem sc_are_primes : FnScope ["value", "most", "p"] ["value", "most"] (defScope s_are_primes) := ⟨rfl, rfl, rfl, by decide +kernel, rfl, by decide +kernel, by decide +kernel⟩
def w_are_primes : {m : D → D → Res (Fl Unit Empty) // ∀ {P : Program} {w : World} {K : PySem.W.Frag} {mg : Str → Option Value} {base : Heap} (Fx : Facts P w K mg base) (f : Addr) (cdv : Value) (A : Around) (outer : List PySem.Env) (s : Shared) (H : Hp) (E : XK) (hr : Room 3 (Xd P w K mg base ["value", "most", "p"] "are_primes" s_are_primes f cdv A outer s H E).A), ∀ (v_value v_most : D), JS (Xd P w K mg base ["value", "most", "p"] "are_primes" s_are_primes f cdv A outer s H E) (Wd E) [0, 1, 2] (defBody s_are_primes) [.dat v_value, .dat v_most, .any] (m v_value v_most) (fun _ => [.any, .any, .any]) (fun t => nomatch t)} :=
  ⟨_, fun Fx f cdv A outer s H E hr v_value v_most =>
    js_if (U := Unit) (N1 := fun u_1 => [.dat v_value, .dat v_most, .any]) (jt_w (jw_or (jt_not (jt_tru (jq (je_isi .tup (je_var 0 (d := v_value) (hv := .inl (by kernel_rfl))) Fx.b_isinstance Fx.b_tuple)))) (jw_or1 (jt_not (jt_chain op_le op_le ro_le ro_le je_int (je_callB1 call_len rc_len Fx.b_len (ha := (jq (je_var 0 (d := v_value) (hv := .inl (by kernel_rfl)))))) (je_var 1 (d := v_most) (hv := .inl (by kernel_rfl)))))))) (js_ret je_bl) (js_nil () []) (fun u_1 => js_ret (je_and (je_call (ok_is_row_of Fx) hr (by decide) (takes_of rfl rfl rfl rfl) (ja_cons (je_var 0 (d := v_value) (hv := .inl (by kernel_rfl))) (ja_cons (je_ixT (jq (je_gc Fx.c_PRIMES)) je_int) (ja_cons (je_ixT (jq (je_gc Fx.c_PRIMES)) (je_un un_neg ru_neg je_int)) ja_nil)))) (je_one (je_callB1 (cr_all rfl) rc_all Fx.b_all (ha := (jq (je_jf (jf_lc rfl sc_are_primes.nd (blkOk_by (own := [("p", 2)]) (by kernel_rfl)) (fun _ _ _ _ _ => (pg_name sc_are_primes.nd (by kernel_rfl) (.inl (by kernel_rfl)))) (rd1 2 (jc (ji_seq (je_var 0 (d := v_value) (hv := .inl (by kernel_rfl))))) (by decide) (ht := fun d_p_2 _ _ _ _ _ => jts_nil) (he := fun d_p_2 _ _ _ _ _ => (je_cmp op_inT ro_inT (ha := (je_var 2 (d := d_p_2) (hv := .inl (by kernel_rfl)))) (hb := (je_gc Fx.c_PRIMES)))))))))))))⟩
def m_are_primes : List D → Res D := fn2 fun v_value v_most => runF (w_are_primes.1 v_value v_most)
theorem ok_are_primes {P : Program} {w : World} {K : PySem.W.Frag} {mg : Str → Option Value} {base : Heap} (Fx : Facts P w K mg base) : DefP P w K mg base "are_primes" 4 2 m_are_primes := by
  obtain ⟨f, fd, hm, kp, Fn, bi⟩ := Fx.f_are_primes.ex
  exact ⟨f, fd, ["value", "most"], hm, kp, bi, fn_pure Fn sc_are_primes rfl [0, 1, 2] fn2_bad (fun cdv A outer s H E hr ds hd => by
      obtain ⟨a, b, rfl⟩ := len2 hd
      exact ⟨_, w_are_primes.1 a b, rfl, w_are_primes.2 Fx f cdv A outer s H E hr a b⟩), fn2_bad⟩
abbrev s_is_vector_by : Stmt := topS 18
theorem sc_is_vector_by : FnScope ["primes", "value", "one", "p"] ["primes", "value"] (defScope s_is_vector_by) := ⟨rfl, rfl, rfl, by decide +kernel, rfl, by decide +kernel, by decide +kernel⟩
def w_is_vector_by : {m : D → D → Res (Fl Unit Empty) // ∀ {P : Program} {w : World} {K : PySem.W.Frag} {mg : Str → Option Value} {base : Heap} (Fx : Facts P w K mg base) (f : Addr) (cdv : Value) (A : Around) (outer : List PySem.Env) (s : Shared) (H : Hp) (E : XK) (hr : Room 2 (Xd P w K mg base ["primes", "value", "one", "p"] "is_vector_by" s_is_vector_by f cdv A outer s H E).A), ∀ (v_primes v_value : D), JS (Xd P w K mg base ["primes", "value", "one", "p"] "is_vector_by" s_is_vector_by f cdv A outer s H E) (Wd E) [0, 1, 2, 3] (defBody s_is_vector_by) [.dat v_primes, .dat v_value, .any, .any] (m v_primes v_value) (fun _ => [.any, .any, .any, .any]) (fun t => nomatch t)} :=
  ⟨_, fun Fx f cdv A outer s H E hr v_primes v_value =>
    js_if (U := Unit) (N1 := fun u_1 => [.dat v_primes, .dat v_value, .any, .any]) (jt_w (jw_or (jt_not (jt_tru (jq (je_isi .tup (je_var 1 (d := v_value) (hv := .inl (by kernel_rfl))) Fx.b_isinstance Fx.b_tuple)))) (jw_or1 (jt_cmp (op_neD (uE hr)) ro_ne (ha := (jq (je_callB1 call_len rc_len Fx.b_len (ha := (jq (je_var 1 (d := v_value) (hv := .inl (by kernel_rfl)))))))) (hb := (je_callB1 call_len rc_len Fx.b_len (ha := (jq (je_var 0 (d := v_primes) (hv := .inl (by kernel_rfl))))))))))) (js_ret je_bl) (js_nil () []) (fun u_1 => js_ret (je_callB1 (cr_all rfl) rc_all Fx.b_all (ha := (jq (je_jf (jf_lc rfl sc_is_vector_by.nd (blkOk_by (own := [("one", 2), ("p", 3)]) (by kernel_rfl)) (fun _ _ _ _ _ => pg_tup rfl (pgs_cons (pg_name sc_is_vector_by.nd (by kernel_rfl) (.inl (by kernel_rfl))) (pgs_cons (pg_name sc_is_vector_by.nd (by kernel_rfl) (.inl (by kernel_rfl))) pgs_nil))) (rd2 2 3 (jc (ji_zip (je_var 1 (d := v_value) (hv := .inl (by kernel_rfl))) (je_var 0 (d := v_primes) (hv := .inl (by kernel_rfl))) Fx.b_zip)) (by decide) (by decide) (ht := fun d_one_2 d_p_3 _ _ _ _ _ => jts_nil) (he := fun d_one_2 d_p_3 _ _ _ _ _ => (je_call (ok_is_within Fx) hr (by decide) L2.takes0 (ja_cons (je_var 2 (d := d_one_2) (hv := .inl (by kernel_rfl))) (ja_cons je_int (ja_cons (je_op op_sub ro_sub (je_var 3 (d := d_p_3) (hv := .inl (by kernel_rfl))) je_int) ja_nil))))))))))))⟩
def m_is_vector_by : List D → Res D := fn2 fun v_primes v_value => runF (w_is_vector_by.1 v_primes v_value)
theorem ok_is_vector_by {P : Program} {w : World} {K : PySem.W.Frag} {mg : Str → Option Value} {base : Heap} (Fx : Facts P w K mg base) : DefP P w K mg base "is_vector_by" 3 2 m_is_vector_by := by
  obtain ⟨f, fd, hm, kp, Fn, bi⟩ := Fx.f_is_vector_by.ex
  exact ⟨f, fd, ["primes", "value"], hm, kp, bi, fn_pure Fn sc_is_vector_by rfl [0, 1, 2, 3] fn2_bad (fun cdv A outer s H E hr ds hd => by
      obtain ⟨a, b, rfl⟩ := len2 hd
      exact ⟨_, w_is_vector_by.1 a b, rfl, w_is_vector_by.2 Fx f cdv A outer s H E hr a b⟩), fn2_bad⟩
abbrev s_is_behind : Stmt := topS 19
theorem sc_is_behind : FnScope ["primes", "i", "value"] ["primes", "i", "value"] (defScope s_is_behind) := ⟨rfl, rfl, rfl, by decide +kernel, rfl, by decide +kernel, by decide +kernel⟩
def w_is_behind : {m : D → D → D → Res (Fl Unit Empty) // ∀ {P : Program} {w : World} {K : PySem.W.Frag} {mg : Str → Option Value} {base : Heap} (Fx : Facts P w K mg base) (f : Addr) (cdv : Value) (A : Around) (outer : List PySem.Env) (s : Shared) (H : Hp) (E : XK) (hr : Room 3 (Xd P w K mg base ["primes", "i", "value"] "is_behind" s_is_behind f cdv A outer s H E).A), ∀ (v_primes v_i v_value : D), JS (Xd P w K mg base ["primes", "i", "value"] "is_behind" s_is_behind f cdv A outer s H E) (Wd E) [0, 1, 2] (defBody s_is_behind) [.dat v_primes, .dat v_i, .dat v_value] (m v_primes v_i v_value) (fun _ => [.any, .any, .any]) (fun t => nomatch t)} :=
  ⟨_, fun Fx f cdv A outer s H E hr v_primes v_i v_value =>
    js_ret (je_and (je_call (ok_is_vector_by Fx) hr (by decide) (takes_of rfl rfl rfl rfl) (ja_cons (je_var 0 (d := v_primes) (hv := .inl (by kernel_rfl))) (ja_cons (je_var 2 (d := v_value) (hv := .inl (by kernel_rfl))) ja_nil))) (je_one (je_not (je_callB1 (call_anyTI rfl) rc_anyI Fx.b_any (ha := (jq (je_sliceT (jq (je_var 2 (d := v_value) (hv := .inl (by kernel_rfl)))) jo_none (jo_some (je_op op_addA ro_addA (je_var 1 (d := v_i) (hv := .inl (by kernel_rfl))) je_int)))))))))⟩
def m_is_behind : List D → Res D := fn3 fun v_primes v_i v_value => runF (w_is_behind.1 v_primes v_i v_value)
theorem ok_is_behind {P : Program} {w : World} {K : PySem.W.Frag} {mg : Str → Option Value} {base : Heap} (Fx : Facts P w K mg base) : DefP P w K mg base "is_behind" 4 3 m_is_behind := by
  obtain ⟨f, fd, hm, kp, Fn, bi⟩ := Fx.f_is_behind.ex
  exact ⟨f, fd, ["primes", "i", "value"], hm, kp, bi, fn_pure Fn sc_is_behind rfl [0, 1, 2] fn3_bad (fun cdv A outer s H E hr ds hd => by
      obtain ⟨a, b, c, rfl⟩ := len3 hd
      exact ⟨_, w_is_behind.1 a b c, rfl, w_is_behind.2 Fx f cdv A outer s H E hr a b c⟩), fn3_bad⟩
abbrev s_are_turns : Stmt := topS 20
theorem sc_are_turns : FnScope ["primes", "i", "value", "one"] ["primes", "i", "value"] (defScope s_are_turns) := ⟨rfl, rfl, rfl, by decide +kernel, rfl, by decide +kernel, by decide +kernel⟩
def w_are_turns : {m : D → D → D → Res (Fl Unit Empty) // ∀ {P : Program} {w : World} {K : PySem.W.Frag} {mg : Str → Option Value} {base : Heap} (Fx : Facts P w K mg base) (f : Addr) (cdv : Value) (A : Around) (outer : List PySem.Env) (s : Shared) (H : Hp) (E : XK) (hr : Room 4 (Xd P w K mg base ["primes", "i", "value", "one"] "are_turns" s_are_turns f cdv A outer s H E).A), ∀ (v_primes v_i v_value : D), JS (Xd P w K mg base ["primes", "i", "value", "one"] "are_turns" s_are_turns f cdv A outer s H E) (Wd E) [0, 1, 2, 3] (defBody s_are_turns) [.dat v_primes, .dat v_i, .dat v_value, .any] (m v_primes v_i v_value) (fun _ => [.any, .any, .any, .any]) (fun t => nomatch t)} :=
  ⟨_, fun Fx f cdv A outer s H E hr v_primes v_i v_value =>
    js_if (U := Unit) (N1 := fun u_1 => [.dat v_primes, .dat v_i, .dat v_value, .any]) (jt_w (jw_or (jt_not (jt_tru (jq (je_isi .tup (je_var 2 (d := v_value) (hv := .inl (by kernel_rfl))) Fx.b_isinstance Fx.b_tuple)))) (jw_or1 (jt_cmp (op_neD (uE hr)) ro_ne (ha := (jq (je_callB1 call_len rc_len Fx.b_len (ha := (jq (je_var 2 (d := v_value) (hv := .inl (by kernel_rfl)))))))) (hb := (je_op op_sub ro_sub (je_op op_sub ro_sub (je_callB1 call_len rc_len Fx.b_len (ha := (jq (je_var 0 (d := v_primes) (hv := .inr (.inl (by kernel_rfl))))))) je_int) (je_var 1 (d := v_i) (hv := .inr (.inl (by kernel_rfl)))))))))) (js_ret je_bl) (js_nil () []) (fun u_1 => js_ret (je_callB1 (cr_all rfl) rc_all Fx.b_all (ha := (jq (je_jf (jf_lc rfl sc_are_turns.nd (blkOk_by (own := [("one", 3)]) (by kernel_rfl)) (fun _ _ _ _ _ => (pg_name sc_are_turns.nd (by kernel_rfl) (.inl (by kernel_rfl)))) (rd1 3 (jc (ji_seq (je_var 2 (d := v_value) (hv := .inl (by kernel_rfl))))) (by decide) (ht := fun d_one_2 _ _ _ _ _ => jts_nil) (he := fun d_one_2 _ _ _ _ _ => (je_call (ok_is_behind Fx) hr (by decide) L2.takes0 (ja_cons (je_var 0 (d := v_primes) (hv := .inr (.inl (by kernel_rfl)))) (ja_cons (je_var 1 (d := v_i) (hv := .inr (.inl (by kernel_rfl)))) (ja_cons (je_var 3 (d := d_one_2) (hv := .inl (by kernel_rfl))) ja_nil))))))))))))⟩
def m_are_turns : List D → Res D := fn3 fun v_primes v_i v_value => runF (w_are_turns.1 v_primes v_i v_value)
theorem ok_are_turns {P : Program} {w : World} {K : PySem.W.Frag} {mg : Str → Option Value} {base : Heap} (Fx : Facts P w K mg base) : DefP P w K mg base "are_turns" 5 3 m_are_turns := by
  obtain ⟨f, fd, hm, kp, Fn, bi⟩ := Fx.f_are_turns.ex
  exact ⟨f, fd, ["primes", "i", "value"], hm, kp, bi, fn_pure Fn sc_are_turns rfl [0, 1, 2, 3] fn3_bad (fun cdv A outer s H E hr ds hd => by
      obtain ⟨a, b, c, rfl⟩ := len3 hd
      exact ⟨_, w_are_turns.1 a b c, rfl, w_are_turns.2 Fx f cdv A outer s H E hr a b c⟩), fn3_bad⟩
abbrev s_is_book_in : Stmt := topS 21
theorem sc_is_book_in : FnScope ["value", "primes", "powers", "turns", "told", "i", "one"] ["value"] (defScope s_is_book_in) := ⟨rfl, rfl, rfl, by decide +kernel, rfl, by decide +kernel, by decide +kernel⟩
def w_is_book_in : {m : D → Res (Fl Unit Empty) // ∀ {P : Program} {w : World} {K : PySem.W.Frag} {mg : Str → Option Value} {base : Heap} (Fx : Facts P w K mg base) (f : Addr) (cdv : Value) (A : Around) (outer : List PySem.Env) (s : Shared) (H : Hp) (E : XK) (hr : Room 5 (Xd P w K mg base ["value", "primes", "powers", "turns", "told", "i", "one"] "is_book_in" s_is_book_in f cdv A outer s H E).A), ∀ (v_value : D), JS (Xd P w K mg base ["value", "primes", "powers", "turns", "told", "i", "one"] "is_book_in" s_is_book_in f cdv A outer s H E) (Wd E) [0, 1, 2, 3, 4, 5, 6] (defBody s_is_book_in) [.dat v_value, .any, .any, .any, .any, .any, .any] (m v_value) (fun _ => [.any, .any, .any, .any, .any, .any, .any]) (fun t => nomatch t)} :=
  ⟨_, fun Fx f cdv A outer s H E hr v_value =>
    js_if (U := Unit) (N1 := fun u_1 => [.dat v_value, .any, .any, .any, .any, .any, .any]) (jt_w (jw_or (jt_not (jt_tru (jq (je_isi .tup (je_var 0 (d := v_value) (hv := .inl (by kernel_rfl))) Fx.b_isinstance Fx.b_tuple)))) (jw_or (jt_cmp (op_neD (uE hr)) ro_ne (ha := (jq (je_callB1 call_len rc_len Fx.b_len (ha := (jq (je_var 0 (d := v_value) (hv := .inl (by kernel_rfl)))))))) (hb := (je_gc Fx.c_BOOK_SIZE))) (jw_or1 (jt_not (jt_tru (jq (je_call (ok_are_primes Fx) hr (by decide) (takes_of rfl rfl rfl rfl) (ja_cons (je_ixT (jq (je_var 0 (d := v_value) (hv := .inl (by kernel_rfl)))) je_int) (ja_cons (je_gc Fx.c_MOST_LAYERS) ja_nil)))))))))) (js_ret je_bl) (js_nil () []) (fun u_1 => js_un3 1 2 3 rfl (je_var 0 (d := v_value) (hv := .inl (by kernel_rfl))) (pg_name sc_is_book_in.nd (by kernel_rfl) (.inr (by kernel_rfl))) (pg_name sc_is_book_in.nd (by kernel_rfl) (.inl (by kernel_rfl))) (pg_name sc_is_book_in.nd (by kernel_rfl) (.inl (by kernel_rfl))) (fun v_primes_2 v_powers_3 v_turns_4 => js_for1 4 (U := Unit) () [] (Z' := [0, 1, 2, 3, 4, 5, 6]) (I := fun s_5 => [.dat v_value, .dat v_primes_2, .dat v_powers_3, .dat v_turns_4, .any, .any, .any]) (passes_of rfl) rfl (ji_seq (je_tup (ja_cons (je_var 2 (d := v_powers_3) (hv := .inl (by kernel_rfl))) (ja_cons (je_var 3 (d := v_turns_4) (hv := .inl (by kernel_rfl))) ja_nil)))) (pg_name sc_is_book_in.nd (by kernel_rfl) (.inl (by kernel_rfl))) (fun s_5 v_told_6 => js_if (U := Unit) (N1 := fun u_7 => [.dat v_value, .dat v_primes_2, .dat v_powers_3, .dat v_turns_4, .dat v_told_6, .any, .any]) (jt_w (jw_or (jt_not (jt_tru (jq (je_isi .tup (je_var 4 (d := v_told_6) (hv := .inl (by kernel_rfl))) Fx.b_isinstance Fx.b_tuple)))) (jw_or1 (jt_cmp (op_neD (uE hr)) ro_ne (ha := (jq (je_callB1 call_len rc_len Fx.b_len (ha := (jq (je_var 4 (d := v_told_6) (hv := .inl (by kernel_rfl)))))))) (hb := (je_callB1 call_len rc_len Fx.b_len (ha := (jq (je_var 1 (d := v_primes_2) (hv := .inr (.inl (by kernel_rfl)))))))))))) (js_ret je_bl) (js_nil () []) (fun u_7 => js_nil () [4])) (fun s_5 => js_if (U := Unit) (N1 := fun u_10 => [.dat v_value, .dat v_primes_2, .dat v_powers_3, .dat v_turns_4, .any, .any, .any]) (jt_not (jt_tru (jq (je_callB1 (cr_all rfl) rc_all Fx.b_all (ha := (jq (je_jf (jf_lc rfl sc_is_book_in.nd (blkOk_by (own := [("i", 5), ("one", 6)]) (by kernel_rfl)) (fun _ _ _ _ _ => pg_tup rfl (pgs_cons (pg_name sc_is_book_in.nd (by kernel_rfl) (.inl (by kernel_rfl))) (pgs_cons (pg_name sc_is_book_in.nd (by kernel_rfl) (.inl (by kernel_rfl))) pgs_nil))) (rd2 5 6 (ji_enum (jq (je_var 2 (d := v_powers_3) (hv := .inl (by kernel_rfl)))) Fx.b_enumerate) (by decide) (by decide) (ht := fun d_i_8 d_one_9 _ _ _ _ _ => jts_nil) (he := fun d_i_8 d_one_9 _ _ _ _ _ => (je_call (ok_is_behind Fx) hr (by decide) L2.takes0 (ja_cons (je_var 1 (d := v_primes_2) (hv := .inr (.inl (by kernel_rfl)))) (ja_cons (je_var 5 (d := d_i_8) (hv := .inl (by kernel_rfl))) (ja_cons (je_var 6 (d := d_one_9) (hv := .inl (by kernel_rfl))) ja_nil)))))))))))))) (js_ret je_bl) (js_nil () []) (fun u_10 => js_ret (je_callB1 (cr_all rfl) rc_all Fx.b_all (ha := (jq (je_jf (jf_lc rfl sc_is_book_in.nd (blkOk_by (own := [("i", 5), ("one", 6)]) (by kernel_rfl)) (fun _ _ _ _ _ => pg_tup rfl (pgs_cons (pg_name sc_is_book_in.nd (by kernel_rfl) (.inl (by kernel_rfl))) (pgs_cons (pg_name sc_is_book_in.nd (by kernel_rfl) (.inl (by kernel_rfl))) pgs_nil))) (rd2 5 6 (ji_enum (jq (je_var 3 (d := v_turns_4) (hv := .inl (by kernel_rfl)))) Fx.b_enumerate) (by decide) (by decide) (ht := fun d_i_11 d_one_12 _ _ _ _ _ => jts_nil) (he := fun d_i_11 d_one_12 _ _ _ _ _ => (je_call (ok_are_turns Fx) hr (by decide) L2.takes0 (ja_cons (je_var 1 (d := v_primes_2) (hv := .inr (.inl (by kernel_rfl)))) (ja_cons (je_var 5 (d := d_i_11) (hv := .inl (by kernel_rfl))) (ja_cons (je_var 6 (d := d_one_12) (hv := .inl (by kernel_rfl))) ja_nil)))))))))))))))⟩
def m_is_book_in : List D → Res D := fn1 fun v_value => runF (w_is_book_in.1 v_value)
theorem ok_is_book_in {P : Program} {w : World} {K : PySem.W.Frag} {mg : Str → Option Value} {base : Heap} (Fx : Facts P w K mg base) : DefP P w K mg base "is_book_in" 6 1 m_is_book_in := by
  obtain ⟨f, fd, hm, kp, Fn, bi⟩ := Fx.f_is_book_in.ex
  exact ⟨f, fd, ["value"], hm, kp, bi, fn_pure Fn sc_is_book_in rfl [0, 1, 2, 3, 4, 5, 6] fn1_bad (fun cdv A outer s H E hr ds hd => by
      obtain ⟨a, rfl⟩ := len1 hd
      exact ⟨_, w_is_book_in.1 a, rfl, w_is_book_in.2 Fx f cdv A outer s H E hr a⟩), fn1_bad⟩
abbrev s_is_vector_in : Stmt := topS 22
theorem sc_is_vector_in : FnScope ["book", "value"] ["book", "value"] (defScope s_is_vector_in) := ⟨rfl, rfl, rfl, by decide +kernel, rfl, by decide +kernel, by decide +kernel⟩
def w_is_vector_in : {m : D → D → Res (Fl Unit Empty) // ∀ {P : Program} {w : World} {K : PySem.W.Frag} {mg : Str → Option Value} {base : Heap} (Fx : Facts P w K mg base) (f : Addr) (cdv : Value) (A : Around) (outer : List PySem.Env) (s : Shared) (H : Hp) (E : XK) (hr : Room 3 (Xd P w K mg base ["book", "value"] "is_vector_in" s_is_vector_in f cdv A outer s H E).A), ∀ (v_book v_value : D), JS (Xd P w K mg base ["book", "value"] "is_vector_in" s_is_vector_in f cdv A outer s H E) (Wd E) [0, 1] (defBody s_is_vector_in) [.dat v_book, .dat v_value] (m v_book v_value) (fun _ => [.any, .any]) (fun t => nomatch t)} :=
  ⟨_, fun Fx f cdv A outer s H E hr v_book v_value =>
    js_ret (je_call (ok_is_vector_by Fx) hr (by decide) (takes_of rfl rfl rfl rfl) (ja_cons (je_ixT (jq (je_var 0 (d := v_book) (hv := .inl (by kernel_rfl)))) je_int) (ja_cons (je_var 1 (d := v_value) (hv := .inl (by kernel_rfl))) ja_nil)))⟩
def m_is_vector_in : List D → Res D := fn2 fun v_book v_value => runF (w_is_vector_in.1 v_book v_value)
theorem ok_is_vector_in {P : Program} {w : World} {K : PySem.W.Frag} {mg : Str → Option Value} {base : Heap} (Fx : Facts P w K mg base) : DefP P w K mg base "is_vector_in" 4 2 m_is_vector_in := by
  obtain ⟨f, fd, hm, kp, Fn, bi⟩ := Fx.f_is_vector_in.ex
  exact ⟨f, fd, ["book", "value"], hm, kp, bi, fn_pure Fn sc_is_vector_in rfl [0, 1] fn2_bad (fun cdv A outer s H E hr ds hd => by
      obtain ⟨a, b, rfl⟩ := len2 hd
      exact ⟨_, w_is_vector_in.1 a b, rfl, w_is_vector_in.2 Fx f cdv A outer s H E hr a b⟩), fn2_bad⟩
abbrev s_noughts_in : Stmt := topS 23
theorem sc_noughts_in : FnScope ["many"] ["many"] (defScope s_noughts_in) := ⟨rfl, rfl, rfl, by decide +kernel, rfl, by decide +kernel, by decide +kernel⟩
def w_noughts_in : {m : D → Res (Fl Unit Empty) // ∀ {P : Program} {w : World} {K : PySem.W.Frag} {mg : Str → Option Value} {base : Heap} (Fx : Facts P w K mg base) (f : Addr) (cdv : Value) (A : Around) (outer : List PySem.Env) (s : Shared) (H : Hp) (E : XK) (hr : Room 0 (Xd P w K mg base ["many"] "noughts_in" s_noughts_in f cdv A outer s H E).A), ∀ (v_many : D), JS (Xd P w K mg base ["many"] "noughts_in" s_noughts_in f cdv A outer s H E) (Wd E) [0] (defBody s_noughts_in) [.dat v_many] (m v_many) (fun _ => [.any]) (fun t => nomatch t)} :=
  ⟨_, fun Fx f cdv A outer s H E hr v_many =>
    js_ret (je_op op_mulA ro_mulA (je_tup (ja_cons je_int ja_nil)) (je_var 0 (d := v_many) (hv := .inl (by kernel_rfl))))⟩
def m_noughts_in : List D → Res D := fn1 fun v_many => runF (w_noughts_in.1 v_many)
theorem ok_noughts_in {P : Program} {w : World} {K : PySem.W.Frag} {mg : Str → Option Value} {base : Heap} (Fx : Facts P w K mg base) : DefP P w K mg base "noughts_in" 1 1 m_noughts_in := by
  obtain ⟨f, fd, hm, kp, Fn, bi⟩ := Fx.f_noughts_in.ex
  exact ⟨f, fd, ["many"], hm, kp, bi, fn_pure Fn sc_noughts_in rfl [0] fn1_bad (fun cdv A outer s H E hr ds hd => by
      obtain ⟨a, rfl⟩ := len1 hd
      exact ⟨_, w_noughts_in.1 a, rfl, w_noughts_in.2 Fx f cdv A outer s H E hr a⟩), fn1_bad⟩
abbrev s_one_at : Stmt := topS 24
theorem sc_one_at : FnScope ["many", "i", "at"] ["many", "i"] (defScope s_one_at) := ⟨rfl, rfl, rfl, by decide +kernel, rfl, by decide +kernel, by decide +kernel⟩
def w_one_at : {m : D → D → Res (Fl Unit Empty) // ∀ {P : Program} {w : World} {K : PySem.W.Frag} {mg : Str → Option Value} {base : Heap} (Fx : Facts P w K mg base) (f : Addr) (cdv : Value) (A : Around) (outer : List PySem.Env) (s : Shared) (H : Hp) (E : XK) (hr : Room 0 (Xd P w K mg base ["many", "i", "at"] "one_at" s_one_at f cdv A outer s H E).A), ∀ (v_many v_i : D), JS (Xd P w K mg base ["many", "i", "at"] "one_at" s_one_at f cdv A outer s H E) (Wd E) [0, 1, 2] (defBody s_one_at) [.dat v_many, .dat v_i, .any] (m v_many v_i) (fun _ => [.any, .any, .any]) (fun t => nomatch t)} :=
  ⟨_, fun Fx f cdv A outer s H E hr v_many v_i =>
    js_ret (je_callT1 call_tuple_of rc_tuple Fx.b_tuple (ha := (jq (je_jf (jf_lc rfl sc_one_at.nd (blkOk_by (own := [("at", 2)]) (by kernel_rfl)) (fun _ _ _ _ _ => (pg_name sc_one_at.nd (by kernel_rfl) (.inl (by kernel_rfl)))) (rd1 2 (jc (ji_range1 (je_var 0 (d := v_many) (hv := .inl (by kernel_rfl))) Fx.b_range)) (by decide) (ht := fun d_at_1 _ _ _ _ _ => jts_nil) (he := fun d_at_1 _ _ _ _ _ => (je_callT1 call_int1 rc_int Fx.b_int (ha := (jq (je_cmp (op_eqD (uE hr)) ro_eq.ro (ha := (je_var 2 (d := d_at_1) (hv := .inl (by kernel_rfl)))) (hb := (je_var 1 (d := v_i) (hv := .inr (.inl (by kernel_rfl))))))))))))))))⟩
def m_one_at : List D → Res D := fn2 fun v_many v_i => runF (w_one_at.1 v_many v_i)
theorem ok_one_at {P : Program} {w : World} {K : PySem.W.Frag} {mg : Str → Option Value} {base : Heap} (Fx : Facts P w K mg base) : DefP P w K mg base "one_at" 1 2 m_one_at := by
  obtain ⟨f, fd, hm, kp, Fn, bi⟩ := Fx.f_one_at.ex
  exact ⟨f, fd, ["many", "i"], hm, kp, bi, fn_pure Fn sc_one_at rfl [0, 1, 2] fn2_bad (fun cdv A outer s H E hr ds hd => by
      obtain ⟨a, b, rfl⟩ := len2 hd
      exact ⟨_, w_one_at.1 a b, rfl, w_one_at.2 Fx f cdv A outer s H E hr a b⟩), fn2_bad⟩
abbrev s_require_book_form : Stmt := topS 25
theorem sc_require_book_form : FnScope ["book"] ["book"] (defScope s_require_book_form) := ⟨rfl, rfl, rfl, by decide +kernel, rfl, by decide +kernel, by decide +kernel⟩
def w_require_book_form : {m : D → Res (Fl Unit Empty) // ∀ {P : Program} {w : World} {K : PySem.W.Frag} {mg : Str → Option Value} {base : Heap} (Fx : Facts P w K mg base) (f : Addr) (cdv : Value) (A : Around) (outer : List PySem.Env) (s : Shared) (H : Hp) (E : XK) (hr : Room 6 (Xd P w K mg base ["book"] "require_book_form" s_require_book_form f cdv A outer s H E).A), ∀ (v_book : D), JS (Xd P w K mg base ["book"] "require_book_form" s_require_book_form f cdv A outer s H E) (Wd E) [0] (defBody s_require_book_form) [.dat v_book] (m v_book) (fun _ => [.any]) (fun t => nomatch t)} :=
  ⟨_, fun Fx f cdv A outer s H E hr v_book =>
    js_if (U := Unit) (N1 := fun u_1 => [.dat v_book]) (jt_not (jt_tru (jq (je_call (ok_is_book_in Fx) hr (by decide) (takes_of rfl rfl rfl rfl) (ja_cons (je_var 0 (d := v_book) (hv := .inl (by kernel_rfl))) ja_nil))))) (js_raise Fx.x_InvalidBook rfl (takes_of rfl rfl rfl rfl)) (js_nil () []) (fun u_1 => js_nil () [0])⟩
def m_require_book_form : List D → Res D := fn1 fun v_book => runF (w_require_book_form.1 v_book)
theorem ok_require_book_form {P : Program} {w : World} {K : PySem.W.Frag} {mg : Str → Option Value} {base : Heap} (Fx : Facts P w K mg base) : DefP P w K mg base "require_book_form" 7 1 m_require_book_form := by
  obtain ⟨f, fd, hm, kp, Fn, bi⟩ := Fx.f_require_book_form.ex
  exact ⟨f, fd, ["book"], hm, kp, bi, fn_pure Fn sc_require_book_form rfl [0] fn1_bad (fun cdv A outer s H E hr ds hd => by
      obtain ⟨a, rfl⟩ := len1 hd
      exact ⟨_, w_require_book_form.1 a, rfl, w_require_book_form.2 Fx f cdv A outer s H E hr a⟩), fn1_bad⟩
abbrev s_is_letters : Stmt := topS 46
theorem sc_is_letters : FnScope ["word", "sign"] ["word"] (defScope s_is_letters) := ⟨rfl, rfl, rfl, by decide +kernel, rfl, by decide +kernel, by decide +kernel⟩
def w_is_letters : {m : D → Res (Fl Unit Empty) // ∀ {P : Program} {w : World} {K : PySem.W.Frag} {mg : Str → Option Value} {base : Heap} (Fx : Facts P w K mg base) (f : Addr) (cdv : Value) (A : Around) (outer : List PySem.Env) (s : Shared) (H : Hp) (E : XK) (hr : Room 0 (Xd P w K mg base ["word", "sign"] "is_letters" s_is_letters f cdv A outer s H E).A), ∀ (v_word : D), JS (Xd P w K mg base ["word", "sign"] "is_letters" s_is_letters f cdv A outer s H E) (Wd E) [0, 1] (defBody s_is_letters) [.dat v_word, .any] (m v_word) (fun _ => [.any, .any]) (fun t => nomatch t)} :=
  ⟨_, fun Fx f cdv A outer s H E hr v_word =>
    js_ret (je_and (je_chain op_le op_le ro_le ro_le je_int (je_callB1 call_len rc_len Fx.b_len (ha := (jq (je_var 0 (d := v_word) (hv := .inl (by kernel_rfl)))))) (je_gc Fx.c_MOST_LETTERS)) (je_one (je_callB1 (cr_all rfl) rc_all Fx.b_all (ha := (jq (je_jf (jf_lc rfl sc_is_letters.nd (blkOk_by (own := [("sign", 1)]) (by kernel_rfl)) (fun _ _ _ _ _ => (pg_name sc_is_letters.nd (by kernel_rfl) (.inl (by kernel_rfl)))) (rd1 1 (jc (ji_str (je_var 0 (d := v_word) (hv := .inl (by kernel_rfl))))) (by decide) (ht := fun d_sign_1 _ _ _ _ _ => jts_nil) (he := fun d_sign_1 _ _ _ _ _ => (je_cmp op_inT ro_inT (ha := (je_var 1 (d := d_sign_1) (hv := .inl (by kernel_rfl)))) (hb := (je_gc Fx.c_LETTERS))))))))))))⟩
def m_is_letters : List D → Res D := fn1 fun v_word => runF (w_is_letters.1 v_word)
theorem ok_is_letters {P : Program} {w : World} {K : PySem.W.Frag} {mg : Str → Option Value} {base : Heap} (Fx : Facts P w K mg base) : DefP P w K mg base "is_letters" 1 1 m_is_letters := by
  obtain ⟨f, fd, hm, kp, Fn, bi⟩ := Fx.f_is_letters.ex
  exact ⟨f, fd, ["word"], hm, kp, bi, fn_pure Fn sc_is_letters rfl [0, 1] fn1_bad (fun cdv A outer s H E hr ds hd => by
      obtain ⟨a, rfl⟩ := len1 hd
      exact ⟨_, w_is_letters.1 a, rfl, w_is_letters.2 Fx f cdv A outer s H E hr a⟩), fn1_bad⟩
abbrev s_is_digits : Stmt := topS 47
theorem sc_is_digits : FnScope ["word", "sign"] ["word"] (defScope s_is_digits) := ⟨rfl, rfl, rfl, by decide +kernel, rfl, by decide +kernel, by decide +kernel⟩
def w_is_digits : {m : D → Res (Fl Unit Empty) // ∀ {P : Program} {w : World} {K : PySem.W.Frag} {mg : Str → Option Value} {base : Heap} (Fx : Facts P w K mg base) (f : Addr) (cdv : Value) (A : Around) (outer : List PySem.Env) (s : Shared) (H : Hp) (E : XK) (hr : Room 0 (Xd P w K mg base ["word", "sign"] "is_digits" s_is_digits f cdv A outer s H E).A), ∀ (v_word : D), JS (Xd P w K mg base ["word", "sign"] "is_digits" s_is_digits f cdv A outer s H E) (Wd E) [0, 1] (defBody s_is_digits) [.dat v_word, .any] (m v_word) (fun _ => [.any, .any]) (fun t => nomatch t)} :=
  ⟨_, fun Fx f cdv A outer s H E hr v_word =>
    js_if (U := Unit) (N1 := fun u_2 => [.dat v_word, .any]) (jt_w (jw_or (jt_not (jt_chain op_le op_le ro_le ro_le je_int (je_callB1 call_len rc_len Fx.b_len (ha := (jq (je_var 0 (d := v_word) (hv := .inl (by kernel_rfl)))))) (je_gc Fx.c_MOST_DIGITS))) (jw_or1 (jt_not (jt_tru (jq (je_callB1 (cr_all rfl) rc_all Fx.b_all (ha := (jq (je_jf (jf_lc rfl sc_is_digits.nd (blkOk_by (own := [("sign", 1)]) (by kernel_rfl)) (fun _ _ _ _ _ => (pg_name sc_is_digits.nd (by kernel_rfl) (.inl (by kernel_rfl)))) (rd1 1 (jc (ji_str (je_var 0 (d := v_word) (hv := .inl (by kernel_rfl))))) (by decide) (ht := fun d_sign_1 _ _ _ _ _ => jts_nil) (he := fun d_sign_1 _ _ _ _ _ => (je_cmp op_inT ro_inT (ha := (je_var 1 (d := d_sign_1) (hv := .inl (by kernel_rfl)))) (hb := (je_gc Fx.c_DIGITS)))))))))))))))) (js_ret je_bl) (js_nil () []) (fun u_2 => js_ret (je_or (je_cmp (op_neD (uE hr)) ro_ne.ro (ha := (je_ixT (jq (je_var 0 (d := v_word) (hv := .inl (by kernel_rfl)))) je_int)) (hb := je_str)) (je_one (je_cmp (op_eqD (uE hr)) ro_eq.ro (ha := (je_callB1 call_len rc_len Fx.b_len (ha := (jq (je_var 0 (d := v_word) (hv := .inl (by kernel_rfl))))))) (hb := je_int)))))⟩
def m_is_digits : List D → Res D := fn1 fun v_word => runF (w_is_digits.1 v_word)
theorem ok_is_digits {P : Program} {w : World} {K : PySem.W.Frag} {mg : Str → Option Value} {base : Heap} (Fx : Facts P w K mg base) : DefP P w K mg base "is_digits" 1 1 m_is_digits := by
  obtain ⟨f, fd, hm, kp, Fn, bi⟩ := Fx.f_is_digits.ex
  exact ⟨f, fd, ["word"], hm, kp, bi, fn_pure Fn sc_is_digits rfl [0, 1] fn1_bad (fun cdv A outer s H E hr ds hd => by
      obtain ⟨a, rfl⟩ := len1 hd
      exact ⟨_, w_is_digits.1 a, rfl, w_is_digits.2 Fx f cdv A outer s H E hr a⟩), fn1_bad⟩
abbrev s_is_name : Stmt := topS 48
theorem sc_is_name : FnScope ["word"] ["word"] (defScope s_is_name) := ⟨rfl, rfl, rfl, by decide +kernel, rfl, by decide +kernel, by decide +kernel⟩
def w_is_name : {m : D → Res (Fl Unit Empty) // ∀ {P : Program} {w : World} {K : PySem.W.Frag} {mg : Str → Option Value} {base : Heap} (Fx : Facts P w K mg base) (f : Addr) (cdv : Value) (A : Around) (outer : List PySem.Env) (s : Shared) (H : Hp) (E : XK) (hr : Room 0 (Xd P w K mg base ["word"] "is_name" s_is_name f cdv A outer s H E).A), ∀ (v_word : D), JS (Xd P w K mg base ["word"] "is_name" s_is_name f cdv A outer s H E) (Wd E) [0] (defBody s_is_name) [.dat v_word] (m v_word) (fun _ => [.any]) (fun t => nomatch t)} :=
  ⟨_, fun Fx f cdv A outer s H E hr v_word =>
    js_ret (je_and (je_cmp (op_eqD (uE hr)) ro_eq.ro (ha := (je_callB1 call_len rc_len Fx.b_len (ha := (jq (je_var 0 (d := v_word) (hv := .inl (by kernel_rfl))))))) (hb := je_int)) (je_one (je_cmp op_inT ro_inT (ha := (je_var 0 (d := v_word) (hv := .inl (by kernel_rfl)))) (hb := (je_gc Fx.c_NAMES)))))⟩
def m_is_name : List D → Res D := fn1 fun v_word => runF (w_is_name.1 v_word)
theorem ok_is_name {P : Program} {w : World} {K : PySem.W.Frag} {mg : Str → Option Value} {base : Heap} (Fx : Facts P w K mg base) : DefP P w K mg base "is_name" 1 1 m_is_name := by
  obtain ⟨f, fd, hm, kp, Fn, bi⟩ := Fx.f_is_name.ex
  exact ⟨f, fd, ["word"], hm, kp, bi, fn_pure Fn sc_is_name rfl [0] fn1_bad (fun cdv A outer s H E hr ds hd => by
      obtain ⟨a, rfl⟩ := len1 hd
      exact ⟨_, w_is_name.1 a, rfl, w_is_name.2 Fx f cdv A outer s H E hr a⟩), fn1_bad⟩
abbrev s_sign_word_end : Stmt := topS 49
theorem sc_sign_word_end : FnScope ["text", "spot", "end"] ["text", "spot"] (defScope s_sign_word_end) := ⟨rfl, rfl, rfl, by decide +kernel, rfl, by decide +kernel, by decide +kernel⟩
def w_sign_word_end : {m : D → D → Res (Fl Unit Empty) // ∀ {P : Program} {w : World} {K : PySem.W.Frag} {mg : Str → Option Value} {base : Heap} (Fx : Facts P w K mg base) (f : Addr) (cdv : Value) (A : Around) (outer : List PySem.Env) (s : Shared) (H : Hp) (E : XK) (hr : Room 0 (Xd P w K mg base ["text", "spot", "end"] "sign_word_end" s_sign_word_end f cdv A outer s H E).A), ∀ (v_text v_spot : D), JS (Xd P w K mg base ["text", "spot", "end"] "sign_word_end" s_sign_word_end f cdv A outer s H E) (Wd E) [0, 1, 2] (defBody s_sign_word_end) [.dat v_text, .dat v_spot, .any] (m v_text v_spot) (fun _ => [.any, .any, .any]) (fun t => nomatch t)} :=
  ⟨_, fun Fx f cdv A outer s H E hr v_text v_spot =>
    js_set 2 (je_var 1 (d := v_spot) (hv := .inl (by kernel_rfl))) sc_sign_word_end.nd (hx := .inl (by kernel_rfl)) (hr := fun v_end_1 => js_whileF 2100 (U := D) v_end_1 [] (I := fun s_2 => [.dat v_text, .dat v_spot, .dat s_2]) (passes_of rfl) (hc := fun s_2 => (jt_w (jw_and (jt_cmp2 op_lt ro_lt (ha := (je_var 2 (d := s_2) (hv := .inl (by kernel_rfl)))) (hb := (je_callB1 call_len rc_len Fx.b_len (ha := (jq (je_var 0 (d := v_text) (hv := .inl (by kernel_rfl)))))))) (jw_and (jt_cmp2 op_notInT ro_notInT (ha := (je_ixT (jq (je_var 0 (d := v_text) (hv := .inl (by kernel_rfl)))) (je_var 2 (d := s_2) (hv := .inl (by kernel_rfl))))) (hb := (je_gc Fx.c_BLANKS))) (jw_and1 (jt_cmp2 op_notInT ro_notInT (ha := (je_ixT (jq (je_var 0 (d := v_text) (hv := .inl (by kernel_rfl)))) (je_var 2 (d := s_2) (hv := .inl (by kernel_rfl))))) (hb := (je_gc Fx.c_MARKS)))))))) (hb := fun s_2 => js_aug 2 (d0 := s_2) iop_addI ro_add je_int sc_sign_word_end.nd (.inl (by kernel_rfl)) (hr := fun v_end_3 => js_nil v_end_3 [])) (hr := fun s_2 => js_ret (je_var 2 (d := s_2) (hv := .inl (by kernel_rfl)))))⟩
def m_sign_word_end : List D → Res D := fn2 fun v_text v_spot => runF (w_sign_word_end.1 v_text v_spot)
theorem ok_sign_word_end {P : Program} {w : World} {K : PySem.W.Frag} {mg : Str → Option Value} {base : Heap} (Fx : Facts P w K mg base) : DefP P w K mg base "sign_word_end" 1 2 m_sign_word_end := by
  obtain ⟨f, fd, hm, kp, Fn, bi⟩ := Fx.f_sign_word_end.ex
  exact ⟨f, fd, ["text", "spot"], hm, kp, bi, fn_pure Fn sc_sign_word_end rfl [0, 1, 2] fn2_bad (fun cdv A outer s H E hr ds hd => by
      obtain ⟨a, b, rfl⟩ := len2 hd
      exact ⟨_, w_sign_word_end.1 a b, rfl, w_sign_word_end.2 Fx f cdv A outer s H E hr a b⟩), fn2_bad⟩
abbrev s_sign_words_in : Stmt := topS 50
theorem sc_sign_words_in : FnScope ["text", "found", "spot", "end", "word"] ["text"] (defScope s_sign_words_in) := ⟨rfl, rfl, rfl, by decide +kernel, rfl, by decide +kernel, by decide +kernel⟩
def w_sign_words_in : {m : D → Res (Fl Unit Empty) // ∀ {P : Program} {w : World} {K : PySem.W.Frag} {mg : Str → Option Value} {base : Heap} (Fx : Facts P w K mg base) (f : Addr) (cdv : Value) (A : Around) (outer : List PySem.Env) (s : Shared) (H : Hp) (E : XK) (hr : Room 1 (Xd P w K mg base ["text", "found", "spot", "end", "word"] "sign_words_in" s_sign_words_in f cdv A outer s H E).A), ∀ (v_text : D), JS (Xd P w K mg base ["text", "found", "spot", "end", "word"] "sign_words_in" s_sign_words_in f cdv A outer s H E) (Wd E) [0, 1, 2, 3, 4] (defBody s_sign_words_in) [.dat v_text, .any, .any, .any, .any] (m v_text) (fun _ => [.any, .any, .any, .any, .any]) (fun t => nomatch t)} :=
  ⟨_, fun Fx f cdv A outer s H E hr v_text =>
    js_par10 1 2 rfl sc_sign_words_in.nd (jf_lst ja_nil) je_int (fun v_found_1 v_spot_2 => js_whileF 2100 (U := List D × D) (v_found_1, v_spot_2) [] (I := fun s_3 => [.dat v_text, .own s_3.1, .dat s_3.2, .any, .any]) (passes_of rfl) (hc := fun s_3 => (jt_cmp2 op_lt ro_lt (ha := (je_var 2 (d := s_3.2) (hv := .inl (by kernel_rfl)))) (hb := (je_callB1 call_len rc_len Fx.b_len (ha := (jq (je_var 0 (d := v_text) (hv := .inl (by kernel_rfl))))))))) (hb := fun s_3 => js_if (U := Unit) (N1 := fun u_4 => [.dat v_text, .own s_3.1, .dat s_3.2, .any, .any]) (jt_cmp2 op_inT ro_inT (ha := (je_ixT (jq (je_var 0 (d := v_text) (hv := .inl (by kernel_rfl)))) (je_var 2 (d := s_3.2) (hv := .inl (by kernel_rfl))))) (hb := (je_gc Fx.c_BLANKS))) (js_aug 2 (d0 := s_3.2) iop_addI ro_add je_int sc_sign_words_in.nd (.inl (by kernel_rfl)) (hr := fun v_spot_5 => js_continue (s_3.1, v_spot_5) [])) (js_nil () []) (fun u_4 => js_set 3 (je_if (jt_cmp2 op_inT ro_inT (ha := (je_ixT (jq (je_var 0 (d := v_text) (hv := .inl (by kernel_rfl)))) (je_var 2 (d := s_3.2) (hv := .inl (by kernel_rfl))))) (hb := (je_gc Fx.c_MARKS))) (je_op op_addA ro_addA (je_var 2 (d := s_3.2) (hv := .inl (by kernel_rfl))) je_int) (je_call (ok_sign_word_end Fx) hr (by decide) (takes_of rfl rfl rfl rfl) (ja_cons (je_var 0 (d := v_text) (hv := .inl (by kernel_rfl))) (ja_cons (je_var 2 (d := s_3.2) (hv := .inl (by kernel_rfl))) ja_nil)))) sc_sign_words_in.nd (hx := .inl (by kernel_rfl)) (hr := fun v_end_6 => js_set 4 (je_sliceT (jq (je_var 0 (d := v_text) (hv := .inl (by kernel_rfl)))) (jo_some (je_var 2 (d := s_3.2) (hv := .inl (by kernel_rfl)))) (jo_some (je_var 3 (d := v_end_6) (hv := .inl (by kernel_rfl))))) sc_sign_words_in.nd (hx := .inl (by kernel_rfl)) (hr := fun v_word_7 => js_if (U := Unit) (N1 := fun u_8 => [.dat v_text, .own s_3.1, .dat s_3.2, .dat v_end_6, .dat v_word_7]) (jt_w (jw_and (jt_cmp2 op_notInT ro_notInT (ha := (je_var 4 (d := v_word_7) (hv := .inl (by kernel_rfl)))) (hb := (je_gc Fx.c_MARKS))) (jw_and (jt_not (jt_tru (jq (je_call (ok_is_letters Fx) hr (by decide) (takes_of rfl rfl rfl rfl) (ja_cons (je_var 4 (d := v_word_7) (hv := .inl (by kernel_rfl))) ja_nil))))) (jw_and1 (jt_not (jt_tru (jq (je_call (ok_is_digits Fx) hr (by decide) (takes_of rfl rfl rfl rfl) (ja_cons (je_var 4 (d := v_word_7) (hv := .inl (by kernel_rfl))) ja_nil))))))))) (js_freeze 1 (ds := s_3.1) (hi := by decide) (hr := js_ret (je_tup (ja_cons (je_var 1 (d := (.list s_3.1)) (hv := .inl (by kernel_rfl))) (ja_cons (je_var 2 (d := s_3.2) (hv := .inl (by kernel_rfl))) ja_nil))))) (js_nil () []) (fun u_8 => js_appP 1 (ds := s_3.1) (je_tup (ja_cons (je_var 4 (d := v_word_7) (hv := .inl (by kernel_rfl))) (ja_cons (je_var 2 (d := s_3.2) (hv := .inl (by kernel_rfl))) ja_nil))) (.inl (by kernel_rfl)) (fun v_found_9 => js_set 2 (je_var 3 (d := v_end_6) (hv := .inl (by kernel_rfl))) sc_sign_words_in.nd (hx := .inl (by kernel_rfl)) (hr := fun v_spot_10 => js_nil ((s_3.1 ++ [v_found_9]), v_spot_10) [3, 4]))))))) (hr := fun s_3 => js_freeze 1 (ds := s_3.1) (hi := by decide) (hr := js_ret (je_tup (ja_cons (je_var 1 (d := (.list s_3.1)) (hv := .inl (by kernel_rfl))) (ja_cons je_non ja_nil))))))⟩
def m_sign_words_in : List D → Res D := fn1 fun v_text => runF (w_sign_words_in.1 v_text)
theorem ok_sign_words_in {P : Program} {w : World} {K : PySem.W.Frag} {mg : Str → Option Value} {base : Heap} (Fx : Facts P w K mg base) : DefP P w K mg base "sign_words_in" 2 1 m_sign_words_in := by
  obtain ⟨f, fd, hm, kp, Fn, bi⟩ := Fx.f_sign_words_in.ex
  exact ⟨f, fd, ["text"], hm, kp, bi, fn_pure Fn sc_sign_words_in rfl [0, 1, 2, 3, 4] fn1_bad (fun cdv A outer s H E hr ds hd => by
      obtain ⟨a, rfl⟩ := len1 hd
      exact ⟨_, w_sign_words_in.1 a, rfl, w_sign_words_in.2 Fx f cdv A outer s H E hr a⟩), fn1_bad⟩
end DE

set_option maxHeartbeats 4000000
namespace DE
open PySem PySem.Spec PyProof.Rows L2 LamX
variable [τ : TabCtx]
section
variable {P : Program} {w : World} {K : PySem.W.Frag} {mg : Str → Option Value} {base : Heap}
theorem scI : FnScope ["self", "text", "bad"] ["self", "text"] (defScope rdI) := ⟨rfl, rfl, rfl, by decide +kernel, rfl, by decide +kernel, by decide +kernel⟩
def endOf (t : Str) : D → Int
  | .int i => i
  | _ => t.length
def wholeOf : D → Bool
  | .none => true
  | _ => false
theorem env_self {O : Addr → Prop} {H : Hp} {p : Addr} {t : Str} (tb : TabsOK H) (od : ∀ a, O a → H a ≠ none) (op : O p) : DE.Env K mg ⟨fun a => a = p, fun _ => False, O, H, fun _ _ => False, fun _ => True⟩ H [some (.ref p), some (.str t), none] [.any, .dat (.str t), .any] where
  ext := .refl
  subM := fun _ z => z.elim
  subO := fun _ z => z.elim
  dom := od
  domM := fun a z => by rw [z]; exact od p op
  dic := fun _ z => z.elim
  len := rfl
  slot := fun i s h => by
    match i, h with
    | 0, h => cases h; exact ⟨_, rfl, trivial⟩
    | 1, h => cases h; exact ⟨_, rfl, .str t, rfl, .str t⟩
    | 2, h => cases h; exact ⟨_, rfl, trivial⟩
    | i + 3, h => cases h
  bM := fun _ _ z => z.elim
  tbs := tb
  apart := fun i j ds es a _ h => by
    match i, h with
    | 0, h => cases h
    | 1, h => cases h
    | 2, h => cases h
    | i + 3, h => cases h
def spInit (K : PySem.W.Frag) (mg : Str → Option Value) : Sp := fun vs H Q _ => ∃ (O : Addr → Prop) (p dx : Addr) (t : Str) (ws : List D) (b : D), vs = [.ref p, .str t] ∧ t.length ≤ 16777216 ∧ TabsOK H ∧ (∀ a, O a → H a ≠ none) ∧ O p ∧ H p = some (.ins (rdC K) dx []) ∧ m_sign_words_in [.str t] = .ok (.tuple [.list ws, b]) ∧ (b = .none ∨ ∃ i, b = .int i) ∧
  ∀ H', Ext (fun a => a = p) (fun _ => False) H H' → RdAt K mg O H' p ws (endOf t b) (wholeOf b) 0 → Q .non H'
theorem ok_init (Fx : Facts P w K mg base) {fd : FuncData} (F : Fun K "__init__" "SignReader.__init__" rdI (rdM K "__init__") fd) : FnOk P w K mg base (L2.CX P w) 3 (rdM K "__init__") fd ["self", "text"] (spInit K mg) := by
  have T := Fx.R
  refine F.okX scI (fun vs H Q E h => ?_) (fun cdv A outer s H vs Q E hr h => ?_)
  · obtain ⟨O, p, dx, t, ws, b, rfl, _⟩ := h
    rfl
  · obtain ⟨O, p, dx, t, ws, b, rfl, ht, tb, od, op, hp, hs, hb, q⟩ := h
    have E0 := env_self (K := K) (mg := mg) (t := t) tb od op
    refine ⟨_, pss_cons (ps_asg pe_sem (pg_tup rfl (pgs_cons (pg_fld (pv 0)) (pgs_cons (pg_name (i := 2) scI.nd rfl (Or.inl rfl)) pgs_nil))) (by kernel_rfl) (by kernel_rfl))
      (pss_cons (ps_fld (pv 0) (pe_ifExp (pt_cmpR op_isN (pv 2) pe_non (nomark _)) (pe_callB call_len_str (by rfl) T.len PySem.boot_len (pa_cons (pv 1) pa_nil)) (pv 2)) rfl)
      (pss_cons (ps_fld (pv 0) (pe_cmpR op_isN (pv 2) pe_non (nomark _)) rfl) (pss_one (ps_fld (pv 0) pe_int rfl)))), ?_⟩
    refine (je_call (M := Res) (W := Wd E) (ok_sign_words_in Fx) hr (by decide) (takes_of rfl rfl rfl rfl) (ja_cons (je_var 1 (d := .str t) (hv := .inl (by kernel_rfl))) ja_nil)) _ _ _ E0 _ ?_
    have hs' : (SpecM.bind (M := Res) (SpecM.bind (ok (.str t)) fun d => SpecM.bind (ok []) fun ds => ok (d :: ds)) fun ds => SpecM.ret (m_sign_words_in ds)) = .ok (.tuple [.list ws, b]) := hs
    rw [show (bnd (M := Res) (bnd (ok (.str t)) fun d => bnd (ok []) fun ds => ok (d :: ds)) fun ds => SpecM.ret (m_sign_words_in ds)) = .ok (.tuple [.list ws, b]) from hs]
    intro v H1 e1 r1
    have hp1 : H1 p = some (.ins (rdC K) dx []) := e1.keep _ _ (fun z => z) (fun _ z => nomatch z) hp
    obtain ⟨c, ys, rfl, k1, k2⟩ := r1.tuple
    obtain ⟨u, q1, rfl, k3, k4⟩ := k2.cons_of
    obtain ⟨u2, q2, rfl, k5, k6⟩ := k4.cons_of
    rw [k6.nil_of] at k1
    obtain ⟨L, xs, eL, _, _⟩ := k3.list
    subst eL
    have e0 : Ext (fun a => a = p) (fun _ => False) H H1 := e1.wide fun _ z => z.elim
    refine ⟨c, _, rfl, k1, rfl, _, _, rfl, _, rfl, p, rdC K, dx, [], rfl, hp1, T.cl, T.nW, (by show (0 : Nat) < 1000; decide), ?_⟩
    have x1 : Ext (fun a => a = p) (fun _ => False) H1 (upd H1 p (.ins (rdC K) dx (putF "words" (.ref L) []))) := ext_ins hp1
    refine ⟨u2, _, rfl, ?_⟩
    have kR : Rep K mg O H1 (.ref L) (.list ws) := k3.anti fun a z => .inl z
    have fin : ∀ (e w : V) (H' : Hp), H' = upd (upd (upd (upd H1 p (.ins (rdC K) dx (putF "words" (.ref L) []))) p (.ins (rdC K) dx (putF "end" e (putF "words" (.ref L) [])))) p (.ins (rdC K) dx (putF "is_whole" w (putF "end" e (putF "words" (.ref L) []))))) p (.ins (rdC K) dx (putF "at" (.int 0) (putF "is_whole" w (putF "end" e (putF "words" (.ref L) []))))) → e = .int (endOf t b) → w = .bl (wholeOf b) → Q .non H' := fun e w H' eH ee ew => by
      have x : Ext (fun a => a = p) (fun _ => False) H1 H' := by
        rw [eH]
        exact (ext_ins hp1).trans ((ext_ins upd_same).trans ((ext_ins upd_same).trans (ext_ins upd_same)))
      refine q H' (e0.trans x) ⟨op, dx, L, ?_, kR.ext x fun a z => z ▸ op⟩
      rw [eH, upd_same, ee, ew]
      kernel_rfl
    rcases hb with rfl | ⟨i, rfl⟩
    · obtain rfl : u2 = .non := k5.toNon
      refine ⟨rfl, _, rfl, rfl, true, (by kernel_rfl), iteT ⟨_, rfl, t, rfl, (by rw [sizeLine_eq]; exact ht), ?_⟩⟩
      refine ⟨_, rfl, p, _, dx, _, rfl, upd_same, T.cl, T.nE, (by show (1 : Nat) < 1000; decide), ?_⟩
      refine ⟨_, rfl, rfl, _, rfl, p, _, dx, _, rfl, upd_same, T.cl, T.nI, (by show (2 : Nat) < 1000; decide), ?_⟩
      refine ⟨_, rfl, p, _, dx, _, rfl, upd_same, T.cl, T.nA, (by show (3 : Nat) < 1000; decide), ?_⟩
      exact fin _ _ _ rfl rfl (by kernel_rfl)
    · obtain rfl : u2 = .int i := k5.toInt
      refine ⟨rfl, _, rfl, rfl, false, (by kernel_rfl), iteF ⟨_, rfl, ?_⟩⟩
      refine ⟨_, rfl, p, _, dx, _, rfl, upd_same, T.cl, T.nE, (by show (1 : Nat) < 1000; decide), ?_⟩
      refine ⟨_, rfl, rfl, _, rfl, p, _, dx, _, rfl, upd_same, T.cl, T.nI, (by show (2 : Nat) < 1000; decide), ?_⟩
      refine ⟨_, rfl, p, _, dx, _, rfl, upd_same, T.cl, T.nA, (by show (3 : Nat) < 1000; decide), ?_⟩
      exact fin _ _ _ rfl rfl (by kernel_rfl)
end
end DE

set_option maxHeartbeats 4000000
namespace DE
open PySem PySem.Spec PyProof.Rows L2 LamX
variable [τ : TabCtx]
section
variable {P : Program} {w : World} {K : PySem.W.Frag} {mg : Str → Option Value} {base : Heap}
theorem gc_str {x s : Str} (h : GC K mg x (.str s)) : ∃ u, mg x = some u ∧ RelV (.str s) u := by
  obtain ⟨u, v, h1, h2, h3⟩ := h
  obtain rfl : v = .str s := (h3 (fun _ => False) (fun _ => none)).toStr
  exact ⟨u, h1, h2⟩
theorem scRI : FnScope ["reader", "found"] ["reader"] (defScope (topS 53)) := ⟨rfl, rfl, rfl, by decide +kernel, rfl, by decide +kernel, by decide +kernel⟩
def spItems (K : PySem.W.Frag) (mg : Str → Option Value) : Sp := fun vs H Q _ => ∃ (O : Addr → Prop) (p : Addr) (ws : List D) (en : Int) (wh : Bool) (n s : Int), vs = [.ref p] ∧ TabsOK H ∧ (∀ a, O a → H a ≠ none) ∧ RdAt K mg O H p ws en wh n ∧ 0 ≤ n ∧ n ≤ ws.length ∧ nextD ws n = some (some (("one" : Str), s)) ∧
  ∀ v H', Ext (fun a => a = p) (fun _ => False) H H' → RdAt K mg O H' p ws en wh (n + 1) → Rep K mg O H' v (.list []) → Q v H'
theorem ok_read_items (Fx : Facts P w K mg base) : ∃ f fd, mg "read_items" = some (.ref f) ∧ PySem.W.keepIn K (.ref f) = true ∧ Binds K fd ["reader"] [] ∧ FnOk P w K mg base (L2.CX P w) 6 f fd ["reader"] (spItems K mg) := by
  obtain ⟨f, fd, h1, h2, F, bi⟩ := Fx.f_read_items.ex
  have T := Fx.R
  obtain ⟨fdN, FN, bN⟩ := T.fN
  obtain ⟨fdD, c, Pt, FD, bD, tb, hI⟩ := T.fD
  obtain ⟨u1, g1, g2⟩ := gc_str Fx.c_ONE
  refine ⟨f, fd, h1, h2, bi, F.okX scRI (fun vs H Q E h => ?_) (fun cdv A outer s H vs Q E hr h => ?_)⟩
  · obtain ⟨O, p, ws, en, wh, n, s, rfl, _⟩ := h
    rfl
  · obtain ⟨O, p, ws, en, wh, n, sp, rfl, ht, od, R, n0, n1, hn, q⟩ := h
    refine ⟨_, pss_cons (ps_if (pt_cmpR op_eq (pe_meth0 (E := fun _ _ _ => False) (pv 0) T.cl T.mN (ok_next T FN) (hr.mono (by decide)) bN .nil (L2.passes_call L2.takes0 fun _ _ _ _ z => z)) (pe_glob (by (show _ = _); kernel_rfl) g1 g2) (nomark _))
      (pss_cons (ps_expr (pe_meth (E := E) (pv 0) T.cl T.mD (ok_told T FD tb hI) hr bD .nil (L2.passes_call (takes_of rfl rfl rfl rfl) fun _ _ _ _ h => h) (pa_cons (pe_glob (by (show _ = _); kernel_rfl) g1 g2) pa_nil))) (pss_one (ps_ret (pe_lst pa_nil)))) pss_nil) pss_sem, ?_⟩
    have R' := R
    obtain ⟨op, dx, L, hp, rl⟩ := R'
    refine ⟨_, rfl, p, dx, _, rfl, hp, (by kernel_rfl), O, p, ws, en, wh, n, rfl, R, n1, .inr ⟨_, sp, hn, ?_⟩⟩
    refine ⟨rfl, true, (by kernel_rfl), iteT ?_⟩
    refine ⟨_, rfl, p, dx, _, rfl, hp, (by kernel_rfl), O, p, ws, en, wh, n, "one", rfl, ht, R, n0, n1, .inr ⟨_, sp, hn, fun z => (z rfl).elim, fun _ H' e R2 => ?_⟩⟩
    refine ⟨Nat.zero_le _, fun l hl => ?_⟩
    have e2 : Ext (fun a => a = p) (fun _ => False) H' (upd H' l (.lst [])) := .new hl
    have R3 : RdAt K mg O (upd H' l (.lst [])) p ws en wh (n + 1) := by
      obtain ⟨o2, dx2, L2, hp2, rl2⟩ := R2
      exact ⟨o2, dx2, L2, by rw [upd_ne (ne_of_none hp2 hl)]; exact hp2, rl2.ext e2 fun a z => z ▸ o2⟩
    exact q _ _ (e.trans e2) R3 (.lst (.inl ⟨upd_same, fun z => e.there l (od l z) hl⟩) .nil)
/-- the sign words of a text of one word alone -/
def oneWord (z : Str) : Option (Str × Int) := if z.length ≤ 16777216 then (match m_sign_words_in [.str z] with
  | .ok (.tuple [.list [.tuple [.str w, .int s]], .none]) => some (w, s)
  | _ => none) else none
theorem oneWord_of {z : Str} {w : Str} {s : Int} (h : oneWord z = some (w, s)) : z.length ≤ 16777216 ∧ m_sign_words_in [.str z] = .ok (.tuple [.list [.tuple [.str w, .int s]], .none]) := by
  unfold oneWord at h
  split at h
  · rename_i hz
    split at h
    · rename_i e
      cases h
      exact ⟨hz, e⟩
    · cases h
  · cases h
def m_only_items : List D → Res D
  | [.str z] => (match oneWord z with
    | some (w, _) => if w = ("one" : Str) then .ok (.list []) else .bad
    | none => .bad)
  | _ => .bad
def m_book_rows : List D → Res D
  | [.str z] => (match oneWord z with
    | some (w, s) => if w = ("layers" : Str) then .bad else .exc ⟨"ParseError", some ("spot", .int s)⟩
    | none => .bad)
  | _ => .bad
theorem next_one (w : Str) (s : Int) : nextD [.tuple [.str w, .int s]] 0 = some (some (w, s)) := by
  unfold nextD
  rw [if_neg (by show ¬ ((0 : Int) = ((1 : Nat) : Int)); decide)]
  rfl
theorem only_cases (ds : List D) : m_only_items ds = .bad ∨ ∃ z s, ds = [.str z] ∧ oneWord z = some (("one" : Str), s) ∧ m_only_items ds = .ok (.list []) := by
  match ds with
  | [.str z] =>
    cases h : oneWord z with
    | none => left; simp only [m_only_items, h]
    | some p =>
      obtain ⟨w, s⟩ := p
      by_cases hw : w = ("one" : Str)
      · subst hw
        exact .inr ⟨z, s, rfl, h, by simp only [m_only_items, h, if_true]⟩
      · left; simp only [m_only_items, h, if_neg hw]
  | [] => exact .inl rfl
  | .none :: _ => left; unfold m_only_items; rfl
  | .bool _ :: _ => left; unfold m_only_items; rfl
  | .int _ :: _ => left; unfold m_only_items; rfl
  | .tuple _ :: _ => left; unfold m_only_items; rfl
  | .list _ :: _ => left; unfold m_only_items; rfl
  | .dict _ :: _ => left; unfold m_only_items; rfl
  | .str _ :: _ :: _ => left; unfold m_only_items; rfl
theorem rows_cases (ds : List D) : m_book_rows ds = .bad ∨ ∃ z w s, ds = [.str z] ∧ oneWord z = some (w, s) ∧ w ≠ ("layers" : Str) ∧ m_book_rows ds = .exc ⟨"ParseError", some ("spot", .int s)⟩ := by
  match ds with
  | [.str z] =>
    cases h : oneWord z with
    | none => left; simp only [m_book_rows, h]
    | some p =>
      obtain ⟨w, s⟩ := p
      by_cases hw : w = ("layers" : Str)
      · left; simp only [m_book_rows, h, if_pos hw]
      · exact .inr ⟨z, w, s, rfl, h, hw, by simp only [m_book_rows, h, if_neg hw]⟩
  | [] => exact .inl rfl
  | .none :: _ => left; unfold m_book_rows; rfl
  | .bool _ :: _ => left; unfold m_book_rows; rfl
  | .int _ :: _ => left; unfold m_book_rows; rfl
  | .tuple _ :: _ => left; unfold m_book_rows; rfl
  | .list _ :: _ => left; unfold m_book_rows; rfl
  | .dict _ :: _ => left; unfold m_book_rows; rfl
  | .str _ :: _ :: _ => left; unfold m_book_rows; rfl
/-- a reader is made -/
theorem made {O : Addr → Prop} {H : Hp} {x dx : Addr} (tb : TabsOK H) (od : ∀ a, O a → H a ≠ none) (h1 : H x = none) (h2 : H dx = none) (h3 : dx ≠ x) :
    Ext0 H (upd (upd H dx (.own x)) x (.ins (rdC K) dx [])) ∧ TabsOK (upd (upd H dx (.own x)) x (.ins (rdC K) dx [])) ∧ ∀ a, (O a ∨ a = x) → (upd (upd H dx (.own x)) x (.ins (rdC K) dx [])) a ≠ none := by
  have e1 : Ext0 H (upd H dx (.own x)) := .new h2
  have h1' : (upd H dx (.own x)) x = none := by rw [upd_ne h3.symm]; exact h1
  have e2 : Ext0 (upd H dx (.own x)) (upd (upd H dx (.own x)) x (.ins (rdC K) dx [])) := .new h1'
  have e := e1.trans e2
  refine ⟨e, tb.ext e, fun a z => ?_⟩
  rcases z with z | z
  · exact e.there a (od a z)
  · rw [z, upd_same]; exact fun q => nomatch q
theorem own_ext0 {H H1 H2 : Hp} {x : Addr} (h : H x = none) (e0 : Ext0 H H1) (e : Ext (fun a => a = x) (fun _ => False) H1 H2) : Ext0 H H2 := Ext.own e0 (fun _ z => z.elim) (.inl h) e
theorem scOI : FnScope ["text", "reader", "found"] ["text"] (defScope (topS 54)) := ⟨rfl, rfl, rfl, by decide +kernel, rfl, by decide +kernel, by decide +kernel⟩
theorem ok_only_items (Fx : Facts P w K mg base) : DefP P w K mg base "only_items" 14 1 m_only_items := by
  obtain ⟨f, fd, h1, h2, F, bi⟩ := Fx.f_only_items.ex
  have T := Fx.R
  obtain ⟨fdI, FI, bI⟩ := T.fI
  obtain ⟨fdO, FO, bO⟩ := T.fO
  obtain ⟨fr, fdr, r1, r2, r3, okr⟩ := ok_read_items Fx
  refine ⟨f, fd, _, h1, h2, bi, (F.okX (k := 13) scOI (fun vs H Q E h => ?_) (fun cdv A outer s H vs Q E hr h => ?_)), fun ds hd => ?_⟩
  · obtain ⟨O, ds, hl, _⟩ := h
    exact hl
  · obtain ⟨O, ds, hl, tb, od, r, hq⟩ := h
    rcases only_cases ds with hb | ⟨z, sp, rfl, ho, hm⟩
    · rw [hb] at hq
      exact hq.elim
    rw [hm] at hq
    obtain ⟨hz, hsw⟩ := oneWord_of ho
    obtain ⟨u, us, rfl, ru, rn⟩ := r.cons_of
    rw [rn.nil_of, ru.toStr]
    refine ⟨_, pss_cons (ps_set (i := 1) scOI.nd rfl (Or.inl rfl) (pe_make (E := fun _ _ _ => False) T.mkr (ok_init Fx FI) (hr.mono (by decide)) (by (show _ = _); kernel_rfl) T.mgC bI .nil (L2.passes_call L2.takes0 fun _ _ _ _ z => z) (pa_cons (pv 0) pa_nil)))
      (pss_cons (ps_set (i := 2) scOI.nd rfl (Or.inl rfl) (pe_call (E := fun _ _ _ => False) okr (hr.mono (by decide)) (by (show _ = _); kernel_rfl) r1 r2 r3 .nil (L2.passes_call L2.takes0 fun _ _ _ _ z => z) (pa_cons (pv 1) pa_nil)))
      (pss_cons (ps_if (pt_not (pt_val (pe_meth0 (E := fun _ _ _ => False) (pv 1) T.cl T.mO (ok_over T FO) (hr.mono (by decide)) bO .nil (L2.passes_call L2.takes0 fun _ _ _ _ z => z)))) pss_sem pss_nil) (pss_one (ps_ret (pv 2))))), ?_⟩
    refine ⟨_, rfl, fun x dx nx ndx nd => ?_⟩
    obtain ⟨e1, tb1, od1⟩ := made tb od nx ndx nd
    refine ⟨fun a => O a ∨ a = x, x, dx, z, _, _, rfl, hz, tb1, od1, .inr rfl, upd_same, hsw, .inl rfl, fun H2 e2 R2 => ⟨rfl, ?_⟩⟩
    refine ⟨_, rfl, fun a => O a ∨ a = x, x, _, _, _, _, sp, rfl, tb1.ext e2, fun a z => e2.there a (od1 a z), R2, Int.le_refl 0, (by show (0 : Int) ≤ ((1 : Nat) : Int); decide), next_one _ _, fun v H3 e3 R3 rv => ?_⟩
    obtain ⟨op, dx3, L3, hp3, rl3⟩ := R3
    refine ⟨_, rfl, x, dx3, _, rfl, hp3, (by kernel_rfl), _, x, _, _, _, _, rfl, ⟨op, dx3, L3, hp3, rl3⟩, _, rfl, iteF ?_⟩
    refine ⟨_, rfl, ?_⟩
    exact hq _ _ (own_ext0 nx e1 (e2.trans e3)) (rv.anti fun a z => .inl z)
  · match ds, hd with
    | [], _ => rfl
    | [_], hd => exact (hd rfl).elim
    | a :: b :: c, _ =>
      rcases only_cases (a :: b :: c) with h | ⟨z, s, e, _⟩
      · exact h
      · cases e
theorem scBR : FnScope ["text", "reader", "rows", "primes"] ["text"] (defScope (topS 56)) := ⟨rfl, rfl, rfl, by decide +kernel, rfl, by decide +kernel, by decide +kernel⟩
theorem ok_book_rows (Fx : Facts P w K mg base) : DefP P w K mg base "book_rows" 14 1 m_book_rows := by
  obtain ⟨f, fd, h1, h2, F, bi⟩ := Fx.f_book_rows.ex
  have T := Fx.R
  obtain ⟨fdI, FI, bI⟩ := T.fI
  obtain ⟨fdD, c, Pt, FD, bD, tbd, hI⟩ := T.fD
  obtain ⟨u1, g1, g2⟩ := gc_str Fx.c_LAYERS
  refine ⟨f, fd, _, h1, h2, bi, (F.okX (k := 13) scBR (fun vs H Q E h => ?_) (fun cdv A outer s H vs Q E hr h => ?_)), fun ds hd => ?_⟩
  · obtain ⟨O, ds, hl, _⟩ := h
    exact hl
  · obtain ⟨O, ds, hl, tb, od, r, hq⟩ := h
    rcases rows_cases ds with hb | ⟨z, w1, sp, rfl, ho, hw, hm⟩
    · rw [hb] at hq
      exact hq.elim
    rw [hm] at hq
    obtain ⟨hz, hsw⟩ := oneWord_of ho
    obtain ⟨u, us, rfl, ru, rn⟩ := r.cons_of
    rw [rn.nil_of, ru.toStr]
    refine ⟨_, pss_cons (ps_par (i := 1) (j := 2) rfl scBR.nd rfl rfl (by decide) (by kernel_rfl) (by kernel_rfl) (pa_cons (pe_make (E := fun _ _ _ => False) T.mkr (ok_init Fx FI) (hr.mono (by decide)) (by (show _ = _); kernel_rfl) T.mgC bI .nil (L2.passes_call L2.takes0 fun _ _ _ _ z => z) (pa_cons (pv 0) pa_nil)) (pa_cons (pe_lst pa_nil) pa_nil)) (by kernel_rfl) (by kernel_rfl))
      (pss_cons (ps_expr (pe_meth (E := E) (pv 1) T.cl T.mD (ok_told T FD tbd hI) (hr.mono (by decide)) bD .nil (L2.passes_call (takes_of rfl rfl rfl rfl) fun _ _ _ _ h => h) (pa_cons (pe_glob (by (show _ = _); kernel_rfl) g1 g2) pa_nil))) pss_sem), ?_⟩
    refine ⟨_, rfl, fun x dx nx ndx nd => ?_⟩
    obtain ⟨e1, tb1, od1⟩ := made tb od nx ndx nd
    refine ⟨fun a => O a ∨ a = x, x, dx, z, _, _, rfl, hz, tb1, od1, .inr rfl, upd_same, hsw, .inl rfl, fun H2 e2 R2 => ⟨rfl, ?_⟩⟩
    refine ⟨Nat.zero_le _, fun l hl2 => ⟨_, _, rfl, ?_⟩⟩
    have e3 : Ext (fun a => a = x) (fun _ => False) H2 (upd H2 l (.lst [])) := .new hl2
    obtain ⟨op, dx3, L3, hp3, rl3⟩ := R2
    have hp4 : (upd H2 l (.lst [])) x = _ := (upd_ne (ne_of_none hp3 hl2)).trans hp3
    have R3 : RdAt K mg (fun a => O a ∨ a = x) (upd H2 l (.lst [])) x _ _ _ 0 := ⟨op, dx3, L3, hp4, rl3.ext e3 fun a z => z ▸ op⟩
    refine ⟨_, rfl, x, dx3, _, rfl, hp4, (by kernel_rfl), fun a => O a ∨ a = x, x, _, _, _, _, "layers", rfl, (tb1.ext e2).ext e3, R3, Int.le_refl 0, (by show (0 : Int) ≤ ((1 : Nat) : Int); decide), .inr ⟨_, sp, next_one _ _, fun _ cls d H4 e4 x4 => ?_, fun q => (hw q).elim⟩⟩
    exact hq cls d H4 (own_ext0 nx e1 ((e2.trans e3).trans e4)) (x4.anti fun a z => .inl z)
  · match ds, hd with
    | [], _ => rfl
    | [_], hd => exact (hd rfl).elim
    | a :: b :: c, _ =>
      rcases rows_cases (a :: b :: c) with h | ⟨z, w, s, e, _⟩
      · exact h
      · cases e
end
end DE

set_option maxHeartbeats 4000000
namespace DE
open PySem PySem.Spec PyProof.Rows L2
variable [τ : TabCtx]
abbrev s_is_word_told : Stmt := topS 57
theorem sc_is_word_told : FnScope ["items", "i", "often"] ["items"] (defScope s_is_word_told) := ⟨rfl, rfl, rfl, by decide +kernel, rfl, by decide +kernel, by decide +kernel⟩
def w_is_word_told : {m : D → Res (Fl Unit Empty) // ∀ {P : Program} {w : World} {K : PySem.W.Frag} {mg : Str → Option Value} {base : Heap} (Fx : Facts P w K mg base) (f : Addr) (cdv : Value) (A : Around) (outer : List PySem.Env) (s : Shared) (H : Hp) (E : XK) (hr : Room 0 (Xd P w K mg base ["items", "i", "often"] "is_word_told" s_is_word_told f cdv A outer s H E).A), ∀ (v_items : D), JS (Xd P w K mg base ["items", "i", "often"] "is_word_told" s_is_word_told f cdv A outer s H E) (Wd E) [0, 1, 2] (defBody s_is_word_told) [.dat v_items, .any, .any] (m v_items) (fun _ => [.any, .any, .any]) (fun t => nomatch t)} :=
  ⟨_, fun Fx f cdv A outer s H E hr v_items =>
    js_ret (je_and (je_cmp op_le ro_le (ha := (je_callB1 call_len rc_len Fx.b_len (ha := (jq (je_var 0 (d := v_items) (hv := .inl (by kernel_rfl))))))) (hb := (je_gc Fx.c_MOST_ITEMS))) (je_one (je_callB1 (cr_all rfl) rc_all Fx.b_all (ha := (jq (je_jf (jf_lc rfl sc_is_word_told.nd (blkOk_by (own := [("i", 1), ("often", 2)]) (by kernel_rfl)) (fun _ _ _ _ _ => pg_tup rfl (pgs_cons (pg_name sc_is_word_told.nd (by kernel_rfl) (.inl (by kernel_rfl))) (pgs_cons (pg_name sc_is_word_told.nd (by kernel_rfl) (.inl (by kernel_rfl))) pgs_nil))) (rd2 1 2 (jc (ji_seq (je_var 0 (d := v_items) (hv := .inl (by kernel_rfl))))) (by decide) (by decide) (ht := fun d_i_1 d_often_2 _ _ _ _ _ => jts_nil) (he := fun d_i_1 d_often_2 _ _ _ _ _ => (je_cmp op_le ro_le (ha := (je_var 2 (d := d_often_2) (hv := .inl (by kernel_rfl)))) (hb := (je_gc Fx.c_MOST_POWER))))))))))))⟩
def m_is_word_told : List D → Res D := fn1 fun v_items => runF (w_is_word_told.1 v_items)
theorem ok_is_word_told {P : Program} {w : World} {K : PySem.W.Frag} {mg : Str → Option Value} {base : Heap} (Fx : Facts P w K mg base) : DefP P w K mg base "is_word_told" 1 1 m_is_word_told := by
  obtain ⟨f, fd, hm, kp, Fn, bi⟩ := Fx.f_is_word_told.ex
  exact ⟨f, fd, ["items"], hm, kp, bi, fn_pure Fn sc_is_word_told rfl [0, 1, 2] fn1_bad (fun cdv A outer s H E hr ds hd => by
      obtain ⟨a, rfl⟩ := len1 hd
      exact ⟨_, w_is_word_told.1 a, rfl, w_is_word_told.2 Fx f cdv A outer s H E hr a⟩), fn1_bad⟩
abbrev s_vector_told : Stmt := topS 58
theorem sc_vector_told : FnScope ["primes", "items", "names", "found", "i", "often", "one", "other"] ["primes", "items"] (defScope s_vector_told) := ⟨rfl, rfl, rfl, by decide +kernel, rfl, by decide +kernel, by decide +kernel⟩
def w_vector_told : {m : D → D → Res (Fl Unit Empty) // ∀ {P : Program} {w : World} {K : PySem.W.Frag} {mg : Str → Option Value} {base : Heap} (Fx : Facts P w K mg base) (f : Addr) (cdv : Value) (A : Around) (outer : List PySem.Env) (s : Shared) (H : Hp) (E : XK) (hr : Room 1 (Xd P w K mg base ["primes", "items", "names", "found", "i", "often", "one", "other"] "vector_told" s_vector_told f cdv A outer s H E).A), ∀ (v_primes v_items : D), JS (Xd P w K mg base ["primes", "items", "names", "found", "i", "often", "one", "other"] "vector_told" s_vector_told f cdv A outer s H E) (Wd E) [0, 1, 2, 3, 4, 5, 6, 7] (defBody s_vector_told) [.dat v_primes, .dat v_items, .any, .any, .any, .any, .any, .any] (m v_primes v_items) (fun _ => [.any, .any, .any, .any, .any, .any, .any, .any]) (fun t => nomatch t)} :=
  ⟨_, fun Fx f cdv A outer s H E hr v_primes v_items =>
    js_lcD 2 rfl sc_vector_told.nd (blkOk_by (own := [("i", 4), ("often", 5)]) (by kernel_rfl)) (fun _ _ _ _ _ => pg_tup rfl (pgs_cons (pg_name sc_vector_told.nd (by kernel_rfl) (.inl (by kernel_rfl))) (pgs_cons (pg_name sc_vector_told.nd (by kernel_rfl) (.inl (by kernel_rfl))) pgs_nil))) (rd2 4 5 (jc (ji_seq (je_var 1 (d := v_items) (hv := .inl (by kernel_rfl))))) (by decide) (by decide) (ht := fun d_i_2 d_often_3 _ _ _ _ _ => jts_nil) (he := fun d_i_2 d_often_3 _ _ _ _ _ => (je_var 4 (d := d_i_2) (hv := .inl (by kernel_rfl))))) (hr := fun v_names_1 => js_if (U := Unit) (N1 := fun u_6 => [.dat v_primes, .dat v_items, .dat (.list v_names_1), .any, .any, .any, .any, .any]) (jt_w (jw_or (jt_not (jt_tru (jq (je_callB1 (cr_all rfl) rc_all Fx.b_all (ha := (jq (je_jf (jf_lc rfl sc_vector_told.nd (blkOk_by (own := [("one", 6), ("other", 7)]) (by kernel_rfl)) (fun _ _ _ _ _ => pg_tup rfl (pgs_cons (pg_name sc_vector_told.nd (by kernel_rfl) (.inl (by kernel_rfl))) (pgs_cons (pg_name sc_vector_told.nd (by kernel_rfl) (.inl (by kernel_rfl))) pgs_nil))) (rd2 6 7 (jc (ji_zip (je_var 2 (d := (.list v_names_1)) (hv := .inl (by kernel_rfl))) (je_sliceT (jq (je_var 2 (d := (.list v_names_1)) (hv := .inl (by kernel_rfl)))) (jo_some je_int) jo_none) Fx.b_zip)) (by decide) (by decide) (ht := fun d_one_4 d_other_5 _ _ _ _ _ => jts_nil) (he := fun d_one_4 d_other_5 _ _ _ _ _ => (je_cmp op_lt ro_lt (ha := (je_var 6 (d := d_one_4) (hv := .inl (by kernel_rfl)))) (hb := (je_var 7 (d := d_other_5) (hv := .inl (by kernel_rfl))))))))))))))) (jw_or1 (jt_cmp (op_gtDD (uE hr)) ro_gtDD (ha := (jq (je_sliceT (jq (je_var 2 (d := (.list v_names_1)) (hv := .inl (by kernel_rfl)))) (jo_some (je_un un_neg ru_neg je_int)) jo_none))) (hb := (je_lst (ja_cons (je_op op_sub ro_sub (je_callB1 call_len rc_len Fx.b_len (ha := (jq (je_var 0 (d := v_primes) (hv := .inr (.inl (by kernel_rfl))))))) je_int) ja_nil))))))) (js_ret je_non) (js_nil () []) (fun u_6 => js_if (U := Unit) (N1 := fun u_9 => [.dat v_primes, .dat v_items, .dat (.list v_names_1), .any, .any, .any, .any, .any]) (jt_not (jt_tru (jq (je_callB1 (cr_all rfl) rc_all Fx.b_all (ha := (jq (je_jf (jf_lc rfl sc_vector_told.nd (blkOk_by (own := [("i", 4), ("often", 5)]) (by kernel_rfl)) (fun _ _ _ _ _ => pg_tup rfl (pgs_cons (pg_name sc_vector_told.nd (by kernel_rfl) (.inl (by kernel_rfl))) (pgs_cons (pg_name sc_vector_told.nd (by kernel_rfl) (.inl (by kernel_rfl))) pgs_nil))) (rd2 4 5 (jc (ji_seq (je_var 1 (d := v_items) (hv := .inl (by kernel_rfl))))) (by decide) (by decide) (ht := fun d_i_7 d_often_8 _ _ _ _ _ => jts_nil) (he := fun d_i_7 d_often_8 _ _ _ _ _ => (je_chain op_le op_lt ro_le ro_lt je_int (je_var 5 (d := d_often_8) (hv := .inl (by kernel_rfl))) (je_ixT (jq (je_var 0 (d := v_primes) (hv := .inr (.inl (by kernel_rfl))))) (je_var 4 (d := d_i_7) (hv := .inl (by kernel_rfl))))))))))))))) (js_ret je_non) (js_nil () []) (fun u_9 => js_own 3 (jf_list Fx.b_list (jq (je_call (ok_noughts_in Fx) hr (by decide) (takes_of rfl rfl rfl rfl) (ja_cons (je_callB1 call_len rc_len Fx.b_len (ha := (jq (je_var 0 (d := v_primes) (hv := .inr (.inl (by kernel_rfl))))))) ja_nil)))) sc_vector_told.nd (hx := .inl (by kernel_rfl)) (hr := fun v_found_10 => js_for2 4 5 (U := List D) v_found_10 [] (Z' := [0, 1, 2, 4, 5, 6, 7]) (I := fun s_11 => [.dat v_primes, .dat v_items, .dat (.list v_names_1), .own s_11, .any, .any, .any, .any]) (passes_of rfl) rfl (ji_seq (je_var 1 (d := v_items) (hv := .inl (by kernel_rfl)))) (pg_name sc_vector_told.nd (by kernel_rfl) (.inl (by kernel_rfl))) (pg_name sc_vector_told.nd (by kernel_rfl) (.inl (by kernel_rfl))) (fun s_11 v_i_12 v_often_13 => js_bad) (fun s_11 => js_ret (je_callT1 call_tuple_of rc_tuple Fx.b_tuple (ha := (jq_own 3 (ds := s_11) (hv := .inl (by kernel_rfl))))))))))⟩
def m_vector_told : List D → Res D := fn2 fun v_primes v_items => runF (w_vector_told.1 v_primes v_items)
theorem ok_vector_told {P : Program} {w : World} {K : PySem.W.Frag} {mg : Str → Option Value} {base : Heap} (Fx : Facts P w K mg base) : DefP P w K mg base "vector_told" 2 2 m_vector_told := by
  obtain ⟨f, fd, hm, kp, Fn, bi⟩ := Fx.f_vector_told.ex
  exact ⟨f, fd, ["primes", "items"], hm, kp, bi, fn_pure Fn sc_vector_told rfl [0, 1, 2, 3, 4, 5, 6, 7] fn2_bad (fun cdv A outer s H E hr ds hd => by
      obtain ⟨a, b, rfl⟩ := len2 hd
      exact ⟨_, w_vector_told.1 a b, rfl, w_vector_told.2 Fx f cdv A outer s H E hr a b⟩), fn2_bad⟩
abbrev s_item_text : Stmt := topS 61
theorem sc_item_text : FnScope ["i", "often"] ["i", "often"] (defScope s_item_text) := ⟨rfl, rfl, rfl, by decide +kernel, rfl, by decide +kernel, by decide +kernel⟩
def w_item_text : {m : D → D → Res (Fl Unit Empty) // ∀ {P : Program} {w : World} {K : PySem.W.Frag} {mg : Str → Option Value} {base : Heap} (Fx : Facts P w K mg base) (f : Addr) (cdv : Value) (A : Around) (outer : List PySem.Env) (s : Shared) (H : Hp) (E : XK) (hr : Room 0 (Xd P w K mg base ["i", "often"] "item_text" s_item_text f cdv A outer s H E).A), ∀ (v_i v_often : D), JS (Xd P w K mg base ["i", "often"] "item_text" s_item_text f cdv A outer s H E) (Wd E) [0, 1] (defBody s_item_text) [.dat v_i, .dat v_often] (m v_i v_often) (fun _ => [.any, .any]) (fun t => nomatch t)} :=
  ⟨_, fun Fx f cdv A outer s H E hr v_i v_often =>
    js_ret (je_if (jt_cmp (op_eqD (uE hr)) ro_eq (ha := (jq (je_var 1 (d := v_often) (hv := .inl (by kernel_rfl))))) (hb := je_int)) (je_ixT (jq (je_gc Fx.c_NAMES)) (je_var 0 (d := v_i) (hv := .inl (by kernel_rfl)))) (je_fstr (jj_cons (je_fmt (je_ixT (jq (je_gc Fx.c_NAMES)) (je_var 0 (d := v_i) (hv := .inl (by kernel_rfl))))) (jj_cons (je_fmt (je_gc Fx.c_CARET)) (jj_cons (je_fmt (je_var 1 (d := v_often) (hv := .inl (by kernel_rfl)))) jj_nil)))))⟩
def m_item_text : List D → Res D := fn2 fun v_i v_often => runF (w_item_text.1 v_i v_often)
theorem ok_item_text {P : Program} {w : World} {K : PySem.W.Frag} {mg : Str → Option Value} {base : Heap} (Fx : Facts P w K mg base) : DefP P w K mg base "item_text" 1 2 m_item_text := by
  obtain ⟨f, fd, hm, kp, Fn, bi⟩ := Fx.f_item_text.ex
  exact ⟨f, fd, ["i", "often"], hm, kp, bi, fn_pure Fn sc_item_text rfl [0, 1] fn2_bad (fun cdv A outer s H E hr ds hd => by
      obtain ⟨a, b, rfl⟩ := len2 hd
      exact ⟨_, w_item_text.1 a b, rfl, w_item_text.2 Fx f cdv A outer s H E hr a b⟩), fn2_bad⟩
abbrev s_items_text : Stmt := topS 62
theorem sc_items_text : FnScope ["items", "i", "often"] ["items"] (defScope s_items_text) := ⟨rfl, rfl, rfl, by decide +kernel, rfl, by decide +kernel, by decide +kernel⟩
def w_items_text : {m : D → Res (Fl Unit Empty) // ∀ {P : Program} {w : World} {K : PySem.W.Frag} {mg : Str → Option Value} {base : Heap} (Fx : Facts P w K mg base) (f : Addr) (cdv : Value) (A : Around) (outer : List PySem.Env) (s : Shared) (H : Hp) (E : XK) (hr : Room 1 (Xd P w K mg base ["items", "i", "often"] "items_text" s_items_text f cdv A outer s H E).A), ∀ (v_items : D), JS (Xd P w K mg base ["items", "i", "often"] "items_text" s_items_text f cdv A outer s H E) (Wd E) [0, 1, 2] (defBody s_items_text) [.dat v_items, .any, .any] (m v_items) (fun _ => [.any, .any, .any]) (fun t => nomatch t)} :=
  ⟨_, fun Fx f cdv A outer s H E hr v_items =>
    js_ret (je_if (jt_tru (jq (je_var 0 (d := v_items) (hv := .inl (by kernel_rfl))))) (je_join je_str (jq (je_jf (jf_lc rfl sc_items_text.nd (blkOk_by (own := [("i", 1), ("often", 2)]) (by kernel_rfl)) (fun _ _ _ _ _ => pg_tup rfl (pgs_cons (pg_name sc_items_text.nd (by kernel_rfl) (.inl (by kernel_rfl))) (pgs_cons (pg_name sc_items_text.nd (by kernel_rfl) (.inl (by kernel_rfl))) pgs_nil))) (rd2 1 2 (jc (ji_seq (je_var 0 (d := v_items) (hv := .inl (by kernel_rfl))))) (by decide) (by decide) (ht := fun d_i_1 d_often_2 _ _ _ _ _ => jts_nil) (he := fun d_i_1 d_often_2 _ _ _ _ _ => (je_call (ok_item_text Fx) hr (by decide) L2.takes0 (ja_cons (je_var 1 (d := d_i_1) (hv := .inl (by kernel_rfl))) (ja_cons (je_var 2 (d := d_often_2) (hv := .inl (by kernel_rfl))) ja_nil))))))))) (je_gc Fx.c_ONE))⟩
def m_items_text : List D → Res D := fn1 fun v_items => runF (w_items_text.1 v_items)
theorem ok_items_text {P : Program} {w : World} {K : PySem.W.Frag} {mg : Str → Option Value} {base : Heap} (Fx : Facts P w K mg base) : DefP P w K mg base "items_text" 2 1 m_items_text := by
  obtain ⟨f, fd, hm, kp, Fn, bi⟩ := Fx.f_items_text.ex
  exact ⟨f, fd, ["items"], hm, kp, bi, fn_pure Fn sc_items_text rfl [0, 1, 2] fn1_bad (fun cdv A outer s H E hr ds hd => by
      obtain ⟨a, rfl⟩ := len1 hd
      exact ⟨_, w_items_text.1 a, rfl, w_items_text.2 Fx f cdv A outer s H E hr a⟩), fn1_bad⟩
abbrev s_vector_text : Stmt := topS 63
theorem sc_vector_text : FnScope ["vector", "i", "number"] ["vector"] (defScope s_vector_text) := ⟨rfl, rfl, rfl, by decide +kernel, rfl, by decide +kernel, by decide +kernel⟩
def w_vector_text : {m : D → Res (Fl Unit Empty) // ∀ {P : Program} {w : World} {K : PySem.W.Frag} {mg : Str → Option Value} {base : Heap} (Fx : Facts P w K mg base) (f : Addr) (cdv : Value) (A : Around) (outer : List PySem.Env) (s : Shared) (H : Hp) (E : XK) (hr : Room 2 (Xd P w K mg base ["vector", "i", "number"] "vector_text" s_vector_text f cdv A outer s H E).A), ∀ (v_vector : D), JS (Xd P w K mg base ["vector", "i", "number"] "vector_text" s_vector_text f cdv A outer s H E) (Wd E) [0, 1, 2] (defBody s_vector_text) [.dat v_vector, .any, .any] (m v_vector) (fun _ => [.any, .any, .any]) (fun t => nomatch t)} :=
  ⟨_, fun Fx f cdv A outer s H E hr v_vector =>
    js_ret (je_call (ok_items_text Fx) hr (by decide) (takes_of rfl rfl rfl rfl) (ja_cons (je_jf (jf_lc rfl sc_vector_text.nd (blkOk_by (own := [("i", 1), ("number", 2)]) (by kernel_rfl)) (fun _ _ _ _ _ => pg_tup rfl (pgs_cons (pg_name sc_vector_text.nd (by kernel_rfl) (.inl (by kernel_rfl))) (pgs_cons (pg_name sc_vector_text.nd (by kernel_rfl) (.inl (by kernel_rfl))) pgs_nil))) (rd2 1 2 (ji_enum (jq (je_var 0 (d := v_vector) (hv := .inl (by kernel_rfl)))) Fx.b_enumerate) (by decide) (by decide) (ht := fun d_i_1 d_number_2 _ _ _ _ _ => (jts_one (jt_cmp (op_neD (uE hr)) ro_ne (ha := (jq (je_var 2 (d := d_number_2) (hv := .inl (by kernel_rfl))))) (hb := je_int)))) (he := fun d_i_1 d_number_2 _ _ _ _ _ => (je_tup (ja_cons (je_var 1 (d := d_i_1) (hv := .inl (by kernel_rfl))) (ja_cons (je_var 2 (d := d_number_2) (hv := .inl (by kernel_rfl))) ja_nil))))))) ja_nil))⟩
def m_vector_text : List D → Res D := fn1 fun v_vector => runF (w_vector_text.1 v_vector)
theorem ok_vector_text {P : Program} {w : World} {K : PySem.W.Frag} {mg : Str → Option Value} {base : Heap} (Fx : Facts P w K mg base) : DefP P w K mg base "vector_text" 3 1 m_vector_text := by
  obtain ⟨f, fd, hm, kp, Fn, bi⟩ := Fx.f_vector_text.ex
  exact ⟨f, fd, ["vector"], hm, kp, bi, fn_pure Fn sc_vector_text rfl [0, 1, 2] fn1_bad (fun cdv A outer s H E hr ds hd => by
      obtain ⟨a, rfl⟩ := len1 hd
      exact ⟨_, w_vector_text.1 a, rfl, w_vector_text.2 Fx f cdv A outer s H E hr a⟩), fn1_bad⟩
abbrev s_plain_book : Stmt := topS 64
theorem sc_plain_book : FnScope ["book", "primes", "powers", "turns", "many", "found", "i", "vector", "row", "at", "j", "p"] ["book"] (defScope s_plain_book) := ⟨rfl, rfl, rfl, by decide +kernel, rfl, by decide +kernel, by decide +kernel⟩
def w_plain_book : {m : D → Res (Fl Unit Empty) // ∀ {P : Program} {w : World} {K : PySem.W.Frag} {mg : Str → Option Value} {base : Heap} (Fx : Facts P w K mg base) (f : Addr) (cdv : Value) (A : Around) (outer : List PySem.Env) (s : Shared) (H : Hp) (E : XK) (hr : Room 3 (Xd P w K mg base ["book", "primes", "powers", "turns", "many", "found", "i", "vector", "row", "at", "j", "p"] "plain_book" s_plain_book f cdv A outer s H E).A), ∀ (v_book : D), JS (Xd P w K mg base ["book", "primes", "powers", "turns", "many", "found", "i", "vector", "row", "at", "j", "p"] "plain_book" s_plain_book f cdv A outer s H E) (Wd E) [0, 1, 2, 3, 4, 5, 6, 7, 8, 9, 10, 11] (defBody s_plain_book) [.dat v_book, .any, .any, .any, .any, .any, .any, .any, .any, .any, .any, .any] (m v_book) (fun _ => [.any, .any, .any, .any, .any, .any, .any, .any, .any, .any, .any, .any]) (fun t => nomatch t)} :=
  ⟨_, fun Fx f cdv A outer s H E hr v_book =>
    js_un3 1 2 3 rfl (je_var 0 (d := v_book) (hv := .inl (by kernel_rfl))) (pg_name sc_plain_book.nd (by kernel_rfl) (.inl (by kernel_rfl))) (pg_name sc_plain_book.nd (by kernel_rfl) (.inl (by kernel_rfl))) (pg_name sc_plain_book.nd (by kernel_rfl) (.inl (by kernel_rfl))) (fun v_primes_1 v_powers_2 v_turns_3 => js_set 4 (je_callB1 call_len rc_len Fx.b_len (ha := (jq (je_var 1 (d := v_primes_1) (hv := .inl (by kernel_rfl)))))) sc_plain_book.nd (hx := .inl (by kernel_rfl)) (hr := fun v_many_4 => js_own 5 (jf_lst (ja_cons (je_op op_addA ro_addA (je_join je_str (jq (je_lst (ja_cons (je_gc Fx.c_LAYERS) (ja_star (jq (je_jf (jf_lc rfl sc_plain_book.nd (blkOk_by (own := [("p", 11)]) (by kernel_rfl)) (fun _ _ _ _ _ => (pg_name sc_plain_book.nd (by kernel_rfl) (.inl (by kernel_rfl)))) (rd1 11 (jc (ji_seq (je_var 1 (d := v_primes_1) (hv := .inl (by kernel_rfl))))) (by decide) (ht := fun d_p_6 _ _ _ _ _ => jts_nil) (he := fun d_p_6 _ _ _ _ _ => (je_callT1 call_str_int rc_str Fx.b_str (ha := (jq (je_var 11 (d := d_p_6) (hv := .inl (by kernel_rfl))))))))))) ja_nil))))) (je_gc Fx.c_END)) ja_nil)) sc_plain_book.nd (hx := .inl (by kernel_rfl)) (hr := fun v_found_5 => js_for2 6 7 (U := List D) v_found_5 [] (Z' := [0, 1, 2, 3, 4, 6, 7, 8, 9, 10, 11]) (I := fun s_7 => [.dat v_book, .dat v_primes_1, .dat v_powers_2, .dat v_turns_3, .dat v_many_4, .own s_7, .any, .any, .any, .any, .any, .any]) (passes_of rfl) rfl (ji_enumI (je_var 2 (d := v_powers_2) (hv := .inl (by kernel_rfl))) Fx.b_enumerate) (pg_name sc_plain_book.nd (by kernel_rfl) (.inl (by kernel_rfl))) (pg_name sc_plain_book.nd (by kernel_rfl) (.inl (by kernel_rfl))) (fun s_7 v_i_8 v_vector_9 => js_if (U := List D) (N1 := fun u_10 => [.dat v_book, .dat v_primes_1, .dat v_powers_2, .dat v_turns_3, .dat v_many_4, .own u_10, .dat v_i_8, .dat v_vector_9, .any, .any, .any, .any]) (jt_cmp (op_neD (uE hr)) ro_ne (ha := (jq (je_var 7 (d := v_vector_9) (hv := .inl (by kernel_rfl))))) (hb := (je_call (ok_noughts_in Fx) hr (by decide) (takes_of rfl rfl rfl rfl) (ja_cons (je_var 4 (d := v_many_4) (hv := .inl (by kernel_rfl))) ja_nil)))) (js_appP 5 (ds := s_7) (je_fstr (jj_cons (je_fmt (je_gc Fx.c_POWER)) (jj_cons je_str (jj_cons (je_fmt (je_ixT (jq (je_gc Fx.c_NAMES)) (je_var 6 (d := v_i_8) (hv := .inl (by kernel_rfl))))) (jj_cons (je_fmt (je_gc Fx.c_COLON)) (jj_cons je_str (jj_cons (je_fmt (je_call (ok_vector_text Fx) hr (by decide) (takes_of rfl rfl rfl rfl) (ja_cons (je_var 7 (d := v_vector_9) (hv := .inl (by kernel_rfl))) ja_nil))) (jj_cons (je_fmt (je_gc Fx.c_END)) jj_nil)))))))) (.inl (by kernel_rfl)) (fun v_found_11 => js_nil (s_7 ++ [v_found_11]) [])) (js_nil s_7 []) (fun u_10 => js_nil u_10 [6, 7])) (fun s_7 => js_for2 6 8 (U := List D) s_7 [] (Z' := [0, 1, 2, 3, 4, 6, 7, 8, 9, 10, 11]) (I := fun s_12 => [.dat v_book, .dat v_primes_1, .dat v_powers_2, .dat v_turns_3, .dat v_many_4, .own s_12, .any, .any, .any, .any, .any, .any]) (passes_of rfl) rfl (ji_enumI (je_var 3 (d := v_turns_3) (hv := .inl (by kernel_rfl))) Fx.b_enumerate) (pg_name sc_plain_book.nd (by kernel_rfl) (.inl (by kernel_rfl))) (pg_name sc_plain_book.nd (by kernel_rfl) (.inl (by kernel_rfl))) (fun s_12 v_i_13 v_row_14 => js_for2 9 7 (U := List D) s_12 [] (Z' := [0, 1, 2, 3, 4, 6, 7, 8, 9, 10, 11]) (I := fun s_15 => [.dat v_book, .dat v_primes_1, .dat v_powers_2, .dat v_turns_3, .dat v_many_4, .own s_15, .dat v_i_13, .any, .dat v_row_14, .any, .any, .any]) (passes_of rfl) rfl (ji_enumI (je_var 8 (d := v_row_14) (hv := .inl (by kernel_rfl))) Fx.b_enumerate) (pg_name sc_plain_book.nd (by kernel_rfl) (.inl (by kernel_rfl))) (pg_name sc_plain_book.nd (by kernel_rfl) (.inl (by kernel_rfl))) (fun s_15 v_at_16 v_vector_17 => js_set 10 (je_op op_addA ro_addA (je_op op_addA ro_addA (je_var 6 (d := v_i_13) (hv := .inl (by kernel_rfl))) je_int) (je_var 9 (d := v_at_16) (hv := .inl (by kernel_rfl)))) sc_plain_book.nd (hx := .inl (by kernel_rfl)) (hr := fun v_j_18 => js_if (U := List D) (N1 := fun u_19 => [.dat v_book, .dat v_primes_1, .dat v_powers_2, .dat v_turns_3, .dat v_many_4, .own u_19, .dat v_i_13, .dat v_vector_17, .dat v_row_14, .dat v_at_16, .dat v_j_18, .any]) (jt_cmp (op_neD (uE hr)) ro_ne (ha := (jq (je_var 7 (d := v_vector_17) (hv := .inl (by kernel_rfl))))) (hb := (je_call (ok_one_at Fx) hr (by decide) (takes_of rfl rfl rfl rfl) (ja_cons (je_var 4 (d := v_many_4) (hv := .inl (by kernel_rfl))) (ja_cons (je_var 10 (d := v_j_18) (hv := .inl (by kernel_rfl))) ja_nil))))) (js_appP 5 (ds := s_15) (je_fstr (jj_cons (je_fmt (je_gc Fx.c_TURN)) (jj_cons je_str (jj_cons (je_fmt (je_ixT (jq (je_gc Fx.c_NAMES)) (je_var 10 (d := v_j_18) (hv := .inl (by kernel_rfl))))) (jj_cons je_str (jj_cons (je_fmt (je_gc Fx.c_BY)) (jj_cons je_str (jj_cons (je_fmt (je_ixT (jq (je_gc Fx.c_NAMES)) (je_var 6 (d := v_i_13) (hv := .inl (by kernel_rfl))))) (jj_cons (je_fmt (je_gc Fx.c_COLON)) (jj_cons je_str (jj_cons (je_fmt (je_call (ok_vector_text Fx) hr (by decide) (takes_of rfl rfl rfl rfl) (ja_cons (je_var 7 (d := v_vector_17) (hv := .inl (by kernel_rfl))) ja_nil))) (jj_cons (je_fmt (je_gc Fx.c_END)) jj_nil)))))))))))) (.inl (by kernel_rfl)) (fun v_found_20 => js_nil (s_15 ++ [v_found_20]) [])) (js_nil s_15 []) (fun u_19 => js_nil u_19 [7, 9, 10]))) (fun s_15 => js_nil s_15 [6, 8])) (fun s_12 => js_ret (je_join je_str (jq_own 5 (ds := s_12) (hv := .inl (by kernel_rfl)))))))))⟩
def m_plain_book : List D → Res D := fn1 fun v_book => runF (w_plain_book.1 v_book)
theorem ok_plain_book {P : Program} {w : World} {K : PySem.W.Frag} {mg : Str → Option Value} {base : Heap} (Fx : Facts P w K mg base) : DefP P w K mg base "plain_book" 4 1 m_plain_book := by
  obtain ⟨f, fd, hm, kp, Fn, bi⟩ := Fx.f_plain_book.ex
  exact ⟨f, fd, ["book"], hm, kp, bi, fn_pure Fn sc_plain_book rfl [0, 1, 2, 3, 4, 5, 6, 7, 8, 9, 10, 11] fn1_bad (fun cdv A outer s H E hr ds hd => by
      obtain ⟨a, rfl⟩ := len1 hd
      exact ⟨_, w_plain_book.1 a, rfl, w_plain_book.2 Fx f cdv A outer s H E hr a⟩), fn1_bad⟩
abbrev s_is_free_word : Stmt := topS 65
theorem sc_is_free_word : FnScope ["value", "one", "i", "often"] ["value"] (defScope s_is_free_word) := ⟨rfl, rfl, rfl, by decide +kernel, rfl, by decide +kernel, by decide +kernel⟩
def w_is_free_word : {m : D → Res (Fl Unit Empty) // ∀ {P : Program} {w : World} {K : PySem.W.Frag} {mg : Str → Option Value} {base : Heap} (Fx : Facts P w K mg base) (f : Addr) (cdv : Value) (A : Around) (outer : List PySem.Env) (s : Shared) (H : Hp) (E : XK) (hr : Room 2 (Xd P w K mg base ["value", "one", "i", "often"] "is_free_word" s_is_free_word f cdv A outer s H E).A), ∀ (v_value : D), JS (Xd P w K mg base ["value", "one", "i", "often"] "is_free_word" s_is_free_word f cdv A outer s H E) (Wd E) [0, 1, 2, 3] (defBody s_is_free_word) [.dat v_value, .any, .any, .any] (m v_value) (fun _ => [.any, .any, .any, .any]) (fun t => nomatch t)} :=
  ⟨_, fun Fx f cdv A outer s H E hr v_value =>
    js_if (U := Unit) (N1 := fun u_2 => [.dat v_value, .any, .any, .any]) (jt_w (jw_or (jt_not (jt_tru (jq (je_isi .tup (je_var 0 (d := v_value) (hv := .inl (by kernel_rfl))) Fx.b_isinstance Fx.b_tuple)))) (jw_or (jt_cmp2 op_gt ro_gt (ha := (je_callB1 call_len rc_len Fx.b_len (ha := (jq (je_var 0 (d := v_value) (hv := .inl (by kernel_rfl))))))) (hb := (je_gc Fx.c_MOST_ITEMS))) (jw_or1 (jt_not (jt_tru (jq (je_callB1 (cr_all rfl) rc_all Fx.b_all (ha := (jq (je_jf (jf_lc rfl sc_is_free_word.nd (blkOk_by (own := [("one", 1)]) (by kernel_rfl)) (fun _ _ _ _ _ => (pg_name sc_is_free_word.nd (by kernel_rfl) (.inl (by kernel_rfl)))) (rd1 1 (jc (ji_seq (je_var 0 (d := v_value) (hv := .inl (by kernel_rfl))))) (by decide) (ht := fun d_one_1 _ _ _ _ _ => jts_nil) (he := fun d_one_1 _ _ _ _ _ => (je_call (ok_is_pair Fx) hr (by decide) L2.takes0 (ja_cons (je_var 1 (d := d_one_1) (hv := .inl (by kernel_rfl))) ja_nil)))))))))))))))) (js_ret je_bl) (js_nil () []) (fun u_2 => js_ret (je_callB1 (cr_all rfl) rc_all Fx.b_all (ha := (jq (je_jf (jf_lc rfl sc_is_free_word.nd (blkOk_by (own := [("i", 2), ("often", 3)]) (by kernel_rfl)) (fun _ _ _ _ _ => pg_tup rfl (pgs_cons (pg_name sc_is_free_word.nd (by kernel_rfl) (.inl (by kernel_rfl))) (pgs_cons (pg_name sc_is_free_word.nd (by kernel_rfl) (.inl (by kernel_rfl))) pgs_nil))) (rd2 2 3 (jc (ji_seq (je_var 0 (d := v_value) (hv := .inl (by kernel_rfl))))) (by decide) (by decide) (ht := fun d_i_3 d_often_4 _ _ _ _ _ => jts_nil) (he := fun d_i_3 d_often_4 _ _ _ _ _ => (je_and (je_call (ok_is_within Fx) hr (by decide) L2.takes0 (ja_cons (je_var 2 (d := d_i_3) (hv := .inl (by kernel_rfl))) (ja_cons je_int (ja_cons (je_op op_sub ro_sub (je_gc Fx.c_MOST_NAMES) je_int) ja_nil)))) (je_one (je_call (ok_is_within Fx) hr (by decide) L2.takes0 (ja_cons (je_var 3 (d := d_often_4) (hv := .inl (by kernel_rfl))) (ja_cons je_int (ja_cons (je_gc Fx.c_MOST_POWER) ja_nil))))))))))))))⟩
def m_is_free_word : List D → Res D := fn1 fun v_value => runF (w_is_free_word.1 v_value)
theorem ok_is_free_word {P : Program} {w : World} {K : PySem.W.Frag} {mg : Str → Option Value} {base : Heap} (Fx : Facts P w K mg base) : DefP P w K mg base "is_free_word" 3 1 m_is_free_word := by
  obtain ⟨f, fd, hm, kp, Fn, bi⟩ := Fx.f_is_free_word.ex
  exact ⟨f, fd, ["value"], hm, kp, bi, fn_pure Fn sc_is_free_word rfl [0, 1, 2, 3] fn1_bad (fun cdv A outer s H E hr ds hd => by
      obtain ⟨a, rfl⟩ := len1 hd
      exact ⟨_, w_is_free_word.1 a, rfl, w_is_free_word.2 Fx f cdv A outer s H E hr a⟩), fn1_bad⟩
abbrev s_require_text : Stmt := topS 66
theorem sc_require_text : FnScope ["text"] ["text"] (defScope s_require_text) := ⟨rfl, rfl, rfl, by decide +kernel, rfl, by decide +kernel, by decide +kernel⟩
def w_require_text : {m : D → Res (Fl Unit Empty) // ∀ {P : Program} {w : World} {K : PySem.W.Frag} {mg : Str → Option Value} {base : Heap} (Fx : Facts P w K mg base) (f : Addr) (cdv : Value) (A : Around) (outer : List PySem.Env) (s : Shared) (H : Hp) (E : XK) (hr : Room 0 (Xd P w K mg base ["text"] "require_text" s_require_text f cdv A outer s H E).A), ∀ (v_text : D), JS (Xd P w K mg base ["text"] "require_text" s_require_text f cdv A outer s H E) (Wd E) [0] (defBody s_require_text) [.dat v_text] (m v_text) (fun _ => [.any]) (fun t => nomatch t)} :=
  ⟨_, fun Fx f cdv A outer s H E hr v_text =>
    js_if (U := Unit) (N1 := fun u_1 => [.dat v_text]) (jt_w (jw_or (jt_not (jt_tru (jq (je_isi .str (je_var 0 (d := v_text) (hv := .inl (by kernel_rfl))) Fx.b_isinstance Fx.b_str)))) (jw_or1 (jt_cmp2 op_gt ro_gt (ha := (je_callB1 call_len rc_len Fx.b_len (ha := (jq (je_var 0 (d := v_text) (hv := .inl (by kernel_rfl))))))) (hb := (je_gc Fx.c_MOST_SIGNS)))))) (js_raise Fx.x_InvalidOperation rfl (takes_of rfl rfl rfl rfl)) (js_nil () []) (fun u_1 => js_nil () [0])⟩
def m_require_text : List D → Res D := fn1 fun v_text => runF (w_require_text.1 v_text)
theorem ok_require_text {P : Program} {w : World} {K : PySem.W.Frag} {mg : Str → Option Value} {base : Heap} (Fx : Facts P w K mg base) : DefP P w K mg base "require_text" 1 1 m_require_text := by
  obtain ⟨f, fd, hm, kp, Fn, bi⟩ := Fx.f_require_text.ex
  exact ⟨f, fd, ["text"], hm, kp, bi, fn_pure Fn sc_require_text rfl [0] fn1_bad (fun cdv A outer s H E hr ds hd => by
      obtain ⟨a, rfl⟩ := len1 hd
      exact ⟨_, w_require_text.1 a, rfl, w_require_text.2 Fx f cdv A outer s H E hr a⟩), fn1_bad⟩
abbrev s_sign_words : Stmt := topS 67
theorem sc_sign_words : FnScope ["text", "words", "spot", "word", "at"] ["text"] (defScope s_sign_words) := ⟨rfl, rfl, rfl, by decide +kernel, rfl, by decide +kernel, by decide +kernel⟩
def w_sign_words : {m : D → Res (Fl Unit Empty) // ∀ {P : Program} {w : World} {K : PySem.W.Frag} {mg : Str → Option Value} {base : Heap} (Fx : Facts P w K mg base) (f : Addr) (cdv : Value) (A : Around) (outer : List PySem.Env) (s : Shared) (H : Hp) (E : XK) (hr : Room 2 (Xd P w K mg base ["text", "words", "spot", "word", "at"] "sign_words" s_sign_words f cdv A outer s H E).A), ∀ (v_text : D), JS (Xd P w K mg base ["text", "words", "spot", "word", "at"] "sign_words" s_sign_words f cdv A outer s H E) (Wd E) [0, 1, 2, 3, 4] (defBody s_sign_words) [.dat v_text, .any, .any, .any, .any] (m v_text) (fun _ => [.any, .any, .any, .any, .any]) (fun t => nomatch t)} :=
  ⟨_, fun Fx f cdv A outer s H E hr v_text =>
    js_expr (je_call (ok_require_text Fx) hr (by decide) (takes_of rfl rfl rfl rfl) (ja_cons (je_var 0 (d := v_text) (hv := .inl (by kernel_rfl))) ja_nil)) (js_un2 1 2 rfl (je_call (ok_sign_words_in Fx) hr (by decide) (takes_of rfl rfl rfl rfl) (ja_cons (je_var 0 (d := v_text) (hv := .inl (by kernel_rfl))) ja_nil)) (pg_name sc_sign_words.nd (by kernel_rfl) (.inl (by kernel_rfl))) (pg_name sc_sign_words.nd (by kernel_rfl) (.inl (by kernel_rfl))) (fun v_words_1 v_spot_2 => js_if (U := Unit) (N1 := fun u_3 => [.dat v_text, .dat v_words_1, .dat v_spot_2, .any, .any]) (jt_cmp2 op_notN ro_notN (ha := (je_var 2 (d := v_spot_2) (hv := .inl (by kernel_rfl)))) (hb := je_non)) (js_raiseV Fx.v_ParseError hr rfl (takes_of rfl rfl rfl rfl) (je_var 2 (d := v_spot_2) (hv := .inl (by kernel_rfl)))) (js_nil () []) (fun u_3 => js_ret (je_callT1 call_tuple_of rc_tuple Fx.b_tuple (ha := (jq (je_jf (jf_lc rfl sc_sign_words.nd (blkOk_by (own := [("word", 3), ("at", 4)]) (by kernel_rfl)) (fun _ _ _ _ _ => pg_tup rfl (pgs_cons (pg_name sc_sign_words.nd (by kernel_rfl) (.inl (by kernel_rfl))) (pgs_cons (pg_name sc_sign_words.nd (by kernel_rfl) (.inl (by kernel_rfl))) pgs_nil))) (rd2 3 4 (jc (ji_seq (je_var 1 (d := v_words_1) (hv := .inl (by kernel_rfl))))) (by decide) (by decide) (ht := fun d_word_4 d_at_5 _ _ _ _ _ => jts_nil) (he := fun d_word_4 d_at_5 _ _ _ _ _ => (je_var 3 (d := d_word_4) (hv := .inl (by kernel_rfl)))))))))))))⟩
def m_sign_words : List D → Res D := fn1 fun v_text => runF (w_sign_words.1 v_text)
theorem ok_sign_words {P : Program} {w : World} {K : PySem.W.Frag} {mg : Str → Option Value} {base : Heap} (Fx : Facts P w K mg base) : DefP P w K mg base "sign_words" 3 1 m_sign_words := by
  obtain ⟨f, fd, hm, kp, Fn, bi⟩ := Fx.f_sign_words.ex
  exact ⟨f, fd, ["text"], hm, kp, bi, fn_pure Fn sc_sign_words rfl [0, 1, 2, 3, 4] fn1_bad (fun cdv A outer s H E hr ds hd => by
      obtain ⟨a, rfl⟩ := len1 hd
      exact ⟨_, w_sign_words.1 a, rfl, w_sign_words.2 Fx f cdv A outer s H E hr a⟩), fn1_bad⟩
abbrev s_read_word : Stmt := topS 68
theorem sc_read_word : FnScope ["text", "items"] ["text"] (defScope s_read_word) := ⟨rfl, rfl, rfl, by decide +kernel, rfl, by decide +kernel, by decide +kernel⟩
def w_read_word : {m : D → Res (Fl Unit Empty) // ∀ {P : Program} {w : World} {K : PySem.W.Frag} {mg : Str → Option Value} {base : Heap} (Fx : Facts P w K mg base) (f : Addr) (cdv : Value) (A : Around) (outer : List PySem.Env) (s : Shared) (H : Hp) (E : XK) (hr : Room 14 (Xd P w K mg base ["text", "items"] "read_word" s_read_word f cdv A outer s H E).A), ∀ (v_text : D), JS (Xd P w K mg base ["text", "items"] "read_word" s_read_word f cdv A outer s H E) (Wd E) [0, 1] (defBody s_read_word) [.dat v_text, .any] (m v_text) (fun _ => [.any, .any]) (fun t => nomatch t)} :=
  ⟨_, fun Fx f cdv A outer s H E hr v_text =>
    js_expr (je_call (ok_require_text Fx) hr (by decide) (takes_of rfl rfl rfl rfl) (ja_cons (je_var 0 (d := v_text) (hv := .inl (by kernel_rfl))) ja_nil)) (js_set 1 (je_call (ok_only_items Fx) hr (by decide) (takes_of rfl rfl rfl rfl) (ja_cons (je_var 0 (d := v_text) (hv := .inl (by kernel_rfl))) ja_nil)) sc_read_word.nd (hx := .inl (by kernel_rfl)) (hr := fun v_items_1 => js_if (U := Unit) (N1 := fun u_2 => [.dat v_text, .dat v_items_1]) (jt_not (jt_tru (jq (je_call (ok_is_word_told Fx) hr (by decide) (takes_of rfl rfl rfl rfl) (ja_cons (je_var 1 (d := v_items_1) (hv := .inl (by kernel_rfl))) ja_nil))))) (js_raiseV Fx.v_ParseError hr rfl (takes_of rfl rfl rfl rfl) je_non) (js_nil () []) (fun u_2 => js_ret (je_callT1 call_tuple_of rc_tuple Fx.b_tuple (ha := (jq (je_var 1 (d := v_items_1) (hv := .inl (by kernel_rfl)))))))))⟩
def m_read_word : List D → Res D := fn1 fun v_text => runF (w_read_word.1 v_text)
theorem ok_read_word {P : Program} {w : World} {K : PySem.W.Frag} {mg : Str → Option Value} {base : Heap} (Fx : Facts P w K mg base) : DefP P w K mg base "read_word" 15 1 m_read_word := by
  obtain ⟨f, fd, hm, kp, Fn, bi⟩ := Fx.f_read_word.ex
  exact ⟨f, fd, ["text"], hm, kp, bi, fn_pure Fn sc_read_word rfl [0, 1] fn1_bad (fun cdv A outer s H E hr ds hd => by
      obtain ⟨a, rfl⟩ := len1 hd
      exact ⟨_, w_read_word.1 a, rfl, w_read_word.2 Fx f cdv A outer s H E hr a⟩), fn1_bad⟩
abbrev s_read_thing : Stmt := topS 69
theorem sc_read_thing : FnScope ["book", "text", "vector"] ["book", "text"] (defScope s_read_thing) := ⟨rfl, rfl, rfl, by decide +kernel, rfl, by decide +kernel, by decide +kernel⟩
def w_read_thing : {m : D → D → Res (Fl Unit Empty) // ∀ {P : Program} {w : World} {K : PySem.W.Frag} {mg : Str → Option Value} {base : Heap} (Fx : Facts P w K mg base) (f : Addr) (cdv : Value) (A : Around) (outer : List PySem.Env) (s : Shared) (H : Hp) (E : XK) (hr : Room 14 (Xd P w K mg base ["book", "text", "vector"] "read_thing" s_read_thing f cdv A outer s H E).A), ∀ (v_book v_text : D), JS (Xd P w K mg base ["book", "text", "vector"] "read_thing" s_read_thing f cdv A outer s H E) (Wd E) [0, 1, 2] (defBody s_read_thing) [.dat v_book, .dat v_text, .any] (m v_book v_text) (fun _ => [.any, .any, .any]) (fun t => nomatch t)} :=
  ⟨_, fun Fx f cdv A outer s H E hr v_book v_text =>
    js_expr (je_call (ok_require_book_form Fx) hr (by decide) (takes_of rfl rfl rfl rfl) (ja_cons (je_var 0 (d := v_book) (hv := .inl (by kernel_rfl))) ja_nil)) (js_expr (je_call (ok_require_text Fx) hr (by decide) (takes_of rfl rfl rfl rfl) (ja_cons (je_var 1 (d := v_text) (hv := .inl (by kernel_rfl))) ja_nil)) (js_set 2 (je_call (ok_vector_told Fx) hr (by decide) (takes_of rfl rfl rfl rfl) (ja_cons (je_ixT (jq (je_var 0 (d := v_book) (hv := .inl (by kernel_rfl)))) je_int) (ja_cons (je_call (ok_only_items Fx) hr (by decide) (takes_of rfl rfl rfl rfl) (ja_cons (je_var 1 (d := v_text) (hv := .inl (by kernel_rfl))) ja_nil)) ja_nil))) sc_read_thing.nd (hx := .inl (by kernel_rfl)) (hr := fun v_vector_1 => js_if (U := Unit) (N1 := fun u_2 => [.dat v_book, .dat v_text, .dat v_vector_1]) (jt_cmp2 op_isN ro_isN (ha := (je_var 2 (d := v_vector_1) (hv := .inl (by kernel_rfl)))) (hb := je_non)) (js_raiseV Fx.v_ParseError hr rfl (takes_of rfl rfl rfl rfl) je_non) (js_nil () []) (fun u_2 => js_ret (je_var 2 (d := v_vector_1) (hv := .inl (by kernel_rfl)))))))⟩
def m_read_thing : List D → Res D := fn2 fun v_book v_text => runF (w_read_thing.1 v_book v_text)
theorem ok_read_thing {P : Program} {w : World} {K : PySem.W.Frag} {mg : Str → Option Value} {base : Heap} (Fx : Facts P w K mg base) : DefP P w K mg base "read_thing" 15 2 m_read_thing := by
  obtain ⟨f, fd, hm, kp, Fn, bi⟩ := Fx.f_read_thing.ex
  exact ⟨f, fd, ["book", "text"], hm, kp, bi, fn_pure Fn sc_read_thing rfl [0, 1, 2] fn2_bad (fun cdv A outer s H E hr ds hd => by
      obtain ⟨a, b, rfl⟩ := len2 hd
      exact ⟨_, w_read_thing.1 a b, rfl, w_read_thing.2 Fx f cdv A outer s H E hr a b⟩), fn2_bad⟩
abbrev s_read_book : Stmt := topS 70
theorem sc_read_book : FnScope ["text", "primes", "rows", "book"] ["text"] (defScope s_read_book) := ⟨rfl, rfl, rfl, by decide +kernel, rfl, by decide +kernel, by decide +kernel⟩
def w_read_book : {m : D → Res (Fl Unit Empty) // ∀ {P : Program} {w : World} {K : PySem.W.Frag} {mg : Str → Option Value} {base : Heap} (Fx : Facts P w K mg base) (f : Addr) (cdv : Value) (A : Around) (outer : List PySem.Env) (s : Shared) (H : Hp) (E : XK) (hr : Room 14 (Xd P w K mg base ["text", "primes", "rows", "book"] "read_book" s_read_book f cdv A outer s H E).A), ∀ (v_text : D), JS (Xd P w K mg base ["text", "primes", "rows", "book"] "read_book" s_read_book f cdv A outer s H E) (Wd E) [0, 1, 2, 3] (defBody s_read_book) [.dat v_text, .any, .any, .any] (m v_text) (fun _ => [.any, .any, .any, .any]) (fun t => nomatch t)} :=
  ⟨_, fun Fx f cdv A outer s H E hr v_text =>
    js_expr (je_call (ok_require_text Fx) hr (by decide) (takes_of rfl rfl rfl rfl) (ja_cons (je_var 0 (d := v_text) (hv := .inl (by kernel_rfl))) ja_nil)) (js_un2 1 2 rfl (je_call (ok_book_rows Fx) hr (by decide) (takes_of rfl rfl rfl rfl) (ja_cons (je_var 0 (d := v_text) (hv := .inl (by kernel_rfl))) ja_nil)) (pg_name sc_read_book.nd (by kernel_rfl) (.inl (by kernel_rfl))) (pg_name sc_read_book.nd (by kernel_rfl) (.inl (by kernel_rfl))) (fun v_primes_1 v_rows_2 => js_set 3 je_bad sc_read_book.nd (hx := .inl (by kernel_rfl)) (hr := fun v_book_3 => js_if (U := Unit) (N1 := fun u_4 => [.dat v_text, .dat v_primes_1, .dat v_rows_2, .dat v_book_3]) (jt_cmp2 op_isN ro_isN (ha := (je_var 3 (d := v_book_3) (hv := .inl (by kernel_rfl)))) (hb := je_non)) (js_raiseV Fx.v_ParseError hr rfl (takes_of rfl rfl rfl rfl) je_non) (js_nil () []) (fun u_4 => js_ret (je_var 3 (d := v_book_3) (hv := .inl (by kernel_rfl)))))))⟩
def m_read_book : List D → Res D := fn1 fun v_text => runF (w_read_book.1 v_text)
theorem ok_read_book {P : Program} {w : World} {K : PySem.W.Frag} {mg : Str → Option Value} {base : Heap} (Fx : Facts P w K mg base) : DefP P w K mg base "read_book" 15 1 m_read_book := by
  obtain ⟨f, fd, hm, kp, Fn, bi⟩ := Fx.f_read_book.ex
  exact ⟨f, fd, ["text"], hm, kp, bi, fn_pure Fn sc_read_book rfl [0, 1, 2, 3] fn1_bad (fun cdv A outer s H E hr ds hd => by
      obtain ⟨a, rfl⟩ := len1 hd
      exact ⟨_, w_read_book.1 a, rfl, w_read_book.2 Fx f cdv A outer s H E hr a⟩), fn1_bad⟩
abbrev s_word_text : Stmt := topS 71
theorem sc_word_text : FnScope ["word"] ["word"] (defScope s_word_text) := ⟨rfl, rfl, rfl, by decide +kernel, rfl, by decide +kernel, by decide +kernel⟩
def w_word_text : {m : D → Res (Fl Unit Empty) // ∀ {P : Program} {w : World} {K : PySem.W.Frag} {mg : Str → Option Value} {base : Heap} (Fx : Facts P w K mg base) (f : Addr) (cdv : Value) (A : Around) (outer : List PySem.Env) (s : Shared) (H : Hp) (E : XK) (hr : Room 3 (Xd P w K mg base ["word"] "word_text" s_word_text f cdv A outer s H E).A), ∀ (v_word : D), JS (Xd P w K mg base ["word"] "word_text" s_word_text f cdv A outer s H E) (Wd E) [0] (defBody s_word_text) [.dat v_word] (m v_word) (fun _ => [.any]) (fun t => nomatch t)} :=
  ⟨_, fun Fx f cdv A outer s H E hr v_word =>
    js_if (U := Unit) (N1 := fun u_1 => [.dat v_word]) (jt_not (jt_tru (jq (je_call (ok_is_free_word Fx) hr (by decide) (takes_of rfl rfl rfl rfl) (ja_cons (je_var 0 (d := v_word) (hv := .inl (by kernel_rfl))) ja_nil))))) (js_raise Fx.x_InvalidWord rfl (takes_of rfl rfl rfl rfl)) (js_nil () []) (fun u_1 => js_ret (je_call (ok_items_text Fx) hr (by decide) (takes_of rfl rfl rfl rfl) (ja_cons (je_var 0 (d := v_word) (hv := .inl (by kernel_rfl))) ja_nil)))⟩
def m_word_text : List D → Res D := fn1 fun v_word => runF (w_word_text.1 v_word)
theorem ok_word_text {P : Program} {w : World} {K : PySem.W.Frag} {mg : Str → Option Value} {base : Heap} (Fx : Facts P w K mg base) : DefP P w K mg base "word_text" 4 1 m_word_text := by
  obtain ⟨f, fd, hm, kp, Fn, bi⟩ := Fx.f_word_text.ex
  exact ⟨f, fd, ["word"], hm, kp, bi, fn_pure Fn sc_word_text rfl [0] fn1_bad (fun cdv A outer s H E hr ds hd => by
      obtain ⟨a, rfl⟩ := len1 hd
      exact ⟨_, w_word_text.1 a, rfl, w_word_text.2 Fx f cdv A outer s H E hr a⟩), fn1_bad⟩
abbrev s_thing_text : Stmt := topS 72
theorem sc_thing_text : FnScope ["book", "thing"] ["book", "thing"] (defScope s_thing_text) := ⟨rfl, rfl, rfl, by decide +kernel, rfl, by decide +kernel, by decide +kernel⟩
def w_thing_text : {m : D → D → Res (Fl Unit Empty) // ∀ {P : Program} {w : World} {K : PySem.W.Frag} {mg : Str → Option Value} {base : Heap} (Fx : Facts P w K mg base) (f : Addr) (cdv : Value) (A : Around) (outer : List PySem.Env) (s : Shared) (H : Hp) (E : XK) (hr : Room 7 (Xd P w K mg base ["book", "thing"] "thing_text" s_thing_text f cdv A outer s H E).A), ∀ (v_book v_thing : D), JS (Xd P w K mg base ["book", "thing"] "thing_text" s_thing_text f cdv A outer s H E) (Wd E) [0, 1] (defBody s_thing_text) [.dat v_book, .dat v_thing] (m v_book v_thing) (fun _ => [.any, .any]) (fun t => nomatch t)} :=
  ⟨_, fun Fx f cdv A outer s H E hr v_book v_thing =>
    js_expr (je_call (ok_require_book_form Fx) hr (by decide) (takes_of rfl rfl rfl rfl) (ja_cons (je_var 0 (d := v_book) (hv := .inl (by kernel_rfl))) ja_nil)) (js_if (U := Unit) (N1 := fun u_1 => [.dat v_book, .dat v_thing]) (jt_not (jt_tru (jq (je_call (ok_is_vector_in Fx) hr (by decide) (takes_of rfl rfl rfl rfl) (ja_cons (je_var 0 (d := v_book) (hv := .inl (by kernel_rfl))) (ja_cons (je_var 1 (d := v_thing) (hv := .inl (by kernel_rfl))) ja_nil)))))) (js_raise Fx.x_InvalidThing rfl (takes_of rfl rfl rfl rfl)) (js_nil () []) (fun u_1 => js_ret (je_call (ok_vector_text Fx) hr (by decide) (takes_of rfl rfl rfl rfl) (ja_cons (je_var 1 (d := v_thing) (hv := .inl (by kernel_rfl))) ja_nil))))⟩
def m_thing_text : List D → Res D := fn2 fun v_book v_thing => runF (w_thing_text.1 v_book v_thing)
theorem ok_thing_text {P : Program} {w : World} {K : PySem.W.Frag} {mg : Str → Option Value} {base : Heap} (Fx : Facts P w K mg base) : DefP P w K mg base "thing_text" 8 2 m_thing_text := by
  obtain ⟨f, fd, hm, kp, Fn, bi⟩ := Fx.f_thing_text.ex
  exact ⟨f, fd, ["book", "thing"], hm, kp, bi, fn_pure Fn sc_thing_text rfl [0, 1] fn2_bad (fun cdv A outer s H E hr ds hd => by
      obtain ⟨a, b, rfl⟩ := len2 hd
      exact ⟨_, w_thing_text.1 a b, rfl, w_thing_text.2 Fx f cdv A outer s H E hr a b⟩), fn2_bad⟩
abbrev s_book_text : Stmt := topS 73
theorem sc_book_text : FnScope ["book"] ["book"] (defScope s_book_text) := ⟨rfl, rfl, rfl, by decide +kernel, rfl, by decide +kernel, by decide +kernel⟩
def w_book_text : {m : D → Res (Fl Unit Empty) // ∀ {P : Program} {w : World} {K : PySem.W.Frag} {mg : Str → Option Value} {base : Heap} (Fx : Facts P w K mg base) (f : Addr) (cdv : Value) (A : Around) (outer : List PySem.Env) (s : Shared) (H : Hp) (E : XK) (hr : Room 7 (Xd P w K mg base ["book"] "book_text" s_book_text f cdv A outer s H E).A), ∀ (v_book : D), JS (Xd P w K mg base ["book"] "book_text" s_book_text f cdv A outer s H E) (Wd E) [0] (defBody s_book_text) [.dat v_book] (m v_book) (fun _ => [.any]) (fun t => nomatch t)} :=
  ⟨_, fun Fx f cdv A outer s H E hr v_book =>
    js_expr (je_call (ok_require_book_form Fx) hr (by decide) (takes_of rfl rfl rfl rfl) (ja_cons (je_var 0 (d := v_book) (hv := .inl (by kernel_rfl))) ja_nil)) (js_ret (je_call (ok_plain_book Fx) hr (by decide) (takes_of rfl rfl rfl rfl) (ja_cons (je_var 0 (d := v_book) (hv := .inl (by kernel_rfl))) ja_nil)))⟩
def m_book_text : List D → Res D := fn1 fun v_book => runF (w_book_text.1 v_book)
theorem ok_book_text {P : Program} {w : World} {K : PySem.W.Frag} {mg : Str → Option Value} {base : Heap} (Fx : Facts P w K mg base) : DefP P w K mg base "book_text" 8 1 m_book_text := by
  obtain ⟨f, fd, hm, kp, Fn, bi⟩ := Fx.f_book_text.ex
  exact ⟨f, fd, ["book"], hm, kp, bi, fn_pure Fn sc_book_text rfl [0] fn1_bad (fun cdv A outer s H E hr ds hd => by
      obtain ⟨a, rfl⟩ := len1 hd
      exact ⟨_, w_book_text.1 a, rfl, w_book_text.2 Fx f cdv A outer s H E hr a⟩), fn1_bad⟩
abbrev s__law_dice : Stmt := topS 75
theorem sc__law_dice : FnScope ["script", "spot", "cell", "left"] ["script", "spot"] (defScope s__law_dice) := ⟨rfl, rfl, rfl, by decide +kernel, rfl, by decide +kernel, by decide +kernel⟩
def w__law_dice : {m : D → D → Res (Fl (D × D) Empty) // ∀ {P : Program} {w : World} {K : PySem.W.Frag} {mg : Str → Option Value} {base : Heap} (Fx : Facts P w K mg base) (f : Addr) (cdv : Value) (A : Around) (outer : List PySem.Env) (s0 : Shared) (H : Hp) (E : XK) (hr : Room 0 (Xd P w K mg base ["script", "spot", "cell", "left"] "_law_dice" s__law_dice f cdv A outer s0 H E).A) (v_script v_spot : D), JS (Xd P w K mg base ["script", "spot", "cell", "left"] "_law_dice" s__law_dice f cdv A outer s0 H E) (Wd E) [0, 1, 2, 3] (defBody s__law_dice).dropLast [.dat v_script, .dat v_spot, .any, .any] (m v_script v_spot) (fun s => [.dat v_script, .dat v_spot, .dat s.1, .dat s.2]) (fun t => nomatch t)} :=
  ⟨_, fun Fx f cdv A outer s0 H E hr v_script v_spot =>
    js_set 2 (je_if (jt_cmp2 op_lt ro_lt (ha := (je_var 1 (d := v_spot) (hv := .inl (by kernel_rfl)))) (hb := (je_callB1 call_len_seq rc_lenS Fx.b_len (ha := (jq (je_var 0 (d := v_script) (hv := .inl (by kernel_rfl)))))))) (je_callT1 call_int1 rc_int Fx.b_int (ha := (jq (je_ixS (je_var 0 (d := v_script) (hv := .inl (by kernel_rfl))) (je_var 1 (d := v_spot) (hv := .inl (by kernel_rfl))))))) (je_op op_addA ro_addA (je_op op_mulA ro_mulA je_int (je_var 1 (d := v_spot) (hv := .inl (by kernel_rfl)))) je_int)) sc__law_dice.nd (hx := .inl (by kernel_rfl)) (hr := fun v_cell_1 => js_set 3 (je_op op_modN ro_mod (je_callB (call_max2 rfl) rc_max2 Fx.b_max (ha := (ja_cons je_int (ja_cons (je_op op_sub ro_sub (je_callB1 call_abs rc_abs Fx.b_abs (ha := (jq (je_var 2 (d := v_cell_1) (hv := .inl (by kernel_rfl)))))) (je_op op_pow ro_pow je_int je_int)) ja_nil)))) (je_op op_mulX ro_mulX (je_op op_pow ro_pow je_int je_int) (je_op op_pow ro_pow je_int je_int))) sc__law_dice.nd (hx := .inl (by kernel_rfl)) (hr := fun v_left_2 => js_nil (v_cell_1, v_left_2) []))⟩
def x__law_dice : {m : D → D → (D × D) → Res (List D) // ∀ {P : Program} {w : World} {K : PySem.W.Frag} {mg : Str → Option Value} {base : Heap} (Fx : Facts P w K mg base) (f : Addr) (cdv : Value) (A : Around) (outer : List PySem.Env) (s0 : Shared) (H : Hp) (E : XK) (hr : Room 0 (Xd P w K mg base ["script", "spot", "cell", "left"] "_law_dice" s__law_dice f cdv A outer s0 H E).A) (v_script v_spot : D) (s : D × D), JF (Xd P w K mg base ["script", "spot", "cell", "left"] "_law_dice" s__law_dice f cdv A outer s0 H E) (Wd E) (match (defBody s__law_dice).getLast? with | some (.Return (some e) _) => e | _ => .Constant .none 0 ⟨0, 0, 0, 0⟩) [.dat v_script, .dat v_spot, .dat s.1, .dat s.2] (m v_script v_spot s)} :=
  ⟨_, fun Fx f cdv A outer s0 H E hr v_script v_spot s =>
    (jf_lst (ja_cons (je_var 3 (d := s.2) (hv := .inl (by kernel_rfl))) (ja_cons (je_op op_addA ro_addA (je_op op_addA ro_addA (je_op op_addA ro_addA (je_op op_mulA ro_mulA (je_op op_modN ro_mod (je_callB1 call_abs rc_abs Fx.b_abs (ha := (jq (je_var 2 (d := s.1) (hv := .inl (by kernel_rfl)))))) je_int) je_int) (je_op op_mulA ro_mulA je_int (je_var 1 (d := v_spot) (hv := .inl (by kernel_rfl))))) (je_op op_mulA ro_mulA je_int (je_callT1 call_int1 rc_int Fx.b_int (ha := (jq (je_cmp op_lt ro_lt (ha := (je_var 2 (d := s.1) (hv := .inl (by kernel_rfl)))) (hb := je_int))))))) je_int) (ja_cons je_int ja_nil))))⟩
def m__law_dice : List D → Res (List D) := fun ds => match ds with | [a, b] => runN (x__law_dice.1 a b) (w__law_dice.1 a b) | _ => .bad
theorem bad__law_dice : ∀ ds : List D, ds.length ≠ 2 → m__law_dice ds = .bad
  | [], _ => rfl | [_], _ => rfl | [_, _], h => (h rfl).elim | _ :: _ :: _ :: _, _ => rfl
theorem ok__law_dice {P : Program} {w : World} {K : PySem.W.Frag} {mg : Str → Option Value} {base : Heap} (Fx : Facts P w K mg base) : DefN P w K mg base "_law_dice" 1 2 m__law_dice := by
  obtain ⟨f, fd, hm, kp, Fn, bi⟩ := Fx.f__law_dice.ex
  exact ⟨f, fd, ["script", "spot"], hm, kp, bi, fn_new (S := D × D) (b0 := (defBody s__law_dice).dropLast) (e := (match (defBody s__law_dice).getLast? with | some (.Return (some e) _) => e | _ => .Constant .none 0 ⟨0, 0, 0, 0⟩)) Fn sc__law_dice rfl [0, 1, 2, 3] (by rfl) (fun cdv A outer s0 H E hr ds hd => by
      obtain ⟨a, b, rfl⟩ := len2 hd
      exact ⟨fun s => [.dat a, .dat b, .dat s.1, .dat s.2], w__law_dice.1 a b, x__law_dice.1 a b, rfl, w__law_dice.2 Fx f cdv A outer s0 H E hr a b, fun s => x__law_dice.2 Fx f cdv A outer s0 H E hr a b s⟩), bad__law_dice⟩
abbrev s__law_roll : Stmt := topS 76
theorem sc__law_roll : FnScope ["dice", "total", "found", "one", "two"] ["dice", "total"] (defScope s__law_roll) := ⟨rfl, rfl, rfl, by decide +kernel, rfl, by decide +kernel, by decide +kernel⟩
def w__law_roll : {m : D → Dem (Fl Unit Empty) // ∀ {P : Program} {w : World} {K : PySem.W.Frag} {mg : Str → Option Value} {base : Heap} (Fx : Facts P w K mg base) (f : Addr) (cdv : Value) (A : Around) (outer : List PySem.Env) (s : Shared) (H : Hp) (E : XK) (hr : Room 0 (Xd P w K mg base ["dice", "total", "found", "one", "two"] "_law_roll" s__law_roll f cdv A outer s H E).A), ∀ (v_total : D), JS (Xd P w K mg base ["dice", "total", "found", "one", "two"] "_law_roll" s__law_roll f cdv A outer s H E) (Wd E) [0, 1, 2, 3, 4] (defBody s__law_roll) [.dice, .dat v_total, .any, .any, .any] (m v_total) (fun _ => [.any, .any, .any, .any, .any]) (fun t => nomatch t)} :=
  ⟨_, fun Fx f cdv A outer s H E hr v_total =>
    js_if (U := Unit) (N1 := fun u_1 => [.dice, .dat v_total, .any, .any, .any]) (jt_cmp2 op_gt ro_gt (ha := (je_dice 0 (.inl (by kernel_rfl)))) (hb := je_int)) (js_set 2 (je_op op_modN ro_mod (je_callT1 call_int1 rc_int Fx.b_int (ha := (jq (je_dice 0 (.inl (by kernel_rfl)))))) (je_var 1 (d := v_total) (hv := .inl (by kernel_rfl)))) sc__law_roll.nd (hx := .inl (by kernel_rfl)) (hr := fun v_found_2 => js_dice 0 (je_op op_fdivN ro_fdiv (je_dice 0 (.inl (by kernel_rfl))) (je_var 1 (d := v_total) (hv := .inl (by kernel_rfl)))) (.inl (by kernel_rfl)) (js_ret (je_var 2 (d := v_found_2) (hv := .inl (by kernel_rfl)))))) (js_nil () []) (fun u_1 => js_dice 0 (je_op op_addA ro_addA (je_dice 0 (.inl (by kernel_rfl))) je_int) (.inl (by kernel_rfl)) (js_set 3 (je_op op_modN ro_mod (je_callT1 call_int1 rc_int Fx.b_int (ha := (jq (je_op op_addA ro_addA (je_dice 0 (.inl (by kernel_rfl))) (je_op op_mulA ro_mulA je_int (je_dice 0 (.inl (by kernel_rfl)))))))) je_int) sc__law_roll.nd (hx := .inl (by kernel_rfl)) (hr := fun v_one_3 => js_set 4 (je_op op_addA ro_addA (je_op op_mulA ro_mulA (je_op op_modN ro_mod (je_callT1 call_int1 rc_int Fx.b_int (ha := (jq (je_op op_addA ro_addA (je_op op_mulA ro_mulA (je_var 3 (d := v_one_3) (hv := .inl (by kernel_rfl))) (je_var 3 (d := v_one_3) (hv := .inl (by kernel_rfl)))) (je_op op_mulA ro_mulA je_int (je_dice 0 (.inl (by kernel_rfl)))))))) je_int) je_int) (je_var 3 (d := v_one_3) (hv := .inl (by kernel_rfl)))) sc__law_roll.nd (hx := .inl (by kernel_rfl)) (hr := fun v_two_4 => js_ret (je_op op_modN ro_mod (je_callT1 call_int1 rc_int Fx.b_int (ha := (jq (je_op op_fdivN ro_fdiv (je_var 4 (d := v_two_4) (hv := .inl (by kernel_rfl))) je_int)))) (je_var 1 (d := v_total) (hv := .inl (by kernel_rfl))))))))⟩
def m__law_roll : List D → Dem D := fn1 rollM
theorem roll_ok (d : D) : ∀ k, (k .bad → False) → (rollM d).run k → (runF (w__law_roll.1 d)).run k := by
  intro k kb h
  cases d with
  | int n =>
    by_cases hn : 0 < n ∧ n < 1073741824
    · rw [show rollM (.int n) = roll n from if_pos hn] at h
      obtain ⟨_, h⟩ := h
      have n0 : (n != 0) = true := by simp; omega
      have nd : (n != 0 && decide (n.natAbs < 1073741824)) = true := by
        rw [n0, Bool.true_and]
        exact decide_eq_true (by omega)
      have fin : ∀ j : Int, k (.ok (.int (j.fmod n))) := fun j => h _ (Int.fmod_nonneg_of_pos _ hn.1) (Int.fmod_lt_of_pos _ hn.1)
      intro i
      by_cases hi : 0 < i
      · have e1 : decide (0 < i) = true := decide_eq_true hi
        simp only [bnd, ofO, op, ok, SpecM.bind, SpecM.ret, thenK, gtI, ltI, asB, Option.bind, e1, bndF, runF, intD, modI, endL]
        intro j
        simp only [thenK]
        rw [if_pos n0]
        simp only [thenK]
        intro l
        simp only [thenK, fdivI]
        rw [if_pos nd]
        simp only [thenK]
        exact fin j
      · have e1 : decide (0 < i) = false := decide_eq_false hi
        simp only [bnd, ofO, op, ok, SpecM.bind, SpecM.ret, thenK, gtI, ltI, asB, Option.bind, e1, bndF, runF, intD, modI, endL]
        intro j
        simp only [thenK, addD]
        intro l
        simp only [thenK]
        intro m
        simp only [thenK]
        rw [rep_l _ m (by decide)]
        simp only [thenK, addI]
        rw [if_pos (by decide)]
        simp only [thenK]
        have b1 := Int.fmod_nonneg_of_pos (l + 15485917 * m) (show (0 : Int) < 2305843009213693951 by decide)
        have b2 := Int.fmod_lt_of_pos (l + 15485917 * m) (show (0 : Int) < 2305843009213693951 by decide)
        generalize (l + 15485917 * m).fmod 2305843009213693951 = o at b1 b2 ⊢
        have b3 : (decide (-big64 < o) && decide (o < big64)) = true := by
          have e1 : (-(big64 : Int)) < o := by unfold big64; omega
          have e2 : o < (big64 : Int) := by unfold big64; omega
          simp [e1, e2]
        rw [rep_l o o b3]
        simp only [thenK]
        intro q
        simp only [thenK]
        rw [rep_l _ q (by decide)]
        simp only [thenK, addI]
        rw [if_pos (by decide)]
        simp only [thenK]
        rw [rep_r _ _ (by decide)]
        simp only [thenK, fdivI]
        rw [if_pos (by decide)]
        simp only [thenK]
        rw [if_pos n0]
        exact fin _
    · rw [show rollM (.int n) = SpecM.ret .bad from if_neg hn] at h
      exact (kb h).elim
  | _ => exact (kb h).elim
theorem ok__law_roll {P : Program} {w : World} {K : PySem.W.Frag} {mg : Str → Option Value} {base : Heap} (Fx : Facts P w K mg base) : DefD P w K mg base "_law_roll" 1 1 m__law_roll := by
  obtain ⟨f, fd, hm, kp, Fn, bi⟩ := Fx.f__law_roll.ex
  exact ⟨f, fd, ["dice", "total"], hm, kp, bi, fn_dice Fn sc__law_roll rfl [0, 1, 2, 3, 4] (fun cdv A outer s H E hr ds hd => by
      obtain ⟨a, rfl⟩ := len1 hd
      exact ⟨_, w__law_roll.1 a, roll_ok a, w__law_roll.2 Fx f cdv A outer s H E hr a⟩), fn1_bad⟩
abbrev s__law_pick : Stmt := topS 77
theorem sc__law_pick : FnScope ["dice", "items"] ["dice", "items"] (defScope s__law_pick) := ⟨rfl, rfl, rfl, by decide +kernel, rfl, by decide +kernel, by decide +kernel⟩
def w__law_pick : {m : D → Dem (Fl Unit Empty) // ∀ {P : Program} {w : World} {K : PySem.W.Frag} {mg : Str → Option Value} {base : Heap} (Fx : Facts P w K mg base) (f : Addr) (cdv : Value) (A : Around) (outer : List PySem.Env) (s : Shared) (H : Hp) (E : XK) (hr : Room 1 (Xd P w K mg base ["dice", "items"] "_law_pick" s__law_pick f cdv A outer s H E).A), ∀ (v_items : D), JS (Xd P w K mg base ["dice", "items"] "_law_pick" s__law_pick f cdv A outer s H E) (Wd E) [0, 1] (defBody s__law_pick) [.dice, .dat v_items] (m v_items) (fun _ => [.any, .any]) (fun t => nomatch t)} :=
  ⟨_, fun Fx f cdv A outer s H E hr v_items =>
    js_ret (je_ixT (jq (je_var 1 (d := v_items) (hv := .inl (by kernel_rfl)))) (je_calld 0 (G := ok__law_roll Fx) (hr := hr) (hk := (by decide)) (tk := (takes_of rfl rfl rfl rfl)) (hv := .inl (by kernel_rfl)) (ha := (ja_cons (je_callB1 call_len rc_len Fx.b_len (ha := (jq (je_var 1 (d := v_items) (hv := .inl (by kernel_rfl)))))) ja_nil))))⟩
def m__law_pick : List D → Dem D := fn1 fun v_items => runF (w__law_pick.1 v_items)
theorem ok__law_pick {P : Program} {w : World} {K : PySem.W.Frag} {mg : Str → Option Value} {base : Heap} (Fx : Facts P w K mg base) : DefD P w K mg base "_law_pick" 2 1 m__law_pick := by
  obtain ⟨f, fd, hm, kp, Fn, bi⟩ := Fx.f__law_pick.ex
  exact ⟨f, fd, ["dice", "items"], hm, kp, bi, fn_dice Fn sc__law_pick rfl [0, 1] (fun cdv A outer s H E hr ds hd => by
      obtain ⟨a, rfl⟩ := len1 hd
      exact ⟨_, w__law_pick.1 a, (fun _ _ h => h), w__law_pick.2 Fx f cdv A outer s H E hr a⟩), fn1_bad⟩
end DE

set_option maxHeartbeats 4000000
namespace DE
open PySem PySem.Spec PyProof.Rows L2
variable [τ : TabCtx]
abbrev s__law_reads : Stmt := topS 79
theorem sc__law_reads : FnScope ["book", "text", "found", "call"] ["book", "text"] (defScope s__law_reads) := ⟨rfl, rfl, rfl, by decide +kernel, rfl, by decide +kernel, by decide +kernel⟩
def w__law_reads : {m : D → D → Res (Fl Unit Empty) // ∀ {P : Program} {w : World} {K : PySem.W.Frag} {mg : Str → Option Value} {base : Heap} (Fx : Facts P w K mg base) (f : Addr) (cc Pt : Addr) (tb : LamX.TabB base mg cc Pt) (hI : τ.T Pt ("_law_reads" ++ ".<locals>." ++ "<lambda>")) (A : Around) (outer : List PySem.Env) (s : Shared) (H : Hp) (E : XK) (hr : Room 17 (Xd P w K mg base ["book", "text", "found", "call"] "_law_reads" s__law_reads f (.ref cc) A outer s H E).A) (hgu : (Xd P w K mg base ["book", "text", "found", "call"] "_law_reads" s__law_reads f (.ref cc) A outer s H E).A.guards = some []), ∀ (v_book v_text : D), JS (Xd P w K mg base ["book", "text", "found", "call"] "_law_reads" s__law_reads f (.ref cc) A outer s H E) (Wd E) [0, 1, 2, 3] (defBody s__law_reads) [.dat v_book, .dat v_text, .any, .any] (m v_book v_text) (fun _ => [.any, .any, .any, .any]) (fun t => nomatch t)} :=
  ⟨_, fun Fx f cc Pt tb hI A outer s H E hr hgu v_book v_text =>
    js_lcD 2 rfl sc__law_reads.nd (blkOk_by (own := [("call", 3)]) (by kernel_rfl)) (fun _ _ _ _ _ => (pg_name sc__law_reads.nd (by kernel_rfl) (.inr (by kernel_rfl)))) (rd1 3 (jc (ji_seq (je_tup (ja_cons (je_fn (Fx.f_sign_words.ex.choose_spec.choose_spec.1)) (ja_cons (je_fn (Fx.f_read_word.ex.choose_spec.choose_spec.1)) (ja_cons (je_fn (Fx.f_read_book.ex.choose_spec.choose_spec.1)) ja_nil)))))) (by decide) (ht := fun d_call_2 _ _ _ _ _ => jts_nil) (he := fun d_call_2 _ _ _ _ _ => (je_lamA Fx.W__law_word_of hgu tb rfl hI hr (fun E2 A2 outer2 s2 H2 f2 c2 hr2 => (je_callL 3 (d := d_call_2) (("read_book", m_read_book) :: (("read_word", m_read_word) :: (("sign_words", m_sign_words) :: []))) (tblC (ok_read_book Fx) (by decide) (tblC (ok_read_word Fx) (by decide) (tblC (ok_sign_words Fx) (by decide) tblN))) hr2 (takes_of rfl rfl rfl rfl) (.inr (.inr (by kernel_rfl))) (ja_cons (je_var 1 (d := v_text) (hv := .inr (.inr (by kernel_rfl)))) ja_nil)))))) (hr := fun v_found_1 => js_ret (je_op op_addA ro_addA (je_var 2 (d := (.list v_found_1)) (hv := .inl (by kernel_rfl))) (je_lst (ja_cons (je_lamA Fx.W__law_word_of hgu tb rfl hI hr (fun E2 A2 outer2 s2 H2 f2 c2 hr2 => (je_call (ok_read_thing Fx) hr2 (by decide) (takes_of rfl rfl rfl rfl) (ja_cons (je_var 0 (d := v_book) (hv := .inr (.inr (by kernel_rfl)))) (ja_cons (je_var 1 (d := v_text) (hv := .inr (.inr (by kernel_rfl)))) ja_nil))))) ja_nil))))⟩
def m__law_reads : List D → Res D := fn2 fun v_book v_text => runF (w__law_reads.1 v_book v_text)
theorem ok__law_reads {P : Program} {w : World} {K : PySem.W.Frag} {mg : Str → Option Value} {base : Heap} (Fx : Facts P w K mg base) : DefPG P w K mg base "_law_reads" 18 2 m__law_reads := by
  obtain ⟨f, fd, cc, Pt, hm, kp, Fn, bi, tb, hI⟩ := Fx.l__law_reads.ex
  exact ⟨f, fd, ["book", "text"], hm, kp, bi, fn_pureG Fn sc__law_reads rfl [0, 1, 2, 3] (fun A outer s H E hr hgu ds hd => by
      obtain ⟨a, b, rfl⟩ := len2 hd
      exact ⟨_, w__law_reads.1 a b, rfl, w__law_reads.2 Fx f cc Pt tb hI A outer s H E hr hgu a b⟩), fn2_bad⟩
abbrev s__law_tells : Stmt := topS 80
theorem sc__law_tells : FnScope ["book", "thing", "word", "found"] ["book", "thing", "word"] (defScope s__law_tells) := ⟨rfl, rfl, rfl, by decide +kernel, rfl, by decide +kernel, by decide +kernel⟩
def w__law_tells : {m : D → D → D → Res (Fl Unit Empty) // ∀ {P : Program} {w : World} {K : PySem.W.Frag} {mg : Str → Option Value} {base : Heap} (Fx : Facts P w K mg base) (f : Addr) (cc Pt : Addr) (tb : LamX.TabB base mg cc Pt) (hI : τ.T Pt ("_law_tells" ++ ".<locals>." ++ "<lambda>")) (A : Around) (outer : List PySem.Env) (s : Shared) (H : Hp) (E : XK) (hr : Room 10 (Xd P w K mg base ["book", "thing", "word", "found"] "_law_tells" s__law_tells f (.ref cc) A outer s H E).A) (hgu : (Xd P w K mg base ["book", "thing", "word", "found"] "_law_tells" s__law_tells f (.ref cc) A outer s H E).A.guards = some []), ∀ (v_book v_thing v_word : D), JS (Xd P w K mg base ["book", "thing", "word", "found"] "_law_tells" s__law_tells f (.ref cc) A outer s H E) (Wd E) [0, 1, 2, 3] (defBody s__law_tells) [.dat v_book, .dat v_thing, .dat v_word, .any] (m v_book v_thing v_word) (fun _ => [.any, .any, .any, .any]) (fun t => nomatch t)} :=
  ⟨_, fun Fx f cc Pt tb hI A outer s H E hr hgu v_book v_thing v_word =>
    js_own 3 (jf_lst (ja_cons (je_lamA Fx.W__law_word_of hgu tb rfl hI hr (fun E2 A2 outer2 s2 H2 f2 c2 hr2 => (je_call (ok_book_text Fx) hr2 (by decide) (takes_of rfl rfl rfl rfl) (ja_cons (je_var 0 (d := v_book) (hv := .inr (.inr (by kernel_rfl)))) ja_nil)))) ja_nil)) sc__law_tells.nd (hx := .inl (by kernel_rfl)) (hr := fun v_found_1 => js_appP 3 (ds := v_found_1) (je_lamA Fx.W__law_word_of hgu tb rfl hI hr (fun E2 A2 outer2 s2 H2 f2 c2 hr2 => (je_call (ok_thing_text Fx) hr2 (by decide) (takes_of rfl rfl rfl rfl) (ja_cons (je_var 0 (d := v_book) (hv := .inr (.inr (by kernel_rfl)))) (ja_cons (je_var 1 (d := v_thing) (hv := .inr (.inr (by kernel_rfl)))) ja_nil))))) (.inl (by kernel_rfl)) (fun v_found_2 => js_freeze 3 (ds := (v_found_1 ++ [v_found_2])) (hi := by decide) (hr := js_ret (je_op op_addA ro_addA (je_var 3 (d := (.list (v_found_1 ++ [v_found_2]))) (hv := .inl (by kernel_rfl))) (je_lst (ja_cons (je_lamA Fx.W__law_word_of hgu tb rfl hI hr (fun E2 A2 outer2 s2 H2 f2 c2 hr2 => (je_call (ok_word_text Fx) hr2 (by decide) (takes_of rfl rfl rfl rfl) (ja_cons (je_var 2 (d := v_word) (hv := .inr (.inr (by kernel_rfl)))) ja_nil)))) ja_nil))))))⟩
def m__law_tells : List D → Res D := fn3 fun v_book v_thing v_word => runF (w__law_tells.1 v_book v_thing v_word)
theorem ok__law_tells {P : Program} {w : World} {K : PySem.W.Frag} {mg : Str → Option Value} {base : Heap} (Fx : Facts P w K mg base) : DefPG P w K mg base "_law_tells" 11 3 m__law_tells := by
  obtain ⟨f, fd, cc, Pt, hm, kp, Fn, bi, tb, hI⟩ := Fx.l__law_tells.ex
  exact ⟨f, fd, ["book", "thing", "word"], hm, kp, bi, fn_pureG Fn sc__law_tells rfl [0, 1, 2, 3] (fun A outer s H E hr hgu ds hd => by
      obtain ⟨a, b, c, rfl⟩ := len3 hd
      exact ⟨_, w__law_tells.1 a b c, rfl, w__law_tells.2 Fx f cc Pt tb hI A outer s H E hr hgu a b c⟩), fn3_bad⟩
abbrev s__law_right : Stmt := topS 81
theorem sc__law_right : FnScope ["dice", "six", "clash", "no", "text", "thing", "word", "told"] ["dice"] (defScope s__law_right) := ⟨rfl, rfl, rfl, by decide +kernel, rfl, by decide +kernel, by decide +kernel⟩
def w__law_right : {m : Dem (Fl Unit Empty) // ∀ {P : Program} {w : World} {K : PySem.W.Frag} {mg : Str → Option Value} {base : Heap} (Fx : Facts P w K mg base) (f : Addr) (cdv : Value) (A : Around) (outer : List PySem.Env) (s : Shared) (H : Hp) (E : XK) (hr : Room 18 (Xd P w K mg base ["dice", "six", "clash", "no", "text", "thing", "word", "told"] "_law_right" s__law_right f cdv A outer s H E).A) (hgu : (Xd P w K mg base ["dice", "six", "clash", "no", "text", "thing", "word", "told"] "_law_right" s__law_right f cdv A outer s H E).A.guards = some []), JS (Xd P w K mg base ["dice", "six", "clash", "no", "text", "thing", "word", "told"] "_law_right" s__law_right f cdv A outer s H E) (Wd E) [0, 1, 2, 3, 4, 5, 6, 7] (defBody s__law_right) [.dice, .any, .any, .any, .any, .any, .any, .any] (m) (fun _ => [.any, .any, .any, .any, .any, .any, .any, .any]) (fun t => nomatch t)} :=
  ⟨_, fun Fx f cdv A outer s H E hr hgu =>
    js_un2 1 2 rfl (je_tup (ja_cons (je_tup (ja_cons (je_tup (ja_cons je_int (ja_cons je_int ja_nil))) (ja_cons (je_tup (ja_cons (je_tup (ja_cons je_int (ja_cons je_int ja_nil))) (ja_cons (je_tup (ja_cons je_int (ja_cons je_int ja_nil))) ja_nil))) (ja_cons (je_tup (ja_cons (je_tup (ja_cons (je_tup (ja_cons je_int (ja_cons je_int ja_nil))) ja_nil)) (ja_cons (je_tup ja_nil) ja_nil))) ja_nil)))) (ja_cons (je_tup (ja_cons (je_tup (ja_cons je_int (ja_cons je_int ja_nil))) (ja_cons (je_tup (ja_cons (je_tup (ja_cons je_int (ja_cons je_int ja_nil))) (ja_cons (je_tup (ja_cons je_int (ja_cons je_int ja_nil))) ja_nil))) (ja_cons (je_tup (ja_cons (je_tup (ja_cons (je_tup (ja_cons je_int (ja_cons je_int ja_nil))) ja_nil)) (ja_cons (je_tup ja_nil) ja_nil))) ja_nil)))) ja_nil))) (pg_name sc__law_right.nd (by kernel_rfl) (.inl (by kernel_rfl))) (pg_name sc__law_right.nd (by kernel_rfl) (.inl (by kernel_rfl))) (fun v_six_1 v_clash_2 => js_set 3 (je_lst (ja_cons je_non (ja_cons je_int (ja_cons (je_tup ja_nil) (ja_cons (je_lst (ja_cons je_int ja_nil)) (ja_cons (je_tup (ja_cons (je_tup (ja_cons je_int ja_nil)) (ja_cons (je_tup (ja_cons (je_tup (ja_cons je_int ja_nil)) ja_nil)) (ja_cons (je_tup (ja_cons (je_tup ja_nil) ja_nil)) ja_nil)))) (ja_cons je_dict0 (ja_cons je_str (ja_cons (je_tup (ja_cons (je_tup (ja_cons je_int ja_nil)) (ja_cons (je_tup (ja_cons (je_tup (ja_cons je_int ja_nil)) ja_nil)) (ja_cons (je_tup (ja_cons (je_tup ja_nil) ja_nil)) ja_nil)))) (ja_cons (je_tup (ja_cons (je_tup (ja_cons je_int ja_nil)) (ja_cons (je_tup (ja_cons (je_tup (ja_cons je_int ja_nil)) ja_nil)) ja_nil))) ja_nil)))))))))) sc__law_right.nd (hx := .inl (by kernel_rfl)) (hr := fun v_no_3 => js_set 3 (je_calld 0 (G := ok__law_pick Fx) (hr := hr) (hk := (by decide)) (tk := (takes_of rfl rfl rfl rfl)) (hv := .inl (by kernel_rfl)) (ha := (ja_cons (je_op op_addA ro_addA (je_var 3 (d := v_no_3) (hv := .inl (by kernel_rfl))) (je_lst (ja_cons (je_tup (ja_cons (je_tup (ja_cons je_int (ja_cons je_int ja_nil))) (ja_cons (je_tup (ja_cons (je_tup (ja_cons je_int (ja_cons je_int ja_nil))) (ja_cons (je_tup (ja_cons je_int (ja_cons je_int ja_nil))) ja_nil))) (ja_cons (je_tup (ja_cons (je_tup ja_nil) (ja_cons (je_tup ja_nil) ja_nil))) ja_nil)))) (ja_cons (je_tup (ja_cons (je_tup (ja_cons je_int (ja_cons je_int ja_nil))) (ja_cons (je_tup (ja_cons (je_tup (ja_cons je_int (ja_cons je_int ja_nil))) (ja_cons (je_tup (ja_cons je_int (ja_cons je_int ja_nil))) ja_nil))) (ja_cons (je_tup (ja_cons (je_tup (ja_cons (je_tup (ja_cons je_int (ja_cons je_int ja_nil))) ja_nil)) (ja_cons (je_tup ja_nil) ja_nil))) ja_nil)))) ja_nil)))) ja_nil))) sc__law_right.nd (hx := .inl (by kernel_rfl)) (hr := fun v_no_4 => js_set 4 (je_calld 0 (G := ok__law_pick Fx) (hr := hr) (hk := (by decide)) (tk := (takes_of rfl rfl rfl rfl)) (hv := .inl (by kernel_rfl)) (ha := (ja_cons (je_lst (ja_cons je_non (ja_cons je_int (ja_cons (je_tup ja_nil) (ja_cons (je_lst (ja_cons je_str ja_nil)) (ja_cons je_dict0 (ja_cons je_bl (ja_cons (je_tup (ja_cons je_str ja_nil)) (ja_cons (je_op op_addA ro_addA je_str (je_op op_mulT ro_mulT je_str je_int)) (ja_cons (je_op op_mulT ro_mulT je_str je_int) (ja_cons je_int ja_nil))))))))))) ja_nil))) sc__law_right.nd (hx := .inl (by kernel_rfl)) (hr := fun v_text_5 => js_if (U := Unit) (N1 := fun u_6 => [.dice, .dat v_six_1, .dat v_clash_2, .dat v_no_4, .dat v_text_5, .any, .any, .any]) (jt_w (jw_or (jt_cmp (op_neD (uE hr)) ro_ne (ha := (jq (je_callG (ok__law_reads Fx) hr hgu (by decide) (takes_of rfl rfl rfl rfl) (ja_cons (je_var 3 (d := v_no_4) (hv := .inl (by kernel_rfl))) (ja_cons (je_var 4 (d := v_text_5) (hv := .inl (by kernel_rfl))) ja_nil))))) (hb := (je_op op_addA ro_addA (je_op op_mulA ro_mulA (je_lst (ja_cons je_str ja_nil)) je_int) (je_lst (ja_cons je_str ja_nil))))) (jw_or1 (jt_cmp (op_neD (uE hr)) ro_ne (ha := (jq (je_callG (ok__law_reads Fx) hr hgu (by decide) (takes_of rfl rfl rfl rfl) (ja_cons (je_var 1 (d := v_six_1) (hv := .inl (by kernel_rfl))) (ja_cons (je_var 4 (d := v_text_5) (hv := .inl (by kernel_rfl))) ja_nil))))) (hb := (je_op op_mulA ro_mulA (je_lst (ja_cons je_str ja_nil)) je_int)))))) (js_ret je_bl) (js_nil () []) (fun u_6 => js_if (U := Unit) (N1 := fun u_7 => [.dice, .dat v_six_1, .dat v_clash_2, .dat v_no_4, .dat v_text_5, .any, .any, .any]) (jt_cmp (op_neD (uE hr)) ro_ne (ha := (jq (je_callG (ok__law_reads Fx) hr hgu (by decide) (takes_of rfl rfl rfl rfl) (ja_cons (je_var 3 (d := v_no_4) (hv := .inl (by kernel_rfl))) (ja_cons je_str ja_nil))))) (hb := (je_lst (ja_cons je_str (ja_cons je_str (ja_cons je_str (ja_cons je_str ja_nil))))))) (js_ret je_bl) (js_nil () []) (fun u_7 => js_if (U := Unit) (N1 := fun u_8 => [.dice, .dat v_six_1, .dat v_clash_2, .dat v_no_4, .dat v_text_5, .any, .any, .any]) (jt_cmp (op_neD (uE hr)) ro_ne (ha := (jq (je_callG (ok__law_reads Fx) hr hgu (by decide) (takes_of rfl rfl rfl rfl) (ja_cons (je_var 2 (d := v_clash_2) (hv := .inl (by kernel_rfl))) (ja_cons (je_op op_addA ro_addA je_str (je_op op_mulT ro_mulT je_str je_int)) ja_nil))))) (hb := (je_lst (ja_cons je_str (ja_cons je_str (ja_cons je_str (ja_cons je_str ja_nil))))))) (js_ret je_bl) (js_nil () []) (fun u_8 => js_set 5 (je_calld 0 (G := ok__law_pick Fx) (hr := hr) (hk := (by decide)) (tk := (takes_of rfl rfl rfl rfl)) (hv := .inl (by kernel_rfl)) (ha := (ja_cons (je_lst (ja_cons je_non (ja_cons je_int (ja_cons (je_tup ja_nil) (ja_cons (je_tup (ja_cons je_int ja_nil)) (ja_cons (je_tup (ja_cons je_int (ja_cons je_int ja_nil))) (ja_cons (je_tup (ja_cons je_int (ja_cons je_int ja_nil))) (ja_cons (je_tup (ja_cons je_int (ja_cons (je_un un_neg ru_neg je_int) ja_nil))) (ja_cons (je_tup (ja_cons je_bl (ja_cons je_int ja_nil))) (ja_cons (je_lst (ja_cons je_int (ja_cons je_int ja_nil))) (ja_cons (je_tup (ja_cons je_int (ja_cons je_str ja_nil))) (ja_cons (je_tup (ja_cons je_int (ja_cons je_int (ja_cons je_int ja_nil)))) (ja_cons je_dict0 ja_nil))))))))))))) ja_nil))) sc__law_right.nd (hx := .inl (by kernel_rfl)) (hr := fun v_thing_9 => js_set 6 (je_lst (ja_cons je_non (ja_cons je_int (ja_cons (je_lst (ja_cons (je_tup (ja_cons je_int (ja_cons je_int ja_nil))) ja_nil)) (ja_cons (je_tup (ja_cons (je_tup (ja_cons je_int (ja_cons je_int ja_nil))) ja_nil)) (ja_cons (je_tup (ja_cons (je_tup (ja_cons je_int (ja_cons (je_un un_neg ru_neg je_int) ja_nil))) ja_nil)) (ja_cons (je_tup (ja_cons (je_tup (ja_cons je_int (ja_cons je_int ja_nil))) ja_nil)) (ja_cons (je_tup (ja_cons (je_tup (ja_cons je_int ja_nil)) ja_nil)) (ja_cons (je_tup (ja_cons (je_tup (ja_cons je_int (ja_cons je_bl ja_nil))) ja_nil)) (ja_cons (je_op op_mulA ro_mulA (je_tup (ja_cons (je_tup (ja_cons je_int (ja_cons je_int ja_nil))) ja_nil)) je_int) (ja_cons je_dict0 (ja_cons je_str ja_nil)))))))))))) sc__law_right.nd (hx := .inl (by kernel_rfl)) (hr := fun v_word_10 => js_set 6 (je_calld 0 (G := ok__law_pick Fx) (hr := hr) (hk := (by decide)) (tk := (takes_of rfl rfl rfl rfl)) (hv := .inl (by kernel_rfl)) (ha := (ja_cons (je_op op_addA ro_addA (je_var 6 (d := v_word_10) (hv := .inl (by kernel_rfl))) (je_lst (ja_cons (je_tup (ja_cons (je_tup (ja_cons (je_un un_neg ru_neg je_int) (ja_cons je_int ja_nil))) ja_nil)) (ja_cons (je_tup (ja_cons (je_tup (ja_cons je_int (ja_cons je_int ja_nil))) (ja_cons je_non ja_nil))) (ja_cons (je_tup (ja_cons je_int (ja_cons je_int ja_nil))) (ja_cons (je_tup (ja_cons (je_tup (ja_cons je_int (ja_cons je_int (ja_cons je_int ja_nil)))) ja_nil)) ja_nil)))))) ja_nil))) sc__law_right.nd (hx := .inl (by kernel_rfl)) (hr := fun v_word_11 => js_set 7 (je_op op_addA ro_addA (je_callG (ok__law_tells Fx) hr hgu (by decide) (takes_of rfl rfl rfl rfl) (ja_cons (je_var 3 (d := v_no_4) (hv := .inl (by kernel_rfl))) (ja_cons (je_var 5 (d := v_thing_9) (hv := .inl (by kernel_rfl))) (ja_cons (je_var 6 (d := v_word_11) (hv := .inl (by kernel_rfl))) ja_nil)))) (je_callG (ok__law_tells Fx) hr hgu (by decide) (takes_of rfl rfl rfl rfl) (ja_cons (je_var 1 (d := v_six_1) (hv := .inl (by kernel_rfl))) (ja_cons (je_var 5 (d := v_thing_9) (hv := .inl (by kernel_rfl))) (ja_cons (je_var 6 (d := v_word_11) (hv := .inl (by kernel_rfl))) ja_nil))))) sc__law_right.nd (hx := .inl (by kernel_rfl)) (hr := fun v_told_12 => js_if (U := Unit) (N1 := fun u_13 => [.dice, .dat v_six_1, .dat v_clash_2, .dat v_no_4, .dat v_text_5, .dat v_thing_9, .dat v_word_11, .dat v_told_12]) (jt_cmp (op_neD (uE hr)) ro_ne (ha := (jq (je_var 7 (d := v_told_12) (hv := .inl (by kernel_rfl))))) (hb := (je_lst (ja_cons je_str (ja_cons je_str (ja_cons je_str (ja_cons je_str (ja_cons je_str (ja_cons je_str ja_nil))))))))) (js_ret je_bl) (js_nil () []) (fun u_13 => js_ret (je_cmp (op_eqD (uE hr)) ro_eq.ro (ha := (je_callG (ok__law_tells Fx) hr hgu (by decide) (takes_of rfl rfl rfl rfl) (ja_cons (je_var 2 (d := v_clash_2) (hv := .inl (by kernel_rfl))) (ja_cons (je_tup (ja_cons je_int (ja_cons je_int ja_nil))) (ja_cons (je_op op_mulA ro_mulA (je_tup (ja_cons (je_tup (ja_cons je_int (ja_cons je_int ja_nil))) ja_nil)) je_int) ja_nil))))) (hb := (je_op op_mulA ro_mulA (je_lst (ja_cons je_str ja_nil)) je_int)))))))))))))))⟩
def m__law_right : List D → Dem D := fn0 (runF w__law_right.1)
theorem ok__law_right {P : Program} {w : World} {K : PySem.W.Frag} {mg : Str → Option Value} {base : Heap} (Fx : Facts P w K mg base) : DefDG P w K mg base "_law_right" 19 0 m__law_right := by
  obtain ⟨f, fd, hm, kp, Fn, bi⟩ := Fx.f__law_right.ex
  obtain ⟨cdv, FC⟩ := funC_of_fun Fn
  exact ⟨f, fd, ["dice"], hm, kp, bi, fn_diceG FC sc__law_right rfl [0, 1, 2, 3, 4, 5, 6, 7] (fun A outer s H E hr hgu ds hd => by
      have e0 := len0 hd
      subst e0
      exact ⟨_, w__law_right.1, (fun _ _ h => h), w__law_right.2 Fx f cdv A outer s H E hr hgu⟩), fn0_bad⟩
abbrev s_law : Stmt := topS 82
theorem sc_law : FnScope ["script", "spot", "dice", "turn"] ["script"] (defScope s_law) := ⟨rfl, rfl, rfl, by decide +kernel, rfl, by decide +kernel, by decide +kernel⟩
def w_law : {m : D → Dem (Fl Unit Empty) // ∀ {P : Program} {w : World} {K : PySem.W.Frag} {mg : Str → Option Value} {base : Heap} (Fx : Facts P w K mg base) (f : Addr) (cdv : Value) (A : Around) (outer : List PySem.Env) (s : Shared) (H : Hp) (E : XK) (hr : Room 19 (Xd P w K mg base ["script", "spot", "dice", "turn"] "law" s_law f cdv A outer s H E).A) (hgu : (Xd P w K mg base ["script", "spot", "dice", "turn"] "law" s_law f cdv A outer s H E).A.guards = some []), ∀ (v_script : D), JS (Xd P w K mg base ["script", "spot", "dice", "turn"] "law" s_law f cdv A outer s H E) (Wd E) [0, 1, 2, 3] (defBody s_law) [.dat v_script, .any, .any, .any] (m v_script) (fun _ => [.any, .any, .any, .any]) (fun t => nomatch t)} :=
  ⟨_, fun Fx f cdv A outer s H E hr hgu v_script =>
    js_for1 1 (U := Unit) () [] (Z' := [0, 1, 2, 3]) (I := fun s_1 => [.dat v_script, .any, .any, .any]) (passes_of rfl) rfl (ji_range1 (je_callB (call_max2 rfl) rc_max2 Fx.b_max (ha := (ja_cons je_int (ja_cons (je_callB (call_min2 rfl) rc_min2 Fx.b_min (ha := (ja_cons je_int (ja_cons (je_callB1 call_len_seq rc_lenS Fx.b_len (ha := (jq (je_var 0 (d := v_script) (hv := .inl (by kernel_rfl)))))) ja_nil)))) ja_nil)))) Fx.b_range) (pg_name sc_law.nd (by kernel_rfl) (.inl (by kernel_rfl))) (fun s_1 v_spot_2 => js_roll 2 (ok__law_dice Fx) hr (by decide) (takes_of rfl rfl rfl rfl) (ja_cons (je_var 0 (d := v_script) (hv := .inl (by kernel_rfl))) (ja_cons (je_var 1 (d := v_spot_2) (hv := .inl (by kernel_rfl))) ja_nil)) sc_law.nd (.inl (by kernel_rfl)) (Z' := [0, 1, 2, 3]) (js_for1 3 (U := Unit) () [] (Z' := [0, 1, 2, 3]) (I := fun s_4 => [.dat v_script, .dat v_spot_2, .dice, .any]) (passes_of rfl) rfl (ji_range1 je_int Fx.b_range) (pg_name sc_law.nd (by kernel_rfl) (.inl (by kernel_rfl))) (fun s_4 v_turn_5 => js_if (U := Unit) (N1 := fun u_6 => [.dat v_script, .dat v_spot_2, .dice, .dat v_turn_5]) (jt_not (jt_tru (jq (je_calldG 2 (G := ok__law_right Fx) (hr := hr) (hgu := hgu) (hk := (by decide)) (tk := (takes_of rfl rfl rfl rfl)) (hv := .inl (by kernel_rfl)) (ha := ja_nil))))) (js_ret je_bl) (js_nil () []) (fun u_6 => js_nil () [3])) (fun s_4 => js_nil () [1, 2]))) (fun s_1 => js_ret je_bl)⟩
def m_law : List D → Dem D := fn1 fun v_script => runF (w_law.1 v_script)
end DE

set_option maxHeartbeats 0
namespace DE
open PySem PySem.Spec PyProof.Rows L2
variable [τ : TabCtx]
/-! sign words of one word and many blanks -/
def cnd (t : D) (s : List D × D) : Res Bool := bnd (ok s.2) fun x => bnd (bnd (ok t) fun d => op (lenD d)) fun y => op ((ltI x y).bind asB)
def stp (t : D) (s : List D × D) : Res (Fl (List D × D) (List D × D)) := bnd (bnd (bnd (ok t) fun x => bnd (ok s.2) fun y => op (itemT x y)) fun x => bnd (ok (.str " \n")) fun y => op ((inT x y).bind asB)) fun b => bndF (match b with
    | true => bnd (ok (.int 1)) fun y => bnd (op (addI s.2 y)) fun z => ok (.cnt (s.1, z))
    | false => ok (.next ())) fun _ => bnd (bnd (bnd (bnd (ok t) fun x => bnd (ok s.2) fun y => op (itemT x y)) fun x => bnd (ok (.str "^:;")) fun y => op ((inT x y).bind asB)) fun k => match k with
      | true => bnd (ok s.2) fun x => bnd (ok (.int 1)) fun y => op (addD x y)
      | false => bnd (bnd (ok t) fun d => bnd (bnd (ok s.2) fun d => bnd (ok []) fun ds => ok (d :: ds)) fun ds => ok (d :: ds)) fun ds => SpecM.ret (m_sign_word_end ds)) fun e =>
    bnd (bnd (ok t) fun x => bnd (bnd (ok s.2) fun d => bnd (op (intO d)) fun i => ok (some i)) fun i => bnd (bnd (ok e) fun d => bnd (op (intO d)) fun i => ok (some i)) fun j => op (sliceT x i j)) fun w =>
    bnd (bnd (bnd (ok w) fun x => bnd (ok (.str "^:;")) fun y => op ((notInT x y).bind asB)) fun c => match c with
      | true => bnd (bnd (bnd (bnd (bnd (ok w) fun d => bnd (ok []) fun ds => ok (d :: ds)) fun ds => SpecM.ret (m_is_letters ds)) fun x => op (truth x)) fun c => ok !c) fun c => match c with
        | true => bnd (bnd (bnd (bnd (ok w) fun d => bnd (ok []) fun ds => ok (d :: ds)) fun ds => SpecM.ret (m_is_digits ds)) fun x => op (truth x)) fun c => ok !c
        | false => ok false
      | false => ok false) fun b => bndF (match b with
      | true => bnd (bnd (bnd (ok (.list s.1)) fun d => bnd (bnd (ok s.2) fun d => bnd (ok []) fun ds => ok (d :: ds)) fun ds => ok (d :: ds)) fun xs => op (tupO xs)) fun d => ok (.ret d)
      | false => ok (.next ())) fun _ => bnd (bnd (bnd (ok w) fun d => bnd (bnd (ok s.2) fun d => bnd (ok []) fun ds => ok (d :: ds)) fun ds => ok (d :: ds)) fun xs => op (tupO xs)) fun d => bnd (op (if s.1.length < maxL then some () else none)) fun _ => bnd (ok e) fun z => ok (.next (s.1 ++ [d], z))
def sgs (t : D) : Res (Fl Unit Empty) := bnd (bnd (ok []) fun xs => op (if xs.length ≤ maxL then some xs else none)) fun d => bnd (ok (.int 0)) fun e => endL (whileM (cnd t) (stp t) 2100 (d, e)) fun s => bnd (bnd (bnd (ok (.list s.1)) fun d => bnd (bnd (ok .none) fun d => bnd (ok []) fun ds => ok (d :: ds)) fun ds => ok (d :: ds)) fun xs => op (tupO xs)) fun d => ok (.ret d)
theorem sgs_is (t : D) : w_sign_words_in.1 t = sgs t := by kernel_rfl
theorem cnd_at (z : Str) (hz : z.length ≤ maxL) (f : List D) (j : Int) : cnd (.str z) (f, .int j) = .ok (decide (j < z.length)) := by
  have e : lenD (.str z) = some (.int z.length) := if_pos hz
  simp only [cnd, bnd, op, ok, bind_ok, ret_res, e, ofO_some]
  rfl
theorem stp_blank (z : Str) (hz : z.length ≤ maxL) (f : List D) (j : Int) (h : atI z.cps.toList j = some 32) : stp (.str z) (f, .int j) = .ok (.cnt (f, .int (j + 1))) := by
  have e : itemT (.str z) (.int j) = some (.str ⟨#[32]⟩) := by
    show (if z.length ≤ maxL then (atI z.cps.toList j).map fun c => PyData.str ⟨#[c]⟩ else none) = _
    rw [if_pos hz, h]
    rfl
  have e2 : (inT (.str ⟨#[32]⟩) (.str " \n")).bind asB = some true := by kernel_rfl
  simp only [stp, bnd, op, ok, bind_ok, ret_res, e, ofO_some, e2]
  rfl
theorem blanks (z : Str) (hz : z.length ≤ maxL) (f : List D) (n : Nat) : ∀ (m : Nat) (j : Int), j + m = z.length → (∀ i : Int, j ≤ i → i < z.length → atI z.cps.toList i = some 32) → whileM (cnd (.str z)) (stp (.str z)) (m + (n + 1)) (f, .int j) = .ok (.next (f, .int z.length))
  | 0, j, hj, _ => by
    rw [Nat.zero_add]
    show bnd (cnd (.str z) (f, .int j)) _ = _
    have hj' : j = z.length := by omega
    rw [cnd_at z hz, decide_eq_false (by omega), hj']
    rfl
  | m + 1, j, hj, h => by
    rw [show m + 1 + (n + 1) = (m + (n + 1)) + 1 by omega]
    show bnd (cnd (.str z) (f, .int j)) _ = _
    rw [cnd_at z hz, decide_eq_true (by omega)]
    show bnd (stp (.str z) (f, .int j)) _ = _
    rw [stp_blank z hz f j (h j (Int.le_refl j) (by omega))]
    exact blanks z hz f n m (j + 1) (by omega) fun i h1 h2 => h i (by omega) h2
def TL : Str := "one" ++ repS " " 1997
theorem rep_cps (n : Nat) : (repS " " (n : Int)).cps.toList = List.replicate n 32 := by
  show (List.replicate (n : Int).toNat (" " : Str).cps.toList).flatten = _
  rw [show (" " : Str).cps.toList = [32] from by kernel_rfl, Int.toNat_natCast]
  induction n with
  | zero => rfl
  | succ n ih => rw [List.replicate_succ, List.flatten_cons, ih, List.replicate_succ]; rfl
theorem TL_cps : TL.cps.toList = [111, 110, 101] ++ List.replicate 1997 32 := by
  show (("one" : Str).cps ++ (repS " " ((1997 : Nat) : Int)).cps).toList = _
  rw [Array.toList_append, rep_cps]
  congr 1
theorem TL_len : TL.length = 2000 := by
  show TL.cps.size = _
  rw [← Array.length_toList, TL_cps, List.length_append, List.length_replicate]
  rfl
theorem TL_at (i : Int) (h1 : 3 ≤ i) (h2 : i < 2000) : atI TL.cps.toList i = some 32 := by
  rw [TL_cps]
  have hl : ([111, 110, 101] ++ List.replicate 1997 32 : List Nat).length = 2000 := by rw [List.length_append, List.length_replicate]; rfl
  obtain ⟨x, hx, e⟩ := atI_pos (xs := ([111, 110, 101] ++ List.replicate 1997 32 : List Nat)) (r := i) (by omega) (by rw [hl]; omega)
  unfold atI
  have e2 : ixN ([111, 110, 101] ++ List.replicate 1997 32 : List Nat).length i = some i.toNat := by
    rw [hl]
    unfold ixN
    have a : (0 : Int) ≤ i := by omega
    have b : i < ((2000 : Nat) : Int) := by omega
    simp only [a, b]
    first | rfl | (simp; omega) | simp
  rw [e2]
  show ([111, 110, 101] ++ List.replicate 1997 32 : List Nat)[i.toNat]? = _
  rw [List.getElem?_append_right (by show 3 ≤ i.toNat; omega), List.getElem?_replicate, if_pos (by show i.toNat - 3 < 1997; omega)]
def TP : Str := ⟨⟨[111, 110, 101] ++ List.replicate 1997 32⟩⟩
theorem TL_eq : TL = TP := by
  have e : TL.cps = TP.cps := Array.toList_inj.mp TL_cps
  cases h1 : TL with
  | mk a =>
    cases h2 : TP with
    | mk b =>
      rw [h1, h2] at e
      exact congrArg Str.mk e
theorem st_first : stp (.str TP) ([], .int 0) = .ok (.next ([.tuple [.str "one", .int 0]], .int 3)) := by kernel_rfl
end DE

set_option maxHeartbeats 0
namespace DE
open PySem PySem.Spec PyProof.Rows L2
variable [τ : TabCtx]
section
variable {z : Str} (hl : z.length = 2000) (hat : ∀ i : Int, 3 ≤ i → i < 2000 → atI z.cps.toList i = some 32) (hst : stp (.str z) ([], .int 0) = .ok (.next ([.tuple [.str "one", .int 0]], .int 3)))
include hl
theorem L_max : z.length ≤ maxL := by rw [hl]; unfold maxL; omega
include hat hst
theorem while_long : whileM (cnd (.str z)) (stp (.str z)) (2099 + 1) ([], .int 0) = .ok (.next ([.tuple [.str "one", .int 0]], .int 2000)) := by
  unfold whileM
  rw [cnd_at z (L_max hl), decide_eq_true (by rw [hl]; decide)]
  simp only [bnd, bind_ok, hst]
  have h := blanks z (L_max hl) [.tuple [.str "one", .int 0]] 101 1997 3 (by rw [hl]; rfl) (fun i h1 h2 => hat i h1 (by rw [hl] at h2; exact h2))
  rw [hl] at h
  exact h
theorem sw_of : m_sign_words_in [.str z] = .ok (.tuple [.list [.tuple [.str "one", .int 0]], .none]) := by
  show runF (w_sign_words_in.1 (.str z)) = _
  rw [sgs_is]
  have w := while_long hl hat hst
  generalize hC : cnd (.str z) = C at w
  generalize hS : stp (.str z) = S at w
  have e : sgs (.str z) = endL (whileM C S (2099 + 1) ([], .int 0)) fun s => bnd (bnd (bnd (ok (.list s.1)) fun d => bnd (bnd (ok .none) fun d => bnd (ok []) fun ds => ok (d :: ds)) fun ds => ok (d :: ds)) fun xs => op (tupO xs)) fun d => ok (.ret d) := by
    unfold sgs
    rw [hC, hS]
    kernel_rfl
  rw [e, w]
  rfl
theorem one_of : oneWord z = some (("one" : Str), 0) := by
  unfold oneWord
  rw [if_pos (by rw [hl]; decide), sw_of hl hat hst]
theorem only_of : m_only_items [.str z] = .ok (.list []) := by
  simp only [m_only_items, one_of hl hat hst, if_true]
theorem rows_of : m_book_rows [.str z] = .exc ⟨"ParseError", some ("spot", .int 0)⟩ := by
  simp only [m_book_rows, one_of hl hat hst]
  rw [if_neg (by decide +kernel)]
omit hat hst
theorem req_of : m_require_text [.str z] = .ok .none := by
  have e : lenD (.str z) = some (.int 2000) := by
    show (if z.length ≤ maxL then some (PyData.int z.length) else none) = _
    rw [if_pos (L_max hl), hl]
    rfl
  simp only [m_require_text, fn1, runF, w_require_text, bnd, op, ok, bind_ok, ret_res, ofO_some, e]
  rfl
end
end DE

set_option maxHeartbeats 0
namespace DE
open PySem PySem.Spec PyProof.Rows L2
variable [τ : TabCtx]
def d_six : D := (.tuple [(.tuple [(.int 2), (.int 3)]), (.tuple [(.tuple [(.int 0), (.int 0)]), (.tuple [(.int 0), (.int 0)])]), (.tuple [(.tuple [(.tuple [(.int 0), (.int 2)])]), (.tuple [])])])
def d_clash : D := (.tuple [(.tuple [(.int 2), (.int 3)]), (.tuple [(.tuple [(.int 0), (.int 1)]), (.tuple [(.int 0), (.int 0)])]), (.tuple [(.tuple [(.tuple [(.int 0), (.int 2)])]), (.tuple [])])])
def d_no0 : List D := [.none, (.int 0), (.tuple []), (.list [(.int 2)]), (.tuple [(.tuple [(.int 4)]), (.tuple [(.tuple [(.int 0)])]), (.tuple [(.tuple [])])]), (.dict []), (.str "layers 2;"), (.tuple [(.tuple [(.int 2)]), (.tuple [(.tuple [(.int 1)])]), (.tuple [(.tuple [])])]), (.tuple [(.tuple [(.int 2)]), (.tuple [(.tuple [(.int 0)])])])]
def d_no : List D := [.none, (.int 0), (.tuple []), (.list [(.int 2)]), (.tuple [(.tuple [(.int 4)]), (.tuple [(.tuple [(.int 0)])]), (.tuple [(.tuple [])])]), (.dict []), (.str "layers 2;"), (.tuple [(.tuple [(.int 2)]), (.tuple [(.tuple [(.int 1)])]), (.tuple [(.tuple [])])]), (.tuple [(.tuple [(.int 2)]), (.tuple [(.tuple [(.int 0)])])]), (.tuple [(.tuple [(.int 2), (.int 3)]), (.tuple [(.tuple [(.int 0), (.int 0)]), (.tuple [(.int 0), (.int 0)])]), (.tuple [(.tuple []), (.tuple [])])]), (.tuple [(.tuple [(.int 2), (.int 3)]), (.tuple [(.tuple [(.int 0), (.int 0)]), (.tuple [(.int 0), (.int 3)])]), (.tuple [(.tuple [(.tuple [(.int 0), (.int 2)])]), (.tuple [])])])]
def d_text : List D := [.none, (.int 0), (.tuple []), (.list [(.str "one")]), (.dict []), (.bool true), (.tuple [(.str "one")]), (.str ("one" ++ repS " " 1998)), (.str (repS "a" 2001)), (.int 2)]
def d_thing : List D := [.none, (.int 0), (.tuple []), (.tuple [(.int 1)]), (.tuple [(.int 2), (.int 0)]), (.tuple [(.int 0), (.int 3)]), (.tuple [(.int 0), (.int (-1))]), (.tuple [(.bool true), (.int 0)]), (.list [(.int 0), (.int 1)]), (.tuple [(.int 0), (.str "1")]), (.tuple [(.int 0), (.int 0), (.int 0)]), (.dict [])]
def d_word0 : List D := [.none, (.int 0), (.list [(.tuple [(.int 0), (.int 1)])]), (.tuple [(.tuple [(.int 10), (.int 1)])]), (.tuple [(.tuple [(.int 0), (.int (-1))])]), (.tuple [(.tuple [(.int 0), (.int 1001)])]), (.tuple [(.tuple [(.int 0)])]), (.tuple [(.tuple [(.int 0), (.bool true)])]), (.tuple (List.replicate 101 (.tuple [(.int 0), (.int 1)]))), (.dict []), (.str "a")]
def d_word : List D := [.none, (.int 0), (.list [(.tuple [(.int 0), (.int 1)])]), (.tuple [(.tuple [(.int 10), (.int 1)])]), (.tuple [(.tuple [(.int 0), (.int (-1))])]), (.tuple [(.tuple [(.int 0), (.int 1001)])]), (.tuple [(.tuple [(.int 0)])]), (.tuple [(.tuple [(.int 0), (.bool true)])]), (.tuple (List.replicate 101 (.tuple [(.int 0), (.int 1)]))), (.dict []), (.str "a"), (.tuple [(.tuple [(.int (-1)), (.int 1)])]), (.tuple [(.tuple [(.int 0), (.int 1)]), .none]), (.tuple [(.int 0), (.int 1)]), (.tuple [(.tuple [(.int 0), (.int 1), (.int 2)])])]

theorem no_form : ∀ x ∈ d_no, m_require_book_form [x] = .exc ⟨"InvalidBook", none⟩ := (all_c (by kernel_rfl) (all_c (by kernel_rfl) (all_c (by kernel_rfl) (all_c (by kernel_rfl) (all_c (by kernel_rfl) (all_c (by kernel_rfl) (all_c (by kernel_rfl) (all_c (by kernel_rfl) (all_c (by kernel_rfl) (all_c (by kernel_rfl) (all_c (by kernel_rfl) all_n)))))))))))
theorem long_text (z : Str) (h1 : 2000 < z.length) (h2 : z.length ≤ maxL) : m_require_text [.str z] = .exc ⟨"InvalidOperation", none⟩ := by
  have e : lenD (.str z) = some (.int z.length) := if_pos h2
  have e2 : gtI (.int z.length) (.int 2000) = some (.bool true) := by
    show some (PyData.bool (decide ((2000 : Int) < z.length))) = _
    rw [decide_eq_true (by omega)]
  simp only [m_require_text, fn1, runF, w_require_text, bnd, op, ok, bind_ok, ret_res, ofO_some, e, e2]
  rfl
theorem rep_len (z : Str) (n : Nat) : (repS z (n : Int)).length = n * z.length := by
  show (List.replicate (n : Int).toNat z.cps.toList).flatten.length = _
  rw [List.length_flatten, List.map_replicate, List.sum_replicate_nat, Array.length_toList, Int.toNat_natCast]
  rfl
theorem app_len (a b : Str) : (a ++ b).length = a.length + b.length := by
  show (a.cps ++ b.cps).size = _
  rw [Array.size_append]
  rfl
theorem rt : ∀ t ∈ d_text, m_require_text [t] = .exc ⟨"InvalidOperation", none⟩ := (all_c (by kernel_rfl) (all_c (by kernel_rfl) (all_c (by kernel_rfl) (all_c (by kernel_rfl) (all_c (by kernel_rfl) (all_c (by kernel_rfl) (all_c (by kernel_rfl) (all_c (long_text _ (by rw [app_len, show repS " " 1998 = repS " " ((1998 : Nat) : Int) from rfl, rep_len]; decide +kernel) (by rw [app_len, show repS " " 1998 = repS " " ((1998 : Nat) : Int) from rfl, rep_len]; decide +kernel)) (all_c (long_text _ (by rw [show repS "a" 2001 = repS "a" ((2001 : Nat) : Int) from rfl, rep_len]; decide +kernel) (by rw [show repS "a" 2001 = repS "a" ((2001 : Nat) : Int) from rfl, rep_len]; decide +kernel)) (all_c (by kernel_rfl) all_n))))))))))
section
variable {t b : D} {ε : Exc}
theorem sw_exc (h : m_require_text [t] = .exc ε) : m_sign_words [t] = .exc ε := by
  simp only [m_sign_words, fn1, runF, w_sign_words, bnd, op, ok, bind_ok, ret_res, ofO_some, h]
  rfl
theorem rw_exc (h : m_require_text [t] = .exc ε) : m_read_word [t] = .exc ε := by
  simp only [m_read_word, fn1, runF, w_read_word, bnd, op, ok, bind_ok, ret_res, ofO_some, h]
  rfl
theorem rb_exc (h : m_require_text [t] = .exc ε) : m_read_book [t] = .exc ε := by
  simp only [m_read_book, fn1, runF, w_read_book, bnd, op, ok, bind_ok, ret_res, ofO_some, h]
  rfl
theorem rth_exc (hb : m_require_book_form [b] = .ok .none) (h : m_require_text [t] = .exc ε) : m_read_thing [b, t] = .exc ε := by
  simp only [m_read_thing, fn2, runF, w_read_thing, bnd, op, ok, bind_ok, ret_res, ofO_some, hb, h]
  rfl
theorem rth_no (hb : m_require_book_form [b] = .exc ε) : m_read_thing [b, t] = .exc ε := by
  simp only [m_read_thing, fn2, runF, w_read_thing, bnd, op, ok, bind_ok, ret_res, ofO_some, hb]
  rfl
theorem bt_no (hb : m_require_book_form [b] = .exc ε) : m_book_text [b] = .exc ε := by
  simp only [m_book_text, fn1, runF, w_book_text, bnd, op, ok, bind_ok, ret_res, ofO_some, hb]
  rfl
theorem tt_no (hb : m_require_book_form [b] = .exc ε) : m_thing_text [b, t] = .exc ε := by
  simp only [m_thing_text, fn2, runF, w_thing_text, bnd, op, ok, bind_ok, ret_res, ofO_some, hb]
  rfl
end
theorem nox_ok {α : Type} (a : α) : SpecM.nox (M := Res) (.ok a) = .ok a := rfl
theorem ok_of {r : Res D} (h : (match r with | .ok _ => true | _ => false) = true) : ∃ v, r = .ok v := by
  cases r with
  | ok v => exact ⟨v, rfl⟩
  | exc ε => cases h
  | bad => cases h
abbrev tb3 : List (Str × (List D → Res D)) := [("read_book", m_read_book), ("read_word", m_read_word), ("sign_words", m_sign_words)]
theorem ap1 : appG tb3 (fnD "sign_words") = .ok m_sign_words := by kernel_rfl
theorem ap2 : appG tb3 (fnD "read_word") = .ok m_read_word := by kernel_rfl
theorem ap3 : appG tb3 (fnD "read_book") = .ok m_read_book := by kernel_rfl
theorem tup3 : tupO [fnD "sign_words", fnD "read_word", fnD "read_book"] = some (.tuple [fnD "sign_words", fnD "read_word", fnD "read_book"]) := by kernel_rfl
theorem seq3 : seqO (.tuple [fnD "sign_words", fnD "read_word", fnD "read_book"]) = some [fnD "sign_words", fnD "read_word", fnD "read_book"] := by kernel_rfl
theorem lst1 (a : D) : lstO [a] = some (.list [a]) := by kernel_rfl
theorem lst2a (a c : D) : addD (.list [a, c]) (.list [b]) = some (.list [a, c, b]) := by kernel_rfl
theorem lst3a (a c d e : D) : addD (.list [a, c, d]) (.list [e]) = some (.list [a, c, d, e]) := by kernel_rfl
theorem reads_gen {b t w1 w2 w3 w4 : D} {R1 R2 R3 R4 : Res D} (h1 : m_sign_words [t] = R1) (h2 : m_read_word [t] = R2) (h3 : m_read_book [t] = R3) (h4 : m_read_thing [b, t] = R4) (k1 : wordsA (hndT exLS subT [("InvalidBook", fun _ => some (.str "book")), ("InvalidThing", fun _ => some (.str "thing")), ("InvalidWord", fun _ => some (.str "word")), ("InvalidOperation", fun _ => some (.str "operation")), ("ParseError", catE (fun _ => some (.str "spot ")) (repE (fldE ["ParseError"] "spot")))]) "fine" R1 = .ok w1) (k2 : wordsA (hndT exLS subT [("InvalidBook", fun _ => some (.str "book")), ("InvalidThing", fun _ => some (.str "thing")), ("InvalidWord", fun _ => some (.str "word")), ("InvalidOperation", fun _ => some (.str "operation")), ("ParseError", catE (fun _ => some (.str "spot ")) (repE (fldE ["ParseError"] "spot")))]) "fine" R2 = .ok w2) (k3 : wordsA (hndT exLS subT [("InvalidBook", fun _ => some (.str "book")), ("InvalidThing", fun _ => some (.str "thing")), ("InvalidWord", fun _ => some (.str "word")), ("InvalidOperation", fun _ => some (.str "operation")), ("ParseError", catE (fun _ => some (.str "spot ")) (repE (fldE ["ParseError"] "spot")))]) "fine" R3 = .ok w3) (k4 : wordsA (hndT exLS subT [("InvalidBook", fun _ => some (.str "book")), ("InvalidThing", fun _ => some (.str "thing")), ("InvalidWord", fun _ => some (.str "word")), ("InvalidOperation", fun _ => some (.str "operation")), ("ParseError", catE (fun _ => some (.str "spot ")) (repE (fldE ["ParseError"] "spot")))]) "fine" R4 = .ok w4) : m__law_reads [b, t] = .ok (.list [w1, w2, w3, w4]) := by
  simp only [m__law_reads, fn2, runF, w__law_reads, bnd, op, ok, bind_ok, ret_res, ofO_some, tup3, seq3, compM, withT, ap1, ap2, ap3, h1, h2, h3, h4, k1, k2, k3, k4, nox_ok, lst1, lst3a]
theorem tells_gen {b t w w1 w2 w3 : D} {R1 R2 R3 : Res D} (h1 : m_book_text [b] = R1) (h2 : m_thing_text [b, t] = R2) (h3 : m_word_text [w] = R3) (k1 : wordsA (hndT exLS subT [("InvalidBook", fun _ => some (.str "book")), ("InvalidThing", fun _ => some (.str "thing")), ("InvalidWord", fun _ => some (.str "word")), ("InvalidOperation", fun _ => some (.str "operation")), ("ParseError", catE (fun _ => some (.str "spot ")) (repE (fldE ["ParseError"] "spot")))]) "fine" R1 = .ok w1) (k2 : wordsA (hndT exLS subT [("InvalidBook", fun _ => some (.str "book")), ("InvalidThing", fun _ => some (.str "thing")), ("InvalidWord", fun _ => some (.str "word")), ("InvalidOperation", fun _ => some (.str "operation")), ("ParseError", catE (fun _ => some (.str "spot ")) (repE (fldE ["ParseError"] "spot")))]) "fine" R2 = .ok w2) (k3 : wordsA (hndT exLS subT [("InvalidBook", fun _ => some (.str "book")), ("InvalidThing", fun _ => some (.str "thing")), ("InvalidWord", fun _ => some (.str "word")), ("InvalidOperation", fun _ => some (.str "operation")), ("ParseError", catE (fun _ => some (.str "spot ")) (repE (fldE ["ParseError"] "spot")))]) "fine" R3 = .ok w3) : m__law_tells [b, t, w] = .ok (.list [w1, w2, w3]) := by
  simp only [m__law_tells, fn3, runF, w__law_tells, bnd, op, ok, bind_ok, ret_res, ofO_some, h1, h2, h3, k1, k2, k3, nox_ok, lst1, lst2a]
  all_goals rfl
theorem w_op : wordsA (hndT exLS subT [("InvalidBook", fun _ => some (.str "book")), ("InvalidThing", fun _ => some (.str "thing")), ("InvalidWord", fun _ => some (.str "word")), ("InvalidOperation", fun _ => some (.str "operation")), ("ParseError", catE (fun _ => some (.str "spot ")) (repE (fldE ["ParseError"] "spot")))]) "fine" (.exc ⟨"InvalidOperation", none⟩) = .ok (.str "operation") := by kernel_rfl
theorem w_book : wordsA (hndT exLS subT [("InvalidBook", fun _ => some (.str "book")), ("InvalidThing", fun _ => some (.str "thing")), ("InvalidWord", fun _ => some (.str "word")), ("InvalidOperation", fun _ => some (.str "operation")), ("ParseError", catE (fun _ => some (.str "spot ")) (repE (fldE ["ParseError"] "spot")))]) "fine" (.exc ⟨"InvalidBook", none⟩) = .ok (.str "book") := by kernel_rfl
theorem w_thing : wordsA (hndT exLS subT [("InvalidBook", fun _ => some (.str "book")), ("InvalidThing", fun _ => some (.str "thing")), ("InvalidWord", fun _ => some (.str "word")), ("InvalidOperation", fun _ => some (.str "operation")), ("ParseError", catE (fun _ => some (.str "spot ")) (repE (fldE ["ParseError"] "spot")))]) "fine" (.exc ⟨"InvalidThing", none⟩) = .ok (.str "thing") := by kernel_rfl
theorem w_word : wordsA (hndT exLS subT [("InvalidBook", fun _ => some (.str "book")), ("InvalidThing", fun _ => some (.str "thing")), ("InvalidWord", fun _ => some (.str "word")), ("InvalidOperation", fun _ => some (.str "operation")), ("ParseError", catE (fun _ => some (.str "spot ")) (repE (fldE ["ParseError"] "spot")))]) "fine" (.exc ⟨"InvalidWord", none⟩) = .ok (.str "word") := by kernel_rfl
theorem w_spot : wordsA (hndT exLS subT [("InvalidBook", fun _ => some (.str "book")), ("InvalidThing", fun _ => some (.str "thing")), ("InvalidWord", fun _ => some (.str "word")), ("InvalidOperation", fun _ => some (.str "operation")), ("ParseError", catE (fun _ => some (.str "spot ")) (repE (fldE ["ParseError"] "spot")))]) "fine" (.exc ⟨"ParseError", some ("spot", .int 0)⟩) = .ok (.str "spot 0") := by kernel_rfl
theorem w_fine (v : D) : wordsA (hndT exLS subT [("InvalidBook", fun _ => some (.str "book")), ("InvalidThing", fun _ => some (.str "thing")), ("InvalidWord", fun _ => some (.str "word")), ("InvalidOperation", fun _ => some (.str "operation")), ("ParseError", catE (fun _ => some (.str "spot ")) (repE (fldE ["ParseError"] "spot")))]) "fine" (.ok v) = .ok (.str "fine") := rfl
theorem six_form : m_require_book_form [d_six] = .ok .none := by kernel_rfl
theorem clash_form : m_require_book_form [d_clash] = .ok .none := by kernel_rfl
theorem reads_no (no : D) (hn : no ∈ d_no) (t : D) (ht : t ∈ d_text) : m__law_reads [no, t] = .ok (.list [.str "operation", .str "operation", .str "operation", .str "book"]) := reads_gen (sw_exc (rt t ht)) (rw_exc (rt t ht)) (rb_exc (rt t ht)) (rth_no (no_form no hn)) w_op w_op w_op w_book
theorem reads_six (t : D) (ht : t ∈ d_text) : m__law_reads [d_six, t] = .ok (.list [.str "operation", .str "operation", .str "operation", .str "operation"]) := reads_gen (sw_exc (rt t ht)) (rw_exc (rt t ht)) (rb_exc (rt t ht)) (rth_exc six_form (rt t ht)) w_op w_op w_op w_op
theorem o1 : ∃ v, m_sign_words [.str "one"] = .ok v := ok_of (by kernel_rfl)
theorem o2 : ∃ v, m_read_word [.str "one"] = .ok v := ok_of (by kernel_rfl)
theorem o3 : m_read_book [.str "one"] = .exc ⟨"ParseError", some ("spot", .int 0)⟩ := by kernel_rfl
theorem reads_one (no : D) (hn : no ∈ d_no) : m__law_reads [no, .str "one"] = .ok (.list [.str "fine", .str "fine", .str "spot 0", .str "book"]) := by
  obtain ⟨v1, e1⟩ := o1
  obtain ⟨v2, e2⟩ := o2
  exact reads_gen e1 e2 o3 (rth_no (no_form no hn)) (w_fine _) (w_fine _) w_spot w_book
theorem bt_six : ∃ v, m_book_text [d_six] = .ok v := ok_of (by kernel_rfl)
theorem tt_six : ∀ t ∈ d_thing, m_thing_text [d_six, t] = .exc ⟨"InvalidThing", none⟩ := (all_c (by kernel_rfl) (all_c (by kernel_rfl) (all_c (by kernel_rfl) (all_c (by kernel_rfl) (all_c (by kernel_rfl) (all_c (by kernel_rfl) (all_c (by kernel_rfl) (all_c (by kernel_rfl) (all_c (by kernel_rfl) (all_c (by kernel_rfl) (all_c (by kernel_rfl) (all_c (by kernel_rfl) all_n))))))))))))
theorem wt : ∀ w ∈ d_word, m_word_text [w] = .exc ⟨"InvalidWord", none⟩ := (all_c (by kernel_rfl) (all_c (by kernel_rfl) (all_c (by kernel_rfl) (all_c (by kernel_rfl) (all_c (by kernel_rfl) (all_c (by kernel_rfl) (all_c (by kernel_rfl) (all_c (by kernel_rfl) (all_c (by kernel_rfl) (all_c (by kernel_rfl) (all_c (by kernel_rfl) (all_c (by kernel_rfl) (all_c (by kernel_rfl) (all_c (by kernel_rfl) (all_c (by kernel_rfl) all_n)))))))))))))))
theorem tells_no (no : D) (hn : no ∈ d_no) (t w : D) (hw : w ∈ d_word) : m__law_tells [no, t, w] = .ok (.list [.str "book", .str "book", .str "word"]) := tells_gen (bt_no (no_form no hn)) (tt_no (no_form no hn)) (wt w hw) w_book w_book w_word
theorem tells_six (t w : D) (ht : t ∈ d_thing) (hw : w ∈ d_word) : m__law_tells [d_six, t, w] = .ok (.list [.str "fine", .str "thing", .str "word"]) := by
  obtain ⟨v, e⟩ := bt_six
  exact tells_gen e (tt_six t ht) (wt w hw) (w_fine _) w_thing w_word
theorem tells_end : m__law_tells [d_clash, .tuple [.int 1, .int 2], .tuple (List.replicate 100 (.tuple [.int 9, .int 1000]))] = .ok (.list [.str "fine", .str "fine", .str "fine"]) := by kernel_rfl
section
variable {z : Str} (hl : z.length = 2000) (hat : ∀ i : Int, 3 ≤ i → i < 2000 → atI z.cps.toList i = some 32) (hst : stp (.str z) ([], .int 0) = .ok (.next ([.tuple [.str "one", .int 0]], .int 3)))
include hl hat hst
theorem sign_of : m_sign_words [.str z] = .ok (.tuple [.str "one"]) := by
  have h1 := req_of hl
  have h2 := sw_of hl hat hst
  simp only [m_sign_words, fn1, runF, w_sign_words, bnd, op, ok, bind_ok, ret_res, ofO_some, h1, h2]
  kernel_rfl
theorem word_of : m_read_word [.str z] = .ok (.tuple []) := by
  have h1 := req_of hl
  have h2 := only_of hl hat hst
  simp only [m_read_word, fn1, runF, w_read_word, bnd, op, ok, bind_ok, ret_res, ofO_some, h1, h2]
  kernel_rfl
theorem book_of : m_read_book [.str z] = .exc ⟨"ParseError", some ("spot", .int 0)⟩ := by
  have h1 := req_of hl
  have h2 := rows_of hl hat hst
  simp only [m_read_book, fn1, runF, w_read_book, bnd, op, ok, bind_ok, ret_res, ofO_some, h1, h2]
  rfl
theorem thing_of : m_read_thing [d_clash, .str z] = .ok (.tuple [.int 0, .int 0]) := by
  have h1 := req_of hl
  have h2 := only_of hl hat hst
  simp only [m_read_thing, fn2, runF, w_read_thing, bnd, op, ok, bind_ok, ret_res, ofO_some, clash_form, h1, h2]
  kernel_rfl
theorem reads_of : m__law_reads [d_clash, .str z] = .ok (.list [.str "fine", .str "fine", .str "spot 0", .str "fine"]) := reads_gen (sign_of hl hat hst) (word_of hl hat hst) (book_of hl hat hst) (thing_of hl hat hst) (w_fine _) (w_fine _) w_spot (w_fine _)
end
theorem reads_long : m__law_reads [d_clash, .str TL] = .ok (.list [.str "fine", .str "fine", .str "spot 0", .str "fine"]) := reads_of TL_len TL_at (by rw [TL_eq]; exact st_first)
end DE

set_option maxHeartbeats 4000000
namespace DE
open PySem PySem.Spec PyProof.Rows L2
variable [τ : TabCtx]
theorem pick_ok (ds : List D) (h0 : 0 < ds.length) (h1 : ds.length < 1000) (k : Res D → Prop) (h : ∀ x ∈ ds, k (.ok x)) : (m__law_pick [.list ds]).run k := by
  simp only [m__law_pick, fn1, runF, w__law_pick, bnd, op, ok, run_bnd, run_ret, thenK_ok, lenD, ofO, m__law_roll, rollM]
  rw [if_pos (by omega)]
  refine ⟨by omega, fun r a b => ?_⟩
  obtain ⟨x, hx, e⟩ := atI_pos (xs := ds) a (by exact b)
  simp only [thenK_ok, itemT, itemD, e]
  exact h x hx
theorem dice_rest (sp : D) (c spot : Int) (l : Int) : ∃ x y z : Int, x__law_dice.1 sp (.int spot) (.int c, .int l) = .ok [.int x, .int y, .int z] := by
  have e1 : repD (.int ((if c < 0 then -c else c).fmod 1152921504606846697)) (.int 43) = some (.int ((if c < 0 then -c else c).fmod 1152921504606846697 * 43)) := rep_r _ _ (by decide)
  have e2 : repD (.int 911) (.int spot) = some (.int (911 * spot)) := rep_l _ _ (by decide)
  have e3 : ∀ i : Int, repD (.int 37) (.int i) = some (.int (37 * i)) := fun i => rep_l _ _ (by decide)
  have e4 : (1152921504606846697 != (0 : Int)) = true := by decide
  have e5 : ∀ i j : Int, addD (.int i) (.int j) = some (.int (i + j)) := fun _ _ => rfl
  simp only [x__law_dice, bnd, op, ok, bind_ok, ret_res, ofO_some, absD, modI, ofO, e4, if_true, e1, e2, ltI, intD, e3, e5]
  exact ⟨_, _, _, rfl⟩
theorem dice_ok (ns : List Int) (spot : Int) (h0 : 0 ≤ spot) : ∃ x y z : Int, m__law_dice [scrD ns, .int spot] = .ok [.int x, .int y, .int z] := by
  have e2 : repD (.int 97) (.int spot) = some (.int (97 * spot)) := rep_l _ _ (by decide)
  have e5 : ∀ i j : Int, addD (.int i) (.int j) = some (.int (i + j)) := fun _ _ => rfl
  have e6 : powI (.int 10) (.int 17) = some (.int 100000000000000000) := by kernel_rfl
  have e7 : powI (.int 10) (.int 60) = some (.int 1000000000000000000000000000000000000000000000000000000000000) := by kernel_rfl
  have e8 : mulX (.int 1000000000000000000000000000000000000000000000000000000000000) (.int 1000000000000000000000000000000000000000000000000000000000000) = some (.int 1000000000000000000000000000000000000000000000000000000000000000000000000000000000000000000000000000000000000000000000000) := by kernel_rfl
  have e9 : (1000000000000000000000000000000000000000000000000000000000000000000000000000000000000000000000000000000000000000000000000 != (0 : Int)) = true := by decide +kernel
  simp only [m__law_dice, runN, w__law_dice, bnd, op, ok, bind_ok, ret_res, ofO_some, lenS, scrD, ltI, asB, Option.bind]
  by_cases hs : spot < ((ns.map PyData.int).length : Int)
  · obtain ⟨d, hd, e⟩ := atI_pos (xs := ns.map PyData.int) h0 hs
    obtain ⟨c, _, rfl⟩ := List.mem_map.mp hd
    simp only [hs, decide_true, itemS, e, ofO_some, bind_ok, intD, absD, e6, e7, e8, subI, max2, modI, e9, if_true]
    exact dice_rest _ _ _ _
  · simp only [hs, decide_false, e2, e5, ofO_some, bind_ok, absD, e6, e7, e8, subI, max2, modI, e9, if_true]
    exact dice_rest _ _ _ _

/-- a loop with a state: an invariant by the number of turns done -/
theorem p_loopI {U : Type} {f : U → D → Dem (Fl U U)} (I : Nat → U → Prop) : ∀ {ds : List D} {n : Nat} {u : U}, I n u → (∀ j d u, ds[j]? = some d → I (n + j) u → ∀ k : Res (Fl U U) → Prop, (∀ u', I (n + j + 1) u' → k (.ok (.next u'))) → (f u d).run k) →
    ∀ {k : Res (Fl U U) → Prop}, (∀ u', I (n + ds.length) u' → k (.ok (.next u'))) → (loopM f ds u).run k
  | [], n, u, h0, _, k, hk => hk u h0
  | d :: ds, n, u, h0, hs, k, hk => by
    refine hs 0 d u rfl h0 _ fun u' h1 => ?_
    refine p_loopI (n := n + 1) I h1 (fun j e v he hv k2 hk2 => ?_) fun u2 h2 => hk u2 ?_
    · refine hs (j + 1) e v (by simpa using he) (by rw [show n + (j + 1) = n + 1 + j by omega]; exact hv) k2 fun u3 h3 => hk2 u3 ?_
      rw [show n + 1 + j + 1 = n + (j + 1) + 1 by omega]
      exact h3
    · rw [show n + (d :: ds).length = n + 1 + ds.length by rw [List.length_cons]; omega]
      exact h2
theorem p_endI {S T U : Type} {m : Dem (Fl U U)} {g : U → Dem (Fl S T)} {k : Res (Fl S T) → Prop} (I : U → Prop) (hm : ∀ k : Res (Fl U U) → Prop, (∀ u, I u → k (.ok (.next u))) → m.run k) (h : ∀ u, I u → (g u).run k) : (endL m g).run k := hm _ fun u hu => h u hu
/-! what a run may end in -/
section
variable {α β : Type}
structure May (m : Dem α) (Q : α → Prop) : Prop where
  run : ∀ k : Res α → Prop, (∀ a, Q a → k (.ok a)) → m.run k
theorem may_ok {Q : α → Prop} {a : α} (h : Q a) : May (ok (M := Dem) a) Q := ⟨fun k hk => hk a h⟩
theorem may_op {Q : α → Prop} {o : Option α} (a : α) (e : o = some a) (h : Q a) : May (op (M := Dem) o) Q := ⟨fun k hk => by
  subst e
  exact hk a h⟩
theorem may_bnd {m : Dem α} {f : α → Dem β} {R : β → Prop} (Q : α → Prop) (hm : May m Q) (hf : ∀ a, Q a → May (f a) R) : May (bnd m f) R := ⟨fun k hk => hm.run _ fun a ha => (hf a ha).run k hk⟩
/-- a step whose value is known -/
theorem may_set {m : Dem α} {f : α → Dem β} {R : β → Prop} (a : α) (hm : ∀ k : Res α → Prop, m.run k = k (.ok a)) (hf : May (f a) R) : May (bnd m f) R := ⟨fun k hk => p_set a hm (hf.run k hk)⟩
theorem may_nox {m : Dem α} {Q : α → Prop} (h : May m Q) : May (SpecM.nox m) Q := ⟨fun k hk => h.run _ fun a ha => hk a ha⟩
theorem may_mono {m : Dem α} {Q R : α → Prop} (h : May m Q) (g : ∀ a, Q a → R a) : May m R := ⟨fun k hk => h.run k fun a ha => hk a (g a ha)⟩
end
theorem may_withT {m : Dem D} {Q : D → Prop} (h : May m Q) : May (withT (ok true) m) (fun r => ∃ y, r = some y ∧ Q y) := ⟨fun k hk => h.run _ fun a ha => hk (some a) ⟨a, rfl, ha⟩⟩
theorem may_loop {U S T : Type} {f : U → D → Dem (Fl U U)} {g : U → Dem (Fl S T)} {R : Fl S T → Prop} (I : Nat → U → Prop) {ds : List D} {u : U} (h0 : I 0 u) (hs : ∀ j d u, ds[j]? = some d → I j u → May (f u d) (fun r => ∃ u', r = .next u' ∧ I (j + 1) u')) (hg : ∀ u, I ds.length u → May (g u) R) : May (endL (loopM f ds u) g) R := ⟨fun k hk =>
  p_endI (fun v => I ds.length v) (fun k2 hk2 => p_loopI (n := 0) I h0 (fun j d v hd hv k3 hk3 => (hs j d v hd (by rwa [Nat.zero_add] at hv)).run k3 fun r hr => by
    obtain ⟨u', rfl, q⟩ := hr
    exact hk3 u' (by rw [Nat.zero_add]; exact q)) fun v hv => hk2 v (by rwa [Nat.zero_add] at hv)) fun v hv => (hg v hv).run k hk⟩
theorem may_pick (ds : List D) (h0 : 0 < ds.length) (h1 : ds.length < 1000) : May (m__law_pick [.list ds]) (fun d => d ∈ ds) := ⟨fun k hk => pick_ok ds h0 h1 k hk⟩
theorem may_bndF {S T U : Type} {m : Dem (Fl U T)} {g : U → Dem (Fl S T)} {R : Fl S T → Prop} (I : U → Prop) (hm : May m (fun r => ∃ u, r = .next u ∧ I u)) (hg : ∀ u, I u → May (g u) R) : May (bndF m g) R := ⟨fun k hk => hm.run _ fun r hr => by
  obtain ⟨u, rfl, hu⟩ := hr
  exact (hg u hu).run k hk⟩
theorem may_ret {α : Type} {Q : α → Prop} {r : Res α} (a : α) (e : r = .ok a) (h : Q a) : May (SpecM.ret (M := Dem) r) Q := ⟨fun k hk => by
  subst e
  exact hk a h⟩
theorem may_run {α : Type} {Q : α → Prop} {m : Dem α} (a : α) (e : ∀ k : Res α → Prop, m.run k = k (.ok a)) (h : Q a) : May m Q := ⟨fun k hk => by
  rw [e]
  exact hk a h⟩
end DE

set_option maxHeartbeats 0
namespace DE
open PySem PySem.Spec PyProof.Rows L2
variable [τ : TabCtx]
theorem may_or {mA mB : Dem Bool} (hA : May mA (fun t => t = false)) (hB : May mB (fun t => t = false)) : May (bnd mA fun c => match c with | true => ok true | false => mB) (fun t => t = false) := may_bnd (fun t => t = false) hA fun t ht => by
  subst ht
  exact hB
theorem may_no {β : Type} {mc : Dem Bool} {d : Dem D} {g : Unit → Dem (Fl Unit Empty)} {R : Fl Unit Empty → Prop} (h : May mc (fun t => t = false)) (hg : May (g ()) R) : May (bnd mc fun t => bndF (match t with
    | true => bnd d fun d => ok (.ret d)
    | false => ok (.next ())) g) R := may_bnd (fun t => t = false) h fun t ht => by
  subst ht
  exact may_bndF (fun _ => True) (may_ok ⟨(), rfl, trivial⟩) fun u _ => hg
/-- a call whose value is known, and a look at it -/
theorem may_look {ma : Dem (List D)} {f : List D → Res D} {ds : List D} {v : D} {g : D → Dem Bool} (ha : ∀ k : Res (List D) → Prop, ma.run k = k (.ok ds)) (hf : f ds = .ok v) (hg : ∀ k : Res Bool → Prop, (g v).run k = k (.ok false)) : May (bnd (bnd ma fun ds => SpecM.ret (f ds)) g) (fun t => t = false) :=
  may_bnd (fun x => x = v) (may_set ds ha (may_ret v hf rfl)) fun x hx => by
    subst hx
    exact may_run false hg rfl
theorem right_may : May (w__law_right.1) (fun r => r = .ret (.bool true)) := by
  simp only [w__law_right]
  refine may_set (.tuple [d_six, d_clash]) (fun _ => by kernel_rfl) ?_
  refine may_set (.list d_no0) (fun _ => by kernel_rfl) ?_
  refine may_bnd (fun n => n ∈ d_no) (may_set [.list d_no] (fun _ => by kernel_rfl) (may_pick d_no (by decide) (by decide))) fun no hno => ?_
  refine may_bnd (fun n => n ∈ d_text) (may_set [.list d_text] (fun _ => by kernel_rfl) (may_pick d_text (by decide) (by decide))) fun t ht => ?_
  refine may_no (β := Unit) (may_or (may_look (fun _ => rfl) (reads_no no hno t ht) (fun _ => by kernel_rfl)) (may_look (fun _ => rfl) (reads_six t ht) (fun _ => by kernel_rfl))) ?_
  refine may_no (β := Unit) (may_look (fun _ => rfl) (reads_one no hno) (fun _ => by kernel_rfl)) ?_
  refine may_no (β := Unit) (may_look (ds := [d_clash, .str TL]) (fun _ => by kernel_rfl) reads_long (fun _ => by kernel_rfl)) ?_
  refine may_bnd (fun n => n ∈ d_thing) (may_set [.list d_thing] (fun _ => by kernel_rfl) (may_pick d_thing (by decide) (by decide))) fun th hth => ?_
  refine may_set (.list d_word0) (fun _ => by kernel_rfl) ?_
  refine may_bnd (fun n => n ∈ d_word) (may_set [.list d_word] (fun _ => by kernel_rfl) (may_pick d_word (by decide) (by decide))) fun wd hwd => ?_
  refine may_bnd (fun v => v = .list [.str "book", .str "book", .str "word", .str "fine", .str "thing", .str "word"]) ?_ fun v hv => ?_
  · refine may_bnd (fun v => v = .list [.str "book", .str "book", .str "word"]) (may_set [no, th, wd] (fun _ => rfl) (may_ret _ (tells_no no hno th wd hwd) rfl)) fun x hx => ?_
    subst hx
    refine may_bnd (fun v => v = .list [.str "fine", .str "thing", .str "word"]) (may_set [d_six, th, wd] (fun _ => rfl) (may_ret _ (tells_six th wd hth hwd) rfl)) fun y hy => ?_
    subst hy
    exact may_op _ (by kernel_rfl) rfl
  subst hv
  refine may_no (β := Unit) (may_run false (fun _ => by kernel_rfl) rfl) ?_
  refine may_bnd (fun d => d = .bool true) ?_ fun d hd => ?_
  · refine may_bnd (fun v => v = .list [.str "fine", .str "fine", .str "fine"]) (may_set [d_clash, .tuple [.int 1, .int 2], .tuple (List.replicate 100 (.tuple [.int 9, .int 1000]))] (fun _ => by kernel_rfl) (may_ret _ tells_end rfl)) fun x hx => ?_
    subst hx
    exact may_run _ (fun _ => by kernel_rfl) rfl
  subst hd
  exact may_ok rfl
end DE

set_option maxHeartbeats 0
namespace DE
open PySem PySem.Spec PyProof.Rows L2
variable [τ : TabCtx]
theorem p_bind {α β : Type} {m : Dem α} {f : α → Dem β} {k : Res β → Prop} (h : m.run (thenK (fun a k => (f a).run k) k)) : (SpecM.bind m f).run k := h
theorem right_ok (k : Res D → Prop) (h : k (.ok (.bool true))) : (m__law_right []).run k := by
  show (w__law_right.1).run (thenK _ k)
  refine right_may.run _ fun r hr => ?_
  subst hr
  exact h
theorem turn_may : May (bnd (bnd (bnd (bnd (ok []) m__law_right) fun x => op (truth x)) fun c => ok !c) fun t => bndF (match t with
    | true => bnd (ok (.bool false)) fun d => ok (.ret d)
    | false => ok (.next ())) fun _ => ok (.next ())) (fun r : Fl Unit Unit => ∃ u', r = .next u' ∧ True) := by
  refine may_bnd (fun t => t = false) ?_ fun t ht => ?_
  · refine may_bnd (fun t => t = true) ?_ fun t ht => by subst ht; exact may_ok rfl
    refine may_bnd (fun x : D => x = .bool true) (may_set [] (fun _ => rfl) ⟨fun k hk => right_ok k (hk _ rfl)⟩) fun x hx => ?_
    subst hx
    exact may_op true rfl rfl
  · subst ht
    exact may_bndF (fun _ => True) (may_ok ⟨(), rfl, trivial⟩) fun u _ => may_ok ⟨(), rfl, trivial⟩
theorem law_may (ns : List Int) : May (w_law.1 (scrD ns)) (fun r => r = .ret (.bool true)) := by
  obtain ⟨ds, e, hds⟩ := spots_ok 4 (by decide) (by decide) (ns.map PyData.int).length
  simp only [w_law]
  refine may_bnd (fun z => z = ds) ?_ fun z hz => ?_
  · refine ⟨fun k hk => ?_⟩
    show k (ofO (rangeO (.int 0) (.int _)))
    rw [e]
    exact hk _ rfl
  subst hz
  refine may_loop (fun _ _ => True) trivial (fun j d u hj _ => ?_) fun u _ => ?_
  · obtain ⟨spot, h0, rfl⟩ := hds d (List.mem_of_getElem? hj)
    obtain ⟨x, y, z, e2⟩ := dice_ok ns spot h0
    refine may_set [scrD ns, .int spot] (fun _ => rfl) ?_
    refine may_bnd (fun r => r = [.int x, .int y, .int z]) (may_ret _ e2 rfl) fun r hr => ?_
    subst hr
    refine may_set [.int 0, .int 1, .int 2, .int 3, .int 4] (fun _ => by kernel_rfl) ?_
    refine may_loop (fun _ _ => True) trivial (fun j d u hj _ => turn_may) fun u _ => may_ok ⟨(), rfl, trivial⟩
  · exact may_run (.ret (.bool true)) (fun k => by kernel_rfl) rfl
theorem EN_plain (ns : List Int) (h1 : ns.length ≤ 63) (h2 : ∀ z ∈ ns, Builtin.Int.intBits z ≤ 1048576) : (m_law [scrD ns]).run fun r => r = .ok (.bool true) := by
  show (w_law.1 (scrD ns)).run (thenK _ _)
  refine (law_may ns).run _ fun r hr => ?_
  subst hr
  rfl
end DE

set_option maxHeartbeats 0
namespace DE
open PySem PySem.Spec PyProof.Rows L2
theorem EN_facts {w : World} {K : PySem.W.Frag} {h base : Heap} {mg : Str → Option Value} (X : K.In h) (G : h.Ns mainGlobals mg) (S : SaysZ h K EN_fa EN_fn EN_ck EN_tb EN_is) (TB : ∀ x ∈ EN_tb, LamX.TabB base mg (codeA K x) (tabA K x)) : letI := tau K EN_tb S.y.t.nd; Facts PySem.Challenge.pw_stairgroups_k60_errors_of_texts w K mg base := by
  letI := tau K EN_tb S.y.t.nd
  exact {
    b_abs := free_of X G S.y.d 44
    b_all := free_of X G S.y.d 45
    b_any := free_of X G S.y.d 46
    b_bool := free_of X G S.y.d 47
    b_enumerate := free_of X G S.y.d 48
    b_int := free_of X G S.y.d 49
    b_isinstance := free_of X G S.y.d 50
    b_len := free_of X G S.y.d 51
    b_list := free_of X G S.y.d 52
    b_max := free_of X G S.y.d 53
    b_min := free_of X G S.y.d 54
    b_range := free_of X G S.y.d 55
    b_repr := free_of X G S.y.d 56
    b_str := free_of X G S.y.d 57
    b_super := free_of X G S.y.d 58
    b_tuple := free_of X G S.y.d 59
    b_zip := free_of X G S.y.d 60
    c_BLANKS := gC_at X G (ck_at S.y.c 0) 0
    c_BOOK_SIZE := gC_at X G (ck_at S.y.c 0) 1
    c_BY := gC_at X G (ck_at S.y.c 0) 2
    c_CARET := gC_at X G (ck_at S.y.c 0) 3
    c_COLON := gC_at X G (ck_at S.y.c 0) 4
    c_DIGITS := gC_at X G (ck_at S.y.c 0) 5
    c_END := gC_at X G (ck_at S.y.c 0) 6
    c_LAYERS := gC_at X G (ck_at S.y.c 0) 7
    c_LETTERS := gC_at X G (ck_at S.y.c 0) 8
    c_MARKS := gC_at X G (ck_at S.y.c 0) 9
    c_MOST_DIGITS := gC_at X G (ck_at S.y.c 0) 10
    c_MOST_ITEMS := gC_at X G (ck_at S.y.c 0) 11
    c_MOST_LAYERS := gC_at X G (ck_at S.y.c 0) 12
    c_MOST_LETTERS := gC_at X G (ck_at S.y.c 0) 13
    c_MOST_NAMES := gC_at X G (ck_at S.y.c 0) 14
    c_MOST_POWER := gC_at X G (ck_at S.y.c 0) 15
    c_MOST_SIGNS := gC_at X G (ck_at S.y.c 0) 16
    c_NAMES := gC_at X G (ck_at S.y.c 0) 17
    c_ONE := gC_at X G (ck_at S.y.c 0) 18
    c_PAIR_SIZE := gC_at X G (ck_at S.y.c 0) 19
    c_POWER := gC_at X G (ck_at S.y.c 0) 20
    c_PRIMES := gC_at X G (ck_at S.y.c 0) 21
    c_TURN := gC_at X G (ck_at S.y.c 0) 22
    d_ParseError_spot := flds_ok X G (ck_at S.y.c 2)
    f__law_dice := fnF_of X G S.y.d 1 1 (fun _ _ _ _ _ _ us hl => match us, hl with | [_, _], _ => rfl)
    f__law_pick := fnF_of X G S.y.d 2 2 (fun _ _ _ _ _ _ us hl => match us, hl with | [_, _], _ => rfl)
    f__law_right := fnF_of X G S.y.d 3 3 (fun _ _ _ _ _ _ us hl => match us, hl with | [_], _ => rfl)
    f__law_roll := fnF_of X G S.y.d 4 4 (fun _ _ _ _ _ _ us hl => match us, hl with | [_, _], _ => rfl)
    f_are_primes := fnF_of X G S.y.d 5 5 (fun _ _ _ _ _ _ us hl => match us, hl with | [_, _], _ => rfl)
    f_are_turns := fnF_of X G S.y.d 6 6 (fun _ _ _ _ _ _ us hl => match us, hl with | [_, _, _], _ => rfl)
    f_book_rows := fnF_of X G S.y.d 7 7 (fun _ _ _ _ _ _ us hl => match us, hl with | [_], _ => rfl)
    f_book_text := fnF_of X G S.y.d 8 8 (fun _ _ _ _ _ _ us hl => match us, hl with | [_], _ => rfl)
    f_is_behind := fnF_of X G S.y.d 9 9 (fun _ _ _ _ _ _ us hl => match us, hl with | [_, _, _], _ => rfl)
    f_is_book_in := fnF_of X G S.y.d 10 10 (fun _ _ _ _ _ _ us hl => match us, hl with | [_], _ => rfl)
    f_is_digits := fnF_of X G S.y.d 11 11 (fun _ _ _ _ _ _ us hl => match us, hl with | [_], _ => rfl)
    f_is_free_word := fnF_of X G S.y.d 12 12 (fun _ _ _ _ _ _ us hl => match us, hl with | [_], _ => rfl)
    f_is_letters := fnF_of X G S.y.d 13 13 (fun _ _ _ _ _ _ us hl => match us, hl with | [_], _ => rfl)
    f_is_name := fnF_of X G S.y.d 14 14 (fun _ _ _ _ _ _ us hl => match us, hl with | [_], _ => rfl)
    f_is_pair := fnF_of X G S.y.d 15 15 (fun _ _ _ _ _ _ us hl => match us, hl with | [_], _ => rfl)
    f_is_row_of := fnF_of X G S.y.d 16 16 (fun _ _ _ _ _ _ us hl => match us, hl with | [_, _, _], _ => rfl)
    f_is_vector_by := fnF_of X G S.y.d 17 17 (fun _ _ _ _ _ _ us hl => match us, hl with | [_, _], _ => rfl)
    f_is_vector_in := fnF_of X G S.y.d 18 18 (fun _ _ _ _ _ _ us hl => match us, hl with | [_, _], _ => rfl)
    f_is_whole := fnF_of X G S.y.d 19 19 (fun _ _ _ _ _ _ us hl => match us, hl with | [_], _ => rfl)
    f_is_within := fnF_of X G S.y.d 20 20 (fun _ _ _ _ _ _ us hl => match us, hl with | [_, _, _], _ => rfl)
    f_is_word_told := fnF_of X G S.y.d 21 21 (fun _ _ _ _ _ _ us hl => match us, hl with | [_], _ => rfl)
    f_item_text := fnF_of X G S.y.d 22 22 (fun _ _ _ _ _ _ us hl => match us, hl with | [_, _], _ => rfl)
    f_items_text := fnF_of X G S.y.d 23 23 (fun _ _ _ _ _ _ us hl => match us, hl with | [_], _ => rfl)
    f_noughts_in := fnF_of X G S.y.d 24 24 (fun _ _ _ _ _ _ us hl => match us, hl with | [_], _ => rfl)
    f_one_at := fnF_of X G S.y.d 25 25 (fun _ _ _ _ _ _ us hl => match us, hl with | [_, _], _ => rfl)
    f_only_items := fnF_of X G S.y.d 26 26 (fun _ _ _ _ _ _ us hl => match us, hl with | [_], _ => rfl)
    f_plain_book := fnF_of X G S.y.d 27 27 (fun _ _ _ _ _ _ us hl => match us, hl with | [_], _ => rfl)
    f_read_book := fnF_of X G S.y.d 28 28 (fun _ _ _ _ _ _ us hl => match us, hl with | [_], _ => rfl)
    f_read_items := fnF_of X G S.y.d 29 29 (fun _ _ _ _ _ _ us hl => match us, hl with | [_], _ => rfl)
    f_read_thing := fnF_of X G S.y.d 30 30 (fun _ _ _ _ _ _ us hl => match us, hl with | [_, _], _ => rfl)
    f_read_word := fnF_of X G S.y.d 31 31 (fun _ _ _ _ _ _ us hl => match us, hl with | [_], _ => rfl)
    f_require_book_form := fnF_of X G S.y.d 32 32 (fun _ _ _ _ _ _ us hl => match us, hl with | [_], _ => rfl)
    f_require_text := fnF_of X G S.y.d 33 33 (fun _ _ _ _ _ _ us hl => match us, hl with | [_], _ => rfl)
    f_sign_word_end := fnF_of X G S.y.d 34 34 (fun _ _ _ _ _ _ us hl => match us, hl with | [_, _], _ => rfl)
    f_sign_words := fnF_of X G S.y.d 35 35 (fun _ _ _ _ _ _ us hl => match us, hl with | [_], _ => rfl)
    f_sign_words_in := fnF_of X G S.y.d 36 36 (fun _ _ _ _ _ _ us hl => match us, hl with | [_], _ => rfl)
    f_thing_text := fnF_of X G S.y.d 37 37 (fun _ _ _ _ _ _ us hl => match us, hl with | [_, _], _ => rfl)
    f_vector_text := fnF_of X G S.y.d 38 38 (fun _ _ _ _ _ _ us hl => match us, hl with | [_], _ => rfl)
    f_vector_told := fnF_of X G S.y.d 39 39 (fun _ _ _ _ _ _ us hl => match us, hl with | [_, _], _ => rfl)
    f_word_text := fnF_of X G S.y.d 40 40 (fun _ _ _ _ _ _ us hl => match us, hl with | [_], _ => rfl)
    k_InvalidBook := ⟨_, He.glo_ok X G (S.y.d.fact 61 (by kernel_rfl))⟩
    k_InvalidOperation := ⟨_, He.glo_ok X G (S.y.d.fact 62 (by kernel_rfl))⟩
    k_InvalidThing := ⟨_, He.glo_ok X G (S.y.d.fact 63 (by kernel_rfl))⟩
    k_InvalidWord := ⟨_, He.glo_ok X G (S.y.d.fact 64 (by kernel_rfl))⟩
    k_ParseError := ⟨_, He.glo_ok X G (S.y.d.fact 65 (by kernel_rfl))⟩
    l__law_reads := fnL_of X G S.y TB 41 41 (fun _ _ _ _ _ _ us hl => match us, hl with | [_, _], _ => rfl) (by decide)
    l__law_tells := fnL_of X G S.y TB 42 42 (fun _ _ _ _ _ _ us hl => match us, hl with | [_, _, _], _ => rfl) (by decide)
    s_sub := subs_ok X G (ck_at S.y.c 3)
    v_ParseError := xv_of X G S.y.d (file := PySem.Challenge.pw_stairgroups_k60_errors_of_texts.main.file) rfl base_Value is_ParseError (S.at 0) (ck_at S.y.c 4) (free_of X G S.y.d 58) (by kernel_rfl) 65
    x_InvalidBook := xF_of X G S.y.d 61 66
    x_InvalidOperation := xF_of X G S.y.d 62 67
    x_InvalidThing := xF_of X G S.y.d 63 68
    x_InvalidWord := xF_of X G S.y.d 64 69
    W__law_word_of := { ex := (fnF_of X G S.y.d (st := topS 78) 0 0 (fun _ _ _ _ _ _ us hl => match us, hl with | [_], _ => rfl)).ex, sc := ⟨rfl, rfl, rfl, by decide +kernel, rfl, by decide +kernel, by decide +kernel⟩, vis := .inl (by kernel_rfl), hN := rfl, form := ⟨_, _, _, _, _, _, _, _, _, rfl, fun P w base g cdg A stack s H hr1 hgu => by
      have hr : Room 0 (wcx P w K mg base ["call", "error"] "_law_word_of" (defScope (topS 78)) g cdg A stack s H).A := hr1.deeper _
      exact (.plain (⟨_, He.glo_ok X G (S.y.d.fact 61 (by kernel_rfl))⟩ : ∃ C, mg "InvalidBook" = some (Value.ref C)).choose_spec (by (show _ = _); kernel_rfl) (by kernel_rfl) jh_str (.plain (⟨_, He.glo_ok X G (S.y.d.fact 63 (by kernel_rfl))⟩ : ∃ C, mg "InvalidThing" = some (Value.ref C)).choose_spec (by (show _ = _); kernel_rfl) (by kernel_rfl) jh_str (.plain (⟨_, He.glo_ok X G (S.y.d.fact 64 (by kernel_rfl))⟩ : ∃ C, mg "InvalidWord" = some (Value.ref C)).choose_spec (by (show _ = _); kernel_rfl) (by kernel_rfl) jh_str (.plain (⟨_, He.glo_ok X G (S.y.d.fact 62 (by kernel_rfl))⟩ : ∃ C, mg "InvalidOperation" = some (Value.ref C)).choose_spec (by (show _ = _); kernel_rfl) (by kernel_rfl) jh_str (.named (k := 1) (⟨_, He.glo_ok X G (S.y.d.fact 65 (by kernel_rfl))⟩ : ∃ C, mg "ParseError" = some (Value.ref C)).choose_spec (by (show _ = _); kernel_rfl) (by kernel_rfl) (by kernel_rfl) (by kernel_rfl) (jh_cat jh_str (jh_repr hgu hr (free_of X G S.y.d 56) (jh_fld (k := 1) (L := ["ParseError"]) (flds_ok X G (ck_at S.y.c 2)) (hv := .inl (by kernel_rfl))))) .nil))))), fun _ => rfl⟩, cls := fun a ha b hb => (subs_ok X G (ck_at S.y.c 3)) a ha b (mem_sub (L := ["InvalidBook", "InvalidThing", "InvalidWord", "InvalidOperation", "ParseError"]) (by decide) hb), dbg := ⟨by kernel_rfl, by kernel_rfl⟩ }
    R := { mgC := He.glo_ok X G (S.y.d.fact 70 (by kernel_rfl)), cl := He.cls_ok (S.y.d.fact 71 (by kernel_rfl)), nW := He.noat_ok (S.y.d.fact 72 (by kernel_rfl)), nE := He.noat_ok (S.y.d.fact 73 (by kernel_rfl)), nI := He.noat_ok (S.y.d.fact 74 (by kernel_rfl)), nA := He.noat_ok (S.y.d.fact 75 (by kernel_rfl)), mkr := He.mkr_ok (S.y.d.fact 76 (by kernel_rfl)), mO := He.meth_ok (S.y.d.fact 77 (by kernel_rfl)), mN := He.meth_ok (S.y.d.fact 78 (by kernel_rfl)), mS := He.meth_ok (S.y.d.fact 79 (by kernel_rfl)), mT := He.meth_ok (S.y.d.fact 80 (by kernel_rfl)), mD := He.meth_ok (S.y.d.fact 81 (by kernel_rfl)), fI := mth_of S.y.d 44 (fun _ _ _ _ _ _ us hl => match us, hl with | [_, _], _ => rfl), fO := mth_of S.y.d 45 (fun _ _ _ _ _ _ us hl => match us, hl with | [_], _ => rfl), fN := mth_of S.y.d 46 (fun _ _ _ _ _ _ us hl => match us, hl with | [_], _ => rfl), fS := mth_of S.y.d 47 (fun _ _ _ _ _ _ us hl => match us, hl with | [_], _ => rfl), fT := mth_of S.y.d 48 (fun _ _ _ _ _ _ us hl => match us, hl with | [_, _], _ => rfl), fD := mthL_of S.y TB 49 (fun _ _ _ _ _ _ us hl => match us, hl with | [_, _], _ => rfl) (by decide +kernel), len := free_of X G S.y.d 51, pe := xv_of X G S.y.d (file := PySem.Challenge.pw_stairgroups_k60_errors_of_texts.main.file) rfl base_Value is_ParseError (S.at 0) (ck_at S.y.c 4) (free_of X G S.y.d 58) (by kernel_rfl) 65 } }
theorem EN_law {w : World} {K : PySem.W.Frag} {mg : Str → Option Value} {f : Addr} {h : Heap} (X : K.In h) (G : h.Ns mainGlobals mg) (S : SaysZ h K EN_fa EN_fn EN_ck EN_tb EN_is) (hf : mg "law" = some (.ref f)) : LawAtG PySem.Challenge.rw_stairgroups_k60_errors_of_texts w K (L2.CX PySem.Challenge.pw_stairgroups_k60_errors_of_texts w) 20 63 "script" mg f h :=
  lawAt_ofG (l := PySem.Challenge.rw_stairgroups_k60_errors_of_texts) (m := @m_law (tau K EN_tb S.y.t.nd)) X G S.y 43 43 hf (fun _ _ _ _ _ _ us hl => match us, hl with | [_], _ => rfl) (fun base TB f fd cdv C hcd => by
      letI := tau K EN_tb S.y.t.nd
      exact fn_demG C sc_law rfl [0, 1, 2, 3] (fun A outer s H E hr hgu ds hd => by
        obtain ⟨a, rfl⟩ := len1 hd
        exact ⟨_, w_law.1 a, rfl, w_law.2 (EN_facts X G S TB) f cdv A outer s H E hr hgu a⟩)) (fun ns h1 h2 => by
      letI := tau K EN_tb S.y.t.nd
      exact EN_plain ns h1 h2)
end DE
open PySem PySem.W PySem.Calls PyProof.Rows
set_option maxHeartbeats 0 in
theorem PySem.Challenge.cw_stairgroups_k60_errors_of_texts_holds : PySem.Challenge.rw_stairgroups_k60_errors_of_texts.Holds := by
  w_on; o_law
  refine HandSHeadRun.head_any (r := DE.EN_R) (q := DE.EN_q) (H := DE.EN_hk) (ob := DE.EN_ob) (M := 6000) (loose := DE.EN_names) (d := HandSHeadRun.topDef DE.EN_R.prog 82) (kwd := []) DE.EN_ob_eq
    (by kernel_rfl) (fun s => by kernel_rfl) DE.EN_run (by kernel_rfl) (by kernel_rfl) (by kernel_rfl) (by rfl) (by first | assumption | decide +kernel) (by decide +kernel) ⟨rfl, rfl, rfl, rfl, rfl, by decide +kernel⟩ ?hw ?hc
  case hw => w_witness2
  case hc =>
    refine DE.walk_G (l := PySem.Challenge.rw_stairgroups_k60_errors_of_texts) (n := 63) (k := 20) (x := "script") (CX := fun w => L2.CX PySem.Challenge.pw_stairgroups_k60_errors_of_texts w) rfl (by decide) (by kernel_rfl) ⟨rfl, by decide, by decide⟩ ?F (fun _ _ _ _ _ z => DE.cx_no z)
    intro w mg f h Y G hmg0
    obtain ⟨K, KX, S⟩ := Y
    have hmg : mg ("law" : PySem.Str) = some (.ref f) := by
      have e : (HandSHeadRun.topDef DE.EN_R.prog 82).name = ("law" : PySem.Str) := by kernel_rfl
      rw [← e]
      exact hmg0
    exact ⟨K, KX, DE.EN_law KX G S hmg⟩

