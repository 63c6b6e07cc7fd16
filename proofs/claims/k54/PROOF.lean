import PyProof.Rows.All
import HandS.ForMost
import HandS.Lambda
import KE.KDictKeyed
import KE.KeyNested
import HandS.TupAny
import HandS.Deep
import HandS.SortInts
import HandS.IsInst
import HandS.TupLe
import KE.SortData
import KE.KIndexOf
import HandS.Flow
import HandS.ForExc
import HandS.Style
import HandS.Zip
import KE.GoesEnum
import KE.GoesMore
import KE.GoesZip
import KE.KDictZip
import HandS.ExcValue
import HandS.Conv
import HandS.DictComp
import HandS.Dict
import KE.KRevSl
import KE.KDictWalk
import KE.KDictExact
import KE.KDictPairs
import KE.KDictDisplayH
import HandS.DictEq
import HandS.TupLen
import KE.KDictList
import KE.KDictCopyH
import PyProof.SumWalkG
import HandS.Head0
import HandS.Head1
import HandS.Head2
import HandS.HeadEnd
import HandS.HeadHook1
import PySem.Challenge.RW_crosswires_k54_across_codes_telling_corn
set_option Elab.async false
set_option linter.all false
set_option maxRecDepth 100000
/-! TBase: values as trees (D), slots (S), results (Res), and how they lie in the abstract heap (Rep, RelW). -/
namespace T
open PySem PySem.Spec PyProof.Rows L2

/-- a value as a tree -/
inductive D where
  | non | bl (b : Bool) | int (i : Int) | str (x : Str)
  | tup (xs : List D) | lst (xs : List D) | dic (kvs : List (D × D))
  /-- a list of ints that is read alone (the script); a locked object, as it stands -/
  | fz (ns : List Int) | ext (o : Obj) (u : HO)

/-- what a slot (or a result) holds: nothing; a shared tree, never changed again; a list or dict of this slot's own; the draw; what slot i holds -/
inductive S where
  | no | sh (d : D) | ow (d : D) | tok | bo (i : Nat)
abbrev Env := List S

/-- an exception that is raised: its class's address, the tree of its own dict -/
structure Exn where
  cls : Str
  fs : List (Str × V)

inductive Res (α : Type) where
  | ok (a : α) (e : Env)
  | exc (x : Exn) (e : Env)
  | bad
  | ask (n : Nat) (k : Nat → Res α)
namespace Res
def bind {α β : Type} : Res α → (α → Env → Res β) → Res β
  | ok a e, f => f a e
  | exc x e, _ => exc x e
  | bad, _ => bad
  | ask n k, f => ask n fun r => bind (k r) f
def wp {α : Type} : Res α → (α → Env → Prop) → (Exn → Env → Prop) → Prop
  | ok a e, Q, _ => Q a e
  | exc x e, _, E => E x e
  | bad, _, _ => False
  | ask n k, Q, E => ∀ r, r < n → wp (k r) Q E
theorem wp_mono {α : Type} {m : Res α} {Q Q' : α → Env → Prop} {E E' : Exn → Env → Prop} (h : wp m Q E) (hQ : ∀ a e, Q a e → Q' a e) (hE : ∀ x e, E x e → E' x e) : wp m Q' E' := by
  induction m with
  | ok a e => exact hQ _ _ h
  | exc x e => exact hE _ _ h
  | bad => exact h
  | ask n k ih => exact fun r hr => ih r (h r hr)
theorem wp_bind {α β : Type} {m : Res α} {f : α → Env → Res β} {Q : β → Env → Prop} {E : Exn → Env → Prop} : wp (bind m f) Q E ↔ wp m (fun a e => wp (f a e) Q E) E := by
  induction m with
  | ok a e => exact Iff.rfl
  | exc x e => exact Iff.rfl
  | bad => exact Iff.rfl
  | ask n k ih => exact ⟨fun h r hr => (ih r).mp (h r hr), fun h r hr => (ih r).mpr (h r hr)⟩
@[simp] theorem bind_ok {α β : Type} (a : α) (e : Env) (f : α → Env → Res β) : bind (ok a e) f = f a e := rfl
@[simp] theorem bind_exc {α β : Type} (x : Exn) (e : Env) (f : α → Env → Res β) : bind (exc x e) f = exc x e := rfl
@[simp] theorem bind_bad {α β : Type} (f : α → Env → Res β) : bind bad f = bad := rfl
@[simp] theorem bind_ask {α β : Type} (n : Nat) (k : Nat → Res α) (f : α → Env → Res β) : bind (ask n k) f = ask n fun r => bind (k r) f := rfl
theorem bind_assoc {α β γ : Type} (m : Res α) (f : α → Env → Res β) (g : β → Env → Res γ) : bind (bind m f) g = bind m fun a e => bind (f a e) g := by
  induction m with
  | ok a e => rfl
  | exc x e => rfl
  | bad => rfl
  | ask n k ih => simp only [bind_ask, ih]
/-- an option -/
def get {α : Type} (o : Option α) (e : Env) : Res α := match o with | some a => ok a e | none => bad
@[simp] theorem get_some {α : Type} (a : α) (e : Env) : get (some a) e = ok a e := rfl
@[simp] theorem get_none {α : Type} (e : Env) : get (none : Option α) e = bad := rfl
theorem wp_get {α : Type} {o : Option α} {e : Env} {Q : α → Env → Prop} {E : Exn → Env → Prop} : wp (get o e) Q E ↔ ∃ a, o = some a ∧ Q a e := by
  cases o with
  | some a => exact ⟨fun h => ⟨a, rfl, h⟩, fun ⟨b, e, h⟩ => by cases e; exact h⟩
  | none => exact ⟨fun h => h.elim, fun ⟨b, e, _⟩ => nomatch e⟩
end Res

/-! ### heaps -/
def NTbl (o : HO) : Prop := ∀ ps, o ≠ .tbl ps
def IsDic (u : HO) : Prop := (∃ kvs, u = .dK kvs) ∨ ∃ φ, u = .ext φ
/-- what is read in B is read in B' (a dict may be locked meanwhile) -/
def Le (B B' : Hp) : Prop := ∀ a u, NTbl u → B a = some u → B' a = some u ∨ (IsDic u ∧ ∃ o, B' a = some (.frz o u))
theorem Le.refl (B : Hp) : Le B B := fun _ _ _ h => .inl h
theorem Le.trans {B B' B'' : Hp} (a : Le B B') (b : Le B' B'') : Le B B'' := fun c u n h => by
  rcases a c u n h with h | ⟨d, o, h⟩
  · exact b c u n h
  · rcases b c _ (by intro _ z; cases z) h with h | ⟨d', _⟩
    · exact .inr ⟨d, o, h⟩
    · rcases d' with ⟨_, z⟩ | ⟨_, z⟩ <;> cases z
theorem Le.at {B B' : Hp} (e : Le B B') {a : Addr} {u : HO} (n : NTbl u) (nd : ¬ IsDic u) (h : B a = some u) : B' a = some u := by
  rcases e a u n h with h | ⟨d, _⟩
  · exact h
  · exact absurd d nd
theorem nd_tup {xs : List V} : ¬ IsDic (.tup xs) := by rintro (⟨_, z⟩ | ⟨_, z⟩) <;> cases z
theorem nd_lst {xs : List V} : ¬ IsDic (.lst xs) := by rintro (⟨_, z⟩ | ⟨_, z⟩) <;> cases z
theorem nd_frz {o : Obj} {u : HO} : ¬ IsDic (.frz o u) := by rintro (⟨_, z⟩ | ⟨_, z⟩) <;> cases z
theorem nt_tup {xs : List V} : NTbl (.tup xs) := by intro _ z; cases z
theorem nt_lst {xs : List V} : NTbl (.lst xs) := by intro _ z; cases z
theorem nt_dK {xs : List (Key × V)} : NTbl (.dK xs) := by intro _ z; cases z
theorem nt_ext {φ : Heap → Prop} : NTbl (.ext φ) := by intro _ z; cases z
theorem nt_frz {o : Obj} {u : HO} : NTbl (.frz o u) := by intro _ z; cases z
theorem Le.rd {B B' : Hp} (e : Le B B') {a : Addr} {u : HO} (n : NTbl u) (h : Rd B a u) : Rd B' a u := by
  rcases h with h | ⟨o, h⟩
  · rcases e a u n h with h | ⟨_, o, h⟩
    · exact .inl h
    · exact .inr ⟨o, h⟩
  · exact .inr ⟨o, e.at nt_frz nd_frz h⟩
/-- what is tracked stays -/
def Ext (H H' : Hp) : Prop := ∀ a o, H a = some o → H' a = some o
theorem Ext.refl (H : Hp) : Ext H H := fun _ _ h => h
theorem Ext.trans {H H1 H2 : Hp} (a : Ext H H1) (b : Ext H1 H2) : Ext H H2 := fun x o h => b x o (a x o h)
theorem Ext.new {H : Hp} {p : Addr} {o : HO} (h : H p = none) : Ext H (upd H p o) := fun a u e => by
  rw [upd_ne (ne_of_none e h)]
  exact e
theorem Ext.le {H H' : Hp} (e : Ext H H') : Le H H' := fun a u _ h => .inl (e a _ h)
/-- the heap without what is owned -/
def hide (H : Hp) (w : Addr → Option Nat) : Hp := fun a => match w a with
  | none => H a
  | some _ => none
theorem hide_some {H : Hp} {w : Addr → Option Nat} {a : Addr} {o : HO} (h : hide H w a = some o) : w a = none ∧ H a = some o := by
  unfold hide at h
  split at h
  · exact ⟨by assumption, h⟩
  · cases h
theorem hide_of {H : Hp} {w : Addr → Option Nat} {a : Addr} (h : w a = none) : hide H w a = H a := by
  unfold hide
  rw [h]
theorem hide_le {H : Hp} {w : Addr → Option Nat} : Le (hide H w) H := fun a u _ h => .inl (hide_some h).2
/-- fewer owned, more tracked -/
theorem hide_mono {H H' : Hp} {w w' : Addr → Option Nat} (h : ∀ a o, w a = none → NTbl o → H a = some o → w' a = none ∧ H' a = some o) : Le (hide H w) (hide H' w') := fun a u n q => by
  obtain ⟨q1, q2⟩ := hide_some q
  obtain ⟨r1, r2⟩ := h a _ q1 n q2
  exact .inl (by rw [hide_of r1]; exact r2)

/-! ### trees in the heap -/
def keyD : Key → D
  | .inl i => .int i
  | .inr x => .str x
/-- what the fixed things are: the program, its world, the written part, the tables of code objects -/
structure Gh where
  P : Program
  w : World
  K : PySem.W.Frag
  T : List (Addr × Str)
  C : Str → Addr
/-! a key that is a tuple -/
mutual
def nkD : D → Option NestedKey
  | .non => some .none
  | .bl b => some (.num (if b = true then 1 else 0))
  | .int i => some (.num i)
  | .str x => some (.text x)
  | .tup ds => match nkDs ds with
    | some ks => some (.tup ks)
    | none => none
  | _ => none
def nkDs : List D → Option (List NestedKey)
  | [] => some []
  | d :: r => match nkD d, nkDs r with
    | some k, some ks => some (k :: ks)
    | _, _ => none
end
/-- the very object at a -/
def exO (a : Addr) (ob : Obj) : HO := .ext fun h => h.get? a = some ob
/-- an exact tuple, known or written -/
def TupX (K : PySem.W.Frag) (B : Hp) (a : Addr) (xs : List V) : Prop :=
  (∃ o, B a = some (.frz o (.tup xs)) ∧ o.dict = none) ∨ ∃ (o : Obj) (its : Array Value) (n : Nat), K.lookup a = some o ∧ o.cls = .type "tuple" ∧ o.dict = none ∧ o.data = .seq its n ∧ its.size ≤ sizeLine ∧ Vals xs its.toList
/-- the script: a list that is never written -/
def FzX (K : PySem.W.Frag) (B : Hp) (a : Addr) (ns : List Int) : Prop :=
  (∃ o, B a = some (.frz o (.lst (ns.map V.int)))) ∨ ∃ (o : Obj) (its : Array Value) (n : Nat), K.lookup a = some o ∧ o.cls = .type "list" ∧ o.dict = none ∧ o.data = .seq its n ∧ its.size ≤ sizeLine ∧ Vals (ns.map V.int) its.toList
theorem FzX.le {K : PySem.W.Frag} {B B' : Hp} {a : Addr} {ns : List Int} (h : FzX K B a ns) (e : Le B B') : FzX K B' a ns := by
  rcases h with ⟨o, h⟩ | h
  · exact .inl ⟨o, e.at nt_frz nd_frz h⟩
  · exact .inr h
theorem FzX.sq {K : PySem.W.Frag} {B : Hp} {a : Addr} {ns : List Int} (h : FzX K B a ns) : SqL K B a (ns.map V.int) := by
  rcases h with ⟨o, h⟩ | h
  · exact .inl (.inr ⟨o, h⟩)
  · exact .inr h
theorem TupX.sq {K : PySem.W.Frag} {B : Hp} {a : Addr} {xs : List V} (h : TupX K B a xs) : SqT K B a xs := by
  rcases h with ⟨o, h, _⟩ | ⟨o, its, n, h1, h2, _, h3⟩
  · exact .inl (.inr ⟨o, h⟩)
  · exact .inr ⟨o, its, n, h1, h2, h3⟩
/-- a dict whose keys are tuples: the key's address, its worth, the value -/
structure DX (G : Gh) (a : Addr) (kvs : List (NestedKey × Addr × V)) (ob : Obj) : Prop where
  ex : ob.ExactDict
  es : ∃ (es : Array DictEntry) (ep : Nat) (xs : List (NestedKey × Addr × Value)), ob.data = .dict es ep ∧ es.toList = xs.map (entryOfKey (nestedKind G.P G.w)) ∧ Paired (fun p q => p.1 = q.1 ∧ p.2.1 = q.2.1 ∧ RelV p.2.2 q.2.2) kvs xs
  nd : (kvs.map (·.1)).Nodup
  len : kvs.length ≤ sizeLine
  sm : (a == sysModules) = false
  ne : kvs ≠ []
def RdX (B : Hp) (a : Addr) (ob : Obj) : Prop := B a = some (exO a ob) ∨ ∃ o, B a = some (.frz o (exO a ob))
section
variable (G : Gh)
mutual
inductive Rep (B : Hp) : V → D → Prop
  | non : Rep B .non .non
  | bl (b : Bool) : Rep B (.bl b) (.bl b)
  | int (i : Int) : Rep B (.int i) (.int i)
  | str (x : Str) : Rep B (.str x) (.str x)
  | ext {a : Addr} {o : Obj} {u : HO} : B a = some (.frz o u) → Rep B (.ref a) (.ext o u)
  | tup {a : Addr} {xs : List V} {ds : List D} : TupX G.K B a xs → Reps B xs ds → Rep B (.ref a) (.tup ds)
  | lst {a : Addr} {xs : List V} {ds : List D} : B a = some (.lst xs) → Reps B xs ds → Rep B (.ref a) (.lst ds)
  | fz {a : Addr} {ns : List Int} : FzX G.K B a ns → Rep B (.ref a) (.fz ns)
  | dK {a : Addr} {kvs : List (Key × V)} {ds : List (D × D)} : Rd B a (.dK kvs) → RepK B kvs ds → Rep B (.ref a) (.dic ds)
  | dX {a : Addr} {kvs : List (NestedKey × Addr × V)} {ds : List (D × D)} {ob : Obj} : RdX B a ob → DX G a kvs ob → RepX B kvs ds → Rep B (.ref a) (.dic ds)
inductive Reps (B : Hp) : List V → List D → Prop
  | nil : Reps B [] []
  | cons {v : V} {vs : List V} {d : D} {ds : List D} : Rep B v d → Reps B vs ds → Reps B (v :: vs) (d :: ds)
inductive RepK (B : Hp) : List (Key × V) → List (D × D) → Prop
  | nil : RepK B [] []
  | cons {k : Key} {v : V} {kvs : List (Key × V)} {d : D} {ds : List (D × D)} : Rep B v d → RepK B kvs ds → RepK B ((k, v) :: kvs) ((keyD k, d) :: ds)
inductive RepX (B : Hp) : List (NestedKey × Addr × V) → List (D × D) → Prop
  | nil : RepX B [] []
  | cons {k : NestedKey} {b : Addr} {v : V} {kvs : List (NestedKey × Addr × V)} {kd d : D} {ds : List (D × D)} : Rep B (.ref b) kd → nkD kd = some k → k.depth ≤ 8 → Rep B v d → RepX B kvs ds → RepX B ((k, b, v) :: kvs) ((kd, d) :: ds)
end
/-- the top read in H, what is in it in B -/
inductive BRep (H B : Hp) : V → D → Prop
  | non : BRep H B .non .non
  | bl (b : Bool) : BRep H B (.bl b) (.bl b)
  | int (i : Int) : BRep H B (.int i) (.int i)
  | str (x : Str) : BRep H B (.str x) (.str x)
  | ext {a : Addr} {o : Obj} {u : HO} : B a = some (.frz o u) → BRep H B (.ref a) (.ext o u)
  | tup {a : Addr} {xs : List V} {ds : List D} : TupX G.K B a xs → Reps G B xs ds → BRep H B (.ref a) (.tup ds)
  | lst {a : Addr} {xs : List V} {ds : List D} : H a = some (.lst xs) → Reps G B xs ds → BRep H B (.ref a) (.lst ds)
  | fz {a : Addr} {ns : List Int} : FzX G.K H a ns → BRep H B (.ref a) (.fz ns)
  | dK {a : Addr} {kvs : List (Key × V)} {ds : List (D × D)} : Rd H a (.dK kvs) → RepK G B kvs ds → BRep H B (.ref a) (.dic ds)
  | dX {a : Addr} {kvs : List (NestedKey × Addr × V)} {ds : List (D × D)} {ob : Obj} : RdX H a ob → DX G a kvs ob → RepX G B kvs ds → BRep H B (.ref a) (.dic ds)
/-- an object that is made: what it holds -/
inductive OwnO (a : Addr) (B : Hp) : HO → D → Prop
  | tup {o : Obj} {xs : List V} {ds : List D} : o.dict = none → Reps G B xs ds → OwnO a B (.frz o (.tup xs)) (.tup ds)
  | lst {xs : List V} {ds : List D} : Reps G B xs ds → OwnO a B (.lst xs) (.lst ds)
  | dK {kvs : List (Key × V)} {ds : List (D × D)} : RepK G B kvs ds → OwnO a B (.dK kvs) (.dic ds)
  | dX {kvs : List (NestedKey × Addr × V)} {ds : List (D × D)} {ob : Obj} : DX G a kvs ob → RepX G B kvs ds → OwnO a B (exO a ob) (.dic ds)
end
section
variable {G : Gh} {B B' H H' : Hp}
theorem TupX.le {K : PySem.W.Frag} {a : Addr} {xs : List V} (h : TupX K B a xs) (e : Le B B') : TupX K B' a xs := by
  rcases h with ⟨o, h, d⟩ | h
  · exact .inl ⟨o, e.at nt_frz nd_frz h, d⟩
  · exact .inr h
theorem RdX.le {a : Addr} {ob : Obj} (h : RdX B a ob) (e : Le B B') : RdX B' a ob := by
  rcases h with h | ⟨o, h⟩
  · rcases e a _ nt_ext h with h | ⟨_, o, h⟩
    · exact .inl h
    · exact .inr ⟨o, h⟩
  · exact .inr ⟨o, e.at nt_frz nd_frz h⟩
theorem Rep.le (e : Le B B') {v : V} {d : D} (q : Rep G B v d) : Rep G B' v d := by
  refine Rep.rec (G := G) (B := B) (motive_1 := fun v d _ => Rep G B' v d) (motive_2 := fun vs ds _ => Reps G B' vs ds) (motive_3 := fun vs ds _ => RepK G B' vs ds) (motive_4 := fun vs ds _ => RepX G B' vs ds)
    ?_ ?_ ?_ ?_ ?_ ?_ ?_ ?_ ?_ ?_ ?_ ?_ ?_ ?_ ?_ ?_ q
  · exact .non
  · exact fun b => .bl b
  · exact fun b => .int b
  · exact fun b => .str b
  · intro a o u h; exact .ext (e.at nt_frz nd_frz h)
  · intro a xs ds h _ r; exact .tup (TupX.le h e) r
  · intro a xs ds h _ r; exact .lst (e.at nt_lst nd_lst h) r
  · intro a ns h; exact .fz (FzX.le h e)
  · intro a xs ds h _ r; exact .dK (e.rd nt_dK h) r
  · intro a xs ds ob h x _ r; exact .dX (RdX.le h e) x r
  · exact .nil
  · intro v vs d ds _ _ h r; exact .cons h r
  · exact .nil
  · intro k v vs d ds _ _ h r; exact .cons h r
  · exact .nil
  · intro k b v vs kd d ds _ n dp _ _ hk h r; exact .cons hk n dp h r
theorem Reps.le (e : Le B B') {v : List V} {d : List D} (q : Reps G B v d) : Reps G B' v d := by
  refine Reps.rec (G := G) (B := B) (motive_1 := fun v d _ => Rep G B' v d) (motive_2 := fun vs ds _ => Reps G B' vs ds) (motive_3 := fun vs ds _ => RepK G B' vs ds) (motive_4 := fun vs ds _ => RepX G B' vs ds)
    ?_ ?_ ?_ ?_ ?_ ?_ ?_ ?_ ?_ ?_ ?_ ?_ ?_ ?_ ?_ ?_ q
  · exact .non
  · exact fun b => .bl b
  · exact fun b => .int b
  · exact fun b => .str b
  · intro a o u h; exact .ext (e.at nt_frz nd_frz h)
  · intro a xs ds h _ r; exact .tup (TupX.le h e) r
  · intro a xs ds h _ r; exact .lst (e.at nt_lst nd_lst h) r
  · intro a ns h; exact .fz (FzX.le h e)
  · intro a xs ds h _ r; exact .dK (e.rd nt_dK h) r
  · intro a xs ds ob h x _ r; exact .dX (RdX.le h e) x r
  · exact .nil
  · intro v vs d ds _ _ h r; exact .cons h r
  · exact .nil
  · intro k v vs d ds _ _ h r; exact .cons h r
  · exact .nil
  · intro k b v vs kd d ds _ n dp _ _ hk h r; exact .cons hk n dp h r
theorem RepK.le (e : Le B B') {v : List (Key × V)} {d : List (D × D)} (q : RepK G B v d) : RepK G B' v d := by
  refine RepK.rec (G := G) (B := B) (motive_1 := fun v d _ => Rep G B' v d) (motive_2 := fun vs ds _ => Reps G B' vs ds) (motive_3 := fun vs ds _ => RepK G B' vs ds) (motive_4 := fun vs ds _ => RepX G B' vs ds)
    ?_ ?_ ?_ ?_ ?_ ?_ ?_ ?_ ?_ ?_ ?_ ?_ ?_ ?_ ?_ ?_ q
  · exact .non
  · exact fun b => .bl b
  · exact fun b => .int b
  · exact fun b => .str b
  · intro a o u h; exact .ext (e.at nt_frz nd_frz h)
  · intro a xs ds h _ r; exact .tup (TupX.le h e) r
  · intro a xs ds h _ r; exact .lst (e.at nt_lst nd_lst h) r
  · intro a ns h; exact .fz (FzX.le h e)
  · intro a xs ds h _ r; exact .dK (e.rd nt_dK h) r
  · intro a xs ds ob h x _ r; exact .dX (RdX.le h e) x r
  · exact .nil
  · intro v vs d ds _ _ h r; exact .cons h r
  · exact .nil
  · intro k v vs d ds _ _ h r; exact .cons h r
  · exact .nil
  · intro k b v vs kd d ds _ n dp _ _ hk h r; exact .cons hk n dp h r
theorem RepX.le (e : Le B B') {v : List (NestedKey × Addr × V)} {d : List (D × D)} (q : RepX G B v d) : RepX G B' v d := by
  refine RepX.rec (G := G) (B := B) (motive_1 := fun v d _ => Rep G B' v d) (motive_2 := fun vs ds _ => Reps G B' vs ds) (motive_3 := fun vs ds _ => RepK G B' vs ds) (motive_4 := fun vs ds _ => RepX G B' vs ds)
    ?_ ?_ ?_ ?_ ?_ ?_ ?_ ?_ ?_ ?_ ?_ ?_ ?_ ?_ ?_ ?_ q
  · exact .non
  · exact fun b => .bl b
  · exact fun b => .int b
  · exact fun b => .str b
  · intro a o u h; exact .ext (e.at nt_frz nd_frz h)
  · intro a xs ds h _ r; exact .tup (TupX.le h e) r
  · intro a xs ds h _ r; exact .lst (e.at nt_lst nd_lst h) r
  · intro a ns h; exact .fz (FzX.le h e)
  · intro a xs ds h _ r; exact .dK (e.rd nt_dK h) r
  · intro a xs ds ob h x _ r; exact .dX (RdX.le h e) x r
  · exact .nil
  · intro v vs d ds _ _ h r; exact .cons h r
  · exact .nil
  · intro k v vs d ds _ _ h r; exact .cons h r
  · exact .nil
  · intro k b v vs kd d ds _ n dp _ _ hk h r; exact .cons hk n dp h r
theorem Rep.brep {v : V} {d : D} (h : Rep G B v d) (e : Le B H) : BRep G H B v d := by
  cases h with
  | non => exact .non
  | bl b => exact .bl b
  | int i => exact .int i
  | str x => exact .str x
  | ext h => exact .ext h
  | tup h r => exact .tup h r
  | lst h r => exact .lst (e.at nt_lst nd_lst h) r
  | fz h => exact .fz (FzX.le h e)
  | dK h r => exact .dK (e.rd nt_dK h) r
  | dX h x r => exact .dX (RdX.le h e) x r
theorem BRep.rep {v : V} {d : D} (h : BRep G H B v d) (e : Le B H) : Rep G H v d := by
  cases h with
  | non => exact .non
  | bl b => exact .bl b
  | int i => exact .int i
  | str x => exact .str x
  | ext h => exact .ext (e.at nt_frz nd_frz h)
  | tup h r => exact .tup (TupX.le h e) (Reps.le e r)
  | lst h r => exact .lst h (Reps.le e r)
  | fz h => exact .fz h
  | dK h r => exact .dK h (RepK.le e r)
  | dX h x r => exact .dX h x (RepX.le e r)
theorem BRep.le {v : V} {d : D} (h : BRep G H B v d) (e1 : Le H H') (e2 : Le B B') : BRep G H' B' v d := by
  cases h with
  | non => exact .non
  | bl b => exact .bl b
  | int i => exact .int i
  | str x => exact .str x
  | ext h => exact .ext (e2.at nt_frz nd_frz h)
  | tup h r => exact .tup (TupX.le h e2) (Reps.le e2 r)
  | lst h r => exact .lst (e1.at nt_lst nd_lst h) (Reps.le e2 r)
  | fz h => exact .fz (FzX.le h e1)
  | dK h r => exact .dK (e1.rd nt_dK h) (RepK.le e2 r)
  | dX h x r => exact .dX (RdX.le h e1) x (RepX.le e2 r)
theorem OwnO.le {o : HO} {d : D} {a : Addr} (h : OwnO G a B o d) (e : Le B B') : OwnO G a B' o d := by
  cases h with
  | tup h r => exact .tup h (Reps.le e r)
  | lst r => exact .lst (Reps.le e r)
  | dK r => exact .dK (RepK.le e r)
  | dX x r => exact .dX x (RepX.le e r)
theorem OwnO.brep {o : HO} {d : D} {a : Addr} (h : OwnO G a B o d) (m : Mut (some o)) (e : H a = some o) : BRep G H B (.ref a) d := by
  cases h with
  | tup h r => exact m.elim
  | lst r => exact .lst e r
  | dK r => exact .dK (.inl e) r
  | dX x r => exact .dX (.inl e) x r
theorem OwnO.rep {o : HO} {d : D} {a : Addr} (h : OwnO G a B o d) (e : B a = some o) : Rep G B (.ref a) d := by
  cases h with
  | tup h r => exact .tup (.inl ⟨_, e, h⟩) r
  | lst r => exact .lst e r
  | dK r => exact .dK (.inl e) r
  | dX x r => exact .dX (.inl e) x r
theorem OwnO.ntbl {o : HO} {d : D} {a : Addr} (h : OwnO G a B o d) : NTbl o := by
  cases h <;> exact fun _ z => nomatch z
theorem Reps.length : ∀ {vs : List V} {ds : List D}, Reps G B vs ds → vs.length = ds.length
  | _, _, .nil => rfl
  | _, _, .cons _ r => congrArg (· + 1) (Reps.length r)
theorem RepK.length : ∀ {vs : List (Key × V)} {ds : List (D × D)}, RepK G B vs ds → vs.length = ds.length
  | _, _, .nil => rfl
  | _, _, .cons _ r => congrArg (· + 1) (RepK.length r)
theorem RepX.length : ∀ {vs : List (NestedKey × Addr × V)} {ds : List (D × D)}, RepX G B vs ds → vs.length = ds.length
  | _, _, .nil => rfl
  | _, _, .cons _ _ _ _ r => congrArg (· + 1) (RepX.length r)
theorem Reps.get : ∀ {vs : List V} {ds : List D} {i : Nat} {d : D}, Reps G B vs ds → ds[i]? = some d → ∃ v, vs[i]? = some v ∧ Rep G B v d
  | _, _, _, _, .nil, e => by simp at e
  | _, _, 0, _, .cons r _, e => by simp at e; subst e; exact ⟨_, rfl, r⟩
  | _, _, i + 1, d, .cons _ t, e => by
    obtain ⟨u, h1, h2⟩ := Reps.get (i := i) (d := d) t (by simpa using e)
    exact ⟨u, by simpa using h1, h2⟩
theorem Reps.getV : ∀ {vs : List V} {ds : List D} {i : Nat} {v : V}, Reps G B vs ds → vs[i]? = some v → ∃ d, ds[i]? = some d ∧ Rep G B v d
  | _, _, _, _, .nil, e => by simp at e
  | _, _, 0, _, .cons r _, e => by simp at e; subst e; exact ⟨_, rfl, r⟩
  | _, _, i + 1, v, .cons _ t, e => by
    obtain ⟨u, h1, h2⟩ := Reps.getV (i := i) (v := v) t (by simpa using e)
    exact ⟨u, by simpa using h1, h2⟩
theorem Reps.app : ∀ {vs us : List V} {ds es : List D}, Reps G B vs ds → Reps G B us es → Reps G B (vs ++ us) (ds ++ es)
  | _, _, _, _, .nil, s => s
  | _, _, _, _, .cons r t, s => .cons r (Reps.app t s)
theorem Reps.one {v : V} {d : D} (h : Rep G B v d) : Reps G B [v] [d] := .cons h .nil
theorem Reps.set : ∀ {vs : List V} {ds : List D} {v : V} {d : D} (i : Nat), Reps G B vs ds → Rep G B v d → Reps G B (vs.set i v) (ds.set i d)
  | _, _, _, _, _, .nil, _ => .nil
  | _, _, _, _, 0, .cons _ t, h => .cons h t
  | _, _, _, _, i + 1, .cons r t, h => .cons r (Reps.set i t h)
theorem Reps.take : ∀ {vs : List V} {ds : List D} (n : Nat), Reps G B vs ds → Reps G B (vs.take n) (ds.take n)
  | _, _, 0, _ => .nil
  | _, _, _ + 1, .nil => .nil
  | _, _, n + 1, .cons r t => .cons r (Reps.take n t)
theorem Reps.drop : ∀ {vs : List V} {ds : List D} (n : Nat), Reps G B vs ds → Reps G B (vs.drop n) (ds.drop n)
  | _, _, 0, r => r
  | _, _, _ + 1, .nil => .nil
  | _, _, n + 1, .cons _ t => Reps.drop n t
theorem Reps.rev : ∀ {vs : List V} {ds : List D}, Reps G B vs ds → Reps G B vs.reverse ds.reverse
  | _, _, .nil => .nil
  | _, _, .cons r t => by
    rw [List.reverse_cons, List.reverse_cons]
    exact Reps.app (Reps.rev t) (.cons r .nil)
theorem Reps.ints : ∀ (ns : List Int), Reps G B (ns.map V.int) (ns.map D.int)
  | [] => .nil
  | n :: ns => .cons (.int n) (Reps.ints ns)
end

/-! ### the state -/
/-- what the drawing of numbers keeps: the dict at a, its two lists -/
def TokOk (H : Hp) (a l c : Addr) : Prop := ∃ (ls cs : List Int) (r t : Int), 0 ≤ r ∧ 0 ≤ t ∧ (∀ x ∈ ls, 0 ≤ x) ∧ (∀ x ∈ cs, 0 ≤ x) ∧
  H a = some (.dK [(.inr "large", .ref l), (.inr "rest", .int r), (.inr "cells", .ref c), (.inr "turn", .int t)]) ∧ H l = some (.lst (ls.map V.int)) ∧ H c = some (.lst (cs.map V.int)) ∧ a ≠ l ∧ a ≠ c ∧ l ≠ c
def EntOk (G : Gh) (H : Hp) (w : Addr → Option Nat) (σ : L2.St) (env : Env) (i : Nat) (v : Option V) : S → Prop
  | .no => True
  | .sh d => ∃ x, v = some x ∧ Rep G (hide H w) x d
  | .ow d => ∃ a o, v = some (.ref a) ∧ w a = some i ∧ H a = some o ∧ Mut (some o) ∧ OwnO G a (hide H w) o d
  | .tok => ∃ a l c, v = some (.ref a) ∧ w a = some i ∧ w l = some i ∧ w c = some i ∧ TokOk H a l c
  | .bo j => ∃ x, v = some x ∧ σ[j]? = some (some x) ∧ ∃ s, env[j]? = some s ∧ ((∃ d, s = .ow d) ∨ s = .tok ∨ ∃ d, s = .sh d)
/-- a frame: the heap at its entry, what it may write of that, what is another's and hidden -/
structure Fr where
  H0 : Hp
  R : Addr → Prop
  Fg : Addr → Prop
/-- what was there at the entry stands; a dict may be locked meanwhile -/
def Kp (F : Fr) (H : Hp) : Prop := ∀ a o, ¬ F.R a → NTbl o → F.H0 a = some o → H a = some o ∨ (¬ F.Fg a ∧ IsDic o ∧ ∃ o', H a = some (.frz o' o))
theorem Kp.step {F : Fr} {H H' : Hp} (h : Kp F H) (k : ∀ a o, ¬ F.R a → F.H0 a ≠ none → NTbl o → H a = some o → H' a = some o) : Kp F H' := fun a o r n e => by
  have e0 : F.H0 a ≠ none := by rw [e]; exact fun z => nomatch z
  rcases h a o r n e with q | ⟨f, d, o', q⟩
  · exact .inl (k a o r e0 n q)
  · exact .inr ⟨f, d, o', k a _ r e0 nt_frz q⟩
structure RelW (G : Gh) (F : Fr) (w : Addr → Option Nat) (σ : L2.St) (H : Hp) (env : Env) (ts : List (V × S)) : Prop where
  len : env.length = σ.length
  ent : ∀ (i : Nat) (s : S), env[i]? = some s → (∀ j, s ≠ .bo j) ∧ EntOk G H w σ env (i + 1) (σ[i]?.getD none) s
  tmp : ∀ (j : Nat) (x : V) (s : S), ts[j]? = some (x, s) → EntOk G H w σ env (env.length + j + 1) (some x) s
  own : ∀ a i, w a = some (i + 1) → (F.R a ∨ F.H0 a = none) ∧ H a ≠ none
  fgn : ∀ a, F.Fg a ↔ w a = some 0
  fgh : ∀ a, F.Fg a → H a ≠ none
  keep : Kp F H
  there : ∀ a, F.H0 a ≠ none → H a ≠ none
  tabs : LamX.Tabs G.T H
def Rel (G : Gh) (F : Fr) (σ : L2.St) (H : Hp) (env : Env) (ts : List (V × S)) : Prop := ∃ w, RelW G F w σ H env ts
end T

/-! TRel: the moves of the state relation. -/
namespace T
open PySem PySem.Spec PyProof.Rows L2

def rd (env : Env) : S → Option D
  | .sh d => some d
  | .ow d => some d
  | .bo j => match env[j]? with
    | some (.sh d) => some d
    | some (.ow d) => some d
    | _ => none
  | _ => none
def rds (env : Env) : List S → Option (List D)
  | [] => some []
  | s :: r => match rd env s, rds env r with
    | some d, some ds => some (d :: ds)
    | _, _ => none
/-- a value given away: its tree is shared from now on -/
def esc (env : Env) : S → Option (D × Env)
  | .sh d => some (d, env)
  | .ow d => some (d, env)
  | .bo j => match env[j]? with
    | some (.sh d) => some (d, env)
    | some (.ow d) => some (d, env.set j (.sh d))
    | _ => none
  | _ => none
def escs (env : Env) : List S → Option (List D × Env)
  | [] => some ([], env)
  | s :: r => match esc env s with
    | some (d, e1) => match escs e1 r with
      | some (ds, e2) => some (d :: ds, e2)
      | none => none
    | none => none

/-- what an operation hands out: something that was there, or something new -/
def Out (G : Gh) (H B : Hp) (s : S) (v : V) (H' : Hp) : Prop := Ext H H' ∧
  ((∃ d, s = .sh d ∧ Rep G B v d) ∨ ∃ p o d, v = .ref p ∧ H p = none ∧ H' p = some o ∧ OwnO G p B o d ∧ (s = .sh d ∨ (s = .ow d ∧ Mut (some o))))
theorem Out.val {G : Gh} {H B : Hp} {v : V} {d : D} (h : Rep G B v d) : Out G H B (.sh d) v H := ⟨Ext.refl H, .inl ⟨d, rfl, h⟩⟩
theorem Out.newSh {G : Gh} {H B : Hp} {p : Addr} {o : HO} {d : D} (hp : H p = none) (h : OwnO G p B o d) : Out G H B (.sh d) (.ref p) (upd H p o) :=
  ⟨Ext.new hp, .inr ⟨p, o, d, rfl, hp, upd_same, h, .inl rfl⟩⟩
theorem Out.newOw {G : Gh} {H B : Hp} {p : Addr} {o : HO} {d : D} (hp : H p = none) (h : OwnO G p B o d) (m : Mut (some o)) : Out G H B (.ow d) (.ref p) (upd H p o) :=
  ⟨Ext.new hp, .inr ⟨p, o, d, rfl, hp, upd_same, h, .inr ⟨rfl, m⟩⟩⟩

section
variable {G : Gh} {F : Fr} {w w' : Addr → Option Nat} {σ : L2.St} {H H' : Hp} {env : Env} {ts us : List (V × S)}

theorem EntOk.mono {i : Nat} {v : Option V} {s : S} (h : EntOk G H w σ env i v s) (hle : Le (hide H w) (hide H' w')) (hw : ∀ a, w a = some i → w' a = some i ∧ ∀ o, H a = some o → H' a = some o) : EntOk G H' w' σ env i v s := by
  cases s with
  | no => exact True.intro
  | sh d =>
    obtain ⟨x, e, r⟩ := h
    exact ⟨x, e, Rep.le hle r⟩
  | ow d =>
    obtain ⟨a, o, e, h1, h2, h3, h4⟩ := h
    exact ⟨a, o, e, (hw a h1).1, (hw a h1).2 o h2, h3, h4.le hle⟩
  | tok =>
    obtain ⟨a, l, c, e, h1, h2, h3, ls, cs, r, t, p0, p1, p2, p3, q1, q2, q3, n⟩ := h
    exact ⟨a, l, c, e, (hw a h1).1, (hw l h2).1, (hw c h3).1, ls, cs, r, t, p0, p1, p2, p3, (hw a h1).2 _ q1, (hw l h2).2 _ q2, (hw c h3).2 _ q3, n⟩
  | bo j => exact h
/-- the slots may be told otherwise where nothing is borrowed -/
theorem EntOk.slots {i : Nat} {v : Option V} {s : S} {σ' : L2.St} {env' : Env} (h : EntOk G H w σ env i v s) (hb : ∀ j x s', s = .bo j → σ[j]? = some (some x) → env[j]? = some s' → ((∃ d, s' = .ow d) ∨ s' = .tok ∨ ∃ d, s' = .sh d) →
    σ'[j]? = some (some x) ∧ ∃ s, env'[j]? = some s ∧ ((∃ d, s = .ow d) ∨ s = .tok ∨ ∃ d, s = .sh d)) : EntOk G H w σ' env' i v s := by
  cases s with
  | bo j =>
    obtain ⟨x, e, h1, s', h2, h3⟩ := h
    obtain ⟨q1, q2⟩ := hb j x s' rfl h1 h2 h3
    exact ⟨x, e, q1, q2⟩
  | no => exact h
  | sh d => exact h
  | ow d => exact h
  | tok => exact h

theorem fg_if {P : Prop} {x : Option Nat} {k : Nat} (h : P ↔ x = some 0) : P ↔ (if x = some (k + 1) then none else x) = some 0 := by
  refine h.trans ⟨fun e => by rw [e, if_neg (by simp)], fun e => ?_⟩
  split at e
  · cases e
  · exact e
theorem fg_if2 {P : Prop} {x : Option Nat} {k m : Nat} (h : P ↔ x = some 0) : P ↔ (if x = some (k + 1) then none else if x = some (m + 1) then some (k + 1) else x) = some 0 := by
  refine h.trans ⟨fun e => by rw [e, if_neg (by simp), if_neg (by simp)], fun e => ?_⟩
  split at e
  · cases e
  · split at e
    · cases e
    · exact e
theorem RelW.wfree (h : RelW G F w σ H env ts) {p : Addr} (hp : H p = none) : w p = none := by
  cases q : w p with
  | none => rfl
  | some i => cases i with
    | zero => exact absurd hp (h.fgh p ((h.fgn p).mpr q))
    | succ i => exact absurd hp (h.own p i q).2
theorem RelW.h0free (h : RelW G F w σ H env ts) {p : Addr} (hp : H p = none) : F.H0 p = none := by
  cases q : F.H0 p with
  | none => rfl
  | some o => exact absurd hp (h.there p (by rw [q]; exact fun z => nomatch z))
theorem Tabs.le {T : List (Addr × Str)} (h : LamX.Tabs T H) (e : Ext H H') : LamX.Tabs T H' := h.ext e
/-- more is tracked -/
theorem RelW.ext (h : RelW G F w σ H env ts) (e : Ext H H') : RelW G F w σ H' env ts := by
  have hle : Le (hide H w) (hide H' w) := hide_mono fun a o q _ r => ⟨q, e a o r⟩
  have nn : ∀ a, H a ≠ none → H' a ≠ none := fun a n z => by
    cases q : H a with
    | none => exact n q
    | some o => rw [e a o q] at z; cases z
  exact ⟨h.len, fun i s q => ⟨(h.ent i s q).1, (h.ent i s q).2.mono hle fun a r => ⟨r, fun o z => e a o z⟩⟩, fun j x s q => (h.tmp j x s q).mono hle fun a r => ⟨r, fun o z => e a o z⟩,
    fun a i q => ⟨(h.own a i q).1, nn a (h.own a i q).2⟩, h.fgn, fun a q => nn a (h.fgh a q), h.keep.step fun a o _ _ _ q => e a o q, fun a q => nn a (h.there a q), Tabs.le h.tabs e⟩
theorem RelW.drop (h : RelW G F w σ H env (ts ++ us)) : RelW G F w σ H env ts :=
  ⟨h.len, h.ent, fun j x s q => h.tmp j x s (by
    rw [List.getElem?_append_left (List.getElem?_eq_some_iff.mp q).1]
    exact q), h.own, h.fgn, h.fgh, h.keep, h.there, h.tabs⟩
/-- what stands there, shared -/
theorem RelW.pushSh (h : RelW G F w σ H env ts) {v : V} {d : D} (r : Rep G (hide H w) v d) : RelW G F w σ H env (ts ++ [(v, .sh d)]) :=
  ⟨h.len, h.ent, fun j x s q => (by
    by_cases hj : j < ts.length
    · rw [List.getElem?_append_left hj] at q
      exact h.tmp j x s q
    · rw [List.getElem?_append_right (Nat.le_of_not_lt hj)] at q
      cases e : j - ts.length with
      | zero =>
        rw [e] at q
        cases q
        exact ⟨v, rfl, r⟩
      | succ n =>
        rw [e] at q
        exact nomatch q), h.own, h.fgn, h.fgh, h.keep, h.there, h.tabs⟩
/-- an entry at the end -/
theorem RelW.push (h : RelW G F w σ H env ts) {v : V} {s : S} (r : EntOk G H w σ env (env.length + ts.length + 1) (some v) s) : RelW G F w σ H env (ts ++ [(v, s)]) :=
  ⟨h.len, h.ent, fun j x s' q => (by
    by_cases hj : j < ts.length
    · rw [List.getElem?_append_left hj] at q
      exact h.tmp j x s' q
    · rw [List.getElem?_append_right (Nat.le_of_not_lt hj)] at q
      cases e : j - ts.length with
      | zero =>
        rw [e] at q
        cases q
        rw [show j = ts.length by omega]
        exact r
      | succ n =>
        rw [e] at q
        exact nomatch q), h.own, h.fgn, h.fgh, h.keep, h.there, h.tabs⟩
theorem RelW.pushOut (h : RelW G F w σ H env ts) {v : V} {s : S} (o : Out G H (hide H w) s v H') : ∃ w', RelW G F w' σ H' env (ts ++ [(v, s)]) ∧ Le (hide H w) (hide H' w') := by
  obtain ⟨e, ⟨d, rfl, r⟩ | ⟨p, ob, d, rfl, hp, hp', r, rfl | ⟨rfl, m⟩⟩⟩ := o
  · have hle : Le (hide H w) (hide H' w) := hide_mono fun a o q _ r => ⟨q, e a o r⟩
    exact ⟨w, (h.ext e).pushSh (Rep.le hle r), hle⟩
  · have hle : Le (hide H w) (hide H' w) := hide_mono fun a o q _ r => ⟨q, e a o r⟩
    exact ⟨w, (h.ext e).pushSh ((r.le hle).rep (by rw [hide_of (h.wfree hp)]; exact hp')), hle⟩
  · have hwp := h.wfree hp
    have hle : Le (hide H w) (hide H' fun a => if a = p then some (env.length + ts.length + 1) else w a) := hide_mono fun a o q _ r => ⟨by
      rw [if_neg (ne_of_none r hp)]
      exact q, e a o r⟩
    have h1 := h.ext e
    have keepw : ∀ i a, w a = some i → (if a = p then some (env.length + ts.length + 1) else w a) = some i ∧ ∀ o, H a = some o → H' a = some o := fun i a q => ⟨by
      rw [if_neg (fun z => by rw [z, hwp] at q; cases q)]
      exact q, fun o r => e a o r⟩
    refine ⟨fun a => if a = p then some (env.length + ts.length + 1) else w a, RelW.push (ts := ts) ⟨h1.len, fun i s q => ⟨(h.ent i s q).1, (h.ent i s q).2.mono hle fun a r => keepw _ a r⟩, fun j x s q => (h.tmp j x s q).mono hle fun a r => keepw _ a r, fun a i q => ?_, fun a => ?_, h1.fgh, h1.keep, h1.there, h1.tabs⟩ ?_, hle⟩
    · by_cases ha : a = p
      · subst ha
        exact ⟨.inr (h.h0free hp), by rw [hp']; exact fun z => nomatch z⟩
      · rw [if_neg ha] at q
        exact h1.own a i q
    · by_cases ha : a = p
      · subst ha
        rw [if_pos rfl]
        exact ⟨fun z => absurd hp (h.fgh a z), fun z => nomatch z⟩
      · rw [if_neg ha]
        exact h.fgn a
    · exact ⟨p, ob, rfl, if_pos rfl, hp', m, r.le hle⟩

theorem EntOk.read {i : Nat} {x : V} {s : S} {d : D} (h : EntOk G H w σ env i (some x) s) (he : ∀ (i : Nat) (s : S), env[i]? = some s → EntOk G H w σ env (i + 1) (σ[i]?.getD none) s) (q : rd env s = some d) : BRep G H (hide H w) x d := by
  cases s with
  | no => cases q
  | tok => cases q
  | sh d' =>
    cases q
    obtain ⟨x', e, r⟩ := h
    cases e
    exact r.brep hide_le
  | ow d' =>
    cases q
    obtain ⟨a, o, e, _, h2, h3, h4⟩ := h
    cases e
    exact h4.brep h3 h2
  | bo j =>
    obtain ⟨x', e, h1, s', h2, h3⟩ := h
    cases e
    have hj := he j s' h2
    rw [h1] at hj
    simp only [rd, h2] at q
    cases s' with
    | no => cases q
    | tok => cases q
    | bo k => cases q
    | sh d' =>
      cases q
      obtain ⟨x', e, r⟩ := hj
      cases e
      exact r.brep hide_le
    | ow d' =>
      cases q
      obtain ⟨a, o, e, _, h2, h5, h4⟩ := hj
      cases e
      exact h4.brep h5 h2
theorem RelW.read (h : RelW G F w σ H env ts) {j : Nat} {x : V} {s : S} {d : D} (hj : ts[j]? = some (x, s)) (q : rd env s = some d) : BRep G H (hide H w) x d :=
  (h.tmp j x s hj).read (fun i s q => (h.ent i s q).2) q
inductive BReps (G : Gh) (H B : Hp) : List V → List D → Prop
  | nil : BReps G H B [] []
  | cons {v : V} {vs : List V} {d : D} {ds : List D} : BRep G H B v d → BReps G H B vs ds → BReps G H B (v :: vs) (d :: ds)
theorem RelW.reads : ∀ {us : List (V × S)} {ts : List (V × S)} {ds : List D}, RelW G F w σ H env (ts ++ us) → rds env (us.map (·.2)) = some ds → BReps G H (hide H w) (us.map (·.1)) ds
  | [], _, ds, _, q => by
    cases q
    exact .nil
  | (x, s) :: us, ts, ds, h, q => by
    rw [List.map_cons] at q
    unfold rds at q
    cases e1 : rd env s with
    | none => rw [e1] at q; cases q
    | some d =>
      cases e2 : rds env (us.map (·.2)) with
      | none => rw [e1, e2] at q; cases q
      | some ds' =>
        rw [e1, e2] at q
        cases q
        refine .cons (h.read (j := ts.length) (by simp) e1) ?_
        have h' : RelW G F w σ H env ((ts ++ [(x, s)]) ++ us) := by rw [List.append_assoc]; exact h
        exact RelW.reads h' e2

/-- given away, the entry at j -/
theorem RelW.esc (h : RelW G F w σ H env ts) {j : Nat} {x : V} {s : S} {d : D} {env' : Env} (hj : ts[j]? = some (x, s)) (q : T.esc env s = some (d, env')) :
    ∃ w', RelW G F w' σ H env' (ts.set j (x, .sh d)) ∧ Le (hide H w) (hide H w') := by
  have hlt : j < ts.length := (List.getElem?_eq_some_iff.mp hj).1
  have hx := h.tmp j x s hj
  have setQ : ∀ {k : Nat} {y : V} {s' : S}, (ts.set j (x, .sh d))[k]? = some (y, s') → k = j ∧ y = x ∧ s' = .sh d ∨ k ≠ j ∧ ts[k]? = some (y, s') := fun {k y s'} e => by
    by_cases hk : k = j
    · subst hk
      rw [List.getElem?_set_self hlt] at e
      cases e
      exact .inl ⟨rfl, rfl, rfl⟩
    · rw [List.getElem?_set_ne (Ne.symm hk)] at e
      exact .inr ⟨hk, e⟩
  cases s with
  | no => cases q
  | tok => cases q
  | sh d' =>
    cases q
    refine ⟨w, ⟨h.len, h.ent, fun k y s' e => ?_, h.own, h.fgn, h.fgh, h.keep, h.there, h.tabs⟩, Le.refl _⟩
    rcases setQ e with ⟨rfl, rfl, rfl⟩ | ⟨_, e⟩
    · exact hx
    · exact h.tmp k y s' e
  | ow d' =>
    cases q
    obtain ⟨a, o, ea, h1, h2, h3, h4⟩ := hx
    cases ea
    have hle : Le (hide H w) (hide H fun b => if w b = some (env.length + j + 1) then none else w b) := hide_mono fun b o q _ r => ⟨by rw [if_neg (by rw [q]; exact fun z => nomatch z)]; exact q, r⟩
    have kw : ∀ i b, i ≠ env.length + j + 1 → w b = some i → (if w b = some (env.length + j + 1) then none else w b) = some i ∧ ∀ o, H b = some o → H b = some o := fun i b n q => ⟨by rw [if_neg (by rw [q]; exact fun z => n (Option.some.inj z))]; exact q, fun o r => r⟩
    refine ⟨fun b => if w b = some (env.length + j + 1) then none else w b, ⟨h.len, fun i s' e => ⟨(h.ent i s' e).1, (h.ent i s' e).2.mono hle fun b r => kw _ b (by have := (List.getElem?_eq_some_iff.mp e).1; omega) r⟩, fun k y s' e => ?_, fun b i e => ?_, fun b => fg_if (h.fgn b), h.fgh, h.keep, h.there, h.tabs⟩, hle⟩
    · rcases setQ e with ⟨rfl, rfl, rfl⟩ | ⟨nk, e⟩
      · exact ⟨_, rfl, (h4.le hle).rep (by rw [hide_of (if_pos h1)]; exact h2)⟩
      · exact (h.tmp k y s' e).mono hle fun b r => kw _ b (by omega) r
    · by_cases hb : w b = some (env.length + j + 1)
      · rw [if_pos hb] at e
        cases e
      · rw [if_neg hb] at e
        exact h.own b i e
  | bo k =>
    obtain ⟨x', ex, h1, s', h2, h3⟩ := hx
    cases ex
    have hk := h.ent k s' h2
    simp only [T.esc, h2] at q
    cases s' with
    | no => cases q
    | tok => cases q
    | bo m => cases q
    | sh d' =>
      cases q
      have hk2 := hk.2
      rw [h1] at hk2
      obtain ⟨x', ex, r⟩ := hk2
      cases ex
      refine ⟨w, ⟨h.len, h.ent, fun m y s' e => ?_, h.own, h.fgn, h.fgh, h.keep, h.there, h.tabs⟩, Le.refl _⟩
      rcases setQ e with ⟨rfl, rfl, rfl⟩ | ⟨_, e⟩
      · exact ⟨_, rfl, r⟩
      · exact h.tmp m y s' e
    | ow d' =>
      cases q
      have hk2 := hk.2
      rw [h1] at hk2
      obtain ⟨a, o, ea, g1, g2, g3, g4⟩ := hk2
      cases ea
      have hkl : k < env.length := (List.getElem?_eq_some_iff.mp h2).1
      have hle : Le (hide H w) (hide H fun b => if w b = some (k + 1) then none else w b) := hide_mono fun b o q _ r => ⟨by rw [if_neg (by rw [q]; exact fun z => nomatch z)]; exact q, r⟩
      have kw : ∀ i b, i ≠ k + 1 → w b = some i → (if w b = some (k + 1) then none else w b) = some i ∧ ∀ o, H b = some o → H b = some o := fun i b n q => ⟨by rw [if_neg (by rw [q]; exact fun z => n (Option.some.inj z))]; exact q, fun o r => r⟩
      have rep : Rep G (hide H fun b => if w b = some (k + 1) then none else w b) (.ref a) d := (g4.le hle).rep (by rw [hide_of (if_pos g1)]; exact g2)
      have sl : ∀ {i : Nat} {v : Option V} {s : S}, EntOk G H (fun b => if w b = some (k + 1) then none else w b) σ env i v s → EntOk G H (fun b => if w b = some (k + 1) then none else w b) σ (env.set k (.sh d)) i v s := fun {i v s} z => z.slots fun m y s' _ e1 e2 e3 => by
        refine ⟨e1, ?_⟩
        by_cases hm : m = k
        · subst hm
          exact ⟨.sh d, List.getElem?_set_self hkl, .inr (.inr ⟨d, rfl⟩)⟩
        · exact ⟨s', by rw [List.getElem?_set_ne (Ne.symm hm)]; exact e2, e3⟩
      refine ⟨fun b => if w b = some (k + 1) then none else w b, ⟨by rw [List.length_set]; exact h.len, fun i s' e => ?_, fun m y s' e => ?_, fun b i e => ?_, fun b => fg_if (h.fgn b), h.fgh, h.keep, h.there, h.tabs⟩, hle⟩
      · by_cases hi : i = k
        · subst hi
          rw [List.getElem?_set_self hkl] at e
          cases e
          refine ⟨(fun _ z => nomatch z), .ref a, ?_, rep⟩
          rw [h1]
          rfl
        · rw [List.getElem?_set_ne (Ne.symm hi)] at e
          exact ⟨(h.ent i s' e).1, sl ((h.ent i s' e).2.mono hle fun b r => kw _ b (by omega) r)⟩
      · rw [List.length_set]
        rcases setQ e with ⟨rfl, rfl, rfl⟩ | ⟨_, e⟩
        · exact ⟨_, rfl, rep⟩
        · exact sl ((h.tmp m y s' e).mono hle fun b r => kw _ b (by omega) r)
      · by_cases hb : w b = some (k + 1)
        · rw [if_pos hb] at e
          cases e
        · rw [if_neg hb] at e
          exact h.own b i e
theorem esc_len {env env' : Env} {s : S} {d : D} (h : T.esc env s = some (d, env')) : env'.length = env.length := by
  unfold T.esc at h
  split at h
  · cases h; rfl
  · cases h; rfl
  · split at h
    · cases h; rfl
    · cases h; exact List.length_set
    · cases h
  · cases h
theorem RelW.escs : ∀ {us : List (V × S)} {w : Addr → Option Nat} {env env' : Env} {ts : List (V × S)} {ds : List D}, RelW G F w σ H env (ts ++ us) → T.escs env (us.map (·.2)) = some (ds, env') →
    ∃ w', RelW G F w' σ H env' (ts ++ (us.map (·.1)).zip (ds.map S.sh)) ∧ Le (hide H w) (hide H w') ∧ Reps G (hide H w') (us.map (·.1)) ds
  | [], w, env, env', ts, ds, h, q => by
    cases q
    exact ⟨w, h, Le.refl _, .nil⟩
  | (x, s) :: us, w, env, env', ts, ds, h, q => by
    rw [List.map_cons] at q
    unfold T.escs at q
    cases e1 : T.esc env s with
    | none => rw [e1] at q; cases q
    | some p =>
      obtain ⟨d, e⟩ := p
      rw [e1] at q
      dsimp only at q
      cases e2 : T.escs e (us.map (·.2)) with
      | none => rw [e2] at q; cases q
      | some p2 =>
        obtain ⟨ds', e'⟩ := p2
        rw [e2] at q
        cases q
        obtain ⟨w1, r1, l1⟩ := h.esc (j := ts.length) (x := x) (s := s) (by simp) e1
        have r1' : RelW G F w1 σ H e ((ts ++ [(x, .sh d)]) ++ us) := by
          rw [List.set_append_right _ _ (Nat.le_refl _), Nat.sub_self] at r1
          rw [List.append_assoc]
          exact r1
        obtain ⟨w2, r2, l2, q2⟩ := RelW.escs r1' e2
        refine ⟨w2, ?_, l1.trans l2, .cons ?_ q2⟩
        · rw [List.append_assoc] at r2
          exact r2
        · obtain ⟨x', ex, r⟩ := r2.tmp ts.length x (.sh d) (by simp)
          cases ex
          exact r

/-- the last entry goes to slot i -/
theorem RelW.store (h : RelW G F w σ H env (ts ++ [(x, s)])) {i : Nat} (hi : i < σ.length) (hb : ∀ t ∈ ts, t.2 ≠ .bo i) (hs : ∀ j, s ≠ .bo j) :
    ∃ w', RelW G F w' (σ.set i (some x)) H (env.set i s) ts ∧ Le (hide H w) (hide H w') := by
  have hil : i < env.length := by rw [h.len]; exact hi
  have hx := h.tmp ts.length x s (by simp)
  have hle : Le (hide H w) (hide H fun b => if w b = some (i + 1) then none else if w b = some (env.length + ts.length + 1) then some (i + 1) else w b) := hide_mono fun b o q _ r => ⟨by
    rw [if_neg (by rw [q]; exact fun z => nomatch z), if_neg (by rw [q]; exact fun z => nomatch z)]
    exact q, r⟩
  have kw : ∀ k b, k ≠ i + 1 → k ≠ env.length + ts.length + 1 → w b = some k → (if w b = some (i + 1) then none else if w b = some (env.length + ts.length + 1) then some (i + 1) else w b) = some k ∧ ∀ o, H b = some o → H b = some o := fun k b n1 n2 q => ⟨by
    rw [if_neg (by rw [q]; exact fun z => n1 (Option.some.inj z)), if_neg (by rw [q]; exact fun z => n2 (Option.some.inj z))]
    exact q, fun o r => r⟩
  have kx : ∀ b, w b = some (env.length + ts.length + 1) → (if w b = some (i + 1) then none else if w b = some (env.length + ts.length + 1) then some (i + 1) else w b) = some (i + 1) := fun b q => by
    rw [if_neg (by rw [q]; exact fun z => by have := Option.some.inj z; omega), if_pos q]
  have sl : ∀ {k : Nat} {v : Option V} {s' : S}, s' ≠ .bo i → EntOk G H (fun b => if w b = some (i + 1) then none else if w b = some (env.length + ts.length + 1) then some (i + 1) else w b) σ env k v s' → EntOk G H (fun b => if w b = some (i + 1) then none else if w b = some (env.length + ts.length + 1) then some (i + 1) else w b) (σ.set i (some x)) (env.set i s) k v s' := fun {k v s'} n z => z.slots fun m y s2 e0 e1 e2 e3 => by
    have hm : m ≠ i := fun z => n (by rw [e0, z])
    exact ⟨by rw [List.getElem?_set_ne (Ne.symm hm)]; exact e1, s2, by rw [List.getElem?_set_ne (Ne.symm hm)]; exact e2, e3⟩
  refine ⟨fun b => if w b = some (i + 1) then none else if w b = some (env.length + ts.length + 1) then some (i + 1) else w b, ⟨by rw [List.length_set, List.length_set]; exact h.len, fun k s' e => ?_, fun j y s' e => ?_, fun b k e => ?_, fun b => fg_if2 (h.fgn b), h.fgh, h.keep, h.there, h.tabs⟩, hle⟩
  · by_cases hk : k = i
    · subst hk
      rw [List.getElem?_set_self hil] at e
      cases e
      refine ⟨hs, ?_⟩
      rw [List.getElem?_set_self hi]
      show EntOk _ _ _ _ _ _ (some x) _
      cases s with
      | no => exact True.intro
      | bo j => exact absurd rfl (hs j)
      | sh d =>
        obtain ⟨x', ex, r⟩ := hx
        exact ⟨x', ex, Rep.le hle r⟩
      | ow d =>
        obtain ⟨a, o, ea, h1, h2, h3, h4⟩ := hx
        exact ⟨a, o, ea, kx a h1, h2, h3, h4.le hle⟩
      | tok =>
        obtain ⟨a, l, c, ea, h1, h2, h3, h4⟩ := hx
        exact ⟨a, l, c, ea, kx a h1, kx l h2, kx c h3, h4⟩
    · rw [List.getElem?_set_ne (Ne.symm hk)] at e
      have hkl : k < env.length := (List.getElem?_eq_some_iff.mp e).1
      refine ⟨(h.ent k s' e).1, ?_⟩
      rw [List.getElem?_set_ne (Ne.symm hk)]
      exact sl ((h.ent k s' e).1 i) ((h.ent k s' e).2.mono hle fun b r => kw _ b (by omega) (by omega) r)
  · have hj : j < ts.length := (List.getElem?_eq_some_iff.mp e).1
    rw [List.length_set]
    refine sl (hb _ (List.mem_of_getElem? e)) ((h.tmp j y s' (by rw [List.getElem?_append_left hj]; exact e)).mono hle fun b r => kw _ b (by omega) (by omega) r)
  · by_cases h1 : w b = some (i + 1)
    · rw [if_pos h1] at e
      cases e
    · rw [if_neg h1] at e
      by_cases h2 : w b = some (env.length + ts.length + 1)
      · exact h.own b _ h2
      · rw [if_neg h2] at e
        exact h.own b k e
/-- a slot is forgotten -/
theorem RelW.forget (h : RelW G F w σ H env ts) {i : Nat} {v : Option V} (hb : ∀ t ∈ ts, t.2 ≠ .bo i) : RelW G F w (σ.set i v) H (env.set i .no) ts := by
  have sl : ∀ {k : Nat} {u : Option V} {s' : S}, s' ≠ .bo i → EntOk G H w σ env k u s' → EntOk G H w (σ.set i v) (env.set i .no) k u s' := fun {k u s'} n z => z.slots fun m y s2 e0 e1 e2 e3 => by
    have hm : m ≠ i := fun z => n (by rw [e0, z])
    exact ⟨by rw [List.getElem?_set_ne (Ne.symm hm)]; exact e1, s2, by rw [List.getElem?_set_ne (Ne.symm hm)]; exact e2, e3⟩
  refine ⟨by rw [List.length_set, List.length_set]; exact h.len, fun k s' e => ?_, fun j y s' e => ?_, h.own, h.fgn, h.fgh, h.keep, h.there, h.tabs⟩
  · by_cases hk : k = i
    · subst hk
      have hkl : k < env.length := by
        have := (List.getElem?_eq_some_iff.mp e).1
        rwa [List.length_set] at this
      rw [List.getElem?_set_self hkl] at e
      cases e
      exact ⟨(fun _ z => nomatch z), True.intro⟩
    · rw [List.getElem?_set_ne (Ne.symm hk)] at e
      rw [List.getElem?_set_ne (Ne.symm hk)]
      exact ⟨(h.ent k s' e).1, sl ((h.ent k s' e).1 i) (h.ent k s' e).2⟩
  · rw [List.length_set]
    exact sl (hb _ (List.mem_of_getElem? e)) (h.tmp j y s' e)
theorem RelW.owned (h : RelW G F w σ H env ts) {i : Nat} {d : D} (e : env[i]? = some (.ow d)) : ∃ a o, σ[i]? = some (some (.ref a)) ∧ w a = some (i + 1) ∧ H a = some o ∧ Mut (some o) ∧ OwnO G a (hide H w) o d := by
  obtain ⟨a, o, ea, h1⟩ := (h.ent i _ e).2
  refine ⟨a, o, ?_, h1⟩
  cases q : σ[i]? with
  | none => rw [q] at ea; cases ea
  | some z =>
    rw [q] at ea
    have ea' : z = some (.ref a) := ea
    rw [ea']
theorem heap_with (ob : Obj) (hf : ob.isFreed = false) : ∀ a : Nat, ∃ h : Heap, h.get? a = some ob := by
  have mk : ∀ a : Nat, ∃ h : Heap, h.objs.size = a := by
    intro a
    induction a with
    | zero => exact ⟨{}, rfl⟩
    | succ n ih =>
      obtain ⟨h, e⟩ := ih
      exact ⟨h.push ob, by rw [Heap.size_push, e]⟩
  intro a
  obtain ⟨h, e⟩ := mk a
  exact ⟨h.push ob, by rw [← e]; exact Heap.get?_push_size h hf⟩
theorem exO_code {a : Addr} {ob : Obj} {es : Array DictEntry} {ep : Nat} {q : Str} (h : ob.data = .dict es ep) : exO a ob ≠ LamX.CodeO a q := fun z => by
  obtain ⟨g, e⟩ := heap_with ob (Obj.isFreed_of_dict h) a
  unfold exO LamX.CodeO at z
  have z1 := HO.ext.inj z
  have z2 := congrFun z1 g
  have z3 : ∃ (oc : Obj) (vs : Array Value) (t : Tok), g.get? a = some oc ∧ oc.data = .fields vs ∧ vs[1]? = some (.str q t) := by
    rw [← z2]
    exact e
  obtain ⟨oc, vs, t, e1, e2, _⟩ := z3
  rw [e] at e1
  cases e1
  rw [h] at e2
  cases e2
theorem OwnO.ncode {o : HO} {d : D} {a : Addr} {B : Hp} (h : OwnO G a B o d) (q : Str) : o ≠ LamX.CodeO a q := by
  cases h with
  | tup h r => exact fun z => by cases z
  | lst r => exact fun z => by cases z
  | dK r => exact fun z => by cases z
  | dX x r =>
    obtain ⟨es, ep, xs, hd, _⟩ := x.es
    exact exO_code hd
theorem tabs_upd {T : List (Addr × Str)} {a : Addr} {o o' : HO} (h : LamX.Tabs T H) (e : H a = some o) (n1 : NTbl o) (n2 : ∀ q, o ≠ LamX.CodeO a q) : LamX.Tabs T (upd H a o') := fun p hp => by
  obtain ⟨ps, h1, h2, h3⟩ := h p hp
  refine ⟨ps, by rw [upd_ne (fun z => by rw [z, e] at h1; cases h1; exact n1 ps rfl)]; exact h1, h2, fun pos cv hc => ?_⟩
  obtain ⟨c, e1, e2⟩ := h3 pos cv hc
  refine ⟨c, e1, by rw [upd_ne (fun z => by rw [z, e] at e2; exact n2 _ (Option.some.inj e2))]; exact e2⟩
/-- what slot i owns is written -/
theorem RelW.mut (h : RelW G F w σ H env ts) {i : Nat} {a : Addr} {o o' : HO} {d d' : D} (e : env[i]? = some (.ow d)) (hσ : σ[i]? = some (some (.ref a))) (hw : w a = some (i + 1)) (ha : H a = some o) (ho : OwnO G a (hide H w) o d) (hm : Mut (some o')) (ho' : OwnO G a (hide H w) o' d') :
    RelW G F w σ (upd H a o') (env.set i (.ow d')) ts := by
  have hil : i < env.length := (List.getElem?_eq_some_iff.mp e).1
  have eh : hide (upd H a o') w = hide H w := by
    funext b
    unfold hide
    cases q : w b with
    | none => exact upd_ne (fun z => by rw [z, hw] at q; cases q)
    | some k => rfl
  have hle : Le (hide H w) (hide (upd H a o') w) := by rw [eh]; exact Le.refl _
  have sl : ∀ {k : Nat} {v : Option V} {s' : S}, k ≠ i + 1 → EntOk G H w σ env k v s' → EntOk G (upd H a o') w σ (env.set i (.ow d')) k v s' := fun {k v s'} n z => (z.mono hle fun b r => ⟨r, fun u q => by
    rw [upd_ne (fun z => by rw [z, hw] at r; exact n (Option.some.inj r).symm)]
    exact q⟩).slots fun m y s2 _ e1 e2 e3 => by
      refine ⟨e1, ?_⟩
      by_cases hmi : m = i
      · subst hmi
        exact ⟨.ow d', List.getElem?_set_self hil, .inl ⟨d', rfl⟩⟩
      · exact ⟨s2, by rw [List.getElem?_set_ne (Ne.symm hmi)]; exact e2, e3⟩
  have nn : ∀ b, H b ≠ none → upd H a o' b ≠ none := fun b n => by
    by_cases hb : b = a
    · rw [hb, upd_same]
      exact fun z => nomatch z
    · rw [upd_ne hb]
      exact n
  refine ⟨by rw [List.length_set]; exact h.len, fun k s' q => ?_, fun j y s' q => ?_, fun b k q => ⟨(h.own b k q).1, nn b (h.own b k q).2⟩, h.fgn, fun b q => nn b (h.fgh b q), h.keep.step fun b u r n0 n q => ?_, fun b q => nn b (h.there b q), tabs_upd h.tabs ha ho.ntbl fun q => ho.ncode q⟩
  · by_cases hk : k = i
    · subst hk
      rw [List.getElem?_set_self hil] at q
      cases q
      refine ⟨(fun _ z => nomatch z), a, o', ?_, hw, upd_same, hm, by rw [eh]; exact ho'⟩
      rw [hσ]
      rfl
    · rw [List.getElem?_set_ne (Ne.symm hk)] at q
      exact ⟨(h.ent k s' q).1, sl (by omega) (h.ent k s' q).2⟩
  · rw [List.length_set]
    exact sl (by omega) (h.tmp j y s' q)
  · have hb : b ≠ a := fun z => by
      rcases (h.own a i hw).1 with z1 | z1
      · exact r (z ▸ z1)
      · exact n0 (z ▸ z1)
    rw [upd_ne hb]
    exact q
end
end T

/-! TRule: what an expression denotes (Den), and the rules. -/
namespace T
open PySem PySem.Spec PyProof.Rows L2

abbrev Den := Env → Res S
section
variable {X : Cx}
theorem peImp {e : Expr} {t t' : TE} (h : PE X e t) (hi : ∀ σ H Q, t' σ H Q → t σ H Q) : PE X e t' := ⟨fun pins s σ H Q I q => h.run pins s σ H Q I (hi σ H Q q)⟩
theorem ptImp {e : Expr} {t t' : TT} (h : PT X e t) (hi : ∀ σ H Q, t' σ H Q → t σ H Q) : PT X e t' := ⟨fun pins s σ H Q I q => h.run pins s σ H Q I (hi σ H Q q)⟩
theorem pwImp {e : Expr} {t t' : TT} (h : PW X e t) (hi : ∀ σ H Q, t' σ H Q → t σ H Q) : PW X e t' := ⟨fun wh pins s σ H Q I q => h.run wh pins s σ H Q I (hi σ H Q q)⟩
theorem paImp {e : List Expr} {t t' : TA} (h : PA X e t) (hi : ∀ σ H Q, t' σ H Q → t σ H Q) : PA X e t' := ⟨fun pos pins s σ H Q I q => h.run pos pins s σ H Q I (hi σ H Q q)⟩
theorem psImp {e : Stmt} {t t' : TS} (h : PS X e t) (hi : ∀ D σ H, t' D σ H → t D σ H) : PS X e t' := ⟨fun pins s σ H D I q => h.run pins s σ H D I (hi D σ H q)⟩
theorem pssImp {e : List Stmt} {t t' : TS} (h : PSs X e t) (hi : ∀ D σ H, t' D σ H → t D σ H) : PSs X e t' := ⟨fun pins s σ H D I q => h.run pins s σ H D I (hi D σ H q)⟩
end

/-- the dict of an exception's own -/
def XD (x : Exn) (d : Option Addr) (H : Hp) : Prop := (x.fs = [] ∧ d = none) ∨ ∃ a, d = some a ∧ H a = some (.xd x.fs)
def XP (G : Gh) (F : Fr) (ts : List (V × S)) (W : WX) (σ : L2.St) (x : Exn) (e : Env) : Prop := ∀ d H', Rel G F σ H' e ts → XD x d H' → W (.ref (G.C x.cls)) d σ H'
theorem Rel.drop {G : Gh} {F : Fr} {σ : L2.St} {H : Hp} {e : Env} {ts us : List (V × S)} (h : Rel G F σ H e (ts ++ us)) : Rel G F σ H e ts := let ⟨w, h⟩ := h; ⟨w, h.drop⟩
theorem XP.drop {G : Gh} {F : Fr} {ts us : List (V × S)} {W : WX} {σ : L2.St} {x : Exn} {e : Env} (h : XP G F ts W σ x e) : XP G F (ts ++ us) W σ x e := fun d H' r q => h d H' r.drop q

def tD (G : Gh) (W : WX) (f : Den) : TE := fun σ H Q => ∃ F ts env, Rel G F σ H env ts ∧ (f env).wp (fun s e => ∀ v H', Rel G F σ H' e (ts ++ [(v, s)]) → Q v H') (XP G F ts W σ)
def tT (G : Gh) (W : WX) (f : Env → Res Bool) : TT := fun σ H Q => ∃ F ts env, Rel G F σ H env ts ∧ (f env).wp (fun b e => ∀ H', Rel G F σ H' e ts → Q b H') (XP G F ts W σ)
def tA (G : Gh) (W : WX) (f : Env → Res (List S)) : TA := fun σ H Q => ∃ F ts env, Rel G F σ H env ts ∧ (f env).wp (fun ss e => ∀ vs H', vs.length = ss.length → Rel G F σ H' e (ts ++ vs.zip ss) → Q vs H') (XP G F ts W σ)

/-! ### what denotes what -/
def dVar (i : Nat) : Den := fun env => match env[i]? with
  | some (.sh d) => .ok (.sh d) env
  | some (.ow _) => .ok (.bo i) env
  | some .tok => .ok (.bo i) env
  | _ => .bad
def dC (d : D) : Den := fun env => .ok (.sh d) env
def un1 (op : D → Option S) : Option D → Option S
  | some a => op a
  | _ => none
def bi2 (op : D → D → Option S) : Option D → Option D → Option S
  | some a, some b => op a b
  | _, _ => none
def d1 (op : D → Option S) (f : Den) : Den := fun env => (f env).bind fun s e => .get (un1 op (rd e s)) e
def d2 (op : D → D → Option S) (f g : Den) : Den := fun env => (f env).bind fun s e => (g e).bind fun s' e' => .get (bi2 op (rd e' s) (rd e' s')) e'
def dargs : List Den → Env → Res (List S)
  | [], e => .ok [] e
  | f :: r, e => (f e).bind fun s e1 => (dargs r e1).bind fun ss e2 => .ok (s :: ss) e2
def unL (op : List D → Option S) : Option (List D) → Option S
  | some a => op a
  | _ => none
def dN (op : List D → Option S) (fs : List Den) : Den := fun env => (dargs fs env).bind fun ss e => .get (unL op (rds e ss)) e
def mkSeq (c : List D → S) : Option (List D × Env) → Res S
  | some (ds, e) => if ds.length ≤ 16777216 then .ok (c ds) e else .bad
  | none => .bad
def dTup (fs : List Den) : Den := fun env => (dargs fs env).bind fun ss e => mkSeq (fun ds => .sh (.tup ds)) (escs e ss)
def dLst (fs : List Den) : Den := fun env => (dargs fs env).bind fun ss e => mkSeq (fun ds => .ow (.lst ds)) (escs e ss)

/-! ### what an operation asks and gives -/
def OpS (G : Gh) (r : R2) (op : D → D → Option S) : Prop := ∀ (H B : Hp) (x y : V) (a b : D) (s : S) (Q : VK), Le B H → BRep G H B x a → BRep G H B y b → op a b = some s → (∀ v H', Out G H B s v H' → Q v H') → r x y H Q
def UnS (G : Gh) (r : V → Hp → VK → Prop) (op : D → Option S) : Prop := ∀ (H B : Hp) (x : V) (a : D) (s : S) (Q : VK), Le B H → BRep G H B x a → op a = some s → (∀ v H', Out G H B s v H' → Q v H') → r x H Q
def CallS (G : Gh) (r : List V → Hp → VK → Prop) (op : List D → Option S) : Prop := ∀ (H B : Hp) (xs : List V) (as : List D) (s : S) (Q : VK), Le B H → BReps G H B xs as → op as = some s → (∀ v H', Out G H B s v H' → Q v H') → r xs H Q

section
variable {G : Gh} {F : Fr} {W : WX} {σ : L2.St} {H : Hp} {env : Env} {ts : List (V × S)} {X : Cx}
theorem tD.mk {f : Den} {Q : VK} (h : Rel G F σ H env ts) (q : (f env).wp (fun s e => ∀ v H', Rel G F σ H' e (ts ++ [(v, s)]) → Q v H') (XP G F ts W σ)) : tD G W f σ H Q := ⟨F, ts, env, h, q⟩
theorem tT.mk {f : Env → Res Bool} {Q : Bool → Hp → Prop} (h : Rel G F σ H env ts) (q : (f env).wp (fun s e => ∀ H', Rel G F σ H' e ts → Q s H') (XP G F ts W σ)) : tT G W f σ H Q := ⟨F, ts, env, h, q⟩
theorem tA.mk {f : Env → Res (List S)} {Q : List V → Hp → Prop} (h : Rel G F σ H env ts) (q : (f env).wp (fun ss e => ∀ vs H', vs.length = ss.length → Rel G F σ H' e (ts ++ vs.zip ss) → Q vs H') (XP G F ts W σ)) : tA G W f σ H Q := ⟨F, ts, env, h, q⟩
theorem Rel.out {B : Hp} {w : Addr → Option Nat} {s : S} {v : V} {H' : Hp} (h : RelW G F w σ H env ts) (o : Out G H (hide H w) s v H') : Rel G F σ H' env (ts ++ [(v, s)]) := let ⟨w', r, _⟩ := h.pushOut o; ⟨w', r⟩

/-! ### rules -/
theorem de_var {i : Nat} {x : Str} {pos : Pos} (hN : X.N[i]? = some x) (hv : Vis X.env.scope x) (hd : (x == ("__debug__" : Str)) = false := by decide) (hcd : (x == ("__classdict__" : Str)) = false := by decide) : PE X (.Name x pos) (tD G W (dVar i)) := by
  refine peImp (pe_var hN hv hd hcd) fun σ H Q ⟨F, ts, env, ⟨w, h⟩, q⟩ => ?_
  unfold dVar at q
  cases e : env[i]? with
  | none => rw [e] at q; exact q.elim
  | some s =>
    rw [e] at q
    have hs := h.ent i s e
    cases s with
    | no => exact q.elim
    | bo j => exact q.elim
    | sh d =>
      obtain ⟨x', ex, r⟩ := hs.2
      cases es : σ[i]? with
      | none => rw [es] at ex; cases ex
      | some o =>
        rw [es] at ex
        have ex' : o = some x' := ex
        subst ex'
        exact ⟨x', es, q x' H ⟨w, h.pushSh r⟩⟩
    | ow d =>
      obtain ⟨a, o, ex, h1⟩ := hs.2
      cases es : σ[i]? with
      | none => rw [es] at ex; cases ex
      | some o' =>
        rw [es] at ex
        have ex' : o' = some (.ref a) := ex
        subst ex'
        exact ⟨.ref a, es, q _ H ⟨w, h.push ⟨_, rfl, es, _, e, .inl ⟨d, rfl⟩⟩⟩⟩
    | tok =>
      obtain ⟨a, l, c, ex, h1⟩ := hs.2
      cases es : σ[i]? with
      | none => rw [es] at ex; cases ex
      | some o' =>
        rw [es] at ex
        have ex' : o' = some (.ref a) := ex
        subst ex'
        exact ⟨.ref a, es, q _ H ⟨w, h.push ⟨_, rfl, es, _, e, .inr (.inl rfl)⟩⟩⟩
/-- a constant, whatever it reads -/
theorem de_tC {e : Expr} {v : V} {d : D} (h : PE X e (tC v)) (r : ∀ B, Rep G B v d) : PE X e (tD G W (dC d)) := by
  refine peImp h fun σ H Q ⟨F, ts, env, ⟨w, h⟩, q⟩ => ?_
  exact q v H ⟨w, h.pushSh (r _)⟩
theorem de_int {i j pos} : PE X (.Constant (.int i) j pos) (tD G W (dC (.int i))) := de_tC pe_int fun _ => .int i
theorem de_bl {b j pos} : PE X (.Constant (.bool b) j pos) (tD G W (dC (.bl b))) := de_tC pe_bl fun _ => .bl b
theorem de_non {j pos} : PE X (.Constant .none j pos) (tD G W (dC .non)) := de_tC pe_non fun _ => .non
theorem de_str {x j pos} : PE X (.Constant (.str x) j pos) (tD G W (dC (.str x))) := de_tC pe_str fun _ => .str x

theorem wpGet {s : Option S} {e : Env} {Q : S → Env → Prop} {E : Exn → Env → Prop} (h : (Res.get s e).wp Q E) : ∃ a, s = some a ∧ Q a e := Res.wp_get.mp h
theorem bi2_some {op : D → D → Option S} {a b : Option D} {s : S} (h : bi2 op a b = some s) : ∃ x y, a = some x ∧ b = some y ∧ op x y = some s := by
  unfold bi2 at h
  split at h
  · exact ⟨_, _, rfl, rfl, h⟩
  · cases h
theorem un1_some {op : D → Option S} {a : Option D} {s : S} (h : un1 op a = some s) : ∃ x, a = some x ∧ op x = some s := by
  unfold un1 at h
  split at h
  · exact ⟨_, rfl, h⟩
  · cases h
theorem unL_some {op : List D → Option S} {a : Option (List D)} {s : S} (h : unL op a = some s) : ∃ x, a = some x ∧ op x = some s := by
  unfold unL at h
  split at h
  · exact ⟨_, rfl, h⟩
  · cases h

/-- a reading of two parts -/
theorem tOp_of {r : R2} {op : D → D → Option S} {f g : Den} {Q : VK} (hs : OpS G r op) (h : tD G W (d2 op f g) σ H Q) : tOp r (tD G W f) (tD G W g) σ H Q := by
  obtain ⟨F, ts, env, h, q⟩ := h
  rw [d2, Res.wp_bind] at q
  refine tD.mk h (Res.wp_mono q (fun s e q v H1 h1 => ?_) (fun _ _ z => z))
  rw [Res.wp_bind] at q
  refine tD.mk h1 (Res.wp_mono q (fun s' e' q v' H2 h2 => ?_) (fun _ _ z => XP.drop z))
  obtain ⟨s2, e2, q⟩ := wpGet q
  obtain ⟨a, b, ea, eb, eo⟩ := bi2_some e2
  obtain ⟨w, h2⟩ := h2
  have ra := h2.read (j := ts.length) (x := v) (s := s) (by simp) ea
  have rb := h2.read (j := ts.length + 1) (x := v') (s := s') (by simp) eb
  have h0 := h2.drop.drop
  exact hs H2 _ v v' a b s2 Q hide_le ra rb eo fun u H3 o => q u H3 (Rel.out (B := H) h0 o)
theorem de_bin {a b : Expr} {pos : Pos} {o : Operator} {r : R2} {op : D → D → Option S} {f g : Den} (ho : OpR X (binaryOp o) r) (hs : OpS G r op) (ha : PE X a (tD G W f)) (hb : PE X b (tD G W g)) : PE X (.BinOp a o b pos) (tD G W (d2 op f g)) :=
  peImp (pe_op ho ha hb) fun _ _ _ h => tOp_of hs h
theorem de_cmp {a b : Expr} {pos : Pos} {o : CmpOp} {r : R2} {op : D → D → Option S} {f g : Den} (ho : OpR X (compareOp o) r) (hs : OpS G r op) (ha : PE X a (tD G W f)) (hb : PE X b (tD G W g)) (hm : behindInMarks o b = false) : PE X (.Compare a [o] [b] pos) (tD G W (d2 op f g)) :=
  peImp (pe_cmpR ho ha hb hm) fun _ _ _ h => tOp_of hs h
theorem de_ix {a b : Expr} {pos : Pos} {r : R2} {op : D → D → Option S} {f g : Den} (ho : IxR X r) (hs : OpS G r op) (ha : PE X a (tD G W f)) (hb : PE X b (tD G W g)) (hp : PlainIx b) : PE X (.Subscript a b pos) (tD G W (d2 op f g)) :=
  peImp (pe_ix ho ha hb hp) fun _ _ _ h => tOp_of hs h
theorem de_un {a : Expr} {pos : Pos} {o : UnaryOp} {r : V → Hp → VK → Prop} {op : D → Option S} {f : Den} (ho : UnR X (unaryOp o) r) (hs : UnS G r op) (ha : PE X a (tD G W f)) : PE X (.UnaryOp o a pos) (tD G W (d1 op f)) := by
  refine peImp (pe_un ho ha) fun σ H Q ⟨F, ts, env, h, q⟩ => ?_
  rw [d1, Res.wp_bind] at q
  refine tD.mk h (Res.wp_mono q (fun s e q v H1 h1 => ?_) (fun _ _ z => z))
  obtain ⟨s2, e2, q⟩ := wpGet q
  obtain ⟨a, ea, eo⟩ := un1_some e2
  obtain ⟨w, h1⟩ := h1
  have ra := h1.read (j := ts.length) (x := v) (s := s) (by simp) ea
  exact hs H1 _ v a s2 Q hide_le ra eo fun u H3 o => q u H3 (Rel.out (B := H) h1.drop o)

/-! ### arguments -/
theorem da_nil : PA X [] (tA G W (dargs [])) := paImp pa_nil fun σ H Q ⟨F, ts, env, h, q⟩ => q [] H rfl (by rw [List.zip_nil_left, List.append_nil]; exact h)
theorem da_cons {e : Expr} {es : List Expr} {f : Den} {fs : List Den} (ha : PE X e (tD G W f)) (hr : PA X es (tA G W (dargs fs))) (hs : starEach (e :: es) X.env = (false, eval e X.env) :: starEach es X.env := by rfl) : PA X (e :: es) (tA G W (dargs (f :: fs))) := by
  refine paImp (pa_cons ha hr hs) fun σ H Q ⟨F, ts, env, h, q⟩ => ?_
  rw [dargs, Res.wp_bind] at q
  refine tD.mk h (Res.wp_mono q (fun s e q v H1 h1 => ?_) (fun _ _ z => z))
  rw [Res.wp_bind] at q
  refine tA.mk h1 (Res.wp_mono q (fun ss e' q vs H2 hl h2 => ?_) (fun _ _ z => XP.drop z))
  refine q (v :: vs) H2 (by rw [List.length_cons, List.length_cons, hl]) ?_
  rw [List.append_assoc] at h2
  exact h2
theorem zipL {vs : List V} {ss : List S} (h : vs.length = ss.length) : (vs.zip ss).map (·.1) = vs ∧ (vs.zip ss).map (·.2) = ss := by
  induction vs generalizing ss with
  | nil => cases ss with
    | nil => exact ⟨rfl, rfl⟩
    | cons _ _ => cases h
  | cons v vs ih => cases ss with
    | nil => cases h
    | cons s ss =>
      obtain ⟨a, b⟩ := ih (Nat.succ.inj h)
      exact ⟨by rw [List.zip_cons_cons, List.map_cons, a], by rw [List.zip_cons_cons, List.map_cons, b]⟩
theorem tCB_of {r : List V → Hp → VK → Prop} {op : List D → Option S} {fs : List Den} {Q : VK} (hs : CallS G r op) (h : tD G W (dN op fs) σ H Q) : tCB r (tA G W (dargs fs)) σ H Q := by
  obtain ⟨F, ts, env, h, q⟩ := h
  rw [dN, Res.wp_bind] at q
  refine tA.mk h (Res.wp_mono q (fun ss e q vs H1 hl h1 => ?_) (fun _ _ z => z))
  obtain ⟨s2, e2, q⟩ := wpGet q
  obtain ⟨ds, ed, eo⟩ := unL_some e2
  obtain ⟨w, h1⟩ := h1
  obtain ⟨z1, z2⟩ := zipL hl
  have ra := h1.reads (us := vs.zip ss) (by rw [z2]; exact ed)
  rw [z1] at ra
  exact hs H1 _ vs ds s2 Q hide_le ra eo fun u H3 o => q u H3 (Rel.out (B := H) h1.drop o)
theorem de_callB {x : Str} {id : String} {e : Expr} {es : List Expr} {p pos : Pos} {r : List V → Hp → VK → Prop} {op : List D → Option S} {fs : List Den} (hc : CallR X (.builtin id) r) (hs : CallS G r op) (hg : Gl X x) (hm : X.mg x = none) (hv : bootBuiltins x = some (.builtin id)) (ha : PA X (e :: es) (tA G W (dargs fs)))
    (hn : x ≠ "__name__" := by decide) (hdb : (x == ("__debug__" : Str)) = false := by decide) (he : starEach (e :: es) X.env = (false, eval e X.env) :: starEach es X.env := by rfl) (hpl : (backTo pos (starEach es X.env)).any (·.1) = false := by rfl) :
    PE X (.Call (.Name x p) (e :: es) [] pos) (tD G W (dN op fs)) := peImp (pe_callB hc hg hm hv ha hn hdb he hpl) fun _ _ _ h => tCB_of hs h
theorem de_callTy {x : Str} {Ty : String} {e : Expr} {es : List Expr} {p pos : Pos} {r : List V → Hp → VK → Prop} {op : List D → Option S} {fs : List Den} (hc : CallR X (.type Ty) r) (hs : CallS G r op) (hg : Gl X x) (hm : X.mg x = none) (hv : bootBuiltins x = some (.type Ty)) (ha : PA X (e :: es) (tA G W (dargs fs)))
    (hn : x ≠ "__name__" := by decide) (hdb : (x == ("__debug__" : Str)) = false := by decide) (he : starEach (e :: es) X.env = (false, eval e X.env) :: starEach es X.env := by rfl) (hpl : (backTo pos (starEach es X.env)).any (·.1) = false := by rfl) :
    PE X (.Call (.Name x p) (e :: es) [] pos) (tD G W (dN op fs)) := peImp (pe_callTy hc hg hm hv ha hn hdb he hpl) fun _ _ _ h => tCB_of hs h

/-! ### displays -/
theorem mkSeq_wp {c : List D → S} {o : Option (List D × Env)} {Q : S → Env → Prop} {E : Exn → Env → Prop} (h : (mkSeq c o).wp Q E) : ∃ ds e, o = some (ds, e) ∧ ds.length ≤ sizeLine ∧ Q (c ds) e := by
  unfold mkSeq at h
  split at h
  · rename_i ds e
    split at h
    · exact ⟨ds, e, rfl, by rw [sizeLine_eq]; assumption, h⟩
    · exact h.elim
  · exact h.elim
/-- a new tuple, its object known -/
def tTupX (t : TA) : TE := fun σ H Q => t σ H fun xs H1 => xs.length ≤ sizeLine ∧ ∀ p o, o.dict = none → H1 p = none → Q (.ref p) (upd H1 p (.frz o (.tup xs)))
theorem peTupX {es : List Expr} {t : TA} {pos : Pos} {x1} (h : PA X es t) : PE X (.Tuple es x1 pos) (tTupX t) := by
  refine ⟨fun pins s σ H Q I hq => ?_⟩
  refine wpAny_Tuple_spliced (thn (h.run pos pins s σ H _ I hq) fun us s1 ⟨xs, H1, I1, r, z, q⟩ => ⟨by rw [← r.length]; exact z, ?_⟩)
  have new : H1 s1.heap.objs.size = none := I1.hok.fresh (Nat.le_refl _)
  refine ⟨.ref s1.heap.objs.size, upd H1 s1.heap.objs.size (.frz _ (.tup xs)), I1.laid (t' := s1.toks) (fun b u e => Heap.get?_push_of_some _ e) (Nat.le_refl _) ⟨Heap.get?_push_size _ rfl, ?_⟩, rfl, q _ _ rfl new⟩
  exact ⟨z, us, r, _, Heap.get?_push_size _ rfl, rfl, _, rfl⟩
theorem zipS {vs : List V} {ds : List D} (h : vs.length = ds.length) : vs.zip (ds.map S.sh) = (vs.zip ds).map fun p => (p.1, S.sh p.2) := by
  induction vs generalizing ds with
  | nil => rfl
  | cons v vs ih => cases ds with
    | nil => cases h
    | cons d ds => rw [List.map_cons, List.zip_cons_cons, List.zip_cons_cons, List.map_cons, ih (Nat.succ.inj h)]
theorem de_tup {es : List Expr} {fs : List Den} {pos : Pos} {x1} (h : PA X es (tA G W (dargs fs))) : PE X (.Tuple es x1 pos) (tD G W (dTup fs)) := by
  refine peImp (peTupX h) fun σ H Q ⟨F, ts, env, h, q⟩ => ?_
  rw [dTup, Res.wp_bind] at q
  refine tA.mk h (Res.wp_mono q (fun ss e q vs H1 hl h1 => ?_) (fun _ _ z => z))
  obtain ⟨ds, e', eo, hz, q⟩ := mkSeq_wp q
  obtain ⟨w, h1⟩ := h1
  obtain ⟨z1, z2⟩ := zipL hl
  obtain ⟨w2, h2, _, rs⟩ := h1.escs (us := vs.zip ss) (by rw [z2]; exact eo)
  rw [z1] at rs
  exact ⟨by rw [rs.length]; exact hz, fun p o hd hp => q _ _ (Rel.out (B := H) h2.drop (Out.newSh hp (.tup hd rs)))⟩
theorem de_lst {es : List Expr} {fs : List Den} {pos : Pos} (h : PA X es (tA G W (dargs fs))) : PE X (.List es pos) (tD G W (dLst fs)) := by
  refine peImp (pe_lst h) fun σ H Q ⟨F, ts, env, h, q⟩ => ?_
  rw [dLst, Res.wp_bind] at q
  refine tA.mk h (Res.wp_mono q (fun ss e q vs H1 hl h1 => ?_) (fun _ _ z => z))
  obtain ⟨ds, e', eo, hz, q⟩ := mkSeq_wp q
  obtain ⟨w, h1⟩ := h1
  obtain ⟨z1, z2⟩ := zipL hl
  obtain ⟨w2, h2, _, rs⟩ := h1.escs (us := vs.zip ss) (by rw [z2]; exact eo)
  rw [z1] at rs
  exact ⟨by rw [rs.length]; exact hz, fun p hp => q _ _ (Rel.out (B := H) h2.drop (Out.newOw hp (.lst rs) True.intro))⟩
end
end T

/-! TOps: the operations on trees, and what the layer's rules give of them. -/
namespace T
open PySem PySem.Spec PyProof.Rows L2

/-! ### trees as data -/
mutual
def D.py : D → PyData
  | .non => .none
  | .bl b => .bool b
  | .int i => .int i
  | .str x => .str x
  | .tup ds => .tuple (pys ds)
  | .lst ds => .list (pys ds)
  | .dic _ => .dict []
  | .fz _ => .dict []
  | .ext _ _ => .dict []
def pys : List D → List PyData
  | [] => []
  | d :: r => d.py :: pys r
end
theorem pys_map : ∀ ds : List D, pys ds = ds.map D.py
  | [] => by simp [pys]
  | d :: r => by simp [pys, pys_map r]
section
variable {G : Gh} {B H : Hp}
theorem Rep.dp {v : V} {d : D} (q : Rep G B v d) : d.py.canLay0 = true → Dp G.K B v d.py := by
  refine Rep.rec (G := G) (B := B) (motive_1 := fun v d _ => d.py.canLay0 = true → Dp G.K B v d.py) (motive_2 := fun vs ds _ => PyData.canLayAll0 (pys ds) = true → DpAll G.K B vs (pys ds)) (motive_3 := fun _ _ _ => True) (motive_4 := fun _ _ _ => True)
    ?_ ?_ ?_ ?_ ?_ ?_ ?_ ?_ ?_ ?_ ?_ ?_ ?_ ?_ ?_ ?_ q
  · intro _; simp only [D.py]; exact .non
  · intro b _; simp only [D.py]; exact .bl b
  · intro b _; simp only [D.py]; exact .int b
  · intro b _; simp only [D.py]; exact .str b
  · intro a o u _ h; simp [D.py, PyData.canLay0] at h
  · intro a xs ds h _ r hl
    simp only [D.py] at hl ⊢
    exact .tup h.sq (r (by simpa [PyData.canLay0] using hl))
  · intro a xs ds h _ r hl
    simp only [D.py] at hl ⊢
    exact .lst (SqL.of h) (r (by simpa [PyData.canLay0] using hl))
  · intro a ns h hl; simp [D.py, PyData.canLay0] at hl
  · intro a xs ds h _ r hl; simp [D.py, PyData.canLay0] at hl
  · intro a xs ds ob h x _ r hl; simp [D.py, PyData.canLay0] at hl
  · intro _; simp only [pys]; exact .nil
  · intro v vs d ds _ _ h r hl
    simp only [pys] at hl ⊢
    have hl' : d.py.canLay0 = true ∧ PyData.canLayAll0 (pys ds) = true := by simpa [PyData.canLayAll0] using hl
    exact .cons (h hl'.1) (r hl'.2)
  · trivial
  · intros; trivial
  · trivial
  · intros; trivial
theorem Reps.dps : ∀ {vs : List V} {ds : List D}, Reps G B vs ds → PyData.canLayAll0 (pys ds) = true → DpAll G.K B vs (pys ds)
  | _, _, .nil, _ => by simp only [pys]; exact .nil
  | _, d :: ds, .cons h r, hl => by
    simp only [pys] at hl ⊢
    have hl' : (D.py d).canLay0 = true ∧ PyData.canLayAll0 (pys ds) = true := by simpa [PyData.canLayAll0] using hl
    exact .cons (h.dp hl'.1) (r.dps hl'.2)
theorem BRep.dp {v : V} {d : D} (q : BRep G H B v d) (e : Le B H) (hl : d.py.canLay0 = true) : Dp G.K H v d.py := (q.rep e).dp hl
theorem BReps.one {xs : List V} {a : D} (h : BReps G H B xs [a]) : ∃ x, xs = [x] ∧ BRep G H B x a := by
  cases h with
  | cons h r => cases r; exact ⟨_, rfl, h⟩
theorem BReps.two {xs : List V} {a b : D} (h : BReps G H B xs [a, b]) : ∃ x y, xs = [x, y] ∧ BRep G H B x a ∧ BRep G H B y b := by
  cases h with
  | cons h r =>
    obtain ⟨y, rfl, h2⟩ := r.one
    exact ⟨_, _, rfl, h, h2⟩
theorem ints_of : ∀ {vs : List V} {ns : List Int}, Reps G B vs (ns.map D.int) → vs = ns.map V.int
  | _, [], .nil => rfl
  | _, n :: ns, .cons h r => by
    cases h
    rw [ints_of r]
    rfl
theorem bls_of : ∀ {vs : List V} {ns : List Bool}, Reps G B vs (ns.map D.bl) → vs = ns.map V.bl
  | _, [], .nil => rfl
  | _, n :: ns, .cons h r => by
    cases h
    rw [bls_of r]
    rfl
end

/-! ### arithmetic -/
def opAdd : D → D → Option S
  | .int i, .int j => some (.sh (.int (i + j)))
  | .str x, .str y => if x.length + y.length ≤ 16777216 then some (.sh (.str (x ++ y))) else none
  | .tup xs, .tup ys => if xs.length + ys.length ≤ 16777216 then some (.sh (.tup (xs ++ ys))) else none
  | .lst xs, .lst ys => if xs.length + ys.length ≤ 16777216 then some (.ow (.lst (xs ++ ys))) else none
  | _, _ => none
def opSub : D → D → Option S
  | .int i, .int j => some (.sh (.int (i - j)))
  | _, _ => none
def opMul : D → D → Option S
  | .int i, .int j => if (-(2 ^ 64) < i ∧ i < 2 ^ 64) ∨ (-(2 ^ 64) < j ∧ j < 2 ^ 64) then some (.sh (.int (i * j))) else none
  | .lst xs, .int k => if 0 ≤ k ∧ k < 2 ^ 63 ∧ xs.length * k.toNat ≤ 16777216 then some (.ow (.lst (List.replicate k.toNat xs).flatten)) else none
  | _, _ => none
def opMod : D → D → Option S
  | .int i, .int j => if 0 < j then some (.sh (.int (i % j))) else none
  | _, _ => none
def opFdiv : D → D → Option S
  | .int i, .int j => if 0 < j ∧ j < 1073741824 then some (.sh (.int (i / j))) else none
  | _, _ => none
def opPow : D → D → Option S
  | .int i, .int j => if 0 ≤ j ∧ j ≤ 1000000 ∧ i.natAbs < 2 ^ 64 then some (.sh (.int (i ^ j.toNat))) else none
  | _, _ => none
def opNeg : D → Option S
  | .int i => some (.sh (.int (-i)))
  | _ => none
def iCmp (p : Int → Int → Bool) : D → D → Option S
  | .int i, .int j => some (.sh (.bl (p i j)))
  | _, _ => none
def opLt := iCmp fun i j => decide (i < j)
def opLe := iCmp fun i j => decide (i ≤ j)
def opGt := iCmp fun i j => decide (j < i)
def opGe := iCmp fun i j => decide (j ≤ i)
def opEq (a b : D) : Option S := if SeqAt.shaped a.py = true ∧ SeqAt.shaped b.py = true then some (.sh (.bl (PyData.eqv a.py b.py))) else none
def opNe (a b : D) : Option S := if SeqAt.shaped a.py = true ∧ SeqAt.shaped b.py = true then some (.sh (.bl (!PyData.eqv a.py b.py))) else none

section
variable {X : Cx} {G : Gh}
/-- tuple + tuple: a new one is known -/
def rCatX (K : PySem.W.Frag) : R2 := fun x y H Q => ∃ a b xs ys, x = .ref a ∧ y = .ref b ∧ SqT K H a xs ∧ SqT K H b ys ∧ xs.length + ys.length ≤ sizeLine ∧
  (xs = [] → Q (.ref b) H) ∧ (xs ≠ [] → ys = [] → Q (.ref a) H) ∧ (xs ≠ [] → ys ≠ [] → ∀ p o, o.dict = none → H p = none → Q (.ref p) (upd H p (.frz o (.tup (xs ++ ys)))))
theorem op_catX : OpR X (binaryOp .Add) (rCatX X.K) := by
  intro pins s σ H x y v u Q I rx ry h
  obtain ⟨a, b, xs, ys, rfl, rfl, ha, hb, hz, q0, q1, q2⟩ := h
  cases rx
  cases ry
  obtain ⟨its, r1, p1, _⟩ := I.tuple ha
  obtain ⟨its2, r2, p2, _⟩ := I.tuple hb
  by_cases hx : xs = []
  · subst hx
    cases r1
    exact cat_tup0 p1 p2 ⟨.ref b, H, I, rfl, q0 rfl⟩
  · refine HT.cat_tup p1 p2 (fun z => hx (r1.nil_iff.mp z)) (fun z => ⟨.ref a, H, I, rfl, q1 hx (r2.nil_iff.mp z)⟩) (fun z => ?_) (by rw [← r1.length, ← r2.length]; exact hz)
    refine ⟨.ref s.heap.objs.size, _, I.laid (t' := s.toks) (o := .frz _ (.tup (xs ++ ys))) (fun b ob q => Heap.get?_push_of_some _ q) (Nat.le_refl _) ⟨Heap.get?_push_size _ rfl, ?_⟩, rfl, q2 hx (fun w => z (r2.nil_iff.mpr w)) _ _ rfl (I.hok.fresh (Nat.le_refl _))⟩
    exact ⟨by rw [List.length_append]; exact hz, _, r1.append r2, IsTup.new _ _⟩
abbrev rAddAll (K : PySem.W.Frag) : R2 := fun x y H Q => (rI0 fun i j => .int (i + j)) x y H Q ∨ (∃ i j, x = .str i ∧ y = .str j ∧ i.length + j.length ≤ sizeLine ∧ Q (.str (i ++ j)) H) ∨ rCatX K x y H Q ∨ rCat x y H Q
theorem or_add : OpR X (binaryOp .Add) (rAddAll X.K) := OpR.or op_add (OpR.or op_add_str (OpR.or op_catX op_cat))
theorem nil_iff_reps {B : Hp} {vs : List V} {ds : List D} (h : Reps G B vs ds) : vs = [] ↔ ds = [] := by
  cases h with
  | nil => simp
  | cons _ _ => simp
theorem s_add : OpS G (rAddAll G.K) opAdd := by
  intro H B x y a b s Q le ra rb e q
  cases ra with
  | int i =>
    cases rb with
    | int j => cases e; exact .inl ⟨i, j, rfl, rfl, q _ _ (Out.val (.int _))⟩
    | _ => cases e
  | str i =>
    cases rb with
    | str j =>
      simp only [opAdd] at e
      split at e
      · cases e
        exact .inr (.inl ⟨i, j, rfl, rfl, by rw [sizeLine_eq]; assumption, q _ _ (Out.val (.str _))⟩)
      · cases e
    | _ => cases e
  | @tup a vs ds h1 h2 =>
    cases rb with
    | @tup b us es h3 h4 =>
      simp only [opAdd] at e
      split at e
      · rename_i hz
        cases e
        refine .inr (.inr (.inl ⟨a, b, vs, us, rfl, rfl, (TupX.le h1 le).sq, (TupX.le h3 le).sq, by rw [h2.length, h4.length, sizeLine_eq]; exact hz, fun z => ?_, fun z1 z => ?_, fun z1 z2 p o ho hp => ?_⟩))
        · rw [(nil_iff_reps h2).mp z, List.nil_append] at q
          exact q _ _ (Out.val (.tup h3 h4))
        · rw [(nil_iff_reps h4).mp z, List.append_nil] at q
          exact q _ _ (Out.val (.tup h1 h2))
        · exact q _ _ (Out.newSh hp (.tup ho (h2.app h4)))
      · cases e
    | _ => cases e
  | @lst a vs ds h1 h2 =>
    cases rb with
    | @lst b us es h3 h4 =>
      simp only [opAdd] at e
      split at e
      · rename_i hz
        cases e
        exact .inr (.inr (.inr ⟨a, b, vs, us, rfl, rfl, h1, h3, by rw [h2.length, h4.length, sizeLine_eq]; exact hz, fun p hp => q _ _ (Out.newOw hp (.lst (h2.app h4)) True.intro)⟩))
      · cases e
    | _ => cases e
  | _ => cases e

theorem s_rI0 {g : Int → Int → V} {k : Int → Int → D} (hg : ∀ i j B, Rep G B (g i j) (k i j)) : OpS G (rI0 g) (fun a b => match a, b with
  | .int i, .int j => some (.sh (k i j))
  | _, _ => none) := by
  intro H B x y a b s Q le ra rb e q
  cases ra with
  | int i =>
    cases rb with
    | int j => cases e; exact ⟨i, j, rfl, rfl, q _ _ (Out.val (hg i j B))⟩
    | _ => cases e
  | _ => cases e
theorem s_sub : OpS G (rI0 fun i j => .int (i - j)) opSub := by
  intro H B x y a b s Q le ra rb e q
  cases ra with
  | int i =>
    cases rb with
    | int j => cases e; exact ⟨i, j, rfl, rfl, q _ _ (Out.val (.int _))⟩
    | _ => cases e
  | _ => cases e
theorem s_cmp {p : Int → Int → Bool} : OpS G (rI0 fun i j => .bl (p i j)) (iCmp p) := by
  intro H B x y a b s Q le ra rb e q
  cases ra with
  | int i =>
    cases rb with
    | int j => cases e; exact ⟨i, j, rfl, rfl, q _ _ (Out.val (.bl _))⟩
    | _ => cases e
  | _ => cases e
theorem s_rI {C : Int → Int → Prop} {P : Int → Int → Prop} [∀ i j, Decidable (P i j)] {g : Int → Int → Int} (hC : ∀ i j, P i j → C i j) : OpS G (rI C fun i j => .int (g i j)) (fun a b => match a, b with
  | .int i, .int j => if P i j then some (.sh (.int (g i j))) else none
  | _, _ => none) := by
  intro H B x y a b s Q le ra rb e q
  cases ra with
  | int i =>
    cases rb with
    | int j =>
      simp only at e
      split at e
      · rename_i hp
        cases e
        exact ⟨i, j, rfl, rfl, hC i j hp, q _ _ (Out.val (.int _))⟩
      · cases e
    | _ => cases e
  | _ => cases e
theorem s_mod : OpS G (rI (fun _ j => 0 < j) fun i j => .int (i % j)) opMod := by
  intro H B x y a b s Q le ra rb e q
  exact s_rI (P := fun _ j => 0 < j) (fun _ _ h => h) H B x y a b s Q le ra rb (by cases a <;> cases b <;> first | exact e | cases e) q
theorem s_fdiv : OpS G (rI CDiv fun i j => .int (i / j)) opFdiv := by
  intro H B x y a b s Q le ra rb e q
  exact s_rI (P := fun _ j => 0 < j ∧ j < 1073741824) (fun _ _ h => h) H B x y a b s Q le ra rb (by cases a <;> cases b <;> first | exact e | cases e) q
theorem s_pow : OpS G (rI CPow fun i j => .int (i ^ j.toNat)) opPow := by
  intro H B x y a b s Q le ra rb e q
  exact s_rI (P := fun i j => 0 ≤ j ∧ j ≤ 1000000 ∧ i.natAbs < 2 ^ 64) (fun _ _ h => h) H B x y a b s Q le ra rb (by cases a <;> cases b <;> first | exact e | cases e) q
theorem reps_rep {B : Hp} {vs : List V} {ds : List D} (h : Reps G B vs ds) : ∀ k : Nat, Reps G B (List.replicate k vs).flatten (List.replicate k ds).flatten
  | 0 => .nil
  | k + 1 => by
    rw [List.replicate_succ, List.replicate_succ, List.flatten_cons, List.flatten_cons]
    exact h.app (reps_rep h k)
abbrev rMulAll : R2 := fun x y H Q => (rI CMul fun i j => .int (i * j)) x y H Q ∨ rRep x y H Q
theorem or_mul : OpR X (binaryOp .Mult) rMulAll := OpR.or op_mul op_rep
theorem s_mul : OpS G rMulAll opMul := by
  intro H B x y a b s Q le ra rb e q
  cases ra with
  | int i =>
    cases rb with
    | int j =>
      simp only [opMul] at e
      split at e
      · rename_i hp
        cases e
        exact .inl ⟨i, j, rfl, rfl, hp, q _ _ (Out.val (.int _))⟩
      · cases e
    | _ => cases e
  | @lst a vs ds h1 h2 =>
    cases rb with
    | int k =>
      simp only [opMul] at e
      split at e
      · rename_i hp
        cases e
        exact .inr ⟨a, k, vs, rfl, rfl, h1, by omega, hp.2.1, by rw [h2.length, sizeLine_eq]; exact hp.2.2, fun p hp => q _ _ (Out.newOw hp (.lst (reps_rep h2 _)) True.intro)⟩
      · cases e
    | _ => cases e
  | _ => cases e
theorem s_neg : UnS G (rU fun i => .int (-i)) opNeg := by
  intro H B x a s Q le ra e q
  cases ra with
  | int i => cases e; exact ⟨i, rfl, q _ _ (Out.val (.int _))⟩
  | _ => cases e
theorem s_eq : OpS G (rEqD G.K) opEq := by
  intro H B x y a b s Q le ra rb e q
  unfold opEq at e
  split at e
  · rename_i hs
    cases e
    exact ⟨a.py, b.py, ra.dp le (SeqAt.canLay_of_shaped hs.1), rb.dp le (SeqAt.canLay_of_shaped hs.2), hs.1, hs.2, q _ _ (Out.val (.bl _))⟩
  · cases e
theorem s_ne : OpS G (rNeD G.K) opNe := by
  intro H B x y a b s Q le ra rb e q
  unfold opNe at e
  split at e
  · rename_i hs
    cases e
    exact ⟨a.py, b.py, ra.dp le (SeqAt.canLay_of_shaped hs.1), rb.dp le (SeqAt.canLay_of_shaped hs.2), hs.1, hs.2, q _ _ (Out.val (.bl _))⟩
  · cases e
end

/-! ### in -/
def inD (d : D) (ds : List D) : Bool := ds.any fun z => PyData.eqv z.py d.py
def opIn (n : Bool) : D → D → Option S
  | d, .lst ds => if SeqAt.shaped d.py = true ∧ PyData.canLayAll0 (pys ds) = true then some (.sh (.bl (if n then !inD d ds else inD d ds))) else none
  | d, .tup ds => if SeqAt.shaped d.py = true ∧ PyData.canLayAll0 (pys ds) = true then some (.sh (.bl (if n then !inD d ds else inD d ds))) else none
  | _, _ => none
def rInT (K : PySem.W.Frag) (n : Bool) : R2 := fun x y H Q => ∃ (a : Addr) (vs : List V) (d : PyData) (ds : List PyData), y = .ref a ∧ (SqL K H a vs ∨ SqT K H a vs) ∧ DpAll K H vs ds ∧ Dp K H x d ∧ SeqAt.shaped d = true ∧ PyData.canLayAll0 ds = true ∧
  Q (.bl (if n then !(ds.any fun z => PyData.eqv z d) else ds.any fun z => PyData.eqv z d)) H
section
variable {X : Cx} {G : Gh}
theorem any_read {h : Heap} {us : List Value} {ds : List PyData} {as : List Addr} {d : PyData} (r : ReadsAll h us ds as) (hl : PyData.canLayAll0 ds = true) : (us.toArray.any fun u => PyData.eqv (SeqAt.readOf h u) d) = ds.any fun z => PyData.eqv z d := by
  rw [← SeqAt.readsAll_map ds us as hl r, List.any_map, List.any_toArray]
  rfl
theorem or_in (hu : X.A.units + 65 < cLine) : OpR X (compareOp .In) (rInT X.K false) := by
  intro pins s σ H x y v u Q I rx ry h
  obtain ⟨a, vs, d, ds, rfl, hs, hd, hx, sd, hl, q⟩ := h
  cases ry
  obtain ⟨bs, r1⟩ := Dp.reads I d x v hx rx
  rcases hs with hs | hs
  · obtain ⟨its, rv, pl, hz⟩ := I.list hs
    obtain ⟨as, r2⟩ := Dp.readsAll I ds vs its hd rv
    refine SeqAt.in_listAt (fun u => PyData.eqv (SeqAt.readOf s.heap u) d) pl.isList (SeqAt.items_eqAt (vs := its.toArray) r2 r1 hl (SeqAt.canLay_of_shaped sd) (room_in_shaped sd hu)) ⟨.bl _, H, I, rfl, ?_⟩
    rw [any_read r2 hl]
    exact q
  · obtain ⟨its, rv, pl, hz⟩ := I.tuple hs
    obtain ⟨as, r2⟩ := Dp.readsAll I ds vs its hd rv
    refine SeqAt.in_tupleAt (fun u => PyData.eqv (SeqAt.readOf s.heap u) d) pl (SeqAt.items_eqAt (vs := its.toArray) r2 r1 hl (SeqAt.canLay_of_shaped sd) (room_in_shaped sd hu)) ⟨.bl _, H, I, rfl, ?_⟩
    rw [any_read r2 hl]
    exact q
theorem or_notin (hu : X.A.units + 65 < cLine) : OpR X (compareOp .NotIn) (rInT X.K true) := by
  intro pins s σ H x y v u Q I rx ry h
  obtain ⟨a, vs, d, ds, rfl, hs, hd, hx, sd, hl, q⟩ := h
  cases ry
  obtain ⟨bs, r1⟩ := Dp.reads I d x v hx rx
  rcases hs with hs | hs
  · obtain ⟨its, rv, pl, hz⟩ := I.list hs
    obtain ⟨as, r2⟩ := Dp.readsAll I ds vs its hd rv
    refine SeqAt.notIn_listAt (fun u => PyData.eqv (SeqAt.readOf s.heap u) d) pl.isList (SeqAt.items_eqAt (vs := its.toArray) r2 r1 hl (SeqAt.canLay_of_shaped sd) (room_in_shaped sd hu)) ⟨.bl _, H, I, rfl, ?_⟩
    rw [any_read r2 hl]
    exact q
  · obtain ⟨its, rv, pl, hz⟩ := I.tuple hs
    obtain ⟨as, r2⟩ := Dp.readsAll I ds vs its hd rv
    refine SeqAt.notIn_tupleAt (fun u => PyData.eqv (SeqAt.readOf s.heap u) d) pl (SeqAt.items_eqAt (vs := its.toArray) r2 r1 hl (SeqAt.canLay_of_shaped sd) (room_in_shaped sd hu)) ⟨.bl _, H, I, rfl, ?_⟩
    rw [any_read r2 hl]
    exact q
theorem any_py (d : PyData) (ds : List D) : ((pys ds).any fun z => PyData.eqv z d) = ds.any fun z => PyData.eqv z.py d := by
  rw [pys_map, List.any_map]
  rfl
theorem s_in {n : Bool} : OpS G (rInT G.K n) (opIn n) := by
  intro H B x y a b s Q le ra rb e q
  cases rb with
  | @lst c vs ds h1 h2 =>
    have e' : (if SeqAt.shaped a.py = true ∧ PyData.canLayAll0 (pys ds) = true then some (S.sh (.bl (if n then !inD a ds else inD a ds))) else none) = some s := by cases a <;> exact e
    split at e'
    · rename_i hs
      cases e'
      refine ⟨c, vs, a.py, pys ds, rfl, .inl (SqL.of h1), Reps.dps (Reps.le le h2) hs.2, ra.dp le (SeqAt.canLay_of_shaped hs.1), hs.1, hs.2, ?_⟩
      rw [any_py]
      exact q _ _ (Out.val (.bl _))
    · cases e'
  | @tup c vs ds h1 h2 =>
    have e' : (if SeqAt.shaped a.py = true ∧ PyData.canLayAll0 (pys ds) = true then some (S.sh (.bl (if n then !inD a ds else inD a ds))) else none) = some s := by cases a <;> exact e
    split at e'
    · rename_i hs
      cases e'
      refine ⟨c, vs, a.py, pys ds, rfl, .inr (TupX.le h1 le).sq, Reps.dps (Reps.le le h2) hs.2, ra.dp le (SeqAt.canLay_of_shaped hs.1), hs.1, hs.2, ?_⟩
      rw [any_py]
      exact q _ _ (Out.val (.bl _))
    · cases e'
  | _ => cases a <;> cases e

/-! ### is -/
def opIs (n : Bool) : D → D → Option S
  | .bl a, .bl b => some (.sh (.bl (if n then !decide (a = b) else decide (a = b))))
  | .ext _ _, .non => none
  | .non, .non => some (.sh (.bl (!n)))
  | _, .non => some (.sh (.bl n))
  | _, _ => none
abbrev rIsAll (n : Bool) : R2 := fun x y H Q => (y = .non ∧ Q (.bl (if n then !decide (x = .non) else decide (x = .non))) H) ∨ ∃ a b, x = .bl a ∧ y = .bl b ∧ Q (.bl (if n then !decide (a = b) else decide (a = b))) H
theorem or_is : OpR X (compareOp .Is) (rIsAll false) := OpR.or op_isN op_is_bl
theorem or_isnot : OpR X (compareOp .IsNot) (rIsAll true) := OpR.or op_notN op_isnot_bl
theorem s_is {n : Bool} : OpS G (rIsAll n) (opIs n) := by
  intro H B x y a b s Q le ra rb e q
  cases rb with
  | non =>
    cases ra with
    | non => cases e; exact .inl ⟨rfl, by cases n <;> exact q _ _ (Out.val (.bl _))⟩
    | ext v => cases e
    | bl b => cases e; exact .inl ⟨rfl, by cases n <;> exact q _ _ (Out.val (.bl _))⟩
    | int b => cases e; exact .inl ⟨rfl, by cases n <;> exact q _ _ (Out.val (.bl _))⟩
    | str b => cases e; exact .inl ⟨rfl, by cases n <;> exact q _ _ (Out.val (.bl _))⟩
    | tup _ _ => cases e; exact .inl ⟨rfl, by cases n <;> exact q _ _ (Out.val (.bl _))⟩
    | lst _ _ => cases e; exact .inl ⟨rfl, by cases n <;> exact q _ _ (Out.val (.bl _))⟩
    | fz _ => cases e; exact .inl ⟨rfl, by cases n <;> exact q _ _ (Out.val (.bl _))⟩
    | dK _ _ => cases e; exact .inl ⟨rfl, by cases n <;> exact q _ _ (Out.val (.bl _))⟩
    | dX _ _ _ => cases e; exact .inl ⟨rfl, by cases n <;> exact q _ _ (Out.val (.bl _))⟩
  | bl c =>
    cases ra with
    | bl b => cases e; exact .inr ⟨b, c, rfl, rfl, q _ _ (Out.val (.bl _))⟩
    | _ => cases e
  | _ => cases ra <;> cases e
end
end T

/-! TOps2: subscripts, slices, built-in functions. -/
namespace T
open PySem PySem.Spec PyProof.Rows L2

/-! ### an item -/
def opIx : D → D → Option S
  | .lst ds, .int i => (atI ds i).map S.sh
  | .tup ds, .int i => (atI ds i).map S.sh
  | .str z, .int i => if z.length ≤ 16777216 then (atI z.cps.toList i).map fun c => S.sh (.str ⟨#[c]⟩) else none
  | _, _ => none
section
variable {X : Cx} {G : Gh} {B H : Hp}
theorem Reps.at {vs : List V} {ds : List D} {i : Int} {d : D} (h : Reps G B vs ds) (e : atI ds i = some d) : ∃ v, atI vs i = some v ∧ Rep G B v d := by
  unfold atI at e ⊢
  rw [h.length]
  cases q : ixN ds.length i with
  | none => rw [q] at e; cases e
  | some j =>
    rw [q] at e
    exact h.get e
theorem s_ix : OpS G (rIx G.K) opIx := by
  intro H B x y a b s Q le ra rb e q
  cases rb with
  | int i =>
    cases ra with
    | @lst c vs ds h1 h2 =>
      simp only [opIx, Option.map_eq_some_iff] at e
      obtain ⟨d, ed, rfl⟩ := e
      obtain ⟨v, ev, rv⟩ := h2.at ed
      exact .inl ⟨c, vs, i, v, rfl, rfl, SqL.of h1, ev, q _ _ (Out.val rv)⟩
    | @tup c vs ds h1 h2 =>
      simp only [opIx, Option.map_eq_some_iff] at e
      obtain ⟨d, ed, rfl⟩ := e
      obtain ⟨v, ev, rv⟩ := h2.at ed
      exact .inr (.inl ⟨c, vs, i, v, rfl, rfl, (TupX.le h1 le).sq, ev, q _ _ (Out.val rv)⟩)
    | str z =>
      simp only [opIx] at e
      split at e
      · rename_i hz
        simp only [Option.map_eq_some_iff] at e
        obtain ⟨c, ec, rfl⟩ := e
        exact .inr (.inr ⟨z, i, c, rfl, rfl, by rw [sizeLine_eq]; exact hz, ec, q _ _ (Out.val (.str _))⟩)
      · cases e
    | _ => cases e
  | _ => cases ra <;> cases e

/-! ### a slice -/
def sCut (ds : List D) (lo hi : Option Int) : List D := (ds.drop (HT.sIx ds.length 0 lo)).take (HT.sIx ds.length ds.length hi - HT.sIx ds.length 0 lo)
theorem reps_cut {vs : List V} {ds : List D} (h : Reps G B vs ds) (lo hi : Option Int) : Reps G B (cutV vs lo hi) (sCut ds lo hi) := by
  unfold cutV sCut
  rw [h.length]
  exact (h.drop _).take _
def opSl (lo hi : Option Int) : D → Option S
  | .lst ds => some (.ow (.lst (sCut ds lo hi)))
  | .tup ds => some (.sh (.tup (sCut ds lo hi)))
  | .str z => if z.length ≤ 16777216 then some (.sh (.str (cutS z lo hi))) else none
  | _ => none
/-- t[lo:hi] of a tuple, the new one known -/
def rSlX (K : PySem.W.Frag) : V → Option Int → Option Int → Hp → VK → Prop := fun x lo hi H Q => ∃ a xs, x = .ref a ∧ SqT K H a xs ∧
  (HT.sIx xs.length 0 lo = 0 ∧ HT.sIx xs.length xs.length hi = xs.length → Q (.ref a) H) ∧ (¬ (HT.sIx xs.length 0 lo = 0 ∧ HT.sIx xs.length xs.length hi = xs.length) → ∀ p o, o.dict = none → H p = none → Q (.ref p) (upd H p (.frz o (.tup (cutV xs lo hi)))))
theorem sl_tupX : SlR X (rSlX X.K) := by
  intro pins s σ H x v vl vu lo hi sl Q I rx hs pl pu h
  obtain ⟨a, xs, rfl, hx, q1, q2⟩ := h
  cases rx
  obtain ⟨its, r, ht, hz⟩ := I.tuple hx
  have hlen : its.toArray.size = xs.length := by rw [List.size_toArray]; exact r.length.symm
  refine ⟨"tuple", _, PyProof.Rows.slot_tuple_getitem.lookup, ht.typeIs, ?_⟩
  by_cases hw : HT.sIx xs.length 0 lo = 0 ∧ HT.sIx xs.length xs.length hi = xs.length
  · exact getItem_tuple_whole ht hs pl pu (by rw [hlen]; exact hw) ⟨.ref a, H, I, rfl, q1 hw⟩
  · refine HT.getItem_tuple_cut ht hs pl pu (by rw [hlen]; exact hw) ?_ (by rw [hlen]; exact hz)
    rw [hlen]
    refine ⟨.ref s.heap.objs.size, _, I.laid (t' := s.toks) (o := .frz _ (.tup (cutV xs lo hi))) (fun b ob q => Heap.get?_push_of_some _ q) (Nat.le_refl _) ⟨Heap.get?_push_size _ rfl, ?_⟩, rfl, q2 hw _ _ rfl (I.hok.fresh (Nat.le_refl _))⟩
    exact ⟨Nat.le_trans (cutV_length xs lo hi) hz, _, (r.drop (HT.sIx xs.length 0 lo)).take (HT.sIx xs.length xs.length hi - HT.sIx xs.length 0 lo), IsTup.new _ _⟩
abbrev rSlAll (K : PySem.W.Frag) : V → Option Int → Option Int → Hp → VK → Prop := fun x lo hi H Q => rSlL K x lo hi H Q ∨ rSlX K x lo hi H Q ∨ rSlS x lo hi H Q
theorem sl_all : SlR X (rSlAll X.K) := SlR.or sl_list (SlR.or sl_tupX sl_str)
theorem sCut_whole {ds : List D} {lo hi : Option Int} (h : HT.sIx ds.length 0 lo = 0 ∧ HT.sIx ds.length ds.length hi = ds.length) : sCut ds lo hi = ds := by
  unfold sCut
  rw [h.1, h.2, Nat.sub_zero, List.drop_zero, List.take_length]
theorem s_sl {lo hi : Option Int} : UnS G (fun x H Q => rSlAll G.K x lo hi H Q) (opSl lo hi) := by
  intro H B x a s Q le ra e q
  cases ra with
  | @lst c vs ds h1 h2 =>
    cases e
    exact .inl ⟨c, vs, rfl, SqL.of h1, fun p hp => q _ _ (Out.newOw hp (.lst (reps_cut h2 lo hi)) True.intro)⟩
  | @tup c vs ds h1 h2 =>
    cases e
    refine .inr (.inl ⟨c, vs, rfl, (TupX.le h1 le).sq, fun z => ?_, fun z p o ho hp => q _ _ (Out.newSh hp (.tup ho (reps_cut h2 lo hi)))⟩)
    rw [h2.length] at z
    rw [sCut_whole z] at q
    exact q _ _ (Out.val (.tup h1 h2))
  | str z =>
    simp only [opSl] at e
    split at e
    · rename_i hz
      cases e
      exact .inr (.inr ⟨z, rfl, by rw [sizeLine_eq]; exact hz, q _ _ (Out.val (.str _))⟩)
    · cases e
  | _ => cases e
/-- a bound of a slice -/
def dPart : Option Den → Env → Res (Option Int)
  | none, e => .ok none e
  | some f, e => (f e).bind fun s e' => match rd e' s with
    | some (.int i) => .ok (some i) e'
    | _ => .bad
def tP (G : Gh) (W : WX) (f : Env → Res (Option Int)) : TO := fun σ H Q => ∃ F ts env, Rel G F σ H env ts ∧ (f env).wp (fun i e => ∀ H', Rel G F σ H' e ts → Q i H') (XP G F ts W σ)
variable {W : WX}
theorem poImp {e : Option Expr} {t t' : TO} (h : PO X e t) (hi : ∀ σ H Q, t' σ H Q → t σ H Q) : PO X e t' := ⟨fun pins s σ H Q I q => h.run pins s σ H Q I (hi σ H Q q)⟩
theorem dp_none : PO X none (tP G W (dPart none)) := poImp po_none fun σ H Q ⟨F, ts, env, h, q⟩ => q H h
theorem dp_some {e : Expr} {f : Den} (h : PE X e (tD G W f)) : PO X (some e) (tP G W (dPart (some f))) := by
  refine poImp (po_some h) fun σ H Q ⟨F, ts, env, h, q⟩ => ?_
  rw [dPart, Res.wp_bind] at q
  refine tD.mk h (Res.wp_mono q (fun s e q v H1 h1 => ?_) fun _ _ z => z)
  cases er : rd e s with
  | none => rw [er] at q; exact q.elim
  | some d =>
    rw [er] at q
    obtain ⟨w, h1⟩ := h1
    have ra := h1.read (j := ts.length) (x := v) (s := s) (by simp) er
    cases ra with
    | int i => exact ⟨i, rfl, q H1 ⟨w, h1.drop⟩⟩
    | _ => exact q.elim
def dSl (f : Den) (lo hi : Option Den) : Den := fun env => (f env).bind fun s e => (dPart lo e).bind fun l e1 => (dPart hi e1).bind fun h e2 => .get (un1 (opSl l h) (rd e2 s)) e2
theorem de_sl {e : Expr} {lo hi : Option Expr} {p2 pos : Pos} {f : Den} {dl dh : Option Den} (he : PE X e (tD G W f)) (hl : PO X lo (tP G W (dPart dl))) (hh : PO X hi (tP G W (dPart dh))) (hK : X.K = G.K := by rfl) : PE X (.Subscript e (.Slice lo hi none p2) pos) (tD G W (dSl f dl dh)) := by
  refine peImp (pe_slice sl_all he hl hh) fun σ H Q ⟨F, ts, env, h, q⟩ => ?_
  rw [dSl, Res.wp_bind] at q
  refine tD.mk h (Res.wp_mono q (fun s e q v H1 h1 => ?_) fun _ _ z => z)
  rw [Res.wp_bind] at q
  refine ⟨F, _, e, h1, Res.wp_mono q (fun l e1 q H2 h2 => ?_) fun _ _ z => XP.drop z⟩
  rw [Res.wp_bind] at q
  refine ⟨F, _, e1, h2, Res.wp_mono q (fun u e2 q H3 h3 => ?_) fun _ _ z => XP.drop z⟩
  obtain ⟨s2, es, q⟩ := wpGet q
  obtain ⟨a, ea, eo⟩ := un1_some es
  obtain ⟨w, h3⟩ := h3
  have ra := h3.read (j := ts.length) (x := v) (s := s) (by simp) ea
  rw [hK]
  exact s_sl H3 _ v a s2 Q hide_le ra eo fun z H4 o => q z H4 (Rel.out (B := H) h3.drop o)

/-! ### built-in functions -/
def opLen : List D → Option S
  | [.str z] => if z.length ≤ 16777216 then some (.sh (.int z.length)) else none
  | [.lst ds] => some (.sh (.int ds.length))
  | [.tup ds] => some (.sh (.int ds.length))
  | [.fz ns] => some (.sh (.int ns.length))
  | [.dic kvs] => some (.sh (.int kvs.length))
  | _ => none
end
end T

/-! TOps3: built-in functions. -/
namespace T
open PySem PySem.Spec PyProof.Rows L2
section
variable {X : Cx} {G : Gh} {B H : Hp}
def opLen0 : List D → Option S
  | [.str z] => if z.length ≤ 16777216 then some (.sh (.int z.length)) else none
  | [.lst ds] => some (.sh (.int ds.length))
  | [.tup ds] => some (.sh (.int ds.length))
  | [.fz ns] => some (.sh (.int ns.length))
  | _ => none
theorem s_len : CallS G (fun xs H Q => ∃ x n, xs = [x] ∧ LenV G.K x H n ∧ Q (.int n) H) opLen0 := by
  intro H B xs as s Q le ra e q
  cases ra with
  | nil => cases e
  | cons r1 r2 =>
    cases r2 with
    | cons _ _ => cases r1 <;> cases e
    | nil =>
      cases r1 with
      | str z =>
        simp only [opLen0] at e
        split at e
        · rename_i hz
          cases e
          exact ⟨_, _, rfl, ⟨by rw [sizeLine_eq]; exact hz, rfl⟩, q _ _ (Out.val (.int _))⟩
        · cases e
      | lst h1 h2 => cases e; exact ⟨_, _, rfl, .inl ⟨_, SqL.of h1, rfl⟩, by rw [h2.length]; exact q _ _ (Out.val (.int _))⟩
      | tup h1 h2 => cases e; exact ⟨_, _, rfl, .inr ⟨_, (TupX.le h1 le).sq, rfl⟩, by rw [h2.length]; exact q _ _ (Out.val (.int _))⟩
      | fz h1 => cases e; exact ⟨_, _, rfl, .inl ⟨_, h1.sq, rfl⟩, by rw [List.length_map]; exact q _ _ (Out.val (.int _))⟩
      | _ => cases e
/-- tuple(x) -/
def opTuple : List D → Option S
  | [.lst ds] => some (.sh (.tup ds))
  | [.tup ds] => some (.sh (.tup ds))
  | _ => none
def rTupX (K : PySem.W.Frag) : List V → Hp → VK → Prop := fun xs H Q => ∃ p ys, xs = [.ref p] ∧ ((SqL K H p ys ∧ ∀ l o, o.dict = none → H l = none → Q (.ref l) (upd H l (.frz o (.tup ys)))) ∨ (SqT K H p ys ∧ Q (.ref p) H))
theorem cr_tuple : CallR X (.type "tuple") (rTupX X.K) := by
  intro pins s σ H xs us Q I r h
  obtain ⟨p, ys, rfl, h⟩ := h
  obtain ⟨u, rfl, rx⟩ := vals1 r
  cases rx
  rcases h with ⟨hq, q⟩ | ⟨hq, q⟩
  · obtain ⟨its, r', pl, hz⟩ := I.list hq
    have hlen := r'.length
    refine call_tuple_list pl.isList (fun h' kp => ?_) (by simp only [List.size_toArray] <;> omega)
    have I1 : Inv X pins σ H { s with heap := h' } := I.kept (t' := s.toks) kp
    exact ⟨.ref h'.objs.size, upd H h'.objs.size (.frz _ (.tup ys)), I1.laid (t' := s.toks) (fun b o e => Heap.get?_push_of_some _ e) (Nat.le_refl _) ⟨Heap.get?_push_size _ rfl, hz, its, r', IsTup.new _ _⟩, rfl, q _ _ rfl (I1.hok.fresh (Nat.le_refl _))⟩
  · obtain ⟨its, r', pl, hz⟩ := I.tuple hq
    exact call_tuple_same pl ⟨.ref p, H, I, rfl, q⟩
theorem s_tuple : CallS G (rTupX G.K) opTuple := by
  intro H B xs as s Q le ra e q
  cases ra with
  | nil => cases e
  | cons r1 r2 =>
    cases r2 with
    | cons _ _ => cases r1 <;> cases e
    | nil =>
      cases r1 with
      | lst h1 h2 => cases e; exact ⟨_, _, rfl, .inl ⟨SqL.of h1, fun p o ho hp => q _ _ (Out.newSh hp (.tup ho h2))⟩⟩
      | tup h1 h2 => cases e; exact ⟨_, _, rfl, .inr ⟨(TupX.le h1 le).sq, q _ _ (Out.val (.tup h1 h2))⟩⟩
      | _ => cases e
/-- list(x) -/
def opList : List D → Option S
  | [.lst ds] => some (.ow (.lst ds))
  | [.tup ds] => some (.ow (.lst ds))
  | _ => none
theorem s_list : CallS G (fun xs H Q => ∃ p ys, xs = [.ref p] ∧ (SqL G.K H p ys ∨ SqT G.K H p ys) ∧ ∀ l, H l = none → Q (.ref l) (upd H l (.lst ys))) opList := by
  intro H B xs as s Q le ra e q
  cases ra with
  | nil => cases e
  | cons r1 r2 =>
    cases r2 with
    | cons _ _ => cases r1 <;> cases e
    | nil =>
      cases r1 with
      | lst h1 h2 => cases e; exact ⟨_, _, rfl, .inl (SqL.of h1), fun p hp => q _ _ (Out.newOw hp (.lst h2) True.intro)⟩
      | tup h1 h2 => cases e; exact ⟨_, _, rfl, .inr (TupX.le h1 le).sq, fun p hp => q _ _ (Out.newOw hp (.lst h2) True.intro)⟩
      | _ => cases e
/-! ints, bools -/
def dInts : List D → Option (List Int)
  | [] => some []
  | .int i :: r => (dInts r).map (i :: ·)
  | _ => none
def dBls : List D → Option (List Bool)
  | [] => some []
  | .bl i :: r => (dBls r).map (i :: ·)
  | _ => none
theorem dInts_some : ∀ {ds : List D} {ns : List Int}, dInts ds = some ns → ds = ns.map D.int
  | [], ns, h => by cases h; rfl
  | d :: r, ns, h => by
    cases d with
    | int i =>
      simp only [dInts, Option.map_eq_some_iff] at h
      obtain ⟨ms, h, rfl⟩ := h
      rw [dInts_some h]
      rfl
    | _ => cases h
theorem dBls_some : ∀ {ds : List D} {ns : List Bool}, dBls ds = some ns → ds = ns.map D.bl
  | [], ns, h => by cases h; rfl
  | d :: r, ns, h => by
    cases d with
    | bl i =>
      simp only [dBls, Option.map_eq_some_iff] at h
      obtain ⟨ms, h, rfl⟩ := h
      rw [dBls_some h]
      rfl
    | _ => cases h
theorem dInts_map : ∀ ns : List Int, dInts (ns.map D.int) = some ns
  | [] => rfl
  | n :: ns => by rw [List.map_cons, dInts, dInts_map ns]; rfl
theorem dBls_map : ∀ ns : List Bool, dBls (ns.map D.bl) = some ns
  | [] => rfl
  | n :: ns => by rw [List.map_cons, dBls, dBls_map ns]; rfl
def opAll : List D → Option S
  | [.lst ds] => (dBls ds).map fun bs => .sh (.bl (bs.all id))
  | _ => none
def opAny : List D → Option S
  | [.lst ds] => (dBls ds).map fun bs => .sh (.bl (bs.any id))
  | _ => none
theorem s_all : CallS G (rAll G.K) opAll := by
  intro H B xs as s Q le ra e q
  cases ra with
  | nil => cases e
  | cons r1 r2 =>
    cases r2 with
    | cons _ _ => cases r1 <;> cases e
    | nil =>
      cases r1 with
      | lst h1 h2 =>
        simp only [opAll, Option.map_eq_some_iff] at e
        obtain ⟨bs, eb, rfl⟩ := e
        rw [dBls_some eb] at h2
        exact ⟨_, bs, rfl, by rw [← bls_of h2]; exact SqL.of h1, q _ _ (Out.val (.bl _))⟩
      | _ => cases e
theorem s_any : CallS G (rAny G.K) opAny := by
  intro H B xs as s Q le ra e q
  cases ra with
  | nil => cases e
  | cons r1 r2 =>
    cases r2 with
    | cons _ _ => cases r1 <;> cases e
    | nil =>
      cases r1 with
      | lst h1 h2 =>
        simp only [opAny, Option.map_eq_some_iff] at e
        obtain ⟨bs, eb, rfl⟩ := e
        rw [dBls_some eb] at h2
        exact ⟨_, bs, rfl, by rw [← bls_of h2]; exact SqL.of h1, q _ _ (Out.val (.bl _))⟩
      | _ => cases e
def opSum1 : List D → Option S
  | [.lst ds] => (dInts ds).map fun ns => .sh (.int ns.sum)
  | _ => none
theorem s_sum1 : CallS G (rSum G.K) opSum1 := by
  intro H B xs as s Q le ra e q
  cases ra with
  | nil => cases e
  | cons r1 r2 =>
    cases r2 with
    | cons _ _ => cases r1 <;> cases e
    | nil =>
      cases r1 with
      | lst h1 h2 =>
        simp only [opSum1, Option.map_eq_some_iff] at e
        obtain ⟨bs, eb, rfl⟩ := e
        rw [dInts_some eb] at h2
        exact ⟨_, bs, rfl, by rw [← ints_of h2]; exact SqL.of h1, q _ _ (Out.val (.int _))⟩
      | _ => cases e
def opAbs : List D → Option S
  | [.int i] => some (.sh (.int (if i < 0 then -i else i)))
  | _ => none
theorem s_abs : CallS G (fun xs H Q => ∃ i, xs = [.int i] ∧ Q (.int (if i < 0 then -i else i)) H) opAbs := by
  intro H B xs as s Q le ra e q
  cases ra with
  | nil => cases e
  | cons r1 r2 =>
    cases r2 with
    | cons _ _ => cases r1 <;> cases e
    | nil =>
      cases r1 with
      | int i => cases e; exact ⟨i, rfl, q _ _ (Out.val (.int _))⟩
      | _ => cases e
def opInt : List D → Option S
  | [.int i] => some (.sh (.int i))
  | [.bl b] => some (.sh (.int (if b then 1 else 0)))
  | _ => none
theorem s_int : CallS G (fun xs H Q => (∃ i, xs = [.int i] ∧ Q (.int i) H) ∨ ∃ k, xs = [.bl k] ∧ Q (.int (if k then 1 else 0)) H) opInt := by
  intro H B xs as s Q le ra e q
  cases ra with
  | nil => cases e
  | cons r1 r2 =>
    cases r2 with
    | cons _ _ => cases r1 <;> cases e
    | nil =>
      cases r1 with
      | int i => cases e; exact .inl ⟨i, rfl, q _ _ (Out.val (.int _))⟩
      | bl i => cases e; exact .inr ⟨i, rfl, q _ _ (Out.val (.int _))⟩
      | _ => cases e
def maxI : Int → List Int → Int
  | m, [] => m
  | m, x :: r => maxI (if x > m then x else m) r
def minI : Int → List Int → Int
  | m, [] => m
  | m, x :: r => minI (if x < m then x else m) r
theorem maxI_mem : ∀ (r : List Int) (m : Int), maxI m r ∈ m :: r ∧ ∀ y ∈ m :: r, y ≤ maxI m r
  | [], m => ⟨List.mem_cons_self, fun y hy => by rcases List.mem_cons.mp hy with rfl | hy; exact Int.le_refl _; cases hy⟩
  | x :: r, m => by
    have ih := maxI_mem r (if x > m then x else m)
    have e : maxI m (x :: r) = maxI (if x > m then x else m) r := rfl
    rw [e]
    refine ⟨?_, fun y hy => ?_⟩
    · rcases List.mem_cons.mp ih.1 with h | h
      · rw [h]
        split
        · exact List.mem_cons_of_mem _ List.mem_cons_self
        · exact List.mem_cons_self
      · exact List.mem_cons_of_mem _ (List.mem_cons_of_mem _ h)
    · have h0 := ih.2 _ List.mem_cons_self
      have h1 : x ≤ (if x > m then x else m) ∧ m ≤ (if x > m then x else m) := by split <;> omega
      rcases List.mem_cons.mp hy with rfl | hy
      · exact Int.le_trans h1.2 h0
      · rcases List.mem_cons.mp hy with rfl | hy
        · exact Int.le_trans h1.1 h0
        · exact ih.2 _ (List.mem_cons_of_mem _ hy)
theorem minI_mem : ∀ (r : List Int) (m : Int), minI m r ∈ m :: r ∧ ∀ y ∈ m :: r, minI m r ≤ y
  | [], m => ⟨List.mem_cons_self, fun y hy => by rcases List.mem_cons.mp hy with rfl | hy; exact Int.le_refl _; cases hy⟩
  | x :: r, m => by
    have ih := minI_mem r (if x < m then x else m)
    have e : minI m (x :: r) = minI (if x < m then x else m) r := rfl
    rw [e]
    refine ⟨?_, fun y hy => ?_⟩
    · rcases List.mem_cons.mp ih.1 with h | h
      · rw [h]
        split
        · exact List.mem_cons_of_mem _ List.mem_cons_self
        · exact List.mem_cons_self
      · exact List.mem_cons_of_mem _ (List.mem_cons_of_mem _ h)
    · have h0 := ih.2 _ List.mem_cons_self
      have h1 : (if x < m then x else m) ≤ x ∧ (if x < m then x else m) ≤ m := by split <;> omega
      rcases List.mem_cons.mp hy with rfl | hy
      · exact Int.le_trans h0 h1.2
      · rcases List.mem_cons.mp hy with rfl | hy
        · exact Int.le_trans h0 h1.1
        · exact ih.2 _ (List.mem_cons_of_mem _ hy)
def opMax : List D → Option S
  | [.int i, .int j] => some (.sh (.int (if j > i then j else i)))
  | [.lst ds] => match dInts ds with
    | some (n :: ns) => some (.sh (.int (maxI n ns)))
    | _ => none
  | _ => none
def opMin : List D → Option S
  | [.int i, .int j] => some (.sh (.int (if j < i then j else i)))
  | [.lst ds] => match dInts ds with
    | some (n :: ns) => some (.sh (.int (minI n ns)))
    | _ => none
  | _ => none
abbrev rMaxAll (K : PySem.W.Frag) : List V → Hp → VK → Prop := fun xs H Q => (∃ i j, xs = [.int i, .int j] ∧ Q (.int (if j > i then j else i)) H) ∨ rMax K xs H Q
abbrev rMinAll (K : PySem.W.Frag) : List V → Hp → VK → Prop := fun xs H Q => (∃ i j, xs = [.int i, .int j] ∧ Q (.int (if j < i then j else i)) H) ∨ rMin K xs H Q
theorem cr_maxAll (hc : X.calm = true) : CallR X (.builtin "max") (rMaxAll X.K) := CallR.or (call_max2 hc) (cr_max hc)
theorem cr_minAll (hc : X.calm = true) : CallR X (.builtin "min") (rMinAll X.K) := CallR.or (call_min2 hc) (cr_min hc)
theorem s_max : CallS G (rMaxAll G.K) opMax := by
  intro H B xs as s Q le ra e q
  cases ra with
  | nil => cases e
  | cons r1 r2 =>
    cases r2 with
    | cons r2 r3 =>
      cases r3 with
      | cons _ _ => cases r1 <;> cases r2 <;> cases e
      | nil =>
        cases r1 with
        | int i =>
          cases r2 with
          | int j => cases e; exact .inl ⟨i, j, rfl, q _ _ (Out.val (.int _))⟩
          | _ => cases e
        | _ => cases e
    | nil =>
      cases r1 with
      | @lst a vs ds h1 h2 =>
        simp only [opMax] at e
        cases ed : dInts ds with
        | none => rw [ed] at e; cases e
        | some ns =>
          rw [ed] at e
          cases ns with
          | nil => cases e
          | cons n ns =>
            cases e
            rw [dInts_some ed] at h2
            refine .inr ⟨a, n :: ns, rfl, by rw [← ints_of h2]; exact SqL.of h1, Nat.zero_lt_succ _, fun m hm hle => ?_⟩
            obtain ⟨k1, k2⟩ := maxI_mem ns n
            have em : m = maxI n ns := Int.le_antisymm (k2 m hm) (hle _ k1)
            rw [em]
            exact q _ _ (Out.val (.int _))
      | _ => cases e
theorem s_min : CallS G (rMinAll G.K) opMin := by
  intro H B xs as s Q le ra e q
  cases ra with
  | nil => cases e
  | cons r1 r2 =>
    cases r2 with
    | cons r2 r3 =>
      cases r3 with
      | cons _ _ => cases r1 <;> cases r2 <;> cases e
      | nil =>
        cases r1 with
        | int i =>
          cases r2 with
          | int j => cases e; exact .inl ⟨i, j, rfl, q _ _ (Out.val (.int _))⟩
          | _ => cases e
        | _ => cases e
    | nil =>
      cases r1 with
      | @lst a vs ds h1 h2 =>
        simp only [opMin] at e
        cases ed : dInts ds with
        | none => rw [ed] at e; cases e
        | some ns =>
          rw [ed] at e
          cases ns with
          | nil => cases e
          | cons n ns =>
            cases e
            rw [dInts_some ed] at h2
            refine .inr ⟨a, n :: ns, rfl, by rw [← ints_of h2]; exact SqL.of h1, Nat.zero_lt_succ _, fun m hm hle => ?_⟩
            obtain ⟨k1, k2⟩ := minI_mem ns n
            have em : m = minI n ns := Int.le_antisymm (hle _ k1) (k2 m hm)
            rw [em]
            exact q _ _ (Out.val (.int _))
      | _ => cases e

/-! ### truth -/
def truD : D → Option Bool
  | .non => some false
  | .bl b => some b
  | .int i => some (i != 0)
  | .str z => if z.length ≤ 16777216 then some ((z.length : Int) != 0) else none
  | .lst ds => some (!ds.isEmpty)
  | .tup ds => some (!ds.isEmpty)
  | _ => none
theorem isE_reps {vs : List V} {ds : List D} (h : Reps G B vs ds) : vs.isEmpty = ds.isEmpty := by
  cases h <;> rfl
theorem tru_of {x : V} {d : D} {k : Bool} (le : Le B H) (h : BRep G H B x d) (e : truD d = some k) : TruV G.K x H k := by
  cases h with
  | non => cases e; rfl
  | bl b => cases e; rfl
  | int i => cases e; rfl
  | str z =>
    simp only [truD] at e
    split at e
    · rename_i hz
      cases e
      exact ⟨by rw [sizeLine_eq]; exact hz, rfl⟩
    · cases e
  | lst h1 h2 => cases e; exact .inl ⟨_, SqL.of h1, by rw [isE_reps h2]⟩
  | tup h1 h2 => cases e; exact .inr (.inl ⟨_, (TupX.le h1 le).sq, by rw [isE_reps h2]⟩)
  | _ => cases e
end
end T

/-! TStmt: tests, statements, while. -/
namespace T
open PySem PySem.Spec PyProof.Rows L2

section
variable {G : Gh} {F : Fr} {W : WX} {σ : L2.St} {H : Hp} {env : Env} {ts : List (V × S)} {X : Cx}
/-! ### tests -/
def asB : Option D → Env → Res Bool
  | some (.bl b), e => .ok b e
  | _, _ => .bad
def asT (o : Option D) (e : Env) : Res Bool := match o with
  | some d => .get (truD d) e
  | none => .bad
/-- a test whose value is a bool | whatever it is -/
def dtB (f : Den) : Env → Res Bool := fun env => (f env).bind fun s e => asB (rd e s) e
def dtT (f : Den) : Env → Res Bool := fun env => (f env).bind fun s e => asT (rd e s) e
def dtNot (t : Env → Res Bool) : Env → Res Bool := fun env => (t env).bind fun b e => .ok (!b) e
def dtAnd (t u : Env → Res Bool) : Env → Res Bool := fun env => (t env).bind fun b e => if b = true then u e else .ok false e
def dtOr (t u : Env → Res Bool) : Env → Res Bool := fun env => (t env).bind fun b e => if b = true then .ok true e else u e
theorem tB_of {f : Den} {Q : Bool → Hp → Prop} (h : tT G W (dtB f) σ H Q) : tD G W f σ H fun x H' => ∃ k, x = .bl k ∧ Q k H' := by
  obtain ⟨F, ts, env, h, q⟩ := h
  rw [dtB, Res.wp_bind] at q
  refine tD.mk h (Res.wp_mono q (fun s e q v H1 h1 => ?_) fun _ _ z => z)
  cases er : rd e s with
  | none => rw [er] at q; exact q.elim
  | some d =>
    rw [er] at q
    obtain ⟨w, h1⟩ := h1
    have ra := h1.read (j := ts.length) (x := v) (s := s) (by simp) er
    cases ra with
    | bl b => exact ⟨b, rfl, q H1 ⟨w, h1.drop⟩⟩
    | _ => exact q.elim
theorem tTru_of {f : Den} {Q : Bool → Hp → Prop} (h : tT G W (dtT f) σ H Q) : tD G W f σ H fun x H' => ∃ k, TruV G.K x H' k ∧ Q k H' := by
  obtain ⟨F, ts, env, h, q⟩ := h
  rw [dtT, Res.wp_bind] at q
  refine tD.mk h (Res.wp_mono q (fun s e q v H1 h1 => ?_) fun _ _ z => z)
  cases er : rd e s with
  | none => rw [er] at q; exact q.elim
  | some d =>
    rw [er] at q
    obtain ⟨b, eb, q⟩ := Res.wp_get.mp q
    obtain ⟨w, h1⟩ := h1
    have ra := h1.read (j := ts.length) (x := v) (s := s) (by simp) er
    exact ⟨b, tru_of hide_le ra eb, q H1 ⟨w, h1.drop⟩⟩
theorem dt_cmp {a b : Expr} {pos : Pos} {o : CmpOp} {r : R2} {op : D → D → Option S} {f g : Den} (ho : OpR X (compareOp o) r) (hs : OpS G r op) (ha : PE X a (tD G W f)) (hb : PE X b (tD G W g)) (hm : behindInMarks o b = false) : PT X (.Compare a [o] [b] pos) (tT G W (dtB (d2 op f g))) :=
  ptImp (pt_cmpR ho ha hb hm) fun _ _ _ h => tOp_of hs (tB_of h)
theorem dt_truth {a : Expr} {f : Den} (ha : PE X a (tD G W f)) (he : ∀ whole, isTrue a X.env whole = (do let v ← whole; standAt a.pos; holding [v] (truthy v))) (hK : X.K = G.K := by rfl) : PT X a (tT G W (dtT f)) :=
  ptImp (pt_truth ha he) fun _ _ _ h => by rw [hK]; exact tTru_of h
theorem dw_and1 {a : Expr} {pos : Pos} {t : Env → Res Bool} (h : PT X a (tT G W t)) : PW X (.BoolOp .And [a] pos) (tT G W t) := pw_and1 h
theorem dw_or1 {a : Expr} {pos : Pos} {t : Env → Res Bool} (h : PT X a (tT G W t)) : PW X (.BoolOp .Or [a] pos) (tT G W t) := pw_or1 h
theorem dw_and {a b : Expr} {rest : List Expr} {pos : Pos} {t u : Env → Res Bool} (ha : PT X a (tT G W t)) (hb : PW X (.BoolOp .And (b :: rest) pos) (tT G W u)) : PW X (.BoolOp .And (a :: b :: rest) pos) (tT G W (dtAnd t u)) := by
  refine pwImp (pw_and ha hb) fun σ H Q ⟨F, ts, env, h, q⟩ => ?_
  rw [dtAnd, Res.wp_bind] at q
  refine tT.mk h (Res.wp_mono q (fun b e q H1 h1 => ?_) fun _ _ z => z)
  cases b with
  | true => exact tT.mk h1 q
  | false => exact q H1 h1
theorem dw_or {a b : Expr} {rest : List Expr} {pos : Pos} {t u : Env → Res Bool} (ha : PT X a (tT G W t)) (hb : PW X (.BoolOp .Or (b :: rest) pos) (tT G W u)) : PW X (.BoolOp .Or (a :: b :: rest) pos) (tT G W (dtOr t u)) := by
  refine pwImp (pw_or ha hb) fun σ H Q ⟨F, ts, env, h, q⟩ => ?_
  rw [dtOr, Res.wp_bind] at q
  refine tT.mk h (Res.wp_mono q (fun b e q H1 h1 => ?_) fun _ _ z => z)
  cases b with
  | true => exact q H1 h1
  | false => exact tT.mk h1 q
theorem dt_not {a : Expr} {pos : Pos} {t : Env → Res Bool} (ha : PT X a (tT G W t)) : PT X (.UnaryOp .Not a pos) (tT G W (dtNot t)) := by
  refine ptImp (pt_not ha) fun σ H Q ⟨F, ts, env, h, q⟩ => ?_
  rw [dtNot, Res.wp_bind] at q
  exact tT.mk h (Res.wp_mono q (fun b e q H1 h1 => q H1 h1) fun _ _ z => z)
/-! as values -/
def dIf (t : Env → Res Bool) (f g : Den) : Den := fun env => (t env).bind fun b e => if b = true then f e else g e
theorem de_if {c a b : Expr} {pos : Pos} {t : Env → Res Bool} {f g : Den} (hc : PT X c (tT G W t)) (ha : PE X a (tD G W f)) (hb : PE X b (tD G W g)) : PE X (.IfExp c a b pos) (tD G W (dIf t f g)) := by
  refine peImp (pe_ifExp hc ha hb) fun σ H Q ⟨F, ts, env, h, q⟩ => ?_
  rw [dIf, Res.wp_bind] at q
  refine tT.mk h (Res.wp_mono q (fun b e q H1 h1 => ?_) fun _ _ z => z)
  cases b with
  | true => exact tD.mk h1 q
  | false => exact tD.mk h1 q
def dAnd (f g : Den) : Den := fun env => (f env).bind fun s e => (asT (rd e s) e).bind fun b e' => if b = true then g e' else .ok s e'
def dOr (f g : Den) : Den := fun env => (f env).bind fun s e => (asT (rd e s) e).bind fun b e' => if b = true then .ok s e' else g e'
theorem asT_wp {o : Option D} {e : Env} {Q : Bool → Env → Prop} {E : Exn → Env → Prop} (h : (asT o e).wp Q E) : ∃ d b, o = some d ∧ truD d = some b ∧ Q b e := by
  unfold asT at h
  split at h
  · obtain ⟨b, eb, q⟩ := Res.wp_get.mp h
    exact ⟨_, b, rfl, eb, q⟩
  · exact h.elim
theorem de_one {op} {a : Expr} {pos : Pos} {f : Den} (h : PE X a (tD G W f)) : PE X (.BoolOp op [a] pos) (tD G W f) := pe_one h
theorem de_and {a b : Expr} {rest : List Expr} {pos : Pos} {f g : Den} (ha : PE X a (tD G W f)) (hb : PE X (.BoolOp .And (b :: rest) pos) (tD G W g)) (hK : X.K = G.K := by rfl) : PE X (.BoolOp .And (a :: b :: rest) pos) (tD G W (dAnd f g)) := by
  refine peImp (pe_andT ha hb) fun σ H Q ⟨F, ts, env, h, q⟩ => ?_
  rw [dAnd, Res.wp_bind] at q
  refine tD.mk h (Res.wp_mono q (fun s e q v H1 h1 => ?_) fun _ _ z => z)
  rw [Res.wp_bind] at q
  obtain ⟨d, b, ed, eb, q⟩ := asT_wp q
  obtain ⟨w, h1⟩ := h1
  refine ⟨b, by rw [hK]; exact tru_of hide_le (h1.read (j := ts.length) (x := v) (s := s) (by simp) ed) eb, ?_⟩
  cases b with
  | true => exact tD.mk ⟨w, h1.drop⟩ q
  | false => exact q v H1 ⟨w, h1⟩
theorem de_or {a b : Expr} {rest : List Expr} {pos : Pos} {f g : Den} (ha : PE X a (tD G W f)) (hb : PE X (.BoolOp .Or (b :: rest) pos) (tD G W g)) (hK : X.K = G.K := by rfl) : PE X (.BoolOp .Or (a :: b :: rest) pos) (tD G W (dOr f g)) := by
  refine peImp (pe_orT ha hb) fun σ H Q ⟨F, ts, env, h, q⟩ => ?_
  rw [dOr, Res.wp_bind] at q
  refine tD.mk h (Res.wp_mono q (fun s e q v H1 h1 => ?_) fun _ _ z => z)
  rw [Res.wp_bind] at q
  obtain ⟨d, b, ed, eb, q⟩ := asT_wp q
  obtain ⟨w, h1⟩ := h1
  refine ⟨b, by rw [hK]; exact tru_of hide_le (h1.read (j := ts.length) (x := v) (s := s) (by simp) ed) eb, ?_⟩
  cases b with
  | true => exact q v H1 ⟨w, h1⟩
  | false => exact tD.mk ⟨w, h1.drop⟩ q
def dNot (f : Den) : Den := fun env => (f env).bind fun s e => (asT (rd e s) e).bind fun b e' => .ok (.sh (.bl (!b))) e'
theorem de_not {a : Expr} {pos : Pos} {f : Den} (ha : PE X a (tD G W f)) (hK : X.K = G.K := by rfl) : PE X (.UnaryOp .Not a pos) (tD G W (dNot f)) := by
  refine peImp (pe_notT ha) fun σ H Q ⟨F, ts, env, h, q⟩ => ?_
  rw [dNot, Res.wp_bind] at q
  refine tD.mk h (Res.wp_mono q (fun s e q v H1 h1 => ?_) fun _ _ z => z)
  rw [Res.wp_bind] at q
  obtain ⟨d, b, ed, eb, q⟩ := asT_wp q
  obtain ⟨w, h1⟩ := h1
  exact ⟨b, by rw [hK]; exact tru_of hide_le (h1.read (j := ts.length) (x := v) (s := s) (by simp) ed) eb, q _ H1 ⟨w, h1.drop.pushSh (.bl _)⟩⟩
/-- a op b op' c -/
def dChain (op op' : D → D → Option S) (f g k : Den) : Den := fun env => (f env).bind fun s e => (g e).bind fun s' e' => (asB (match bi2 op (rd e' s) (rd e' s') with | some (.sh d) => some d | _ => none) e').bind fun b e2 =>
  if b = true then (k e2).bind fun s2 e3 => .get (bi2 op' (rd e3 s') (rd e3 s2)) e3 else .ok (.sh (.bl false)) e2
theorem asB_wp {o : Option D} {e : Env} {Q : Bool → Env → Prop} {E : Exn → Env → Prop} (h : (asB o e).wp Q E) : ∃ b, o = some (.bl b) ∧ Q b e := by
  unfold asB at h
  split at h
  · exact ⟨_, rfl, h⟩
  · exact h.elim
theorem tChain_of {r r' : R2} {op op' : D → D → Option S} {f g k : Den} {Q : VK} (hs : OpS G r op) (hs' : OpS G r' op') (h : tD G W (dChain op op' f g k) σ H Q) : tChain r r' (tD G W f) (tD G W g) (tD G W k) σ H Q := by
  obtain ⟨F, ts, env, h, q⟩ := h
  rw [dChain, Res.wp_bind] at q
  refine tD.mk h (Res.wp_mono q (fun s e q v H1 h1 => ?_) fun _ _ z => z)
  rw [Res.wp_bind] at q
  refine tD.mk h1 (Res.wp_mono q (fun s' e' q v' H2 h2 => ?_) fun _ _ z => XP.drop z)
  rw [Res.wp_bind] at q
  obtain ⟨b, eb, q⟩ := asB_wp q
  split at eb
  · rename_i d eo
    cases eb
    obtain ⟨a, c, ea, ec, eo⟩ := bi2_some eo
    obtain ⟨w, h2⟩ := h2
    have ra := h2.read (j := ts.length) (x := v) (s := s) (by simp) ea
    have rb := h2.read (j := ts.length + 1) (x := v') (s := s') (by simp) ec
    refine hs H2 _ v v' a c _ _ hide_le ra rb eo fun u H3 o => ?_
    obtain ⟨w3, h3, _⟩ := h2.pushOut o
    have hu : u = .bl b := by
      have z := h3.tmp (ts.length + 2) u (.sh (.bl b)) (by simp)
      obtain ⟨x, ex, r⟩ := z
      cases ex
      cases r
      rfl
    refine ⟨b, hu, ?_⟩
    have h3' := h3.drop
    cases b with
    | false =>
      rw [if_neg Bool.false_ne_true]
      rw [if_neg Bool.false_ne_true] at q
      exact q _ H3 ⟨w3, h3'.drop.drop.pushSh (.bl _)⟩
    | true =>
      rw [if_pos rfl]
      rw [if_pos rfl, Res.wp_bind] at q
      refine tD.mk ⟨w3, h3'⟩ (Res.wp_mono q (fun s2 e3 q v2 H4 h4 => ?_) fun _ _ z => XP.drop (XP.drop z))
      obtain ⟨s4, e4, q⟩ := wpGet q
      obtain ⟨a', c', ea', ec', eo'⟩ := bi2_some e4
      obtain ⟨w4, h4⟩ := h4
      have ra' := h4.read (j := ts.length + 1) (x := v') (s := s') (by simp) ea'
      have rb' := h4.read (j := ts.length + 2) (x := v2) (s := s2) (by simp) ec'
      exact hs' H4 _ v' v2 a' c' s4 Q hide_le ra' rb' eo' fun u' H5 o' => q u' H5 (Rel.out (B := H) h4.drop.drop.drop o')
  · cases eb
theorem de_chain {a b c : Expr} {pos : Pos} {o o' : CmpOp} {r r' : R2} {op op' : D → D → Option S} {f g k : Den} (ho : OpR X (compareOp o) r) (ho' : OpR X (compareOp o') r') (hs : OpS G r op) (hs' : OpS G r' op') (ha : PE X a (tD G W f)) (hb : PE X b (tD G W g)) (hc : PE X c (tD G W k))
    (hm : lastMarks [o, o'] [b, c] = false := by with_unfolding_all rfl) : PE X (.Compare a [o, o'] [b, c] pos) (tD G W (dChain op op' f g k)) := peImp (pe_chain ho ho' ha hb hc hm) fun _ _ _ h => tChain_of hs hs' h
theorem dt_chain {a b c : Expr} {pos : Pos} {o o' : CmpOp} {r r' : R2} {op op' : D → D → Option S} {f g k : Den} (ho : OpR X (compareOp o) r) (ho' : OpR X (compareOp o') r') (hs : OpS G r op) (hs' : OpS G r' op') (ha : PE X a (tD G W f)) (hb : PE X b (tD G W g)) (hc : PE X c (tD G W k))
    (hm : lastMarks [o, o'] [b, c] = false := by with_unfolding_all rfl) : PT X (.Compare a [o, o'] [b, c] pos) (tT G W (dtB (dChain op op' f g k))) := ptImp (pt_chain ho ho' ha hb hc hm) fun _ _ _ h => tChain_of hs hs' (tB_of h)

/-! ### statements -/
inductive Fl where
  | next | brk | cont
  | ret (s : S)
abbrev DenS := Env → Res Fl
/-- slots that are never stored -/
def Fix (fx : Nat → Bool) (σ σ' : L2.St) : Prop := σ'.length = σ.length ∧ ∀ i, fx i = true → σ'[i]? = σ[i]?
theorem Fix.refl {fx : Nat → Bool} {σ : L2.St} : Fix fx σ σ := ⟨rfl, fun _ _ => rfl⟩
theorem Fix.trans {fx : Nat → Bool} {σ σ' σ2 : L2.St} (a : Fix fx σ σ') (b : Fix fx σ' σ2) : Fix fx σ σ2 := ⟨b.1.trans a.1, fun i h => (b.2 i h).trans (a.2 i h)⟩
theorem Fix.set {fx : Nat → Bool} {σ σ' : L2.St} {i : Nat} {v : Option V} (a : Fix fx σ σ') (h : fx i = false) : Fix fx σ (σ'.set i v) := ⟨by rw [List.length_set]; exact a.1, fun j hj => by
  rw [List.getElem?_set_ne (fun z => by rw [z, hj] at h; cases h)]
  exact a.2 j hj⟩
abbrev shs (bs : List (V × D)) : List (V × S) := bs.map fun p => (p.1, S.sh p.2)
theorem shs_nb {bs : List (V × D)} {i : Nat} : ∀ t ∈ shs bs, t.2 ≠ .bo i := fun t ht z => by
  obtain ⟨p, _, e⟩ := List.mem_map.mp ht
  rw [← e] at z
  cases z
def SQ (G : Gh) (F : Fr) (fx : Nat → Bool) (bs : List (V × D)) (σ : L2.St) (Dn : Ends) : Fl → Env → Prop
  | .next, e => ∀ σ' H', Fix fx σ σ' → Rel G F σ' H' e (shs bs) → Dn.nx σ' H'
  | .brk, e => ∀ σ' H', Fix fx σ σ' → Rel G F σ' H' e (shs bs) → Dn.bk σ' H'
  | .cont, e => ∀ σ' H', Fix fx σ σ' → Rel G F σ' H' e (shs bs) → Dn.ct σ' H'
  | .ret s, e => ∀ v σ' H', Fix fx σ σ' → Rel G F σ' H' e (shs bs ++ [(v, s)]) → Dn.rt v H'
def SX (G : Gh) (F : Fr) (fx : Nat → Bool) (bs : List (V × D)) (W : WX) (σ : L2.St) (x : Exn) (e : Env) : Prop := ∀ d σ' H', Fix fx σ σ' → Rel G F σ' H' e (shs bs) → XD x d H' → W (.ref (G.C x.cls)) d σ' H'
def tS (G : Gh) (W : WX) (fx : Nat → Bool) (f : DenS) : TS := fun Dn σ H => ∃ F bs env, Rel G F σ H env (shs bs) ∧ (f env).wp (SQ G F fx bs σ Dn) (SX G F fx bs W σ)
variable {fx : Nat → Bool} {bs : List (V × D)} {Dn : Ends}
theorem SX.xp {x : Exn} {e : Env} (h : SX G F fx bs W σ x e) : XP G F (shs bs) W σ x e := fun d H' r q => h d σ H' Fix.refl r q
theorem SX.step {σ' : L2.St} {x : Exn} {e : Env} (h : SX G F fx bs W σ x e) (a : Fix fx σ σ') : SX G F fx bs W σ' x e := fun d σ2 H' b r q => h d σ2 H' (a.trans b) r q
theorem SQ.step {σ' : L2.St} {fl : Fl} {e : Env} (h : SQ G F fx bs σ Dn fl e) (a : Fix fx σ σ') : SQ G F fx bs σ' Dn fl e := by
  cases fl with
  | next => exact fun σ2 H' b r => h σ2 H' (a.trans b) r
  | brk => exact fun σ2 H' b r => h σ2 H' (a.trans b) r
  | cont => exact fun σ2 H' b r => h σ2 H' (a.trans b) r
  | ret s => exact fun v σ2 H' b r => h v σ2 H' (a.trans b) r
def dSkip : DenS := fun env => .ok .next env
def dSeq (f g : DenS) : DenS := fun env => (f env).bind fun fl e => match fl with
  | .next => g e
  | .brk => .ok .brk e
  | .cont => .ok .cont e
  | .ret s => .ok (.ret s) e
theorem ds_nil : PSs X [] (tS G W fx dSkip) := pssImp pss_nil fun Dn σ H ⟨F, bs, env, h, q⟩ => q σ H Fix.refl h
theorem ds_cons {st : Stmt} {rest : List Stmt} {f g : DenS} (h1 : PS X st (tS G W fx f)) (h2 : PSs X rest (tS G W fx g)) : PSs X (st :: rest) (tS G W fx (dSeq f g)) := by
  refine pssImp (pss_cons h1 h2) fun Dn σ H ⟨F, bs, env, h, q⟩ => ?_
  rw [dSeq, Res.wp_bind] at q
  refine ⟨F, bs, env, h, Res.wp_mono q (fun fl e q => ?_) fun _ _ z => z⟩
  cases fl with
  | next => exact fun σ' H' a r => ⟨F, bs, e, r, Res.wp_mono q (fun _ _ z => z.step a) fun _ _ z => z.step a⟩
  | brk => exact q
  | cont => exact q
  | ret s => exact q
theorem ds_one {st : Stmt} {f : DenS} (h1 : PS X st (tS G W fx f)) : PSs X [st] (tS G W fx f) := pss_one h1
theorem ds_bad {st : Stmt} : PS X st (tS G W fx fun _ => .bad) := psImp ps_never fun _ _ _ ⟨_, _, _, _, q⟩ => q.elim
theorem ds_bads {sts : List Stmt} : PSs X sts (tS G W fx fun _ => .bad) := pssImp pss_never fun _ _ _ ⟨_, _, _, _, q⟩ => q.elim
theorem ds_pass {pos : Pos} : PS X (.Pass pos) (tS G W fx dSkip) := psImp ps_pass fun Dn σ H ⟨F, bs, env, h, q⟩ => q σ H Fix.refl h
theorem ds_break {pos : Pos} : PS X (.Break pos) (tS G W fx fun e => .ok .brk e) := psImp ps_break fun Dn σ H ⟨F, bs, env, h, q⟩ => q σ H Fix.refl h
theorem ds_continue {pos : Pos} : PS X (.Continue pos) (tS G W fx fun e => .ok .cont e) := psImp ps_continue fun Dn σ H ⟨F, bs, env, h, q⟩ => q σ H Fix.refl h
theorem ds_doc {x j pos pos'} : PS X (.Expr (.Constant (.str x) j pos) pos') (tS G W fx dSkip) := psImp ps_doc fun Dn σ H ⟨F, bs, env, h, q⟩ => q σ H Fix.refl h
def dExpr (f : Den) : DenS := fun env => (f env).bind fun _ e => .ok .next e
theorem ds_expr {e : Expr} {pos : Pos} {f : Den} (he : PE X e (tD G W f)) (hs : swapsWith e none pos.line X.env = pure false := by rfl) : PS X (.Expr e pos) (tS G W fx (dExpr f)) := by
  refine psImp (ps_expr he hs) fun Dn σ H ⟨F, bs, env, h, q⟩ => ?_
  rw [dExpr, Res.wp_bind] at q
  exact tD.mk h (Res.wp_mono q (fun s e q v H1 h1 => q σ H1 Fix.refl h1.drop) fun _ _ z => z.xp)
/-- what is handed out: a slot's own thing goes along -/
def out1 (e : Env) : S → Res Fl
  | .sh d => .ok (.ret (.sh d)) e
  | .ow d => .ok (.ret (.ow d)) e
  | .bo j => match e[j]? with
    | some (.ow d) => .ok (.ret (.ow d)) (e.set j .no)
    | some (.sh d) => .ok (.ret (.sh d)) e
    | _ => .bad
  | _ => .bad
def dRet (f : Den) : DenS := fun env => (f env).bind fun s e => out1 e s
theorem set_same {α : Type} {xs : List α} {i : Nat} {a : α} (h : xs[i]? = some a) : xs.set i a = xs := by
  refine List.ext_getElem? fun j => ?_
  by_cases hj : j = i
  · subst hj
    rw [List.getElem?_set_self (List.getElem?_eq_some_iff.mp h).1, h]
  · rw [List.getElem?_set_ne (Ne.symm hj)]
/-- a slot's own thing is taken out of it -/
theorem RelW.take {w : Addr → Option Nat} {v : V} {j : Nat} {d : D} (h : RelW G F w σ H env (shs bs ++ [(v, .bo j)])) (e : env[j]? = some (.ow d)) : Rel G F σ H (env.set j .no) (shs bs ++ [(v, .ow d)]) := by
  obtain ⟨x, ex, eσ, s', es, _⟩ := h.tmp (shs bs).length v (.bo j) (by simp)
  cases ex
  have hj := (h.ent j _ e).2
  rw [eσ] at hj
  obtain ⟨a, o, ea, hw, ha, hm, ho⟩ := hj
  cases ea
  have hjl : j < env.length := (List.getElem?_eq_some_iff.mp e).1
  have h1 := (h.drop).forget (i := j) (v := σ[j]?.getD none) shs_nb
  have eσ2 : σ.set j (σ[j]?.getD none) = σ := by
    rw [eσ]
    exact set_same eσ
  rw [eσ2] at h1
  -- the owner is the entry at the end from now on
  have hle : Le (hide H w) (hide H fun b => if w b = some (j + 1) then some ((env.set j .no).length + (shs bs).length + 1) else w b) := hide_mono fun b o q _ r => ⟨by rw [if_neg (by rw [q]; exact fun z => nomatch z)]; exact q, r⟩
  have kw : ∀ k b, k ≠ j + 1 → w b = some k → (if w b = some (j + 1) then some ((env.set j .no).length + (shs bs).length + 1) else w b) = some k ∧ ∀ o, H b = some o → H b = some o := fun k b n q => ⟨by rw [if_neg (by rw [q]; exact fun z => n (Option.some.inj z))]; exact q, fun o r => r⟩
  refine ⟨fun b => if w b = some (j + 1) then some ((env.set j .no).length + (shs bs).length + 1) else w b, RelW.push ⟨h1.len, fun i s' q => ⟨(h1.ent i s' q).1, ?_⟩, fun i y s' q => (h1.tmp i y s' q).mono hle fun b r => kw _ b (by rw [List.length_set]; omega) r, fun b k q => ?_, fun b => (h1.fgn b).trans ⟨fun q => by rw [if_neg (by rw [q]; simp)]; exact q, fun q => ?_⟩, h1.fgh, h1.keep, h1.there, h1.tabs⟩ ?_⟩
  · by_cases hi : i = j
    · subst hi
      rw [List.getElem?_set_self hjl] at q
      cases q
      exact True.intro
    · exact (h1.ent i s' q).2.mono hle fun b r => kw _ b (by omega) r
  · by_cases hb : w b = some (j + 1)
    · exact h1.own b j hb
    · rw [if_neg hb] at q
      exact h1.own b k q
  · split at q
    · cases q
    · exact q
  · exact ⟨a, o, rfl, if_pos hw, ha, hm, ho.le hle⟩
theorem ds_ret {e : Expr} {pos : Pos} {f : Den} (he : PE X e (tD G W f)) : PS X (.Return (some e) pos) (tS G W fx (dRet f)) := by
  refine psImp (ps_ret he) fun Dn σ H ⟨F, bs, env, h, q⟩ => ?_
  rw [dRet, Res.wp_bind] at q
  refine tD.mk h (Res.wp_mono q (fun s e q v H1 h1 => ?_) fun _ _ z => z.xp)
  cases s with
  | no => exact q.elim
  | tok => exact q.elim
  | sh d => exact q v σ H1 Fix.refl h1
  | ow d => exact q v σ H1 Fix.refl h1
  | bo j =>
    simp only [out1] at q
    split at q
    · rename_i d ej
      obtain ⟨w, h1⟩ := h1
      exact q v σ H1 Fix.refl (h1.take ej)
    · rename_i d ej
      obtain ⟨w, h1⟩ := h1
      obtain ⟨w2, h2, _⟩ := h1.esc (j := (shs bs).length) (x := v) (s := .bo j) (d := d) (env' := e) (by simp) (by simp only [T.esc, ej])
      refine q v σ H1 Fix.refl ⟨w2, ?_⟩
      rw [List.set_append_right _ _ (Nat.le_refl _), Nat.sub_self] at h2
      exact h2
    · exact q.elim
def dRetN : DenS := fun env => .ok (.ret (.sh .non)) env
theorem ds_retN {pos : Pos} : PS X (.Return none pos) (tS G W fx dRetN) := psImp ps_retN fun Dn σ H ⟨F, bs, env, ⟨w, h⟩, q⟩ => q .non σ H Fix.refl ⟨w, h.pushSh .non⟩
def dIfS (t : Env → Res Bool) (f g : DenS) : DenS := fun env => (t env).bind fun b e => if b = true then f e else g e
theorem ds_if {c : Expr} {p r : List Stmt} {pos : Pos} {t : Env → Res Bool} {f g : DenS} (hc : PT X c (tT G W t)) (ha : PSs X p (tS G W fx f)) (hb : PSs X r (tS G W fx g)) : PS X (.If c p r pos) (tS G W fx (dIfS t f g)) := by
  refine psImp (ps_if hc ha hb) fun Dn σ H ⟨F, bs, env, h, q⟩ => ?_
  rw [dIfS, Res.wp_bind] at q
  refine tT.mk h (Res.wp_mono q (fun b e q H1 h1 => ?_) fun _ _ z => z.xp)
  cases b with
  | true => exact ⟨F, bs, e, h1, q⟩
  | false => exact ⟨F, bs, e, h1, q⟩
/-! ### a name is stored -/
def asg (e : Env) : S → Option (S × Env)
  | .sh d => some (.sh d, e)
  | .ow d => some (.ow d, e)
  | .bo j => match e[j]? with
    | some (.sh d) => some (.sh d, e)
    | some (.ow d) => some (.sh d, e.set j (.sh d))
    | _ => none
  | _ => none
def stN (i : Nat) : Option (S × Env) → Res Fl
  | some (s, e) => .ok .next (e.set i s)
  | none => .bad
def dSet (i : Nat) (f : Den) : DenS := fun env => (f env).bind fun s e => stN i (asg e s)
theorem RelW.asg {w : Addr → Option Nat} {v : V} {s s' : S} {env' : Env} (h : RelW G F w σ H env (shs bs ++ [(v, s)])) (e : T.asg env s = some (s', env')) : (∃ w', RelW G F w' σ H env' (shs bs ++ [(v, s')]) ∧ Le (hide H w) (hide H w')) ∧ ∀ j, s' ≠ .bo j := by
  cases s with
  | no => cases e
  | tok => cases e
  | sh d => cases e; exact ⟨⟨w, h, Le.refl _⟩, fun _ z => nomatch z⟩
  | ow d => cases e; exact ⟨⟨w, h, Le.refl _⟩, fun _ z => nomatch z⟩
  | bo j =>
    have key : ∀ d, T.esc env (.bo j) = some (d, env') → s' = .sh d → (∃ w', RelW G F w' σ H env' (shs bs ++ [(v, s')]) ∧ Le (hide H w) (hide H w')) ∧ ∀ j, s' ≠ .bo j := fun d z1 z2 => by
      subst z2
      obtain ⟨w2, h2, l2⟩ := h.esc (j := (shs bs).length) (x := v) (s := .bo j) (by simp) z1
      rw [List.set_append_right _ _ (Nat.le_refl _), Nat.sub_self] at h2
      exact ⟨⟨w2, h2, l2⟩, fun _ z => nomatch z⟩
    simp only [T.asg] at e
    split at e
    · rename_i d ej
      cases e
      exact key d (by simp only [T.esc, ej]) rfl
    · rename_i d ej
      cases e
      exact key d (by simp only [T.esc, ej]) rfl
    · cases e
theorem RelW.put {w : Addr → Option Nat} {v : V} {s : S} {i : Nat} (h : RelW G F w σ H env (shs bs ++ [(v, s)])) (hs : ∀ j, s ≠ .bo j) : ∃ w', RelW G F w' (σ.set i (some v)) H (env.set i s) (shs bs) ∧ Le (hide H w) (hide H w') := by
  by_cases hi : i < σ.length
  · exact h.store hi shs_nb hs
  · rw [List.set_eq_of_length_le (Nat.le_of_not_lt hi), List.set_eq_of_length_le (by rw [h.len]; exact Nat.le_of_not_lt hi)]
    exact ⟨w, h.drop, Le.refl _⟩
theorem stN_wp {i : Nat} {o : Option (S × Env)} {Q : Fl → Env → Prop} {E : Exn → Env → Prop} (h : (stN i o).wp Q E) : ∃ s e, o = some (s, e) ∧ Q .next (e.set i s) := by
  unfold stN at h
  split at h
  · exact ⟨_, _, rfl, h⟩
  · exact h.elim
theorem ds_set {i : Nat} {x : Str} {e : Expr} {f : Den} {pos pos' : Pos} (hN : X.N.Nodup) (hi : X.N[i]? = some x) (hx : Loc X.env.scope x) (hfx : fx i = false) (he : PE X e (tD G W f)) (hs : swapsWith e (some (.Name x pos')) pos.line X.env = pure false := by rfl) (hf : X.fn x = true ∨ X.env.scope.names.lookup x = some .local := by first | exact .inl rfl | exact .inr rfl | assumption) :
    PS X (.Assign [.Name x pos'] e pos) (tS G W fx (dSet i f)) := by
  refine psImp (ps_set hN hi hx he hs hf) fun Dn σ H ⟨F, bs, env, h, q⟩ => ?_
  rw [dSet, Res.wp_bind] at q
  refine tD.mk h (Res.wp_mono q (fun s e q v H1 h1 => ?_) fun _ _ z => z.xp)
  obtain ⟨s', e', ea, q⟩ := stN_wp q
  obtain ⟨w, h1⟩ := h1
  obtain ⟨⟨w2, h2, _⟩, hn⟩ := h1.asg ea
  obtain ⟨w3, h3, _⟩ := h2.put (i := i) hn
  exact q _ H1 (Fix.refl.set hfx) ⟨w3, h3⟩

/-! ### while -/
def dWhile (t : Env → Res Bool) (f : DenS) : Nat → DenS
  | 0 => fun _ => .bad
  | n + 1 => fun env => (t env).bind fun b e => if b = true then (f e).bind fun fl e' => (match fl with
    | .next => dWhile t f n e'
    | .cont => dWhile t f n e'
    | .brk => .ok .next e'
    | .ret s => .ok (.ret s) e') else .ok .next e
theorem ds_while {c : Expr} {body : List Stmt} {pos : Pos} {t : Env → Res Bool} {f : DenS} (n : Nat) (hp : PassesOwn (model X.prog X.w) X.A X.env X.xe) (hc : PT X c (tT G W t)) (hb : PSs X body (tS G W fx f)) : PS X (.While c body [] pos) (tS G W fx (dWhile t f n)) := by
  refine psImp (ps_while hp hc hb) fun Dn σ H ⟨F, bs, env, h, q⟩ => ?_
  refine ⟨fun m σ' H' => ∃ env', Fix fx σ σ' ∧ Rel G F σ' H' env' (shs bs) ∧ (dWhile t f m env').wp (SQ G F fx bs σ Dn) (SX G F fx bs W σ), ⟨n, env, Fix.refl, h, q⟩, ?_⟩
  rintro m σ1 H1 ⟨e1, fx1, h1, q1⟩
  cases m with
  | zero => exact q1.elim
  | succ m =>
    rw [dWhile, Res.wp_bind] at q1
    refine tT.mk h1 (Res.wp_mono q1 (fun b e q H2 h2 => ?_) fun _ _ z => (z.step fx1).xp)
    cases b with
    | false => exact q σ1 H2 fx1 h2
    | true =>
      rw [if_pos rfl]
      rw [if_pos rfl, Res.wp_bind] at q
      refine ⟨fun σ' H' => ∃ env', Fix fx σ σ' ∧ Rel G F σ' H' env' (shs bs) ∧ (dWhile t f m env').wp (SQ G F fx bs σ Dn) (SX G F fx bs W σ), fun σ' H' z => ⟨m, Nat.lt_succ_self m, z⟩, F, bs, e, h2, Res.wp_mono q (fun fl e' q => ?_) fun _ _ z => z.step fx1⟩
      cases fl with
      | next => exact fun σ' H' a r => ⟨e', fx1.trans a, r, q⟩
      | cont => exact fun σ' H' a r => ⟨e', fx1.trans a, r, q⟩
      | brk => exact fun σ' H' a r => q σ' H' (fx1.trans a) r
      | ret s => exact fun v σ' H' a r => q v σ' H' (fx1.trans a) r
end
end T

/-! TLoop: targets, what is walked, for, comprehensions. -/
namespace T
open PySem PySem.Spec PyProof.Rows L2

section
variable {G : Gh} {F : Fr} {W : WX} {σ : L2.St} {H : Hp} {env : Env} {ts : List (V × S)} {X : Cx} {fx : Nat → Bool} {bs : List (V × D)}
/-! ### entries told anew -/
theorem EntOk.re {w : Addr → Option Nat} {i k : Nat} {v : Option V} {s : S} {σ2 : L2.St} {env2 : Env} {ι : Nat → Option Nat} (h : EntOk G H w σ env i v s) (hs : ∀ j, s ≠ .bo j) (hι : (∃ d, s = .ow d) ∨ s = .tok → ι i = some k) : EntOk G H (fun a => (w a).bind ι) σ2 env2 k v s := by
  have hle : Le (hide H w) (hide H fun a => (w a).bind ι) := hide_mono fun a o q _ r => ⟨by rw [q]; rfl, r⟩
  cases s with
  | no => exact True.intro
  | bo j => exact absurd rfl (hs j)
  | sh d =>
    obtain ⟨x, e, r⟩ := h
    exact ⟨x, e, Rep.le hle r⟩
  | ow d =>
    obtain ⟨a, o, e, h1, h2⟩ := h
    exact ⟨a, o, e, by show (w a).bind ι = _; rw [h1]; exact hι (.inl ⟨d, rfl⟩), h2.1, h2.2.1, h2.2.2.le hle⟩
  | tok =>
    obtain ⟨a, l, c, e, h1, h2, h3, h4⟩ := h
    exact ⟨a, l, c, e, by show (w a).bind ι = _; rw [h1]; exact hι (.inr rfl), by show (w l).bind ι = _; rw [h2]; exact hι (.inr rfl), by show (w c).bind ι = _; rw [h3]; exact hι (.inr rfl), h4⟩
theorem RelW.re {w : Addr → Option Nat} {σ2 : L2.St} {env2 : Env} {ts2 : List (V × S)} (h : RelW G F w σ H env ts) (ι : Nat → Option Nat) (i0 : ι 0 = some 0) (i1 : ∀ k, ι k = some 0 → k = 0) (len : env2.length = σ2.length)
    (ent : ∀ (i : Nat) (s : S), env2[i]? = some s → (∀ j, s ≠ .bo j) ∧ EntOk G H (fun a => (w a).bind ι) σ2 env2 (i + 1) (σ2[i]?.getD none) s)
    (tmp : ∀ (j : Nat) (x : V) (s : S), ts2[j]? = some (x, s) → EntOk G H (fun a => (w a).bind ι) σ2 env2 (env2.length + j + 1) (some x) s) :
    RelW G F (fun a => (w a).bind ι) σ2 H env2 ts2 := by
  refine ⟨len, ent, tmp, fun a i e => ?_, fun a => ?_, h.fgh, h.keep, h.there, h.tabs⟩
  · cases q : w a with
    | none => rw [q] at e; cases e
    | some k =>
      cases k with
      | zero => rw [q] at e; rw [show (some 0).bind ι = ι 0 from rfl, i0] at e; cases e
      | succ k => exact h.own a k q
  · refine (h.fgn a).trans ⟨fun q => by rw [q]; exact i0, fun q => ?_⟩
    cases e : w a with
    | none => rw [e] at q; cases q
    | some k => rw [e] at q; rw [i1 k q]
theorem hide_re {w : Addr → Option Nat} {ι : Nat → Option Nat} : Le (hide H w) (hide H fun a => (w a).bind ι) := hide_mono fun a o q _ r => ⟨by rw [q]; rfl, r⟩
/-- entries in the middle are forgotten -/
theorem RelW.mid {w : Addr → Option Nat} {us : List (V × S)} {v : V} {s : S} (h : RelW G F w σ H env (ts ++ (us ++ [(v, s)]))) : ∃ w', RelW G F w' σ H env (ts ++ [(v, s)]) ∧ Le (hide H w) (hide H w') := by
  refine ⟨_, h.re (fun k => if k = env.length + ts.length + us.length + 1 then some (env.length + ts.length + 1) else if k ≤ env.length + ts.length then some k else none) ?_ (fun k e => ?_) h.len (fun i s' e => ⟨(h.ent i s' e).1, ?_⟩) fun j x s' e => ?_, hide_re⟩
  · rw [if_neg (by omega), if_pos (by omega)]
  · split at e
    · cases e
    · split at e
      · cases e; rfl
      · cases e
  · have hi := (List.getElem?_eq_some_iff.mp e).1
    refine (h.ent i s' e).2.re (h.ent i s' e).1 fun _ => ?_
    rw [if_neg (by omega), if_pos (by omega)]
  · by_cases hj : j < ts.length
    · rw [List.getElem?_append_left hj] at e
      have z := h.tmp j x s' (by rw [List.getElem?_append_left hj]; exact e)
      cases s' with
      | bo k => exact z
      | _ =>
        refine z.re (fun _ z => nomatch z) fun _ => ?_
        rw [if_neg (by omega), if_pos (by omega)]
    · rw [List.getElem?_append_right (Nat.le_of_not_lt hj)] at e
      cases q : j - ts.length with
      | succ n => rw [q] at e; exact nomatch e
      | zero =>
        rw [q] at e
        cases e
        have z := h.tmp (ts.length + us.length) v s (by rw [← List.append_assoc, List.getElem?_append_right (by simp)]; simp)
        cases s with
        | bo k => exact z
        | _ =>
          refine z.re (fun _ z => nomatch z) fun _ => ?_
          rw [if_pos (by omega)]
          congr 1
          omega
theorem RelW.bsRep {w : Addr → Option Nat} (h : RelW G F w σ H env (shs bs)) : ∀ p ∈ bs, Rep G (hide H w) p.1 p.2 := fun p hp => by
  obtain ⟨j, hj⟩ := List.getElem?_of_mem hp
  have z := h.tmp j p.1 (.sh p.2) (by rw [List.getElem?_map, hj]; rfl)
  obtain ⟨x, ex, r⟩ := z
  cases ex
  exact r
theorem RelW.pushShs {w : Addr → Option Nat} : ∀ {us : List (V × D)} {ts : List (V × S)}, RelW G F w σ H env ts → (∀ p ∈ us, Rep G (hide H w) p.1 p.2) → RelW G F w σ H env (ts ++ shs us)
  | [], ts, h, _ => by rw [show shs [] = [] from rfl, List.append_nil]; exact h
  | p :: us, ts, h, r => by
    have z := RelW.pushShs (us := us) (h.pushSh (r p List.mem_cons_self)) fun p' hp => r p' (List.mem_cons_of_mem _ hp)
    rw [List.append_assoc] at z
    exact z
theorem zipRep {B : Hp} : ∀ {vs : List V} {ds : List D}, Reps G B vs ds → ∀ p ∈ vs.zip ds, Rep G B p.1 p.2
  | [], [], _, p, hp => nomatch hp
  | _ :: _, _ :: _, .cons r t, p, hp => by
    rw [List.zip_cons_cons] at hp
    rcases List.mem_cons.mp hp with rfl | hp
    · exact r
    · exact zipRep t p hp
theorem zipReps {B : Hp} : ∀ {vs : List V} {ds : List D}, vs.length = ds.length → (∀ p ∈ vs.zip ds, Rep G B p.1 p.2) → Reps G B vs ds
  | [], [], _, _ => .nil
  | v :: vs, d :: ds, hl, h => .cons (h (v, d) List.mem_cons_self) (zipReps (Nat.succ.inj hl) fun p hp => h p (List.mem_cons_of_mem _ hp))
/-! ### targets -/
/-- a walk's item: a value, or a pair just made -/
def Itm (G : Gh) (pr : Bool) (H B : Hp) (v : V) (d : D) : Prop := match pr with
  | false => Rep G B v d
  | true => ∃ T xs ds, v = .ref T ∧ H T = some (.tup xs) ∧ d = .tup ds ∧ Reps G B xs ds
theorem Itm.le {pr : Bool} {H B B' : Hp} {v : V} {d : D} (h : Itm G pr H B v d) (e : Le B B') : Itm G pr H B' v d := by
  cases pr with
  | false => exact Rep.le e h
  | true =>
    obtain ⟨T, xs, ds, e1, e2, e3, r⟩ := h
    exact ⟨T, xs, ds, e1, e2, e3, Reps.le e r⟩
def tG (G : Gh) (pr : Bool) (fx : Nat → Bool) (g : D → Env → Option Env) : TG := fun v σ H Q => ∃ F ts env w d e', RelW G F w σ H env ts ∧ (∀ i, fx i = false → ∀ t ∈ ts, t.2 ≠ .bo i) ∧ Itm G pr H (hide H w) v d ∧ g d env = some e' ∧
  ∀ σ' H' w', Fix fx σ σ' → RelW G F w' σ' H' e' ts → Q σ' H'
def tGs (G : Gh) (fx : Nat → Bool) (g : List D → Env → Option Env) : TGs := fun vs σ H Q => ∃ F ts env w ds e', RelW G F w σ H env ts ∧ (∀ i, fx i = false → ∀ t ∈ ts, t.2 ≠ .bo i) ∧ Reps G (hide H w) vs ds ∧ g ds env = some e' ∧
  ∀ σ' H' w', Fix fx σ σ' → RelW G F w' σ' H' e' ts → Q σ' H'
def gN (i : Nat) : D → Env → Option Env := fun d env => some (env.set i (.sh d))
theorem pgImp {e : Expr} {t t' : TG} (h : PG X e t) (hi : ∀ v σ H Q, t' v σ H Q → t v σ H Q) : PG X e t' := ⟨fun pins s σ H v u Q I r q => h.run pins s σ H v u Q I r (hi v σ H Q q)⟩
theorem pgsImp {e : List Expr} {t t' : TGs} (h : PGs X e t) (hi : ∀ v σ H Q, t' v σ H Q → t v σ H Q) : PGs X e t' := ⟨fun pins s σ H v u Q I r q => h.run pins s σ H v u Q I r (hi v σ H Q q)⟩
theorem RelW.putSh {w : Addr → Option Nat} {v : V} {d : D} {i : Nat} (h : RelW G F w σ H env ts) (hb : ∀ t ∈ ts, t.2 ≠ .bo i) (r : Rep G (hide H w) v d) : ∃ w', RelW G F w' (σ.set i (some v)) H (env.set i (.sh d)) ts ∧ Le (hide H w) (hide H w') := by
  by_cases hi : i < σ.length
  · exact (h.pushSh r).store hi hb fun _ z => nomatch z
  · rw [List.set_eq_of_length_le (Nat.le_of_not_lt hi), List.set_eq_of_length_le (by rw [h.len]; exact Nat.le_of_not_lt hi)]
    exact ⟨w, h, Le.refl _⟩
theorem dg_name {i : Nat} {x : Str} {pos : Pos} (hN : X.N.Nodup) (hi : X.N[i]? = some x) (hx : Loc X.env.scope x) (hfx : fx i = false) (hf : X.fn x = true ∨ X.env.scope.names.lookup x = some .local := by first | exact .inl rfl | exact .inr rfl | assumption) : PG X (.Name x pos) (tG G false fx (gN i)) := by
  refine pgImp (pg_name hN hi hx hf) fun v σ H Q ⟨F, ts, env, w, d, e', h, nb, r, eg, q⟩ => ?_
  cases eg
  obtain ⟨w', h', le⟩ := h.putSh (i := i) (nb i hfx) r
  exact q _ H w' (Fix.refl.set hfx) h'
def gsN : List D → Env → Option Env
  | [], e => some e
  | _ :: _, _ => none
def gsC (g : D → Env → Option Env) (gs : List D → Env → Option Env) : List D → Env → Option Env
  | d :: ds, e => match g d e with
    | some e' => gs ds e'
    | none => none
  | [], _ => none
theorem dgs_nil : PGs X [] (tGs G fx gsN) := by
  refine pgsImp pgs_nil fun vs σ H Q ⟨F, ts, env, w, ds, e', h, nb, r, eg, q⟩ => ?_
  cases r with
  | nil => cases eg; exact ⟨rfl, q σ H w Fix.refl h⟩
  | cons _ _ => cases eg
theorem dgs_cons {e : Expr} {es : List Expr} {g : D → Env → Option Env} {gs : List D → Env → Option Env} (h1 : PG X e (tG G false fx g)) (h2 : PGs X es (tGs G fx gs))
    (hs : (assignEach (e :: es) X.env).map (·.2) = assign e X.env :: (assignEach es X.env).map (·.2) := by rfl) : PGs X (e :: es) (tGs G fx (gsC g gs)) := by
  refine pgsImp (pgs_cons h1 h2 hs) fun vs σ H Q ⟨F, ts, env, w, ds, e', h, nb, r, eg, q⟩ => ?_
  cases r with
  | nil => cases eg
  | cons r1 r2 =>
    simp only [gsC] at eg
    split at eg
    · rename_i e1 e1'
      refine ⟨_, _, rfl, F, _, env, w, _, e1, h.pushShs (us := _) (zipRep r2), fun i hi t ht => ?_, r1, e1', fun σ1 H1 w1 f1 h1 => ⟨F, ts, e1, w1, _, e', h1.drop, nb, zipReps r2.length fun p hp => ?_, eg, fun σ2 H2 w2 f2 h2 => q σ2 H2 w2 (f1.trans f2) h2⟩⟩
      · rcases List.mem_append.mp ht with ht | ht
        · exact nb i hi t ht
        · exact shs_nb t ht
      · obtain ⟨j, hj⟩ := List.getElem?_of_mem hp
        obtain ⟨x', ex, rr⟩ := h1.tmp (ts.length + j) p.1 (.sh p.2) (by
          rw [List.getElem?_append_right (Nat.le_add_right _ _), Nat.add_sub_cancel_left, shs, List.getElem?_map, hj]
          rfl)
        cases ex
        exact rr
    · cases eg
def gT (n : Nat) (gs : List D → Env → Option Env) : D → Env → Option Env
  | .tup ds, e => if ds.length = n then gs ds e else none
  | _, _ => none
theorem dg_tup {es : List Expr} {k : Nat} {pos : Pos} {gs : List D → Env → Option Env} {n : Nat} (hc : X.calm = true) (h : PGs X es (tGs G fx gs)) (hn : (assignEach es X.env).length = n := by rfl) (hst : (assignEach es X.env).findIdx? (·.1) = none := by rfl) (hK : X.K = G.K := by rfl) :
    PG X (.Tuple es k pos) (tG G false fx (gT n gs)) := by
  refine pgImp (pg_tup hc h hn hst) fun v σ H Q ⟨F, ts, env, w, d, e', h, nb, r, eg, q⟩ => ?_
  cases r with
  | @tup a vs ds h1 h2 =>
    simp only [gT] at eg
    split at eg
    · rename_i hl
      exact ⟨a, vs, rfl, by rw [hK]; exact (TupX.le h1 hide_le).sq, by rw [h2.length]; exact hl, F, ts, env, w, ds, e', h, nb, h2, eg, q⟩
    · cases eg
  | _ => cases eg

/-! ### what is walked -/
/-- what stands while it is walked -/
def Has (G : Gh) (us : List (V × D)) (B H : Hp) : Prop := Le B H ∧ ∀ p ∈ us, Rep G B p.1 p.2
structure Walk (G : Gh) (pr : Bool) (J : It) (us : List (V × D)) (ds : List D) : Prop where
  go : ∀ i B H, i < ds.length → Has G us B H → J.go i H
  stop : ∀ i B H, ds.length = i → Has G us B H → J.stop i H
  yld : ∀ i B H x H', i < ds.length → Has G us B H → J.yld i H x H' → Ext H H' ∧ ∃ d, ds[i]? = some d ∧ Itm G pr H' B x d
def tI (G : Gh) (pr : Bool) (W : WX) (src : Env → Res (List D)) : TI := fun σ H R => ∃ F ts env, Rel G F σ H env ts ∧ (src env).wp (fun ds e => ∀ J us H' w, RelW G F w σ H' e ts → Has G us (hide H' w) H' → Walk G pr J us ds → R J H') (XP G F ts W σ)
theorem piImp {tg e : Expr} {t t' : TI} (h : PI X tg e t) (hi : ∀ σ H Q, t' σ H Q → t σ H Q) : PI X tg e t' := ⟨fun pins s σ H Q I q => h.run pins s σ H Q I (hi σ H Q q)⟩
/-- a list or a tuple is walked -/
def iSeq (K : PySem.W.Frag) (tl : TE) : TI := fun σ H R => tl σ H fun x H1 => ∃ a, x = .ref a ∧ (((∃ xs, SqL K H1 a xs) ∧ R (Itl K a) H1) ∨ ((∃ xs, SqT K H1 a xs) ∧ R (Itt K a) H1))
theorem pi_seq {tg l : Expr} {tl : TE} (hl : PE X l tl) : PI X tg l (iSeq X.K tl) := by
  refine ⟨fun pins s σ H R I h => ?_⟩
  refine thn (hl.run pins s σ H _ I h) fun v s1 ⟨x, H1, I1, r1, a, e, q⟩ => ?_
  subst e
  cases r1
  have one : ∀ b ∈ [s1.heap.objs.size], FpOk X pins H1 b := fun b hb => by
    have e : b = s1.heap.objs.size := by simpa using hb
    subst e
    exact I1.fpOk (Nat.le_refl _) (I1.hok.fresh (Nat.le_refl _))
  rcases q with ⟨⟨xs, hq⟩, q⟩ | ⟨⟨xs, hq⟩, q⟩
  · obtain ⟨its, rv, p, hz⟩ := I1.list hq
    exact wpAny_pyIter_list p.isList ⟨s1.heap.objs.size, [s1.heap.objs.size], _, _, H1, rfl, I1.kept (t' := s1.toks) fun b o e => Heap.get?_push_of_some _ e, turn_list a _, ⟨_, Heap.get?_push_size _ rfl, rfl, rfl⟩, one, q⟩
  · obtain ⟨its, rv, p, hz⟩ := I1.tuple hq
    exact wpAny_pyIter_tuple (show s1.heap.IsTuple a its.toArray from p) ⟨s1.heap.objs.size, [s1.heap.objs.size], _, _, H1, rfl, I1.kept (t' := s1.toks) fun b o e => Heap.get?_push_of_some _ e, turn_tuple a _, ⟨_, Heap.get?_push_size _ rfl, rfl, rfl⟩, one, q⟩
def dSrc (f : Den) : Env → Res (List D) := fun env => (f env).bind fun s e => match esc e s with
  | some (.lst ds, e') => .ok ds e'
  | some (.tup ds, e') => .ok ds e'
  | some (.dic ds, e') => .ok (ds.map (·.1)) e'
  | _ => .bad
theorem walk_lst {v : V} {ds : List D} {B : Hp} (r : Rep G B v (.lst ds)) : ∃ a, v = .ref a ∧ Walk G false (Itl G.K a) [(v, .lst ds)] ds := by
  cases r with
  | @lst a vs _ h1 h2 =>
    have at_ : ∀ {B H : Hp}, Has G [(V.ref a, .lst ds)] B H → ∃ vs, SqL G.K H a vs ∧ Reps G B vs ds := fun {B H} h => by
      have z := h.2 _ List.mem_cons_self
      cases z with
      | lst k1 k2 => exact ⟨_, SqL.of (h.1.at nt_lst nd_lst k1), k2⟩
    refine ⟨a, rfl, fun i B H hi h => ?_, fun i B H hi h => ?_, fun i B H x H' hi h hy => ?_⟩
    · obtain ⟨vs, k1, k2⟩ := at_ h
      obtain ⟨v, ev, _⟩ := k2.get (List.getElem?_eq_getElem hi)
      exact ⟨vs, v, k1, ev⟩
    · obtain ⟨vs, k1, k2⟩ := at_ h
      exact ⟨vs, k1, by rw [k2.length]; exact Nat.le_of_eq hi⟩
    · obtain ⟨vs, k1, k2⟩ := at_ h
      obtain ⟨e, hy⟩ := hy
      exact ⟨by rw [e]; exact Ext.refl _, k2.getV (hy vs k1)⟩
theorem walk_tup {v : V} {ds : List D} {B : Hp} (r : Rep G B v (.tup ds)) : ∃ a, v = .ref a ∧ Walk G false (Itt G.K a) [(v, .tup ds)] ds := by
  cases r with
  | @tup a vs _ h1 h2 =>
    have at_ : ∀ {B H : Hp}, Has G [(V.ref a, .tup ds)] B H → ∃ vs, SqT G.K H a vs ∧ Reps G B vs ds := fun {B H} h => by
      have z := h.2 _ List.mem_cons_self
      cases z with
      | tup k1 k2 => exact ⟨_, (TupX.le k1 h.1).sq, k2⟩
    refine ⟨a, rfl, fun i B H hi h => ?_, fun i B H hi h => ?_, fun i B H x H' hi h hy => ?_⟩
    · obtain ⟨vs, k1, k2⟩ := at_ h
      obtain ⟨v, ev, _⟩ := k2.get (List.getElem?_eq_getElem hi)
      exact ⟨vs, v, k1, ev⟩
    · obtain ⟨vs, k1, k2⟩ := at_ h
      exact ⟨vs, k1, by rw [k2.length]; exact Nat.le_of_eq hi⟩
    · obtain ⟨vs, k1, k2⟩ := at_ h
      obtain ⟨e, hy⟩ := hy
      exact ⟨by rw [e]; exact Ext.refl _, k2.getV (hy vs k1)⟩
theorem has_one {v : V} {d : D} {w : Addr → Option Nat} (r : Rep G (hide H w) v d) : Has G [(v, d)] (hide H w) H := ⟨hide_le, fun p hp => by
  have e : p = (v, d) := by simpa using hp
  rw [e]
  exact r⟩
/-! ranges -/
def rngD (lo hi : Int) : List D := (List.range (hi - lo).toNat).map fun k : Nat => D.int (lo + (k : Int))
def rng1 : Option (List D) → Option (List D)
  | some [.int j] => if -(2 ^ 62) ≤ j ∧ j < 2 ^ 62 then some (rngD 0 j) else none
  | _ => none
def rng2 : Option (List D) → Option (List D)
  | some [.int i, .int j] => if -(2 ^ 62) ≤ i ∧ i < 2 ^ 62 ∧ -(2 ^ 62) ≤ j ∧ j < 2 ^ 62 then some (rngD i j) else none
  | _ => none
def dRng (rg : Option (List D) → Option (List D)) (fs : List Den) : Env → Res (List D) := fun env => (dargs fs env).bind fun ss e => .get (rg (rds e ss)) e
theorem rngD_len (lo hi : Int) : (rngD lo hi).length = (hi - lo).toNat := by simp [rngD]
theorem walk_rng (lo hi : Int) : Walk G false (Itr lo (hi - lo).toNat) [] (rngD lo hi) := by
  refine ⟨fun i B H hi _ => by rw [rngD_len] at hi; exact hi, fun i B H hi _ => by rw [rngD_len] at hi; exact Nat.le_of_eq hi, fun i B H x H' hi _ hy => ?_⟩
  obtain ⟨e, ex⟩ := hy
  refine ⟨by rw [e]; exact Ext.refl _, .int (lo + (i : Int)), ?_, by rw [ex]; exact Rep.int _⟩
  rw [rngD_len] at hi
  rw [rngD, List.getElem?_map, List.getElem?_range hi]
  rfl
theorem hide_ext {w : Addr → Option Nat} {H' : Hp} (e : Ext H H') : Le (hide H w) (hide H' w) := hide_mono fun a o q _ r => ⟨q, e a o r⟩
theorem has_nil {w : Addr → Option Nat} : Has G [] (hide H w) H := ⟨hide_le, fun p hp => nomatch hp⟩
theorem rds_some {e : Env} {ss : List S} {ds : List D} (h : rds e ss = some ds) : ss.length = ds.length := by
  induction ss generalizing ds with
  | nil => cases h; rfl
  | cons s ss ih =>
    unfold rds at h
    split at h
    · rename_i d ds' e1 e2
      cases h
      rw [List.length_cons, List.length_cons, ih e2]
    · cases h
theorem di_rng1 {tg a : Expr} {p pos : Pos} {fs : List Den} (hg : Gl X "range") (hm : X.mg "range" = none) (ha : PA X [a] (tA G W (dargs fs))) (hs : starEach [a] X.env = [(false, eval a X.env)] := by rfl) : PI X tg (.Call (.Name "range" p) [a] [] pos) (tI G false W (dRng rng1 fs)) := by
  refine piImp (pi_range1 hg hm ha hs) fun σ H R ⟨F, ts, env, h, q⟩ => ?_
  rw [dRng, Res.wp_bind] at q
  refine tA.mk h (Res.wp_mono q (fun ss e q vs H1 hl h1 => ?_) fun _ _ z => z)
  obtain ⟨ds, ed, q⟩ := Res.wp_get.mp q
  obtain ⟨w, h1⟩ := h1
  obtain ⟨z1, z2⟩ := zipL hl
  cases er : rds e ss with
  | none => rw [er] at ed; cases ed
  | some as =>
    rw [er] at ed
    have ra := h1.reads (us := vs.zip ss) (by rw [z2]; exact er)
    rw [z1] at ra
    cases ra with
    | nil => cases ed
    | cons r1 r2 =>
      cases r2 with
      | cons _ _ => cases r1 <;> cases ed
      | nil =>
        cases r1 with
        | int j =>
          simp only [rng1] at ed
          split at ed
          · rename_i hj
            cases ed
            have z : j = j - 0 := by omega
            exact ⟨j, rfl, hj.1, hj.2, by rw [show j.toNat = (j - 0).toNat by omega]; exact q _ _ H1 w h1.drop has_nil (walk_rng 0 j)⟩
          · cases ed
        | _ => cases ed
theorem di_rng2 {tg a b : Expr} {p pos : Pos} {fs : List Den} (hg : Gl X "range") (hm : X.mg "range" = none) (ha : PA X [a, b] (tA G W (dargs fs))) (hs : starEach [a, b] X.env = [(false, eval a X.env), (false, eval b X.env)] := by rfl) (hs2 : starEach [b] X.env = [(false, eval b X.env)] := by rfl) :
    PI X tg (.Call (.Name "range" p) [a, b] [] pos) (tI G false W (dRng rng2 fs)) := by
  refine piImp (pi_range2 hg hm ha hs hs2) fun σ H R ⟨F, ts, env, h, q⟩ => ?_
  rw [dRng, Res.wp_bind] at q
  refine tA.mk h (Res.wp_mono q (fun ss e q vs H1 hl h1 => ?_) fun _ _ z => z)
  obtain ⟨ds, ed, q⟩ := Res.wp_get.mp q
  obtain ⟨w, h1⟩ := h1
  obtain ⟨z1, z2⟩ := zipL hl
  cases er : rds e ss with
  | none => rw [er] at ed; cases ed
  | some as =>
    rw [er] at ed
    have ra := h1.reads (us := vs.zip ss) (by rw [z2]; exact er)
    rw [z1] at ra
    cases ra with
    | nil => cases ed
    | cons r1 r2 =>
      cases r2 with
      | nil => cases r1 <;> cases ed
      | cons r2 r3 =>
        cases r3 with
        | cons _ _ => cases r1 <;> cases r2 <;> cases ed
        | nil =>
          cases r1 with
          | int i =>
            cases r2 with
            | int j =>
              simp only [rng2] at ed
              split at ed
              · rename_i hj
                cases ed
                exact ⟨i, j, rfl, hj, q _ _ H1 w h1.drop has_nil (walk_rng i j)⟩
              · cases ed
            | _ => cases ed
          | _ => cases r2 <;> cases ed

/-! ### for -/
def dForL (g : D → Env → Option Env) (f : DenS) : List D → DenS
  | [] => fun env => .ok .next env
  | d :: r => fun env => match g d env with
    | some e => (f e).bind fun fl e' => match fl with
      | .next => dForL g f r e'
      | .cont => dForL g f r e'
      | .brk => .ok .next e'
      | .ret s => .ok (.ret s) e'
    | none => .bad
def dFor (src : Env → Res (List D)) (g : D → Env → Option Env) (f : DenS) : DenS := fun env => (src env).bind fun ds e => dForL g f ds e
theorem ds_for {pr : Bool} {tg iter : Expr} {body : List Stmt} {pos : Pos} {src : Env → Res (List D)} {g : D → Env → Option Env} {f : DenS} (hp : PassesOwn (model X.prog X.w) X.A X.env X.xe) (hc : X.calm = true) (hi : PI X tg iter (tI G pr W src)) (hg : PG X tg (tG G pr fx g)) (hb : PSs X body (tS G W fx f))
    (hs : ∀ x, foldedSetIterable iter X.env x = pure x := by intro _; rfl) : PS X (.For tg iter body [] pos) (tS G W fx (dFor src g f)) := by
  refine psImp (ps_for hp hc hi hg hb hs) fun Dn σ H ⟨F, bs, env, h, q⟩ => ?_
  rw [dFor, Res.wp_bind] at q
  refine ⟨F, _, env, h, Res.wp_mono q (fun ds e q J us H1 w h1 hu wk => ?_) fun _ _ z => z.xp⟩
  have h1' : Rel G F σ H1 e (shs (bs ++ us)) := ⟨w, by rw [shs, List.map_append]; exact h1.pushShs hu.2⟩
  refine ⟨fun i m σ' H' => m = ds.length - i ∧ i ≤ ds.length ∧ ∃ env', Fix fx σ σ' ∧ Rel G F σ' H' env' (shs (bs ++ us)) ∧ (dForL g f (ds.drop i) env').wp (SQ G F fx bs σ Dn) (SX G F fx bs W σ), ⟨ds.length, by omega, by omega, e, Fix.refl, h1', by rw [List.drop_zero]; exact q⟩, ?_⟩
  rintro i m σ2 H2 ⟨rfl, hi, e2, f2, ⟨w2, h2⟩, q2⟩
  have hus : Has G us (hide H2 w2) H2 := ⟨hide_le, fun p hp => h2.bsRep p (List.mem_append_right _ hp)⟩
  have dropB : ∀ {w : Addr → Option Nat} {σ' : L2.St} {H' : Hp} {e' : Env} {ts : List (V × S)}, RelW G F w σ' H' e' (shs (bs ++ us)) → RelW G F w σ' H' e' (shs bs) := fun {w σ' H' e' ts} z => by
    rw [shs, List.map_append] at z
    exact z.drop
  by_cases hlt : i < ds.length
  · rw [List.drop_eq_getElem_cons hlt, dForL] at q2
    dsimp only at q2
    refine .inr ⟨wk.go i _ _ hlt hus, fun σ' H' => ∃ env', Fix fx σ σ' ∧ Rel G F σ' H' env' (shs (bs ++ us)) ∧ (dForL g f (ds.drop (i + 1)) env').wp (SQ G F fx bs σ Dn) (SX G F fx bs W σ), fun σ' H' z => ⟨ds.length - (i + 1), by omega, rfl, hlt, z⟩, fun x H' hy => ?_⟩
    obtain ⟨eH, d, ed, rx⟩ := wk.yld i _ _ x H' hlt hus hy
    have h2 := h2.ext eH
    have rx := rx.le (hide_ext eH)
    rw [List.getElem?_eq_getElem hlt] at ed
    cases ed
    split at q2
    · rename_i e3 eg
      refine ⟨F, _, e2, w2, _, e3, h2, fun _ _ => shs_nb, rx, eg, fun σ3 H3 w3 f3 h3 => ?_⟩
      rw [Res.wp_bind] at q2
      refine ⟨F, _, e3, ⟨w3, h3⟩, Res.wp_mono q2 (fun fl e4 q => ?_) fun x e4 z d' σ' H' a ⟨w', r⟩ xd => z d' σ' H' ((f2.trans f3).trans a) ⟨w', dropB (ts := []) r⟩ xd⟩
      cases fl with
      | next => exact fun σ' H' a r => ⟨e4, (f2.trans f3).trans a, r, q⟩
      | cont => exact fun σ' H' a r => ⟨e4, (f2.trans f3).trans a, r, q⟩
      | brk => exact fun σ' H' a ⟨w', r⟩ => q σ' H' ((f2.trans f3).trans a) ⟨w', dropB (ts := []) r⟩
      | ret s =>
        intro v σ' H' a ⟨w', r⟩
        rw [shs, List.map_append, List.append_assoc] at r
        obtain ⟨w5, r5, _⟩ := r.mid
        exact q v σ' H' ((f2.trans f3).trans a) ⟨w5, r5⟩
    · exact q2.elim
  · refine .inl ⟨wk.stop i _ _ (by omega) hus, ?_⟩
    rw [List.drop_eq_nil_of_le (by omega), dForL] at q2
    exact q2 σ2 H2 f2 ⟨w2, dropB (ts := []) h2⟩
end
end T

/-! TComp: list comprehensions. -/
namespace T
open PySem PySem.Spec PyProof.Rows L2

namespace Res
/-- nothing is raised -/
def nx {α : Type} : Res α → Res α
  | ok a e => ok a e
  | exc _ _ => bad
  | bad => bad
  | ask n k => ask n fun r => nx (k r)
theorem wp_nx {α : Type} {m : Res α} {Q : α → Env → Prop} {E : Exn → Env → Prop} : wp (nx m) Q E ↔ wp m Q fun _ _ => False := by
  induction m with
  | ok a e => exact Iff.rfl
  | exc x e => exact Iff.rfl
  | bad => exact Iff.rfl
  | ask n k ih => exact ⟨fun h r hr => (ih r).mp (h r hr), fun h r hr => (ih r).mpr (h r hr)⟩
@[simp] theorem nx_ok {α : Type} (a : α) (e : Env) : nx (ok a e) = ok a e := rfl
end Res
/-- nothing may be raised -/
abbrev W0 : WX := fun _ _ _ _ => False

def wipeE (e : Env) : List Nat → Env
  | [] => e
  | v :: vs => (wipeE e vs).set v .no
def restE (e0 e : Env) : List Nat → Env
  | [] => e
  | v :: vs => (restE e0 e vs).set v (e0[v]?.getD .no)
def okOwn (e : Env) (own : List Nat) : Bool := own.all fun v => match e[v]? with
  | some .no => true
  | some (.sh _) => true
  | none => true
  | _ => false
/-- the elements one by one; n: room; what each brings is put behind -/
def dLoop (body : D → Nat → Env → Res (List D)) : List D → Nat → Env → Res (List D)
  | [], _, e => .ok [] e
  | d :: r, n, e => (body d n e).bind fun o e1 => if o.length ≤ n then (dLoop body r (n - o.length) e1).bind fun out e2 => .ok (o ++ out) e2 else .bad
def elt1 (g : D → Env → Option Env) (t : Env → Res Bool) (f : Den) (own : List Nat) : D → Nat → Env → Res (List D) := fun d n e => match g d e with
  | some e1 => (t e1).bind fun b e2 => if b = true then (f e2).bind fun s e3 => (match esc e3 s with
      | some (d', e4) => if 0 < n then .ok [d'] (wipeE e4 own) else .bad
      | none => .bad) else .ok [] (wipeE e2 own)
  | none => .bad
def elt2 (g : D → Env → Option Env) (t : Env → Res Bool) (src1 : Env → Res (List D)) (body1 : D → Nat → Env → Res (List D)) (vs1 own : List Nat) : D → Nat → Env → Res (List D) := fun d n e => match g d e with
  | some e1 => (t e1).bind fun b e2 => if b = true then (src1 e2).bind fun ds e3 => (dLoop body1 ds n (wipeE e3 vs1)).bind fun out e4 => .ok out (wipeE e4 own) else .ok [] (wipeE e2 own)
  | none => .bad
def dLcG (src : Env → Res (List D)) (body : D → Nat → Env → Res (List D)) (own : List Nat) : Den := fun env => (src env).bind fun ds e => if okOwn e own = true then
  (dLoop body ds 16777216 (wipeE e own)).nx.bind fun out e' => .ok (.ow (.lst out)) (restE e e' own) else .bad
def dLc (src : Env → Res (List D)) (g : D → Env → Option Env) (t : Env → Res Bool) (f : Den) (own : List Nat) : Den := dLcG src (elt1 g t f own) own
def dLc2 (src : Env → Res (List D)) (g : D → Env → Option Env) (t : Env → Res Bool) (src1 : Env → Res (List D)) (g1 : D → Env → Option Env) (t1 : Env → Res Bool) (f : Den) (own vs1 : List Nat) : Den := dLcG src (elt2 g t src1 (elt1 g1 t1 f vs1) vs1 own) own
def dYes : Env → Res Bool := fun e => .ok true e

section
variable {G : Gh} {F : Fr} {W : WX} {σ : L2.St} {H : Hp} {env : Env} {ts : List (V × S)} {X : Cx} {fx : Nat → Bool} {bs : List (V × D)} {w : Addr → Option Nat}
theorem wipe_get {i : Nat} : ∀ {vs : List Nat}, i ∉ vs → (wipe σ vs)[i]? = σ[i]?
  | [], _ => rfl
  | v :: vs, h => by
    rw [wipe, List.getElem?_set_ne (fun z => h (by rw [z]; exact List.mem_cons_self))]
    exact wipe_get fun z => h (List.mem_cons_of_mem _ z)
theorem last1 {α : Type} (l : List α) (a : α) : (l ++ [a])[l.length]? = some a := by simp
theorem last2 {α : Type} (l : List α) (a b : α) : ((l ++ [a]) ++ [b])[l.length + 1]? = some b := by
  have z := last1 (l ++ [a]) b
  rwa [List.length_append, List.length_singleton] at z
theorem setL2 {α : Type} (l : List α) (a b c : α) : ((l ++ [a]) ++ [b]).set (l.length + 1) c = (l ++ [a]) ++ [c] := by
  rw [List.set_append_right _ _ (by rw [List.length_append, List.length_singleton]; exact Nat.le_refl _), List.length_append, List.length_singleton, Nat.sub_self]
  rfl
theorem wipe_in {i : Nat} (hi : i < σ.length) : ∀ {vs : List Nat}, i ∈ vs → (wipe σ vs)[i]? = some none
  | [], h => nomatch h
  | v :: vs, h => by
    rw [wipe]
    by_cases hv : v = i
    · subst hv
      rw [List.getElem?_set_self (by rw [wipe_length]; exact hi)]
    · rw [List.getElem?_set_ne hv]
      exact wipe_in hi ((List.mem_cons.mp h).resolve_left (Ne.symm hv))
theorem wipe_ext {σ' : L2.St} {vs : List Nat} (hl : σ'.length = σ.length) (h : ∀ i, i ∉ vs → σ'[i]? = σ[i]?) : wipe σ' vs = wipe σ vs := by
  refine List.ext_getElem? fun i => ?_
  by_cases hi : i ∈ vs
  · by_cases hl' : i < σ.length
    · rw [wipe_in hl' hi, wipe_in (by rw [hl]; exact hl') hi]
    · rw [List.getElem?_eq_none (by rw [wipe_length]; omega), List.getElem?_eq_none (by rw [wipe_length]; omega)]
  · rw [wipe_get hi, wipe_get hi]
    exact h i hi
theorem wipe_idem (vs : List Nat) : wipe (wipe σ vs) vs = wipe σ vs := wipe_ext (wipe_length σ vs) fun i hi => wipe_get hi
theorem wipe_fix {σ' : L2.St} {vs : List Nat} (h : Fix (fun i => !decide (i ∈ vs)) (wipe σ vs) σ') : wipe σ' vs = wipe σ vs := by
  refine (wipe_ext (σ := wipe σ vs) h.1 fun i hi => ?_).trans (wipe_idem vs)
  exact h.2 i (by simp [hi])
theorem wipeE_len {e : Env} : ∀ vs : List Nat, (wipeE e vs).length = e.length
  | [] => rfl
  | v :: vs => by rw [wipeE, List.length_set, wipeE_len vs]
theorem restE_len {e0 e : Env} : ∀ vs : List Nat, (restE e0 e vs).length = e.length
  | [] => rfl
  | v :: vs => by rw [restE, List.length_set, restE_len vs]
theorem restE_out {e0 e : Env} {i : Nat} : ∀ {vs : List Nat}, i ∉ vs → (restE e0 e vs)[i]? = e[i]?
  | [], _ => rfl
  | v :: vs, h => by
    rw [restE, List.getElem?_set_ne (fun z => h (by rw [z]; exact List.mem_cons_self))]
    exact restE_out fun z => h (List.mem_cons_of_mem _ z)
theorem restE_in {e0 e : Env} {i : Nat} (hi : i < e.length) : ∀ {vs : List Nat}, i ∈ vs → (restE e0 e vs)[i]? = some (e0[i]?.getD .no)
  | [], h => nomatch h
  | v :: vs, h => by
    rw [restE]
    by_cases hv : v = i
    · subst hv
      rw [List.getElem?_set_self (by rw [restE_len]; exact hi)]
    · rw [List.getElem?_set_ne hv]
      exact restE_in hi ((List.mem_cons.mp h).resolve_left (Ne.symm hv))
theorem okOwn_at {e : Env} {own : List Nat} {i : Nat} {s : S} (h : okOwn e own = true) (hi : i ∈ own) (hs : e[i]? = some s) : s = .no ∨ ∃ d, s = .sh d := by
  have z := List.all_eq_true.mp h i hi
  rw [hs] at z
  cases s with
  | no => exact .inl rfl
  | sh d => exact .inr ⟨d, rfl⟩
  | _ => exact absurd z Bool.false_ne_true
/-- what is borrowed of a name that is hidden for a while is told by itself -/
def savT (e : Env) (own : List Nat) : V × S → V × S
  | (x, .bo j) => if j ∈ own then (x, match e[j]? with
    | some (.sh d) => .sh d
    | _ => .no) else (x, .bo j)
  | p => p
theorem savT_ne {e : Env} {own : List Nat} {p : V × S} (h : ∀ j, p.2 ≠ .bo j) : savT e own p = p := by
  obtain ⟨x, s⟩ := p
  cases s with
  | bo j => exact absurd rfl (h j)
  | _ => rfl
def saved (e : Env) (σ : L2.St) : List Nat → List (V × D)
  | [] => []
  | v :: vs => match e[v]?, σ[v]? with
    | some (.sh d), some (some x) => (x, d) :: saved e σ vs
    | _, _ => saved e σ vs
theorem saved_mem {e : Env} {v : Nat} {d : D} {x : V} (h1 : e[v]? = some (.sh d)) (h2 : σ[v]? = some (some x)) : ∀ {vs : List Nat}, v ∈ vs → (x, d) ∈ saved e σ vs
  | [], h => nomatch h
  | u :: vs, h => by
    rw [saved]
    by_cases hv : u = v
    · subst hv
      rw [h1, h2]
      exact List.mem_cons_self
    · have z := saved_mem h1 h2 ((List.mem_cons.mp h).resolve_left (Ne.symm hv))
      split
      · exact List.mem_cons_of_mem _ z
      · exact z
theorem RelW.savedRep (h : RelW G F w σ H env ts) : ∀ {vs : List Nat} (p : V × D), p ∈ saved env σ vs → Rep G (hide H w) p.1 p.2
  | [], p, hp => nomatch hp
  | v :: vs, p, hp => by
    rw [saved] at hp
    split at hp
    · rename_i d x e1 e2
      rcases List.mem_cons.mp hp with rfl | hp
      · have z := (h.ent v _ e1).2
        rw [e2] at z
        obtain ⟨x', ex, r⟩ := z
        cases ex
        exact r
      · exact RelW.savedRep h p hp
    · exact RelW.savedRep h p hp
theorem RelW.sav {own : List Nat} (h : RelW G F w σ H env ts) (ok : okOwn env own = true) : RelW G F w σ H env (ts.map (savT env own)) := by
  refine ⟨h.len, h.ent, fun j x s e => ?_, h.own, h.fgn, h.fgh, h.keep, h.there, h.tabs⟩
  rw [List.getElem?_map] at e
  cases q : ts[j]? with
  | none => rw [q] at e; cases e
  | some p =>
    obtain ⟨y, s'⟩ := p
    rw [q] at e
    have e' : savT env own (y, s') = (x, s) := Option.some.inj e
    have z := h.tmp j y s' q
    cases s' with
    | bo k =>
      simp only [savT] at e'
      split at e'
      · rename_i hk
        obtain ⟨x', ex, eσ, s2, es, _⟩ := z
        cases ex
        rw [es] at e'
        rcases okOwn_at ok hk es with rfl | ⟨d, rfl⟩
        · cases e'
          exact True.intro
        · cases e'
          have z2 := (h.ent k _ es).2
          rw [eσ] at z2
          obtain ⟨x', ex, r⟩ := z2
          cases ex
          exact ⟨_, rfl, r⟩
      · cases e'
        exact z
    | _ => cases e'; exact z
theorem savT_nb {e : Env} {own : List Nat} {i : Nat} (hi : i ∈ own) (p : V × S) : (savT e own p).2 ≠ .bo i := by
  obtain ⟨x, s⟩ := p
  cases s with
  | bo j =>
    simp only [savT]
    split
    · split <;> exact fun z => nomatch z
    · rename_i hj
      exact fun z => hj (by cases z; exact hi)
  | _ => exact fun z => nomatch z
theorem RelW.wipes : ∀ {vs : List Nat}, RelW G F w σ H env ts → (∀ i ∈ vs, ∀ t ∈ ts, t.2 ≠ .bo i) → RelW G F w (wipe σ vs) H (wipeE env vs) ts
  | [], h, _ => h
  | v :: vs, h, nb => (RelW.wipes h fun i hi => nb i (List.mem_cons_of_mem _ hi)).forget (nb v List.mem_cons_self)
/-- what the last entry owns is written -/
theorem RelW.mutT {a : Addr} {o' : HO} {d d' : D} (h : RelW G F w σ H env (ts ++ [(.ref a, .ow d)])) (hm : Mut (some o')) (ho' : OwnO G a (hide H w) o' d') : RelW G F w σ (upd H a o') env (ts ++ [(.ref a, .ow d')]) := by
  obtain ⟨a', o, ea, hw, ha, hmo, ho⟩ := h.tmp ts.length (.ref a) (.ow d) (by simp)
  cases ea
  have eh : hide (upd H a o') w = hide H w := by
    funext b
    unfold hide
    cases q : w b with
    | none => exact upd_ne (fun z => by rw [z, hw] at q; cases q)
    | some k => rfl
  have hle : Le (hide H w) (hide (upd H a o') w) := by rw [eh]; exact Le.refl _
  have kw : ∀ k b, k ≠ env.length + ts.length + 1 → w b = some k → w b = some k ∧ ∀ o, H b = some o → upd H a o' b = some o := fun k b n q => ⟨q, fun o r => by
    rw [upd_ne (fun z => by rw [z, hw] at q; exact n (Option.some.inj q).symm)]
    exact r⟩
  have nn : ∀ b, H b ≠ none → upd H a o' b ≠ none := fun b n => by
    by_cases hb : b = a
    · rw [hb, upd_same]
      exact fun z => nomatch z
    · rw [upd_ne hb]
      exact n
  refine RelW.push ⟨h.len, fun i s e => ⟨(h.ent i s e).1, (h.ent i s e).2.mono hle fun b r => kw _ b (by have := (List.getElem?_eq_some_iff.mp e).1; omega) r⟩, fun j x s e => (h.drop.tmp j x s e).mono hle fun b r => kw _ b (by have := (List.getElem?_eq_some_iff.mp e).1; omega) r,
    fun b k q => ⟨(h.own b k q).1, nn b (h.own b k q).2⟩, h.fgn, fun b q => nn b (h.fgh b q), h.keep.step fun b u r n0 n q => ?_, fun b q => nn b (h.there b q), tabs_upd h.tabs ha ho.ntbl fun q => ho.ncode q⟩ ⟨a, o', rfl, hw, upd_same, hm, by rw [eh]; exact ho'⟩
  have hb : b ≠ a := fun z => by
    rcases (h.own a _ hw).1 with z1 | z1
    · exact r (z ▸ z1)
    · exact n0 (z ▸ z1)
  rw [upd_ne hb]
  exact q
/-- back to the names around -/
theorem RelW.unsav {own : List Nat} {σ2 : L2.St} {H0 H2 : Hp} {w0 w2 : Addr → Option Nat} {e e2 : Env} {us : List (V × D)} {v : V} {d : D} (h0 : RelW G F w0 σ H0 e ts) (ok : okOwn e own = true) (h : RelW G F w2 σ2 H2 e2 ((ts.map (savT e own) ++ shs (us ++ saved e σ own)) ++ [(v, .ow d)])) (hw : wipe σ2 own = wipe σ own) :
    Rel G F σ H2 (restE e e2 own) (ts ++ [(v, .ow d)]) := by
  have ll : σ2.length = σ.length := by rw [← wipe_length σ2 own, hw, wipe_length]
  have el : e2.length = e.length := by rw [h.len, ll, h0.len]
  have out : ∀ {i : Nat}, i ∉ own → σ[i]? = σ2[i]? := fun {i} hi => by rw [← wipe_get (σ := σ) hi, ← hw, wipe_get hi]
  have inr : ∀ {x : V} {d : D} {i : Nat}, e[i]? = some (.sh d) → σ[i]? = some (some x) → i ∈ own → Rep G (hide H2 w2) x d := fun {x d i} a b c => by
    have hm := saved_mem a b c
    have z := RelW.drop h
    obtain ⟨j, hj⟩ := List.getElem?_of_mem hm
    have z1 := z.tmp (ts.length + (us.length + j)) x (.sh d) (by
      rw [List.getElem?_append_right (by simp), shs, List.getElem?_map, List.getElem?_append_right (by simp)]
      simp only [List.length_map]
      rw [show ts.length + (us.length + j) - ts.length - us.length = j by omega, hj]
      rfl)
    obtain ⟨x', ex, r⟩ := z1
    cases ex
    exact r
  have lm : (ts.map (savT e own)).length = ts.length := List.length_map ..
  refine ⟨_, h.re (fun k => if k = e2.length + ((ts.map (savT e own)).length + (shs (us ++ saved e σ own)).length) + 1 then some (e2.length + ts.length + 1) else if k ≤ e2.length + ts.length then some k else none) ?_ (fun k q => ?_) (by rw [restE_len, h.len, ll]) (fun i s q => ?_) fun j x s q => ?_⟩
  · rw [if_neg (by omega), if_pos (by omega)]
  · split at q
    · cases q
    · split at q
      · cases q; rfl
      · cases q
  · have hil : i < e2.length := by
      have := (List.getElem?_eq_some_iff.mp q).1
      rwa [restE_len] at this
    by_cases hi : i ∈ own
    · rw [restE_in hil hi] at q
      cases q
      cases es : e[i]? with
      | none => exact ⟨(fun _ z => nomatch z), True.intro⟩
      | some s' =>
        rcases okOwn_at ok hi es with rfl | ⟨d', rfl⟩
        · exact ⟨(fun _ z => nomatch z), True.intro⟩
        · obtain ⟨x', ex, _⟩ := (h0.ent i _ es).2
          refine ⟨(fun _ z => nomatch z), x', ex, Rep.le hide_re (inr es ?_ hi)⟩
          cases eσ : σ[i]? with
          | none => rw [eσ] at ex; cases ex
          | some z => rw [eσ] at ex; rw [show z = some x' from ex]
    · rw [restE_out hi] at q
      have z := h.ent i s q
      rw [out hi]
      refine ⟨z.1, z.2.re z.1 fun _ => ?_⟩
      rw [if_neg (by omega), if_pos (by omega)]
  · rw [restE_len]
    by_cases hj : j < ts.length
    · rw [List.getElem?_append_left hj] at q
      have z := h.tmp j (savT e own (x, s)).1 (savT e own (x, s)).2 (by rw [List.append_assoc, List.getElem?_append_left (by rw [List.length_map]; exact hj), List.getElem?_map, q]; rfl)
      cases s with
      | bo k =>
        obtain ⟨x', ex, eσ, s2, es, hs2⟩ := h0.tmp j x (.bo k) q
        cases ex
        by_cases hk : k ∈ own
        · rcases okOwn_at ok hk es with rfl | ⟨d', rfl⟩
          · rcases hs2 with ⟨_, z⟩ | z | ⟨_, z⟩ <;> cases z
          · have hkl : k < e2.length := by rw [el]; exact (List.getElem?_eq_some_iff.mp es).1
            exact ⟨_, rfl, eσ, .sh d', by rw [restE_in hkl hk, es]; rfl, .inr (.inr ⟨d', rfl⟩)⟩
        · simp only [savT, if_neg hk] at z
          obtain ⟨x', ex, eσ', s3, es3, hs3⟩ := z
          exact ⟨_, rfl, eσ, s3, by rw [restE_out hk]; exact es3, hs3⟩
      | _ =>
        refine EntOk.re z (fun _ z => nomatch z) fun _ => ?_
        rw [if_neg (by omega), if_pos (by omega)]
    · rw [List.getElem?_append_right (Nat.le_of_not_lt hj)] at q
      cases e1 : j - ts.length with
      | succ n => rw [e1] at q; exact nomatch q
      | zero =>
        rw [e1] at q
        cases q
        have z := h.tmp ((ts.map (savT e own)).length + (shs (us ++ saved e σ own)).length) v (.ow d) (by rw [List.getElem?_append_right (by simp)]; simp)
        refine EntOk.re z (fun _ z => nomatch z) fun _ => ?_
        rw [if_pos (by omega)]
        congr 1
        omega
theorem dts_nil : PTs X [] (tT G W dYes) := ⟨fun pins s σ H Q I ⟨F, ts, env, h, q⟩ => pts_nil.run pins s σ H Q I (q H h)⟩
theorem dts_one {c : Expr} {t : Env → Res Bool} (h : PT X c (tT G W t)) : PTs X [c] (tT G W t) := pts_one h
/-- put in ahead of the last entry -/
theorem RelW.ins {us : List (V × D)} {v : V} {d : D} {w : Addr → Option Nat} (h : RelW G F w σ H env (ts ++ [(v, .ow d)])) (hu : ∀ p ∈ us, Rep G (hide H w) p.1 p.2) : Rel G F σ H env ((ts ++ shs us) ++ [(v, .ow d)]) := by
  refine ⟨_, h.re (fun k => if k = env.length + ts.length + 1 then some (env.length + (ts ++ shs us).length + 1) else if k ≤ env.length + ts.length then some k else none) ?_ (fun k e => ?_) h.len (fun i s' e => ⟨(h.ent i s' e).1, ?_⟩) fun j x s' e => ?_⟩
  · rw [if_neg (by omega), if_pos (by omega)]
  · split at e
    · cases e
    · split at e
      · cases e; rfl
      · cases e
  · have hi := (List.getElem?_eq_some_iff.mp e).1
    refine (h.ent i s' e).2.re (h.ent i s' e).1 fun _ => ?_
    rw [if_neg (by omega), if_pos (by omega)]
  · by_cases hj : j < ts.length
    · rw [List.append_assoc, List.getElem?_append_left hj] at e
      have z := h.tmp j x s' (by rw [List.getElem?_append_left hj]; exact e)
      cases s' with
      | bo k => exact z
      | _ =>
        refine z.re (fun _ z => nomatch z) fun _ => ?_
        rw [if_neg (by omega), if_pos (by omega)]
    · by_cases hj2 : j < (ts ++ shs us).length
      · rw [List.getElem?_append_left hj2, List.getElem?_append_right (Nat.le_of_not_lt hj), shs, List.getElem?_map] at e
        cases q : us[j - ts.length]? with
        | none => rw [q] at e; cases e
        | some p =>
          rw [q] at e
          cases e
          exact ⟨_, rfl, Rep.le hide_re (hu p (List.mem_of_getElem? q))⟩
      · rw [List.getElem?_append_right (Nat.le_of_not_lt hj2)] at e
        cases q : j - (ts ++ shs us).length with
        | succ n => rw [q] at e; exact nomatch e
        | zero =>
          rw [q] at e
          cases e
          have z := h.tmp ts.length v (.ow d) (last1 ..)
          refine z.re (fun _ z => nomatch z) fun _ => ?_
          rw [if_pos (by omega)]
          congr 1
          omega
/-- a walk whose turns put behind what stands at A -/
theorem loop_of {pr : Bool} {base : List (V × S)} {A : Addr} {body : D → Nat → Env → Res (List D)} {J : It} {us : List (V × D)} {ds : List D} {acc : List D} {n : Nat} {Nd : Hp → Prop} {P : V → Hp → (Hp → Prop) → Prop} {w : Addr → Option Nat}
    (wk : Walk G pr J us ds) (hb : ∀ p ∈ us, (p.1, S.sh p.2) ∈ base)
    (hP : ∀ (x : V) (d : D) (H : Hp) (e : Env) (acc : List D) (n : Nat) (Nx : Hp → Prop) (w : Addr → Option Nat), acc.length + n = 16777216 → RelW G F w σ H e (base ++ [(.ref A, .ow (.lst acc))]) → Itm G pr H (hide H w) x d →
      (body d n e).wp (fun o e1 => ∀ H', o.length ≤ n → Rel G F σ H' e1 (base ++ [(.ref A, .ow (.lst (acc ++ o)))]) → Nx H') (fun _ _ => False) → P x H Nx)
    (h : RelW G F w σ H env (base ++ [(.ref A, .ow (.lst acc))])) (hn : acc.length + n = 16777216)
    (q : (dLoop body ds n env).wp (fun out e' => ∀ H', acc.length + out.length ≤ 16777216 → Rel G F σ H' e' (base ++ [(.ref A, .ow (.lst (acc ++ out)))]) → Nd H') (fun _ _ => False)) :
    ∃ W : Nat → Nat → Hp → Prop, (∃ m, W 0 m H) ∧ ∀ i m H, W i m H → (J.stop i H ∧ Nd H) ∨ (J.go i H ∧ ∃ Nx : Hp → Prop, (∀ H', Nx H' → ∃ m', m' < m ∧ W (i + 1) m' H') ∧ ∀ x H', J.yld i H x H' → P x H' Nx) := by
  refine ⟨fun i m H' => m = ds.length - i ∧ i ≤ ds.length ∧ ∃ w2 e2 acc2 n2, acc2.length + n2 = 16777216 ∧ RelW G F w2 σ H' e2 (base ++ [(.ref A, .ow (.lst acc2))]) ∧
    (dLoop body (ds.drop i) n2 e2).wp (fun out e' => ∀ H', acc2.length + out.length ≤ 16777216 → Rel G F σ H' e' (base ++ [(.ref A, .ow (.lst (acc2 ++ out)))]) → Nd H') (fun _ _ => False), ⟨ds.length, by omega, by omega, w, env, acc, n, hn, h, by rw [List.drop_zero]; exact q⟩, ?_⟩
  rintro i m H2 ⟨rfl, hi, w2, e2, acc2, n2, hn2, h4, q4⟩
  have hus : Has G us (hide H2 w2) H2 := ⟨hide_le, fun p hp => by
    obtain ⟨j, hj⟩ := List.getElem?_of_mem (hb p hp)
    obtain ⟨x', ex, r⟩ := h4.tmp j p.1 (.sh p.2) (by rw [List.getElem?_append_left (List.getElem?_eq_some_iff.mp hj).1]; exact hj)
    cases ex
    exact r⟩
  by_cases hlt : i < ds.length
  · rw [List.drop_eq_getElem_cons hlt, dLoop, Res.wp_bind] at q4
    refine .inr ⟨wk.go i _ _ hlt hus, fun H' => ∃ w2 e2 acc2 n2, acc2.length + n2 = 16777216 ∧ RelW G F w2 σ H' e2 (base ++ [(.ref A, .ow (.lst acc2))]) ∧
      (dLoop body (ds.drop (i + 1)) n2 e2).wp (fun out e' => ∀ H', acc2.length + out.length ≤ 16777216 → Rel G F σ H' e' (base ++ [(.ref A, .ow (.lst (acc2 ++ out)))]) → Nd H') (fun _ _ => False), fun H' z => ⟨ds.length - (i + 1), by omega, rfl, hlt, z⟩, fun x H' hy => ?_⟩
    obtain ⟨eH, d, ed, rx⟩ := wk.yld i _ _ x H' hlt hus hy
    have h4 := h4.ext eH
    have rx := rx.le (hide_ext eH)
    rw [List.getElem?_eq_getElem hlt] at ed
    cases ed
    refine hP x _ _ e2 acc2 n2 _ w2 hn2 h4 rx (Res.wp_mono q4 (fun o e3 q5 H3 ho ⟨w3, h5⟩ => ?_) fun _ _ z => z)
    rw [if_pos ho, Res.wp_bind] at q5
    exact ⟨w3, e3, acc2 ++ o, n2 - o.length, by rw [List.length_append]; omega, h5, Res.wp_mono q5 (fun out e' q6 H' hl r => q6 H' (by rw [List.length_append] at hl ⊢; omega) (by rw [List.append_assoc] at r; exact r)) fun _ _ z => z⟩
  · refine .inl ⟨wk.stop i _ _ (by omega) hus, ?_⟩
    rw [List.drop_eq_nil_of_le (by omega), dLoop] at q4
    refine q4 H2 ?_ ⟨w2, by rw [List.append_nil]; exact h4⟩
    show acc2.length + 0 ≤ _
    omega
/-- what a turn asks, as tLc has it -/
def stepP (g : TG) (tt : TT) (te : TE) (vs : List Nat) (σ : L2.St) (A : Addr) : V → Hp → (Hp → Prop) → Prop := fun x H' Nx => g x (wipe σ vs) H' fun σ2 H2 => wipe σ2 vs = wipe σ vs ∧ tt σ2 H2 fun b H3 =>
    if b = true then te σ2 H3 fun y H4 => ∃ acc, H4 A = some (.lst acc) ∧ acc.length < sizeLine ∧ Nx (upd H4 A (.lst (acc ++ [y]))) else Nx H3
theorem nb_push {base : List (V × S)} {own : List Nat} (nb : ∀ i ∈ own, ∀ t ∈ base, t.2 ≠ .bo i) {v : V} {d : D} : ∀ i ∈ own, ∀ t ∈ base ++ [(v, S.ow d)], t.2 ≠ .bo i := fun i hi t ht => by
  rcases List.mem_append.mp ht with ht | ht
  · exact nb i hi t ht
  · rw [List.mem_singleton.mp ht]
    exact fun z => nomatch z
theorem elt1_of {pr : Bool} {base : List (V × S)} {A : Addr} {g : D → Env → Option Env} {t : Env → Res Bool} {f : Den} {own vs : List Nat} (hvs : ∀ i ∈ vs, i ∈ own) (nb : ∀ i ∈ own, ∀ t ∈ base, t.2 ≠ .bo i) (x : V) (d : D) (H : Hp) (e : Env) (acc : List D) (n : Nat) (Nx : Hp → Prop) (w : Addr → Option Nat) (hn : acc.length + n = 16777216) (h4 : RelW G F w (wipe σ vs) H e (base ++ [(.ref A, .ow (.lst acc))])) (rx : Itm G pr H (hide H w) x d)
    (q4 : (elt1 g t f vs d n e).wp (fun o e1 => ∀ H', o.length ≤ n → Rel G F (wipe σ vs) H' e1 (base ++ [(.ref A, .ow (.lst (acc ++ o)))]) → Nx H') (fun _ _ => False)) :
    stepP (tG G pr (fun i => !decide (i ∈ vs)) g) (tT G W0 t) (tD G W0 f) vs σ A x H Nx := by
  have nbv : ∀ i ∈ vs, ∀ t ∈ base, t.2 ≠ .bo i := fun i hi => nb i (hvs i hi)
  unfold elt1 at q4
  split at q4
  case h_2 => exact q4.elim
  rename_i e3 eg
  refine ⟨F, _, e, w, _, e3, h4, fun i hi => nb_push nbv i (by simpa using hi), rx, eg, fun σ3 H3 w3 f3 h5 => ?_⟩
  have hw3 : wipe σ3 vs = wipe σ vs := wipe_fix f3
  refine ⟨hw3, ?_⟩
  rw [Res.wp_bind] at q4
  refine ⟨F, _, e3, ⟨w3, h5⟩, Res.wp_mono q4 (fun b e4 q4 H4 h6 => ?_) fun _ _ z => z.elim⟩
  obtain ⟨w6, h6⟩ := h6
  cases b with
  | false =>
    rw [if_neg Bool.false_ne_true] at q4 ⊢
    have h7 := h6.wipes (nb_push nbv)
    rw [hw3] at h7
    exact q4 H4 (Nat.zero_le _) ⟨w6, by rw [List.append_nil]; exact h7⟩
  | true =>
    rw [if_pos rfl] at q4 ⊢
    rw [Res.wp_bind] at q4
    refine ⟨F, _, e4, ⟨w6, h6⟩, Res.wp_mono q4 (fun s e5 q4 y H5 h8 => ?_) fun _ _ z => z.elim⟩
    obtain ⟨w8, h8⟩ := h8
    split at q4
    case h_2 => exact q4.elim
    rename_i d' e6 ee
    obtain ⟨w9, h9, _⟩ := h8.esc (j := base.length + 1) (x := y) (s := s) (last2 ..) ee
    rw [setL2] at h9
    have hy : Rep G (hide H5 w9) y d' := by
      obtain ⟨x', ex, r⟩ := h9.tmp (base.length + 1) y (.sh d') (last2 ..)
      cases ex
      exact r
    have h10 := h9.drop
    obtain ⟨a', o', ea, _, ho, _, hO⟩ := h10.tmp base.length (.ref A) (.ow (.lst acc)) (last1 ..)
    cases ea
    cases hO with
    | @lst vs' _ hr =>
      split at q4
      case isFalse => exact q4.elim
      rename_i h0
      have hlt : acc.length < 16777216 := by omega
      refine ⟨vs', ho, by rw [hr.length]; exact hlt, ?_⟩
      have h11 := (h10.mutT (o' := .lst (vs' ++ [y])) (d' := .lst (acc ++ [d'])) True.intro (.lst (hr.app (.cons hy .nil)))).wipes (nb_push nbv)
      rw [hw3] at h11
      exact q4 _ (by show 1 ≤ n; omega) ⟨_, h11⟩
theorem base_of {own : List Nat} {us : List (V × D)} {e : Env} (h1 : RelW G F w σ H e ts) (ok : okOwn e own = true) (hu : Has G us (hide H w) H) : RelW G F w (wipe σ own) H (wipeE e own) (ts.map (savT e own) ++ shs (us ++ saved e σ own)) ∧ ∀ i ∈ own, ∀ t ∈ ts.map (savT e own) ++ shs (us ++ saved e σ own), t.2 ≠ .bo i := by
  have nb : ∀ i ∈ own, ∀ t ∈ ts.map (savT e own) ++ shs (us ++ saved e σ own), t.2 ≠ .bo i := fun i hi t ht => by
    rcases List.mem_append.mp ht with ht | ht
    · obtain ⟨p, _, e⟩ := List.mem_map.mp ht
      rw [← e]
      exact savT_nb hi p
    · exact shs_nb t ht
  refine ⟨((h1.sav ok).pushShs (us := us ++ saved e σ own) fun p hp => ?_).wipes nb, nb⟩
  rcases List.mem_append.mp hp with hp | hp
  · exact hu.2 p hp
  · exact h1.savedRep p hp
/-- the frame of a comprehension -/
theorem lcG_of {pr : Bool} {wi : TI} {src : Env → Res (List D)} {body : D → Nat → Env → Res (List D)} {own : List Nat} {Q : VK} {P : L2.St → Addr → V → Hp → (Hp → Prop) → Prop}
    (hP : ∀ {F : Fr} {σ : L2.St} {base : List (V × S)} {A : Addr} (nb : ∀ i ∈ own, ∀ t ∈ base, t.2 ≠ .bo i) (x : V) (d : D) (H : Hp) (e : Env) (acc : List D) (n : Nat) (Nx : Hp → Prop) (w : Addr → Option Nat), acc.length + n = 16777216 → RelW G F w (wipe σ own) H e (base ++ [(.ref A, .ow (.lst acc))]) → Itm G pr H (hide H w) x d →
      (body d n e).wp (fun o e1 => ∀ H', o.length ≤ n → Rel G F (wipe σ own) H' e1 (base ++ [(.ref A, .ow (.lst (acc ++ o)))]) → Nx H') (fun _ _ => False) → P σ A x H Nx)
    (h : tD G W (dLcG src body own) σ H Q) :
    tI G pr W src σ H fun J H1 => ∀ A, H1 A = none → ∃ W : Nat → Nat → Hp → Prop, (∃ m, W 0 m (upd H1 A (.lst []))) ∧ ∀ i m H, W i m H → (J.stop i H ∧ Q (.ref A) H) ∨ (J.go i H ∧ ∃ Nx : Hp → Prop, (∀ H', Nx H' → ∃ m', m' < m ∧ W (i + 1) m' H') ∧ ∀ x H', J.yld i H x H' → P σ A x H' Nx) := by
  obtain ⟨F, ts, env, h, q⟩ := h
  rw [dLcG, Res.wp_bind] at q
  refine ⟨F, ts, env, h, Res.wp_mono q (fun ds e q J us H1 w1 h1 hu wk A hA => ?_) fun _ _ z => z⟩
  split at q
  case isFalse => exact q.elim
  rename_i ok
  rw [Res.wp_bind, Res.wp_nx] at q
  obtain ⟨h2, nb⟩ := base_of h1 ok hu
  obtain ⟨w3, h3, _⟩ := h2.pushOut (v := .ref A) (s := .ow (.lst [])) (Out.newOw hA (.lst .nil) True.intro)
  refine loop_of wk (fun p hp => List.mem_append_right _ (List.mem_map.mpr ⟨p, List.mem_append_left _ hp, rfl⟩)) (fun x d H e acc n Nx w => hP nb x d H e acc n Nx w) h3 (n := 16777216) (by simp) (Res.wp_mono q (fun out e' q H' _ ⟨w4, h4⟩ => ?_) fun _ _ z => z)
  rw [List.nil_append] at h4
  exact q (.ref A) H' (RelW.unsav h1 ok (us := us) h4 (wipe_idem own))
theorem tLc_of {pr : Bool} {src : Env → Res (List D)} {g : D → Env → Option Env} {t : Env → Res Bool} {f : Den} {own : List Nat} {Q : VK} (h : tD G W (dLc src g t f own) σ H Q) :
    tLc (tI G pr W src) (tG G pr (fun i => !decide (i ∈ own)) g) (tT G W0 t) (tD G W0 f) own σ H Q :=
  lcG_of (P := fun σ A => stepP (tG G pr (fun i => !decide (i ∈ own)) g) (tT G W0 t) (tD G W0 f) own σ A) (wi := tI G pr W src) (fun nb x d H e acc n Nx w hn h r q => elt1_of (fun _ h => h) nb x d H e acc n Nx w hn h r q) h
/-- what a turn asks, as tLc2 has it -/
def stepP2 (g : TG) (tt : TT) (wi1 : TI) (g1 : TG) (tt1 : TT) (te : TE) (vs vs1 : List Nat) (σ : L2.St) (A : Addr) : V → Hp → (Hp → Prop) → Prop := fun x H' Nx => g x (wipe σ vs) H' fun σ2 H2 => wipe σ2 vs = wipe σ vs ∧ tt σ2 H2 fun b H3 =>
    if b = true then wi1 σ2 H3 fun J1 H4 => ∃ W1 : Nat → Nat → Hp → Prop, (∃ m, W1 0 m H4) ∧ ∀ j k H, W1 j k H →
      (J1.stop j H ∧ Nx H) ∨ (J1.go j H ∧ ∃ Nx1 : Hp → Prop, (∀ H', Nx1 H' → ∃ k', k' < k ∧ W1 (j + 1) k' H') ∧ ∀ x H', J1.yld j H x H' → stepP g1 tt1 te vs1 σ2 A x H' Nx1)
    else Nx H3
theorem wipe_wipe {vs vs1 : List Nat} (h : ∀ i ∈ vs1, i ∈ vs) : wipe (wipe σ vs1) vs = wipe σ vs := wipe_ext (wipe_length σ vs1) fun i hi => wipe_get fun z => hi (h i z)
theorem elt2_of {pr pr1 : Bool} {base : List (V × S)} {A : Addr} {g g1 : D → Env → Option Env} {t t1 : Env → Res Bool} {src1 : Env → Res (List D)} {f : Den} {own vs1 : List Nat} (hvs : ∀ i ∈ vs1, i ∈ own) (nb : ∀ i ∈ own, ∀ t ∈ base, t.2 ≠ .bo i) (x : V) (d : D) (H : Hp) (e : Env) (acc : List D) (n : Nat) (Nx : Hp → Prop) (w : Addr → Option Nat) (hn : acc.length + n = 16777216) (h4 : RelW G F w (wipe σ own) H e (base ++ [(.ref A, .ow (.lst acc))])) (rx : Itm G pr H (hide H w) x d)
    (q4 : (elt2 g t src1 (elt1 g1 t1 f vs1) vs1 own d n e).wp (fun o e1 => ∀ H', o.length ≤ n → Rel G F (wipe σ own) H' e1 (base ++ [(.ref A, .ow (.lst (acc ++ o)))]) → Nx H') (fun _ _ => False)) :
    stepP2 (tG G pr (fun i => !decide (i ∈ own)) g) (tT G W0 t) (tI G pr1 W0 src1) (tG G pr1 (fun i => !decide (i ∈ vs1)) g1) (tT G W0 t1) (tD G W0 f) own vs1 σ A x H Nx := by
  unfold elt2 at q4
  split at q4
  case h_2 => exact q4.elim
  rename_i e3 eg
  refine ⟨F, _, e, w, _, e3, h4, fun i hi => nb_push nb i (by simpa using hi), rx, eg, fun σ3 H3 w3 f3 h5 => ?_⟩
  have hw3 : wipe σ3 own = wipe σ own := wipe_fix f3
  refine ⟨hw3, ?_⟩
  rw [Res.wp_bind] at q4
  refine ⟨F, _, e3, ⟨w3, h5⟩, Res.wp_mono q4 (fun b e4 q4 H4 h6 => ?_) fun _ _ z => z.elim⟩
  obtain ⟨w6, h6⟩ := h6
  cases b with
  | false =>
    rw [if_neg Bool.false_ne_true] at q4 ⊢
    have h7 := h6.wipes (nb_push nb)
    rw [hw3] at h7
    exact q4 H4 (Nat.zero_le _) ⟨w6, by rw [List.append_nil]; exact h7⟩
  | true =>
    rw [if_pos rfl] at q4 ⊢
    rw [Res.wp_bind] at q4
    refine ⟨F, _, e4, ⟨w6, h6⟩, Res.wp_mono q4 (fun ds e5 q4 J us H5 w8 h8 hu wk => ?_) fun _ _ z => z.elim⟩
    rw [Res.wp_bind] at q4
    obtain ⟨w9, h9⟩ := (h8.wipes (vs := vs1) fun i hi => nb_push nb i (hvs i hi)).ins hu.2
    have nb1 : ∀ i ∈ own, ∀ t ∈ base ++ shs us, t.2 ≠ .bo i := fun i hi t ht => by
      rcases List.mem_append.mp ht with ht | ht
      · exact nb i hi t ht
      · exact shs_nb t ht
    refine loop_of (P := fun x H' Nx1 => stepP (tG G pr1 (fun i => !decide (i ∈ vs1)) g1) (tT G W0 t1) (tD G W0 f) vs1 σ3 A x H' Nx1) wk (fun p hp => List.mem_append_right _ (List.mem_map.mpr ⟨p, hp, rfl⟩)) (fun x d H e acc n Nx w hn h r q => elt1_of hvs nb1 x d H e acc n Nx w hn h r q) h9 hn (Res.wp_mono q4 (fun out e' q H' hl ⟨wa, ha⟩ => ?_) fun _ _ z => z)
    have hb := ha.wipes (nb_push nb1)
    rw [wipe_wipe hvs, hw3, List.append_assoc] at hb
    obtain ⟨wc, hc, _⟩ := hb.mid
    exact q H' (by omega) ⟨wc, hc⟩
theorem tLc2_of {pr pr1 : Bool} {src src1 : Env → Res (List D)} {g g1 : D → Env → Option Env} {t t1 : Env → Res Bool} {f : Den} {own vs1 : List Nat} (hvs : ∀ i ∈ vs1, i ∈ own) {Q : VK} (h : tD G W (dLc2 src g t src1 g1 t1 f own vs1) σ H Q) :
    tLc2 (tI G pr W src) (tG G pr (fun i => !decide (i ∈ own)) g) (tT G W0 t) (tI G pr1 W0 src1) (tG G pr1 (fun i => !decide (i ∈ vs1)) g1) (tT G W0 t1) (tD G W0 f) own vs1 σ H Q :=
  lcG_of (P := fun σ A => stepP2 (tG G pr (fun i => !decide (i ∈ own)) g) (tT G W0 t) (tI G pr1 W0 src1) (tG G pr1 (fun i => !decide (i ∈ vs1)) g1) (tT G W0 t1) (tD G W0 f) own vs1 σ A) (wi := tI G pr W src) (fun nb x d H e acc n Nx w hn h r q => elt2_of hvs nb x d H e acc n Nx w hn h r q) h
/-! ### the rules -/
section
variable {elt tg iter tg1 iter1 : Expr} {ifs ifs1 : List Expr} {scope : Scope} {own : List (Str × Nat)} {vs1 : List Nat} {pos : Pos} {src src1 : Env → Res (List D)} {g g1 : D → Env → Option Env} {t t1 : Env → Res Bool} {f : Den} {ov : List Nat} {pr pr1 : Bool}
abbrev AtBlk (X : Cx) (scope : Scope) (P : Cx → Prop) : Prop := ∀ (s : Shared) (H : Hp) (C : Addr) (cl : List (Str × Addr)) (fp : List Addr), P (X.blk s H scope (compEnvC scope cl C X.env) fp)
theorem de_lc (hc : X.calm = true) (hN : X.N.Nodup) (hi : PI X tg iter (tI G pr W src)) (ok : BlkOk X.N X.env.scope scope own) (ho : own.map (·.2) = ov)
    (hg : AtBlk X scope fun X => PG X tg (tG G pr (fun i => !decide (i ∈ ov)) g)) (ht : AtBlk X scope fun X => PTs X ifs (tT G W0 t)) (he : AtBlk X scope fun X => PE X elt (tD G W0 f)) (hs : ∀ x, foldedSetIterable iter X.env x = pure x := by intro _; rfl) :
    PE X (.ListComp elt [⟨tg, iter, ifs, 0⟩] scope pos) (tD G W (dLc src g t f ov)) := by
  subst ho
  exact peImp (pe_lc hc hN hi ok hg ht he hs) fun σ H Q h => tLc_of h
theorem de_lc2 (hc : X.calm = true) (hN : X.N.Nodup) (hi : PI X tg iter (tI G pr W src)) (ok : BlkOk X.N X.env.scope scope own) (ho : own.map (·.2) = ov) (hv : ∀ i ∈ vs1, i ∈ ov)
    (hg : AtBlk X scope fun X => PG X tg (tG G pr (fun i => !decide (i ∈ ov)) g)) (ht : AtBlk X scope fun X => PTs X ifs (tT G W0 t)) (hi1 : AtBlk X scope fun X => PI X tg1 iter1 (tI G pr1 W0 src1))
    (hg1 : AtBlk X scope fun X => PG X tg1 (tG G pr1 (fun i => !decide (i ∈ vs1)) g1)) (ht1 : AtBlk X scope fun X => PTs X ifs1 (tT G W0 t1)) (he : AtBlk X scope fun X => PE X elt (tD G W0 f)) (hs : ∀ x, foldedSetIterable iter X.env x = pure x := by intro _; rfl) (hs1 : ∀ env x, foldedSetIterable iter1 env x = pure x := by intro _ _; rfl) :
    PE X (.ListComp elt [⟨tg, iter, ifs, 0⟩, ⟨tg1, iter1, ifs1, 0⟩] scope pos) (tD G W (dLc2 src g t src1 g1 t1 f ov vs1)) := by
  subst ho
  exact peImp (pe_lc2 hc hN hi ok hv hg ht hi1 hg1 ht1 he hs hs1) fun σ H Q h => tLc2_of hv h
theorem set_of {te : TE} {i : Nat} {d : Den} {Dn : Ends} (hfx : fx i = false) (hT : ∀ σ H Q, tD G W d σ H Q → te σ H Q) (h : tS G W fx (dSet i d) Dn σ H) : tAsg te (gName i) Dn σ H := by
  obtain ⟨F, bs, env, h, q⟩ := h
  rw [dSet, Res.wp_bind] at q
  refine hT _ _ _ (tD.mk h (Res.wp_mono q (fun s e q v H1 h1 => ?_) fun _ _ z => z.xp))
  obtain ⟨s', e', ea, q⟩ := stN_wp q
  obtain ⟨w, h1⟩ := h1
  obtain ⟨⟨w2, h2, _⟩, hn⟩ := h1.asg ea
  obtain ⟨w3, h3, _⟩ := h2.put (i := i) hn
  exact q _ H1 (Fix.refl.set hfx) ⟨w3, h3⟩
theorem ds_setLc {i : Nat} {y : Str} {py spos : Pos} (hc : X.calm = true) (hN : X.N.Nodup) (hy : X.N[i]? = some y) (hyl : X.env.scope.names.lookup y = some .local) (hfx : fx i = false)
    (hsw : swapsWith (.ListComp elt [⟨tg, iter, ifs, 0⟩] scope pos) (some (.Name y py)) spos.line X.env = pure true) (hi : PI X tg iter (tI G pr W src)) (ok : BlkOk X.N X.env.scope scope own) (ho : own.map (·.2) = ov)
    (hg : AtBlk X scope fun X => PG X tg (tG G pr (fun i => !decide (i ∈ ov)) g)) (ht : AtBlk X scope fun X => PTs X ifs (tT G W0 t)) (he : AtBlk X scope fun X => PE X elt (tD G W0 f)) (hs : ∀ x, foldedSetIterable iter X.env x = pure x := by intro _; rfl) :
    PS X (.Assign [.Name y py] (.ListComp elt [⟨tg, iter, ifs, 0⟩] scope pos) spos) (tS G W fx (dSet i (dLc src g t f ov))) := by
  subst ho
  exact psImp (ps_setLc hc hN hy hyl hsw hi ok hg ht he hs) fun Dn σ H h => set_of hfx (fun _ _ _ h => tLc_of h) h
theorem ds_setLc2 {i : Nat} {y : Str} {py spos : Pos} (hc : X.calm = true) (hN : X.N.Nodup) (hy : X.N[i]? = some y) (hyl : X.env.scope.names.lookup y = some .local) (hfx : fx i = false)
    (hsw : swapsWith (.ListComp elt [⟨tg, iter, ifs, 0⟩, ⟨tg1, iter1, ifs1, 0⟩] scope pos) (some (.Name y py)) spos.line X.env = pure true) (hi : PI X tg iter (tI G pr W src)) (ok : BlkOk X.N X.env.scope scope own) (ho : own.map (·.2) = ov) (hv : ∀ i ∈ vs1, i ∈ ov)
    (hg : AtBlk X scope fun X => PG X tg (tG G pr (fun i => !decide (i ∈ ov)) g)) (ht : AtBlk X scope fun X => PTs X ifs (tT G W0 t)) (hi1 : AtBlk X scope fun X => PI X tg1 iter1 (tI G pr1 W0 src1))
    (hg1 : AtBlk X scope fun X => PG X tg1 (tG G pr1 (fun i => !decide (i ∈ vs1)) g1)) (ht1 : AtBlk X scope fun X => PTs X ifs1 (tT G W0 t1)) (he : AtBlk X scope fun X => PE X elt (tD G W0 f)) (hs : ∀ x, foldedSetIterable iter X.env x = pure x := by intro _; rfl) (hs1 : ∀ env x, foldedSetIterable iter1 env x = pure x := by intro _ _; rfl) :
    PS X (.Assign [.Name y py] (.ListComp elt [⟨tg, iter, ifs, 0⟩, ⟨tg1, iter1, ifs1, 0⟩] scope pos) spos) (tS G W fx (dSet i (dLc2 src g t src1 g1 t1 f ov vs1))) := by
  subst ho
  exact psImp (ps_setLc2 hc hN hy hyl hsw hi ok hv hg ht hi1 hg1 ht1 he hs hs1) fun Dn σ H h => set_of hfx (fun _ _ _ h => tLc2_of hv h) h
end
end
end T

/-! TCall: a def's promise, its body, its call. -/
namespace T
open PySem PySem.Spec PyProof.Rows L2

namespace Res
/-- the names around, set again -/
def back {α : Type} (e' : Env) : Res α → Res α
  | ok a _ => ok a e'
  | exc x _ => exc x e'
  | bad => bad
  | ask n k => ask n fun r => back e' (k r)
theorem wp_back {α : Type} {e' : Env} {m : Res α} {Q : α → Env → Prop} {E : Exn → Env → Prop} : wp (back e' m) Q E ↔ wp m (fun a _ => Q a e') (fun x _ => E x e') := by
  induction m with
  | ok a e => exact Iff.rfl
  | exc x e => exact Iff.rfl
  | bad => exact Iff.rfl
  | ask n k ih => exact ⟨fun h r hr => (ih r).mp (h r hr), fun h r hr => (ih r).mpr (h r hr)⟩
end Res
abbrev FD := List D → Res S
def ioE (io : Bool) : Env := if io then [.tok] else []
def ioN (io : Bool) : Nat := if io then 1 else 0
theorem ioE_len (io : Bool) : (ioE io).length = ioN io := by cases io <;> rfl
/-- the draw still stands in its slot -/
def tokAt (io : Bool) (e : Env) : Bool := !io || (match (e[0]? : Option S) with
  | some S.tok => true
  | _ => false)
def fin (io : Bool) : Fl → Env → Res S
  | .next, e => if tokAt io e = true then .ok (.sh .non) [] else .bad
  | .ret (.sh d), e => if tokAt io e = true then .ok (.sh d) [] else .bad
  | .ret (.ow d), e => if tokAt io e = true then .ok (.ow d) [] else .bad
  | _, _ => .bad
/-- a body's end -/
def ends (io : Bool) : Res Fl → Res S
  | .ok fl e => fin io fl e
  | .exc x e => if tokAt io e = true then .exc x [] else .bad
  | .bad => .bad
  | .ask n k => .ask n fun r => ends io (k r)
theorem wp_ends {io : Bool} {m : Res Fl} {Q : S → Env → Prop} {E : Exn → Env → Prop} (h : (ends io m).wp Q E) : m.wp (fun fl e => (fin io fl e).wp Q E) (fun x e => tokAt io e = true ∧ E x []) := by
  induction m with
  | ok a e => exact h
  | exc x e =>
    unfold ends at h
    split at h
    · rename_i c
      exact ⟨c, h⟩
    · exact h.elim
  | bad => exact h
  | ask n k ih => exact fun r hr => ih r (h r hr)
/-- m: the names behind the parameters -/
def dFun (io : Bool) (m : Nat) (f : DenS) : FD := fun as => ends io (f (ioE io ++ as.map S.sh ++ List.replicate m S.no))
def spF (G : Gh) (io : Bool) (n : Nat) (fd : FD) : Sp := fun vs H Q E => ∃ F as, vs.length = n ∧ Rel G F (vs.map some) H (ioE io ++ as.map S.sh) [] ∧
  (fd as).wp (fun s _ => ∀ v H', (∀ j, s ≠ .bo j) → Rel G F ((vs.take (ioN io)).map some) H' (ioE io) [(v, s)] → Q v H') (fun x _ => ∀ d H', Rel G F ((vs.take (ioN io)).map some) H' (ioE io) [] → XD x d H' → E (.ref (G.C x.cls)) d H')

section
variable {G : Gh} {F : Fr} {w w' : Addr → Option Nat} {σ : L2.St} {H H' : Hp} {env : Env} {ts us : List (V × S)}
theorem RelW.grow {m : Nat} (h : RelW G F w σ H env []) : RelW G F w (σ ++ List.replicate m none) H (env ++ List.replicate m S.no) [] := by
  refine ⟨by rw [List.length_append, List.length_append, h.len, List.length_replicate, List.length_replicate], fun i s e => ?_, (fun j x s e => nomatch e), h.own, h.fgn, h.fgh, h.keep, h.there, h.tabs⟩
  by_cases hi : i < env.length
  · rw [List.getElem?_append_left hi] at e
    rw [List.getElem?_append_left (by rw [← h.len]; exact hi)]
    have z := h.ent i s e
    refine ⟨z.1, ?_⟩
    cases s with
    | bo j => exact absurd rfl (z.1 j)
    | _ => exact z.2
  · rw [List.getElem?_append_right (Nat.le_of_not_lt hi), List.getElem?_replicate] at e
    split at e
    · cases e
      exact ⟨(fun _ z => nomatch z), True.intro⟩
    · cases e
theorem tokAt_at {io : Bool} {e : Env} (h : tokAt io e = true) (hi : io = true) : e[0]? = some .tok := by
  subst hi
  simp only [tokAt, Bool.not_true, Bool.false_or] at h
  split at h
  · assumption
  · cases h
/-- a body's end: only the draw stays -/
theorem RelW.cut {io : Bool} {e : Env} {vs : List V} {σ0 : L2.St} (h : RelW G F w σ H e us) (hn : ∀ t ∈ us, ∀ j, t.2 ≠ .bo j) (ht : tokAt io e = true) (hl : ioN io ≤ vs.length) (h0 : io = true → σ[0]? = (vs.map some ++ σ0)[0]?) : Rel G F ((vs.take (ioN io)).map some) H (ioE io) us := by
  refine ⟨_, h.re (fun k => if k = 0 then some 0 else if io = true ∧ k = 1 then some 1 else if e.length + 1 ≤ k then some (ioN io + k - e.length) else none) rfl (fun k q => ?_) ?_ (fun i s q => ?_) fun j x s q => ?_⟩
  · split at q
    · assumption
    · split at q
      · cases q
      · split at q
        · have := Option.some.inj q; omega
        · cases q
  · rw [ioE_len, List.length_map, List.length_take]
    omega
  · cases io with
    | false => cases q
    | true =>
      cases i with
      | succ i => cases q
      | zero =>
        cases q
        have z := h.ent 0 _ (tokAt_at ht rfl)
        refine ⟨z.1, ?_⟩
        cases vs with
        | nil => exact absurd hl (by decide)
        | cons v vs =>
          have e2 : σ[0]? = some (some v) := h0 rfl
          have z2 := z.2.re z.1 (ι := fun k => if k = 0 then some 0 else if true = true ∧ k = 1 then some 1 else if e.length + 1 ≤ k then some (ioN true + k - e.length) else none) (i := 0 + 1) (k := 0 + 1) (σ2 := [some v]) (env2 := [S.tok]) fun _ => rfl
          rw [e2] at z2
          exact z2
  · have z := h.tmp j x s q
    have hs := hn _ (List.mem_of_getElem? q)
    refine z.re hs fun _ => ?_
    rw [if_neg (by omega), if_neg (fun c => by have := (List.getElem?_eq_some_iff.mp (tokAt_at ht c.1)).1; omega), if_pos (by omega), ioE_len]
    congr 1
    omega
theorem EntOk.mono2 {i : Nat} {v : Option V} {s : S} (h : EntOk G H w σ env i v s) (hle : Le (hide H w) (hide H' w')) (hw : ∀ a, w a = some i → w' a = some i ∧ ∀ o, NTbl o → H a = some o → H' a = some o) (hs : s ≠ .tok) : EntOk G H' w' σ env i v s := by
  cases s with
  | no => exact True.intro
  | sh d =>
    obtain ⟨x, e, r⟩ := h
    exact ⟨x, e, Rep.le hle r⟩
  | ow d =>
    obtain ⟨a, o, e, h1, h2, h3, h4⟩ := h
    exact ⟨a, o, e, (hw a h1).1, (hw a h1).2 o h4.ntbl h2, h3, h4.le hle⟩
  | tok => exact absurd rfl hs
  | bo j => exact h
theorem RelW.owned0 (h : RelW G F w σ H env ts) {a : Addr} {k : Nat} (q : w a = some k) : H a ≠ none := by
  cases k with
  | zero => exact h.fgh a ((h.fgn a).mpr q)
  | succ k => exact (h.own a k q).2
/-- the frame of a call -/
def inFr (io : Bool) (j : Nat) (w : Addr → Option Nat) (H : Hp) : Fr := ⟨H, fun a => io = true ∧ w a = some (j + 1), fun a => w a ≠ none ∧ ¬ (io = true ∧ w a = some (j + 1))⟩
theorem RelW.enter {io : Bool} {j : Nat} {vs vs' : List V} {as : List D} (h : RelW G F w σ H env ts) (r : Reps G (hide H w) vs' as) (hv : vs = (if io then [(σ[j]?.getD none).getD .non] else []) ++ vs') (ht : io = true → env[j]? = some .tok) :
    Rel G (inFr io j w H) (vs.map some) H (ioE io ++ as.map S.sh) [] := by
  refine ⟨fun a => (w a).bind fun k => if io = true ∧ k = j + 1 then some 1 else some 0, ?_⟩
  have hle : Le (hide H w) (hide H fun a => (w a).bind fun k => if io = true ∧ k = j + 1 then some 1 else some 0) := hide_re
  have shr : ∀ (i : Nat) (s : S), (as.map S.sh)[i]? = some s → (∀ j, s ≠ .bo j) ∧ EntOk G H (fun a => (w a).bind fun k => if io = true ∧ k = j + 1 then some 1 else some 0) (vs.map some) (ioE io ++ as.map S.sh) (ioN io + i + 1) ((vs'.map some)[i]?.getD none) s := fun i s e => by
    rw [List.getElem?_map] at e
    cases q : as[i]? with
    | none => rw [q] at e; cases e
    | some d =>
      rw [q] at e
      cases e
      obtain ⟨x, ex, rx⟩ := r.get q
      rw [List.getElem?_map, ex]
      exact ⟨(fun _ z => nomatch z), x, rfl, Rep.le hle rx⟩
  refine ⟨?_, fun i s e => ?_, (fun j x s e => nomatch e), fun a i e => ?_, fun a => ?_, fun a e => ?_, fun a o _ _ e => .inl e, fun a e => e, h.tabs⟩
  · rw [hv, List.length_append, ioE_len, List.length_map, List.length_map, List.length_append, r.length]
    cases io <;> rfl
  · cases io with
    | false =>
      have z := shr i s e
      rw [show vs = vs' from hv]
      have e0 : ioN false + i + 1 = i + 1 := by show 0 + i + 1 = i + 1; omega
      rw [e0, show vs = vs' from hv] at z
      exact z
    | true =>
      cases i with
      | succ i =>
        have z := shr i s e
        have e0 : ioN true + i + 1 = i + 1 + 1 := by show 1 + i + 1 = i + 1 + 1; omega
        rw [e0] at z
        have e1 : (vs.map some)[i + 1]? = (vs'.map some)[i]? := by rw [hv]; rfl
        rw [e1]
        exact z
      | zero =>
        cases e
        obtain ⟨a, l, c, ev, h1, h2, h3, h4⟩ := (h.ent j _ (ht rfl)).2
        refine ⟨(fun _ z => nomatch z), a, l, c, ?_, ?_, ?_, ?_, h4⟩
        · rw [hv, ev]
          rfl
        · show (w a).bind _ = _
          rw [h1]
          exact if_pos ⟨rfl, rfl⟩
        · show (w l).bind _ = _
          rw [h2]
          exact if_pos ⟨rfl, rfl⟩
        · show (w c).bind _ = _
          rw [h3]
          exact if_pos ⟨rfl, rfl⟩
  · cases q : w a with
    | none =>
      have e' : (w a).bind _ = some (i + 1) := e
      rw [q] at e'
      cases e'
    | some k =>
      have e' : (w a).bind _ = some (i + 1) := e
      rw [q] at e'
      have e2 : (if io = true ∧ k = j + 1 then some 1 else some 0) = some (i + 1) := e'
      split at e2
      · rename_i c
        exact ⟨.inl (show io = true ∧ w a = some (j + 1) from ⟨c.1, by rw [q, c.2]⟩), h.owned0 q⟩
      · cases e2
  · cases q : w a with
    | none => exact ⟨fun z => absurd q z.1, fun z => nomatch z⟩
    | some k =>
      show (w a ≠ none ∧ ¬ (io = true ∧ w a = some (j + 1))) ↔ (if io = true ∧ k = j + 1 then some 1 else some 0) = some 0
      rw [q]
      by_cases c : io = true ∧ k = j + 1
      · rw [if_pos c]
        exact ⟨fun z => absurd ⟨c.1, by rw [c.2]⟩ z.2, fun z => nomatch z⟩
      · rw [if_neg c]
        exact ⟨fun _ => rfl, fun _ => ⟨(fun z => nomatch z), fun z => c ⟨z.1, Option.some.inj z.2⟩⟩⟩
  · cases q : w a with
    | none => exact absurd q e.1
    | some k => exact h.owned0 q
theorem RelW.leave {io : Bool} {j : Nat} {σ2 : L2.St} (h : RelW G F w σ H env ts) (ht : io = true → env[j]? = some .tok) (h2 : io = true → σ2[0]? = σ[j]?) (r : RelW G (inFr io j w H) w' σ2 H' (ioE io) us) (hn : ∀ t ∈ us, ∀ j, t.2 ≠ .bo j) : Rel G F σ H' env (ts ++ us) := by
  have hj : io = true → j < env.length := fun z => (List.getElem?_eq_some_iff.mp (ht z)).1
  let ι : Nat → Option Nat := fun k => if io = true ∧ k = 1 then some (j + 1) else if ioN io + 1 ≤ k then some (env.length + ts.length + k - ioN io) else none
  let wn : Addr → Option Nat := fun a => match w' a with
    | none => none
    | some 0 => w a
    | some (k + 1) => ι (k + 1)
  have fg : ∀ a, w' a = some 0 ↔ w a ≠ none ∧ ¬ (io = true ∧ w a = some (j + 1)) := fun a => (r.fgn a).symm
  have old : ∀ a o, w a = none → H a = some o → w' a = none := fun a o e1 e2 => by
    cases q : w' a with
    | none => rfl
    | some k =>
      cases k with
      | zero => exact absurd e1 ((fg a).mp q).1
      | succ k =>
        rcases (r.own a k q).1 with ⟨_, z⟩ | z
        · rw [e1] at z; cases z
        · have z' : H a = none := z
          rw [e2] at z'; cases z'
  have wn0 : ∀ a, w' a = none → wn a = none := fun a e => by show (match w' a with | none => none | some 0 => w a | some (k + 1) => ι (k + 1)) = none; rw [e]
  have wnF : ∀ a, w' a = some 0 → wn a = w a := fun a e => by show (match w' a with | none => none | some 0 => w a | some (k + 1) => ι (k + 1)) = w a; rw [e]
  have wnS : ∀ a k, w' a = some (k + 1) → wn a = ι (k + 1) := fun a k e => by show (match w' a with | none => none | some 0 => w a | some (k + 1) => ι (k + 1)) = _; rw [e]
  have hle : Le (hide H w) (hide H' wn) := fun a o n e0 => by
    obtain ⟨q, e⟩ := hide_some e0
    have k := r.keep a o (fun z => by have z' : w a = some (j + 1) := z.2; rw [q] at z'; cases z') n e
    rw [hide_of (wn0 a (old a o q e))]
    exact k.imp id fun z => z.2
  have hle2 : Le (hide H' w') (hide H' wn) := hide_mono fun a o q _ e => ⟨wn0 a q, e⟩
  have kept : ∀ i a, w a = some i → ¬ (io = true ∧ i = j + 1) → wn a = some i ∧ ∀ o, NTbl o → H a = some o → H' a = some o := fun i a e c => by
    have c' : ¬ (io = true ∧ w a = some (j + 1)) := fun z => c ⟨z.1, by rw [e] at z; exact Option.some.inj z.2⟩
    exact ⟨by rw [wnF a ((fg a).mpr ⟨(by rw [e]; exact fun z => nomatch z), c'⟩), e], fun o n q => (r.keep a o c' n q).resolve_right fun z => z.1 ⟨(by rw [e]; exact fun z => nomatch z), c'⟩⟩
  refine ⟨wn, h.len, fun i s e => ⟨(h.ent i s e).1, ?_⟩, fun m x s e => ?_, fun a i e => ?_, fun a => ?_, fun a e => r.there a (h.fgh a e), fun a o q n e => ?_, fun a e => r.there a (h.there a e), r.tabs⟩
  · by_cases c : io = true ∧ i = j
    · obtain ⟨rfl, rfl⟩ := c
      rw [ht rfl] at e
      cases e
      obtain ⟨a, l, c, ev, h1, h2', h3, h4⟩ := (r.ent 0 .tok rfl).2
      rw [h2 rfl] at ev
      have k1 : ι (0 + 1) = some (i + 1) := if_pos ⟨rfl, rfl⟩
      exact ⟨a, l, c, ev, (wnS a 0 h1).trans k1, (wnS l 0 h2').trans k1, (wnS c 0 h3).trans k1, h4⟩
    · by_cases ct : s = .tok
      · subst ct
        obtain ⟨a, l, c', ev, h1, h2', h3, ls, cs, r', t, p0, p1, p2, p3, q1, q2, q3, n⟩ := (h.ent i _ e).2
        have k := fun a z => kept (i + 1) a z fun z => c ⟨z.1, Nat.succ.inj z.2⟩
        exact ⟨a, l, c', ev, (k a h1).1, (k l h2').1, (k c' h3).1, ls, cs, r', t, p0, p1, p2, p3, (k a h1).2 _ nt_dK q1, (k l h2').2 _ nt_lst q2, (k c' h3).2 _ nt_lst q3, n⟩
      · exact (h.ent i s e).2.mono2 hle (fun a z => kept (i + 1) a z fun z => c ⟨z.1, Nat.succ.inj z.2⟩) ct
  · by_cases hm : m < ts.length
    · rw [List.getElem?_append_left hm] at e
      have k := fun a z => kept (env.length + m + 1) a z fun z => by have := hj z.1; omega
      by_cases ct : s = .tok
      · subst ct
        obtain ⟨a, l, c', ev, h1, h2', h3, ls, cs, r', t, p0, p1, p2, p3, q1, q2, q3, n⟩ := h.tmp m x _ e
        exact ⟨a, l, c', ev, (k a h1).1, (k l h2').1, (k c' h3).1, ls, cs, r', t, p0, p1, p2, p3, (k a h1).2 _ nt_dK q1, (k l h2').2 _ nt_lst q2, (k c' h3).2 _ nt_lst q3, n⟩
      · exact (h.tmp m x s e).mono2 hle k ct
    · rw [List.getElem?_append_right (Nat.le_of_not_lt hm)] at e
      have z := r.tmp _ x s e
      have hs := hn _ (List.mem_of_getElem? e)
      have ki : ι ((ioE io).length + (m - ts.length) + 1) = some (env.length + m + 1) := by
        show (if io = true ∧ _ then _ else if _ then _ else _) = _
        rw [ioE_len, if_neg (fun z => by rw [show ioN io = 1 by rw [z.1]; rfl] at z; omega), if_pos (by omega)]
        congr 1
        omega
      cases s with
      | no => exact True.intro
      | bo k => exact absurd rfl (hs k)
      | sh d =>
        obtain ⟨x', ex, rx⟩ := z
        exact ⟨x', ex, Rep.le hle2 rx⟩
      | ow d =>
        obtain ⟨a, o, e1, h1, h3, h4, h5⟩ := z
        exact ⟨a, o, e1, (wnS a _ h1).trans ki, h3, h4, h5.le hle2⟩
      | tok =>
        obtain ⟨a, l, c, ev, h1, h2', h3, h4⟩ := z
        exact ⟨a, l, c, ev, (wnS a _ h1).trans ki, (wnS l _ h2').trans ki, (wnS c _ h3).trans ki, h4⟩
  · cases q : w' a with
    | none => rw [wn0 a q] at e; cases e
    | some k =>
      cases k with
      | zero =>
        rw [wnF a q] at e
        exact ⟨(h.own a i e).1, r.there a (h.own a i e).2⟩
      | succ k =>
        refine ⟨?_, (r.own a k q).2⟩
        rcases (r.own a k q).1 with z | z
        · exact (h.own a j z.2).1
        · refine .inr ?_
          cases q2 : F.H0 a with
          | none => rfl
          | some o => exact absurd z (h.there a (by rw [q2]; exact fun z => nomatch z))
  · constructor
    · intro e
      have e1 := (h.fgn a).mp e
      rw [(kept 0 a e1 fun z => by omega).1]
    · intro e
      refine (h.fgn a).mpr ?_
      cases q : w' a with
      | none => rw [wn0 a q] at e; cases e
      | some k =>
        cases k with
        | zero => rw [wnF a q] at e; exact e
        | succ k =>
          rw [wnS a k q] at e
          have e2 : (if io = true ∧ k + 1 = 1 then some (j + 1) else if ioN io + 1 ≤ k + 1 then some (env.length + ts.length + (k + 1) - ioN io) else none) = some 0 := e
          split at e2
          · cases e2
          · split at e2
            · have := Option.some.inj e2; omega
            · cases e2
  · have nR : ¬ (io = true ∧ w a = some (j + 1)) := fun z => by
      rcases (h.own a j z.2).1 with z1 | z1
      · exact q z1
      · rw [e] at z1; cases z1
    have fr : ∀ u, NTbl u → H a = some u → H' a = some u ∨ (w a = none ∧ IsDic u ∧ ∃ o', H' a = some (.frz o' u)) := fun u n e => by
      rcases r.keep a u nR n e with z | ⟨z1, z2⟩
      · exact .inl z
      · refine .inr ⟨?_, z2⟩
        by_cases c : w a = none
        · exact c
        · exact absurd ⟨c, nR⟩ z1
    rcases h.keep a o q n e with z | ⟨z1, z2, o', z3⟩
    · rcases fr o n z with y | ⟨y1, y2, y3⟩
      · exact .inl y
      · exact .inr ⟨(fun f => nomatch (((h.fgn a).mp f).symm.trans y1)), y2, y3⟩
    · rcases fr _ nt_frz z3 with y | ⟨y1, y2, y3⟩
      · exact .inr ⟨z1, z2, o', y⟩
      · exact absurd y2 nd_frz
/-- what a call leaves -/
def callS (io : Bool) (fd : FD) (ss : List S) (e : Env) : Res S := match io, ss with
  | false, ss => (match escs e ss with
    | some (as, e') => (fd as).back e'
    | none => .bad)
  | true, .bo j :: r => (match escs e r with
    | some (as, e') => (match (e'[j]? : Option S) with
      | some S.tok => (fd as).back e'
      | _ => .bad)
    | none => .bad)
  | true, _ => .bad
def dCall (io : Bool) (n : Nat) (fd : FD) (fs : List Den) : Den := fun env => (dargs fs env).bind fun ss e => if ss.length = n then callS io fd ss e else .bad
section
variable {X : Cx} {W : WX} {io : Bool} {n : Nat} {fd : FD}
theorem spF_mk {vs vs' : List V} {as : List D} {j : Nat} {Q : VK} {E : XK} (h : RelW G F w σ H env ts) (r : Reps G (hide H w) vs' as) (hv : vs = (if io then [(σ[j]?.getD none).getD .non] else []) ++ vs') (ht : io = true → env[j]? = some .tok) (hl : vs.length = n)
    (q : ((fd as).back env).wp (fun s e => ∀ v H', Rel G F σ H' e (ts ++ [(v, s)]) → Q v H') (fun x e => ∀ d H', Rel G F σ H' e ts → XD x d H' → E (.ref (G.C x.cls)) d H')) : spF G io n fd vs H Q E := by
  rw [Res.wp_back] at q
  have h0 : io = true → ((vs.take (ioN io)).map some)[0]? = σ[j]? := fun c => by
    subst c
    obtain ⟨a, l, c, ev, _⟩ := (h.ent j _ (ht rfl)).2
    rw [hv]
    cases e : σ[j]? with
    | none => rw [e] at ev; cases ev
    | some o =>
      rw [e] at ev
      rw [show o = some (.ref a) from ev]
      rfl
  refine ⟨inFr io j w H, as, hl, h.enter r hv ht, Res.wp_mono q (fun s _ q v H' hs ⟨w', r⟩ => q v H' (h.leave ht h0 r fun t ht => ?_)) fun x _ q d H' ⟨w', r⟩ xd => q d H' ?_ xd⟩
  · rw [List.mem_singleton.mp ht]
    exact hs
  · have z := h.leave ht h0 r fun t ht => nomatch ht
    rw [List.append_nil] at z
    exact z
theorem de_call {k : Nat} {f : Addr} {fdd : FuncData} {ps : List Str} {x : Str} {p pos : Pos} {e : Expr} {es : List Expr} {fs : List Den} (tk : Takes X W) (Fk : FnOk X.prog X.w X.K X.mg X.base (L2.CX X.prog X.w) k f fdd ps (spF G io n fd)) (hr : Room k X.A) (hg : Gl X x) (hm : X.mg x = some (.ref f))
    (hk : PySem.W.keepIn X.K (.ref f) = true) (hb : Binds X.K fdd ps []) (ha : PA X (e :: es) (tA G W (dargs fs))) (hdb : (x == ("__debug__" : Str)) = false := by decide) (he : starEach (e :: es) X.env = (false, eval e X.env) :: starEach es X.env := by rfl)
    (hpl : (backTo pos (starEach es X.env)).any (·.1) = false := by rfl) : PE X (.Call (.Name x p) (e :: es) [] pos) (tD G W (dCall io n fd fs)) := by
  refine peImp (pe_callS Fk hr hg hm hk hb (fun σ => passAt tk σ) ha hdb he hpl) fun σ H Q ⟨F, ts, env, h, q⟩ => ?_
  rw [dCall, Res.wp_bind] at q
  refine tA.mk h (Res.wp_mono q (fun ss e q vs H1 hl h1 => ?_) fun _ _ z => z)
  obtain ⟨w, h1⟩ := h1
  split at q
  case isFalse => exact q.elim
  rename_i hn
  have hvn : vs.length = n := hl.trans hn
  obtain ⟨z1, z2⟩ := zipL hl
  cases io with
  | false =>
    simp only [callS] at q
    cases ee : escs e ss with
    | none => rw [ee] at q; exact q.elim
    | some p =>
      obtain ⟨as, e'⟩ := p
      rw [ee] at q
      obtain ⟨w2, h2, _, rs⟩ := h1.escs (us := vs.zip ss) (by rw [z2]; exact ee)
      rw [z1] at rs
      exact spF_mk (j := 0) h2.drop rs rfl (fun c => nomatch c) hvn q
  | true =>
    cases ss with
    | nil => exact q.elim
    | cons s ss =>
      cases s with
      | bo j =>
        simp only [callS] at q
        cases ee : escs e ss with
        | none => rw [ee] at q; exact q.elim
        | some p =>
          obtain ⟨as, e'⟩ := p
          rw [ee] at q
          dsimp only at q
          split at q
          case h_2 => exact q.elim
          rename_i et
          cases vs with
          | nil => cases hl
          | cons v vs =>
            have hl' : vs.length = ss.length := Nat.succ.inj hl
            obtain ⟨y1, y2⟩ := zipL hl'
            have h1' : RelW G F w σ H1 e ((ts ++ [(v, .bo j)]) ++ vs.zip ss) := by
              rw [List.append_assoc]
              exact h1
            obtain ⟨w2, h2, _, rs⟩ := h1'.escs (us := vs.zip ss) (by rw [y2]; exact ee)
            rw [y1] at rs
            have h3 := h2.drop
            obtain ⟨x', ex, eσ, _⟩ := h3.tmp ts.length v (.bo j) (last1 ..)
            cases ex
            exact spF_mk (j := j) h3.drop rs (by rw [eσ]; rfl) (fun _ => et) hvn q
      | _ => exact q.elim
end
section
variable {P : Program} {wl : World} {mg : Str → Option Value} {base : Heap} {x qual : Str} {st : Stmt} {f : Addr} {fdd : FuncData} {N ps : List Str} {k m : Nat} {io : Bool} {fx : Nat → Bool} {b : DenS}
theorem fn_ok (Fn : Fun G.K x qual st f fdd) (Sc : FnScope N ps (defScope st)) (hm : N.length = ps.length + m) (hp : ioN io ≤ ps.length) (hfx : io = true → fx 0 = true)
    (body : ∀ (cdv : Value) (A : Around) (outer : List PySem.Env) (s : Shared) (H : Hp) (E : XK), Room k (A.deeper (envOfC qual (defScope st) s.heap.objs.size f cdv)) → PSs (cxOf (L2.CX P wl) P wl G.K mg base N qual (defScope st) f cdv A outer s H E) (defBody st) (tS G (fun cls d _ H => E cls d H) fx b)) :
    FnOk P wl G.K mg base (L2.CX P wl) (k + 1) f fdd ps (spF G io ps.length (dFun io m b)) := by
  refine Fn.okX Sc (fun vs H Q E ⟨F, as, hl, _⟩ => hl) fun cdv A outer s H vs Q E hr h => ⟨_, body cdv A outer s H E hr, ?_⟩
  obtain ⟨F, as, hl, ⟨w, h⟩, q⟩ := h
  have hg := h.grow (m := m)
  have est : L2.start N vs = vs.map some ++ List.replicate m none := by
    unfold L2.start
    rw [hm, hl, Nat.add_sub_cancel_left]
  rw [← est] at hg
  refine ⟨F, [], _, ⟨w, hg⟩, Res.wp_mono (wp_ends q) (fun fl e q => ?_) fun x e ⟨c, q⟩ d σ' H' a ⟨w', r⟩ xd => ?_⟩
  · have out : ∀ {us : List (V × S)} {σ' : L2.St} {H' : Hp}, tokAt io e = true → Fix fx (L2.start N vs) σ' → Rel G F σ' H' e us → (∀ t ∈ us, ∀ j, t.2 ≠ .bo j) → Rel G F ((vs.take (ioN io)).map some) H' (ioE io) us := fun {us σ' H'} c a ⟨w', r⟩ hn =>
      r.cut (σ0 := List.replicate m none) hn c (by rw [hl]; exact hp) fun z => by rw [a.2 0 (hfx z), est]
    cases fl with
    | next =>
      simp only [fin] at q
      split at q
      case isFalse => exact q.elim
      rename_i c
      intro σ' H' a r
      obtain ⟨w2, r2⟩ := out c a r fun t ht => nomatch ht
      exact q .non H' (fun _ z => nomatch z) ⟨w2, r2.pushSh .non⟩
    | ret s =>
      intro v σ' H' a r
      cases s with
      | sh d =>
        simp only [fin] at q
        split at q
        case isFalse => exact q.elim
        rename_i c
        exact q v H' (fun _ z => nomatch z) (out c a r fun t ht j z => by rw [show t = (v, .sh d) by simpa using ht] at z; cases z)
      | ow d =>
        simp only [fin] at q
        split at q
        case isFalse => exact q.elim
        rename_i c
        exact q v H' (fun _ z => nomatch z) (out c a r fun t ht j z => by rw [show t = (v, .ow d) by simpa using ht] at z; cases z)
      | _ => exact q.elim
    | _ => exact q.elim
  · exact q d H' (r.cut (σ0 := List.replicate m none) (fun t ht => nomatch ht) c (by rw [hl]; exact hp) fun z => by rw [a.2 0 (hfx z), est]) xd
end
end
end T

/-! TMut: what is written: methods of lists, items, several names at once. -/
namespace T
open PySem PySem.Spec PyProof.Rows L2

/-! ### methods of lists -/
theorem Reps.dropLast {G : Gh} {B : Hp} : ∀ {vs : List V} {ds : List D}, Reps G B vs ds → Reps G B vs.dropLast ds.dropLast
  | _, _, .nil => .nil
  | _, _, .cons _ .nil => .nil
  | _, _, .cons r (.cons r2 t) => .cons r (Reps.dropLast (.cons r2 t))
theorem Reps.eraseIdx {G : Gh} {B : Hp} : ∀ {vs : List V} {ds : List D} (i : Nat), Reps G B vs ds → Reps G B (vs.eraseIdx i) (ds.eraseIdx i)
  | _, _, _, .nil => .nil
  | _, _, 0, .cons _ t => t
  | _, _, i + 1, .cons r t => .cons r (Reps.eraseIdx i t)
def LMutS (G : Gh) (r : V → List V → Hp → VK → Prop) (op : List D → List D → Option (List D × D)) : Prop := ∀ (H B : Hp) (l : Addr) (vs ys : List V) (xs as xs' : List D) (d : D) (Q : VK), Le B H → H l = some (.lst vs) → Reps G B vs xs → Reps G B ys as → op xs as = some (xs', d) →
  (∀ vs' v, Reps G B vs' xs' → Rep G B v d → Q v (upd H l (.lst vs'))) → r (.ref l) ys H Q
def mAppend : List D → List D → Option (List D × D)
  | xs, [d] => if xs.length < 16777216 then some (xs ++ [d], .non) else none
  | _, _ => none
def mExtend : List D → List D → Option (List D × D)
  | xs, [.lst zs] => if xs.length + zs.length ≤ 16777216 then some (xs ++ zs, .non) else none
  | _, _ => none
def mPop : List D → List D → Option (List D × D)
  | xs, [] => (match xs[xs.length - 1]? with
    | some d => some (xs.dropLast, d)
    | none => none)
  | _, _ => none
def mPopAt : List D → List D → Option (List D × D)
  | xs, [.int i] => if -(2 ^ 62) ≤ i ∧ i < 2 ^ 62 then (match ixN xs.length i with
    | some k => (match xs[k]? with
      | some d => some (xs.eraseIdx k, d)
      | none => none)
    | none => none) else none
  | _, _ => none
def mClear : List D → List D → Option (List D × D)
  | _, [] => some ([], .non)
  | _, _ => none
def mReverse : List D → List D → Option (List D × D)
  | xs, [] => some (xs.reverse, .non)
  | _, _ => none
/-- a method of the list in slot i -/
def lmEnd (i : Nat) (op : List D → List D → Option (List D × D)) : Option (List D × Env) → Res S
  | some (as, e) => (match (e[i]? : Option S) with
    | some (.ow (.lst xs)) => (match op xs as with
      | some (xs', d) => .ok (.sh d) (e.set i (.ow (.lst xs')))
      | none => .bad)
    | _ => .bad)
  | none => .bad
def isL : Option S → Bool
  | some (.ow (.lst _)) => true
  | _ => false
def dLm (i : Nat) (op : List D → List D → Option (List D × D)) (fs : List Den) : Den := fun env => if isL env[i]? = true then (dargs fs env).bind fun ss e => lmEnd i op (escs e ss) else .bad
section
variable {G : Gh} {F : Fr} {W : WX} {w : Addr → Option Nat} {σ : L2.St} {H : Hp} {env : Env} {ts : List (V × S)} {X : Cx} {fx : Nat → Bool} {bs : List (V × D)}
theorem lm_append : LMutS G rAppend mAppend := fun H B l vs ys xs as xs' d Q hb hl rv ra e k => by
  cases ra with
  | nil => cases e
  | cons r1 r2 =>
    cases r2 with
    | cons _ _ => cases e
    | nil =>
      simp only [mAppend] at e
      split at e
      · rename_i hz
        cases e
        exact ⟨l, vs, _, rfl, rfl, hl, by rw [rv.length]; exact hz, k _ _ (rv.app (.cons r1 .nil)) .non⟩
      · cases e
theorem lm_extend : LMutS G rExtend mExtend := fun H B l vs ys xs as xs' d Q hb hl rv ra e k => by
  cases ra with
  | nil => cases e
  | cons r1 r2 =>
    cases r2 with
    | cons _ _ => cases r1 <;> cases e
    | nil =>
      cases r1 with
      | @lst b ws ds h1 h2 =>
        simp only [mExtend] at e
        split at e
        · rename_i hz
          cases e
          exact ⟨l, b, vs, ws, rfl, rfl, hl, hb.at nt_lst nd_lst h1, by rw [rv.length, h2.length]; exact hz, k _ _ (rv.app h2) .non⟩
        · cases e
      | _ => cases e
theorem lm_pop : LMutS G rPop mPop := fun H B l vs ys xs as xs' d Q hb hl rv ra e k => by
  cases ra with
  | cons _ _ => cases e
  | nil =>
    simp only [mPop] at e
    split at e
    · rename_i d' ed
      cases e
      obtain ⟨v, ev, r⟩ := rv.get ed
      exact ⟨l, vs, v, rfl, rfl, hl, by rw [rv.length]; exact ev, k _ _ rv.dropLast r⟩
    · cases e
theorem lm_popAt : LMutS G rPopAt mPopAt := fun H B l vs ys xs as xs' d Q hb hl rv ra e k => by
  cases ra with
  | nil => cases e
  | cons r1 r2 =>
    cases r2 with
    | cons _ _ => cases r1 <;> cases e
    | nil =>
      cases r1 with
      | int i =>
        simp only [mPopAt] at e
        split at e
        · rename_i hi
          split at e
          · rename_i n en
            split at e
            · rename_i d' ed
              cases e
              obtain ⟨v, ev, r⟩ := rv.get ed
              have := (ixN_seq en).1
              exact ⟨l, vs, i, n, v, rfl, rfl, hl, by omega, by omega, by rw [rv.length]; exact this, ev, k _ _ (rv.eraseIdx n) r⟩
            · cases e
          · cases e
        · cases e
      | _ => cases e
theorem lm_clear : LMutS G rClear mClear := fun H B l vs ys xs as xs' d Q hb hl rv ra e k => by
  cases ra with
  | cons _ _ => cases e
  | nil =>
    cases e
    exact ⟨l, vs, rfl, rfl, hl, k _ _ .nil .non⟩
theorem lm_reverse : LMutS G rReverse mReverse := fun H B l vs ys xs as xs' d Q hb hl rv ra e k => by
  cases ra with
  | cons _ _ => cases e
  | nil =>
    cases e
    exact ⟨l, vs, rfl, rfl, hl, k _ _ rv.rev .non⟩
theorem RelW.ownL (h : RelW G F w σ H env ts) {i : Nat} {xs : List D} (e : env[i]? = some (.ow (.lst xs))) : ∃ a vs, σ[i]? = some (some (.ref a)) ∧ w a = some (i + 1) ∧ H a = some (.lst vs) ∧ Reps G (hide H w) vs xs := by
  obtain ⟨a, o, e1, e2, e3, _, e4⟩ := h.owned e
  cases e4 with
  | lst r => exact ⟨a, _, e1, e2, e3, r⟩
theorem isL_at {o : Option S} (h : isL o = true) : ∃ xs, o = some (.ow (.lst xs)) := by
  unfold isL at h
  split at h
  · exact ⟨_, rfl⟩
  · cases h
theorem RelW.mutL (h : RelW G F w σ H env ts) {i : Nat} {a : Addr} {vs vs' : List V} {xs xs' : List D} (e : env[i]? = some (.ow (.lst xs))) (h1 : σ[i]? = some (some (.ref a))) (h2 : w a = some (i + 1)) (h3 : H a = some (.lst vs)) (h4 : Reps G (hide H w) vs xs) (r : Reps G (hide H w) vs' xs') :
    RelW G F w σ (upd H a (.lst vs')) (env.set i (.ow (.lst xs'))) ts ∧ hide (upd H a (.lst vs')) w = hide H w := by
  refine ⟨h.mut e h1 h2 h3 (.lst h4) True.intro (.lst r), ?_⟩
  funext b
  unfold hide
  cases q : w b with
  | none => exact upd_ne (fun z => by rw [z, h2] at q; cases q)
  | some k => rfl
theorem lm_of {i : Nat} {fs : List Den} {r : V → List V → Hp → VK → Prop} {op : List D → List D → Option (List D × D)} (sp : LMutS G r op) {Q : VK} {T : TE} (hT : T = tBM G.K "list" r (tVar i) (tA G W (dargs fs))) (h : tD G W (dLm i op fs) σ H Q) : T σ H Q := by
  subst hT
  obtain ⟨F, ts, env, ⟨w, h⟩, q⟩ := h
  rw [dLm] at q
  split at q
  case isFalse => exact q.elim
  rename_i hi
  obtain ⟨xs, ex⟩ := isL_at hi
  obtain ⟨a, vs, e1, e2, e3, e4⟩ := h.ownL ex
  rw [Res.wp_bind] at q
  refine ⟨.ref a, e1, .inl ⟨rfl, _, SqL.of e3⟩, tA.mk ⟨w, h⟩ (Res.wp_mono q (fun ss e q us H1 hl h1 => ?_) fun _ _ z => z)⟩
  obtain ⟨w1, h1⟩ := h1
  cases ee : escs e ss with
  | none => rw [ee] at q; exact q.elim
  | some p =>
    obtain ⟨as, e'⟩ := p
    rw [ee] at q
    obtain ⟨z1, z2⟩ := zipL hl
    obtain ⟨w2, h2, _, rs⟩ := h1.escs (us := us.zip ss) (by rw [z2]; exact ee)
    rw [z1] at rs
    have h3 := h2.drop
    simp only [lmEnd] at q
    split at q
    case h_2 => exact q.elim
    rename_i xs2 ex2
    split at q
    case h_2 => exact q.elim
    rename_i xs3 d eo
    obtain ⟨a2, vs2, f1, f2, f3, f4⟩ := h3.ownL ex2
    rw [e1] at f1
    cases f1
    refine sp H1 (hide H1 w2) a vs2 us xs2 as xs3 d _ hide_le f3 f4 rs eo fun vs' v r1 r2 => ?_
    obtain ⟨h5, e5⟩ := h3.mutL ex2 e1 f2 f3 f4 r1
    exact q v _ ⟨w2, h5.pushSh (by rw [e5]; exact r2)⟩
theorem de_lm {i : Nat} {x name : Str} {id : String} {e : Expr} {es : List Expr} {fs : List Den} {r : V → List V → Hp → VK → Prop} {op : List D → List D → Option (List D × D)} {p apos cpos : Pos} (slot : Slot "list" name id) (hty : typeOf (.builtin id) = pure (.type "method_descriptor")) (hm : MtR X id r) (sp : LMutS G r op)
    (hN : X.N[i]? = some x) (hv : Vis X.env.scope x) (ha : PA X (e :: es) (tA G W (dargs fs))) (hd : (x == ("__debug__" : Str)) = false := by decide) (hcd : (x == ("__classdict__" : Str)) = false := by decide) (hK : X.K = G.K := by rfl)
    (hbase : attributeBase (.Name x p) name X.env (eval (.Name x p) X.env) = eval (.Name x p) X.env := by rfl)
    (hfew : ((backTo cpos (starEach (e :: es) X.env)).all (fun x => !x.1) && (backToKw cpos (keywordEach [] X.env)).all (fun x => x.1.isSome)
      && decide ((e :: es).length + ([] : List Keyword).length + (if ([] : List Keyword).isEmpty then 0 else 1) < 30)) = true := by rfl)
    (hline : (apos.endLine == cpos.line) = true := by rfl) (hs : starEach (e :: es) X.env = (false, eval e X.env) :: starEach es X.env := by rfl) (hplain : (backTo cpos (starEach es X.env)).any (·.1) = false := by rfl) :
    PE X (.Call (.Attribute (.Name x p) name apos) (e :: es) [] cpos) (tD G W (dLm i op fs)) :=
  peImp (pe_bm PySem.F.plainAttrs_list slot hty hm (pe_var hN hv hd hcd) ha hbase hfew hline hs hplain) fun σ H Q h => lm_of sp (by rw [hK]) h
theorem de_lm0 {i : Nat} {x name : Str} {id : String} {r : V → List V → Hp → VK → Prop} {op : List D → List D → Option (List D × D)} {p apos cpos : Pos} (slot : Slot "list" name id) (hty : typeOf (.builtin id) = pure (.type "method_descriptor")) (hm : MtR X id r) (sp : LMutS G r op)
    (hN : X.N[i]? = some x) (hv : Vis X.env.scope x) (hd : (x == ("__debug__" : Str)) = false := by decide) (hcd : (x == ("__classdict__" : Str)) = false := by decide) (hK : X.K = G.K := by rfl)
    (hbase : attributeBase (.Name x p) name X.env (eval (.Name x p) X.env) = eval (.Name x p) X.env := by rfl) (hline : (apos.endLine == cpos.line) = true := by rfl) :
    PE X (.Call (.Attribute (.Name x p) name apos) [] [] cpos) (tD G W (dLm i op [])) :=
  peImp (pe_bm0 PySem.F.plainAttrs_list slot hty hm (pe_var hN hv hd hcd) hbase hline) fun σ H Q h => by
    have z := lm_of (T := tBM G.K "list" r (tVar i) (tA G W (dargs []))) sp rfl h
    obtain ⟨x, ex, ty, F, ts, env, hr, q⟩ := z
    rw [hK]
    exact ⟨x, ex, ty, q [] H rfl (by rw [show ([] : List V).zip ([] : List S) = [] from rfl, List.append_nil]; exact hr)⟩

/-! ### stores of items -/
/-- an int that a plain expression gives -/
def intOf : Res S → Option (Int × Env)
  | .ok (.sh (.int k)) e => some (k, e)
  | _ => none
def setAt (i : Nat) (d : D) : Option (Int × Env) → Option Env
  | some (k, e) => (match (e[i]? : Option S) with
    | some (.ow (.lst xs)) => (match ixN xs.length k with
      | some n => some (e.set i (.ow (.lst (xs.set n d))))
      | none => none)
    | _ => none)
  | none => none
def gAt (i : Nat) (f : Den) : D → Env → Option Env := fun d env => if isL env[i]? = true then setAt i d (intOf (f env)) else none
theorem Reps.setN {B : Hp} : ∀ {vs : List V} {ds : List D} {v : V} {d : D} (n : Nat), Reps G B vs ds → Rep G B v d → Reps G B (vs.set n v) (ds.set n d)
  | [], _, _, _, _, h, _ => by cases h; exact .nil
  | _ :: _, _, _, _, 0, h, r => by cases h with | cons _ t => exact .cons r t
  | _ :: _, _, _, _, n + 1, h, r => by cases h with | cons a t => exact .cons a (Reps.setN n t r)
theorem dg_at {i : Nat} {x : Str} {p pos : Pos} {e : Expr} {f : Den} (hN : X.N[i]? = some x) (hv : Vis X.env.scope x) (he : PE X e (tD G W0 f)) (hd : (x == ("__debug__" : Str)) = false := by decide) (hcd : (x == ("__classdict__" : Str)) = false := by decide)
    (ha : ∀ v, assign (.Subscript (.Name x p) e pos) X.env v = (do
      let ov ← holding [v] (eval (.Name x p) X.env)
      let iv ← holding [v, ov] (eval e X.env)
      standAt pos
      holding [v, ov, iv] (setItem ov iv v)
      release [v, ov, iv] []) := by intro _; rfl) : PG X (.Subscript (.Name x p) e pos) (tG G false fx (gAt i f)) := by
  refine pgImp (pg_sub (pe_var hN hv hd hcd) he set_list ha) fun v σ H Q ⟨F, ts, env, w, d, e', h, nb, r, eg, q⟩ => ?_
  rw [gAt] at eg
  split at eg
  case isFalse => cases eg
  rename_i hi
  obtain ⟨xs, ex⟩ := isL_at hi
  obtain ⟨a, vs, e1, e2, e3, e4⟩ := h.ownL ex
  cases ef : f env with
  | ok s e2 =>
    rw [ef] at eg
    cases s with
    | sh dk =>
      cases dk with
      | int k =>
        simp only [intOf, setAt] at eg
        split at eg
        case h_2 => cases eg
        rename_i xs2 ex2
        split at eg
        case h_2 => cases eg
        rename_i n en
        cases eg
        refine ⟨.ref a, e1, F, ts ++ [(v, .sh d)], env, ⟨w, h.pushSh r⟩, ?_⟩
        rw [ef]
        intro y H1 ⟨w1, h1⟩
        obtain ⟨x', ex', ry⟩ := h1.tmp (ts ++ [(v, S.sh d)]).length y (.sh (.int k)) (last1 ..)
        cases ex'
        cases ry
        obtain ⟨x', ex', rv⟩ := h1.drop.tmp ts.length v (.sh d) (last1 ..)
        cases ex'
        have h2 := h1.drop.drop
        obtain ⟨a2, vs2, f1, f2, f3, f4⟩ := h2.ownL ex2
        rw [e1] at f1
        cases f1
        refine ⟨a, vs2, k, n, rfl, rfl, f3, by rw [f4.length]; exact en, ?_⟩
        obtain ⟨h5, e5⟩ := h2.mutL ex2 e1 f2 f3 f4 (f4.setN n rv)
        exact q _ _ w1 Fix.refl h5
      | _ => cases eg
    | _ => cases eg
  | _ => rw [ef] at eg; cases eg
/-! ### unpacking -/
def gL (n : Nat) (gs : List D → Env → Option Env) : D → Env → Option Env
  | .lst ds, e => if ds.length = n then gs ds e else none
  | _, _ => none
theorem dg_lst {es : List Expr} {k : Nat} {pos : Pos} {gs : List D → Env → Option Env} {n : Nat} (hc : X.calm = true) (h : PGs X es (tGs G fx gs)) (hn : (assignEach es X.env).length = n := by rfl) (hst : (assignEach es X.env).findIdx? (·.1) = none := by rfl) :
    PG X (.Tuple es k pos) (tG G false fx (gL n gs)) := by
  refine pgImp (pg_lst hc h hn hst) fun v σ H Q ⟨F, ts, env, w, d, e', h, nb, r, eg, q⟩ => ?_
  cases r with
  | @lst a vs ds h1 h2 =>
    simp only [gL] at eg
    split at eg
    · rename_i hl
      exact ⟨a, vs, rfl, SqL.of (hide_le.at nt_lst nd_lst h1), by rw [h2.length]; exact hl, F, ts, env, w, ds, e', h, nb, h2, eg, q⟩
    · cases eg
  | _ => cases eg
def gEnd (g : D → Env → Option Env) : Option (D × Env) → Res Fl
  | some (d, e) => (match g d e with
    | some e' => .ok .next e'
    | none => .bad)
  | none => .bad
/-- target = e -/
def dAsg (f : Den) (g : D → Env → Option Env) : DenS := fun env => (f env).bind fun s e => gEnd g (esc e s)
theorem ds_asg {tg e : Expr} {pos : Pos} {f : Den} {g : D → Env → Option Env} (he : PE X e (tD G W f)) (hg : PG X tg (tG G false fx g)) (hs : swapsWithSole [tg] e pos.line X.env = pure false := by rfl) (hw : swappedStores [tg] e X.env = pure none := by rfl)
    (h1 : (assignEach [tg] X.env).map (·.2) = [assign tg X.env] := by rfl) : PS X (.Assign [tg] e pos) (tS G W fx (dAsg f g)) := by
  refine psImp (ps_asg he hg hs hw h1) fun Dn σ H ⟨F, bs, env, h, q⟩ => ?_
  rw [dAsg, Res.wp_bind] at q
  refine tD.mk h (Res.wp_mono q (fun s e q v H1 h1 => ?_) fun _ _ z => z.xp)
  obtain ⟨w, h1⟩ := h1
  cases ee : esc e s with
  | none => rw [ee] at q; exact q.elim
  | some p =>
    obtain ⟨d, e'⟩ := p
    rw [ee] at q
    simp only [gEnd] at q
    split at q
    case h_2 => exact q.elim
    rename_i e2 eg
    obtain ⟨w2, h2, _⟩ := h1.esc (j := (shs bs).length) (x := v) (s := s) (last1 ..) ee
    rw [List.set_append_right _ _ (Nat.le_refl _), Nat.sub_self] at h2
    obtain ⟨x', ex, r⟩ := h2.tmp (shs bs).length v (.sh d) (last1 ..)
    cases ex
    exact ⟨F, _, e', w2, d, e2, h2.drop, fun _ _ => shs_nb, r, eg, fun σ' H' w' a r => q σ' H' a ⟨w', r⟩⟩
/-! ### several names at once -/
def sto (e : Env) : S → Option (S × Env)
  | .sh d => some (.sh d, e)
  | .ow d => some (.ow d, e)
  | .bo j => (match esc e (.bo j) with
    | some (d, e') => some (.sh d, e')
    | none => none)
  | _ => none
def stos (e : Env) : List S → Option (List S × Env)
  | [] => some ([], e)
  | s :: r => (match sto e s with
    | some (s', e') => (match stos e' r with
      | some (ss, e2) => some (s' :: ss, e2)
      | none => none)
    | none => none)
theorem stos_len : ∀ {ss ss' : List S} {e e' : Env}, stos e ss = some (ss', e') → ss.length = ss'.length
  | [], _, _, _, h => by cases h; rfl
  | s :: r, _, _, _, h => by
    unfold stos at h
    split at h
    · split at h
      · rename_i e3
        cases h
        rw [List.length_cons, List.length_cons, stos_len e3]
      · cases h
    · cases h
theorem RelW.sto {us : List (V × S)} {x : V} {s s' : S} {env' : Env} (h : RelW G F w σ H env (ts ++ (x, s) :: us)) (q : T.sto env s = some (s', env')) : (∃ w', RelW G F w' σ H env' (ts ++ (x, s') :: us)) ∧ ∀ j, s' ≠ .bo j := by
  cases s with
  | no => cases q
  | tok => cases q
  | sh d => cases q; exact ⟨⟨w, h⟩, fun _ z => nomatch z⟩
  | ow d => cases q; exact ⟨⟨w, h⟩, fun _ z => nomatch z⟩
  | bo j =>
    simp only [T.sto] at q
    split at q
    · rename_i d e' ee
      cases q
      obtain ⟨w1, r1, l1⟩ := h.esc (j := ts.length) (x := x) (s := .bo j) (by simp) ee
      rw [List.set_append_right _ _ (Nat.le_refl _), Nat.sub_self] at r1
      exact ⟨⟨w1, r1⟩, fun _ z => nomatch z⟩
    · cases q
theorem RelW.stos : ∀ {us : List (V × S)} {w : Addr → Option Nat} {env env' : Env} {ts : List (V × S)} {ss : List S}, RelW G F w σ H env (ts ++ us) → T.stos env (us.map (·.2)) = some (ss, env') →
    (∃ w', RelW G F w' σ H env' (ts ++ (us.map (·.1)).zip ss)) ∧ ∀ s ∈ ss, ∀ j, s ≠ .bo j
  | [], w, env, env', ts, ss, h, q => by
    cases q
    exact ⟨⟨w, h⟩, fun s hs => nomatch hs⟩
  | (x, s) :: us, w, env, env', ts, ss, h, q => by
    rw [List.map_cons] at q
    unfold T.stos at q
    split at q
    · rename_i s' e' e1
      split at q
      · rename_i ss' e2 e3
        cases q
        obtain ⟨⟨w1, h1⟩, n1⟩ := h.sto e1
        have h1' : RelW G F w1 σ H e' ((ts ++ [(x, s')]) ++ us) := by rw [List.append_assoc]; exact h1
        obtain ⟨⟨w2, h2⟩, n2⟩ := RelW.stos h1' e3
        refine ⟨⟨w2, by rw [List.append_assoc] at h2; exact h2⟩, fun s hs j => ?_⟩
        rcases List.mem_cons.mp hs with rfl | hs
        · exact n1 j
        · exact n2 s hs j
      · cases q
    · cases q
theorem RelW.put1 {v : V} {s : S} {i : Nat} (h : RelW G F w σ H env (ts ++ [(v, s)])) (hb : ∀ t ∈ ts, t.2 ≠ .bo i) (hs : ∀ j, s ≠ .bo j) : ∃ w', RelW G F w' (σ.set i (some v)) H (env.set i s) ts := by
  by_cases hi : i < σ.length
  · obtain ⟨w', h', _⟩ := h.store hi hb hs
    exact ⟨w', h'⟩
  · rw [List.set_eq_of_length_le (Nat.le_of_not_lt hi), List.set_eq_of_length_le (by rw [h.len]; exact Nat.le_of_not_lt hi)]
    exact ⟨w, h.drop⟩
def par2 (i j : Nat) : Option (List S × Env) → Res Fl
  | some ([s, t], e) => .ok .next ((e.set j t).set i s)
  | _ => .bad
def par3 (i j l : Nat) : Option (List S × Env) → Res Fl
  | some ([s, t, u], e) => .ok .next (((e.set l u).set j t).set i s)
  | _ => .bad
def dPar (i j : Nat) (fs : List Den) : DenS := fun env => (dargs fs env).bind fun ss e => par2 i j (stos e ss)
def dPar3 (i j l : Nat) (fs : List Den) : DenS := fun env => (dargs fs env).bind fun ss e => par3 i j l (stos e ss)
theorem nbs {ss : List S} {vs : List V} (n : ∀ s ∈ ss, ∀ j, s ≠ .bo j) : ∀ t ∈ vs.zip ss, ∀ j, t.2 ≠ .bo j := fun t ht => n _ (List.of_mem_zip ht).2
theorem ds_par {i j : Nat} {x y : Str} {a b : Expr} {fs : List Den} {px py pt pos : Pos} {kt k2 pt2} (hc : X.calm = true) (hN : X.N.Nodup) (hi : X.N[i]? = some x) (hj : X.N[j]? = some y) (hij : i ≠ j)
    (hx : X.env.scope.names.lookup x = some .local) (hy : X.env.scope.names.lookup y = some .local) (hfi : fx i = false) (hfj : fx j = false) (ha : PA X [a, b] (tA G W (dargs fs)))
    (hw : swappedStores [.Tuple [.Name x px, .Name y py] kt pt] (.Tuple [a, b] k2 pt2) X.env = pure (some [x, y]) := by rfl)
    (hs : swapsWithSole [.Tuple [.Name x px, .Name y py] kt pt] (.Tuple [a, b] k2 pt2) pos.line X.env = pure false := by rfl) :
    PS X (.Assign [.Tuple [.Name x px, .Name y py] kt pt] (.Tuple [a, b] k2 pt2) pos) (tS G W fx (dPar i j fs)) := by
  refine psImp (ps_par hc hN hi hj hij hx hy ha hw hs) fun Dn σ H ⟨F, bs, env, h, q⟩ => ?_
  rw [dPar, Res.wp_bind] at q
  refine tA.mk h (Res.wp_mono q (fun ss e q vs H1 hl h1 => ?_) fun _ _ z => z.xp)
  obtain ⟨w, h1⟩ := h1
  obtain ⟨z1, z2⟩ := zipL hl
  cases ee : stos e ss with
  | none => rw [ee] at q; exact q.elim
  | some p =>
    obtain ⟨ss', e'⟩ := p
    rw [ee] at q
    obtain ⟨⟨w2, h2⟩, n⟩ := h1.stos (us := vs.zip ss) (by rw [z2]; exact ee)
    rw [z1] at h2
    match ss', q, h2, n with
    | [s, t], q, h2, n =>
      have hv : ∃ v w, vs = [v, w] := by
        have : ss.length = 2 := stos_len ee
        rw [this] at hl
        match vs, hl with
        | [v, w], _ => exact ⟨v, w, rfl⟩
      obtain ⟨v, w', rfl⟩ := hv
      refine ⟨v, w', rfl, ?_⟩
      have h3 : RelW G F w2 σ H1 e' ((shs bs ++ [(v, s)]) ++ [(w', t)]) := by rw [List.append_assoc]; exact h2
      have ns : ∀ j, s ≠ .bo j := n s List.mem_cons_self
      have nt : ∀ j, t ≠ .bo j := n t (List.mem_cons_of_mem _ List.mem_cons_self)
      obtain ⟨w4, h4⟩ := h3.put1 (i := j) (fun t ht => by
        rcases List.mem_append.mp ht with ht | ht
        · exact shs_nb t ht
        · rw [List.mem_singleton.mp ht]; exact ns j) nt
      obtain ⟨w5, h5⟩ := h4.put1 (i := i) shs_nb ns
      rw [List.set_comm _ _ (Ne.symm hij)] at h5
      exact q _ H1 ((Fix.refl.set hfi).set hfj) ⟨w5, h5⟩
    | [], q, _, _ => exact q.elim
    | [_], q, _, _ => exact q.elim
    | _ :: _ :: _ :: _, q, _, _ => exact q.elim
theorem ds_par3 {i j l : Nat} {x y z : Str} {a b c : Expr} {fs : List Den} {px py pz pt pos : Pos} {kt k2 pt2} (hc : X.calm = true) (hN : X.N.Nodup) (hi : X.N[i]? = some x) (hj : X.N[j]? = some y) (hl : X.N[l]? = some z) (hij : i ≠ j) (hil : i ≠ l) (hjl : j ≠ l)
    (hx : X.env.scope.names.lookup x = some .local) (hy : X.env.scope.names.lookup y = some .local) (hz : X.env.scope.names.lookup z = some .local) (hfi : fx i = false) (hfj : fx j = false) (hfl : fx l = false) (ha : PA X [a, b, c] (tA G W (dargs fs)))
    (hw : swappedStores [.Tuple [.Name x px, .Name y py, .Name z pz] kt pt] (.Tuple [a, b, c] k2 pt2) X.env = pure (some [x, y, z]) := by rfl)
    (hs : swapsWithSole [.Tuple [.Name x px, .Name y py, .Name z pz] kt pt] (.Tuple [a, b, c] k2 pt2) pos.line X.env = pure false := by rfl) :
    PS X (.Assign [.Tuple [.Name x px, .Name y py, .Name z pz] kt pt] (.Tuple [a, b, c] k2 pt2) pos) (tS G W fx (dPar3 i j l fs)) := by
  refine psImp (ps_par3 hc hN hi hj hl hij hil hjl hx hy hz ha hw hs) fun Dn σ H ⟨F, bs, env, h, q⟩ => ?_
  rw [dPar3, Res.wp_bind] at q
  refine tA.mk h (Res.wp_mono q (fun ss e q vs H1 hl h1 => ?_) fun _ _ z => z.xp)
  obtain ⟨w, h1⟩ := h1
  obtain ⟨z1, z2⟩ := zipL hl
  cases ee : stos e ss with
  | none => rw [ee] at q; exact q.elim
  | some p =>
    obtain ⟨ss', e'⟩ := p
    rw [ee] at q
    obtain ⟨⟨w2, h2⟩, n⟩ := h1.stos (us := vs.zip ss) (by rw [z2]; exact ee)
    rw [z1] at h2
    match ss', q, h2, n with
    | [s, t, u], q, h2, n =>
      have hv : ∃ v w y, vs = [v, w, y] := by
        have : ss.length = 3 := stos_len ee
        rw [this] at hl
        match vs, hl with
        | [v, w, y], _ => exact ⟨v, w, y, rfl⟩
      obtain ⟨v, w', y', rfl⟩ := hv
      refine ⟨v, w', y', rfl, ?_⟩
      have h3 : RelW G F w2 σ H1 e' (((shs bs ++ [(v, s)]) ++ [(w', t)]) ++ [(y', u)]) := by rw [List.append_assoc, List.append_assoc]; exact h2
      have ns : ∀ j, s ≠ .bo j := n s List.mem_cons_self
      have nt : ∀ j, t ≠ .bo j := n t (List.mem_cons_of_mem _ List.mem_cons_self)
      have nu : ∀ j, u ≠ .bo j := n u (List.mem_cons_of_mem _ (List.mem_cons_of_mem _ List.mem_cons_self))
      have b1 : ∀ i, ∀ t ∈ shs bs ++ [(v, s)], t.2 ≠ .bo i := fun i t ht => by
        rcases List.mem_append.mp ht with ht | ht
        · exact shs_nb t ht
        · rw [List.mem_singleton.mp ht]; exact ns i
      obtain ⟨w4, h4⟩ := h3.put1 (i := l) (fun r hr => by
        rcases List.mem_append.mp hr with hr | hr
        · exact b1 l r hr
        · rw [List.mem_singleton.mp hr]; exact nt l) nu
      obtain ⟨w5, h5⟩ := h4.put1 (i := j) (b1 j) nt
      obtain ⟨w6, h6⟩ := h5.put1 (i := i) shs_nb ns
      have eσ : ((σ.set l (some y')).set j (some w')).set i (some v) = ((σ.set i (some v)).set j (some w')).set l (some y') := by
        rw [List.set_comm (some y') (some w') (Ne.symm hjl) (l := σ), List.set_comm (some y') (some v) (Ne.symm hil) (l := σ.set j (some w')), List.set_comm (some w') (some v) (Ne.symm hij) (l := σ)]
      rw [eσ] at h6
      exact q _ H1 (((Fix.refl.set hfi).set hfj).set hfl) ⟨w6, h6⟩
    | [], q, _, _ => exact q.elim
    | [_], q, _, _ => exact q.elim
    | [_, _], q, _, _ => exact q.elim
    | _ :: _ :: _ :: _ :: _, q, _, _ => exact q.elim
/-- the same where a name is another's, too: a pair is made and taken apart -/
theorem ds_parT {i j : Nat} {x y : Str} {a b : Expr} {fs : List Den} {px py pt pos : Pos} {kt k2 pt2} (hc : X.calm = true) (hN : X.N.Nodup) (hi : X.N[i]? = some x) (hj : X.N[j]? = some y) (hij : i ≠ j)
    (hx : Loc X.env.scope x) (hy : Loc X.env.scope y) (hfi : fx i = false) (hfj : fx j = false) (ha : PA X [a, b] (tA G W (dargs fs)))
    (hn : (assignEach [.Name x px, .Name y py] X.env).length = 2 := by rfl) (hst : (assignEach [.Name x px, .Name y py] X.env).findIdx? (·.1) = none := by rfl)
    (h1 : (assignEach [.Name x px, .Name y py] X.env).map (·.2) = assign (.Name x px) X.env :: (assignEach [.Name y py] X.env).map (·.2) := by rfl) (h2 : (assignEach [.Name y py] X.env).map (·.2) = assign (.Name y py) X.env :: (assignEach [] X.env).map (·.2) := by rfl)
    (hw : swappedStores [.Tuple [.Name x px, .Name y py] kt pt] (.Tuple [a, b] k2 pt2) X.env = pure none := by rfl)
    (hs : swapsWithSole [.Tuple [.Name x px, .Name y py] kt pt] (.Tuple [a, b] k2 pt2) pos.line X.env = pure false := by rfl)
    (h0 : (assignEach [.Tuple [.Name x px, .Name y py] kt pt] X.env).map (·.2) = [assign (.Tuple [.Name x px, .Name y py] kt pt) X.env] := by rfl)
    (hfx : X.fn x = true ∨ X.env.scope.names.lookup x = some .local := by first | exact .inl rfl | exact .inr rfl) (hfy : X.fn y = true ∨ X.env.scope.names.lookup y = some .local := by first | exact .inl rfl | exact .inr rfl) :
    PS X (.Assign [.Tuple [.Name x px, .Name y py] kt pt] (.Tuple [a, b] k2 pt2) pos) (tS G W fx (dPar i j fs)) := by
  refine psImp (ps_asg (peTupX ha) (pg_tup hc (pgs_cons (pg_name hN hi hx hfx) (pgs_cons (pg_name hN hj hy hfy) pgs_nil h2) h1) hn hst) hs hw h0) fun Dn σ H ⟨F, bs, env, h, q⟩ => ?_
  rw [dPar, Res.wp_bind] at q
  refine tA.mk h (Res.wp_mono q (fun ss e q vs H1 hl h1 => ?_) fun _ _ z => z.xp)
  obtain ⟨w, h1⟩ := h1
  obtain ⟨z1, z2⟩ := zipL hl
  cases ee : stos e ss with
  | none => rw [ee] at q; exact q.elim
  | some p =>
    obtain ⟨ss', e'⟩ := p
    rw [ee] at q
    obtain ⟨⟨w2, h2⟩, n⟩ := h1.stos (us := vs.zip ss) (by rw [z2]; exact ee)
    rw [z1] at h2
    match ss', q, h2, n with
    | [s, t], q, h2, n =>
      have hv : ∃ v w, vs = [v, w] := by
        have : ss.length = 2 := stos_len ee
        rw [this] at hl
        match vs, hl with
        | [v, w], _ => exact ⟨v, w, rfl⟩
      obtain ⟨v, w', rfl⟩ := hv
      refine ⟨by rw [sizeLine_eq]; exact Nat.le_of_ble_eq_true rfl, fun p o ho hpn => ⟨p, [v, w'], rfl, .inl (.inr ⟨o, upd_same⟩), rfl, v, [w'], rfl, w', [], rfl, rfl, ?_⟩⟩
      have h3 : RelW G F w2 σ H1 e' ((shs bs ++ [(v, s)]) ++ [(w', t)]) := by rw [List.append_assoc]; exact h2
      have h3 := h3.ext (Ext.new (o := .frz o (.tup [v, w'])) hpn)
      have ns : ∀ j, s ≠ .bo j := n s List.mem_cons_self
      have nt : ∀ j, t ≠ .bo j := n t (List.mem_cons_of_mem _ List.mem_cons_self)
      obtain ⟨w4, h4⟩ := h3.put1 (i := j) (fun t ht => by
        rcases List.mem_append.mp ht with ht | ht
        · exact shs_nb t ht
        · rw [List.mem_singleton.mp ht]; exact ns j) nt
      obtain ⟨w5, h5⟩ := h4.put1 (i := i) shs_nb ns
      rw [List.set_comm _ _ (Ne.symm hij)] at h5
      exact q _ _ ((Fix.refl.set hfi).set hfj) ⟨w5, h5⟩
    | [], q, _, _ => exact q.elim
    | [_], q, _, _ => exact q.elim
    | _ :: _ :: _ :: _, q, _, _ => exact q.elim
theorem ds_parT3 {i j l : Nat} {x y z : Str} {a b c : Expr} {fs : List Den} {px py pz pt pos : Pos} {kt k2 pt2} (hc : X.calm = true) (hN : X.N.Nodup) (hi : X.N[i]? = some x) (hj : X.N[j]? = some y) (hl : X.N[l]? = some z) (hij : i ≠ j) (hil : i ≠ l) (hjl : j ≠ l)
    (hx : Loc X.env.scope x) (hy : Loc X.env.scope y) (hz : Loc X.env.scope z) (hfi : fx i = false) (hfj : fx j = false) (hfl : fx l = false) (ha : PA X [a, b, c] (tA G W (dargs fs)))
    (hn : (assignEach [.Name x px, .Name y py, .Name z pz] X.env).length = 3 := by rfl) (hst : (assignEach [.Name x px, .Name y py, .Name z pz] X.env).findIdx? (·.1) = none := by rfl)
    (h1 : (assignEach [.Name x px, .Name y py, .Name z pz] X.env).map (·.2) = assign (.Name x px) X.env :: (assignEach [.Name y py, .Name z pz] X.env).map (·.2) := by rfl) (h2 : (assignEach [.Name y py, .Name z pz] X.env).map (·.2) = assign (.Name y py) X.env :: (assignEach [.Name z pz] X.env).map (·.2) := by rfl)
    (h3 : (assignEach [.Name z pz] X.env).map (·.2) = assign (.Name z pz) X.env :: (assignEach [] X.env).map (·.2) := by rfl)
    (hw : swappedStores [.Tuple [.Name x px, .Name y py, .Name z pz] kt pt] (.Tuple [a, b, c] k2 pt2) X.env = pure none := by rfl)
    (hs : swapsWithSole [.Tuple [.Name x px, .Name y py, .Name z pz] kt pt] (.Tuple [a, b, c] k2 pt2) pos.line X.env = pure false := by rfl)
    (h0 : (assignEach [.Tuple [.Name x px, .Name y py, .Name z pz] kt pt] X.env).map (·.2) = [assign (.Tuple [.Name x px, .Name y py, .Name z pz] kt pt) X.env] := by rfl)
    (hfx : X.fn x = true ∨ X.env.scope.names.lookup x = some .local := by first | exact .inl rfl | exact .inr rfl) (hfy : X.fn y = true ∨ X.env.scope.names.lookup y = some .local := by first | exact .inl rfl | exact .inr rfl) (hfz : X.fn z = true ∨ X.env.scope.names.lookup z = some .local := by first | exact .inl rfl | exact .inr rfl) :
    PS X (.Assign [.Tuple [.Name x px, .Name y py, .Name z pz] kt pt] (.Tuple [a, b, c] k2 pt2) pos) (tS G W fx (dPar3 i j l fs)) := by
  refine psImp (ps_asg (peTupX ha) (pg_tup hc (pgs_cons (pg_name hN hi hx hfx) (pgs_cons (pg_name hN hj hy hfy) (pgs_cons (pg_name hN hl hz hfz) pgs_nil h3) h2) h1) hn hst) hs hw h0) fun Dn σ H ⟨F, bs, env, h, q⟩ => ?_
  rw [dPar3, Res.wp_bind] at q
  refine tA.mk h (Res.wp_mono q (fun ss e q vs H1 hl h1 => ?_) fun _ _ z => z.xp)
  obtain ⟨w, h1⟩ := h1
  obtain ⟨z1, z2⟩ := zipL hl
  cases ee : stos e ss with
  | none => rw [ee] at q; exact q.elim
  | some p =>
    obtain ⟨ss', e'⟩ := p
    rw [ee] at q
    obtain ⟨⟨w2, h2⟩, n⟩ := h1.stos (us := vs.zip ss) (by rw [z2]; exact ee)
    rw [z1] at h2
    match ss', q, h2, n with
    | [s, t, u], q, h2, n =>
      have hv : ∃ v w y, vs = [v, w, y] := by
        have : ss.length = 3 := stos_len ee
        rw [this] at hl
        match vs, hl with
        | [v, w, y], _ => exact ⟨v, w, y, rfl⟩
      obtain ⟨v, w', y', rfl⟩ := hv
      refine ⟨by rw [sizeLine_eq]; exact Nat.le_of_ble_eq_true rfl, fun p o ho hpn => ⟨p, [v, w', y'], rfl, .inl (.inr ⟨o, upd_same⟩), rfl, v, [w', y'], rfl, w', [y'], rfl, y', [], rfl, rfl, ?_⟩⟩
      have h3 : RelW G F w2 σ H1 e' (((shs bs ++ [(v, s)]) ++ [(w', t)]) ++ [(y', u)]) := by rw [List.append_assoc, List.append_assoc]; exact h2
      have h3 := h3.ext (Ext.new (o := .frz o (.tup [v, w', y'])) hpn)
      have ns : ∀ j, s ≠ .bo j := n s List.mem_cons_self
      have nt : ∀ j, t ≠ .bo j := n t (List.mem_cons_of_mem _ List.mem_cons_self)
      have nu : ∀ j, u ≠ .bo j := n u (List.mem_cons_of_mem _ (List.mem_cons_of_mem _ List.mem_cons_self))
      have b1 : ∀ i, ∀ t ∈ shs bs ++ [(v, s)], t.2 ≠ .bo i := fun i t ht => by
        rcases List.mem_append.mp ht with ht | ht
        · exact shs_nb t ht
        · rw [List.mem_singleton.mp ht]; exact ns i
      obtain ⟨w4, h4⟩ := h3.put1 (i := l) (fun r hr => by
        rcases List.mem_append.mp hr with hr | hr
        · exact b1 l r hr
        · rw [List.mem_singleton.mp hr]; exact nt l) nu
      obtain ⟨w5, h5⟩ := h4.put1 (i := j) (b1 j) nt
      obtain ⟨w6, h6⟩ := h5.put1 (i := i) shs_nb ns
      have eσ : ((σ.set l (some y')).set j (some w')).set i (some v) = ((σ.set i (some v)).set j (some w')).set l (some y') := by
        rw [List.set_comm (some y') (some w') (Ne.symm hjl) (l := σ), List.set_comm (some y') (some v) (Ne.symm hil) (l := σ.set j (some w')), List.set_comm (some w') (some v) (Ne.symm hij) (l := σ)]
      rw [eσ] at h6
      exact q _ _ (((Fix.refl.set hfi).set hfj).set hfl) ⟨w6, h6⟩
    | [], q, _, _ => exact q.elim
    | [_], q, _, _ => exact q.elim
    | [_, _], q, _, _ => exact q.elim
    | _ :: _ :: _ :: _ :: _, q, _, _ => exact q.elim
end
end T

/-! TSort: sorted(..). -/
namespace T
open PySem PySem.Spec PyProof.Rows L2
open PySem.W (AllAlike Sortable SortsAt dataKind dataLe alike alikeAll sortVals)

def leD (a b : D) : Bool := dataLe false D.py a b
def insD (le : D → D → Bool) (a : D) : List D → List D
  | [] => [a]
  | b :: r => if le a b = true then a :: b :: r else b :: insD le a r
def isortD (le : D → D → Bool) : List D → List D
  | [] => []
  | a :: r => insD le a (isortD le r)
theorem insD_at {le : D → D → Bool} {a : D} : ∀ {l1 l2 : List D}, (∀ b ∈ l1, le a b = false) → (∀ b ∈ l2, le a b = true) → insD le a (l1 ++ l2) = l1 ++ a :: l2
  | [], [], _, _ => rfl
  | [], b :: r, _, h => by
    show (if le a b = true then _ else _) = _
    rw [if_pos (h b List.mem_cons_self)]
    rfl
  | b :: l1, l2, h1, h2 => by
    show (if le a b = true then _ else _) = _
    have z := insD_at (le := le) (a := a) (l1 := l1) (l2 := l2) (fun c hc => h1 c (List.mem_cons_of_mem _ hc)) h2
    rw [if_neg (by rw [h1 b List.mem_cons_self]; exact Bool.false_ne_true)]
    exact congrArg (List.cons b) z
theorem isortD_eq : ∀ ds : List D, isortD leD ds = ds.mergeSort leD
  | [] => by rw [List.mergeSort_nil]; rfl
  | a :: r => by
    have T := PySem.W.sortLe_total (listOrd itemOrd) false fun b : D => PySem.W.keyToks b.py
    have tr : ∀ a b c : D, leD a b = true → leD b c = true → leD a c = true := fun a b c => T.trans a b c
    have to : ∀ a b : D, (leD a b || leD b a) = true := fun a b => by rcases T.total a b with z | z <;> simp only [leD, dataLe] at z ⊢ <;> simp [z]
    obtain ⟨l1, l2, e1, e2, h⟩ := List.mergeSort_cons (le := leD) tr to a r
    have s := List.pairwise_mergeSort (le := leD) tr to (a :: r)
    rw [e1] at s ⊢
    rw [isortD, isortD_eq r, e2]
    refine insD_at (fun b hb => by simpa using h b hb) fun b hb => ?_
    have s2 := (List.pairwise_append.mp s).2.1
    exact (List.pairwise_cons.mp s2).1 b hb
/-! a quick way for whole numbers -/
def leI : D → D → Bool
  | .int a, .int b => decide (a ≤ b)
  | a, b => leD a b
def isI : D → Bool
  | .int _ => true
  | _ => false
def isIT : D → Bool
  | .tup (x :: r) => isI x && r.all isI
  | _ => false
def genOk (ds : List D) : Bool := ds.all (fun d => d.py.canLay0 && decide (d.py.depth ≤ 50)) && ds.all (fun d => ds.all fun e => alike d.py e.py) && (ds.all (fun d => match d.py with
  | .tuple (_ :: _) => true
  | _ => false) || ds.all fun d => match d.py with
  | .none => false
  | .tuple _ => false
  | _ => true)
/-- no two to be compared -/
def oneOk : List D → Bool
  | [] => true
  | [d] => d.py.canLay0 && decide (d.py.depth ≤ 50) && alike d.py d.py && (match d.py with
    | .none => false
    | _ => true)
  | _ => false
def sortOk (ds : List D) : Bool := ds.all isI || ds.all isIT || genOk ds || oneOk ds
def opSorted : List D → Option S
  | [.lst ds] => if ds.length ≤ 16777216 ∧ sortOk ds = true then some (.ow (.lst (isortD leI ds))) else none
  | [.tup ds] => if ds.length ≤ 16777216 ∧ sortOk ds = true then some (.ow (.lst (isortD leI ds))) else none
  | _ => none
theorem leI_eq : ∀ a b : D, leI a b = leD a b
  | .int a, .int b => by
    show decide (a ≤ b) = !(PyProof.Rows.lexLt itemOrd [.inl b] [.inl a])
    have : PyProof.Rows.lexLt itemOrd [Sum.inl b] [Sum.inl a] = decide (b < a) := by
      by_cases h : b = a
      · subst h
        rw [PyProof.Rows.lex_self]
        simp [PyProof.Rows.lexLt]
      · rw [PyProof.Rows.lex_diff (fun z => h (by cases z; rfl))]
        rfl
    rw [this]
    by_cases h : a ≤ b
    · simp [h, Int.not_lt.mpr h]
    · simp [h, Int.not_le.mp h]
  | .int _, .non => rfl
  | .int _, .bl _ => rfl
  | .int _, .str _ => rfl
  | .int _, .tup _ => rfl
  | .int _, .lst _ => rfl
  | .int _, .dic _ => rfl
  | .int _, .fz _ => rfl
  | .int _, .ext _ _ => rfl
  | .non, b => by cases b <;> rfl
  | .bl _, b => by cases b <;> rfl
  | .str _, b => by cases b <;> rfl
  | .tup _, b => by cases b <;> rfl
  | .lst _, b => by cases b <;> rfl
  | .dic _, b => by cases b <;> rfl
  | .fz _, b => by cases b <;> rfl
  | .ext _ _, b => by cases b <;> rfl
theorem leI_fun : leI = leD := by
  funext a b
  exact leI_eq a b
theorem isI_at {d : D} (h : isI d = true) : ∃ n, d = .int n := by
  cases d with
  | int n => exact ⟨n, rfl⟩
  | _ => cases h
theorem isIT_at {d : D} (h : isIT d = true) : ∃ n r, d = .tup (.int n :: r) ∧ ∀ x ∈ r, isI x = true := by
  cases d with
  | tup xs =>
    cases xs with
    | nil => cases h
    | cons x r =>
      simp only [isIT, Bool.and_eq_true, List.all_eq_true] at h
      obtain ⟨n, rfl⟩ := isI_at h.1
      exact ⟨n, r, rfl, h.2⟩
  | _ => cases h
theorem pys_ints : ∀ {r : List D}, (∀ x ∈ r, isI x = true) → ∃ ns : List Int, pys r = ns.map PyData.int
  | [], _ => ⟨[], rfl⟩
  | x :: r, h => by
    obtain ⟨n, rfl⟩ := isI_at (h x List.mem_cons_self)
    obtain ⟨ns, e⟩ := pys_ints (r := r) fun y hy => h y (List.mem_cons_of_mem _ hy)
    exact ⟨n :: ns, by rw [pys, e]; rfl⟩
theorem alike_ints : ∀ a b : List Int, alikeAll (a.map PyData.int) (b.map PyData.int) = true
  | [], _ => rfl
  | _ :: _, [] => rfl
  | _ :: a, _ :: b => by
    show (true && alikeAll (a.map PyData.int) (b.map PyData.int)) = true
    rw [alike_ints a b]
    rfl
theorem lay_ints : ∀ a : List Int, PyData.canLayAll0 (a.map PyData.int) = true
  | [] => rfl
  | _ :: a => by
    show (true && PyData.canLayAll0 (a.map PyData.int)) = true
    rw [lay_ints a]
    rfl
theorem depth_ints0 : ∀ a : List Int, PyData.depthAll (a.map PyData.int) = 0
  | [] => rfl
  | _ :: a => by
    show max (PyData.depth (.int _)) (PyData.depthAll (a.map PyData.int)) = 0
    rw [depth_ints0 a]
    rfl
theorem okS_at {ds : List D} (h : (ds.all isI || ds.all isIT || genOk ds) = true) : (∀ d ∈ ds, d.py.canLay0 = true ∧ d.py.depth ≤ 50) ∧ AllAlike (ds.map D.py) ∧ Sortable (ds.map D.py) := by
  rw [Bool.or_eq_true, Bool.or_eq_true] at h
  rcases h with (h | h) | h
  · have a := fun d hd => isI_at (List.all_eq_true.mp h d hd)
    refine ⟨fun d hd => ?_, fun x hx y hy => ?_, .inr fun x hx => ?_⟩
    · obtain ⟨n, rfl⟩ := a d hd
      exact ⟨rfl, Nat.zero_le _⟩
    · obtain ⟨d, hd, rfl⟩ := List.mem_map.mp hx
      obtain ⟨e, he, rfl⟩ := List.mem_map.mp hy
      obtain ⟨n, rfl⟩ := a d hd
      obtain ⟨m, rfl⟩ := a e he
      rfl
    · obtain ⟨d, hd, rfl⟩ := List.mem_map.mp hx
      obtain ⟨n, rfl⟩ := a d hd
      exact ⟨(fun z => nomatch z), fun _ z => nomatch z⟩
  · have a : ∀ d ∈ ds, ∃ (n : Int) (ns : List Int), d.py = .tuple (.int n :: ns.map PyData.int) := fun d hd => by
      obtain ⟨n, r, rfl, hr⟩ := isIT_at (List.all_eq_true.mp h d hd)
      obtain ⟨ns, e⟩ := pys_ints hr
      exact ⟨n, ns, by rw [D.py, pys, e]; rfl⟩
    refine ⟨fun d hd => ?_, fun x hx y hy => ?_, .inl fun x hx => ?_⟩
    · obtain ⟨n, ns, e⟩ := a d hd
      rw [e]
      refine ⟨lay_ints (n :: ns), ?_⟩
      show PyData.depthAll ((n :: ns).map PyData.int) + 1 ≤ 50
      rw [depth_ints0]
      decide
    · obtain ⟨d, hd, rfl⟩ := List.mem_map.mp hx
      obtain ⟨e, he, rfl⟩ := List.mem_map.mp hy
      obtain ⟨n, ns, e1⟩ := a d hd
      obtain ⟨m, ms, e2⟩ := a e he
      rw [e1, e2]
      exact alike_ints (n :: ns) (m :: ms)
    · obtain ⟨d, hd, rfl⟩ := List.mem_map.mp hx
      obtain ⟨n, ns, e1⟩ := a d hd
      exact ⟨_, _, e1⟩
  · simp only [genOk, Bool.and_eq_true, List.all_eq_true, Bool.or_eq_true, decide_eq_true_eq] at h
    obtain ⟨⟨h1, h2⟩, h3⟩ := h
    refine ⟨h1, fun x hx y hy => ?_, ?_⟩
    · obtain ⟨d, hd, rfl⟩ := List.mem_map.mp hx
      obtain ⟨e, he, rfl⟩ := List.mem_map.mp hy
      exact h2 d hd e he
    · rcases h3 with h3 | h3
      · refine .inl fun x hx => ?_
        obtain ⟨d, hd, rfl⟩ := List.mem_map.mp hx
        have z := h3 d hd
        split at z
        · rename_i a b e
          exact ⟨a, b, e⟩
        · cases z
      · refine .inr fun x hx => ?_
        obtain ⟨d, hd, rfl⟩ := List.mem_map.mp hx
        have z := h3 d hd
        refine ⟨fun e => ?_, fun xs e => ?_⟩ <;> rw [e] at z <;> cases z
/-- one value or none -/
theorem sortsAt_one {prog : Program} {w : World} {A : Around} {s : Shared} {vs : List Value} {ds : List PyData} (e : PySem.W.EachIs (fun v d => ∃ as, Reads s.heap v d as) vs ds) (hal : AllAlike ds) (hl : ds.length ≤ 1) (hn : ∀ d, d ∈ ds → d ≠ .none) (hu : ∀ d, d ∈ ds → A.units + d.depth < cLine) : SortsAt prog w A s (dataKind s.heap ds) vs := by
  refine ⟨fun v hv => ?_, general', fun E x y a b Q ha hb hq => ?_, fun h2 => ?_⟩
  · obtain ⟨d, hd, as, r⟩ := e.left v hv
    exact ⟨_, PySem.W.dataKind_some hal hd r⟩
  · obtain ⟨d, as, hd, ra, rfl⟩ := PySem.W.dataKind_inv ha
    obtain ⟨d', bs, hd', rb, rfl⟩ := PySem.W.dataKind_inv hb
    show wpAny (model prog w) A (oneLt' false x y) Q E s
    exact PySem.W.oneLt_alike (fun z => nomatch z) ra rb (hal d hd d' hd') (hn d hd) (Nat.lt_of_le_of_lt (Nat.add_le_add_left (Nat.min_le_left _ _) _) (hu d hd)) hq
  · have : vs.length = ds.length := by
      clear hal hl hn hu h2
      induction e with
      | nil => rfl
      | cons _ _ ih => exact congrArg Nat.succ ih
    omega
theorem sortOk_at {ds : List D} (h : sortOk ds = true) : (∀ d ∈ ds, d.py.canLay0 = true ∧ d.py.depth ≤ 50) ∧ AllAlike (ds.map D.py) ∧ (Sortable (ds.map D.py) ∨ (ds.length ≤ 1 ∧ ∀ d ∈ ds, d.py ≠ .none)) := by
  rw [sortOk, Bool.or_eq_true] at h
  rcases h with h | h
  · obtain ⟨a, b, c⟩ := okS_at h
    exact ⟨a, b, .inl c⟩
  · unfold oneOk at h
    split at h
    · exact ⟨(fun _ hd => nomatch hd), (fun x hx => nomatch hx), .inr ⟨Nat.zero_le _, fun _ hd => nomatch hd⟩⟩
    · rename_i d
      rw [Bool.and_eq_true, Bool.and_eq_true, Bool.and_eq_true] at h
      obtain ⟨⟨⟨h1, h2⟩, h3⟩, h4⟩ := h
      refine ⟨fun e he => ?_, fun x hx y hy => ?_, .inr ⟨Nat.le_refl _, fun e he => ?_⟩⟩
      · rw [List.mem_singleton.mp he]
        exact ⟨h1, of_decide_eq_true h2⟩
      · rw [List.mem_singleton.mp hx, List.mem_singleton.mp hy]
        exact h3
      · rw [List.mem_singleton.mp he]
        intro z
        rw [z] at h4
        cases h4
    · cases h
def rSorted (G : Gh) : List V → Hp → VK → Prop := fun vs H Q => ∃ a xs ds B, vs = [.ref a] ∧ (SqL G.K H a xs ∨ SqT G.K H a xs) ∧ Le B H ∧ Reps G B xs ds ∧ sortOk ds = true ∧
  ∀ ys p, H p = none → Reps G B ys (isortD leI ds) → Q (.ref p) (upd H p (.lst ys))
section
variable {G : Gh} {F : Fr} {W : WX} {w : Addr → Option Nat} {σ : L2.St} {H : Hp} {env : Env} {ts : List (V × S)} {X : Cx}
open PySem.W in
theorem eachVR {B : Hp} : ∀ {xs : List V} {its : List Value} {ds : List D}, Vals xs its → Reps G B xs ds → EachIs (fun v d => ∃ x, RelV x v ∧ Rep G B x d) its ds
  | _, _, _, .nil, .nil => .nil
  | _, _, _, .cons r rs, .cons q qs => .cons ⟨_, r, q⟩ (eachVR rs qs)
open PySem.W in
theorem eachVR_inv {B : Hp} : ∀ {its : List Value} {ds : List D}, EachIs (fun v d => ∃ x, RelV x v ∧ Rep G B x d) its ds → ∃ xs, Vals xs its ∧ Reps G B xs ds
  | _, _, .nil => ⟨[], .nil, .nil⟩
  | _, _, .cons ⟨x, r, q⟩ t => by
    obtain ⟨xs, rs, qs⟩ := eachVR_inv t
    exact ⟨x :: xs, .cons r rs, .cons q qs⟩
open PySem.W in
theorem each_reads {pins : List (Addr × Obj)} {s : Shared} {h' : Heap} (hK : X.K = G.K) (I : Inv X pins σ H s) (k : ∀ b o, s.heap.get? b = some o → h'.get? b = some o) : ∀ {xs : List V} {its : List Value} {ds : List D}, Vals xs its → Reps G H xs ds → (∀ d ∈ ds, d.py.canLay0 = true) → EachIs (fun v d => ∃ as, Reads h' v (D.py d) as) its ds
  | _, _, _, .nil, .nil, _ => .nil
  | _, _, _, .cons r rs, .cons q qs, h => by
    obtain ⟨as, z⟩ := Dp.reads I _ _ _ (by rw [hK]; exact q.dp (h _ List.mem_cons_self)) r
    exact .cons ⟨as, PyProof.Rows.Reads.keeps k z⟩ (each_reads hK I k rs qs fun d hd => h d (List.mem_cons_of_mem _ hd))
open PySem.W in
theorem cr_sorted (hK : X.K = G.K) (hu : X.A.units + 64 < cLine) : CallR X (.builtin "sorted") (rSorted G) := by
  intro pins s σ H vs us Q I r h
  obtain ⟨a, xs, ds, B, rfl, hs, le, rx, ok, q⟩ := h
  rw [Vals.ref1 r]
  obtain ⟨T, o, its, n, hT, ho, hc, hd, rv, hz⟩ : ∃ (T : String) (o : Obj) (its : List Value) (n : Nat), (T = "list" ∨ T = "tuple") ∧ s.heap.get? a = some o ∧ o.cls = .type T ∧ o.data = .seq its.toArray n ∧ Vals xs its ∧ xs.length ≤ sizeLine := by
    rw [← hK] at hs
    rcases hs with hs | hs
    · obtain ⟨its, rv, pl, hz⟩ := I.list hs
      obtain ⟨o, n, e, c, _, d⟩ := pl
      exact ⟨"list", o, its, n, .inl rfl, e, c, d, rv, hz⟩
    · obtain ⟨its, rv, pl, hz⟩ := I.tuple hs
      obtain ⟨o, e, c, n, d⟩ := pl
      exact ⟨"tuple", o, its, n, .inr rfl, e, c, d, rv, hz⟩
  have hL : its.length ≤ sizeLine := by rw [← rv.length]; exact hz
  obtain ⟨ok1, ok2, ok3⟩ := sortOk_at ok
  refine Calls.call_function_entry PyProof.Rows.kind_sorted PyProof.Rows.plain_sorted PyProof.Rows.entry_sorted (PyProof.Rows.args_sorted1 _) ?_
  unfold Builtin.«sorted»
  refine wpAny_bind (m := checkCount "sorted" 1 1 _) (wpAny_pure ?_)
  refine wpAny_bind (wpAny_collect_seq a hT ho hc hd (fun h' k => ?_) (by rw [List.size_toArray]; exact hL))
  refine wpAny_bind (wpAny_newList ?_ hL)
  have hoL : (h'.push (PyProof.Rows.seqObj "list" its.toArray 0)).get? h'.objs.size = some (PyProof.Rows.seqObj "list" its.toArray 0) := Heap.get?_push_size _ rfl
  have keep : ∀ b o, s.heap.get? b = some o → b ≠ h'.objs.size ∧ (h'.push (PyProof.Rows.seqObj "list" its.toArray 0)).get? b = some o := fun b o q =>
    ⟨Nat.ne_of_lt (Heap.lt_size (k b o q)), Heap.get?_push_of_some _ (k b o q)⟩
  have keep2 : ∀ b o, s.heap.get? b = some o → (PySem.W.sortingHeap (h'.push (PyProof.Rows.seqObj "list" its.toArray 0)) h'.objs.size its).get? b = some o := fun b o q => PySem.W.sortingHeap_old (keep b o q).1 (keep b o q).2
  have er : EachIs (fun v d => ∃ as, Reads (PySem.W.sortingHeap (h'.push (PyProof.Rows.seqObj "list" its.toArray 0)) h'.objs.size its) v (D.py d) as) its ds :=
    each_reads hK I keep2 rv (Reps.le le rx) fun d hd => (ok1 d hd).1
  refine wpAny_bind (wpAny_holding (wpAny_call_entry PyProof.Rows.slot_list_sort ⟨_, hoL, rfl⟩ PyProof.Rows.entry_list_sort (list_sort_vals hoL (by
    have hu' : ∀ d, d ∈ ds.map D.py → X.A.in1.in1.units + d.depth < cLine := fun d hd => by
      obtain ⟨e, he, rfl⟩ := List.mem_map.mp hd
      have := (ok1 e he).2
      show X.A.units + 1 + 1 + _ < _
      omega
    rcases ok3 with ok3 | ⟨ok3, ok4⟩
    · exact SortsAt.data (each_map D.py er) ok2 ok3 hu'
    · exact sortsAt_one (each_map D.py er) ok2 (by rw [List.length_map]; exact ok3) (fun d hd => by obtain ⟨e, he, rfl⟩ := List.mem_map.mp hd; exact ok4 e he) hu') hL ⟨_, rfl, ?_⟩) (PyProof.Rows.args_list_sort _)))
  · refine wpAny_pure ?_
    have eo := sortVals_data (h' := PySem.W.sortingHeap (h'.push (PyProof.Rows.seqObj "list" its.toArray 0)) h'.objs.size its) (enc := D.py) false (eachVR rv rx) er ok2
    have ef : (ds.mergeSort (dataLe false D.py)) = isortD leI ds := by rw [leI_fun, isortD_eq]; rfl
    rw [ef] at eo
    obtain ⟨ys, rys, qys⟩ := eachVR_inv eo
    obtain ⟨ep, he'⟩ := PyProof.Rows.sortedHeap_at (vs := its) (out := (sortVals (dataKind (PySem.W.sortingHeap (h'.push (PyProof.Rows.seqObj "list" its.toArray 0)) h'.objs.size its) (ds.map D.py)) false its its).toArray) hoL
    have I1 : Inv X pins σ H { s with heap := h' } := I.kept (t' := s.toks) k
    have hlen : ys.length ≤ sizeLine := by rw [rys.length, sortVals_length _ rfl]; exact hL
    refine ⟨_, rfl, .ref h'.objs.size, upd H h'.objs.size (.lst ys), I1.laid (t' := s.toks) (fun b o e => ?_) (Nat.le_refl _) ⟨hlen, _, ep, rys, he'⟩, rfl, q ys _ (I1.hok.fresh (Nat.le_refl _)) qys⟩
    have hb : b < h'.objs.size := Heap.lt_size e
    rw [PyProof.Rows.sortedHeap_old (Nat.ne_of_lt hb) (Nat.lt_of_lt_of_le hb (by rw [PyProof.Rows.size_push']; exact Nat.le_succ _))]
    exact Heap.get?_push_of_some _ e
theorem s_sorted : CallS G (rSorted G) opSorted := by
  intro H B xs as s Q le ra e q
  cases ra with
  | nil => cases e
  | cons r1 r2 =>
    cases r2 with
    | cons _ _ => cases r1 <;> cases e
    | nil =>
      have fin : ∀ {ds : List D} {a : Addr} {vs : List V}, (SqL G.K H a vs ∨ SqT G.K H a vs) → Reps G B vs ds → (if ds.length ≤ 16777216 ∧ sortOk ds = true then some (S.ow (.lst (isortD leI ds))) else none) = some s → rSorted G [.ref a] H Q := fun {ds a vs} hs hr e => by
        split at e
        · rename_i c
          cases e
          exact ⟨a, vs, ds, B, rfl, hs, le, hr, c.2, fun ys p hp r => q _ _ (Out.newOw hp (.lst r) True.intro)⟩
        · cases e
      cases r1 with
      | lst h1 h2 => exact fin (.inl (SqL.of h1)) h2 e
      | tup h1 h2 => exact fin (.inr (TupX.le h1 le).sq) h2 e
      | _ => cases e
end
end T

/-! TPair: walks that make pairs: enumerate, zip. -/
namespace T
open PySem PySem.Spec PyProof.Rows L2

/-! ### a list or a tuple -/
def sqK (K : PySem.W.Frag) (b : Bool) (H : Hp) (a : Addr) (xs : List V) : Prop := match b with
  | true => SqL K H a xs
  | false => SqT K H a xs
def isK (b : Bool) (h : Heap) (a : Addr) (its : Array Value) : Prop := match b with
  | true => h.IsList a its
  | false => h.IsTuple a its
def itK (b : Bool) (h : Heap) (it a : Addr) (i : Nat) : Prop := match b with
  | true => h.IsListIter it a i
  | false => h.IsTupleIter it a i
def itO (b : Bool) (a : Addr) : Obj := match b with
  | true => { cls := .type "list_iterator", data := .fields #[.ref a, .int 0 0] }
  | false => { cls := .type "tuple_iterator", data := .fields #[.ref a, .int 0 0] }
theorem begK (b : Bool) (a : Addr) (its : Array Value) : Begins (.ref a) (itO b a) (fun h => isK b h a its) := by
  cases b
  · exact begins_tuple a its
  · exact begins_list a its
theorem drK {prog : Program} {w : World} {A : Around} (b : Bool) (hh : A.handled = none) (it a : Addr) (hne : a ≠ it) (its : Array Value) :
    Draws prog w A it [it, a] its.size (fun i v => its[i]? = some v) (fun i h => itK b h it a i ∧ isK b h a its) := by
  cases b
  · exact Draws.tuple hh it a hne its
  · exact Draws.list hh it a hne its
theorem itK_new {b : Bool} {h : Heap} {it a : Addr} (e : h.get? it = some (itO b a)) : itK b h it a 0 := by
  cases b
  · exact ⟨_, e, rfl, rfl⟩
  · exact ⟨_, e, rfl, rfl⟩
theorem itK_obj {b : Bool} {h : Heap} {it a : Addr} {i : Nat} (x : itK b h it a i) : ∃ o, h.get? it = some o ∧ ∀ v, o.data ≠ .cell v := by
  cases b <;> obtain ⟨o, ho, hc, hd⟩ := x <;> exact ⟨o, ho, fun v q => by rw [hd] at q; cases q⟩
theorem itK_keep {b : Bool} {h h' : Heap} {it a : Addr} {i : Nat} (x : itK b h it a i) (k : ∀ o, h.get? it = some o → h'.get? it = some o) : itK b h' it a i := by
  cases b <;> exact x.at k
theorem isK_of {X : Cx} {pins : List (Addr × Obj)} {σ : L2.St} {H : Hp} {s : Shared} {b : Bool} {a : Addr} {xs : List V} (I : Inv X pins σ H s) (h : sqK X.K b H a xs) : ∃ its : List Value, Vals xs its ∧ isK b s.heap a its.toArray := by
  cases b
  · obtain ⟨its, rv, p, _⟩ := I.tuple h
    exact ⟨its, rv, p⟩
  · obtain ⟨its, rv, p, _⟩ := I.list h
    exact ⟨its, rv, p.isList⟩
theorem isK_lt {b : Bool} {h : Heap} {a : Addr} {its : Array Value} (x : isK b h a its) : a < h.objs.size := by
  cases b
  · obtain ⟨o, ho, _⟩ := x
    exact Heap.lt_size ho
  · obtain ⟨o, ho, _⟩ := x
    exact Heap.lt_size ho
theorem sqK_inj {X : Cx} {pins : List (Addr × Obj)} {σ : L2.St} {H : Hp} {s : Shared} {b : Bool} {a : Addr} {xs ys : List V} (I : Inv X pins σ H s) (h : sqK X.K b H a xs) (h' : sqK X.K b H a ys) : xs = ys := by
  cases b
  · exact I.tuple_inj h h'
  · exact I.list_inj h h'
/-! ### a turn of KE's walks is one of ours -/
theorem turnT {P : Program} {w : World} {K : PySem.W.Frag} {elts : List Expr} {kk : Nat} {tpos : Pos} {J : It} {fpT wr : List Addr} {it : Addr} {Tn : Nat → Heap → Prop} (mem : it ∈ fpT) (sub : ∀ b ∈ wr, b ∈ fpT)
    (obj : ∀ i h, Tn i h → ∀ b ∈ fpT, ∃ o, h.get? b = some o ∧ ∀ v, o.data ≠ .cell v) (keep : ∀ i h h', Tn i h → (∀ b ∈ fpT, ∀ o, h.get? b = some o → h'.get? b = some o) → Tn i h')
    (self : ∀ (A : Around) (i : Nat) (s : Shared) (Q : Value → Shared → Prop) (E : Value → Shared → Prop), Tn i s.heap → Q (.ref it) s → wpAny (model P w) A (pyIter (.ref it)) Q E s)
    (wk : ∀ (X : Cx), X.prog = P → X.w = w → X.K = K → X.A.handled = none → ∀ (i : Nat) (pins : List (Addr × Obj)) (s : Shared) (σ : L2.St) (H : Hp), Inv X pins σ H s → Tn i s.heap → J.go i H ∨ J.stop i H →
      ∃ fp n Pt St Mid, WalksT P w X.A it fp wr n Pt St Mid ∧ St i s.heap ∧ (J.go i H → i < n) ∧ (J.stop i H → i = n) ∧ (∀ h', St (i + 1) h' → Tn (i + 1) h') ∧
        ∀ vals, Pt i vals → J.go i H → ∃ xs, Vals xs vals.toList ∧ xs.length ≤ sizeLine ∧ ∀ T, H T = none → J.yld i H (.ref T) (upd H T (.tup xs))) :
    Turn P w K (.Tuple elts kk tpos) J fpT it Tn where
  mem := mem
  obj := obj
  keep := keep
  item := by
    intro X hP hw hK hc i pins s σ H E I hf st hg
    obtain ⟨fp, n, Pt, St, Mid, W, hst, hlt, _, hnx, hy⟩ := wk X hP hw hK (I.ok.hd hc) i pins s σ H I st (.inl hg)
    refine W.item i s _ _ (hlt hg) hst fun T vals h' tk hPt hT hTup hMid hk => ⟨_, rfl, ?_⟩
    refine W.go elts kk tpos i T { s with heap := h', toks := tk } _ _ hMid fun h'' hst' hk' => ?_
    obtain ⟨xs, rv, hz, yld⟩ := hy vals hPt hg
    have hTw := W.apart i T h' hMid
    have hTup2 : IsTup h'' T vals.toList.toArray := by
      obtain ⟨o, ho, hc', n', hd⟩ := hTup
      exact ⟨o, hk' T o hTw ho, hc', n', by rw [hd]⟩
    have I1 : Inv X pins σ (upd H T (.tup xs)) { s with heap := h'', toks := tk } :=
      I.turnedNew (ch := wr) (fun b o hb q => hk' b o hb (hk b o hb q)) (fun b hb => hf b (sub b hb)) hT ⟨hz, vals.toList, rv, hTup2⟩
    refine ⟨.ref T, _, I1, rfl, yld T (I.hok.fresh hT), hnx h'' hst', fun b hb => ?_⟩
    obtain ⟨o, ho, _⟩ := obj i s.heap st b hb
    rw [upd_ne (Nat.ne_of_lt (Nat.lt_of_lt_of_le (Heap.lt_size ho) hT))]
    exact (hf b hb).1
  done := by
    intro X hP hw hK hc i pins s σ H E I hf st hg
    obtain ⟨fp, n, Pt, St, Mid, W, hst, _, hn, _, _⟩ := wk X hP hw hK (I.ok.hd hc) i pins s σ H I st (.inr hg)
    have e := hn hg
    subst e
    exact W.done s _ _ hst fun h' tk hk => ⟨rfl, I.turnedL (t' := tk) (ch := wr) (fun c o hb q => hk c o hb q) fun b hb => hf b (sub b hb)⟩
  self := self
/-! ### enumerate -/
def IteK (K : PySem.W.Frag) (b : Bool) (a : Addr) (k : Int) : It :=
  ⟨fun i H => ∃ (xs : List V) (x : V), sqK K b H a xs ∧ xs[i]? = some x, fun i H v H' => ∃ T x, v = .ref T ∧ H T = none ∧ H' = upd H T (.tup [.int (k + (i : Int)), x]) ∧ ∀ xs, sqK K b H a xs → xs[i]? = some x, fun i H => ∃ xs : List V, sqK K b H a xs ∧ xs.length = i⟩
theorem turn_enumK {P : Program} {w : World} {K : PySem.W.Frag} {elts : List Expr} {kk : Nat} {tpos : Pos} (b : Bool) (a e it : Addr) (k : Int) (h1 : e ≠ it) (h2 : e ≠ a) (h3 : a ≠ it) :
    Turn P w K (.Tuple elts kk tpos) (IteK K b a k) [e, it] e (fun i h => (∃ old, IsEnum h e it (k + (i : Int)) old) ∧ itK b h it a i) := by
  refine turnT (wr := [e, it]) (by simp) (fun _ h => h) (fun i h st c hc => ?_) (fun i h h' st k => ?_) (fun A i s Q E st h => let ⟨⟨_, he⟩, _⟩ := st; wpAny_pyIter_enum he h) fun X hP hw hK hh i pins s σ H I st hg => ?_
  · obtain ⟨⟨old, he⟩, hit⟩ := st
    have e' : c = e ∨ c = it := by simpa using hc
    rcases e' with rfl | rfl
    · exact ⟨_, he, fun v q => nomatch q⟩
    · exact itK_obj hit
  · obtain ⟨⟨old, he⟩, hit⟩ := st
    exact ⟨⟨old, k e (by simp) _ he⟩, itK_keep hit fun o q => k it (by simp) o q⟩
  · subst hP hw hK
    obtain ⟨xs, hq⟩ : ∃ xs, sqK X.K b H a xs := by
      rcases hg with ⟨xs, x, hq, _⟩ | ⟨xs, hq, _⟩ <;> exact ⟨xs, hq⟩
    obtain ⟨its, rv, his⟩ := isK_of I hq
    have hl := rv.length
    refine ⟨_, _, _, _, _, WalksT.enumFrom k (drK b (A := X.A.in1) hh it a h3 its.toArray) e h1 (by simp [h1, h2]) (by simp), ⟨st.1, st.2, his⟩, fun ⟨ys, x, hy, ex⟩ => ?_, fun ⟨ys, hy, ex⟩ => ?_, fun h' z => ⟨z.1, z.2.1⟩, fun vals hP hg => ?_⟩
    · rw [sqK_inj I hy hq] at ex
      have := (List.getElem?_eq_some_iff.mp ex).1
      rw [List.size_toArray]
      omega
    · rw [sqK_inj I hy hq] at ex
      rw [List.size_toArray]
      omega
    · obtain ⟨t, x, hx, rfl⟩ := hP
      obtain ⟨ys, y, hy, ey⟩ := hg
      rw [sqK_inj I hy hq] at ey
      obtain ⟨u, hu, ru⟩ := rv.get ey
      have hux : u = x := by
        rw [List.getElem?_toArray] at hx
        rw [hu] at hx
        exact Option.some.inj hx
      subst hux
      exact ⟨[.int (k + (i : Int)), y], .cons ⟨t, rfl⟩ (.cons ru .nil), by show 2 ≤ sizeLine; decide, fun T hT => ⟨T, y, rfl, hT, rfl, fun zs hz => by rw [sqK_inj I hz hq]; exact ey⟩⟩
set_option maxHeartbeats 1000000 in
theorem meets_enum1 {v : Value} {o : Obj} {H : Heap → Prop} (B : Begins v o H) :
    Meets (Builtin.«enumerate.__new__» ⟨[.type "enumerate", v], []⟩) (fun _ R s => H s.heap ∧
      R (.ok (.ret (.ref (s.heap.push o).objs.size))) { s with heap := (s.heap.push o).push { cls := .type "enumerate", data := .fields #[.none, .bool false, .ref s.heap.objs.size, rawInt 0, .none, .none] } }) :=
  .of_wp fun prog w A R s h => by
    obtain ⟨hp, g, d, tk, os⟩ := s
    obtain ⟨h1, h⟩ := h
    have hsub := sub_enumerate
    have q1 : ∀ {A' : Around} {E : Value → Shared → Prop} {Q : Value → Shared → Prop}, Q (.ref hp.objs.size) ⟨hp.push o, g, d, tk, os⟩ → wpAny (model prog w) A' (pyIter v) Q E ⟨hp, g, d, tk, os⟩ :=
      fun q => B.iter prog w _ _ ⟨hp, g, d, tk, os⟩ _ h1 q
    wp_walk using q1
    refine wpAny_stack_any fun st => wpAny_pure ?_
    split
    · rename_i c _ _ _ _ _
      cases (c == Value.type "enumerate")
      · wp_walk using q1
        exact ⟨_, rfl, h⟩
      · wp_walk using q1
        exact ⟨_, rfl, h⟩
    · wp_walk using q1
      exact ⟨_, rfl, h⟩
section
variable {prog : Program} {w : World} {A : Around} {E : Value → Shared → Prop} {s : Shared}
theorem enum_begins1 {v : Value} {o : Obj} {H : Heap → Prop} {Q : Value → Shared → Prop} (B : Begins v o H) (h1 : H s.heap)
    (h : ∀ h', IsEnum h' (s.heap.objs.size + 1) s.heap.objs.size 0 .none → h'.get? s.heap.objs.size = some o → h'.objs.size = s.heap.objs.size + 2 →
      (∀ b o, s.heap.get? b = some o → h'.get? b = some o) → Q (.ref (s.heap.objs.size + 1)) { s with heap := h' }) :
    wpAny (model prog w) A (call (.type "enumerate") [v]) Q E s := by
  refine callType_new F.called_enumerate (by decide) (F.typeCall_enumerate_1 _) (F.newCall_enumerate_1 _) (fun obj => F.args_object_init_2 obj _) F.entry_enumerate_new
    (meets_enum1 B) ⟨h1, ?_⟩
  have hz : (s.heap.push o).objs.size = s.heap.objs.size + 1 := Heap.size_push ..
  show _ ∧ _
  rw [hz]
  have he : IsEnum ((s.heap.push o).push { cls := .type "enumerate", data := .fields #[.none, .bool false, .ref s.heap.objs.size, rawInt 0, .none, .none] }) (s.heap.objs.size + 1) s.heap.objs.size 0 .none := by
    have := Heap.get?_push_size (s.heap.push o) (o := { cls := .type "enumerate", data := .fields #[.none, .bool false, .ref s.heap.objs.size, rawInt 0, .none, .none] }) rfl
    rw [hz] at this
    exact this
  exact ⟨⟨_, he, rfl⟩, h _ he (Heap.get?_push_of_some _ (Heap.get?_push_size _ B.free)) (by rw [Heap.size_push, hz]) fun b o x => Heap.get?_push_of_some _ (Heap.get?_push_of_some _ x)⟩
end
def iEnK (K : PySem.W.Frag) (ta : TA) : TI := fun σ H R => ta σ H fun vs H1 => ∃ b a xs, sqK K b H1 a xs ∧ ((vs = [.ref a] ∧ R (IteK K b a 0) H1) ∨ ∃ k, vs = [.ref a, .int k] ∧ -(2 ^ 63) ≤ k ∧ k < 2 ^ 63 ∧ R (IteK K b a k) H1)
theorem pie_enum {X : Cx} {elts : List Expr} {kk : Nat} {tpos : Pos} {pins : List (Addr × Obj)} {σ : L2.St} {H : Hp} {s : Shared} {R : It → Hp → Prop} {b : Bool} {a : Addr} {xs : List V} {k : Int} {h' : Heap} (I : Inv X pins σ H s) (hq : sqK X.K b H a xs) (q : R (IteK X.K b a k) H)
    (he : IsEnum h' (s.heap.objs.size + 1) s.heap.objs.size k .none) (hit : h'.get? s.heap.objs.size = some (itO b a)) (hk : ∀ b o, s.heap.get? b = some o → h'.get? b = some o) :
    PIE X pins σ (.Tuple elts kk tpos) R (.ref (s.heap.objs.size + 1)) { s with heap := h' } := by
  obtain ⟨its, rv, his⟩ := isK_of I hq
  have hlt := isK_lt his
  have I2 : Inv X pins σ H { s with heap := h' } := I.kept (t' := s.toks) hk
  refine ⟨s.heap.objs.size + 1, [s.heap.objs.size + 1, s.heap.objs.size], _, _, H, rfl, I2, turn_enumK b a (s.heap.objs.size + 1) s.heap.objs.size k (Nat.succ_ne_self _) (Nat.ne_of_gt (Nat.lt_succ_of_lt hlt)) (Nat.ne_of_lt hlt), ⟨⟨.none, ?_⟩, itK_new hit⟩, fun c hc => ?_, q⟩
  · have e0 : k + ((0 : Nat) : Int) = k := by simp
    rw [e0]
    exact he
  · have e' : c = s.heap.objs.size + 1 ∨ c = s.heap.objs.size := by simpa using hc
    have hle : s.heap.objs.size ≤ c := by
      rcases e' with z | z
      · rw [z]; exact Nat.le_add_right _ _
      · rw [z]; exact Nat.le_refl _
    exact I.fpOk hle (I.hok.fresh hle)
theorem pi_enK {X : Cx} {e : Expr} {es : List Expr} {ta : TA} {p pos tpos : Pos} {elts : List Expr} {kk : Nat} (hg : Gl X "enumerate") (hm : X.mg "enumerate" = none) (ha : PA X (e :: es) ta) (hs : starEach (e :: es) X.env = (false, eval e X.env) :: starEach es X.env := by rfl) (hpl : (backTo pos (starEach es X.env)).any (·.1) = false := by rfl) :
    PI X (.Tuple elts kk tpos) (.Call (.Name "enumerate" p) (e :: es) [] pos) (iEnK X.K ta) := by
  refine ⟨fun pins s σ H R I h => ?_⟩
  refine Call_ (ld_blt I hg hm boot_enumerate (PyProof.Rows.callWith_type1 (thn (ha.run pos pins s σ H _ I h) fun us s1 ⟨vs, H1, I1, r1, q1⟩ => ?_) hs hpl))
  obtain ⟨b, a, xs, hq, q1⟩ := q1
  obtain ⟨its, rv, his⟩ := isK_of I1 hq
  rcases q1 with ⟨rfl, q⟩ | ⟨k, rfl, k0, k1, q⟩
  · obtain ⟨u, rfl, ru⟩ := r1.one
    cases ru
    exact enum_begins1 (begK b a its.toArray) his fun h' he hit hsz hk => wpAny_pyIter_enum he (pie_enum I1 hq q he hit hk)
  · obtain ⟨u, u2, rfl, ru, ru2⟩ := r1.two
    cases ru
    obtain ⟨t, rfl⟩ := ru2
    exact enum_begins (begK b a its.toArray) his k0 k1 fun h' he hit hsz hk => wpAny_pyIter_enum he (pie_enum I1 hq q he hit hk)
/-! ### zip of two -/
def ItzK (K : PySem.W.Frag) (b c : Bool) (x y : Addr) : It :=
  ⟨fun i H => ∃ (xs ys : List V) (u v : V), sqK K b H x xs ∧ sqK K c H y ys ∧ xs[i]? = some u ∧ ys[i]? = some v,
    fun i H r H' => ∃ T u v, r = .ref T ∧ H T = none ∧ H' = upd H T (.tup [u, v]) ∧ (∀ xs, sqK K b H x xs → xs[i]? = some u) ∧ ∀ ys, sqK K c H y ys → ys[i]? = some v,
    fun i H => ∃ xs ys : List V, sqK K b H x xs ∧ sqK K c H y ys ∧ min xs.length ys.length = i⟩
theorem turn_zipK {P : Program} {w : World} {K : PySem.W.Frag} {elts : List Expr} {kk : Nat} {tpos : Pos} (b c : Bool) (x y z TI TO i1 i2 : Addr) (hx : x ≠ i1) (hy : y ≠ i2) (S : ZipSep2 z TI TO i1 i2 [i1, x] [i2, y]) :
    Turn P w K (.Tuple elts kk tpos) (ItzK K b c x y) [z, TI, TO, i1, i2] z (fun i h => IsZip h z TI TO .none ∧ IsTupOf2 h TI (.ref i1) (.ref i2) ∧ (∃ a1 a2, IsTupOf2 h TO a1 a2) ∧ itK b h i1 x i ∧ itK c h i2 y i) := by
  refine turnT (wr := [z, TO, i1, i2]) (by simp) (fun c h => by
    have : c = z ∨ c = TO ∨ c = i1 ∨ c = i2 := by simpa using h
    rcases this with rfl | rfl | rfl | rfl <;> simp) (fun i h st c hc => ?_) (fun i h h' st k => ?_) (fun A i s Q E st h => wpAny_pyIter_zip st.1 h) fun X hP hw hK hh i pins s σ H I st hg => ?_
  · obtain ⟨hz, hTI, ⟨a1, a2, hTO⟩, h1, h2⟩ := st
    have e' : c = z ∨ c = TI ∨ c = TO ∨ c = i1 ∨ c = i2 := by simpa using hc
    rcases e' with rfl | rfl | rfl | rfl | rfl
    · exact ⟨_, hz, fun v q => nomatch q⟩
    · exact ⟨_, hTI, fun v q => nomatch q⟩
    · exact ⟨_, hTO, fun v q => nomatch q⟩
    · exact itK_obj h1
    · exact itK_obj h2
  · obtain ⟨hz, hTI, ⟨a1, a2, hTO⟩, h1, h2⟩ := st
    exact ⟨k z (by simp) _ hz, k TI (by simp) _ hTI, ⟨a1, a2, k TO (by simp) _ hTO⟩, itK_keep h1 fun o q => k i1 (by simp) o q, itK_keep h2 fun o q => k i2 (by simp) o q⟩
  · subst hP hw hK
    obtain ⟨xs, ys, hqx, hqy⟩ : ∃ xs ys, sqK X.K b H x xs ∧ sqK X.K c H y ys := by
      rcases hg with ⟨xs, ys, _, _, h1, h2, _⟩ | ⟨xs, ys, h1, h2, _⟩ <;> exact ⟨xs, ys, h1, h2⟩
    obtain ⟨its, rv, his⟩ := isK_of I hqx
    obtain ⟨its2, rv2, his2⟩ := isK_of I hqy
    have l1 := rv.length
    have l2 := rv2.length
    obtain ⟨st1, st2, st3, st4, st5⟩ := st
    refine ⟨_, _, _, _, _, WalksT.zipD2 S (drK b (A := X.A.in1) hh i1 x hx its.toArray) (drK c (A := X.A.in1) hh i2 y hy its2.toArray), ⟨st1, st2, st3, ⟨st4, his⟩, st5, his2⟩, fun ⟨xs', ys', u, v, h1, h2, e1, e2⟩ => ?_, fun ⟨xs', ys', h1, h2, e⟩ => ?_, fun h' z => ⟨z.1, z.2.1, z.2.2.1, z.2.2.2.1.1, z.2.2.2.2.1⟩, fun vals hP hg => ?_⟩
    · rw [sqK_inj I h1 hqx] at e1
      rw [sqK_inj I h2 hqy] at e2
      have := (List.getElem?_eq_some_iff.mp e1).1
      have := (List.getElem?_eq_some_iff.mp e2).1
      rw [List.size_toArray, List.size_toArray]
      omega
    · rw [sqK_inj I h1 hqx, sqK_inj I h2 hqy] at e
      rw [List.size_toArray, List.size_toArray]
      omega
    · obtain ⟨u1, u2, hu1, hu2, rfl⟩ := hP
      obtain ⟨xs', ys', u, v, h1, h2, e1, e2⟩ := hg
      rw [sqK_inj I h1 hqx] at e1
      rw [sqK_inj I h2 hqy] at e2
      obtain ⟨w1, hw1, rw1⟩ := rv.get e1
      obtain ⟨w2, hw2, rw2⟩ := rv2.get e2
      rw [List.getElem?_toArray, hw1] at hu1
      rw [List.getElem?_toArray, hw2] at hu2
      cases hu1
      cases hu2
      exact ⟨[u, v], .cons rw1 (.cons rw2 .nil), by show 2 ≤ sizeLine; decide, fun T hT => ⟨T, u, v, rfl, hT, rfl, fun zs hz => by rw [sqK_inj I hz hqx]; exact e1, fun zs hz => by rw [sqK_inj I hz hqy]; exact e2⟩⟩
def iZpK (K : PySem.W.Frag) (ta : TA) : TI := fun σ H R => ta σ H fun vs H1 => ∃ b c x y xs ys, vs = [.ref x, .ref y] ∧ sqK K b H1 x xs ∧ sqK K c H1 y ys ∧ R (ItzK K b c x y) H1
theorem pi_zpK {X : Cx} {e e2 : Expr} {ta : TA} {p pos tpos : Pos} {elts : List Expr} {kk : Nat} (hg : Gl X "zip") (hm : X.mg "zip" = none) (ha : PA X [e, e2] ta)
    (hs : starEach [e, e2] X.env = (false, eval e X.env) :: starEach [e2] X.env := by rfl) (hpl : (backTo pos (starEach [e2] X.env)).any (·.1) = false := by rfl) :
    PI X (.Tuple elts kk tpos) (.Call (.Name "zip" p) [e, e2] [] pos) (iZpK X.K ta) := by
  refine ⟨fun pins s σ H R I h => ?_⟩
  refine Call_ (ld_blt I hg hm PyProof.Rows.boot_zip (PyProof.Rows.callWith_type1 (thn (ha.run pos pins s σ H _ I h) fun us s1 ⟨vs, H1, I1, r1, q1⟩ => ?_) hs hpl))
  obtain ⟨b, c, x, y, xs, ys, rfl, hqx, hqy, q⟩ := q1
  obtain ⟨u, u2, rfl, ru, ru2⟩ := r1.two
  cases ru
  cases ru2
  obtain ⟨its, rv, his⟩ := isK_of I1 hqx
  obtain ⟨its2, rv2, his2⟩ := isK_of I1 hqy
  have lx := isK_lt his
  have ly := isK_lt his2
  refine zip_begins2 (begK b x its.toArray) (begK c y its2.toArray) his his2 fun h' hz hTI hTO h1 h2 hsz hk => wpAny_pyIter_zip hz ?_
  have I2 : Inv X pins σ H1 { s1 with heap := h' } := I1.kept (t' := s1.toks) hk
  have lt1 : ∀ c ∈ [x], c < s1.heap.objs.size := fun c hc => by rw [List.mem_singleton.mp hc]; exact lx
  have lt2 : ∀ c ∈ [y], c < s1.heap.objs.size := fun c hc => by rw [List.mem_singleton.mp hc]; exact ly
  refine ⟨s1.heap.objs.size + 4, [s1.heap.objs.size + 4, s1.heap.objs.size + 2, s1.heap.objs.size + 3, s1.heap.objs.size, s1.heap.objs.size + 1], _, _, H1, rfl, I2,
    turn_zipK b c x y _ _ _ _ _ (Nat.ne_of_lt lx) (Nat.ne_of_lt (Nat.lt_succ_of_lt ly)) (zip_sep2 lt1 lt2), ⟨hz, hTI, ⟨_, _, hTO⟩, itK_new h1, itK_new h2⟩, fun d hd => ?_, q⟩
  have e' : d = s1.heap.objs.size + 4 ∨ d = s1.heap.objs.size + 2 ∨ d = s1.heap.objs.size + 3 ∨ d = s1.heap.objs.size ∨ d = s1.heap.objs.size + 1 := by simpa using hd
  have hle : s1.heap.objs.size ≤ d := by
    rcases e' with z | z | z | z | z
    · rw [z]; exact Nat.le_add_right _ _
    · rw [z]; exact Nat.le_add_right _ _
    · rw [z]; exact Nat.le_add_right _ _
    · rw [z]; exact Nat.le_refl _
    · rw [z]; exact Nat.le_add_right _ _
  exact I1.fpOk hle (I1.hok.fresh hle)

/-! ### the trees -/
def enL : Int → List D → List D
  | _, [] => []
  | k, d :: r => .tup [.int k, d] :: enL (k + 1) r
def zpL : List D → List D → List D
  | d :: r, e :: s => .tup [d, e] :: zpL r s
  | _, _ => []
theorem enL_len : ∀ (k : Int) (ds : List D), (enL k ds).length = ds.length
  | _, [] => rfl
  | k, _ :: r => by rw [enL, List.length_cons, List.length_cons, enL_len]
theorem enL_get : ∀ (k : Int) (ds : List D) (i : Nat) (d : D), ds[i]? = some d → (enL k ds)[i]? = some (.tup [.int (k + (i : Int)), d])
  | k, x :: r, 0, d, h => by cases h; rw [enL]; simp
  | k, x :: r, i + 1, d, h => by
    rw [enL, List.getElem?_cons_succ, enL_get (k + 1) r i d h]
    congr 4
    omega
  | _, [], _, _, h => by cases h
theorem zpL_len : ∀ (xs ys : List D), (zpL xs ys).length = min xs.length ys.length
  | [], ys => by simp [zpL]
  | _ :: _, [] => by simp [zpL]
  | _ :: r, _ :: s => by
    rw [zpL, List.length_cons, List.length_cons, List.length_cons, zpL_len r s]
    omega
theorem zpL_get : ∀ (xs ys : List D) (i : Nat) (d e : D), xs[i]? = some d → ys[i]? = some e → (zpL xs ys)[i]? = some (.tup [d, e])
  | _ :: _, _ :: _, 0, _, _, h1, h2 => by cases h1; cases h2; rfl
  | _ :: r, _ :: s, i + 1, d, e, h1, h2 => zpL_get r s i d e h1 h2
  | [], _, _, _, _, h, _ => by cases h
  | _ :: _, [], _, _, _, _, h => by cases h
section
variable {G : Gh} {F : Fr} {W : WX} {w : Addr → Option Nat} {σ : L2.St} {H : Hp} {env : Env} {ts : List (V × S)} {X : Cx} {fx : Nat → Bool}
/-- a list's or a tuple's items -/
def seqD : D → Option (List D)
  | .lst ds => some ds
  | .tup ds => some ds
  | _ => none
theorem seqK_of {B : Hp} {v : V} {d : D} {ds : List D} (r : Rep G B v d) (e : seqD d = some ds) : ∃ b a, v = .ref a ∧ ∀ (B' H : Hp), Le B' H → Rep G B' v d → ∃ vs, sqK G.K b H a vs ∧ Reps G B' vs ds := by
  cases r with
  | lst h1 h2 =>
    cases e
    refine ⟨true, _, rfl, fun B' H hl r => ?_⟩
    cases r with
    | lst k1 k2 => exact ⟨_, SqL.of (hl.at nt_lst nd_lst k1), k2⟩
  | tup h1 h2 =>
    cases e
    refine ⟨false, _, rfl, fun B' H hl r => ?_⟩
    cases r with
    | tup k1 k2 => exact ⟨_, (TupX.le k1 hl).sq, k2⟩
  | _ => cases e
theorem walk_en {B : Hp} {v : V} {d : D} {ds : List D} (k : Int) (r : Rep G B v d) (e : seqD d = some ds) : ∃ b a, v = .ref a ∧ (∀ B' H, Has G [(v, d)] B' H → ∃ vs, sqK G.K b H a vs) ∧ Walk G true (IteK G.K b a k) [(v, d)] (enL k ds) := by
  obtain ⟨b, a, ev, at_⟩ := seqK_of r e
  have at2 : ∀ {B' H : Hp}, Has G [(v, d)] B' H → ∃ vs, sqK G.K b H a vs ∧ Reps G B' vs ds := fun {B' H} h => at_ B' H h.1 (h.2 _ List.mem_cons_self)
  refine ⟨b, a, ev, fun B' H h => let ⟨vs, z, _⟩ := at2 h; ⟨vs, z⟩, fun i B H hi h => ?_, fun i B H hi h => ?_, fun i B H x H' hi h hy => ?_⟩
  · obtain ⟨vs, k1, k2⟩ := at2 h
    rw [enL_len] at hi
    obtain ⟨v, ev, _⟩ := k2.get (List.getElem?_eq_getElem hi)
    exact ⟨vs, v, k1, ev⟩
  · obtain ⟨vs, k1, k2⟩ := at2 h
    rw [enL_len] at hi
    exact ⟨vs, k1, by rw [k2.length]; exact hi⟩
  · obtain ⟨vs, k1, k2⟩ := at2 h
    obtain ⟨T, u, rfl, hT, rfl, hu⟩ := hy
    obtain ⟨d', ed, rd⟩ := k2.getV (hu vs k1)
    exact ⟨Ext.new hT, _, enL_get k ds i d' ed, T, _, _, rfl, upd_same, rfl, .cons (.int _) (.cons rd .nil)⟩
theorem walk_zp {B : Hp} {u v : V} {d e : D} {ds es : List D} (r : Rep G B u d) (r2 : Rep G B v e) (h1 : seqD d = some ds) (h2 : seqD e = some es) : ∃ b c x y, u = .ref x ∧ v = .ref y ∧ (∀ B' H, Has G [(u, d), (v, e)] B' H → ∃ vs ws, sqK G.K b H x vs ∧ sqK G.K c H y ws) ∧ Walk G true (ItzK G.K b c x y) [(u, d), (v, e)] (zpL ds es) := by
  obtain ⟨b, x, eu, at1⟩ := seqK_of r h1
  obtain ⟨c, y, ev, at2⟩ := seqK_of r2 h2
  have a1 : ∀ {B' H : Hp}, Has G [(u, d), (v, e)] B' H → ∃ vs, sqK G.K b H x vs ∧ Reps G B' vs ds := fun {B' H} h => at1 B' H h.1 (h.2 _ List.mem_cons_self)
  have a2 : ∀ {B' H : Hp}, Has G [(u, d), (v, e)] B' H → ∃ vs, sqK G.K c H y vs ∧ Reps G B' vs es := fun {B' H} h => at2 B' H h.1 (h.2 _ (List.mem_cons_of_mem _ List.mem_cons_self))
  refine ⟨b, c, x, y, eu, ev, fun B' H h => let ⟨vs, z, _⟩ := a1 h; let ⟨ws, z2, _⟩ := a2 h; ⟨vs, ws, z, z2⟩, fun i B H hi h => ?_, fun i B H hi h => ?_, fun i B H p H' hi h hy => ?_⟩
  · obtain ⟨vs, k1, k2⟩ := a1 h
    obtain ⟨ws, l1, l2⟩ := a2 h
    rw [zpL_len] at hi
    obtain ⟨v1, e1, _⟩ := k2.get (List.getElem?_eq_getElem (by omega : i < ds.length))
    obtain ⟨v2, e2, _⟩ := l2.get (List.getElem?_eq_getElem (by omega : i < es.length))
    exact ⟨vs, ws, v1, v2, k1, l1, e1, e2⟩
  · obtain ⟨vs, k1, k2⟩ := a1 h
    obtain ⟨ws, l1, l2⟩ := a2 h
    rw [zpL_len] at hi
    exact ⟨vs, ws, k1, l1, by rw [k2.length, l2.length]; exact hi⟩
  · obtain ⟨vs, k1, k2⟩ := a1 h
    obtain ⟨ws, l1, l2⟩ := a2 h
    obtain ⟨T, p1, p2, rfl, hT, rfl, hu, hv⟩ := hy
    obtain ⟨d1, ed1, rd1⟩ := k2.getV (hu vs k1)
    obtain ⟨d2, ed2, rd2⟩ := l2.getV (hv ws l1)
    exact ⟨Ext.new hT, _, zpL_get ds es i d1 d2 ed1 ed2, T, _, _, rfl, upd_same, rfl, .cons rd1 (.cons rd2 .nil)⟩
theorem has_two {u v : V} {d e : D} (r1 : Rep G (hide H w) u d) (r2 : Rep G (hide H w) v e) : Has G [(u, d), (v, e)] (hide H w) H := ⟨hide_le, fun p hp => by
  rcases List.mem_cons.mp hp with rfl | hp
  · exact r1
  · rw [List.mem_singleton.mp hp]; exact r2⟩
def enE : Option (List D × Env) → Res (List D)
  | some ([d], e) => (match seqD d with
    | some ds => .ok (enL 0 ds) e
    | none => .bad)
  | some ([d, .int k], e) => (match seqD d with
    | some ds => if -(2 ^ 62) ≤ k ∧ k < 2 ^ 62 then .ok (enL k ds) e else .bad
    | none => .bad)
  | _ => .bad
def zpE : Option (List D × Env) → Res (List D)
  | some ([d, e], env) => (match seqD d, seqD e with
    | some ds, some es => .ok (zpL ds es) env
    | _, _ => .bad)
  | _ => .bad
def dEn (fs : List Den) : Env → Res (List D) := fun env => (dargs fs env).bind fun ss e => enE (escs e ss)
def dZp (fs : List Den) : Env → Res (List D) := fun env => (dargs fs env).bind fun ss e => zpE (escs e ss)
theorem di_enum {elts : List Expr} {kk : Nat} {tpos p pos : Pos} {e : Expr} {es : List Expr} {fs : List Den} (hg : Gl X "enumerate") (hm : X.mg "enumerate" = none) (ha : PA X (e :: es) (tA G W (dargs fs))) (hK : X.K = G.K := by rfl) (hs : starEach (e :: es) X.env = (false, eval e X.env) :: starEach es X.env := by rfl) (hpl : (backTo pos (starEach es X.env)).any (·.1) = false := by rfl) :
    PI X (.Tuple elts kk tpos) (.Call (.Name "enumerate" p) (e :: es) [] pos) (tI G true W (dEn fs)) := by
  refine piImp (pi_enK hg hm ha hs hpl) fun σ H R ⟨F, ts, env, h, q⟩ => ?_
  rw [dEn, Res.wp_bind] at q
  refine tA.mk h (Res.wp_mono q (fun ss e q vs H1 hl h1 => ?_) fun _ _ z => z)
  obtain ⟨w, h1⟩ := h1
  obtain ⟨z1, z2⟩ := zipL hl
  cases ee : escs e ss with
  | none => rw [ee] at q; exact q.elim
  | some p =>
    obtain ⟨as, e'⟩ := p
    rw [ee] at q
    obtain ⟨w2, h2, _, rs⟩ := h1.escs (us := vs.zip ss) (by rw [z2]; exact ee)
    rw [z1] at rs
    have h3 := h2.drop
    cases rs with
    | nil => exact q.elim
    | cons r1 r2 =>
      cases r2 with
      | nil =>
        simp only [enE] at q
        split at q
        case h_2 => exact q.elim
        rename_i ds hd
        obtain ⟨b, a, rfl, hq, wk⟩ := walk_en 0 r1 hd
        obtain ⟨xs, hq⟩ := hq _ _ (has_one r1)
        rw [hK]
        exact ⟨b, a, xs, hq, .inl ⟨rfl, q _ _ H1 w2 h3 (has_one r1) wk⟩⟩
      | cons r2 r3 =>
        cases r3 with
        | cons _ _ => cases r2 <;> exact q.elim
        | nil =>
          cases r2 with
          | int k =>
            simp only [enE] at q
            split at q
            case h_2 => exact q.elim
            rename_i ds hd
            split at q
            case isFalse => exact q.elim
            rename_i hk
            obtain ⟨b, a, rfl, hq, wk⟩ := walk_en k r1 hd
            obtain ⟨xs, hq⟩ := hq _ _ (has_one r1)
            rw [hK]
            exact ⟨b, a, xs, hq, .inr ⟨k, rfl, by omega, by omega, q _ _ H1 w2 h3 (has_one r1) wk⟩⟩
          | _ => exact q.elim
theorem di_zip {elts : List Expr} {kk : Nat} {tpos p pos : Pos} {e e2 : Expr} {fs : List Den} (hg : Gl X "zip") (hm : X.mg "zip" = none) (ha : PA X [e, e2] (tA G W (dargs fs))) (hK : X.K = G.K := by rfl) (hs : starEach [e, e2] X.env = (false, eval e X.env) :: starEach [e2] X.env := by rfl) (hpl : (backTo pos (starEach [e2] X.env)).any (·.1) = false := by rfl) :
    PI X (.Tuple elts kk tpos) (.Call (.Name "zip" p) [e, e2] [] pos) (tI G true W (dZp fs)) := by
  refine piImp (pi_zpK hg hm ha hs hpl) fun σ H R ⟨F, ts, env, h, q⟩ => ?_
  rw [dZp, Res.wp_bind] at q
  refine tA.mk h (Res.wp_mono q (fun ss e q vs H1 hl h1 => ?_) fun _ _ z => z)
  obtain ⟨w, h1⟩ := h1
  obtain ⟨z1, z2⟩ := zipL hl
  cases ee : escs e ss with
  | none => rw [ee] at q; exact q.elim
  | some p =>
    obtain ⟨as, e'⟩ := p
    rw [ee] at q
    obtain ⟨w2, h2, _, rs⟩ := h1.escs (us := vs.zip ss) (by rw [z2]; exact ee)
    rw [z1] at rs
    have h3 := h2.drop
    cases rs with
    | nil => exact q.elim
    | cons r1 r2 =>
      cases r2 with
      | nil => exact q.elim
      | cons r2 r3 =>
        cases r3 with
        | cons _ _ => exact q.elim
        | nil =>
          simp only [zpE] at q
          split at q
          case h_2 => exact q.elim
          rename_i ds es hd he
          obtain ⟨b, c, x, y, rfl, rfl, hq, wk⟩ := walk_zp r1 r2 hd he
          have hs := has_two r1 r2
          obtain ⟨xs, ys, hqx, hqy⟩ := hq _ _ hs
          rw [hK]
          exact ⟨b, c, x, y, xs, ys, rfl, hqx, hqy, q _ _ H1 w2 h3 hs wk⟩
/-- a pair that was just made is unpacked -/
theorem dg_pair {es : List Expr} {k : Nat} {pos : Pos} {gs : List D → Env → Option Env} {n : Nat} (hc : X.calm = true) (h : PGs X es (tGs G fx gs)) (hn : (assignEach es X.env).length = n := by rfl) (hst : (assignEach es X.env).findIdx? (·.1) = none := by rfl) (hK : X.K = G.K := by rfl) :
    PG X (.Tuple es k pos) (tG G true fx (gT n gs)) := by
  refine pgImp (pg_tup hc h hn hst) fun v σ H Q ⟨F, ts, env, w, d, e', h, nb, ⟨T, xs, ds, ev, hT, ed, r⟩, eg, q⟩ => ?_
  subst ev ed
  simp only [gT] at eg
  split at eg
  · rename_i hl
    exact ⟨T, xs, rfl, SqT.of hT, by rw [r.length]; exact hl, F, ts, env, w, ds, e', h, nb, r, eg, q⟩
  · cases eg
end
end T

/-! TSum: sum(lists, []). -/
namespace T
open PySem PySem.Spec PyProof.Rows L2

def accL (f : Nat → Array Value) : Nat → Array Value
  | 0 => #[]
  | i + 1 => accL f i ++ f i
abbrev IsLs (h : Heap) (a : Addr) (its : Array Value) : Prop := ∃ n, h.get? a = some { cls := .type "list", data := .seq its n }
section
variable {prog : Program} {w : World} {A : Around} {R : Result → Shared → Prop} {I : Addr} {fp wr : List Addr} {n : Nat} {P : Nat → Value → Prop} {St : Nat → Heap → Prop}
theorem sum_loopL (W : Walks prog w A.in1 I fp wr n P St) (ad : Nat → Addr) (f : Nat → Array Value) (hval : ∀ i v, P i v → v = .ref (ad i)) (S : Addr) (hSf : S ∉ fp) (hz : ∀ i, i ≤ n → (accL f i).size ≤ sizeLine) (hap : ∀ j, j < n → ad j ∉ wr ∧ ad j ≠ S) (hwr : ∀ i h, St i h → ∀ b ∈ wr, b < h.objs.size) :
    ∀ (k i : Nat) (s : Shared) (t : Addr) (c : Nat), n - i = k → i ≤ n → St i s.heap → s.heap.get? S = some { cls := .type "list", dict := none, data := .seq #[.ref t] c, slots := #[] } → IsLs s.heap t (accL f i) → t ∉ wr → t ≠ S → (∀ j, j < n → IsLs s.heap (ad j) (f j)) →
    (∀ (h' : Heap) (tk : Nat), n = i → (∀ b o, b ∉ wr → b ≠ S → s.heap.get? b = some o → h'.get? b = some o) → R (.ok (.ret (.ref t))) { s with heap := h', toks := tk }) →
    (∀ (h1 h' : Heap) (tk : Nat), i < n → (∀ b o, b ∉ wr → b ≠ S → s.heap.get? b = some o → h1.get? b = some o) → (∀ b o, b ∉ wr → b ≠ S → h1.get? b = some o → h'.get? b = some o) → IsLs h' h1.objs.size (accL f n) → R (.ok (.ret (.ref h1.objs.size))) { s with heap := h', toks := tk }) →
    codeAny (model prog w) A (.builtin "sum.loop" ⟨[.ref I, .ref S, rawInt 2, rawInt 0], []⟩) R s := by
  have hSw : S ∉ wr := fun h => hSf (W.sub _ h)
  intro k
  induction k with
  | zero =>
    intro i s t c hk hi hst hS ht htw htS hls hR0 hR
    have hin : i = n := by omega
    subst hin
    refine codeAny_builtin F.entry_sum_loop ?_
    rw [Around.under_plainId F.plain_sum_loop _]
    show wpAny _ A.in1 (seqItems? (.ref S) >>= _) _ _ s
    refine wpAny_bind (wpAny_seqItems hS rfl ?_)
    show wpAny _ A.in1 (tryCatch (pyNext (.ref I)) _ >>= _) _ _ s
    refine wpAny_bind (wpAny_tryCatch (W.done s _ _ hst fun h' tk hk' => ?_))
    exact wpAny_pure (hR0 h' tk rfl fun b o hbw _ e => hk' b o hbw e)
  | succ k ih =>
    intro i s t c hk hi hst hS ht htw htS hls hR0 hR
    have hlt : i < n := by omega
    refine codeAny_builtin F.entry_sum_loop ?_
    rw [Around.under_plainId F.plain_sum_loop _]
    show wpAny _ A.in1 (seqItems? (.ref S) >>= _) _ _ s
    refine wpAny_bind (wpAny_seqItems hS rfl ?_)
    show wpAny _ A.in1 (tryCatch (pyNext (.ref I)) _ >>= _) _ _ s
    refine wpAny_bind (wpAny_tryCatch (W.item i s _ _ hlt hst fun v h' tk hP hst' hk' => ?_))
    have ev := hval i v hP
    subst ev
    have hS' := hk' S _ hSw hS
    obtain ⟨nt, et⟩ := ht
    obtain ⟨ni, ei⟩ := hls i hlt
    have et' := hk' t _ htw et
    have ei' := hk' _ _ (hap i hlt).1 ei
    show wpAny _ A.in1 ((holding [Value.ref (ad i)] (binaryOp .Add (.ref t) (.ref (ad i)))).attempt >>= _) _ _ _
    have hsz := hz (i + 1) (by omega)
    refine wpAny_bind (wpAny_attempt (wpAny_holding (PySem.P.add_list et' ei' ?_ (by rw [accL, Array.size_append] at hsz; exact hsz))))
    have hS1 : (h'.push { cls := .type "list", data := .seq (accL f i ++ f i) }).get? S = some { cls := .type "list", dict := none, data := .seq #[.ref t] c, slots := #[] } := Heap.get?_push_of_some _ hS'
    show wpAny _ A.in1 (updateSeq S (fun _ => #[.ref h'.objs.size]) >>= _) _ _ _
    refine wpAny_bind (wpAny_updateSeq hS1 rfl ?_)
    have hS2 := Heap.get?_update_self (Obj.mapSeq fun _ => #[Value.ref h'.objs.size]) hS1 rfl
    refine wpAny_bind (wpAny_letGo ?_)
    show wpAny _ A.in1 (updateSeq S (fun _ => #[.ref h'.objs.size]) >>= _) _ _ _
    refine wpAny_bind (wpAny_updateSeq hS2 rfl (wpAny_pure ⟨plainId_quiet F.plain_sum_loop _, ?_⟩))
    have hSlt : S < h'.objs.size := Heap.lt_size hS'
    have up : ∀ b o, b ≠ S → (h'.push { cls := .type "list", data := .seq (accL f i ++ f i) }).get? b = some o → (((h'.push { cls := .type "list", data := .seq (accL f i ++ f i) }).update S (Obj.mapSeq fun _ => #[Value.ref h'.objs.size])).update S (Obj.mapSeq fun _ => #[Value.ref h'.objs.size])).get? b = some o := fun b o hb e =>
      (Heap.get?_update_other _ _ (Ne.symm hb)).trans ((Heap.get?_update_other _ _ (Ne.symm hb)).trans e)
    have keep : ∀ b o, b ≠ S → h'.get? b = some o → (((h'.push { cls := .type "list", data := .seq (accL f i ++ f i) }).update S (Obj.mapSeq fun _ => #[Value.ref h'.objs.size])).update S (Obj.mapSeq fun _ => #[Value.ref h'.objs.size])).get? b = some o := fun b o hb e => up b o hb (Heap.get?_push_of_some _ e)
    have hws : ∀ b ∈ wr, b < h'.objs.size := fun b hb => hwr _ _ hst' b hb
    refine ih (i + 1) _ h'.objs.size _ (by omega) hlt (W.frame _ _ _ hst' fun b hb o e => keep b o (fun z => hSf (by rw [← z]; exact hb)) e) (Heap.get?_update_self _ hS2 rfl) ⟨0, up _ _ (Nat.ne_of_gt hSlt) (Heap.get?_push_size _ rfl)⟩ (fun z => Nat.lt_irrefl _ (hws _ z)) (Nat.ne_of_gt hSlt) (fun j hj => ?_) (fun h'' tk'' hn hk'' => ?_) fun h1 h'' tk'' hn hk1 hk2 hL => ?_
    · obtain ⟨nj, ej⟩ := hls j hj
      exact ⟨nj, keep _ _ (hap j hj).2 (hk' _ _ (hap j hj).1 ej)⟩
    · refine hR h' h'' tk'' hlt (fun b o hbw _ e => hk' b o hbw e) (fun b o hbw hbS e => hk'' b o hbw hbS (keep b o hbS e)) ?_
      rw [hn]
      exact ⟨0, hk'' _ _ (fun z => Nat.lt_irrefl _ (hws _ z)) (Nat.ne_of_gt hSlt) (up _ _ (Nat.ne_of_gt hSlt) (Heap.get?_push_size _ rfl))⟩
    · exact hR h1 h'' tk'' hlt (fun b o hbw hbS e => hk1 b o hbw hbS (keep b o hbS (hk' b o hbw e))) hk2 hL
end
namespace F2
theorem args_sum2 (a b : Value) : argsOk "sum" ⟨[a, b], []⟩ := by unfold argsOk; kernel_rfl
end F2
section
variable {prog : Program} {w : World} {A : Around} {E : Value → Shared → Prop} {s : Shared}
theorem sub_list_str : isSubtype (.type "list") (.type "str") = pure false := by rw [isSubtype_type]; kernel_rfl
theorem sub_list_bytes : isSubtype (.type "list") (.type "bytes") = pure false := by rw [isSubtype_type]; kernel_rfl
theorem sub_list_bytearray : isSubtype (.type "list") (.type "bytearray") = pure false := by rw [isSubtype_type]; kernel_rfl
theorem call_sumL {l b0 : Addr} {its : List Addr} {f : Nat → Array Value} {Q : Value → Shared → Prop} (hh : A.handled = none) (hl : s.heap.IsList l (its.map Value.ref).toArray) (hb : IsLs s.heap b0 #[])
    (hls : ∀ j a, its[j]? = some a → IsLs s.heap a (f j)) (hz : ∀ i, i ≤ its.length → (accL f i).size ≤ sizeLine)
    (h0 : ∀ h' tk, its = [] → (∀ b o, s.heap.get? b = some o → h'.get? b = some o) → Q (.ref b0) { s with heap := h', toks := tk })
    (h1 : ∀ (S I : Addr) (h1 h' : Heap) (tk : Nat), its ≠ [] → s.heap.objs.size ≤ S → s.heap.objs.size ≤ I → (∀ b o, s.heap.get? b = some o → h1.get? b = some o) → (∀ b o, b ∉ [S, I] → h1.get? b = some o → h'.get? b = some o) → IsLs h' h1.objs.size (accL f its.length) → Q (.ref h1.objs.size) { s with heap := h', toks := tk }) :
    wpAny (model prog w) A (call (.builtin "sum") [.ref l, .ref b0]) Q E s := by
  refine call_function_tree F.kind_sum F.plain_sum F.entry_sum (F2.args_sum2 _ _) ?_
  unfold Builtin.«sum»
  simp only [List.length_cons, List.length_nil]
  rw [if_neg (by decide)]
  refine wpAny_bind (wpAny_of_eq (show Builtin.Builtins.bindParams "sum" ["start"] 0 ⟨[.ref b0], []⟩ = pure [some (.ref b0)] from rfl) ?_)
  refine wpAny_bind (wpAny_pyIter_list hl ?_)
  refine wpAny_bind (wpAny_pure ?_)
  obtain ⟨nb, eb⟩ := hb
  have hT : Shared.TypeIs { s with heap := s.heap.push { cls := .type "list_iterator", data := .fields #[.ref l, .int 0 0] } } (.ref b0) "list" := ⟨_, Heap.get?_push_of_some _ eb, rfl⟩
  simp only [List.forIn_cons, List.forIn_nil]
  refine wpAny_bind (wpAny_bind (wpAny_bind (wpAny_isInstance (T := "list") (b := false) hT sub_list_str ?_)))
  simp only [Bool.false_eq_true, if_false]
  refine wpAny_pure (wpAny_bind (wpAny_bind (wpAny_isInstance (T := "list") (b := false) hT sub_list_bytes ?_)))
  simp only [Bool.false_eq_true, if_false]
  refine wpAny_pure (wpAny_bind (wpAny_bind (wpAny_isInstance (T := "list") (b := false) hT sub_list_bytearray ?_)))
  simp only [Bool.false_eq_true, if_false]
  refine wpAny_pure (wpAny_pure ?_)
  refine wpAny_bind (wpAny_newObj_type ?_ (by show 1 ≤ sizeLine; decide))
  have hlt : l < s.heap.objs.size := by obtain ⟨o, e, _⟩ := hl; exact Heap.lt_size e
  have hI : (s.heap.push { cls := .type "list_iterator", data := .fields #[.ref l, .int 0 0] }).get? s.heap.objs.size = some { cls := .type "list_iterator", data := .fields #[.ref l, .int 0 0] } := Heap.get?_push_size _ rfl
  have hsz : (s.heap.push { cls := .type "list_iterator", data := .fields #[.ref l, .int 0 0] }).objs.size = s.heap.objs.size + 1 := Heap.size_push ..
  have old : ∀ b o, s.heap.get? b = some o → ((s.heap.push { cls := .type "list_iterator", data := .fields #[.ref l, .int 0 0] }).push { cls := .type "list", data := .seq [Value.ref b0].toArray }).get? b = some o := fun b o e => Heap.get?_push_of_some _ (Heap.get?_push_of_some _ e)
  have ne : ∀ b o, s.heap.get? b = some o → b ≠ s.heap.objs.size ∧ b ≠ s.heap.objs.size + 1 := fun b o e => ⟨Nat.ne_of_lt (Heap.lt_size e), Nat.ne_of_lt (Nat.lt_succ_of_lt (Heap.lt_size e))⟩
  have hS0 : ((s.heap.push { cls := .type "list_iterator", data := .fields #[.ref l, .int 0 0] }).push { cls := .type "list", data := .seq [Value.ref b0].toArray }).get? (s.heap.objs.size + 1) = some { cls := .type "list", dict := none, data := .seq #[.ref b0] 0, slots := #[] } := by
    rw [← hsz]
    exact Heap.get?_push_size _ rfl
  rw [hsz]
  have W := Walks.list (prog := prog) (w := w) (A := A.in1) hh s.heap.objs.size l (Nat.ne_of_lt hlt) (its.map Value.ref).toArray
  refine wpAny_pure ⟨plainId_quiet F.plain_sum_loop _, sum_loopL W (fun j => its[j]?.getD 0) f (fun i v hv => ?_) (s.heap.objs.size + 1) (fun z => (List.mem_cons.mp z).elim (fun e => absurd e (Nat.succ_ne_self _)) fun z => absurd (List.mem_singleton.mp z) (Nat.ne_of_gt (Nat.lt_succ_of_lt hlt))) (fun i hi => hz i (by simpa using hi)) (fun j hj => ?_) (fun i h st b hb => ?_) its.length 0 _ b0 0 (by simp) (Nat.zero_le _) ⟨⟨_, Heap.get?_push_of_some _ hI, rfl, rfl⟩, hl.at fun o e => old l o e⟩ hS0 ⟨nb, old b0 _ eb⟩ (by simpa using (ne b0 _ eb).1) (ne b0 _ eb).2 (fun j hj => ?_) (fun h' tk hn hk => ?_) fun h1' h' tk hn hk1 hk2 hL => ?_⟩
  · rw [List.getElem?_toArray, List.getElem?_map] at hv
    cases q : its[i]? with
    | none => rw [q] at hv; cases hv
    | some a => rw [q] at hv; cases hv; rfl
  · have hj' : j < its.length := by simpa using hj
    rw [List.getElem?_eq_getElem hj']
    obtain ⟨n, e⟩ := hls j _ (List.getElem?_eq_getElem hj')
    exact ⟨by simpa using (ne _ _ e).1, (ne _ _ e).2⟩
  · have e : b = s.heap.objs.size := by simpa using hb
    subst e
    obtain ⟨⟨o, e, _⟩, _⟩ := st
    exact Heap.lt_size e
  · have hj' : j < its.length := by simpa using hj
    rw [List.getElem?_eq_getElem hj']
    obtain ⟨n, e⟩ := hls j _ (List.getElem?_eq_getElem hj')
    exact ⟨n, old _ _ e⟩
  · refine h0 h' tk ?_ fun b o e => hk b o (by simpa using (ne b o e).1) (ne b o e).2 (old b o e)
    have : its.length = 0 := by simpa using hn
    exact List.length_eq_zero_iff.mp this
  · have hL' : IsLs h' h1'.objs.size (accL f its.length) := by simpa using hL
    refine h1 (s.heap.objs.size + 1) s.heap.objs.size h1' h' tk (fun z => ?_) (Nat.le_succ _) (Nat.le_refl _) (fun b o e => hk1 b o (by simpa using (ne b o e).1) (ne b o e).2 (old b o e)) (fun b o hb e => hk2 b o (fun z => hb (by simp at z; simp [z])) (fun z => hb (by simp [z])) e) hL'
    rw [z] at hn
    exact absurd hn (by simp)
end
/-! ### the rule -/
structure LsR where
  a : Addr
  its : List Value
  vs : List V
  ds : List D
structure LsOk (G : Gh) (B : Hp) (h : Heap) (x : LsR) : Prop where
  at_ : IsLs h x.a x.its.toArray
  vals : Vals x.vs x.its
  reps : Reps G B x.vs x.ds
def lsts : List D → Option (List (List D))
  | [] => some []
  | .lst ds :: r => (match lsts r with
    | some rs => some (ds :: rs)
    | none => none)
  | _ => none
def rSum2 (G : Gh) : List V → Hp → VK → Prop := fun vs H Q => ∃ l b xs ds dss B, vs = [.ref l, .ref b] ∧ (SqL G.K H l xs) ∧ H b = some (.lst []) ∧ Le B H ∧ Reps G B xs ds ∧ lsts ds = some dss ∧ dss.flatten.length ≤ 16777216 ∧
  (dss = [] → Q (.ref b) H) ∧ ∀ ys p, H p = none → Reps G B ys dss.flatten → Q (.ref p) (upd H p (.lst ys))
section
variable {G : Gh} {F : Fr} {W : WX} {w : Addr → Option Nat} {σ : L2.St} {H : Hp} {env : Env} {ts : List (V × S)} {X : Cx}
theorem ls_all {B : Hp} {pins : List (Addr × Obj)} {s : Shared} (I : Inv X pins σ H s) (hle : Le B H) : ∀ {xs : List V} {ds : List D} {dss : List (List D)}, Reps G B xs ds → lsts ds = some dss → ∃ L : List LsR, xs = L.map (fun x => V.ref x.a) ∧ dss = L.map (·.ds) ∧ ∀ x ∈ L, LsOk G B s.heap x
  | _, [], _, .nil, h => by cases h; exact ⟨[], rfl, rfl, fun _ h => nomatch h⟩
  | _, d :: ds, dss, .cons r rs, h => by
    cases r with
    | @lst a vs ds' h1 h2 =>
      simp only [lsts] at h
      split at h
      · rename_i rs' e
        cases h
        obtain ⟨L, e1, e2, e3⟩ := ls_all I hle rs e
        have ha := hle.at nt_lst nd_lst h1
        obtain ⟨its, n, r, e4, _⟩ := I.lst ha
        exact ⟨⟨a, its, vs, ds'⟩ :: L, by rw [e1]; rfl, by rw [e2]; rfl, fun x hx => by
          rcases List.mem_cons.mp hx with rfl | hx
          · exact ⟨⟨n, e4⟩, r, h2⟩
          · exact e3 x hx⟩
      · cases h
    | _ => cases h
def fL (L : List LsR) (j : Nat) : Array Value := (L[j]?.map (·.its.toArray)).getD #[]
theorem accL_eq (L : List LsR) : ∀ i, i ≤ L.length → accL (fL L) i = ((L.take i).flatMap (·.its)).toArray
  | 0, _ => rfl
  | i + 1, h => by
    have hi : i < L.length := h
    rw [accL, accL_eq L i (Nat.le_of_lt hi), fL, List.getElem?_eq_getElem hi, ← List.take_append_getElem hi, List.flatMap_append]
    simp
theorem flat_vals {B : Hp} {h : Heap} : ∀ {L : List LsR}, (∀ x ∈ L, LsOk G B h x) → Vals (L.flatMap (·.vs)) (L.flatMap (·.its)) ∧ Reps G B (L.flatMap (·.vs)) (L.map (·.ds)).flatten
  | [], _ => ⟨.nil, .nil⟩
  | x :: L, h => by
    obtain ⟨a, b⟩ := flat_vals (L := L) fun y hy => h y (List.mem_cons_of_mem _ hy)
    have z := h x List.mem_cons_self
    exact ⟨z.vals.append a, z.reps.app b⟩
theorem take_len {α β : Type} (f : α → List β) : ∀ (L : List α) (i : Nat), ((L.take i).flatMap f).length ≤ (L.flatMap f).length
  | [], i => by simp
  | x :: L, 0 => by simp
  | x :: L, i + 1 => by
    rw [List.take_succ_cons, List.flatMap_cons, List.flatMap_cons, List.length_append, List.length_append]
    have := take_len f L i
    omega
theorem cr_sum2 (hc : X.calm = true) (hK : X.K = G.K) : CallR X (.builtin "sum") (rSum2 G) := by
  intro pins s σ H vs us Q I r h
  obtain ⟨l, b, xs, ds, dss, B, rfl, hl, hb, hle, rx, ed, hz, q0, q1⟩ := h
  obtain ⟨u, u2, rfl, ru, ru2⟩ := r.two
  cases ru
  cases ru2
  obtain ⟨L, rfl, rfl, hL⟩ := ls_all I hle rx ed
  rw [← hK] at hl
  obtain ⟨its, rv, pl, _⟩ := I.list hl
  have eits : its = (L.map (·.a)).map Value.ref := by
    have : ∀ {L : List LsR} {its : List Value}, Vals (L.map fun x => V.ref x.a) its → its = (L.map (·.a)).map Value.ref := fun {L} => by
      induction L with
      | nil => intro its r; cases r; rfl
      | cons x L ih =>
        intro its r
        cases r with
        | cons r t => cases r; rw [ih t]; rfl
    exact this rv
  subst eits
  obtain ⟨itb, nb, rb, eb, _⟩ := I.lst hb
  cases rb
  obtain ⟨fv, fr⟩ := flat_vals hL
  have flen : (L.flatMap (·.its)).length ≤ 16777216 := by rw [← fv.length, fr.length]; exact hz
  refine call_sumL (f := fL L) (I.ok.hd hc) pl.isList ⟨nb, eb⟩ (fun j a e => ?_) (fun i hi => ?_) (fun h' tk hn k => ?_) fun S I0 h1 h' tk hn hS hI0 k1 k2 hl' => ?_
  · rw [List.getElem?_map] at e
    cases q : L[j]? with
    | none => rw [q] at e; cases e
    | some x =>
      rw [q] at e
      cases e
      rw [fL, q]
      exact (hL x (List.mem_of_getElem? q)).at_
  · rw [accL_eq L i (by simpa using hi), List.size_toArray]
    exact Nat.le_trans (take_len _ L i) flen
  · have e : L = [] := by simpa using hn
    subst e
    exact ⟨.ref b, H, I.kept k, rfl, q0 rfl⟩
  · have I1 : Inv X pins σ H { s with heap := h1 } := I.kept (t' := s.toks) k1
    obtain ⟨n, e⟩ := hl'
    rw [List.length_map, accL_eq L L.length (Nat.le_refl _), List.take_length] at e
    have hf : ∀ c ∈ [S, I0], FpOk X pins H c := fun c hc => by
      have hle : s.heap.objs.size ≤ c := by
        rcases List.mem_cons.mp hc with rfl | hc
        · exact hS
        · rw [List.mem_singleton.mp hc]; exact hI0
      exact I.fpOk hle (I.hok.fresh hle)
    refine ⟨.ref h1.objs.size, upd H h1.objs.size (.lst (L.flatMap (·.vs))), I1.turnedNew (t' := tk) (ch := [S, I0]) k2 hf (Nat.le_refl _) ⟨by rw [fr.length]; exact hz, _, n, fv, e⟩, rfl, q1 _ _ (I1.hok.fresh (Nat.le_refl _)) fr⟩
def sum2E : Option (List D × Env) → Res S
  | some ([.lst ds, .lst []], e) => (match lsts ds with
    | some dss => if dss.flatten.length ≤ 16777216 then .ok (.sh (.lst dss.flatten)) e else .bad
    | none => .bad)
  | _ => .bad
def dSum2 (fs : List Den) : Den := fun env => (dargs fs env).bind fun ss e => sum2E (escs e ss)
theorem Rep.lst_inv {B : Hp} {v : V} {ds : List D} (h : Rep G B v (.lst ds)) : ∃ a l, v = V.ref a ∧ B a = some (.lst l) ∧ Reps G B l ds := by
  cases h with
  | lst h1 h2 => exact ⟨_, _, rfl, h1, h2⟩
theorem de_sum2 {a b : Expr} {p pos : Pos} {fs : List Den} (hc : X.calm = true) (hg : Gl X "sum") (hm : X.mg "sum" = none) (ha : PA X [a, b] (tA G W (dargs fs))) (hK : X.K = G.K := by rfl) (he : starEach [a, b] X.env = (false, eval a X.env) :: starEach [b] X.env := by rfl)
    (hpl : (backTo pos (starEach [b] X.env)).any (·.1) = false := by rfl) : PE X (.Call (.Name "sum" p) [a, b] [] pos) (tD G W (dSum2 fs)) := by
  refine peImp (pe_callB (cr_sum2 (G := G) hc hK) hg hm PyProof.Rows.boot_sum ha (he := he) (hpl := hpl)) fun σ H Q ⟨F, ts, env, h, q⟩ => ?_
  rw [dSum2, Res.wp_bind] at q
  refine tA.mk h (Res.wp_mono q (fun ss e q vs H1 hl h1 => ?_) fun _ _ z => z)
  obtain ⟨w, h1⟩ := h1
  obtain ⟨z1, z2⟩ := zipL hl
  cases ee : escs e ss with
  | none => rw [ee] at q; exact q.elim
  | some p =>
    obtain ⟨as, e'⟩ := p
    rw [ee] at q
    obtain ⟨w2, h2, _, rs⟩ := h1.escs (us := vs.zip ss) (by rw [z2]; exact ee)
    rw [z1] at rs
    have h3 := h2.drop
    unfold sum2E at q
    split at q
    case h_2 => exact q.elim
    rename_i ds e0 eq
    cases eq
    cases rs with
    | cons r1 rs =>
    cases rs with
    | cons r2 rs =>
    cases rs
    split at q
    case h_2 => exact q.elim
    rename_i dss ed
    split at q
    case isFalse => exact q.elim
    rename_i hz
    obtain ⟨a1, l1, e1, l2, l3⟩ := r1.lst_inv
    obtain ⟨a2, l0, e2, b1, b2⟩ := r2.lst_inv
    cases b2
    subst e1 e2
    refine ⟨_, _, _, ds, dss, hide H1 w2, rfl, SqL.of (hide_le.at nt_lst nd_lst l2), hide_le.at nt_lst nd_lst b1, hide_le, l3, ed, hz, fun e0 => ?_, fun ys p hp r => ?_⟩
    · subst e0
      exact q _ H1 ⟨w2, h3.pushSh (.lst b1 .nil)⟩
    · exact q _ _ (Rel.out (B := H) h3 (Out.newSh hp (.lst r)))
end
end T

/-! TZip: list(zip(l1, l2)), both lists. -/
namespace T
open PySem PySem.Spec PyProof.Rows L2
abbrev IsPr (h : Heap) (T : Addr) (x y : Value) : Prop := h.get? T = some { cls := .type "tuple", data := .seq #[x, y] }
def ZSt (z TI TO i1 i2 l1 l2 S : Addr) (xs ys : Array Value) (i : Nat) (h : Heap) : Prop :=
  IsPr h TI (.ref i1) (.ref i2) ∧ h.IsListIter i1 l1 i ∧ h.IsListIter i2 l2 i ∧ h.IsList l1 xs ∧ h.IsList l2 ys ∧
    ((IsZip h z TI TO .none ∧ ∃ a b, IsPr h TO a b) ∨ ∃ T f oT, IsZipHeld h z TI TO T f ∧ h.get? T = some oT ∧ T ≠ z ∧ T ≠ i1 ∧ T ≠ i2 ∧ T ≠ S)
structure TsOk (S z TO i1 i2 : Addr) (base : Nat) (xs ys : Array Value) (h : Heap) (Ts : List Addr) (i : Nat) : Prop where
  len : Ts.length = i
  nd : Ts.Nodup
  ap : ∀ T ∈ Ts, T ∉ [S, z, TO, i1, i2] ∧ base ≤ T
  at_ : ∀ (j : Nat) (T : Addr), Ts[j]? = some T → ∃ x y, xs[j]? = some x ∧ ys[j]? = some y ∧ IsPr h T x y
theorem TsOk.keep {S z TO i1 i2 : Addr} {base : Nat} {xs ys : Array Value} {h h' : Heap} {Ts : List Addr} {i : Nat} (t : TsOk S z TO i1 i2 base xs ys h Ts i) (k : ∀ b o, b ∉ [S, z, TO, i1, i2] → h.get? b = some o → h'.get? b = some o) : TsOk S z TO i1 i2 base xs ys h' Ts i :=
  ⟨t.len, t.nd, t.ap, fun j T e => let ⟨x, y, a, b, c⟩ := t.at_ j T e; ⟨x, y, a, b, k _ _ (t.ap T (List.mem_of_getElem? e)).1 c⟩⟩
theorem TsOk.push {S z TO i1 i2 T : Addr} {base : Nat} {xs ys : Array Value} {h : Heap} {Ts : List Addr} {i : Nat} {x y : Value} (t : TsOk S z TO i1 i2 base xs ys h Ts i) (hT : T ∉ [S, z, TO, i1, i2]) (hb : base ≤ T) (hn : T ∉ Ts) (ex : xs[i]? = some x) (ey : ys[i]? = some y) (p : IsPr h T x y) : TsOk S z TO i1 i2 base xs ys h (Ts ++ [T]) (i + 1) := by
  refine ⟨by rw [List.length_append, t.len]; rfl, ?_, fun U hU => ?_, fun j U e => ?_⟩
  · rw [List.nodup_append]
    exact ⟨t.nd, by simp, fun a ha b hb e => hn (by rw [List.mem_singleton.mp hb] at e; rw [← e]; exact ha)⟩
  · rcases List.mem_append.mp hU with hU | hU
    · exact t.ap U hU
    · rw [List.mem_singleton.mp hU]; exact ⟨hT, hb⟩
  · by_cases hj : j < Ts.length
    · rw [List.getElem?_append_left hj] at e
      exact t.at_ j U e
    · rw [List.getElem?_append_right (Nat.le_of_not_lt hj)] at e
      cases q : j - Ts.length with
      | succ m => rw [q] at e; cases e
      | zero =>
        rw [q] at e
        cases e
        have hji : j = i := by have := t.len; omega
        rw [hji]
        exact ⟨x, y, ex, ey, p⟩
section
variable {prog : Program} {w : World} {A : Around} {R : Result → Shared → Prop} {z TI TO i1 i2 l1 l2 S : Addr} {xs ys : Array Value} {n : Nat}
theorem zip_loop (hh : A.handled = none) (D : ZipApart z TI TO i1 i2 l1 l2) (s1 : S ≠ z) (s2 : S ≠ TI) (s3 : S ≠ TO) (s4 : S ≠ i1) (s5 : S ≠ i2) (s6 : S ≠ l1) (s7 : S ≠ l2) (hnm : n = min xs.size ys.size) (hn : n ≤ sizeLine) (res : Value) (base : Nat) (hTOb : TO < base) :
    ∀ (k i : Nat) (s : Shared) (Ts : List Addr) (c : Nat), n - i = k → i ≤ n → base ≤ s.heap.objs.size → ZSt z TI TO i1 i2 l1 l2 S xs ys i s.heap → s.heap.get? S = some { cls := .type "list", dict := none, data := .seq (Ts.map Value.ref).toArray c, slots := #[] } → TsOk S z TO i1 i2 base xs ys s.heap Ts i →
    (∀ (h' : Heap) (tk : Nat) (Ts' : List Addr) (c' : Nat), (∀ b o, b ∉ [S, z, TO, i1, i2] → s.heap.get? b = some o → h'.get? b = some o) → h'.get? S = some { cls := .type "list", dict := none, data := .seq (Ts'.map Value.ref).toArray c', slots := #[] } → TsOk S z TO i1 i2 base xs ys h' Ts' n → R (.ok (.ret res)) { s with heap := h', toks := tk }) →
    codeAny (model prog w) A (.builtin "list.extend.loop" ⟨[.ref S, .ref z, res], []⟩) R s := by
  intro k
  induction k with
  | zero =>
    intro i s Ts c hk hi hb st hS ht hR
    have hin : i = n := by omega
    refine codeAny_builtin F.entry_extend_loop ?_
    rw [Around.under_plainId F.plain_extend_loop _]
    show wpAny _ A.in1 (pyNext (.ref z) >>= _) _ _ s
    obtain ⟨hTI, h1, h2, hl1, hl2, hz⟩ := st
    have hend : xs[i]? = none ∨ ys[i]? = none := by
      rcases Nat.le_total xs.size ys.size with h | h
      · exact .inl (Array.getElem?_eq_none (by omega))
      · exact .inr (Array.getElem?_eq_none (by omega))
    have fin : ∀ (h' : Heap), (∀ b o, b ∉ [S, z, TO, i1, i2] → s.heap.get? b = some o → h'.get? b = some o) → h'.get? S = some { cls := .type "list", dict := none, data := .seq (Ts.map Value.ref).toArray c, slots := #[] } → R (.ok (.ret res)) { s with heap := h', toks := s.toks } := fun h' k e =>
      hR h' s.toks Ts c k e (by rw [← hin]; exact ht.keep k)
    rcases hz with ⟨hz, a, b, hTO⟩ | ⟨T, f, oT, hz, hT, r1, r2, r3, r4⟩
    · exact wpAny_bind (wpAny_pyNext_zip_end (A := A.in1) hh D hz hTI hTO h1 h2 hl1 hl2 hend fun h' hk => wpAny_pure (fin h' (fun c o hc e => hk c o (fun x => hc (by simp [x])) (fun x => hc (by simp [x])) (fun x => hc (by simp [x])) (fun x => hc (by simp [x])) e) (hk S _ s1 s3 s4 s5 hS)))
    · exact wpAny_bind (wpAny_pyNext_zip_end_held (A := A.in1) hh D hz hT hTI h1 h2 hl1 hl2 hend fun h' hk => wpAny_pure (fin h' (fun c o hc e => hk c o (fun x => hc (by simp [x])) (fun x => hc (by simp [x])) (fun x => hc (by simp [x])) e) (hk S _ s1 s4 s5 hS)))
  | succ k ih =>
    intro i s Ts c hk hi hb st hS ht hR
    have hlt : i < n := by omega
    refine codeAny_builtin F.entry_extend_loop ?_
    rw [Around.under_plainId F.plain_extend_loop _]
    show wpAny _ A.in1 (pyNext (.ref z) >>= _) _ _ s
    obtain ⟨hTI, h1, h2, hl1, hl2, hz⟩ := st
    have hix : i < xs.size := by omega
    have hiy : i < ys.size := by omega
    have ex := Array.getElem?_eq_getElem hix
    have ey := Array.getElem?_eq_getElem hiy
    have lt : ∀ {c o}, s.heap.get? c = some o → s.heap.objs.size ≠ c := fun e => Nat.ne_of_gt (Heap.lt_size e)
    have n1 : s.heap.objs.size ≠ i1 := let ⟨_, e, _⟩ := h1; lt e
    have n2 : s.heap.objs.size ≠ i2 := let ⟨_, e, _⟩ := h2; lt e
    have nS : s.heap.objs.size ≠ S := lt hS
    -- behind an item
    have fin : ∀ (h' : Heap), h'.objs.size = s.heap.objs.size + 1 → (∀ b o, b ∉ [S, z, TO, i1, i2] → s.heap.get? b = some o → h'.get? b = some o) → h'.get? S = some { cls := .type "list", dict := none, data := .seq (Ts.map Value.ref).toArray c, slots := #[] } → IsPr h' s.heap.objs.size xs[i] ys[i] →
        (s.heap.objs.size ≠ z) → (s.heap.objs.size ≠ TO) → (∀ g : Heap, (∀ b o, b ≠ S → h'.get? b = some o → g.get? b = some o) → ZSt z TI TO i1 i2 l1 l2 S xs ys (i + 1) g) →
        wpAny (model prog w) A.in1 (updateSeq S (·.push (.ref s.heap.objs.size)) >>= fun _ => pure (PySem.Fin.again (.builtin "list.extend.loop" ⟨[.ref S, .ref z, res], []⟩))) (fun fin s' => match fin with | PySem.Fin.done f => R (.ok f) s' | PySem.Fin.again c' => c'.quiet = true ∧ codeAny (model prog w) A c' R s') (fun e s' => R (.error e) s') { s with heap := h' } := fun h' hsz hk hS' hp nz nTO hst => by
      have hTs := ht.keep hk
      have nTs : s.heap.objs.size ∉ Ts := fun hm => by
        obtain ⟨j, hj⟩ := List.getElem?_of_mem hm
        obtain ⟨x, y, _, _, p⟩ := ht.at_ j _ hj
        exact lt p rfl
      have nAp : s.heap.objs.size ∉ [S, z, TO, i1, i2] := by simp [nS, nz, nTO, n1, n2]
      refine wpAny_bind ?_
      refine wpAny_updateSeq hS' rfl (wpAny_pure ⟨plainId_quiet F.plain_extend_loop _, ih (i + 1) _ (Ts ++ [s.heap.objs.size]) (c + 1) (by omega) hlt ?_ (hst _ fun b o hb e => (Heap.get?_update_other _ _ (Ne.symm hb)).trans e) ?_ ?_ fun h'' tk'' Ts' c' hk'' hS'' ht'' => ?_⟩) ?_ ?_
      · rw [Heap.size_update, hsz]
        exact Nat.le_succ_of_le hb
      · rw [Heap.get?_update_self _ hS' rfl]
        simp [Obj.mapSeq]
      · exact (hTs.keep fun b o hb e => (Heap.get?_update_other _ _ (fun q => hb (by rw [← q]; exact List.mem_cons_self))).trans e).push nAp hb nTs ex ey ((Heap.get?_update_other _ _ (Ne.symm nS)).trans hp)
      · exact hR h'' tk'' Ts' c' (fun b o hb e => hk'' b o hb ((Heap.get?_update_other _ _ (fun q => hb (by rw [← q]; exact List.mem_cons_self))).trans (hk b o hb e))) hS'' ht''
      · rw [List.size_toArray, List.length_map, ht.len]
        omega
      · show ((Ts.map Value.ref).toArray.push _).size ≤ sizeLine + 1
        rw [Array.size_push, List.size_toArray, List.length_map, ht.len]
        omega
    rcases hz with ⟨hz, a, b, hTO⟩ | ⟨T, f, oT, hz, hT, r1, r2, r3, r4⟩
    · refine wpAny_bind (wpAny_pyNext_zip_item (A := A.in1) D hz hTI hTO h1 h2 hl1 hl2 ex ey fun h' a1 a2 a3 a4 a5 a6 hk => ?_)
      refine fin h' a6 (fun c o hc e => hk c o (fun x => hc (by simp [x])) (fun x => hc (by simp [x])) (fun x => hc (by simp [x])) (fun x => hc (by simp [x])) e) (hk S _ s1 s3 s4 s5 hS) a5 (lt hz) (lt hTO) fun g kg => ?_
      exact ⟨kg _ _ (Ne.symm s2) (hk _ _ D.TIz D.TITO D.TIi1 D.TIi2 hTI), a3.at fun o e => kg _ o (Ne.symm s4) e, a4.at fun o e => kg _ o (Ne.symm s5) e, hl1.at fun o e => kg _ o (Ne.symm s6) (hk _ o D.l1z D.l1TO D.l1i1 D.l1i2 e), hl2.at fun o e => kg _ o (Ne.symm s7) (hk _ o D.l2z D.l2TO D.l2i1 D.l2i2 e),
        .inr ⟨s.heap.objs.size, false, _, kg _ _ (Ne.symm s1) a1, kg _ _ nS a5, lt hz, n1, n2, nS⟩⟩
    · refine wpAny_bind (wpAny_pyNext_zip_item_held (A := A.in1) D hz hT hTI h1 h2 hl1 hl2 ex ey fun h' a1 a3 a4 a5 a6 hk => ?_)
      have nTO : s.heap.objs.size ≠ TO := Nat.ne_of_gt (Nat.lt_of_lt_of_le hTOb hb)
      refine fin h' a6 (fun c o hc e => hk c o (fun x => hc (by simp [x])) (fun x => hc (by simp [x])) (fun x => hc (by simp [x])) e) (hk S _ s1 s4 s5 hS) a5 (lt hz) nTO fun g kg => ?_
      exact ⟨kg _ _ (Ne.symm s2) (hk _ _ D.TIz D.TIi1 D.TIi2 hTI), a3.at fun o e => kg _ o (Ne.symm s4) e, a4.at fun o e => kg _ o (Ne.symm s5) e, hl1.at fun o e => kg _ o (Ne.symm s6) (hk _ o D.l1z D.l1i1 D.l1i2 e), hl2.at fun o e => kg _ o (Ne.symm s7) (hk _ o D.l2z D.l2i1 D.l2i2 e),
        .inr ⟨T, true, oT, kg _ _ (Ne.symm s1) a1, kg _ _ r4 (hk _ _ r1 r2 r3 hT), r1, r2, r3, r4⟩⟩
end
theorem zip_no_len : typeLookup (.type "zip") "__len__" = pure none := by rw [typeLookup_type, builtinLookup_eq_fast]; kernel_rfl
theorem zip_no_hint : typeLookup (.type "zip") "__length_hint__" = pure none := by rw [typeLookup_type, builtinLookup_eq_fast]; kernel_rfl
section
variable {prog : Program} {w : World} {A : Around} {E : Value → Shared → Prop} {s : Shared} {z TI TO i1 i2 l1 l2 S : Addr} {xs ys : Array Value} {n : Nat}
theorem zip_hint {Q : Bool → Shared → Prop} (hT : s.TypeIs (.ref z) "zip") (h : Q true s) : wpAny (model prog w) A (Builtin.List.listLengthHint (.ref z)) Q E s := by
  unfold Builtin.List.listLengthHint
  refine wpAny_bind (wpAny_specialOf hT zip_no_len ?_)
  dsimp only
  refine wpAny_bind (wpAny_specialOf hT zip_no_hint ?_)
  exact wpAny_pure h
theorem call_list_zip {Q : Value → Shared → Prop} (hh : A.handled = none) (D : ZipApart z TI TO i1 i2 l1 l2) (hz : IsZip s.heap z TI TO .none) (hTI : IsPr s.heap TI (.ref i1) (.ref i2)) (hTO : ∃ a b, IsPr s.heap TO a b) (h1 : s.heap.IsListIter i1 l1 0) (h2 : s.heap.IsListIter i2 l2 0) (hl1 : s.heap.IsList l1 xs) (hl2 : s.heap.IsList l2 ys)
    (hnm : n = min xs.size ys.size) (hn : n ≤ sizeLine)
    (hQ : ∀ (S : Addr) (h' : Heap) (tk : Nat) (Ts : List Addr) (c' : Nat), s.heap.objs.size = S → (∀ b o, b ∉ [S, z, TO, i1, i2] → s.heap.get? b = some o → h'.get? b = some o) → h'.get? S = some { cls := .type "list", dict := none, data := .seq (Ts.map Value.ref).toArray c', slots := #[] } → TsOk S z TO i1 i2 s.heap.objs.size xs ys h' Ts n → Q (.ref S) { s with heap := h', toks := tk }) :
    wpAny (model prog w) A (call (.type "list") [.ref z]) Q E s := by
  refine callType_codes (Q₁ := fun obj s₁ => obj = .ref s.heap.objs.size ∧ s₁ = { s with heap := s.heap.push { cls := .type "list", data := .seq #[] } }) PySem.F.called_list (PySem.F.typeCall_list_1 _) PySem.F.entry_list_init
    (code_list_new _ ⟨rfl, rfl⟩) fun obj s₁ h₁ => ?_
  obtain ⟨rfl, rfl⟩ := h₁
  have lt : ∀ {c o}, s.heap.get? c = some o → s.heap.objs.size ≠ c := fun e => Nat.ne_of_gt (Heap.lt_size e)
  obtain ⟨ta, tb, hTO⟩ := hTO
  have s1 := lt hz
  have s2 := lt hTI
  have s3 := lt hTO
  have s4 : s.heap.objs.size ≠ i1 := let ⟨_, e, _⟩ := h1; lt e
  have s5 : s.heap.objs.size ≠ i2 := let ⟨_, e, _⟩ := h2; lt e
  have s6 : s.heap.objs.size ≠ l1 := let ⟨_, e, _⟩ := hl1; lt e
  have s7 : s.heap.objs.size ≠ l2 := let ⟨_, e, _⟩ := hl2; lt e
  have hS : (s.heap.push { cls := .type "list", data := .seq #[] }).get? s.heap.objs.size = some { cls := .type "list", data := .seq #[] } := Heap.get?_push_size _ rfl
  refine ⟨⟨_, hS, rfl⟩, PySem.F.args_list_init_2 _ _, ?_⟩
  show wpAny _ _ (do let old ← Builtin.List.listItems (.ref s.heap.objs.size); Builtin.List.listUpdate (.ref s.heap.objs.size) (fun _ => #[]); letGo old.toList.reverse; Builtin.List.listExtendWith (.ref s.heap.objs.size) (.ref z) .none) _ _ _
  refine wpAny_bind ?_
  unfold Builtin.List.listItems
  refine wpAny_bind (wpAny_seqItems hS rfl (wpAny_pure ?_))
  show wpAny _ _ (updateSeq s.heap.objs.size (fun _ => #[]) >>= fun _ => letGo (#[] : Array Value).toList.reverse >>= fun _ => Builtin.List.listExtendWith (.ref s.heap.objs.size) (.ref z) .none) _ _ _
  refine wpAny_bind (wpAny_updateSeq hS rfl ?_)
  have hS₂ := Heap.get?_update_self (Obj.mapSeq (fun _ => (#[] : Array Value))) hS rfl
  have k1 : ∀ b o, s.heap.get? b = some o → ((s.heap.push { cls := .type "list", data := .seq #[] }).update s.heap.objs.size (Obj.mapSeq (fun _ => (#[] : Array Value)))).get? b = some o :=
    fun b o e => (Heap.get?_update_other _ _ (lt e)).trans (Heap.get?_push_of_some _ e)
  refine wpAny_bind (wpAny_letGo ?_)
  unfold Builtin.List.listExtendWith
  refine wpAny_bind (wpAny_typeOf (T := "zip") ⟨_, k1 _ _ hz, rfl⟩ ?_)
  have g1 : Builtin.List.listSameRef (.ref s.heap.objs.size) (.ref z) = false := by simp [Builtin.List.listSameRef, s1]
  have g2 : (Value.type "zip" == Value.type "list") = false := by decide
  have g3 : (Value.type "zip" == Value.type "tuple") = false := by decide
  simp only [g1, g2, g3, Bool.or_false, Bool.false_eq_true, if_false]
  refine wpAny_bind (wpAny_pyIter_zip (k1 _ _ hz) ?_)
  refine wpAny_bind (wpAny_holding (zip_hint ⟨_, k1 _ _ hz, rfl⟩ ?_))
  simp only [Bool.true_or, if_true]
  refine wpAny_bind (wpAny_rule ?_)
  refine wpAny_bind ?_
  show wpAny _ _ (updateSeq s.heap.objs.size (·.push .none) >>= fun _ => updateSeq s.heap.objs.size (·.pop)) _ _ _
  refine wpAny_bind (wpAny_updateSeq hS₂ rfl ?_)
  have hS₃ := Heap.get?_update_self (Obj.mapSeq (·.push Value.none)) hS₂ rfl
  refine wpAny_updateSeq (hz := by seq_fits) hS₃ rfl ?_
  have hS₄ := Heap.get?_update_self (Obj.mapSeq (·.pop)) hS₃ rfl
  have k2 : ∀ b o, s.heap.get? b = some o → (((((s.heap.push { cls := .type "list", data := .seq #[] }).update s.heap.objs.size (Obj.mapSeq (fun _ => (#[] : Array Value)))).update s.heap.objs.size (Obj.mapSeq (·.push Value.none))).update s.heap.objs.size (Obj.mapSeq (·.pop)))).get? b = some o :=
    fun b o e => (Heap.get?_update_other _ _ (lt e)).trans ((Heap.get?_update_other _ _ (lt e)).trans (k1 b o e))
  refine wpAny_pure ⟨plainId_quiet PySem.F.plain_extend_loop _, zip_loop (A := A.in1) hh D s1 s2 s3 s4 s5 s6 s7 hnm hn .none s.heap.objs.size (Heap.lt_size hTO) n 0 _ [] _ rfl (Nat.zero_le _) ?_ ⟨k2 _ _ hTI, h1.at fun o e => k2 _ o e, h2.at fun o e => k2 _ o e, hl1.at fun o e => k2 _ o e, hl2.at fun o e => k2 _ o e, .inl ⟨k2 _ _ hz, ta, tb, k2 _ _ hTO⟩⟩ hS₄ ⟨rfl, List.nodup_nil, (fun T h => nomatch h), (fun j T h => nomatch h)⟩ fun h' tk Ts c' k e t => ?_⟩
  · simp only [Heap.size_update, Heap.size_push]
    exact Nat.le_succ _
  · exact ⟨rfl, hQ s.heap.objs.size h' tk Ts c' rfl (fun b o hb e' => k b o hb (k2 b o e')) e t⟩
end
end T
namespace T
open PySem PySem.Spec PyProof.Rows L2
def updTs (H : Hp) (f : Addr → HO) (Ts : List Addr) : Hp := fun a => if a ∈ Ts then some (f a) else H a
theorem updTs_of {H : Hp} {f : Addr → HO} {Ts : List Addr} {a : Addr} (h : a ∈ Ts) : updTs H f Ts a = some (f a) := if_pos h
theorem updTs_ne {H : Hp} {f : Addr → HO} {Ts : List Addr} {a : Addr} (h : a ∉ Ts) : updTs H f Ts a = H a := if_neg h
section
variable {X : Cx} {pins : List (Addr × Obj)} {σ : L2.St} {H : Hp} {s : Shared}
/-- many new objects at once -/
theorem Inv.many {h' : Heap} {t' : Nat} {f : Addr → HO} : ∀ {Ts : List Addr}, Inv X pins σ H s → (∀ b u, s.heap.get? b = some u → h'.get? b = some u) → (∀ T ∈ Ts, s.heap.objs.size ≤ T) → Ts.Nodup → (∀ T ∈ Ts, ∀ H', ObjOk X.prog X.w H' h' T (f T)) → Inv X pins σ (updTs H f Ts) { s with heap := h', toks := t' } := by
  intro Ts I k hs nd ok
  have old : ∀ b u, s.heap.get? b = some u → b ∉ Ts := fun b u e hm => absurd (Heap.lt_size e) (Nat.not_lt.mpr (hs b hm))
  have oldH : ∀ b u, H b = some u → b ∉ Ts := fun b u e hm => by
    have z := I.hok.fresh (hs b hm)
    rw [z] at e
    cases e
  refine I.un ⟨fun b o e _ _ _ => k b o e, fun b o e _ _ _ => ⟨o.slots, k b o e⟩, fun b o e n _ => by rw [updTs_ne (old b o e)]; exact n, fun b o e _ => ⟨o, k b o e⟩, fun b xs e => by rw [updTs_ne (oldH b _ e)]; exact e, fun b o u e => by rw [updTs_ne (oldH b _ e)]; exact e, fun b ps e => ⟨#[], by rw [updTs_ne (oldH b _ e), e]; simp⟩⟩ ?_
  have key : ∀ {Us : List Addr}, (∀ T ∈ Us, T ∈ Ts) → Us.Nodup → HOk X.prog X.w (updTs H f Us) h' := by
    intro Us
    induction Us with
    | nil =>
      intro _ _
      have e : updTs H f [] = H := by
        funext a
        exact updTs_ne (fun z => nomatch z)
      rw [e]
      exact I.hok.kept k
    | cons T Us ih =>
      intro hsub nd
      have nd2 := List.nodup_cons.mp nd
      have e : updTs H f (T :: Us) = upd (updTs H f Us) T (f T) := by
        funext a
        by_cases ha : a = T
        · rw [ha, updTs_of List.mem_cons_self, upd_same]
        · rw [upd_ne ha]
          by_cases hu : a ∈ Us
          · rw [updTs_of hu, updTs_of (List.mem_cons_of_mem _ hu)]
          · rw [updTs_ne hu, updTs_ne (fun z => (List.mem_cons.mp z).elim ha hu)]
      rw [e]
      refine (ih (fun T h => hsub T (List.mem_cons_of_mem _ h)) nd2.2).laidN (fun b u q => q) ?_ (ok T (hsub T List.mem_cons_self) _)
      rw [updTs_ne nd2.1]
      exact I.hok.fresh (hs T (hsub T List.mem_cons_self))
  exact key (fun _ h => h) nd
end
end T
namespace T
open PySem PySem.Spec PyProof.Rows L2
def TupsAt (f : Addr → HO) (xs ys : List V) (Ts : List Addr) : Prop := Ts.length = min xs.length ys.length ∧ ∀ (j : Nat) (T : Addr), Ts[j]? = some T → ∃ x y o, xs[j]? = some x ∧ ys[j]? = some y ∧ f T = .frz o (.tup [x, y]) ∧ o.dict = none
def tLZ (K : PySem.W.Frag) (ta : TA) : TE := fun σ H Q => ta σ H fun vs H1 => ∃ l1 l2 xs ys, vs = [.ref l1, .ref l2] ∧ SqL K H1 l1 xs ∧ SqL K H1 l2 ys ∧
  ∀ (f : Addr → HO) (Ts : List Addr) (p : Addr), TupsAt f xs ys Ts → (∀ T ∈ Ts, H1 T = none) → p ∉ Ts → H1 p = none → Q (.ref p) (upd (updTs H1 f Ts) p (.lst (Ts.map V.ref)))
theorem Vals.getV : ∀ {xs : List V} {us : List Value} {i : Nat} {u : Value}, Vals xs us → us[i]? = some u → ∃ x, xs[i]? = some x ∧ RelV x u
  | _, _, _, _, .nil, h => nomatch h
  | _, _, 0, _, .cons r _, h => by cases h; exact ⟨_, rfl, r⟩
  | _, _, i + 1, _, .cons _ t, h => Vals.getV (i := i) t h
theorem vals_refs : ∀ Ts : List Addr, Vals (Ts.map V.ref) (Ts.map Value.ref)
  | [] => .nil
  | _ :: r => .cons rfl (vals_refs r)
section
variable {X : Cx} {G : Gh} {F : Fr} {W : WX} {w : Addr → Option Nat} {σ : L2.St} {H : Hp} {env : Env} {ts : List (V × S)}
theorem pe_listZip {a b : Expr} {ta : TA} {p p2 pos pos2 : Pos} (hc : X.calm = true) (hg : Gl X "list") (hm : X.mg "list" = none) (hgz : Gl X "zip") (hmz : X.mg "zip" = none) (ha : PA X [a, b] ta) (hs : starEach [a, b] X.env = (false, eval a X.env) :: starEach [b] X.env := by rfl) (hpl : (backTo pos2 (starEach [b] X.env)).any (·.1) = false := by rfl)
    (na : starEach [.Call (.Name "zip" p2) [a, b] [] pos2] X.env = (false, eval (.Call (.Name "zip" p2) [a, b] [] pos2) X.env) :: starEach [] X.env := by rfl) :
    PE X (.Call (.Name "list" p) [.Call (.Name "zip" p2) [a, b] [] pos2] [] pos) (tLZ X.K ta) := by
  refine ⟨fun pins s σ H Q I h => ?_⟩
  have inner : wpAny (model X.prog X.w) X.A (eval (.Call (.Name "zip" p2) [a, b] [] pos2) X.env) (fun v s1 => wpAny (model X.prog X.w) X.A (call (.type "list") [v]) (EP X pins σ Q) X.xe s1) X.xe s := by
    refine Call_ (ld_blt I hgz hmz PyProof.Rows.boot_zip (PyProof.Rows.callWith_type1 (thn (ha.run pos2 pins s σ H _ I h) fun us s1 ⟨vs, H1, I1, r1, l1, l2, xs, ys, ev, hq1, hq2, q⟩ => ?_) hs hpl))
    subst ev
    obtain ⟨u, u2, rfl, ru, ru2⟩ := r1.two
    cases ru
    cases ru2
    obtain ⟨its, rv, pl1, z1⟩ := I1.list hq1
    obtain ⟨its2, rv2, pl2, z2⟩ := I1.list hq2
    refine call_zip_2 pl1.isList pl2.isList fun h' hz hTI hTO h1 h2 hsz hk => ?_
    have I2 : Inv X pins σ H1 { s1 with heap := h' } := I1.kept (t' := s1.toks) hk
    have D := PySem.W.ktu_apart s1.heap.objs.size l1 l2 pl1.lt pl2.lt
    have e1 := rv.length
    have e2 := rv2.length
    refine call_list_zip (s := { s1 with heap := h' }) (n := min xs.length ys.length) (I1.ok.hd hc) D hz hTI ⟨_, _, hTO⟩ h1 h2 (pl1.isList.at fun o e => hk _ o e) (pl2.isList.at fun o e => hk _ o e) (by rw [List.size_toArray, List.size_toArray, e1, e2]) (by omega) fun S h'' tk Ts c' hS k e t => ?_
    subst hS
    have ap : ∀ b o, s1.heap.get? b = some o → b ∉ [h'.objs.size, s1.heap.objs.size + 4, s1.heap.objs.size + 3, s1.heap.objs.size, s1.heap.objs.size + 1] := fun b o q hm => by
      have hlt := Heap.lt_size q
      have hlt2 : b < h'.objs.size := Heap.lt_size (hk b o q)
      simp only [List.mem_cons, List.not_mem_nil, or_false] at hm
      rcases hm with z | z | z | z | z
      · rw [z] at hlt2; exact Nat.lt_irrefl _ hlt2
      · rw [z] at hlt; exact absurd hlt (Nat.not_lt.mpr (Nat.le_add_right _ _))
      · rw [z] at hlt; exact absurd hlt (Nat.not_lt.mpr (Nat.le_add_right _ _))
      · rw [z] at hlt; exact Nat.lt_irrefl _ hlt
      · rw [z] at hlt; exact absurd hlt (Nat.not_lt.mpr (Nat.le_add_right _ _))
    have k3 : ∀ b o, s1.heap.get? b = some o → h''.get? b = some o := fun b o q => k b o (ap b o q) (hk b o q)
    have hbig : s1.heap.objs.size ≤ h'.objs.size := by
      have z : h'.objs.size = s1.heap.objs.size + 5 := hsz
      rw [z]
      exact Nat.le_add_right _ _
    have hTs : ∀ T ∈ Ts, s1.heap.objs.size ≤ T := fun T hT => Nat.le_trans hbig (t.ap T hT).2
    have hpn : h'.objs.size ∉ Ts := fun hm => (t.ap _ hm).1 List.mem_cons_self
    -- the pairs, by their addresses
    let oB : Addr → Obj := fun T => (h''.get? T).getD { cls := .none, data := .fields #[] }
    let idx : Addr → Nat := fun T => Ts.idxOf T
    let f : Addr → HO := fun T => .frz (oB T) (.tup [(xs[idx T]?).getD .non, (ys[idx T]?).getD .non])
    have fat : ∀ (j : Nat) (T : Addr), Ts[j]? = some T → ∃ x y u v, xs[j]? = some x ∧ ys[j]? = some y ∧ RelV x u ∧ RelV y v ∧ h''.get? T = some { cls := .type "tuple", data := .seq #[u, v] } ∧ f T = .frz { cls := .type "tuple", data := .seq #[u, v] } (.tup [x, y]) := fun j T hj => by
      obtain ⟨u, v, eu, ev, hp⟩ := t.at_ j T hj
      have hjl : j < Ts.length := (List.getElem?_eq_some_iff.mp hj).1
      rw [List.getElem?_toArray] at eu ev
      obtain ⟨x, hx, rx⟩ := Vals.getV rv eu
      obtain ⟨y, hy, ry⟩ := Vals.getV rv2 ev
      refine ⟨x, y, u, v, hx, hy, rx, ry, hp, ?_⟩
      have hi : idx T = j := by
        have e := (List.getElem?_eq_some_iff.mp hj).2
        show Ts.idxOf T = j
        rw [← e]
        exact List.Nodup.idxOf_getElem t.nd j hjl
      show HO.frz (oB T) (.tup [(xs[idx T]?).getD .non, (ys[idx T]?).getD .non]) = _
      rw [hi, hx, hy]
      show HO.frz ((h''.get? T).getD _) _ = _
      rw [hp]
      rfl
    have hp1 : H1 h'.objs.size = none := I1.hok.fresh hbig
    have hpU : updTs H1 f Ts h'.objs.size = none := by rw [updTs_ne hpn]; exact hp1
    have I4 : Inv X pins σ (upd (updTs H1 f Ts) h'.objs.size (.lst (Ts.map V.ref))) { s1 with heap := h'', toks := tk } := by
      have z := Inv.many (X := X) (t' := tk) (h' := h'') (f := fun a => if a = h'.objs.size then .lst (Ts.map V.ref) else f a) (Ts := h'.objs.size :: Ts) I1 k3 (fun T hT => ?_) (List.nodup_cons.mpr ⟨hpn, t.nd⟩) fun T hT H' => ?_
      · have eU : updTs H1 (fun a => if a = h'.objs.size then HO.lst (Ts.map V.ref) else f a) (h'.objs.size :: Ts) = upd (updTs H1 f Ts) h'.objs.size (.lst (Ts.map V.ref)) := by
          funext a
          by_cases ha : a = h'.objs.size
          · rw [ha, updTs_of List.mem_cons_self, upd_same, if_pos rfl]
          · rw [upd_ne ha]
            by_cases hu : a ∈ Ts
            · rw [updTs_of hu, updTs_of (List.mem_cons_of_mem _ hu), if_neg ha]
            · rw [updTs_ne hu, updTs_ne (fun z => (List.mem_cons.mp z).elim ha hu)]
        rw [eU] at z
        exact z
      · rcases List.mem_cons.mp hT with rfl | hT
        · exact hbig
        · exact hTs T hT
      · rcases List.mem_cons.mp hT with rfl | hT
        · rw [if_pos rfl]
          have z3 := e1
          exact ⟨by rw [List.length_map, t.len]; omega, _, c', vals_refs Ts, e⟩
        · rw [if_neg (fun z => hpn (by rw [← z]; exact hT))]
          obtain ⟨j, hj⟩ := List.getElem?_of_mem hT
          obtain ⟨x, y, u, v, _, _, rx, ry, hp, ef⟩ := fat j T hj
          rw [ef]
          exact ⟨hp, by show 2 ≤ sizeLine; decide, [u, v], .cons rx (.cons ry .nil), ⟨_, hp, rfl, _, rfl⟩⟩
    refine ⟨.ref h'.objs.size, _, I4, rfl, q f Ts h'.objs.size ⟨by rw [t.len], fun j T hj => ?_⟩ (fun T hT => I1.hok.fresh (hTs T hT)) hpn hp1⟩
    obtain ⟨x, y, u, v, hx, hy, _, _, _, ef⟩ := fat j T hj
    exact ⟨x, y, _, hx, hy, ef, rfl⟩
  refine Call_ (ld_blt I hg hm PyProof.Rows.boot_list (PyProof.Rows.callWith_type1 (args_cons (thn inner fun v s1 q => args_nil q) na) na))
def lzE : Option (List D × Env) → Res S
  | some ([.lst ds, .lst es], e) => .ok (.ow (.lst (zpL ds es))) e
  | _ => .bad
def dLZ (fs : List Den) : Den := fun env => (dargs fs env).bind fun ss e => lzE (escs e ss)
theorem tups_reps {B : Hp} {f : Addr → HO} {xs ys : List V} {ds es : List D} {Ts : List Addr} (t : TupsAt f xs ys Ts) (r1 : Reps G B xs ds) (r2 : Reps G B ys es) (h : ∀ T ∈ Ts, B T = some (f T)) : Reps G B (Ts.map V.ref) (zpL ds es) := by
  have lp := zpL_len ds es
  have l1 := r1.length
  have l2 := r2.length
  refine zipReps (by rw [List.length_map, t.1, lp, l1, l2]) fun p hp => ?_
  obtain ⟨j, hj⟩ := List.getElem?_of_mem hp
  rw [List.getElem?_zip_eq_some] at hj
  obtain ⟨ha, hb⟩ := hj
  rw [List.getElem?_map] at ha
  cases q : Ts[j]? with
  | none => rw [q] at ha; cases ha
  | some T =>
    rw [q] at ha
    have ev : V.ref T = p.1 := Option.some.inj ha
    obtain ⟨x, y, o, hx, hy, ef, od⟩ := t.2 j T q
    obtain ⟨d, ed, rd⟩ := r1.getV hx
    obtain ⟨e, ee, re⟩ := r2.getV hy
    rw [zpL_get ds es j d e ed ee] at hb
    rw [← ev, ← Option.some.inj hb]
    exact .tup (.inl ⟨o, by rw [h T (List.mem_of_getElem? q), ef], od⟩) (.cons rd (.cons re .nil))
theorem de_listZip {a b : Expr} {p p2 pos pos2 : Pos} {fs : List Den} (hc : X.calm = true) (hg : Gl X "list") (hm : X.mg "list" = none) (hgz : Gl X "zip") (hmz : X.mg "zip" = none) (ha : PA X [a, b] (tA G W (dargs fs))) (hK : X.K = G.K := by rfl) (hs : starEach [a, b] X.env = (false, eval a X.env) :: starEach [b] X.env := by rfl) (hpl : (backTo pos2 (starEach [b] X.env)).any (·.1) = false := by rfl)
    (na : starEach [.Call (.Name "zip" p2) [a, b] [] pos2] X.env = (false, eval (.Call (.Name "zip" p2) [a, b] [] pos2) X.env) :: starEach [] X.env := by rfl) :
    PE X (.Call (.Name "list" p) [.Call (.Name "zip" p2) [a, b] [] pos2] [] pos) (tD G W (dLZ fs)) := by
  refine peImp (pe_listZip hc hg hm hgz hmz ha hs hpl na) fun σ H Q ⟨F, ts, env, h, q⟩ => ?_
  rw [dLZ, Res.wp_bind] at q
  refine tA.mk h (Res.wp_mono q (fun ss e q vs H1 hl h1 => ?_) fun _ _ z => z)
  obtain ⟨w, h1⟩ := h1
  obtain ⟨z1, z2⟩ := zipL hl
  cases ee : escs e ss with
  | none => rw [ee] at q; exact q.elim
  | some p =>
    obtain ⟨as, e'⟩ := p
    rw [ee] at q
    obtain ⟨w2, h2, _, rs⟩ := h1.escs (us := vs.zip ss) (by rw [z2]; exact ee)
    rw [z1] at rs
    have h3 := h2.drop
    unfold lzE at q
    split at q
    case h_2 => exact q.elim
    rename_i ds es e0 eq
    cases eq
    cases rs with
    | cons r1 rs =>
    cases rs with
    | cons r2 rs =>
    cases rs
    obtain ⟨a1, m1, f1, l1, l2⟩ := r1.lst_inv
    obtain ⟨a2, m2, f2, b1, b2⟩ := r2.lst_inv
    subst f1 f2
    rw [hK]
    refine ⟨_, _, _, _, rfl, SqL.of (hide_le.at nt_lst nd_lst l1), SqL.of (hide_le.at nt_lst nd_lst b1), fun f Ts p t hT hp hp1 => ?_⟩
    have eU : Ext H1 (updTs H1 f Ts) := fun a o e => by
      rw [updTs_ne (fun z => by rw [hT a z] at e; cases e)]
      exact e
    have h4 := h3.ext eU
    have hle : Le (hide H1 w2) (hide (updTs H1 f Ts) w2) := hide_ext eU
    have rr := tups_reps t (Reps.le hle l2) (Reps.le hle b2) fun T hm => by
      rw [hide_of (h3.wfree (hT T hm))]
      exact updTs_of hm
    exact q _ _ (Rel.out (B := H1) h4 (Out.newOw (by rw [updTs_ne hp]; exact hp1) (.lst rr) True.intro))
end
end T

/-! TBuilt: isinstance, index, list(range), tuple(range). -/
namespace T
open PySem PySem.Spec PyProof.Rows L2

/-! ### isinstance -/
inductive Kd
  | non
  | bl
  | int
  | str
  | tup
  | lst
  | dic
def Kd.nm : Kd → String
  | .non => "NoneType"
  | .bl => "bool"
  | .int => "int"
  | .str => "str"
  | .tup => "tuple"
  | .lst => "list"
  | .dic => "dict"
def Kd.is : Kd → Kd → Bool
  | .non, .non => true
  | .bl, .bl => true
  | .bl, .int => true
  | .int, .int => true
  | .str, .str => true
  | .tup, .tup => true
  | .lst, .lst => true
  | .dic, .dic => true
  | _, _ => false
theorem kitB_is (a b : Kd) : kitB a.nm b.nm = some (a.is b) := by cases a <;> cases b <;> decide +kernel
def D.kd : D → Option Kd
  | .non => some .non
  | .bl _ => some .bl
  | .int _ => some .int
  | .str _ => some .str
  | .tup _ => some .tup
  | .lst _ => some .lst
  | .fz _ => some .lst
  | .dic _ => some .dic
  | .ext _ _ => none
def opIsi (k : Kd) : D → Option S := fun d => match d.kd with
  | some a => some (.sh (.bl (a.is k)))
  | none => none
def rIsiD (G : Gh) (k : Kd) : List V → Hp → VK → Prop := fun vs H Q => ∃ x d B a, vs = [x, .ty k.nm] ∧ BRep G H B x d ∧ Le B H ∧ d.kd = some a ∧ Q (.bl (a.is k)) H
section
variable {X : Cx} {G : Gh} {F : Fr} {W : WX} {w : Addr → Option Nat} {σ : L2.St} {H : Hp} {env : Env} {ts : List (V × S)}
theorem call_isiD {k : Kd} (hK : X.K = G.K) : CallR X (.builtin "isinstance") (rIsiD G k) := by
  intro pins s σ H xs us Q I r h
  obtain ⟨x, d, B, a, rfl, hr, le, hk, q⟩ := h
  have one : ∀ t : Kd, TyX X.K H x (.type t.nm) → a = t → wpAny (model X.prog X.w) X.A (call (.builtin "isinstance") us) (EP X pins σ Q) X.xe s := fun t ty e => by
    subst e
    exact call_isi pins s σ H [x, .ty k.nm] us Q I r ⟨x, .ty k.nm, .type a.nm, .type k.nm, a.is k, rfl, .ty _, ty, kit_ty (kitB_is a k), q⟩
  have dct : ∀ {p : Addr} {ob : Obj}, x = .ref p → s.heap.get? p = some ob → ob.cls = .type "dict" → a = .dic → wpAny (model X.prog X.w) X.A (call (.builtin "isinstance") us) (EP X pins σ Q) X.xe s := fun {p ob} ex e c ea => by
    subst ex ea
    obtain ⟨u1, u2, rfl, r1, r2⟩ := r.two
    cases r1
    cases (show u2 = .type k.nm from r2)
    exact PySem.W.kia_one (PySem.W.kitx_dict) I.kIn ⟨ob, e, c⟩ (kit_ty (kitB_is .dic k)) (fun z => nomatch z) fun tk => ⟨.bl _, H, I.tok tk, rfl, q⟩
  cases hr with
  | non => cases hk; exact one .non (.base .non) rfl
  | bl b => cases hk; exact one .bl (.base (.bl b)) rfl
  | int i => cases hk; exact one .int (.base (.int i)) rfl
  | str z => cases hk; exact one .str (.base (.str z)) rfl
  | ext v => cases hk
  | tup h1 h2 =>
    cases hk
    rcases TupX.le h1 le with ⟨o, e, _⟩ | ⟨o, its, n, e, c, _⟩
    · exact one .tup (.fTuple e) rfl
    · exact one .tup (.kTuple (by rw [hK]; exact e) c) rfl
  | lst h1 h2 => cases hk; exact one .lst (.base (.lst h1)) rfl
  | fz h1 =>
    cases hk
    rcases h1 with ⟨o, h1⟩ | ⟨o, _, _, e, c, _⟩
    · exact one .lst (.base (.frz h1)) rfl
    · exact one .lst (.kList (by rw [hK]; exact e) c) rfl
  | dK h1 h2 =>
    cases hk
    rcases h1 with h1 | ⟨o, h1⟩
    · exact one .dic (.base (.dK h1)) rfl
    · exact one .dic (.fDict h1) rfl
  | @dX p kvs ds ob h1 h2 h3 =>
    cases hk
    have e : s.heap.get? p = some ob := by
      rcases h1 with h1 | ⟨o, h1⟩
      · exact (I.hok p _ h1).1
      · exact (I.hok p _ h1).2.1
    exact dct rfl e h2.ex.1 rfl
theorem de_isi {k : Kd} {x : Str} {e : Expr} {p p2 pos : Pos} {f : Den} (hg : Gl X "isinstance") (hm : X.mg "isinstance" = none) (he : PE X e (tD G W f)) (hgx : Gl X x) (hmx : X.mg x = none) (hv : bootBuiltins x = some (.type k.nm)) (hK : X.K = G.K := by rfl) (hn : x ≠ "__name__" := by decide) (hdb : (x == ("__debug__" : Str)) = false := by decide)
    (hs : starEach [e, .Name x p2] X.env = (false, eval e X.env) :: starEach [.Name x p2] X.env := by rfl) (hs2 : starEach [.Name x p2] X.env = (false, eval (.Name x p2) X.env) :: starEach [] X.env := by rfl) (hpl : (backTo pos (starEach [.Name x p2] X.env)).any (·.1) = false := by rfl) :
    PE X (.Call (.Name "isinstance" p) [e, .Name x p2] [] pos) (tD G W (d1 (opIsi k) f)) := by
  refine peImp (pe_callB (call_isiD (G := G) (k := k) hK) hg hm PyProof.Rows.boot_isinstance (pa_cons he (pa_cons (pe_bltn (v := .ty k.nm) hgx hmx hv rfl hn hdb) pa_nil hs2) hs) (by decide) (by decide) hs hpl) fun σ H Q ⟨F, ts, env, h, q⟩ => ?_
  rw [d1, Res.wp_bind] at q
  refine tD.mk h (Res.wp_mono q (fun s e q v H1 h1 => ?_) fun _ _ z => z)
  obtain ⟨s', es, q⟩ := Res.wp_get.mp q
  obtain ⟨w, h1⟩ := h1
  cases er : rd e s with
  | none => rw [er] at es; cases es
  | some d =>
    rw [er] at es
    have rb := h1.read (j := ts.length) (last1 ..) er
    simp only [un1, opIsi] at es
    split at es
    · rename_i a ek
      cases es
      exact ⟨v, d, hide H1 w, a, rfl, rb, hide_le, ek, q _ _ (Rel.out (B := H1) h1.drop (Out.val (.bl _)))⟩
    · cases es
/-! ### list(range(..)), tuple(range(..)) -/
theorem rgV_reps {B : Hp} (a b : Int) : Reps G B (rgV a b) (rngD a b) := by
  refine zipReps (by rw [rgV_length, rngD_len]) fun p hp => ?_
  obtain ⟨j, hj⟩ := List.getElem?_of_mem hp
  rw [List.getElem?_zip_eq_some, rgV, rngD, List.getElem?_map, List.getElem?_map] at hj
  cases q : (List.range (b - a).toNat)[j]? with
  | none => rw [q] at hj; cases hj.1
  | some k =>
    rw [q] at hj
    have e1 : V.int (a + (k : Int)) = p.1 := Option.some.inj hj.1
    have e2 : D.int (a + (k : Int)) = p.2 := Option.some.inj hj.2
    rw [← e1, ← e2]
    exact .int _
instance (a b : Int) : Decidable (RgOk a b) := inferInstanceAs (Decidable (_ ∧ _))
def rg1E (c : List D → S) : Option D → Env → Res S
  | some (.int n), e => if RgOk 0 n then .ok (c (rngD 0 n)) e else .bad
  | _, _ => .bad
def rg2E (c : List D → S) : Option D → Option D → Env → Res S
  | some (.int a), some (.int b), e => if RgOk a b then .ok (c (rngD a b)) e else .bad
  | _, _, _ => .bad
def dRg1 (c : List D → S) (f : Den) : Den := fun env => (f env).bind fun s e => rg1E c (rd e s) e
def dRg2 (c : List D → S) (f g : Den) : Den := fun env => (f env).bind fun s e => (g e).bind fun s' e' => rg2E c (rd e' s) (rd e' s') e'
def mkOwL : List D → S := fun ds => .ow (.lst ds)
def mkShT : List D → S := fun ds => .sh (.tup ds)
theorem rg1_of {c : List D → S} {f : Den} {Q : VK} {T : Int → Int → Hp → Prop} (hT : ∀ {w : Addr → Option Nat} {F : Fr} {ts : List (V × S)} {e : Env} {H1 : Hp} {a b : Int}, RelW G F w σ H1 e ts → RgOk a b → (∀ v H', Rel G F σ H' e (ts ++ [(v, c (rngD a b))]) → Q v H') → T a b H1) (h : tD G W (dRg1 c f) σ H Q) : tRg1 (tD G W f) σ H T := by
  obtain ⟨F, ts, env, h, q⟩ := h
  rw [dRg1, Res.wp_bind] at q
  refine tD.mk h (Res.wp_mono q (fun s e q v H1 h1 => ?_) fun _ _ z => z)
  obtain ⟨w, h1⟩ := h1
  unfold rg1E at q
  split at q
  · rename_i n er
    split at q
    · rename_i ok
      have rb := h1.read (j := ts.length) (last1 ..) er
      cases rb
      exact ⟨n, rfl, hT h1.drop ok q⟩
    · exact q.elim
  · exact q.elim
theorem rg2_of {c : List D → S} {f g : Den} {Q : VK} {T : Int → Int → Hp → Prop} (hT : ∀ {w : Addr → Option Nat} {F : Fr} {ts : List (V × S)} {e : Env} {H1 : Hp} {a b : Int}, RelW G F w σ H1 e ts → RgOk a b → (∀ v H', Rel G F σ H' e (ts ++ [(v, c (rngD a b))]) → Q v H') → T a b H1) (h : tD G W (dRg2 c f g) σ H Q) : tRg2 (tD G W f) (tD G W g) σ H T := by
  obtain ⟨F, ts, env, h, q⟩ := h
  rw [dRg2, Res.wp_bind] at q
  refine tD.mk h (Res.wp_mono q (fun s e q v H1 h1 => ?_) fun _ _ z => z)
  rw [Res.wp_bind] at q
  refine tD.mk h1 (Res.wp_mono q (fun s' e' q v' H2 h2 => ?_) fun _ _ z => z.drop)
  obtain ⟨w, h2⟩ := h2
  unfold rg2E at q
  split at q
  · rename_i a b er er'
    split at q
    · rename_i ok
      have rb' := h2.read (j := (ts ++ [(v, s)]).length) (last1 ..) er'
      cases rb'
      have rb := h2.drop.read (j := ts.length) (last1 ..) er
      cases rb
      exact ⟨a, b, rfl, rfl, hT h2.drop.drop ok q⟩
    · exact q.elim
  · exact q.elim
theorem de_lrg1 {a : Expr} {p p2 pos pos2 : Pos} {f : Den} (hc : X.calm = true) (hg : Gl X "list") (hm : X.mg "list" = none) (hgr : Gl X "range") (hmr : X.mg "range" = none) (ha : PE X a (tD G W f)) (na : starEach [a] X.env = (false, eval a X.env) :: starEach [] X.env := by rfl)
    (nb : starEach [.Call (.Name "range" p2) [a] [] pos2] X.env = (false, eval (.Call (.Name "range" p2) [a] [] pos2) X.env) :: starEach [] X.env := by rfl) : PE X (.Call (.Name "list" p) [.Call (.Name "range" p2) [a] [] pos2] [] pos) (tD G W (dRg1 mkOwL f)) :=
  peImp (pe_listRg hc hg hm (prg_1 hgr hmr ha na) nb) fun σ H Q h => rg1_of (fun h1 ok q => ⟨ok, fun p hp => q _ _ (Rel.out (B := H) h1 (Out.newOw hp (.lst (rgV_reps _ _)) True.intro))⟩) h
theorem de_lrg2 {a b : Expr} {p p2 pos pos2 : Pos} {f g : Den} (hc : X.calm = true) (hg : Gl X "list") (hm : X.mg "list" = none) (hgr : Gl X "range") (hmr : X.mg "range" = none) (ha : PE X a (tD G W f)) (hb : PE X b (tD G W g)) (na : starEach [a, b] X.env = (false, eval a X.env) :: starEach [b] X.env := by rfl)
    (nb : starEach [b] X.env = (false, eval b X.env) :: starEach [] X.env := by rfl) (hp : (backTo pos2 (starEach [b] X.env)).any (·.1) = false := by rfl) (nc : starEach [.Call (.Name "range" p2) [a, b] [] pos2] X.env = (false, eval (.Call (.Name "range" p2) [a, b] [] pos2) X.env) :: starEach [] X.env := by rfl) :
    PE X (.Call (.Name "list" p) [.Call (.Name "range" p2) [a, b] [] pos2] [] pos) (tD G W (dRg2 mkOwL f g)) :=
  peImp (pe_listRg hc hg hm (prg_2 hgr hmr ha hb na nb hp) nc) fun σ H Q h => rg2_of (fun h1 ok q => ⟨ok, fun p hp => q _ _ (Rel.out (B := H) h1 (Out.newOw hp (.lst (rgV_reps _ _)) True.intro))⟩) h
def tTupRgX (te : L2.St → Hp → (Int → Int → Hp → Prop) → Prop) : TE := fun σ H Q => te σ H fun a b H1 => RgOk a b ∧ ∀ q o, o.dict = none → H1 q = none → Q (.ref q) (upd H1 q (.frz o (.tup (rgV a b))))
theorem pe_tupRgX {p pos : Pos} {e : Expr} {te : L2.St → Hp → (Int → Int → Hp → Prop) → Prop} (hc : X.calm = true) (hg : Gl X "tuple") (hm : X.mg "tuple" = none) (he : PRg X e te) (na : starEach [e] X.env = (false, eval e X.env) :: starEach [] X.env := by rfl) : PE X (.Call (.Name "tuple" p) [e] [] pos) (tTupRgX te) := by
  refine ⟨fun pins s σ H Q I h => ?_⟩
  refine Call_ (ld_blt I hg hm PyProof.Rows.boot_tuple (PyProof.Rows.callWith_type1 (args_cons (thn (he pins s σ H _ I h) fun x s1 ⟨r, a, b, t, u, v, H1, ex, hr, I1, ok, q⟩ => args_nil ?_) na) na))
  subst ex
  obtain ⟨b1, b2, b3, b4, b5⟩ := ok
  refine call_tuple_range (n := (b - a).toNat) (I1.ok.hd hc) hr (small_one b1 b2 b3 b4) (rangeSize_nat a b) b5 fun h' tk acc hk hi => ?_
  have I2 : Inv X pins σ H1 { s1 with heap := h', toks := tk } := I1.kept hk
  have hz : (rgV a b).length ≤ sizeLine := by rw [rgV_length, sizeLine_eq]; omega
  have hv := vals_rg hi
  refine ⟨.ref h'.objs.size, upd H1 h'.objs.size (.frz { cls := .type "tuple", data := .seq acc } (.tup (rgV a b))), I2.laid (t' := tk) (fun c o e => Heap.get?_push_of_some _ e) (Nat.le_refl _) ⟨Heap.get?_push_size _ rfl, hz, acc.toList, hv, ?_⟩, rfl, q _ _ rfl (I2.hok.fresh (Nat.le_refl _))⟩
  rw [Array.toArray_toList]
  exact IsTup.new _ _
theorem de_trg1 {a : Expr} {p p2 pos pos2 : Pos} {f : Den} (hc : X.calm = true) (hg : Gl X "tuple") (hm : X.mg "tuple" = none) (hgr : Gl X "range") (hmr : X.mg "range" = none) (ha : PE X a (tD G W f)) (na : starEach [a] X.env = (false, eval a X.env) :: starEach [] X.env := by rfl)
    (nb : starEach [.Call (.Name "range" p2) [a] [] pos2] X.env = (false, eval (.Call (.Name "range" p2) [a] [] pos2) X.env) :: starEach [] X.env := by rfl) : PE X (.Call (.Name "tuple" p) [.Call (.Name "range" p2) [a] [] pos2] [] pos) (tD G W (dRg1 mkShT f)) :=
  peImp (pe_tupRgX hc hg hm (prg_1 hgr hmr ha na) nb) fun σ H Q h => rg1_of (fun h1 ok q => ⟨ok, fun p o ho hp => q _ _ (Rel.out (B := H) h1 (Out.newSh hp (.tup ho (rgV_reps _ _))))⟩) h
theorem de_trg2 {a b : Expr} {p p2 pos pos2 : Pos} {f g : Den} (hc : X.calm = true) (hg : Gl X "tuple") (hm : X.mg "tuple" = none) (hgr : Gl X "range") (hmr : X.mg "range" = none) (ha : PE X a (tD G W f)) (hb : PE X b (tD G W g)) (na : starEach [a, b] X.env = (false, eval a X.env) :: starEach [b] X.env := by rfl)
    (nb : starEach [b] X.env = (false, eval b X.env) :: starEach [] X.env := by rfl) (hp : (backTo pos2 (starEach [b] X.env)).any (·.1) = false := by rfl) (nc : starEach [.Call (.Name "range" p2) [a, b] [] pos2] X.env = (false, eval (.Call (.Name "range" p2) [a, b] [] pos2) X.env) :: starEach [] X.env := by rfl) :
    PE X (.Call (.Name "tuple" p) [.Call (.Name "range" p2) [a, b] [] pos2] [] pos) (tD G W (dRg2 mkShT f g)) :=
  peImp (pe_tupRgX hc hg hm (prg_2 hgr hmr ha hb na nb hp) nc) fun σ H Q h => rg2_of (fun h1 ok q => ⟨ok, fun p o ho hp => q _ _ (Rel.out (B := H) h1 (Out.newSh hp (.tup ho (rgV_reps _ _))))⟩) h
/-! ### index of a whole number -/
def idxI : List Int → Int → Option Nat
  | [], _ => none
  | n :: r, k => if n = k then some 0 else (match idxI r k with
    | some i => some (i + 1)
    | none => none)
theorem idxI_some : ∀ {ns : List Int} {k : Int} {i : Nat}, idxI ns k = some i → k ∈ ns ∧ ns.idxOf k = i
  | [], _, _, h => by cases h
  | n :: r, k, i, h => by
    unfold idxI at h
    split at h
    · rename_i e
      cases h
      subst e
      exact ⟨List.mem_cons_self, by simp⟩
    · rename_i e
      split at h
      · rename_i j hj
        cases h
        obtain ⟨a, b⟩ := idxI_some hj
        refine ⟨List.mem_cons_of_mem _ a, ?_⟩
        have e' : (n == k) = false := by simpa using e
        simp [List.idxOf_cons, e', b]
      · cases h
def tIxT (K : PySem.W.Frag) (to : TE) (ta : TA) : TE := fun σ H Q => to σ H fun x H1 => ∃ (a : Addr) (ns : List Int), x = .ref a ∧ TupX K H1 a (ns.map V.int) ∧ ta σ H1 fun vs H2 => ∃ k, vs = [.int k] ∧ k ∈ ns ∧ TupX K H2 a (ns.map V.int) ∧ Q (.int (ns.idxOf k : Nat)) H2
theorem pe_tupIndex {o e : Expr} {to : TE} {ta : TA} {apos cpos : Pos} (ho : PE X o to) (ha : PA X [e] ta) (hbase : attributeBase o "index" X.env (eval o X.env) = eval o X.env := by rfl)
    (hfew : ((backTo cpos (starEach [e] X.env)).all (fun x => !x.1) && (backToKw cpos (keywordEach [] X.env)).all (fun x => x.1.isSome)
      && decide ([e].length + ([] : List Keyword).length + (if ([] : List Keyword).isEmpty then 0 else 1) < 30)) = true := by rfl)
    (hline : (apos.endLine == cpos.line) = true := by rfl) (hs : starEach [e] X.env = (false, eval e X.env) :: starEach [] X.env := by rfl) (hplain : (backTo cpos (starEach [] X.env)).any (·.1) = false := by rfl) :
    PE X (.Call (.Attribute o "index" apos) [e] [] cpos) (tIxT X.K to ta) := by
  refine ⟨fun pins s σ H Q I h => ?_⟩
  refine wpAny_Call_method_late hbase hfew hline rfl (thn (ho.run pins s σ H _ I h) fun v s1 ⟨x, H1, I1, r1, a, ns, ex, hx, q1⟩ => ?_)
  subst ex
  cases r1
  obtain ⟨its, rv, tp, ob, e1, e2⟩ : ∃ (its : List Value), Vals (ns.map V.int) its ∧ ∃ tp : IsTup s1.heap a its.toArray, ∃ ob, s1.heap.get? a = some ob ∧ ob.dict = none := by
    obtain ⟨its, rv, tp, _⟩ := I1.tuple hx.sq
    refine ⟨its, rv, tp, ?_⟩
    rcases hx with ⟨o, e, d⟩ | ⟨o, _, _, e, _, d, _⟩
    · exact ⟨o, (I1.hok a _ e).1, d⟩
    · exact ⟨o, I1.kIn _ _ e, d⟩
  refine ⟨"tuple", "tuple.index", PySem.F.plainAttrs_tuple, PySem.F.slot_tuple_index, PySem.F.type_tuple_index, ?_, ?_, ?_⟩
  · obtain ⟨o, e, c, _⟩ := tp
    exact ⟨o, e, c⟩
  · intro b eb
    cases eb
    exact ⟨ob, e1, e2⟩
  have hA := ha.run cpos pins s1 σ H1 _ I1 q1
  rw [hs] at hA ⊢
  refine Calls.callWith_builtin (by show (false || (backTo cpos (starEach [] X.env)).any (·.1)) = false; rw [hplain] <;> rfl) (Calls.evalArgs_plain ?_)
  exact thn hA fun us s2 ⟨vs, H2, I2, r2, k, ev, hk, hx2, q2⟩ => by
    subst ev
    obtain ⟨u, rfl, ru⟩ := r2.one
    obtain ⟨t, rfl⟩ := ru
    obtain ⟨its2, rv2, tp2, _⟩ := I2.tuple hx2.sq
    exact SeqAt.tuple_index_ints (show s2.heap.IsTuple a its2.toArray from tp2) rv2.ints hk ⟨.int _, H2, I2.tok _, ⟨_, rfl⟩, q2⟩
/-- the tuple is read ahead of the argument -/
def ixE (g : Den) : S → Env → Res S
  | .sh (.tup ds), e => (match dInts ds with
    | some ns => (g e).bind fun s e' => (match rd e' s with
      | some (.int k) => (match idxI ns k with
        | some i => .ok (.sh (.int (i : Int))) e'
        | none => .bad)
      | _ => .bad)
    | none => .bad)
  | _, _ => .bad
def dIx (f g : Den) : Den := fun env => (f env).bind fun s e => ixE g s e
theorem de_tupIndex {o e : Expr} {apos cpos : Pos} {f g : Den} (ho : PE X o (tD G W f)) (he : PE X e (tD G W g)) (hK : X.K = G.K := by rfl) (hbase : attributeBase o "index" X.env (eval o X.env) = eval o X.env := by rfl)
    (hfew : ((backTo cpos (starEach [e] X.env)).all (fun x => !x.1) && (backToKw cpos (keywordEach [] X.env)).all (fun x => x.1.isSome)
      && decide ([e].length + ([] : List Keyword).length + (if ([] : List Keyword).isEmpty then 0 else 1) < 30)) = true := by rfl)
    (hline : (apos.endLine == cpos.line) = true := by rfl) (hs : starEach [e] X.env = (false, eval e X.env) :: starEach [] X.env := by rfl) (hplain : (backTo cpos (starEach [] X.env)).any (·.1) = false := by rfl) :
    PE X (.Call (.Attribute o "index" apos) [e] [] cpos) (tD G W (dIx f g)) := by
  refine peImp (pe_tupIndex ho (da_cons he da_nil hs) hbase hfew hline hs hplain) fun σ H Q ⟨F, ts, env, h, q⟩ => ?_
  rw [dIx, Res.wp_bind] at q
  refine tD.mk h (Res.wp_mono q (fun s e q v H1 h1 => ?_) fun _ _ z => z)
  obtain ⟨w, h1⟩ := h1
  unfold ixE at q
  split at q
  case h_2 => exact q.elim
  rename_i ds
  split at q
  case h_2 => exact q.elim
  rename_i ns en
  have tupAt : ∀ {x : V} {B H : Hp}, Le B H → Rep G B x (.tup ds) → ∃ a, x = .ref a ∧ TupX G.K H a (ns.map V.int) := fun {x B H} hl r => by
    cases r with
    | @tup a vs _ t1 t2 =>
      rw [dInts_some en] at t2
      have ev := ints_of t2
      subst ev
      exact ⟨a, rfl, TupX.le t1 hl⟩
  obtain ⟨x', ex, r1⟩ := h1.tmp ts.length v (.sh (.tup ds)) (last1 ..)
  cases ex
  obtain ⟨a, rfl, t1⟩ := tupAt hide_le r1
  rw [hK]
  rw [Res.wp_bind] at q
  have hA : tA G W (dargs [g]) σ H1 fun vs H2 => ∃ k, vs = [.int k] ∧ k ∈ ns ∧ TupX G.K H2 a (ns.map V.int) ∧ Q (.int (ns.idxOf k : Nat)) H2 := by
    refine tA.mk ⟨w, h1⟩ ?_
    rw [dargs, Res.wp_bind]
    refine Res.wp_mono q (fun s' e' q => ?_) fun _ _ z => z.drop
    rw [Res.wp_bind]
    show ∀ vs H', _ → _ → _
    intro vs H2 hl h2
    obtain ⟨v', rfl⟩ : ∃ v', vs = [v'] := by
      match vs, hl with
      | [v'], _ => exact ⟨v', rfl⟩
    obtain ⟨w2, h2⟩ := h2
    have h2 : RelW G F w2 σ H2 e' ((ts ++ [(V.ref a, .sh (.tup ds))]) ++ [(v', s')]) := h2
    split at q
    case h_2 => exact q.elim
    rename_i k ek
    split at q
    case h_2 => exact q.elim
    rename_i i ei
    have rk := h2.read (j := (ts ++ [(V.ref a, S.sh (.tup ds))]).length) (last1 ..) ek
    cases rk
    obtain ⟨x', ex, r2⟩ := h2.drop.tmp ts.length (.ref a) (.sh (.tup ds)) (last1 ..)
    cases ex
    obtain ⟨a2, ea, t2⟩ := tupAt hide_le r2
    cases ea
    obtain ⟨i1, i2⟩ := idxI_some ei
    exact ⟨k, rfl, i1, t2, by rw [i2]; exact q _ _ (Rel.out (B := H2) h2.drop.drop (Out.val (.int _)))⟩
  exact ⟨a, ns, rfl, t1, hA⟩
end
end T

/-! TFun: defs by name, errors by name. -/
namespace T
open PySem PySem.Spec PyProof.Rows L2

/-- a def of the text under its name -/
structure DefAt (K : PySem.W.Frag) (mg : Str → Option Value) (x : Str) (st : Stmt) (ps : List Str) : Prop where
  ex : ∃ f fdd, Fun K x x st f fdd ∧ mg x = some (.ref f) ∧ L2.Binds K fdd ps []
/-- a def that keeps its promise, by its name -/
structure CalF (P : Program) (wl : World) (G : Gh) (mg : Str → Option Value) (base : Heap) (k : Nat) (x : Str) (io : Bool) (n : Nat) (fd : FD) : Prop where
  ex : ∃ f fdd ps, FnOk P wl G.K mg base (L2.CX P wl) k f fdd ps (spF G io n fd) ∧ mg x = some (.ref f) ∧ PySem.W.keepIn G.K (.ref f) = true ∧ L2.Binds G.K fdd ps []
section
variable {X : Cx} {G : Gh} {W : WX} {io : Bool} {n k j : Nat} {fd : FD} {x : Str}
theorem de_c {p pos : Pos} {e : Expr} {es : List Expr} {fs : List Den} (tk : Takes X W) (c : CalF X.prog X.w G X.mg X.base k x io n fd) (hr : Room j X.A) (hk : k ≤ j) (ha : PA X (e :: es) (tA G W (dargs fs))) (hg : Gl X x := by rfl) (hK : X.K = G.K := by rfl) (hdb : (x == ("__debug__" : Str)) = false := by decide)
    (he : starEach (e :: es) X.env = (false, eval e X.env) :: starEach es X.env := by rfl) (hpl : (backTo pos (starEach es X.env)).any (·.1) = false := by rfl) : PE X (.Call (.Name x p) (e :: es) [] pos) (tD G W (dCall io n fd fs)) := by
  obtain ⟨f, fdd, ps, F, hm, hkp, hb⟩ := c.ex
  exact de_call tk (by rw [hK]; exact F) (hr.mono hk) hg hm (by rw [hK]; exact hkp) (by rw [hK]; exact hb) ha hdb he hpl
variable {P : Program} {wl : World} {mg : Str → Option Value} {base : Heap} {st : Stmt} {N ps : List Str} {m : Nat} {fx : Nat → Bool} {b : DenS}
theorem cal_ok (D : DefAt G.K mg x st ps) (Sc : FnScope N ps (defScope st)) (hn : ps.length = n) (hm : N.length = n + m) (hp : ioN io ≤ n) (hfx : io = true → fx 0 = true)
    (body : ∀ (f : Addr) (cdv : Value) (A : Around) (outer : List PySem.Env) (s : Shared) (H : Hp) (E : XK), Room k (A.deeper (envOfC x (defScope st) s.heap.objs.size f cdv)) → PSs (cxOf (L2.CX P wl) P wl G.K mg base N x (defScope st) f cdv A outer s H E) (defBody st) (tS G (fun cls d _ H => E cls d H) fx b)) :
    CalF P wl G mg base (k + 1) x io n (dFun io m b) := by
  obtain ⟨f, fdd, Fn, hmg, hb⟩ := D.ex
  subst hn
  exact ⟨f, fdd, ps, fn_ok Fn Sc hm hp hfx (body f), hmg, Fn.kp, hb⟩
theorem CalF.mono (c : CalF P wl G mg base k x io n fd) (h : k ≤ j) : CalF P wl G mg base j x io n fd := let ⟨f, fdd, ps, F, a, b, c⟩ := c.ex; ⟨f, fdd, ps, F.mono h, a, b, c⟩
end
/-- an error's class -/
structure ErrC (G : Gh) (mg : Str → Option Value) (x : Str) : Prop where
  gC : mg x = some (.ref (G.C x))
  ex : PySem.W.excIn G.K (G.C x) [.type "ValueError", .type "Exception", .type "BaseException", .type "object"] "ValueError.__new__" = true
  kp : PySem.W.keepIn G.K (.ref (G.C x)) = true
  sb : PySem.W.subIn G.K (.ref (G.C x)) (.type "BaseException") = some true
  ty : PySem.W.typeIn G.K (.ref (G.C x)) = some (.type "type")
def dRaise (x : Str) : DenS := fun env => .exc ⟨x, []⟩ env
section
variable {X : Cx} {G : Gh} {W : WX} {fx : Nat → Bool} {x m : Str}
theorem ds_raise {jj : Nat} {p p2 pos pos2 : Pos} (hc : X.calm = true) (tk : Takes X W) (c : ErrC G X.mg x) (hg : Gl X x := by rfl) (hK : X.K = G.K := by rfl) (hdb : (x == ("__debug__" : Str)) = false := by decide) :
    PS X (.Raise (some (.Call (.Name x p) [.Constant (.str m) jj p2] [] pos)) none pos2) (tS G W fx (dRaise x)) := by
  refine psImp (ps_raise hc tk (pmk_own PySem.F.excBase_ValueError (by rw [hK]; exact c.ex) c.gC (by rw [hK]; exact c.kp) (raises_own (by rw [hK]; exact c.sb) (by rw [hK]; exact c.ty)) hg hdb)) fun Dn σ H ⟨F, bs, env, h, q⟩ => ?_
  exact q none σ H Fix.refl h (.inl ⟨rfl, rfl⟩)
/-- a name in slot i -/
theorem dv (i : Nat) {y : Str} {pos : Pos} (hN : X.N[i]? = some y := by rfl) (hv : Vis X.env.scope y := by first | exact Or.inl rfl | exact Or.inr (Or.inl rfl) | exact Or.inr (Or.inr rfl)) (hd : (y == ("__debug__" : Str)) = false := by decide) (hcd : (y == ("__classdict__" : Str)) = false := by decide) : PE X (.Name y pos) (tD G W (dVar i)) := de_var hN hv hd hcd
/-- a whole number that the module names -/
theorem de_gint {y : Str} {pos : Pos} {n : Int} (h : ∃ t, X.mg y = some (.int n t)) (hg : Gl X y := by rfl) (hd : (y == ("__debug__" : Str)) = false := by decide) : PE X (.Name y pos) (tD G W (dC (.int n))) := let ⟨t, h⟩ := h; de_tC (pe_glob (v := .int n) hg h ⟨t, rfl⟩ hd) fun _ => .int n
end
theorem room65 {j : Nat} {A : Around} (hr : Room j A) : A.units + 65 < cLine := by have := hr.un; omega
theorem room64 {j : Nat} {A : Around} (hr : Room j A) : A.units + 64 < cLine := by have := hr.un; omega
theorem MtR.of {X : Cx} {id : String} {r : V → List V → Hp → VK → Prop} (h : MtM X id r) : L2.MtR X id r := h
/-- the built-ins stand as they are -/
structure Bn (mg : Str → Option Value) : Prop where
  len : mg "len" = none
  range : mg "range" = none
  sorted : mg "sorted" = none
  list : mg "list" = none
  tuple : mg "tuple" = none
  all : mg "all" = none
  sum : mg "sum" = none
  int : mg "int" = none
  bool : mg "bool" = none
  isinstance : mg "isinstance" = none
  enumerate : mg "enumerate" = none
  zip : mg "zip" = none
  abs : mg "abs" = none
  min : mg "min" = none
  max : mg "max" = none
  dict : mg "dict" = none
end T

/-! TDraw: the draw's dict. -/
namespace T
open PySem PySem.Spec PyProof.Rows L2
abbrev dkv (l c : Addr) (r t : Int) : List (Key × V) := [(.inr "large", .ref l), (.inr "rest", .int r), (.inr "cells", .ref c), (.inr "turn", .int t)]
section
variable {H : Hp} {a l c : Addr} {r t r' t' : Int}
theorem dg_large (h : H a = some (.dK (dkv l c r t))) : DGet H a (.str "large") (some (.ref l)) := DGet.k (k := .inr "large") h
theorem dg_rest (h : H a = some (.dK (dkv l c r t))) : DGet H a (.str "rest") (some (.int r)) := DGet.k (k := .inr "rest") h
theorem dg_cells (h : H a = some (.dK (dkv l c r t))) : DGet H a (.str "cells") (some (.ref c)) := DGet.k (k := .inr "cells") h
theorem dg_turn (h : H a = some (.dK (dkv l c r t))) : DGet H a (.str "turn") (some (.int t)) := DGet.k (k := .inr "turn") h
theorem dp_turn (h : H a = some (.dK (dkv l c r t))) : DPut H a (.str "turn") (.int t') (upd H a (.dK (dkv l c r t'))) := DPut.k (k := .inr "turn") (v := .int t') h (by show 4 < 16777216; decide)
theorem dp_rest (h : H a = some (.dK (dkv l c r t))) : DPut H a (.str "rest") (.int r') (upd H a (.dK (dkv l c r' t))) := DPut.k (k := .inr "rest") (v := .int r') h (by show 4 < 16777216; decide)
end
/-- a new number is mixed: the turn goes on -/
def spMixed : Sp := fun vs H Q _ => ∃ (a l c : Addr) (cs : List Int) (r t : Int), vs = [.ref a] ∧ H a = some (.dK (dkv l c r t)) ∧ H c = some (.lst (cs.map V.int)) ∧ a ≠ c ∧ (∀ x ∈ cs, 0 ≤ x) ∧ 0 ≤ t ∧ ∀ n : Int, 0 ≤ n → ∀ p o, p ≠ a → H p = none → Q (.int n) (upd (upd H a (.dK (dkv l c r (t + 1)))) p o)
section
variable {G : Gh} {F : Fr} {w : Addr → Option Nat} {σ : L2.St} {H : Hp} {env : Env} {ts : List (V × S)}
theorem RelW.tokStep (h : RelW G F w σ H env ts) {i : Nat} (e : env[i]? = some .tok) : ∃ a l c, σ[i]? = some (some (.ref a)) ∧ TokOk H a l c ∧
    ∀ H', TokOk H' a l c → (∀ b o, b ≠ a → b ≠ l → b ≠ c → H b = some o → H' b = some o) → RelW G F w σ H' env ts := by
  obtain ⟨a, l, c, ev, wa, wl, wc, tok⟩ := (h.ent i _ e).2
  have eσ : σ[i]? = some (some (.ref a)) := by
    cases q : σ[i]? with
    | none => rw [q] at ev; cases ev
    | some o => rw [q] at ev; rw [show o = some (.ref a) from ev]
  refine ⟨a, l, c, eσ, tok, fun H' tok' k => ?_⟩
  have reg : ∀ b, w b ≠ some (i + 1) → ∀ o, H b = some o → H' b = some o := fun b hb o q => k b o (fun z => hb (by rw [z]; exact wa)) (fun z => hb (by rw [z]; exact wl)) (fun z => hb (by rw [z]; exact wc)) q
  have hle : Le (hide H w) (hide H' w) := hide_mono fun b o q _ r => ⟨q, reg b (by rw [q]; exact fun z => nomatch z) o r⟩
  have nn : ∀ b, H b ≠ none → H' b ≠ none := fun b n z => by
    by_cases hb : b = a ∨ b = l ∨ b = c
    · obtain ⟨ls, cs, r, t, _, _, _, _, q1, q2, q3, _⟩ := tok'
      rcases hb with rfl | rfl | rfl
      · rw [q1] at z; cases z
      · rw [q2] at z; cases z
      · rw [q3] at z; cases z
    · cases q : H b with
      | none => exact n q
      | some o => rw [k b o (fun z => hb (.inl z)) (fun z => hb (.inr (.inl z))) (fun z => hb (.inr (.inr z))) q] at z; cases z
  have mo : ∀ {m : Nat} {v : Option V} {s : S}, m ≠ i + 1 → EntOk G H w σ env m v s → EntOk G H' w σ env m v s := fun {m v s} hm z => z.mono hle fun b q => ⟨q, fun o r => reg b (by rw [q]; exact fun z => hm (Option.some.inj z)) o r⟩
  have hil : i < env.length := (List.getElem?_eq_some_iff.mp e).1
  refine ⟨h.len, fun m s q => ⟨(h.ent m s q).1, ?_⟩, fun j x s q => mo (by omega) (h.tmp j x s q), fun b m q => ⟨(h.own b m q).1, nn b (h.own b m q).2⟩, h.fgn, fun b q => nn b (h.fgh b q), h.keep.step fun b o q n0 n r => ?_, fun b q => nn b (h.there b q), fun p hp => ?_⟩
  · by_cases hm : m = i
    · subst hm
      rw [e] at q
      cases q
      exact ⟨a, l, c, ev, wa, wl, wc, tok'⟩
    · exact mo (by omega) (h.ent m s q).2
  · refine reg b (fun z => ?_) o r
    rcases (h.own b i z).1 with z1 | z1
    · exact q z1
    · exact n0 z1
  · obtain ⟨ls, cs, r, t, _, _, _, _, q1, q2, q3, _⟩ := tok
    have ntok : ∀ {b : Addr} {o : HO}, H b = some o → (∀ kvs, o ≠ .dK kvs) → (∀ xs, o ≠ .lst xs) → H' b = some o := fun {b o} q n1 n2 => k b o (fun z => by rw [z, q1] at q; exact n1 _ (Option.some.inj q).symm) (fun z => by rw [z, q2] at q; exact n2 _ (Option.some.inj q).symm) (fun z => by rw [z, q3] at q; exact n2 _ (Option.some.inj q).symm) q
    obtain ⟨ps, h1, h2, h3⟩ := h.tabs p hp
    refine ⟨ps, ntok h1 (fun _ z => nomatch z) (fun _ z => nomatch z), h2, fun pos cv hc => ?_⟩
    obtain ⟨d, e1, e2⟩ := h3 pos cv hc
    exact ⟨d, e1, ntok e2 (fun _ z => nomatch z) (fun _ z => nomatch z)⟩
/-- a new draw goes to slot i -/
theorem RelW.newTok {i : Nat} {a l c : Addr} {H' : Hp} (h : RelW G F w σ H env ts) (hi : i < σ.length) (hb : ∀ t ∈ ts, t.2 ≠ .bo i) (ext : Ext H H') (ha : H a = none) (hl : H l = none) (hc : H c = none) (tok : TokOk H' a l c) :
    Rel G F (σ.set i (some (.ref a))) H' (env.set i .tok) ts := by
  have h1 := h.forget (i := i) (v := some (.ref a)) hb
  have hil : i < env.length := by rw [h.len]; exact hi
  have wa := h.wfree ha
  have wl := h.wfree hl
  have wc := h.wfree hc
  let w' : Addr → Option Nat := fun b => if b = a ∨ b = l ∨ b = c then some (i + 1) else w b
  have wr : ∀ b, b = a ∨ b = l ∨ b = c → w' b = some (i + 1) ∧ H b = none ∧ w b = none ∧ F.H0 b = none := fun b hb => by
    refine ⟨if_pos hb, ?_⟩
    rcases hb with rfl | rfl | rfl
    · exact ⟨ha, wa, h.h0free ha⟩
    · exact ⟨hl, wl, h.h0free hl⟩
    · exact ⟨hc, wc, h.h0free hc⟩
  have wo : ∀ b, ¬ (b = a ∨ b = l ∨ b = c) → w' b = w b := fun b hb => if_neg hb
  have nr : ∀ b o, H b = some o → w' b = w b := fun b o e => wo b fun z => by rw [(wr b z).2.1] at e; cases e
  have hle : Le (hide H w) (hide H' w') := hide_mono fun b o q _ r => ⟨by rw [nr b o r]; exact q, ext b o r⟩
  have there : ∀ b, H b ≠ none → H' b ≠ none := fun b n => by
    cases q : H b with
    | none => exact absurd q n
    | some o => rw [ext b o q]; exact fun z => nomatch z
  have kw : ∀ m b, w b = some m → w' b = some m ∧ ∀ o, H b = some o → H' b = some o := fun m b q => ⟨by
    by_cases hb : b = a ∨ b = l ∨ b = c
    · rw [(wr b hb).2.2.1] at q; cases q
    · rw [wo b hb]; exact q, fun o r => ext b o r⟩
  have sl : ∀ {m : Nat} {v : Option V} {s : S}, s ≠ .bo i → EntOk G H w (σ.set i (some (.ref a))) (env.set i .no) m v s → EntOk G H' w' (σ.set i (some (.ref a))) (env.set i .tok) m v s := fun {m v s} n z => (z.mono hle fun b q => kw m b q).slots fun k y s2 e0 e1 e2 e3 => by
    have hk : k ≠ i := fun z => n (by rw [e0, z])
    rw [List.getElem?_set_ne (Ne.symm hk)] at e2
    exact ⟨e1, s2, by rw [List.getElem?_set_ne (Ne.symm hk)]; exact e2, e3⟩
  refine ⟨w', by rw [List.length_set, List.length_set]; exact h.len, fun m s q => ?_, fun j x s q => ?_, fun b m q => ?_, fun b => ?_, fun b q => there b (h.fgh b q), h.keep.step fun b o _ _ _ r => ext b o r, fun b q => there b (h.there b q), fun p hp => ?_⟩
  · by_cases hm : m = i
    · subst hm
      rw [List.getElem?_set_self hil] at q
      cases q
      rw [List.getElem?_set_self hi]
      exact ⟨(fun _ z => nomatch z), a, l, c, rfl, (wr a (.inl rfl)).1, (wr l (.inr (.inl rfl))).1, (wr c (.inr (.inr rfl))).1, tok⟩
    · rw [List.getElem?_set_ne (Ne.symm hm)] at q
      have z := h1.ent m s (by rw [List.getElem?_set_ne (Ne.symm hm)]; exact q)
      exact ⟨z.1, sl (z.1 i) z.2⟩
  · have z := h1.tmp j x s q
    rw [List.length_set] at z ⊢
    exact sl (hb _ (List.mem_of_getElem? q)) z
  · by_cases hb : b = a ∨ b = l ∨ b = c
    · obtain ⟨ls, cs, r, t, _, _, _, _, q1, q2, q3, _⟩ := tok
      refine ⟨.inr (wr b hb).2.2.2, ?_⟩
      rcases hb with rfl | rfl | rfl
      · rw [q1]; exact fun z => nomatch z
      · rw [q2]; exact fun z => nomatch z
      · rw [q3]; exact fun z => nomatch z
    · rw [wo b hb] at q
      exact ⟨(h.own b m q).1, there b (h.own b m q).2⟩
  · by_cases hb : b = a ∨ b = l ∨ b = c
    · rw [(wr b hb).1]
      refine ⟨fun z => absurd (wr b hb).2.1 (h.fgh b z), fun z => nomatch z⟩
    · rw [wo b hb]
      exact h.fgn b
  · obtain ⟨ps, h1, h2, h3⟩ := h.tabs p hp
    refine ⟨ps, ext _ _ h1, h2, fun pos cv hc => ?_⟩
    obtain ⟨d, e1, e2⟩ := h3 pos cv hc
    exact ⟨d, e1, ext _ _ e2⟩
end
/-- what a draw tells: any number below -/
def fTake : FD
  | [.int n] => if 0 < n ∧ n < 1073741824 then .ask n.toNat (fun r => .ok (.sh (.int (r : Int))) []) else .bad
  | _ => .bad
def spBegun (K : PySem.W.Frag) : Sp := fun vs H Q _ => ∃ (s : Addr) (ns : List Int), vs = [.ref s] ∧ SqL K H s (ns.map V.int) ∧ ns.length ≤ 1000 ∧ (∀ H', Ext H H' → SqL K H' s (ns.map V.int)) ∧
  ∀ (a l c : Addr) (ls cs : List Int) (H' : Hp), (∀ x ∈ ls, 0 ≤ x) → (∀ x ∈ cs, 0 ≤ x) → H a = none → H l = none → H c = none → a ≠ l → a ≠ c → l ≠ c → Ext H H' → H' a = some (.dK (dkv l c 0 0)) → H' l = some (.lst (ls.map V.int)) → H' c = some (.lst (cs.map V.int)) → Q (.ref a) H'
/-- draw = _law_begun(script) -/
def dBegun (i j : Nat) : DenS := fun env => match (env[j]? : Option S) with
  | some (.sh (.fz ns)) => if ns.length ≤ 1000 then .ok .next (env.set i .tok) else .bad
  | _ => .bad
section
variable {X : Cx} {G : Gh} {W : WX} {fx : Nat → Bool}
theorem ds_begun {i j k m : Nat} {x y z : Str} {f : Addr} {fdd : FuncData} {p p2 p3 pos pos2 : Pos} (tk : Takes X W) (Fk : FnOk X.prog X.w X.K X.mg X.base (L2.CX X.prog X.w) k f fdd ["script"] (spBegun G.K)) (hr : Room m X.A) (hkm : k ≤ m) (hm : X.mg z = some (.ref f)) (hk : PySem.W.keepIn X.K (.ref f) = true) (hb : L2.Binds X.K fdd ["script"] [])
    (hN : X.N.Nodup) (hi : X.N[i]? = some x) (hx : Loc X.env.scope x) (hfx : fx i = false) (ha : PE X (.Name y p2) (tVar j)) (hg : Gl X z := by rfl) (hdb : (z == ("__debug__" : Str)) = false := by decide) (he : starEach [.Name y p2] X.env = (false, eval (.Name y p2) X.env) :: starEach [] X.env := by rfl) (hpl : (backTo pos2 (starEach [] X.env)).any (·.1) = false := by rfl)
    (hs : swapsWith (.Call (.Name z p3) [.Name y p2] [] pos2) (some (.Name x p)) pos.line X.env = pure false := by rfl) (hf : X.fn x = true ∨ X.env.scope.names.lookup x = some .local := by first | exact .inl rfl | exact .inr rfl | assumption) :
    PS X (.Assign [.Name x p] (.Call (.Name z p3) [.Name y p2] [] pos2) pos) (tS G W fx (dBegun i j)) := by
  refine psImp (ps_set hN hi hx (pe_callS Fk (hr.mono hkm) hg hm hk hb (fun σ => passAt tk σ) (pa_cons ha pa_nil he) hdb he hpl) hs hf) fun Dn σ H ⟨F, bs, env, ⟨w, h⟩, q⟩ => ?_
  unfold dBegun at q
  split at q
  case h_2 => exact q.elim
  rename_i ns ej
  split at q
  case isFalse => exact q.elim
  rename_i hl
  obtain ⟨x', ex, r⟩ := (h.ent j _ ej).2
  cases r with
  | @fz s _ hs2 =>
    have eσ : σ[j]? = some (some (.ref s)) := by
      cases e : σ[j]? with
      | none => rw [e] at ex; cases ex
      | some z => rw [e] at ex; rw [show z = some (.ref s) from ex]
    have hS : FzX G.K H s ns := FzX.le hs2 hide_le
    have stay : ∀ H', Ext H H' → SqL G.K H' s (ns.map V.int) := fun H' e => by
      rcases hS with ⟨o, h⟩ | h
      · exact .inl (.inr ⟨o, e _ _ h⟩)
      · exact .inr h
    refine ⟨.ref s, eσ, s, ns, rfl, hS.sq, hl, stay, fun a l c ls cs H' h1 h2 ha hl hc n1 n2 n3 e q1 q2 q3 => ?_⟩
    have tok : TokOk H' a l c := ⟨ls, cs, 0, 0, Int.le_refl _, Int.le_refl _, h1, h2, q1, q2, q3, n1, n2, n3⟩
    refine q (σ.set i (some (.ref a))) H' (Fix.refl.set hfx) ?_
    by_cases hi2 : i < σ.length
    · exact h.newTok hi2 shs_nb e ha hl hc tok
    · rw [List.set_eq_of_length_le (Nat.le_of_not_lt hi2), List.set_eq_of_length_le (by rw [h.len]; exact Nat.le_of_not_lt hi2)]
      exact ⟨w, h.ext e⟩
end
/-- _law_begun by its name -/
structure BegF (P : Program) (wl : World) (G : Gh) (mg : Str → Option Value) (base : Heap) (k : Nat) (x : Str) : Prop where
  ex : ∃ f fdd, FnOk P wl G.K mg base (L2.CX P wl) k f fdd ["script"] (spBegun G.K) ∧ mg x = some (.ref f) ∧ PySem.W.keepIn G.K (.ref f) = true ∧ L2.Binds G.K fdd ["script"] []
section
variable {X : Cx} {G : Gh} {W : WX} {fx : Nat → Bool}
theorem ds_begunF {i j k m : Nat} {x y z : Str} {p p2 p3 pos pos2 : Pos} (tk : Takes X W) (c : BegF X.prog X.w G X.mg X.base k z) (hr : Room m X.A) (hkm : k ≤ m) (hN : X.N.Nodup) (hi : X.N[i]? = some x) (hx : Loc X.env.scope x) (hfx : fx i = false) (ha : PE X (.Name y p2) (tVar j)) (hK : X.K = G.K := by rfl) (hg : Gl X z := by rfl) (hdb : (z == ("__debug__" : Str)) = false := by decide) (he : starEach [.Name y p2] X.env = (false, eval (.Name y p2) X.env) :: starEach [] X.env := by rfl) (hpl : (backTo pos2 (starEach [] X.env)).any (·.1) = false := by rfl)
    (hs : swapsWith (.Call (.Name z p3) [.Name y p2] [] pos2) (some (.Name x p)) pos.line X.env = pure false := by rfl) (hf : X.fn x = true ∨ X.env.scope.names.lookup x = some .local := by first | exact .inl rfl | exact .inr rfl | assumption) :
    PS X (.Assign [.Name x p] (.Call (.Name z p3) [.Name y p2] [] pos2) pos) (tS G W fx (dBegun i j)) := by
  obtain ⟨f, fdd, F, hm, hkp, hb⟩ := c.ex
  exact ds_begun tk (by rw [hK]; exact F) hr hkm hm (by rw [hK]; exact hkp) (by rw [hK]; exact hb) hN hi hx hfx ha hg hdb he hpl hs hf
end
theorem dp_ints {K : PySem.W.Frag} {H : Hp} : ∀ ls : List Int, DpAll K H (ls.map V.int) (ls.map PyData.int)
  | [] => .nil
  | n :: ls => .cons (.int n) (dp_ints ls)
theorem shaped_ints (ls : List Int) : SeqAt.shaped (.list (ls.map PyData.int)) = true := by
  show (PyData.canLayAll0 _ && decide (PyData.depthAll _ + 1 ≤ 64)) = true
  rw [lay_ints, depth_ints0]
  rfl
end T

/-! TDict: dicts whose keys are tuples. -/
namespace T
open PySem PySem.Spec PyProof.Rows L2

/-- a key: a tuple of such as may be one -/
def keyX : D → Option NestedKey
  | .tup ds => match nkD (.tup ds) with
    | some k => if k.depth ≤ 8 then some k else none
    | none => none
  | _ => none
theorem keyX_tup {kd : D} {k : NestedKey} (h : keyX kd = some k) : (∃ ds, kd = .tup ds) ∧ (∃ ks, k = .tup ks) ∧ nkD kd = some k ∧ k.depth ≤ 8 := by
  unfold keyX at h
  split at h
  case h_2 => cases h
  rename_i ds
  split at h
  case h_2 => cases h
  rename_i k' e
  split at h
  case isFalse => cases h
  rename_i hd
  cases h
  refine ⟨⟨ds, rfl⟩, ?_, e, hd⟩
  rw [nkD] at e
  split at e
  · cases e; exact ⟨_, rfl⟩
  · cases e
def getX : List (D × D) → NestedKey → Option D
  | [], _ => none
  | (kd, d) :: r, k => if nkD kd = some k then some d else getX r k
def putX : List (D × D) → NestedKey → D → D → List (D × D)
  | [], _, kd, d => [(kd, d)]
  | (k0, d0) :: r, k, kd, d => if nkD k0 = some k then (k0, d) :: r else (k0, d0) :: putX r k kd d
def getV : List (NestedKey × Addr × V) → NestedKey → Option V
  | [], _ => none
  | (k0, _, v) :: r, k => if k0 = k then some v else getV r k
def putV : List (NestedKey × Addr × V) → NestedKey → Addr → V → List (NestedKey × Addr × V)
  | [], k, b, v => [(k, b, v)]
  | (k0, b0, v0) :: r, k, b, v => if k0 = k then (k0, b0, v) :: r else (k0, b0, v0) :: putV r k b v
abbrev KF : NestedKey × Addr × V → NestedKey × Addr × Value → Prop := fun p q => p.1 = q.1 ∧ p.2.1 = q.2.1 ∧ RelV p.2.2 q.2.2
theorem putV_len {k : NestedKey} {b : Addr} {v : V} : ∀ kvs, (putV kvs k b v).length ≤ kvs.length + 1
  | [] => Nat.le_refl _
  | (k0, b0, v0) :: r => by
    rw [putV]
    split
    · exact Nat.le_succ _
    · exact Nat.succ_le_succ (putV_len r)
theorem putV_ne (kvs : List (NestedKey × Addr × V)) (k : NestedKey) (b : Addr) (v : V) : putV kvs k b v ≠ [] := by
  cases kvs with
  | nil => exact fun z => nomatch z
  | cons p r =>
    obtain ⟨k0, b0, v0⟩ := p
    rw [putV]
    split <;> exact fun z => nomatch z
theorem storedH_cons {k0 k : NestedKey} {b0 b : Addr} {v0 v : Value} {xs : List (NestedKey × Addr × Value)} (hn : k0 ∉ xs.map (·.1)) : storedH ((k0, b0, v0) :: xs) k b v = if k0 = k then (k0, b0, v) :: xs else (k0, b0, v0) :: storedH xs k b v := by
  by_cases h : k0 = k
  · subst h
    rw [if_pos rfl, storedH_old (p := (b0, v0)) (by simp [atKey])]
    rw [List.map_cons, putAt, if_pos rfl]
    congr 1
    refine (List.map_congr_left fun x hx => ?_).trans (List.map_id' xs)
    rw [putAt, if_neg fun e => hn (List.mem_map.mpr ⟨x, hx, e⟩)]
  · rw [if_neg h]
    have e : atKey ((k0, b0, v0) :: xs) k = atKey xs k := by simp [atKey, List.find?_cons, h]
    unfold storedH
    rw [e]
    split
    · rw [List.map_cons]
      congr 1
      rw [putAt, if_neg h]
    · rfl
theorem put_pair {k : NestedKey} {b : Addr} {v : V} {u : Value} (rv : RelV v u) : ∀ {kvs : List (NestedKey × Addr × V)} {xs : List (NestedKey × Addr × Value)}, Paired KF kvs xs → (xs.map (·.1)).Nodup → Paired KF (putV kvs k b v) (storedH xs k b u)
  | _, _, .nil, _ => .cons ⟨rfl, rfl, rv⟩ .nil
  | (k0, b0, v0) :: kvs, (k1, b1, u1) :: xs, .cons h t, hn => by
    obtain ⟨e1, e2, e3⟩ := h
    cases (show k0 = k1 from e1)
    cases (show b0 = b1 from e2)
    rw [List.map_cons, List.nodup_cons] at hn
    rw [storedH_cons hn.1, putV]
    split
    · exact .cons ⟨rfl, rfl, rv⟩ t
    · exact .cons ⟨rfl, rfl, e3⟩ (put_pair rv t hn.2)
theorem get_pair {k : NestedKey} {v : V} : ∀ {kvs : List (NestedKey × Addr × V)} {xs : List (NestedKey × Addr × Value)}, Paired KF kvs xs → getV kvs k = some v → ∃ p, atKey xs k = some p ∧ RelV v p.2
  | _, _, .nil, h => nomatch h
  | (k0, b0, v0) :: kvs, (k1, b1, u1) :: xs, .cons h t, e => by
    obtain ⟨e1, e2, e3⟩ := h
    cases (show k0 = k1 from e1)
    rw [getV] at e
    by_cases q : k0 = k
    · rw [if_pos q] at e
      cases e
      exact ⟨(b1, u1), by simp [atKey, q], e3⟩
    · rw [if_neg q] at e
      obtain ⟨p, ep, rp⟩ := get_pair t e
      exact ⟨p, by simpa [atKey, List.find?_cons, q] using ep, rp⟩
theorem keys_pair : ∀ {kvs : List (NestedKey × Addr × V)} {xs : List (NestedKey × Addr × Value)}, Paired KF kvs xs → kvs.map (·.1) = xs.map (·.1)
  | _, _, .nil => rfl
  | _, _, .cons h t => by
    rw [List.map_cons, List.map_cons, keys_pair t]
    congr 1
    exact h.1
section
variable {G : Gh} {B H : Hp}
theorem RepX.put {k : NestedKey} {b : Addr} {v : V} {kd d : D} (rk : Rep G B (.ref b) kd) (ek : nkD kd = some k) (hd : k.depth ≤ 8) (rv : Rep G B v d) : ∀ {kvs : List (NestedKey × Addr × V)} {ds : List (D × D)}, RepX G B kvs ds → RepX G B (putV kvs k b v) (putX ds k kd d)
  | _, _, .nil => .cons rk ek hd rv .nil
  | _, _, .cons (k := k0) r0 e0 d0 v0 t => by
    rw [putV, putX, e0]
    by_cases q : k0 = k
    · rw [if_pos q, if_pos (congrArg some q)]
      exact .cons r0 e0 d0 rv t
    · rw [if_neg q, if_neg fun z => q (Option.some.inj z)]
      exact .cons r0 e0 d0 v0 (RepX.put rk ek hd rv t)
theorem RepX.get {k : NestedKey} {d : D} : ∀ {kvs : List (NestedKey × Addr × V)} {ds : List (D × D)}, RepX G B kvs ds → getX ds k = some d → ∃ v, getV kvs k = some v ∧ Rep G B v d
  | _, _, .nil, e => nomatch e
  | _, _, .cons (k := k0) (v := v) r0 e0 d0 v0 t, e => by
    rw [getX, e0] at e
    rw [getV]
    by_cases q : k0 = k
    · rw [if_pos (congrArg some q)] at e
      cases e
      rw [if_pos q]
      exact ⟨v, rfl, v0⟩
    · rw [if_neg fun z => q (Option.some.inj z)] at e
      rw [if_neg q]
      exact RepX.get t e
theorem RepX.le' {B B' : Hp} (e : Le B B') : ∀ {kvs : List (NestedKey × Addr × V)} {ds : List (D × D)}, RepX G B kvs ds → RepX G B' kvs ds
  | _, _, .nil => .nil
  | _, _, .cons r0 e0 d0 v0 t => .cons (Rep.le e r0) e0 d0 (Rep.le e v0) (RepX.le' e t)
theorem RepX.len : ∀ {kvs : List (NestedKey × Addr × V)} {ds : List (D × D)}, RepX G B kvs ds → kvs.length = ds.length
  | _, _, .nil => rfl
  | _, _, .cons _ _ _ _ t => congrArg Nat.succ (RepX.len t)
/-- an int or a text is no tuple -/
theorem RepK.noX {k : NestedKey} (hk : ∃ ks, k = .tup ks) : ∀ {kvs : List (Key × V)} {ds : List (D × D)}, RepK G B kvs ds → getX ds k = none
  | _, _, .nil => rfl
  | _, _, .cons (k := k0) _ t => by
    obtain ⟨ks, rfl⟩ := hk
    rw [getX, if_neg]
    · exact RepK.noX ⟨ks, rfl⟩ t
    · cases k0 with
      | inl i => exact fun z => nomatch z
      | inr x => exact fun z => nomatch z
end
section
variable {X : Cx} {G : Gh} {pins : List (Addr × Obj)} {σ : L2.St} {H B : Hp} {s : Shared}
theorem nest_of (I : Inv X pins σ H s) (hK : X.K = G.K) (le : Le B H) {v : V} {d : D} (r : Rep G B v d) : ∀ k, nkD d = some k → ∀ u, RelV v u → NestedIs s.heap k u := by
  refine Rep.rec (G := G) (B := B) (motive_1 := fun v d _ => ∀ k, nkD d = some k → ∀ u, RelV v u → NestedIs s.heap k u) (motive_2 := fun vs ds _ => ∀ ks, nkDs ds = some ks → ∀ us, Vals vs us → NestedAll s.heap ks us) (motive_3 := fun _ _ _ => True) (motive_4 := fun _ _ _ => True)
    ?_ ?_ ?_ ?_ ?_ ?_ ?_ ?_ ?_ ?_ ?_ ?_ ?_ ?_ ?_ ?_ r
  · intro k e u ru; cases e; cases (show u = Value.none from ru); exact .none
  · intro b k e u ru; cases e; cases (show u = Value.bool b from ru); exact .bool rfl
  · intro i k e u ru; cases e; obtain ⟨t, rfl⟩ := ru; exact .int i t
  · intro x k e u ru; cases e; obtain ⟨t, rfl⟩ := ru; exact .text x t
  · intro a o u _ k e; cases e
  · intro a xs ds h _ ih k e u ru
    cases (show u = Value.ref a from ru)
    rw [nkD] at e
    split at e
    case h_2 => cases e
    rename_i ks ek
    cases e
    rcases TupX.le h le with ⟨o, ho, _⟩ | ⟨o, its, n, ho, hc, _, hd, _, hv⟩
    · obtain ⟨_, _, its, hv, o', h1, h2, n, h3⟩ := I.hok a _ ho
      exact .tup h1 h2 h3 (ih ks ek its hv)
    · refine .tup (I.kIn a o (by rw [hK]; exact ho)) hc hd (ih ks ek _ hv)
  · intro a xs ds h _ ih k e; cases e
  · intro a ns h k e; cases e
  · intro a kvs ds h _ ih k e; cases e
  · intro a kvs ds ob h x _ ih k e; cases e
  · intro ks e us ru; cases e; cases ru; exact .nil
  · intro v vs d ds _ _ h1 h2 ks e us ru
    rw [nkDs] at e
    split at e
    case h_2 => cases e
    rename_i k ks' e1 e2
    cases e
    cases ru with
    | cons a b => exact .cons (h1 k e1 _ a) (h2 ks' e2 _ b)
  all_goals intros; exact True.intro
theorem DX.held {a : Addr} {kvs : List (NestedKey × Addr × V)} {ds : List (D × D)} {ob : Obj} (x : DX G a kvs ob) (hp : X.prog = G.P) (hw : X.w = G.w) (hK : X.K = G.K) (I : Inv X pins σ H s) (e : s.heap.get? a = some ob) (le : Le B H) (r : RepX G B kvs ds) :
    ∃ xs, s.heap.DictOfH (nestedKind X.prog X.w) a xs ∧ Paired KF kvs xs := by
  obtain ⟨es, ep, xs, h1, h2, h3⟩ := x.es
  refine ⟨xs, ⟨ob, es, ep, e, x.ex, h1, by rw [hp, hw]; exact h2, ?_, by rw [← keys_pair h3]; exact x.nd⟩, h3⟩
  have go : ∀ {kvs : List (NestedKey × Addr × V)} {ds : List (D × D)} {xs : List (NestedKey × Addr × Value)}, RepX G B kvs ds → Paired KF kvs xs → ∀ q ∈ xs, (nestedKind X.prog X.w).is s.heap q.1 q.2.1 := by
    intro kvs ds xs r t
    induction t generalizing ds with
    | nil => intro q hq; cases hq
    | @cons p q kvs xs h t ih =>
      cases r with
      | @cons k b v _ kd d _ rk ek hd rv rt =>
        obtain ⟨e1, e2, _⟩ := h
        intro q' hq
        rcases List.mem_cons.mp hq with rfl | hq
        · exact ⟨by rw [← e1, ← e2]; exact nest_of I hK le rk k ek _ rfl, by rw [← e1]; exact hd⟩
        · exact ih rt q' hq
  exact go r h3
theorem DX.made {h' : Heap} {a : Addr} {kvs : List (NestedKey × Addr × V)} {xs : List (NestedKey × Addr × Value)} (hp : X.prog = G.P) (hw : X.w = G.w) (dd : h'.DictOfH (nestedKind X.prog X.w) a xs) (t : Paired KF kvs xs) (hl : kvs.length ≤ sizeLine) (sm : (a == sysModules) = false) (hne : kvs ≠ []) :
    ∃ ob, h'.get? a = some ob ∧ DX G a kvs ob := by
  obtain ⟨ob, es, ep, e, ex, h1, h2, _, h4⟩ := dd
  exact ⟨ob, e, ex, ⟨es, ep, xs, h1, by rw [← hp, ← hw]; exact h2, t⟩, by rw [keys_pair t]; exact h4, hl, sm, hne⟩
/-- the dict under way at D -/
def DicAt (G : Gh) (H : Hp) (p : Addr) (kvs : List (NestedKey × Addr × V)) : Prop := (∃ ob, H p = some (exO p ob) ∧ DX G p kvs ob) ∨ (H p = some (.dK []) ∧ kvs = [])
theorem DicAt.held {p : Addr} {kvs : List (NestedKey × Addr × V)} {ds : List (D × D)} (x : DicAt G H p kvs) (hp : X.prog = G.P) (hw : X.w = G.w) (hK : X.K = G.K) (I : Inv X pins σ H s) (le : Le B H) (r : RepX G B kvs ds) :
    (∃ xs, s.heap.DictOfH (nestedKind X.prog X.w) p xs ∧ Paired KF kvs xs) ∧ kvs.length ≤ sizeLine ∧ (p == sysModules) = false ∧ Mut (H p) := by
  rcases x with ⟨ob, e, x⟩ | ⟨e, rfl⟩
  · exact ⟨x.held hp hw hK I (I.hok p _ e).1 le r, x.len, x.sm, by rw [e]; exact True.intro⟩
  · obtain ⟨z, sm, vs, rel, o, es, ep, h1, h2, h3, h4, h5, h6⟩ := dk_of I.hok e
    refine ⟨⟨[], ⟨o, es, ep, h1, h2, h3, ?_, fun _ q => (List.not_mem_nil q).elim, List.nodup_nil⟩, .nil⟩, Nat.zero_le _, sm, by rw [e]; exact True.intro⟩
    cases rel
    cases q : es.toList with
    | nil => rfl
    | cons a r => rw [q] at h5; cases h5
/-- d[k] = v by a comprehension, k a tuple -/
theorem dictSetX {E : Value → Shared → Prop} {p : Addr} {kvs : List (NestedKey × Addr × V)} {ds : List (D × D)} {k : NestedKey} {b : Addr} {kd : D} {v : V} {u : Value} {Q : Unit → Shared → Prop} (I : Inv X pins σ H s) (hp : X.prog = G.P) (hw : X.w = G.w) (hK : X.K = G.K) (hu : X.A.units + 8 < cLine)
    (hat : DicAt G H p kvs) (le : Le B H) (rx : RepX G B kvs ds) (rk : Rep G B (.ref b) kd) (ek : nkD kd = some k) (hd : k.depth ≤ 8) (rv : RelV v u) (hz : kvs.length < sizeLine)
    (h : ∀ s' ob, DX G p (putV kvs k b v) ob → Inv X pins σ (upd H p (exO p ob)) s' → Q () s') : wpAny (model X.prog X.w) X.A (dictSet p (.ref b) u) Q E s := by
  obtain ⟨⟨xs, dd, t⟩, _, sm, mu⟩ := hat.held hp hw hK I le rx
  have hzx : xs.length ≤ sizeLine := by rw [← t.length]; exact Nat.le_of_lt hz
  refine wpAny_dictSet_heap (knd := nestedKind X.prog X.w) (hsz := hzx) hu ⟨nest_of I hK le rk k ek _ rfl, hd⟩ dd fun h' dd' hs => ?_
  obtain ⟨ob, e, x⟩ := DX.made hp hw dd' (put_pair rv t dd.nodup) (Nat.le_trans (putV_len kvs) hz) sm (putV_ne _ _ _ _)
  exact h _ ob x (d_write I mu hs ⟨ob, e⟩ ⟨e, ⟨ob, e⟩, fun h1 h2 q k => k _ q⟩)
end
/-- what a turn of a dict comprehension asks -/
def stepX (G : Gh) (g : TG) (tt : TT) (tk tv : TE) (vs : List Nat) (σ : L2.St) (D : Addr) : V → Hp → (Hp → Prop) → Prop := fun x H' Nx => g x (wipe σ vs) H' fun σ2 H2 => wipe σ2 vs = wipe σ vs ∧ tt σ2 H2 fun b H3 =>
    if b = true then tk σ2 H3 fun y H4 => tv σ2 H4 fun z H5 => ∃ B kvs ds k b kd, y = .ref b ∧ DicAt G H5 D kvs ∧ Le B H5 ∧ RepX G B kvs ds ∧ Rep G B (.ref b) kd ∧ nkD kd = some k ∧ k.depth ≤ 8 ∧ kvs.length < sizeLine ∧
      ∀ ob, DX G D (putV kvs k b z) ob → Nx (upd H5 D (exO D ob)) else Nx H3
def tDcX (G : Gh) (wi : TI) (g : TG) (tt : TT) (tk tv : TE) (vs : List Nat) : TE := fun σ H Q => wi σ H fun J H1 => ∀ D, H1 D = none → ∃ W : Nat → Nat → Hp → Prop, (∃ m, W 0 m (upd H1 D (.dK []))) ∧ ∀ i m H, W i m H →
  (J.stop i H ∧ Q (.ref D) H) ∨ (J.go i H ∧ ∃ Nx : Hp → Prop, (∀ H', Nx H' → ∃ m', m' < m ∧ W (i + 1) m' H') ∧ ∀ x H', J.yld i H x H' → stepX G g tt tk tv vs σ D x H' Nx)
section
variable {X : Cx} {G : Gh}
theorem dcX_core {pins : List (Addr × Obj)} {s : Shared} {σ : L2.St} {H : Hp} {Q : VK} {kx vx tg iter : Expr} {ifs : List Expr} {scope : Scope} {own : List (Str × Nat)} {pos pos' : Pos} {wi : TI} {g : TG} {tt : TT} {tk tv : TE} {use : Option (Value → Sem Unit)} {Qf : Value → Shared → Prop}
    (hp : X.prog = G.P) (hw : X.w = G.w) (hK : X.K = G.K) (hu : X.A.units + 8 < cLine) (hc : X.calm = true) (hN : X.N.Nodup) (I : Inv X pins σ H s) (hi : PI X tg iter wi) (ok : BlkOk X.N X.env.scope scope own)
    (hg : ∀ (s : Shared) (H : Hp) (C : Addr) (cl : List (Str × Addr)) (fp : List Addr), PG (X.blk s H scope (compEnvC scope cl C X.env) fp) tg g) (ht : ∀ (s : Shared) (H : Hp) (C : Addr) (cl : List (Str × Addr)) (fp : List Addr), PTs (X.blk s H scope (compEnvC scope cl C X.env) fp) ifs tt)
    (hk : ∀ (s : Shared) (H : Hp) (C : Addr) (cl : List (Str × Addr)) (fp : List Addr), PE (X.blk s H scope (compEnvC scope cl C X.env) fp) kx tk)
    (he : ∀ (s : Shared) (H : Hp) (C : Addr) (cl : List (Str × Addr)) (fp : List Addr), PE (X.blk s H scope (compEnvC scope cl C X.env) fp) vx tv) (hs : ∀ x, foldedSetIterable iter X.env x = pure x)
    (h : tDcX G wi g tt tk tv (own.map (·.2)) σ H Q)
    (hRR : ∀ D C s' m H', Inv X pins σ H' s' → Q (.ref D) H' → s'.heap.Ns C m → FpOk X pins H' C → compPost (model X.prog X.w) X.A X.xe use Qf (.ref D) C (.ok .next) s') :
    wpAny (model X.prog X.w) X.A (comprehension (.DictComp kx vx [⟨tg, iter, ifs, 0⟩] scope pos) scope X.env pos' newDict false (eval iter X.env) use) Qf X.xe s := by
  have hfree : ∀ y ∈ scope.names, y.2 = .free → ∃ c, X.env.cells.lookup y.1 = some c := fun y hy e => by
    rcases ok.free y hy e with k | k
    · exact I.ok.has _ (.inl k)
    · exact I.ok.has _ (.inr k)
  refine wpAny_comprehension_free (use := use) rfl hs (closure_ok hfree) ok.kind (fun y hy e => by rw [ok.uniq y hy, e])
    (thn (hi.run pins s σ H _ I h) fun xv s1 hx => thn hx fun itv s2 h2 => ?_)
  obtain ⟨it, fp, tn, J, H2, e, I2, T, st2, f2, q⟩ := h2
  subst e
  refine wpAny_newObj_type (newEnv_comp ?_)
  generalize hD : s2.heap.objs.size = D
  have hDn : H2 D = none := I2.hok.fresh (Nat.le_of_eq hD)
  obtain ⟨W, ⟨m0, w0⟩, turn⟩ := q D hDn
  -- the new list
  generalize hs3 : ({ s2 with heap := s2.heap.push { cls := .type "dict", data := .dict #[] } } : Shared) = s3
  have I3 : Inv X pins σ (upd H2 D (.dK [])) s3 := by
    rw [← hs3]
    refine I2.laid (t' := s2.toks) (fun b o e => Heap.get?_push_of_some _ e) (Nat.le_of_eq hD) ?_
    rw [← hD]
    exact dk_empty s2.heap I2.big
  have h3 : s3.heap = s2.heap.push { cls := .type "dict", data := .dict #[] } := by rw [← hs3]
  have sz : ∀ b ∈ fp, b < s2.heap.objs.size := fun b hb => by
    obtain ⟨o, e, _⟩ := T.obj _ _ st2 b hb
    exact Heap.lt_size e
  have f3 : ∀ b ∈ fp, FpOk X pins (upd H2 D (.dK [])) b ∧ b < s3.heap.objs.size := fun b hb => by
    have hlt := sz b hb
    refine ⟨⟨?_, (f2 b hb).2⟩, by rw [h3, Heap.size_push]; exact Nat.lt_succ_of_lt hlt⟩
    rw [upd_ne (by rw [← hD]; exact Nat.ne_of_lt hlt)]
    exact (f2 b hb).1
  have st3 : tn 0 s3.heap := T.keep _ _ _ st2 fun b _ o e => by rw [h3]; exact Heap.get?_push_of_some _ e
  have I4 := block_start I3 ok hN f3
  have pg := hg s3 (upd H2 D (.dK [])) s3.heap.objs.size (cellsFrom (s3.heap.objs.size + 1) scope.names (cloFrom X.env.cells scope.names [])) fp
  have pt := ht s3 (upd H2 D (.dK [])) s3.heap.objs.size (cellsFrom (s3.heap.objs.size + 1) scope.names (cloFrom X.env.cells scope.names [])) fp
  have pk := hk s3 (upd H2 D (.dK [])) s3.heap.objs.size (cellsFrom (s3.heap.objs.size + 1) scope.names (cloFrom X.env.cells scope.names [])) fp
  have pe := he s3 (upd H2 D (.dK [])) s3.heap.objs.size (cellsFrom (s3.heap.objs.size + 1) scope.names (cloFrom X.env.cells scope.names [])) fp
  show codeAny _ _ (.compStart (.DictComp kx vx [⟨tg, iter, ifs, 0⟩] scope pos) 0 (.ref it) (.ref D) (compEnvC scope (cellsFrom (s3.heap.objs.size + 1) scope.names (cloFrom X.env.cells scope.names [])) s3.heap.objs.size X.env)) (compPost (model X.prog X.w) X.A X.xe use Qf (.ref D) s3.heap.objs.size) { s3 with heap := pushCells (s3.heap.push { cls := .type "dict", data := .dict #[] }) scope.names }
  have nfp : ∀ b ∈ fp, (upd H2 D (.dK [])) b = none := fun b hb => (f3 b hb).1.1
  generalize hce : compEnvC scope (cellsFrom (s3.heap.objs.size + 1) scope.names (cloFrom X.env.cells scope.names [])) s3.heap.objs.size X.env = ce at I4 pg pt pk pe ⊢
  have cL : ce.locals = s3.heap.objs.size := by subst hce; rfl
  generalize hH3 : upd H2 D (.dK []) = H3 at I3 I4 pg pt pk pe w0 nfp f3
  generalize hs4 : ({ s3 with heap := pushCells (s3.heap.push { cls := .type "dict", data := .dict #[] }) scope.names } : Shared) = s4 at I4 ⊢
  have st4 : tn 0 s4.heap := T.keep _ _ _ st3 fun b _ o e => by rw [← hs4]; exact pushCells_keeps _ _ _ _ (Heap.get?_push_of_some _ e)
  have stat : ∀ {σ' : L2.St} {H' : Hp} {s' : Shared}, Inv (X.blk s3 H3 scope ce fp) [] σ' H' s' → (∀ b ∈ fp, H' b = none) → ∀ b ∈ fp, FpOk (X.blk s3 H3 scope ce fp) [] H' b := fun {σ' H' s'} I' hn b hb =>
    ⟨hn b hb, (I'.ok.exf b hb).1, I'.ok.exfs b hb, .inl hb, fun x c e => (I'.ok.exf b hb).2 x c e, fun p hp => absurd (show p ∈ ([] : List (Addr × Obj)) ++ [] from hp) (by simp)⟩
  have loop : codeAny (model X.prog X.w) X.A (.compLoop (.DictComp kx vx [⟨tg, iter, ifs, 0⟩] scope pos) 0 (.ref it) (.ref D) ce) (compPost (model X.prog X.w) X.A X.xe use Qf (.ref D) s3.heap.objs.size) s4 := by
    refine compLoop_anyD (fun n s' => ∃ i H', Inv (X.blk s3 H3 scope ce fp) [] (wipe σ (own.map (·.2))) H' s' ∧ tn i s'.heap ∧ (∀ b ∈ fp, H' b = none) ∧ W i n H') ?_ m0 ⟨0, H3, I4, st4, nfp, w0⟩
    rintro n s5 ⟨i, H5, I5, st5, n5, w5⟩
    rcases turn i n H5 w5 with ⟨stop, qq⟩ | ⟨go, Nx, hNx, step⟩
    · have td := T.done (X.blk s3 H3 scope ce fp) rfl rfl rfl hc i [] s5 _ H5 (fun _ _ => False) I5 (stat I5 n5) st5 stop
      refine thnF td fun r s6 ⟨hr, I6⟩ => ?_
      subst hr
      -- back in the def's context
      have I7 : Inv X pins σ H5 s6 := I3.call' (ch := fp) I6.os I6.base I6.hok I6.bare fun b hb => ⟨(f3 b hb).1.2.2.2.1, (f3 b hb).1.2.1, (f3 b hb).1.2.2.2.2.1, (f3 b hb).1.2.2.2.2.2⟩
      have nC : H5 s3.heap.objs.size = none := by
        have z : H5 ce.locals = none := I6.free
        rw [cL] at z
        exact z
      obtain ⟨m, hn, _⟩ := I6.loc
      have hn : s6.heap.Ns ce.locals m := hn
      rw [cL] at hn
      exact hRR D s3.heap.objs.size s6 m H5 I7 qq hn (I3.fpOk (Nat.le_refl _) nC)
    · have ti := T.item (X.blk s3 H3 scope ce fp) rfl rfl rfl hc i [] s5 _ H5 (fun _ _ => False) I5 (stat I5 n5) st5 go
      refine thnF ti fun r s6 ⟨u, hr, h6⟩ => ?_
      subst hr
      refine thnF h6 fun _ s7 ⟨x, H7, I7, r7, y7, st7, n7⟩ => ?_
      have I7' := I7.pinned (stat I7 n7) (T.obj _ _ st7)
      refine thnF (pg.run _ s7 _ H7 x u _ I7' r7 (step x H7 y7)) fun _ s8 ⟨σ8, H8, I8, hw8, q8⟩ => ?_
      refine thnF (pt.run _ s8 σ8 H8 _ I8 q8) fun b s9 ⟨H9, I9, q9⟩ => ?_
      -- the turn's end
      have fin : ∀ {s' : Shared} {H' : Hp}, Inv (X.blk s3 H3 scope ce fp) ([] ++ pinsAt fp s7.heap) σ8 H' s' → Nx H' → ∃ m, m < n ∧ ∃ i H', Inv (X.blk s3 H3 scope ce fp) [] (wipe σ (own.map (·.2))) H' s' ∧ tn i s'.heap ∧ (∀ b ∈ fp, H' b = none) ∧ W i m H' := fun {s' H'} I' nx => by
        obtain ⟨m', hm, w'⟩ := hNx H' nx
        have pin' : ∀ b ∈ fp, ∀ o, s7.heap.get? b = some o → s'.heap.get? b = some o ∧ H' b = none := fun b hb o e =>
          let z := I'.pin (b, o) (List.mem_append_right _ (List.mem_append_right _ (mem_pinsAt hb e)))
          ⟨z.1, z.2.1⟩
        have hl : (wipe σ (own.map (·.2))).length = σ8.length := by rw [← hw8, wipe_length]
        refine ⟨m', hm, i + 1, H', (I'.unpinned (pins := [])).weak hl (fun j v e => ?_), T.keep _ _ _ st7 fun b hb o e => (pin' b hb o e).1, fun b hb => ?_, w'⟩
        · rw [← hw8] at e
          exact (wipe_some e).1
        · obtain ⟨o, e, _⟩ := T.obj _ _ st7 b hb
          exact (pin' b hb o e).2
      cases b with
      | false =>
        simp only [Bool.false_eq_true, if_false] at q9 ⊢
        exact fin I9 q9
      | true =>
        simp only [if_true] at q9 ⊢
        refine thnF (pk.run _ s9 σ8 H9 _ I9 q9) fun z s10 ⟨yk, H10, I10, r10, q10⟩ => ?_
        refine thnF (pe.run _ s10 σ8 H10 _ I10 q10) fun z2 s11 ⟨yv, H11, I11, r11, Bx, kvs, ds, k, bk, kd, ek, hat, hle, hrx, hrk, hnk, hdp, hz11, nx⟩ => ?_
        subst ek
        cases (show z = Value.ref bk from r10)
        exact dictSetX (X := X.blk s3 H3 scope ce fp) I11 hp hw hK hu hat hle hrx hrk hnk hdp r11 hz11 fun s12 ob hdx I12 => fin I12 (nx ob hdx)
  exact codeAny_compStart_dict loop (T.self X.A 0 _ _ _ st4 loop)
theorem pe_dcX {kx vx tg iter : Expr} {ifs : List Expr} {scope : Scope} {own : List (Str × Nat)} {pos : Pos} {wi : TI} {g : TG} {tt : TT} {tk tv : TE} (hp : X.prog = G.P) (hw : X.w = G.w) (hK : X.K = G.K) (hu : X.A.units + 8 < cLine) (hc : X.calm = true) (hN : X.N.Nodup) (hi : PI X tg iter wi) (ok : BlkOk X.N X.env.scope scope own)
    (hg : ∀ (s : Shared) (H : Hp) (C : Addr) (cl : List (Str × Addr)) (fp : List Addr), PG (X.blk s H scope (compEnvC scope cl C X.env) fp) tg g) (ht : ∀ (s : Shared) (H : Hp) (C : Addr) (cl : List (Str × Addr)) (fp : List Addr), PTs (X.blk s H scope (compEnvC scope cl C X.env) fp) ifs tt)
    (hk : ∀ (s : Shared) (H : Hp) (C : Addr) (cl : List (Str × Addr)) (fp : List Addr), PE (X.blk s H scope (compEnvC scope cl C X.env) fp) kx tk)
    (he : ∀ (s : Shared) (H : Hp) (C : Addr) (cl : List (Str × Addr)) (fp : List Addr), PE (X.blk s H scope (compEnvC scope cl C X.env) fp) vx tv) (hs : ∀ x, foldedSetIterable iter X.env x = pure x := by intro _; rfl) :
    PE X (.DictComp kx vx [⟨tg, iter, ifs, 0⟩] scope pos) (tDcX G wi g tt tk tv (own.map (·.2))) := by
  refine ⟨fun pins s σ H Q I h => ?_⟩
  rw [arm_eval_DictComp]
  refine dcX_core hp hw hK hu hc hN I hi ok hg ht hk he hs h fun D C s' m H' I' q hn f => ⟨m, hn, fun h'' sb => ?_⟩
  obtain ⟨f0, f1, f2, f3, f4, f5⟩ := f
  exact ⟨.ref D, H', I'.turned (t' := s'.toks) (fun b o hb e => (sb.2 b hb).trans e) f0 f1 f3 f4 f5, rfl, q⟩
end
/-! ### the trees -/
def accN (acc : List (D × D)) : Option (D × D) → Option (List (D × D))
  | none => some acc
  | some (kd, v) => match keyX kd with
    | some k => if acc.length < 16777216 then some (putX acc k kd v) else none
    | none => none
def dDLoop (body : D → Env → Res (Option (D × D))) : List D → List (D × D) → Env → Res (List (D × D))
  | [], acc, e => .ok acc e
  | d :: r, acc, e => (body d e).bind fun o e1 => match accN acc o with
    | some acc' => dDLoop body r acc' e1
    | none => .bad
def eltX (g : D → Env → Option Env) (t : Env → Res Bool) (fk fv : Den) (own : List Nat) : D → Env → Res (Option (D × D)) := fun d e => match g d e with
  | some e1 => (t e1).bind fun b e2 => if b = true then (fk e2).bind fun sk e3 => (match esc e3 sk with
      | some (kd, e4) => (fv e4).bind fun sv e5 => (match esc e5 sv with
          | some (vd, e6) => .ok (some (kd, vd)) (wipeE e6 own)
          | none => .bad)
      | none => .bad) else .ok none (wipeE e2 own)
  | none => .bad
def dDc (src : Env → Res (List D)) (g : D → Env → Option Env) (t : Env → Res Bool) (fk fv : Den) (own : List Nat) : Den := fun env => (src env).bind fun ds e => if okOwn e own = true then
  (dDLoop (eltX g t fk fv own) ds [] (wipeE e own)).nx.bind fun out e' => .ok (.ow (.dic out)) (restE e e' own) else .bad
def TK (acc : List (D × D)) : Prop := ∀ p ∈ acc, ∃ xs, p.1 = D.tup xs
theorem TK.put {k : NestedKey} {kd d : D} (hk : ∃ xs, kd = .tup xs) : ∀ {acc : List (D × D)}, TK acc → TK (putX acc k kd d)
  | [], _, p, hp => by
    rw [putX, List.mem_singleton] at hp
    rw [hp]
    exact hk
  | (k0, d0) :: r, h, p, hp => by
    rw [putX] at hp
    split at hp
    · rcases List.mem_cons.mp hp with rfl | hp
      · exact h (k0, d0) List.mem_cons_self
      · exact h p (List.mem_cons_of_mem _ hp)
    · rcases List.mem_cons.mp hp with rfl | hp
      · exact h (k0, d0) List.mem_cons_self
      · exact TK.put hk (fun p hp => h p (List.mem_cons_of_mem _ hp)) p hp
theorem putX_len {k : NestedKey} {kd d : D} : ∀ acc : List (D × D), (putX acc k kd d).length ≤ acc.length + 1
  | [] => Nat.le_refl _
  | (k0, d0) :: r => by
    rw [putX]
    split
    · exact Nat.le_succ _
    · exact Nat.succ_le_succ (putX_len r)
theorem accN_inv {acc acc' : List (D × D)} {o : Option (D × D)} (h : accN acc o = some acc') (t : TK acc) (hn : acc.length ≤ 16777216) : TK acc' ∧ acc'.length ≤ 16777216 := by
  cases o with
  | none => cases h; exact ⟨t, hn⟩
  | some p =>
    obtain ⟨kd, v⟩ := p
    rw [accN] at h
    split at h
    case h_2 => cases h
    rename_i k ek
    split at h
    case isFalse => cases h
    rename_i hl
    cases h
    exact ⟨t.put (keyX_tup ek).1, Nat.le_trans (putX_len acc) hl⟩
section
variable {G : Gh} {F : Fr} {W : WX} {σ : L2.St} {H : Hp} {env : Env} {ts : List (V × S)} {X : Cx} {fx : Nat → Bool} {bs : List (V × D)} {w : Addr → Option Nat}
theorem own_dic {a : Addr} {B : Hp} {o : HO} {ds : List (D × D)} (h : OwnO G a B o (.dic ds)) (t : TK ds) : ∃ kvs, RepX G B kvs ds ∧ ((∃ ob, o = exO a ob ∧ DX G a kvs ob) ∨ (o = .dK [] ∧ kvs = [])) := by
  cases h with
  | dK r =>
    cases r with
    | nil => exact ⟨[], .nil, .inr ⟨rfl, rfl⟩⟩
    | @cons k v kvs d ds _ _ =>
      obtain ⟨xs, e⟩ := t (keyD k, d) List.mem_cons_self
      cases k with
      | inl i => cases e
      | inr x => cases e
  | @dX kvs ds ob x r => exact ⟨kvs, r, .inl ⟨ob, rfl, x⟩⟩
theorem last3 {α : Type} (l : List α) (a b c : α) : (((l ++ [a]) ++ [b]) ++ [c])[l.length + 2]? = some c := by
  have z := last2 (l ++ [a]) b c
  rwa [List.length_append, List.length_singleton] at z
theorem setL3 {α : Type} (l : List α) (a b c d : α) : (((l ++ [a]) ++ [b]) ++ [c]).set (l.length + 2) d = ((l ++ [a]) ++ [b]) ++ [d] := by
  have z := setL2 (l ++ [a]) b c d
  rwa [List.length_append, List.length_singleton] at z
theorem eltX_of {pr : Bool} {base : List (V × S)} {A : Addr} {g : D → Env → Option Env} {t : Env → Res Bool} {fk fv : Den} {own : List Nat} (nb : ∀ i ∈ own, ∀ t ∈ base, t.2 ≠ .bo i) (x : V) (d : D) (H : Hp) (e : Env) (acc : List (D × D)) (Nx : Hp → Prop) (w : Addr → Option Nat) (tk : TK acc) (h4 : RelW G F w (wipe σ own) H e (base ++ [(.ref A, .ow (.dic acc))])) (rx : Itm G pr H (hide H w) x d)
    (q4 : (eltX g t fk fv own d e).wp (fun o e1 => ∃ acc', accN acc o = some acc' ∧ ∀ H', Rel G F (wipe σ own) H' e1 (base ++ [(.ref A, .ow (.dic acc'))]) → Nx H') (fun _ _ => False)) :
    stepX G (tG G pr (fun i => !decide (i ∈ own)) g) (tT G W0 t) (tD G W0 fk) (tD G W0 fv) own σ A x H Nx := by
  have nb1 : ∀ (acc : List (D × D)), ∀ i ∈ own, ∀ t ∈ base ++ [((.ref A : V), S.ow (.dic acc))], t.2 ≠ .bo i := fun acc i hi t ht => by
    rcases List.mem_append.mp ht with ht | ht
    · exact nb i hi t ht
    · rw [List.mem_singleton.mp ht]
      exact fun z => nomatch z
  unfold eltX at q4
  split at q4
  case h_2 => exact q4.elim
  rename_i e3 eg
  refine ⟨F, _, e, w, _, e3, h4, fun i hi => nb1 acc i (by simpa using hi), rx, eg, fun σ3 H3 w3 f3 h5 => ?_⟩
  have hw3 : wipe σ3 own = wipe σ own := wipe_fix f3
  refine ⟨hw3, ?_⟩
  rw [Res.wp_bind] at q4
  refine ⟨F, _, e3, ⟨w3, h5⟩, Res.wp_mono q4 (fun b e4 q4 H4 h6 => ?_) fun _ _ z => z.elim⟩
  obtain ⟨w6, h6⟩ := h6
  cases b with
  | false =>
    rw [if_neg Bool.false_ne_true] at q4 ⊢
    have h7 := h6.wipes (nb1 acc)
    rw [hw3] at h7
    obtain ⟨acc', ea, q5⟩ := q4
    cases ea
    exact q5 H4 ⟨w6, h7⟩
  | true =>
    rw [if_pos rfl] at q4 ⊢
    rw [Res.wp_bind] at q4
    refine ⟨F, _, e4, ⟨w6, h6⟩, Res.wp_mono q4 (fun sk e5 q4 y H5 h8 => ?_) fun _ _ z => z.elim⟩
    obtain ⟨w8, h8⟩ := h8
    split at q4
    case h_2 => exact q4.elim
    rename_i kd e6 ek
    obtain ⟨w9, h9, _⟩ := h8.esc (j := base.length + 1) (x := y) (s := sk) (last2 ..) ek
    rw [setL2] at h9
    rw [Res.wp_bind] at q4
    refine ⟨F, _, e6, ⟨w9, h9⟩, Res.wp_mono q4 (fun sv e7 q4 z H6 ha => ?_) fun _ _ z => z.elim⟩
    obtain ⟨wa, ha⟩ := ha
    split at q4
    case h_2 => exact q4.elim
    rename_i vd e8 ev
    obtain ⟨wb, hb, _⟩ := ha.esc (j := base.length + 2) (x := z) (s := sv) (last3 ..) ev
    rw [setL3] at hb
    have hz : Rep G (hide H6 wb) z vd := by
      obtain ⟨x', ex, r⟩ := hb.tmp (base.length + 2) z (.sh vd) (last3 ..)
      cases ex
      exact r
    have hc := hb.drop
    have hy : Rep G (hide H6 wb) y kd := by
      obtain ⟨x', ex, r⟩ := hc.tmp (base.length + 1) y (.sh kd) (last2 ..)
      cases ex
      exact r
    have hd := hc.drop
    obtain ⟨acc', ea, q5⟩ := q4
    rw [accN] at ea
    split at ea
    case h_2 => cases ea
    rename_i k hk
    split at ea
    case isFalse => cases ea
    rename_i hlt
    cases ea
    obtain ⟨⟨xs, rfl⟩, _, hnk, hdp⟩ := keyX_tup hk
    obtain ⟨a', o', ea, _, ho, _, hO⟩ := hd.tmp base.length (.ref A) (.ow (.dic acc)) (last1 ..)
    cases ea
    obtain ⟨kvs, hr, ho'⟩ := own_dic hO tk
    cases hy with
    | @tup b vs _ hy1 hy2 =>
      refine ⟨hide H6 wb, kvs, acc, k, b, .tup xs, rfl, ?_, hide_le, hr, .tup hy1 hy2, hnk, hdp, by rw [hr.len]; exact hlt, fun ob hob => ?_⟩
      · rcases ho' with ⟨ob, rfl, x⟩ | ⟨rfl, e⟩
        · exact .inl ⟨ob, ho, x⟩
        · exact .inr ⟨ho, e⟩
      · have he := (hd.mutT (o' := exO A ob) (d' := .dic (putX acc k (.tup xs) vd)) True.intro (.dX hob (hr.put (.tup hy1 hy2) hnk hdp hz))).wipes (nb1 _)
        rw [hw3] at he
        exact q5 _ ⟨_, he⟩
/-- a walk whose turns put into the dict at A -/
theorem loopX_of {pr : Bool} {base : List (V × S)} {A : Addr} {body : D → Env → Res (Option (D × D))} {J : It} {us : List (V × D)} {ds : List D} {acc : List (D × D)} {Nd : Hp → Prop} {P : V → Hp → (Hp → Prop) → Prop} {w : Addr → Option Nat}
    (wk : Walk G pr J us ds) (hb : ∀ p ∈ us, (p.1, S.sh p.2) ∈ base)
    (hP : ∀ (x : V) (d : D) (H : Hp) (e : Env) (acc : List (D × D)) (Nx : Hp → Prop) (w : Addr → Option Nat), TK acc → RelW G F w σ H e (base ++ [(.ref A, .ow (.dic acc))]) → Itm G pr H (hide H w) x d →
      (body d e).wp (fun o e1 => ∃ acc', accN acc o = some acc' ∧ ∀ H', Rel G F σ H' e1 (base ++ [(.ref A, .ow (.dic acc'))]) → Nx H') (fun _ _ => False) → P x H Nx)
    (h : RelW G F w σ H env (base ++ [(.ref A, .ow (.dic acc))])) (tk : TK acc) (hn : acc.length ≤ 16777216)
    (q : (dDLoop body ds acc env).wp (fun out e' => ∀ H', Rel G F σ H' e' (base ++ [(.ref A, .ow (.dic out))]) → Nd H') (fun _ _ => False)) :
    ∃ W : Nat → Nat → Hp → Prop, (∃ m, W 0 m H) ∧ ∀ i m H, W i m H → (J.stop i H ∧ Nd H) ∨ (J.go i H ∧ ∃ Nx : Hp → Prop, (∀ H', Nx H' → ∃ m', m' < m ∧ W (i + 1) m' H') ∧ ∀ x H', J.yld i H x H' → P x H' Nx) := by
  refine ⟨fun i m H' => m = ds.length - i ∧ i ≤ ds.length ∧ ∃ w2 e2 acc2, TK acc2 ∧ acc2.length ≤ 16777216 ∧ RelW G F w2 σ H' e2 (base ++ [(.ref A, .ow (.dic acc2))]) ∧
    (dDLoop body (ds.drop i) acc2 e2).wp (fun out e' => ∀ H', Rel G F σ H' e' (base ++ [(.ref A, .ow (.dic out))]) → Nd H') (fun _ _ => False), ⟨ds.length, by omega, by omega, w, env, acc, tk, hn, h, by rw [List.drop_zero]; exact q⟩, ?_⟩
  rintro i m H2 ⟨rfl, hi, w2, e2, acc2, tk2, hn2, h4, q4⟩
  have hus : Has G us (hide H2 w2) H2 := ⟨hide_le, fun p hp => by
    obtain ⟨j, hj⟩ := List.getElem?_of_mem (hb p hp)
    obtain ⟨x', ex, r⟩ := h4.tmp j p.1 (.sh p.2) (by rw [List.getElem?_append_left (List.getElem?_eq_some_iff.mp hj).1]; exact hj)
    cases ex
    exact r⟩
  by_cases hlt : i < ds.length
  · rw [List.drop_eq_getElem_cons hlt, dDLoop, Res.wp_bind] at q4
    refine .inr ⟨wk.go i _ _ hlt hus, fun H' => ∃ w2 e2 acc2, TK acc2 ∧ acc2.length ≤ 16777216 ∧ RelW G F w2 σ H' e2 (base ++ [(.ref A, .ow (.dic acc2))]) ∧
      (dDLoop body (ds.drop (i + 1)) acc2 e2).wp (fun out e' => ∀ H', Rel G F σ H' e' (base ++ [(.ref A, .ow (.dic out))]) → Nd H') (fun _ _ => False), fun H' z => ⟨ds.length - (i + 1), by omega, rfl, hlt, z⟩, fun x H' hy => ?_⟩
    obtain ⟨eH, d, ed, rx⟩ := wk.yld i _ _ x H' hlt hus hy
    have h4 := h4.ext eH
    have rx := rx.le (hide_ext eH)
    rw [List.getElem?_eq_getElem hlt] at ed
    cases ed
    refine hP x _ _ e2 acc2 _ w2 tk2 h4 rx (Res.wp_mono q4 (fun o e3 q5 => ?_) fun _ _ z => z)
    split at q5
    case h_2 => exact q5.elim
    rename_i acc' ea
    refine ⟨acc', ea, fun H3 ⟨w3, h5⟩ => ?_⟩
    obtain ⟨t', n'⟩ := accN_inv ea tk2 hn2
    exact ⟨w3, e3, acc', t', n', h5, q5⟩
  · refine .inl ⟨wk.stop i _ _ (by omega) hus, ?_⟩
    rw [List.drop_eq_nil_of_le (by omega), dDLoop] at q4
    exact q4 H2 ⟨w2, h4⟩
theorem tDc_of {pr : Bool} {src : Env → Res (List D)} {g : D → Env → Option Env} {t : Env → Res Bool} {fk fv : Den} {own : List Nat} {Q : VK} (h : tD G W (dDc src g t fk fv own) σ H Q) :
    tDcX G (tI G pr W src) (tG G pr (fun i => !decide (i ∈ own)) g) (tT G W0 t) (tD G W0 fk) (tD G W0 fv) own σ H Q := by
  obtain ⟨F, ts, env, h, q⟩ := h
  rw [dDc, Res.wp_bind] at q
  refine ⟨F, ts, env, h, Res.wp_mono q (fun ds e q J us H1 w1 h1 hu wk A hA => ?_) fun _ _ z => z⟩
  split at q
  case isFalse => exact q.elim
  rename_i ok
  rw [Res.wp_bind, Res.wp_nx] at q
  obtain ⟨h2, nb⟩ := base_of h1 ok hu
  obtain ⟨w3, h3, _⟩ := h2.pushOut (v := .ref A) (s := .ow (.dic [])) (Out.newOw hA (.dK .nil) True.intro)
  refine loopX_of (P := fun x H' Nx => stepX G (tG G pr (fun i => !decide (i ∈ own)) g) (tT G W0 t) (tD G W0 fk) (tD G W0 fv) own σ A x H' Nx) wk (fun p hp => List.mem_append_right _ (List.mem_map.mpr ⟨p, List.mem_append_left _ hp, rfl⟩)) (fun x d H e acc Nx w tk hr rx q => eltX_of nb x d H e acc Nx w tk hr rx q) h3 (fun _ hp => (List.not_mem_nil hp).elim) (Nat.zero_le _) (Res.wp_mono q (fun out e' q H' ⟨w4, h4⟩ => ?_) fun _ _ z => z)
  exact q (.ref A) H' (RelW.unsav h1 ok (us := us) h4 (wipe_idem own))
theorem de_dc {kx vx tg iter : Expr} {ifs : List Expr} {scope : Scope} {own : List (Str × Nat)} {pos : Pos} {src : Env → Res (List D)} {g : D → Env → Option Env} {t : Env → Res Bool} {fk fv : Den} {ov : List Nat} {pr : Bool} (hp : X.prog = G.P) (hw : X.w = G.w) (hK : X.K = G.K) (hu : X.A.units + 64 < cLine) (hc : X.calm = true) (hN : X.N.Nodup) (hi : PI X tg iter (tI G pr W src)) (ok : BlkOk X.N X.env.scope scope own) (ho : own.map (·.2) = ov)
    (hg : AtBlk X scope fun X => PG X tg (tG G pr (fun i => !decide (i ∈ ov)) g)) (ht : AtBlk X scope fun X => PTs X ifs (tT G W0 t)) (hk : AtBlk X scope fun X => PE X kx (tD G W0 fk)) (he : AtBlk X scope fun X => PE X vx (tD G W0 fv)) (hs : ∀ x, foldedSetIterable iter X.env x = pure x := by intro _; rfl) :
    PE X (.DictComp kx vx [⟨tg, iter, ifs, 0⟩] scope pos) (tD G W (dDc src g t fk fv ov)) := by
  subst ho
  exact peImp (pe_dcX hp hw hK (by omega) hc hN hi ok hg ht hk he hs) fun σ H Q h => tDc_of h
end
/-! ### d[k] -/
def opIxA : D → D → Option S
  | .dic ds, .tup ks => match keyX (.tup ks) with
    | some k => (getX ds k).map S.sh
    | none => none
  | .dic ds, .int i => (getX ds (.num i)).map S.sh
  | .dic ds, .str x => (getX ds (.text x)).map S.sh
  | a, b => opIx a b
def rIxX (G : Gh) : R2 := fun x y H Q => ∃ a ob kvs B ds b kd k v, x = .ref a ∧ y = .ref b ∧ RdX H a ob ∧ DX G a kvs ob ∧ Le B H ∧ RepX G B kvs ds ∧ Rep G B (.ref b) kd ∧ nkD kd = some k ∧ k.depth ≤ 8 ∧ getV kvs k = some v ∧ Q v H
def rIxK : R2 := fun x y H Q => ∃ a v, x = .ref a ∧ DGet H a y (some v) ∧ Q v H
section
variable {X : Cx} {G : Gh}
theorem ix_dX (hp : X.prog = G.P) (hw : X.w = G.w) (hK : X.K = G.K) (hu : X.A.units + 64 < cLine) : IxR X (rIxX G) := by
  intro value slice pins s σ H x y v u Q I rx ry h hs
  obtain ⟨a, ob, kvs, B, ds, b, kd, k, z, rfl, rfl, ha, hx, le, rr, rk, ek, hd, hg, q⟩ := h
  cases (show v = Value.ref a from rx)
  cases (show u = Value.ref b from ry)
  have e : s.heap.get? a = some ob := by
    rcases ha with ha | ⟨o, ha⟩
    · exact (I.hok a _ ha).1
    · exact (I.hok a _ ha).2.1
  obtain ⟨xs, dd, t⟩ := hx.held hp hw hK I e le rr
  obtain ⟨p, ep, rp⟩ := get_pair t hg
  have hroom : X.A.in1.units + 8 < cLine := by
    show X.A.units + 1 + 8 < cLine
    omega
  exact tail_any dd.typeIs slot_dict_getitem.lookup (wpAny_getItem_heap (knd := nestedKind X.prog X.w) hroom ⟨nest_of I hK le rk k ek _ rfl, hd⟩ dd ep ⟨z, H, I.tok _, rp, q⟩) hs
theorem ix_dK (hu : X.A.units + 64 < cLine) : IxR X rIxK := by
  intro value slice pins s σ H x y v u Q I rx ry h hs
  obtain ⟨a, z, rfl, hg, q⟩ := h
  cases (show v = Value.ref a from rx)
  exact tail_any (dict_typeIs I hg) slot_dict_getitem.lookup (d_getItem (by omega) I hg ry fun w' s' I' rw' => ⟨z, H, I', rw', q⟩) hs
theorem ix_any (hp : X.prog = G.P) (hw : X.w = G.w) (hK : X.K = G.K) (hu : X.A.units + 64 < cLine) : IxR X (fun x y H Q => rIx G.K x y H Q ∨ rIxX G x y H Q ∨ rIxK x y H Q) :=
  IxR.or (by rw [← hK]; exact ix_seq) (IxR.or (ix_dX hp hw hK hu) (ix_dK hu))
def nkK : Key → NestedKey
  | .inl i => .num i
  | .inr x => .text x
theorem nkD_key (k : Key) : nkD (keyD k) = some (nkK k) := by cases k <;> rfl
theorem nkK_inj {j k : Key} (h : nkK j = nkK k) : j = k := by
  cases j <;> cases k <;> cases h <;> rfl
theorem RepK.getX {B : Hp} {k : Key} {d : D} : ∀ {kvs : List (Key × V)} {ds : List (D × D)}, RepK G B kvs ds → getX ds (nkK k) = some d → ∃ v, valV kvs k = some v ∧ Rep G B v d
  | _, _, .nil, e => nomatch e
  | _, _, .cons (k := k0) (v := v) (kvs := kvs) r t, e => by
    rw [T.getX, nkD_key] at e
    by_cases q : k0 = k
    · subst q
      rw [if_pos rfl] at e
      cases e
      exact ⟨v, by simp [valV], r⟩
    · rw [if_neg fun z => q (nkK_inj (Option.some.inj z))] at e
      obtain ⟨v', e', r'⟩ := RepK.getX t e
      exact ⟨v', by simpa [valV, List.find?_cons, q] using e', r'⟩
theorem RepX.noK {B : Hp} {k : Key} : ∀ {kvs : List (NestedKey × Addr × V)} {ds : List (D × D)}, RepX G B kvs ds → getX ds (nkK k) = none
  | _, _, .nil => rfl
  | _, _, .cons rk ek _ _ t => by
    rw [getX, if_neg]
    · exact RepX.noK t
    · rw [ek]
      intro z
      cases z
      cases rk with
      | tup _ _ =>
        rw [nkD] at ek
        split at ek
        · cases k <;> cases ek
        · cases ek
      | ext v => cases ek
      | _ => cases ek
theorem s_ixA : OpS G (fun x y H Q => rIx G.K x y H Q ∨ rIxX G x y H Q ∨ rIxK x y H Q) opIxA := by
  intro H B x y a b s Q le ra rb e q
  have other : opIx a b = some s → rIx G.K x y H Q ∨ rIxX G x y H Q ∨ rIxK x y H Q := fun e => .inl (s_ix H B x y a b s Q le ra rb e q)
  have key : ∀ (k : Key) (ds : List (D × D)) {y : V}, BRep G H B x (.dic ds) → y = kV k → (getX ds (nkK k)).map S.sh = some s → rIx G.K x y H Q ∨ rIxX G x y H Q ∨ rIxK x y H Q := fun k ds {y} ra ey e => by
    obtain ⟨d, ed, rfl⟩ := Option.map_eq_some_iff.mp e
    cases ra with
    | @dK a kvs _ h1 h2 =>
      obtain ⟨v, ev, rv⟩ := h2.getX ed
      exact .inr (.inr ⟨a, v, rfl, .inl ⟨kvs, k, h1, ey, ev.symm⟩, q _ _ (Out.val rv)⟩)
    | dX _ _ h3 => rw [h3.noK] at ed; cases ed
  unfold opIxA at e
  split at e
  · rename_i ds ks
    split at e
    case h_2 => cases e
    rename_i k hk
    obtain ⟨_, hks, hnk, hdp⟩ := keyX_tup hk
    obtain ⟨d, ed, rfl⟩ := Option.map_eq_some_iff.mp e
    cases ra with
    | dK _ h2 => rw [h2.noX hks] at ed; cases ed
    | @dX a kvs _ ob h1 h2 h3 =>
      cases rb with
      | @tup b vs _ t1 t2 =>
        obtain ⟨v, ev, rv⟩ := h3.get ed
        exact .inr (.inl ⟨a, ob, kvs, B, ds, b, .tup ks, k, v, rfl, rfl, h1, h2, le, h3, .tup t1 t2, hnk, hdp, ev, q _ _ (Out.val rv)⟩)
  · rename_i ds i
    cases rb
    exact key (.inl i) ds ra rfl e
  · rename_i ds z
    cases rb
    exact key (.inr z) ds ra rfl e
  · exact other e
end
end T

/-! TPut: {} and d[k] = v as a statement. -/
namespace T
open PySem PySem.Spec PyProof.Rows L2
def keyK : D → Option Key
  | .int i => some (.inl i)
  | .str x => some (.inr x)
  | _ => none
def putM (ds : List (D × D)) (k : Key) (d : D) : List (D × D) := if (ds.any fun p => decide (keyK p.1 = some k)) = true then ds.map (fun p => if keyK p.1 = some k then (p.1, d) else p) else ds ++ [(keyD k, d)]
def isKd (p : D × D) : Bool := (keyK p.1).isSome
def isTd (p : D × D) : Bool := match p.1 with
  | .tup _ => true
  | _ => false
def putD (ds : List (D × D)) (kd d : D) : Option (List (D × D)) := if ds.length < 16777216 then (match keyK kd with
    | some k => if ds.all isKd = true then some (putM ds k d) else none
    | none => (match keyX kd with
      | some k => if ds.all isTd = true then some (putX ds k kd d) else none
      | none => none)) else none
theorem keyK_D (k : Key) : keyK (keyD k) = some k := by cases k <;> rfl
theorem keyK_some {d : D} {k : Key} (h : keyK d = some k) : d = keyD k := by
  cases d <;> cases h <;> rfl
section
variable {G : Gh} {B : Hp}
theorem RepK.any (k : Key) : ∀ {kvs : List (Key × V)} {ds : List (D × D)}, RepK G B kvs ds → (kvs.any fun kv => decide (kv.1 = k)) = ds.any fun p => decide (keyK p.1 = some k)
  | _, _, .nil => rfl
  | _, _, .cons (k := k0) rv t => by
    rw [List.any_cons, List.any_cons, RepK.any k t]
    show (decide (k0 = k) || _) = (decide (keyK (keyD k0) = some k) || _)
    rw [keyK_D]
    by_cases h : k0 = k
    · rw [h, decide_eq_true rfl, decide_eq_true rfl]
    · rw [decide_eq_false h, decide_eq_false fun z => h (Option.some.inj z)]
theorem RepK.map {k : Key} {v : V} {d : D} (rv : Rep G B v d) : ∀ {kvs : List (Key × V)} {ds : List (D × D)}, RepK G B kvs ds → RepK G B (kvs.map fun kv => if kv.1 = k then (kv.1, v) else kv) (ds.map fun p => if keyK p.1 = some k then (p.1, d) else p)
  | _, _, .nil => .nil
  | _, _, .cons (k := k0) (v := v0) (d := d0) r0 t => by
    rw [List.map_cons, List.map_cons]
    show RepK G B ((if k0 = k then (k0, v) else (k0, v0)) :: _) ((if keyK (keyD k0) = some k then (keyD k0, d) else (keyD k0, d0)) :: _)
    rw [keyK_D]
    by_cases h : k0 = k
    · rw [if_pos h, if_pos (by rw [h])]
      exact .cons rv (RepK.map rv t)
    · rw [if_neg h, if_neg fun z => h (Option.some.inj z)]
      exact .cons r0 (RepK.map rv t)
theorem RepK.snoc {k : Key} {v : V} {d : D} (rv : Rep G B v d) : ∀ {kvs : List (Key × V)} {ds : List (D × D)}, RepK G B kvs ds → RepK G B (kvs ++ [(k, v)]) (ds ++ [(keyD k, d)])
  | _, _, .nil => .cons rv .nil
  | _, _, .cons r0 t => .cons r0 (RepK.snoc rv t)
theorem RepK.put {k : Key} {v : V} {d : D} {kvs : List (Key × V)} {ds : List (D × D)} (r : RepK G B kvs ds) (rv : Rep G B v d) : RepK G B (L2.putK kvs k v) (putM ds k d) := by
  unfold L2.putK putM
  rw [r.any k]
  split
  · exact r.map rv
  · exact r.snoc rv
/-- who holds it: whole numbers and texts for keys -/
theorem own_dK {a : Addr} {o : HO} {ds : List (D × D)} (h : OwnO G a B o (.dic ds)) (t : ds.all isKd = true) : ∃ kvs, RepK G B kvs ds ∧ o = .dK kvs := by
  cases h with
  | dK r => exact ⟨_, r, rfl⟩
  | @dX kvs ds ob x r =>
    cases r with
    | nil => exact (x.ne rfl).elim
    | cons rk ek hd rv rt =>
      rw [List.all_cons, Bool.and_eq_true] at t
      have z := t.1
      cases rk <;> cases z
end
/-- a dict's item is stored -/
def rSetD (G : Gh) : TSet := fun o i v H Q => (∃ a kvs k, o = .ref a ∧ i = kV k ∧ H a = some (.dK kvs) ∧ kvs.length < sizeLine ∧ Q (upd H a (.dK (L2.putK kvs k v)))) ∨
  ∃ a kvs B ds b k kd, o = .ref a ∧ i = .ref b ∧ DicAt G H a kvs ∧ Le B H ∧ RepX G B kvs ds ∧ Rep G B (.ref b) kd ∧ nkD kd = some k ∧ k.depth ≤ 8 ∧ kvs.length < sizeLine ∧ ∀ ob, DX G a (putV kvs k b v) ob → Q (upd H a (exO a ob))
section
variable {X : Cx} {G : Gh}
theorem pset_dict (hp : X.prog = G.P) (hw : X.w = G.w) (hK : X.K = G.K) (hu : X.A.units + 64 < cLine) : PSet X (rSetD G) := by
  intro pins s σ H o i v ov iv u Q I ro ri rv h
  rcases h with ⟨a, kvs, k, rfl, rfl, e, hl, q⟩ | ⟨a, kvs, B, ds, b, k, kd, rfl, rfl, hat, le, rx, rk, ek, hd, hz, q⟩
  · cases (show ov = Value.ref a from ro)
    exact d_setItem (by omega) I (DPut.k e hl) ri rv fun s' I' => ⟨_, I', q⟩
  · cases (show ov = Value.ref a from ro)
    cases (show iv = Value.ref b from ri)
    obtain ⟨⟨xs, dd, t⟩, _, sm, mu⟩ := hat.held hp hw hK I le rx
    have hzx : xs.length ≤ sizeLine := by rw [← t.length]; exact Nat.le_of_lt hz
    have hroom : X.A.in1.units + 8 < cLine := by
      show X.A.units + 1 + 8 < cLine
      omega
    refine wpAny_setItem_heap (knd := nestedKind X.prog X.w) (hsz := hzx) hroom ⟨nest_of I hK le rk k ek _ rfl, hd⟩ dd fun h' dd' hs => ?_
    obtain ⟨ob, e, x⟩ := DX.made hp hw dd' (put_pair rv t dd.nodup) (Nat.le_trans (putV_len kvs) hz) sm (putV_ne _ _ _ _)
    exact ⟨upd H a (exO a ob), d_write I mu hs ⟨ob, e⟩ ⟨e, ⟨ob, e⟩, fun h1 h2 q k => k _ q⟩, q ob x⟩
end
def isDc : Option S → Bool
  | some (.ow (.dic _)) => true
  | _ => false
/-- a key that a plain expression gives -/
def keyOf : Res S → Option (D × Env)
  | .ok (.sh k) e => some (k, e)
  | _ => none
def putAt (i : Nat) (d : D) : Option (D × Env) → Option Env
  | some (k, e) => (match (e[i]? : Option S) with
    | some (.ow (.dic ds)) => (putD ds k d).map fun ds' => e.set i (.ow (.dic ds'))
    | _ => none)
  | none => none
def gPut (i : Nat) (f : Den) : D → Env → Option Env := fun d env => if isDc env[i]? = true then putAt i d (keyOf (f env)) else none
theorem isDc_at {o : Option S} (h : isDc o = true) : ∃ xs, o = some (.ow (.dic xs)) := by
  unfold isDc at h
  split at h
  · exact ⟨_, rfl⟩
  · cases h
section
variable {G : Gh} {F : Fr} {W : WX} {w : Addr → Option Nat} {σ : L2.St} {H : Hp} {env : Env} {ts : List (V × S)} {X : Cx} {fx : Nat → Bool}
theorem dg_put {i : Nat} {x : Str} {p pos : Pos} {e : Expr} {f : Den} (hp : X.prog = G.P) (hw : X.w = G.w) (hu : X.A.units + 64 < cLine) (hN : X.N[i]? = some x) (hv : Vis X.env.scope x) (he : PE X e (tD G W0 f)) (hK : X.K = G.K := by rfl) (hd : (x == ("__debug__" : Str)) = false := by decide) (hcd : (x == ("__classdict__" : Str)) = false := by decide)
    (ha : ∀ v, assign (.Subscript (.Name x p) e pos) X.env v = (do
      let ov ← holding [v] (eval (.Name x p) X.env)
      let iv ← holding [v, ov] (eval e X.env)
      standAt pos
      holding [v, ov, iv] (setItem ov iv v)
      release [v, ov, iv] []) := by intro _; rfl) : PG X (.Subscript (.Name x p) e pos) (tG G false fx (gPut i f)) := by
  refine pgImp (pg_sub (pe_var hN hv hd hcd) he (pset_dict hp hw hK hu) ha) fun v σ H Q ⟨F, ts, env, w, d, e', h, nb, r, eg, q⟩ => ?_
  rw [gPut] at eg
  split at eg
  case isFalse => cases eg
  rename_i hi
  obtain ⟨xs, ex⟩ := isDc_at hi
  obtain ⟨a, o, e1, e2, e3, _, e4⟩ := h.owned ex
  cases ef : f env with
  | ok s e2' =>
    rw [ef] at eg
    cases s with
    | sh dk =>
      simp only [keyOf, putAt] at eg
      split at eg
      case h_2 => cases eg
      rename_i ds exd
      cases ep : putD ds dk d with
      | none => rw [ep] at eg; cases eg
      | some ds' =>
        rw [ep] at eg
        cases eg
        refine ⟨.ref a, e1, F, ts ++ [(v, .sh d)], env, ⟨w, h.pushSh r⟩, ?_⟩
        rw [ef]
        intro y H1 ⟨w1, h1⟩
        obtain ⟨y', ey', ry⟩ := h1.tmp (ts ++ [(v, S.sh d)]).length y (.sh dk) (last1 ..)
        cases ey'
        obtain ⟨x', ex', rv⟩ := h1.drop.tmp ts.length v (.sh d) (last1 ..)
        cases ex'
        have h2 := h1.drop.drop
        obtain ⟨a2, o2, f1, f2, f3, f5, f4⟩ := h2.owned exd
        rw [e1] at f1
        cases f1
        unfold putD at ep
        split at ep
        case isFalse => cases ep
        rename_i hl
        split at ep
        · rename_i k ek
          split at ep
          case isFalse => cases ep
          rename_i hall
          cases ep
          obtain ⟨kvs, rk, rfl⟩ := own_dK f4 hall
          rw [keyK_some ek] at ry
          have ey : y = kV k := by
            cases k with
            | inl j => cases ry; rfl
            | inr z => cases ry; rfl
          refine .inl ⟨a, kvs, k, rfl, ey, f3, by rw [rk.length, sizeLine_eq]; exact hl, ?_⟩
          exact q _ _ w1 Fix.refl (h2.mut exd e1 f2 f3 f4 True.intro (.dK (rk.put rv)))
        · split at ep
          case h_2 => cases ep
          rename_i k ek
          split at ep
          case isFalse => cases ep
          rename_i hall
          cases ep
          have tk : TK ds := fun p hp => by
            have z := List.all_eq_true.mp hall p hp
            unfold isTd at z
            split at z
            · rename_i xs e; exact ⟨xs, e⟩
            · cases z
          obtain ⟨⟨ys, eys⟩, ⟨ks, eks⟩, hnk, hdp⟩ := keyX_tup ek
          obtain ⟨kvs, rx, ho⟩ := own_dic f4 tk
          have hb : ∃ b, y = .ref b := by
            subst eys
            cases ry
            exact ⟨_, rfl⟩
          obtain ⟨b, rfl⟩ := hb
          have hlen : kvs.length < sizeLine := by rw [rx.length, sizeLine_eq]; exact hl
          refine .inr ⟨a, kvs, _, ds, b, k, dk, rfl, rfl, ?_, hide_le, rx, ry, hnk, hdp, hlen, fun ob hob => ?_⟩
          · rcases ho with ⟨ob, rfl, xx⟩ | ⟨rfl, rfl⟩
            · exact .inl ⟨ob, f3, xx⟩
            · exact .inr ⟨f3, rfl⟩
          · exact q _ _ w1 Fix.refl (h2.mut exd e1 f2 f3 f4 True.intro (.dX hob (rx.put ry hnk hdp rv)))
    | _ => cases eg
  | _ => rw [ef] at eg; cases eg
/-- {} -/
def dNew : Den := fun env => .ok (.ow (.dic [])) env
theorem de_new {pos : Pos} : PE X (.Dict [] [] pos) (tD G W dNew) := by
  refine peImp pe_dnewK fun σ H Q ⟨F, ts, env, ⟨w, h⟩, q⟩ => ?_
  intro p hp
  exact q _ _ (Rel.out (B := H) h (Out.newOw hp (.dK .nil) True.intro))
end
end T

/-! TRev: xs[::-1] of a list or a tuple. -/
namespace T
open PySem PySem.Spec PyProof.Rows L2
section
variable {prog : Program} {w : World} {A : Around} {E : Value → Shared → Prop} {s : Shared}
theorem rev_places (n : Nat) : Builtin.Slice.slicePlaces ((n : Int) - 1) (-1) (-1) = n := by
  unfold Builtin.Slice.slicePlaces
  rw [if_neg (by decide)]
  by_cases h : n = 0
  · subst h; rfl
  · rw [if_pos (by omega)]
    show (((n : Int) - 1 - -1 - 1) / 1 + 1).toNat = n
    rw [Int.ediv_one]
    omega
theorem rev_applied {sl : Addr} {n : Nat} {vs : Value} {Q : Int × Int × Nat → Shared → Prop} (hs : s.heap.IsSliceOf sl .none .none vs) (pv : IsPart vs (some (-1))) (h : Q ((n : Int) - 1, -1, n) s) :
    wpAny (model prog w) A (Builtin.Slice.sliceApplied (.ref sl) (pure (n : Int))) Q E s := by
  obtain ⟨os, hos, hcs, hds⟩ := id hs
  obtain ⟨u, rfl⟩ : ∃ u, vs = .int (-1) u := by
    cases pv
    exact ⟨_, rfl⟩
  unfold Builtin.Slice.sliceApplied Builtin.Slice.sliceFields
  refine wpAny_bind (wpAny_bind (wpAny_field hos hds (x := .none) rfl (wpAny_bind (wpAny_field hos hds (x := .none) rfl (wpAny_bind (wpAny_field hos hds (x := .int (-1) u) rfl (wpAny_pure ?_)))))))
  refine wpAny_bind (slicePart_int ?_)
  show wpAny _ _ (if ((-1 : Int) == 0) = true then _ else _) _ _ s
  rw [if_neg (by decide)]
  refine wpAny_bind (slicePart_none (wpAny_bind (slicePart_none (wpAny_bind (wpAny_pure ?_)))))
  show wpAny _ _ (pure ((n : Int) - 1, (-1 : Int), Builtin.Slice.slicePlaces ((n : Int) - 1) (-1) (-1))) _ _ s
  rw [rev_places]
  exact wpAny_pure h
theorem fm_congr {α β : Type} {f g : α → Option β} : ∀ {l : List α}, (∀ a ∈ l, f a = g a) → l.filterMap f = l.filterMap g
  | [], _ => rfl
  | a :: l, h => by rw [List.filterMap_cons, List.filterMap_cons, h a List.mem_cons_self, fm_congr fun b hb => h b (List.mem_cons_of_mem _ hb)]
theorem rev_pick (xs : Array Value) : ((List.range xs.size).filterMap fun (k : Nat) => xs[(((xs.size : Int) - 1) + (k : Int) * -1).toNat]?).toArray = xs.toList.reverse.toArray := by
  have e : ((List.range xs.size).filterMap fun (k : Nat) => xs[(((xs.size : Int) - 1) + (k : Int) * -1).toNat]?) = (List.range xs.size).filterMap fun k => xs[xs.size - 1 - k]? := by
    refine fm_congr fun k hk => ?_
    have := List.mem_range.mp hk
    rw [show (((xs.size : Int) - 1) + (k : Int) * -1).toNat = xs.size - 1 - k by omega]
  have e2 : (List.range xs.size).filterMap (fun k => xs[xs.size - 1 - k]?) = ((List.range xs.size).map fun k => xs.size - 1 - k).filterMap (xs[·]?) := by
    rw [List.filterMap_map]
    rfl
  rw [e, e2, PySem.W.krv_range, List.filterMap_reverse, PySem.W.krv_all]
theorem getItem_rev {t sl : Addr} {items : Array Value} {vs : Value} {Q : Value → Shared → Prop} (ht : IsTup s.heap t items) (hs : s.heap.IsSliceOf sl .none .none vs) (pv : IsPart vs (some (-1)))
    (h : Q (.ref s.heap.objs.size) { s with heap := s.heap.push { cls := .type "tuple", data := .seq (items.toList.reverse).toArray } })
    (hsz : items.size ≤ sizeLine) : wpAny (model prog w) A (getItem (.ref t) (.ref sl)) Q E s := by
  have hrev : sizeOk (.seq (items.toList.reverse).toArray) := by
    show (items.toList.reverse).toArray.size ≤ sizeLine
    rw [List.size_toArray, List.length_reverse, Array.length_toList]
    exact hsz
  obtain ⟨os, hos, hcs, hds⟩ := id hs
  have hTs : s.TypeIs (.ref sl) "slice" := ⟨os, hos, hcs⟩
  unfold getItem
  try with_reducible refine wpAny_holding ?_
  first | refine wpAny_bind (wpAny_pure ?_) | skip
  refine wpAny_bind (wpAny_sequenceKey ht.typeIs (by decide) ?_)
  refine wpAny_bind (wpAny_callSpecial?_slot (name := Str.ofString "__getitem__") ht.typeIs slot_tuple_getitem
    (wpAny_call_entry slot_tuple_getitem ht.typeIs entry_tuple_getitem ?_ (args_tuple_getitem _ _)))
  show wpAny _ _ (Builtin.Tuple.tupleItemsOf (.ref t) >>= _) _ _ s
  refine wpAny_bind (tupleItemsOf_ ht ?_)
  refine wpAny_bind (wpAny_typeOf hTs ?_)
  rw [if_pos (by decide)]
  refine wpAny_bind (rev_applied hs pv ?_)
  have hno : ¬ ((((items.size : Int) - 1) == 0 && (-1 : Int) == 1 && items.size == items.size) = true) := by
    rw [show ((-1 : Int) == 1) = false from rfl, Bool.and_false, Bool.false_and]
    exact Bool.false_ne_true
  show wpAny _ _ (if (((items.size : Int) - 1) == 0 && (-1 : Int) == 1 && items.size == items.size) = true then _ else _) _ _ s
  rw [if_neg hno, rev_pick items]
  first
    | exact wpAny_bind (m := Builtin.Tuple.tupleExact _) (wpAny_newObj_type (wpAny_pure ⟨_, rfl, wpAny_pure h⟩) hrev)
    | exact wpAny_bind (m := Builtin.Tuple.tupleExact _) (wpAny_newObj_type (wpAny_bind (wpAny_pure (wpAny_pure ⟨_, rfl, wpAny_pure h⟩))) hrev)
    | exact wpAny_bind (wpAny_bind (m := Builtin.Tuple.tupleExact _) (wpAny_newObj_type (wpAny_pure (wpAny_pure ⟨_, rfl, wpAny_pure h⟩)) hrev))
    | exact wpAny_bind (wpAny_bind (m := Builtin.Tuple.tupleExact _) (wpAny_newObj_type (wpAny_pure ⟨_, rfl, wpAny_pure h⟩) hrev))
end
def tRev (K : PySem.W.Frag) (te : TE) : TE := fun σ H Q => te σ H fun x H1 => ∃ a xs, x = .ref a ∧ ((SqL K H1 a xs ∧ ∀ p, H1 p = none → Q (.ref p) (upd H1 p (.lst xs.reverse))) ∨
  (SqT K H1 a xs ∧ ∀ p o, o.dict = none → H1 p = none → Q (.ref p) (upd H1 p (.frz o (.tup xs.reverse)))))
section
variable {X : Cx} {G : Gh} {W : WX}
theorem pe_rev {e : Expr} {te : TE} {k : Nat} {p1 p2 p3 pos : Pos} (he : PE X e te) : PE X (.Subscript e (.Slice none none (some (.UnaryOp .USub (.Constant (.int 1) k p1) p2)) p3) pos) (tRev X.K te) := by
  refine ⟨fun pins s σ H Q I h => ?_⟩
  refine Subscript_ (thn (he.run pins s σ H _ I h) fun v s1 ⟨x, H1, I1, r1, q1⟩ => ?_)
  obtain ⟨a, xs, ex, q⟩ := q1
  subst ex
  cases r1
  have hst : PO X (some (.UnaryOp .USub (.Constant (.int 1) k p1) p2)) (tPart (tUn (rU fun i => .int (-i)) (tC (.int 1)))) := po_some (pe_un un_neg pe_int)
  refine wpAny_Slice (thn (po_none.run pins s1 σ H1 (fun o H2 => o = none ∧ H2 = H1) I1 ⟨rfl, rfl⟩) fun vl s2 ⟨l, H2, I2, pl, el, e2⟩ => ?_)
  subst el e2
  refine thn (po_none.run pins s2 σ H2 (fun o H3 => o = none ∧ H3 = H2) I2 ⟨rfl, rfl⟩) fun vu s3 ⟨u, H3, I3, pu, eu, e3⟩ => ?_
  subst eu e3
  refine thn (hst.run pins s3 σ H3 (fun o H4 => o = some (-1) ∧ H4 = H3) I3 ⟨1, rfl, -1, rfl, rfl, rfl⟩) fun vs s4 ⟨o, H4, I4, ps, eo, e4⟩ => ?_
  subst eo e4
  have I5 : Inv X pins σ H4 { s4 with heap := s4.heap.push { cls := .type "slice", data := .fields #[vl, vu, vs] } } := I4.kept (t' := s4.toks) fun b ob q => Heap.get?_push_of_some _ q
  show wpAny (model X.prog X.w) X.A (subscriptTail e (.Slice none none (some (.UnaryOp .USub (.Constant (.int 1) k p1) p2)) p3) (.ref a) (.ref s4.heap.objs.size)) (EP X pins σ Q) X.xe { s4 with heap := s4.heap.push { cls := .type "slice", data := .fields #[vl, vu, vs] } }
  rcases q with ⟨hx, q⟩ | ⟨hx, q⟩
  · obtain ⟨its, r, ht, hz⟩ := I5.list hx
    have hlen := r.length
    refine tail_any (ops := [.ref a, .ref s4.heap.objs.size]) ht.isList.typeIs (PySem.slot_list_getitem.lookup) ?_ (by with_unfolding_all rfl)
    refine wpAny_getItem_list_slice ht.isList (Heap.IsSliceOf.new _ vl vu vs) pl pu ps (by decide) ?_ (by rw [List.size_toArray]; omega)
    rw [PySem.W.krv_pick]
    refine ⟨.ref _, _, I5.laid (t' := s4.toks) (o := .lst xs.reverse) (fun b ob q => Heap.get?_push_of_some _ q) (Nat.le_refl _) ?_, rfl, q _ (I5.hok.fresh (Nat.le_refl _))⟩
    exact ⟨by rw [List.length_reverse]; exact hz, _, 0, r.reverse, Heap.get?_push_size _ rfl⟩
  · obtain ⟨its, r, ht, hz⟩ := I5.tuple hx
    have hlen := r.length
    have el : vl = .none := by cases pl; rfl
    have eu : vu = .none := by cases pu; rfl
    subst el eu
    refine tail_any (ops := [.ref a, .ref s4.heap.objs.size]) ht.typeIs (PyProof.Rows.slot_tuple_getitem.lookup) ?_ (by with_unfolding_all rfl)
    refine getItem_rev ht (Heap.IsSliceOf.new _ _ _ vs) ps ?_ (by rw [List.size_toArray]; omega)
    refine ⟨.ref _, _, I5.laid (t' := s4.toks) (o := .frz _ (.tup xs.reverse)) (fun b ob q => Heap.get?_push_of_some _ q) (Nat.le_refl _) ⟨Heap.get?_push_size _ rfl, ?_⟩, rfl, q _ _ rfl (I5.hok.fresh (Nat.le_refl _))⟩
    exact ⟨by rw [List.length_reverse]; exact hz, _, r.reverse, IsTup.new _ _⟩
def opRev : D → Option S
  | .lst ds => some (.ow (.lst ds.reverse))
  | .tup ds => some (.sh (.tup ds.reverse))
  | _ => none
theorem de_rev {e : Expr} {k : Nat} {p1 p2 p3 pos : Pos} {f : Den} (he : PE X e (tD G W f)) (hK : X.K = G.K := by rfl) : PE X (.Subscript e (.Slice none none (some (.UnaryOp .USub (.Constant (.int 1) k p1) p2)) p3) pos) (tD G W (d1 opRev f)) := by
  refine peImp (pe_rev he) fun σ H Q ⟨F, ts, env, h, q⟩ => ?_
  rw [d1, Res.wp_bind] at q
  refine tD.mk h (Res.wp_mono q (fun s e q v H1 h1 => ?_) fun _ _ z => z)
  obtain ⟨s2, e2, q⟩ := wpGet q
  obtain ⟨d, ea, eo⟩ := un1_some e2
  obtain ⟨w, h1⟩ := h1
  have ra := h1.read (j := ts.length) (x := v) (s := s) (by simp) ea
  rw [hK]
  cases ra with
  | @lst c vs ds k1 k2 =>
    cases eo
    exact ⟨c, vs, rfl, .inl ⟨SqL.of k1, fun p hp => q _ _ (Rel.out (B := H1) h1.drop (Out.newOw hp (.lst k2.rev) True.intro))⟩⟩
  | @tup c vs ds k1 k2 =>
    cases eo
    exact ⟨c, vs, rfl, .inr ⟨(TupX.le k1 hide_le).sq, fun p o ho hp => q _ _ (Rel.out (B := H1) h1.drop (Out.newSh hp (.tup ho k2.rev)))⟩⟩
  | _ => cases eo
end
end T

/-! TDop: k in d, d.get(k, x). -/
namespace T
open PySem PySem.Spec PyProof.Rows L2
section
variable {G : Gh} {B : Hp}
theorem RepX.miss {k : NestedKey} : ∀ {kvs : List (NestedKey × Addr × V)} {ds : List (D × D)}, RepX G B kvs ds → getX ds k = none → getV kvs k = none
  | _, _, .nil, _ => rfl
  | _, _, .cons (k := k0) (v := v) r0 e0 d0 v0 t, e => by
    rw [getX, e0] at e
    rw [getV]
    by_cases q : k0 = k
    · rw [if_pos (congrArg some q)] at e
      cases e
    · rw [if_neg fun z => q (Option.some.inj z)] at e
      rw [if_neg q]
      exact RepX.miss t e
theorem RepK.miss {k : Key} : ∀ {kvs : List (Key × V)} {ds : List (D × D)}, RepK G B kvs ds → T.getX ds (nkK k) = none → valV kvs k = none
  | _, _, .nil, _ => rfl
  | _, _, .cons (k := k0) (v := v) (kvs := kvs) r t, e => by
    rw [T.getX, nkD_key] at e
    by_cases q : k0 = k
    · subst q
      rw [if_pos rfl] at e
      cases e
    · rw [if_neg fun z => q (nkK_inj (Option.some.inj z))] at e
      have := RepK.miss t e
      simpa [valV, List.find?_cons, q] using this
theorem miss_pair {k : NestedKey} : ∀ {kvs : List (NestedKey × Addr × V)} {xs : List (NestedKey × Addr × Value)}, Paired KF kvs xs → getV kvs k = none → atKey xs k = none
  | _, _, .nil, _ => rfl
  | (k0, b0, v0) :: kvs, (k1, b1, u1) :: xs, .cons h t, e => by
    obtain ⟨e1, e2, e3⟩ := h
    cases (show k0 = k1 from e1)
    rw [getV] at e
    by_cases q : k0 = k
    · rw [if_pos q] at e
      cases e
    · rw [if_neg q] at e
      have := miss_pair t e
      simpa [atKey, q] using this
end
/-- what stands at y in the dict x -/
def DLook (G : Gh) (H : Hp) (x y : V) (o : Option V) : Prop := (∃ a kvs k, x = .ref a ∧ y = kV k ∧ Rd H a (.dK kvs) ∧ o = valV kvs k) ∨
  ∃ a kvs B ds b kd k, x = .ref a ∧ y = .ref b ∧ ((∃ ob, RdX H a ob ∧ DX G a kvs ob) ∨ (Rd H a (.dK []) ∧ kvs = [])) ∧ Le B H ∧ RepX G B kvs ds ∧ Rep G B (.ref b) kd ∧ nkD kd = some k ∧ k.depth ≤ 8 ∧ o = getV kvs k
/-- a dict -/
def DAt (G : Gh) (H : Hp) (x : V) : Prop := (∃ a kvs, x = .ref a ∧ Rd H a (.dK kvs)) ∨ ∃ a ob kvs, x = .ref a ∧ RdX H a ob ∧ DX G a kvs ob
section
variable {X : Cx} {G : Gh} {pins : List (Addr × Obj)} {σ : L2.St} {H B : Hp} {s : Shared}
theorem RdX.heap {a : Addr} {ob : Obj} (I : Inv X pins σ H s) (h : RdX H a ob) : s.heap.get? a = some ob := by
  rcases h with h | ⟨o, h⟩
  · exact (I.hok a _ h).1
  · exact (I.hok a _ h).2.1
theorem DAt.is {x : V} {v : Value} (I : Inv X pins σ H s) (r : RelV x v) (d : DAt G H x) : s.TypeIs v "dict" ∧ ∀ a, v = .ref a → ∃ ob, s.heap.get? a = some ob ∧ ob.dict = none := by
  rcases d with ⟨a, kvs, rfl, h⟩ | ⟨a, ob, kvs, rfl, h, x⟩
  · cases (show v = Value.ref a from r)
    have g : DGet H a (kV (.inl 0)) (valV kvs (.inl 0)) := .inl ⟨kvs, .inl 0, h, rfl, rfl⟩
    exact ⟨dict_typeIs I g, dict_noDict I g⟩
  · cases (show v = Value.ref a from r)
    have e := RdX.heap I h
    exact ⟨⟨ob, e, x.ex.1⟩, fun b q => by cases q; exact ⟨ob, e, x.ex.2.1⟩⟩
theorem held_any {a : Addr} {kvs : List (NestedKey × Addr × V)} {ds : List (D × D)} (hp : X.prog = G.P) (hw : X.w = G.w) (hK : X.K = G.K) (I : Inv X pins σ H s) (h : (∃ ob, RdX H a ob ∧ DX G a kvs ob) ∨ (Rd H a (.dK []) ∧ kvs = [])) (le : Le B H) (r : RepX G B kvs ds) :
    (∃ xs, s.heap.DictOfH (nestedKind X.prog X.w) a xs ∧ Paired KF kvs xs) ∧ (a == sysModules) = false := by
  rcases h with ⟨ob, e, x⟩ | ⟨e, rfl⟩
  · exact ⟨x.held hp hw hK I (RdX.heap I e) le r, x.sm⟩
  · obtain ⟨z, sm, vs, rel, o, es, ep, h1, h2, h3, h4, h5, h6⟩ := dk_rd I.hok e
    refine ⟨⟨[], ⟨o, es, ep, h1, h2, h3, ?_, fun _ q => (List.not_mem_nil q).elim, List.nodup_nil⟩, .nil⟩, sm⟩
    cases rel
    cases q : es.toList with
    | nil => rfl
    | cons a r => rw [q] at h5; cases h5
theorem look_in {E : Value → Shared → Prop} {x y : V} {o : Option V} {v u : Value} {Q : Value → Shared → Prop} (hp : X.prog = G.P) (hw : X.w = G.w) (hK : X.K = G.K) (hu : X.A.units + 64 < cLine) (I : Inv X pins σ H s) (g : DLook G H x y o) (rx : RelV x v) (ry : RelV y u) (h : ∀ s', Inv X pins σ H s' → Q (.bool o.isSome) s') : wpAny (model X.prog X.w) X.A (compareOp .In u v) Q E s := by
  rcases g with ⟨a, kvs, k, rfl, rfl, e, rfl⟩ | ⟨a, kvs, B, ds, b, kd, k, rfl, rfl, hd, le, rr, rk, ek, dp, rfl⟩
  · cases (show v = Value.ref a from rx)
    exact d_in (by omega) I (.inl ⟨kvs, k, e, rfl, rfl⟩) ry h
  · cases (show v = Value.ref a from rx)
    cases (show u = Value.ref b from ry)
    obtain ⟨⟨xs, dd, t⟩, sm⟩ := held_any hp hw hK I hd le rr
    have hroom : X.A.in1.units + 8 < cLine := by
      show X.A.units + 1 + 8 < cLine
      omega
    refine wpAny_in_heap (knd := nestedKind X.prog X.w) hroom ⟨nest_of I hK le rk k ek _ rfl, dp⟩ sm dd ?_
    have e : (atKey xs k).isSome = (getV kvs k).isSome := by
      cases q : getV kvs k with
      | none => rw [miss_pair t q]; rfl
      | some z =>
        obtain ⟨p, ep, _⟩ := get_pair t q
        rw [ep]; rfl
    rw [e]
    exact h _ (I.tok _)
theorem look_get {E : Value → Shared → Prop} {x y d : V} {o : Option V} {v u r : Value} {Q : Value → Shared → Prop} (hp : X.prog = G.P) (hw : X.w = G.w) (hK : X.K = G.K) (hu : X.A.units + 64 < cLine) (I : Inv X pins σ H s) (g : DLook G H x y o) (rx : RelV x v) (ry : RelV y u) (rd : RelV d r) (h : ∀ w' s', Inv X pins σ H s' → RelV (o.getD d) w' → Q w' s') :
    wpAny (model X.prog X.w) X.A (call (.builtin "dict.get") [v, u, r]) Q E s := by
  rcases g with ⟨a, kvs, k, rfl, rfl, e, rfl⟩ | ⟨a, kvs, B, ds, b, kd, k, rfl, rfl, hd, le, rr, rk, ek, dp, rfl⟩
  · cases (show v = Value.ref a from rx)
    exact d_get2 (by omega) I (.inl ⟨kvs, k, e, rfl, rfl⟩) ry rd h
  · cases (show v = Value.ref a from rx)
    cases (show u = Value.ref b from ry)
    obtain ⟨⟨xs, dd, t⟩, sm⟩ := held_any hp hw hK I hd le rr
    have hroom : X.A.in1.units + 8 < cLine := by
      show X.A.units + 1 + 8 < cLine
      omega
    refine call_meetsIn PySem.F.slot_dict_get dd.typeIs PySem.F.entry_dict_get (PySem.F.args_dict_get_3 _ _ _) (meetsH_dict_get_default (nestedKind X.prog X.w) a b sm r) ⟨hroom, k, xs, ⟨nest_of I hK le rk k ek _ rfl, dp⟩, dd, h _ _ (I.tok _) ?_⟩
    cases q : getV kvs k with
    | none => rw [miss_pair t q]; exact rd
    | some z =>
      obtain ⟨p, ep, rp⟩ := get_pair t q
      rw [ep]
      exact rp
def rInD (G : Gh) (n : Bool) : R2 := fun y x H Q => ∃ o, DLook G H x y o ∧ Q (.bl (if n = true then !o.isSome else o.isSome)) H
theorem or_inD (hp : X.prog = G.P) (hw : X.w = G.w) (hK : X.K = G.K) (hu : X.A.units + 64 < cLine) : OpR X (compareOp .In) (rInD G false) := by
  intro pins s σ H y x u v Q I ry rx h
  obtain ⟨o, g, q⟩ := h
  exact look_in hp hw hK hu I g rx ry fun s' I' => ⟨.bl o.isSome, H, I', rfl, q⟩
/-- d.get(k, x) -/
def rGetD (G : Gh) : V → List V → Hp → VK → Prop := fun v xs H Q => ∃ y d o, xs = [y, d] ∧ DLook G H v y o ∧ Q (o.getD d) H
theorem mtr_get (hp : X.prog = G.P) (hw : X.w = G.w) (hK : X.K = G.K) (hu : X.A.units + 64 < cLine) : MtR X "dict.get" (rGetD G) := by
  intro pins s σ H x xs v us Q I rx rs h
  obtain ⟨y, d, o, rfl, g, q⟩ := h
  obtain ⟨u, r, rfl, ru, rr⟩ : ∃ u r, us = [u, r] ∧ RelV y u ∧ RelV d r := by
    cases rs with
    | cons a b =>
      cases b with
      | cons a' b' =>
        cases b'
        exact ⟨_, _, rfl, a, a'⟩
  exact look_get hp hw hK hu I g rx ru rr fun w' s' I' r' => ⟨_, H, I', r', q⟩
end
/-- methods of a dict that leave it as it is -/
def tDM (G : Gh) (r : V → List V → Hp → VK → Prop) (to : TE) (t : TA) : TE := fun σ H Q => to σ H fun x H1 => DAt G H1 x ∧ t σ H1 fun xs H2 => r x xs H2 Q
section
variable {X : Cx} {G : Gh} {W : WX} {o e : Expr} {es : List Expr} {to : TE} {t : TA} {name : Str} {apos cpos : Pos} {id : String} {r : V → List V → Hp → VK → Prop}
theorem pe_dm (slot : Slot "dict" name id) (hty : typeOf (.builtin id) = pure (.type "method_descriptor")) (hm : MtR X id r) (ho : PE X o to) (ha : PA X (e :: es) t)
    (hbase : attributeBase o name X.env (eval o X.env) = eval o X.env := by rfl)
    (hfew : ((backTo cpos (starEach (e :: es) X.env)).all (fun x => !x.1) && (backToKw cpos (keywordEach [] X.env)).all (fun x => x.1.isSome)
      && decide ((e :: es).length + ([] : List Keyword).length + (if ([] : List Keyword).isEmpty then 0 else 1) < 30)) = true := by rfl)
    (hline : (apos.endLine == cpos.line) = true := by rfl) (hs : starEach (e :: es) X.env = (false, eval e X.env) :: starEach es X.env := by rfl) (hplain : (backTo cpos (starEach es X.env)).any (·.1) = false := by rfl) :
    PE X (.Call (.Attribute o name apos) (e :: es) [] cpos) (tDM G r to t) := by
  refine ⟨fun pins s σ H Q I h => ?_⟩
  refine wpAny_Call_method_late hbase hfew hline rfl (thn (ho.run pins s σ H _ I h) fun v s1 ⟨x, H1, I1, r1, ty, q1⟩ => ?_)
  obtain ⟨h1, h2⟩ := ty.is I1 r1
  refine ⟨"dict", id, PySem.F.plainAttrs_dict, slot, hty, h1, h2, ?_⟩
  have hA := ha.run cpos pins s1 σ H1 _ I1 q1
  rw [hs] at hA ⊢
  refine Calls.callWith_builtin (by show (false || (backTo cpos (starEach es X.env)).any (·.1)) = false; rw [hplain] <;> rfl) (Calls.evalArgs_plain ?_)
  exact thn hA fun us s2 ⟨vs, H2, I2, r2, q2⟩ => hm pins s2 σ H2 x vs v us Q I2 r1 r2 q2
/-! ### the trees -/
def OptR (G : Gh) (B : Hp) (o : Option V) : Option D → Prop
  | some d => ∃ v, o = some v ∧ Rep G B v d
  | none => o = none
def lookD (ds : List (D × D)) (kd : D) : Option (Option D) := match keyK kd with
  | some k => if ds.all isKd = true then some (getX ds (nkK k)) else none
  | none => match keyX kd with
    | some k => if ds.all isTd = true then some (getX ds k) else none
    | none => none
theorem look_of {H B : Hp} {x y : V} {ds : List (D × D)} {kd : D} {od : Option D} (le : Le B H) (rd : BRep G H B x (.dic ds)) (rk : BRep G H B y kd) (e : lookD ds kd = some od) :
    ∃ o, DLook G H x y o ∧ OptR G B o od := by
  unfold lookD at e
  split at e
  · rename_i k ek
    split at e
    case isFalse => cases e
    rename_i hall
    cases e
    rw [keyK_some ek] at rk
    have ey : y = kV k := by
      cases k with
      | inl j => cases rk; rfl
      | inr z => cases rk; rfl
    cases rd with
    | @dK a kvs _ h1 h2 =>
      refine ⟨valV kvs k, .inl ⟨a, kvs, k, rfl, ey, h1, rfl⟩, ?_⟩
      cases q : getX ds (nkK k) with
      | none => exact h2.miss q
      | some d =>
        obtain ⟨v, e1, e2⟩ := h2.getX q
        exact ⟨v, e1, e2⟩
    | @dX a kvs _ ob h1 h2 h3 =>
      cases h3 with
      | nil => exact (h2.ne rfl).elim
      | cons rk0 _ _ _ _ =>
        rw [List.all_cons, Bool.and_eq_true] at hall
        have z := hall.1
        cases rk0 <;> cases z
  · rename_i hk
    split at e
    case h_2 => cases e
    rename_i k ek
    split at e
    case isFalse => cases e
    rename_i hall
    cases e
    obtain ⟨⟨ys, eys⟩, ⟨ks, eks⟩, hnk, hdp⟩ := keyX_tup ek
    subst eys
    have tk : TK ds := fun p hp => by
      have z := List.all_eq_true.mp hall p hp
      unfold isTd at z
      split at z
      · rename_i xs e; exact ⟨xs, e⟩
      · cases z
    cases rk with
    | @tup b vs _ t1 t2 =>
      have fin : ∀ {a : Addr} {kvs : List (NestedKey × Addr × V)}, x = .ref a → ((∃ ob, RdX H a ob ∧ DX G a kvs ob) ∨ (Rd H a (.dK []) ∧ kvs = [])) → RepX G B kvs ds → ∃ o, DLook G H x (.ref b) o ∧ OptR G B o (getX ds k) := fun {a kvs} ex hh h3 => by
        refine ⟨getV kvs k, .inr ⟨a, kvs, B, ds, b, .tup ys, k, ex, rfl, hh, le, h3, .tup t1 t2, hnk, hdp, rfl⟩, ?_⟩
        cases q : getX ds k with
        | none => exact h3.miss q
        | some d =>
          obtain ⟨v, e1, e2⟩ := h3.get q
          exact ⟨v, e1, e2⟩
      cases rd with
      | @dK a kvs _ h1 h2 =>
        cases h2 with
        | nil => exact fin rfl (.inr ⟨h1, rfl⟩) .nil
        | @cons k v kvs d ds _ _ =>
          obtain ⟨xs, e⟩ := tk (keyD k, d) List.mem_cons_self
          cases k with
          | inl i => cases e
          | inr x => cases e
      | @dX a kvs _ ob h1 h2 h3 => exact fin rfl (.inl ⟨ob, h1, h2⟩) h3
def opInX : D → D → Option S
  | kd, .dic ds => (lookD ds kd).map fun o => .sh (.bl o.isSome)
  | _, _ => none
theorem s_inX : OpS G (rInD G false) opInX := by
  intro H B x y a b s Q le ra rb e q
  unfold opInX at e
  split at e
  case h_2 => cases e
  rename_i ds
  obtain ⟨od, eo, rfl⟩ := Option.map_eq_some_iff.mp e
  obtain ⟨o, g, m⟩ := look_of le rb ra eo
  have eq : o.isSome = od.isSome := by
    cases od with
    | none => rw [show o = none from m]; rfl
    | some d =>
      obtain ⟨v, ev, _⟩ := m
      rw [ev]; rfl
  refine ⟨o, g, ?_⟩
  rw [eq]
  exact q _ _ (Out.val (.bl _))
end
/-! ### d.get(k, x) with d a name -/
def rdDic : Option S → Option (List (D × D))
  | some (.ow (.dic ds)) => some ds
  | some (.sh (.dic ds)) => some ds
  | _ => none
def opGet (ds : List (D × D)) : List D → Option S
  | [k, x] => (lookD ds k).map fun o => .sh (o.getD x)
  | _ => none
def dmEnd (i : Nat) (op : List (D × D) → List D → Option S) : Option (List D × Env) → Res S
  | some (as, e) => (match rdDic e[i]? with
    | some ds => .get (op ds as) e
    | none => .bad)
  | none => .bad
/-- a method of the dict in slot i that leaves it as it is -/
def dDm (i : Nat) (op : List (D × D) → List D → Option S) (fs : List Den) : Den := fun env => if (rdDic env[i]?).isSome = true then (dargs fs env).bind fun ss e => dmEnd i op (escs e ss) else .bad
def DMethS (G : Gh) (r : V → List V → Hp → VK → Prop) (op : List (D × D) → List D → Option S) : Prop := ∀ (H B : Hp) (x : V) (ds : List (D × D)) (ys : List V) (as : List D) (s : S) (Q : VK), Le B H → BRep G H B x (.dic ds) → Reps G B ys as → op ds as = some s → (∀ v H', Out G H B s v H' → Q v H') → r x ys H Q
section
variable {G : Gh} {F : Fr} {W : WX} {w : Addr → Option Nat} {σ : L2.St} {H : Hp} {env : Env} {ts : List (V × S)} {X : Cx}
theorem RelW.dic (h : RelW G F w σ H env ts) {i : Nat} {ds : List (D × D)} (e : rdDic env[i]? = some ds) : ∃ x, σ[i]? = some (some x) ∧ BRep G H (hide H w) x (.dic ds) := by
  unfold rdDic at e
  split at e
  · rename_i ds' ei
    cases e
    obtain ⟨a, o, e1, e2, e3, m, e4⟩ := h.owned ei
    exact ⟨_, e1, e4.brep m e3⟩
  · rename_i ds' ei
    cases e
    obtain ⟨x, ex, r⟩ := (h.ent i _ ei).2
    refine ⟨x, ?_, Rep.brep r hide_le⟩
    cases q : σ[i]? with
    | none => rw [q] at ex; cases ex
    | some z => rw [q] at ex; exact congrArg some ex
  · cases e
theorem BRep.dat {B : Hp} {x : V} {ds : List (D × D)} (r : BRep G H B x (.dic ds)) : DAt G H x := by
  cases r with
  | @dK a kvs _ h1 h2 => exact .inl ⟨a, kvs, rfl, h1⟩
  | @dX a kvs _ ob h1 h2 h3 => exact .inr ⟨a, ob, kvs, rfl, h1, h2⟩
theorem de_dm {i : Nat} {x name : Str} {id : String} {e : Expr} {es : List Expr} {fs : List Den} {r : V → List V → Hp → VK → Prop} {op : List (D × D) → List D → Option S} {p apos cpos : Pos} (slot : Slot "dict" name id) (hty : typeOf (.builtin id) = pure (.type "method_descriptor")) (hm : MtR X id r) (sp : DMethS G r op)
    (hN : X.N[i]? = some x) (hv : Vis X.env.scope x) (ha : PA X (e :: es) (tA G W (dargs fs))) (hd : (x == ("__debug__" : Str)) = false := by decide) (hcd : (x == ("__classdict__" : Str)) = false := by decide)
    (hbase : attributeBase (.Name x p) name X.env (eval (.Name x p) X.env) = eval (.Name x p) X.env := by rfl)
    (hfew : ((backTo cpos (starEach (e :: es) X.env)).all (fun x => !x.1) && (backToKw cpos (keywordEach [] X.env)).all (fun x => x.1.isSome)
      && decide ((e :: es).length + ([] : List Keyword).length + (if ([] : List Keyword).isEmpty then 0 else 1) < 30)) = true := by rfl)
    (hline : (apos.endLine == cpos.line) = true := by rfl) (hs : starEach (e :: es) X.env = (false, eval e X.env) :: starEach es X.env := by rfl) (hplain : (backTo cpos (starEach es X.env)).any (·.1) = false := by rfl) :
    PE X (.Call (.Attribute (.Name x p) name apos) (e :: es) [] cpos) (tD G W (dDm i op fs)) := by
  refine peImp (pe_dm (G := G) slot hty hm (pe_var hN hv hd hcd) ha hbase hfew hline hs hplain) fun σ H Q ⟨F, ts, env, ⟨w, h⟩, q⟩ => ?_
  rw [dDm] at q
  split at q
  case isFalse => exact q.elim
  rename_i hi
  obtain ⟨ds, ed⟩ := Option.isSome_iff_exists.mp hi
  obtain ⟨x0, e1, rx⟩ := h.dic ed
  rw [Res.wp_bind] at q
  refine ⟨x0, e1, rx.dat, tA.mk ⟨w, h⟩ (Res.wp_mono q (fun ss e q us H1 hl h1 => ?_) fun _ _ z => z)⟩
  obtain ⟨w1, h1⟩ := h1
  cases ee : escs e ss with
  | none => rw [ee] at q; exact q.elim
  | some p =>
    obtain ⟨as, e'⟩ := p
    rw [ee] at q
    obtain ⟨z1, z2⟩ := zipL hl
    obtain ⟨w2, h2, _, rs⟩ := h1.escs (us := us.zip ss) (by rw [z2]; exact ee)
    rw [z1] at rs
    have h3 := h2.drop
    simp only [dmEnd] at q
    split at q
    case h_2 => exact q.elim
    rename_i ds2 ed2
    obtain ⟨s2, eo, q⟩ := wpGet q
    obtain ⟨x2, f1, rx2⟩ := h3.dic ed2
    rw [e1] at f1
    cases f1
    exact sp H1 (hide H1 w2) x0 ds2 us as s2 Q hide_le rx2 rs eo fun v H' o => q v H' (Rel.out (B := H1) h3 o)
theorem s_get : DMethS G (rGetD G) opGet := by
  intro H B x ds ys as s Q le rd rs e q
  cases rs with
  | nil => cases e
  | cons r1 rs =>
    cases rs with
    | nil => cases e
    | cons r2 rs =>
      cases rs with
      | cons _ _ => cases e
      | nil =>
        rename_i y k z d
        simp only [opGet] at e
        obtain ⟨od, eo, rfl⟩ := Option.map_eq_some_iff.mp e
        obtain ⟨o, g, m⟩ := look_of le rd (Rep.brep r1 le) eo
        refine ⟨y, z, o, rfl, g, ?_⟩
        cases od with
        | none =>
          rw [show o = none from m]
          exact q _ _ (Out.val r2)
        | some d' =>
          obtain ⟨v, ev, rv⟩ := m
          rw [ev]
          exact q _ _ (Out.val rv)
end
end T

/-! TWalk: dicts walked: keys, values, items. -/
namespace T
open PySem PySem.Spec PyProof.Rows L2
/-- what a dict holds, key by key -/
def KvO (G : Gh) (d : Addr) (u : HO) (kv : List (V × V)) : Prop := (∃ kvs : List (Key × V), u = .dK kvs ∧ kv = kvs.map fun p => (kV p.1, p.2)) ∨ ∃ ob kvs, u = exO d ob ∧ DX G d kvs ob ∧ kv = kvs.map fun p => (V.ref p.2.1, p.2.2)
section
variable {G : Gh} {F : Fr} {w : Addr → Option Nat} {σ : L2.St} {H : Hp} {env : Env} {ts : List (V × S)} {d : Addr} {u : HO} {kv : List (V × V)}
theorem KvO.isDic (h : KvO G d u kv) : IsDic u := by
  rcases h with ⟨kvs, rfl, _⟩ | ⟨ob, kvs, rfl, _, _⟩
  · exact .inl ⟨_, rfl⟩
  · exact .inr ⟨_, rfl⟩
theorem KvO.ntbl (h : KvO G d u kv) : NTbl u := by
  rcases h with ⟨kvs, rfl, _⟩ | ⟨ob, kvs, rfl, _, _⟩
  · exact nt_dK
  · exact nt_ext
theorem KvO.mut (h : KvO G d u kv) : Mut (some u) := by
  rcases h with ⟨kvs, rfl, _⟩ | ⟨ob, kvs, rfl, _, _⟩ <;> exact True.intro
theorem KvO.ncode (h : KvO G d u kv) (q : Str) : u ≠ LamX.CodeO d q := by
  rcases h with ⟨kvs, rfl, _⟩ | ⟨ob, kvs, rfl, x, _⟩
  · exact fun z => by cases z
  · obtain ⟨es, ep, xs, hd, _⟩ := x.es
    exact exO_code hd
/-- a shared dict is locked -/
theorem RelW.lock (h : RelW G F w σ H env ts) (od : Obj) (e : H d = some u) (hk : KvO G d u kv) (hw : w d = none) : RelW G F w σ (upd H d (.frz od u)) env ts ∧ Le (hide H w) (hide (upd H d (.frz od u)) w) := by
  have hle : Le (hide H w) (hide (upd H d (.frz od u)) w) := fun a o n q => by
    obtain ⟨q1, q2⟩ := hide_some q
    rw [hide_of q1]
    by_cases ha : a = d
    · subst ha
      rw [e] at q2
      cases q2
      exact .inr ⟨hk.isDic, od, upd_same⟩
    · exact .inl (by rw [upd_ne ha]; exact q2)
  have kw : ∀ i a, w a = some i → w a = some i ∧ ∀ o, H a = some o → upd H d (.frz od u) a = some o := fun i a q => ⟨q, fun o r => by
    rw [upd_ne (fun z => by rw [z, hw] at q; cases q)]
    exact r⟩
  have nn : ∀ a, H a ≠ none → upd H d (.frz od u) a ≠ none := fun a n => by
    by_cases ha : a = d
    · rw [ha, upd_same]
      exact fun z => nomatch z
    · rw [upd_ne ha]
      exact n
  refine ⟨⟨h.len, fun i s q => ⟨(h.ent i s q).1, (h.ent i s q).2.mono hle fun a r => kw _ a r⟩, fun j x s q => (h.tmp j x s q).mono hle fun a r => kw _ a r, fun a i q => ⟨(h.own a i q).1, nn a (h.own a i q).2⟩, h.fgn, fun a q => nn a (h.fgh a q), fun a o r n q => ?_, fun a q => nn a (h.there a q), tabs_upd h.tabs e hk.ntbl fun q => hk.ncode q⟩, hle⟩
  by_cases ha : a = d
  · subst ha
    rcases h.keep a o r n q with z | ⟨_, z2, o', z3⟩
    · rw [e] at z
      cases z
      refine .inr ⟨fun f => ?_, hk.isDic, od, upd_same⟩
      rw [(h.fgn a).mp f] at hw
      cases hw
    · rw [e] at z3
      have : IsDic (HO.frz o' o) := by
        rw [← Option.some.inj z3]
        exact hk.isDic
      exact absurd this nd_frz
  · rw [upd_ne ha]
    exact h.keep a o r n q
end
section
variable {X : Cx} {G : Gh} {pins : List (Addr × Obj)} {σ : L2.St} {H : Hp} {s : Shared} {d : Addr} {o : Obj} {u : HO} {kv : List (V × V)}
theorem frz_raw (hp : X.prog = G.P) (hw : X.w = G.w) (I : Inv X pins σ H s) (h : H d = some (.frz o u)) (hk : KvO G d u kv) :
    (d == sysModules) = false ∧ s.heap.get? d = some o ∧ o.ExactDict ∧ ∃ (es : Array DictEntry) (ep : Nat), o.data = .dict es ep ∧ es.size = kv.length ∧ es.size ≤ sizeLine ∧ ∀ (i : Nat) (k v : V), kv[i]? = some (k, v) → ∃ en, es[i]? = some en ∧ RelV k en.key ∧ RelV v en.val := by
  rcases hk with ⟨kvs, rfl, rfl⟩ | ⟨ob, kvs, rfl, x, rfl⟩
  · obtain ⟨hs, hgd, hx, es, ep, vs, hdt, hsz, kv', hm⟩ := I.frzK h
    obtain ⟨es', ⟨o', e1, e2, e3⟩, e4, e5⟩ := hm.raw
    rw [hgd] at e1
    cases e1
    obtain ⟨rfl, _⟩ := dict_ep hdt e3
    have hle : kvs.length ≤ sizeLine := (I.hok d _ h).2.1
    refine ⟨hs, hgd, hx, _, ep, hdt, by rw [hsz, List.length_map], by rw [hsz]; exact hle, fun i k v hi => ?_⟩
    rw [List.getElem?_map] at hi
    cases q : kvs[i]? with
    | none => rw [q] at hi; cases hi
    | some p =>
      obtain ⟨k0, v0⟩ := p
      rw [q] at hi
      cases hi
      obtain ⟨b, hb, rb⟩ := kv_get kv' q
      have hil : i < kvs.length := (List.getElem?_eq_some_iff.mp q).1
      have hi2 : i < es'.size := by rw [hsz]; exact hil
      obtain ⟨z1, z2⟩ := e5 i hi2 k0 b hb
      exact ⟨es'[i], Array.getElem?_eq_getElem hi2, relV_key (show keyIs k0 _ = true from z1), by rw [z2]; exact rb⟩
  · obtain ⟨e1, e2, _⟩ := I.hok d _ h
    have e2' : s.heap.get? d = some ob := e2
    rw [e1] at e2'
    cases e2'
    obtain ⟨es, ep, xs, hd, he, hpr⟩ := x.es
    have hl : es.size = xs.length := size_of_entries he
    have hl2 : kvs.length = xs.length := Paired.length hpr
    refine ⟨x.sm, e1, x.ex, es, ep, hd, by rw [hl, List.length_map, hl2], by rw [hl, ← hl2]; exact x.len, fun i k v hi => ?_⟩
    rw [List.getElem?_map] at hi
    cases q : kvs[i]? with
    | none => rw [q] at hi; cases hi
    | some p =>
      rw [q] at hi
      cases hi
      obtain ⟨b, hb, r1, r2, r3⟩ := paired_get hpr q
      have z := entry_at he i
      rw [hb] at z
      exact ⟨_, z, by show RelV (V.ref p.2.1) (Value.ref b.2.1); rw [r2]; exact rfl, r3⟩
end
/-! ### the turns -/
def ItX (d : Addr) (o : Obj) (u : HO) (xs : List V) : It := ⟨fun i H => H d = some (.frz o u) ∧ i < xs.length, fun i H x H' => H' = H ∧ xs[i]? = some x, fun i H => H d = some (.frz o u) ∧ xs.length ≤ i⟩
def ItP (d : Addr) (o : Obj) (u : HO) (kv : List (V × V)) : It := ⟨fun i H => H d = some (.frz o u) ∧ i < kv.length, fun i H x H' => ∃ T k v, kv[i]? = some (k, v) ∧ x = .ref T ∧ H T = none ∧ H' = upd H T (.tup [k, v]), fun i H => H d = some (.frz o u) ∧ kv.length ≤ i⟩
section
variable {G : Gh} {P : Program} {wl : World} {K : PySem.W.Frag} {tg : Expr} {d : Addr} {o : Obj} {u : HO} {kv : List (V × V)} {es : Array DictEntry} {ep : Nat}
theorem turn_keysX (it : Addr) (hP : P = G.P) (hW : wl = G.w) (hk : KvO G d u kv) (hod : o.data = .dict es ep) (hsz : es.size = kv.length) : Turn P wl K tg (ItX d o u (kv.map (·.1))) [it] it (fun i h => h.IsKeyIter it d i es.size ep) where
  mem := by simp
  obj := fun i h st b hb => by
    have e : b = it := by simpa using hb
    subst e
    obtain ⟨oi, e, c, dd⟩ := st
    exact ⟨oi, e, fun v z => by rw [dd] at z; cases z⟩
  keep := fun i h h' st k => st.at fun oi e => k it (by simp) oi e
  item := by
    intro X hP' hw hK hc i pins s σ H E I hf st hg
    subst hP' hw hK
    obtain ⟨hd, hi⟩ := hg
    rw [List.length_map] at hi
    obtain ⟨f0, f1, f2, f3, f4, f5⟩ := hf it (by simp)
    obtain ⟨hs, hgd, hx, es', ep', hdt, _, _, ent⟩ := frz_raw hP hW I hd hk
    obtain ⟨rfl, rfl⟩ := dict_ep hod hdt
    have hkv := List.getElem?_eq_getElem hi
    obtain ⟨en, hen, rk, rv⟩ := ent i _ _ hkv
    refine next_key_item st hgd hdt rfl hen fun h' st' sb => ?_
    have I1 : Inv X pins σ H { s with heap := h' } := I.turned (t' := s.toks) (fun b ob hb e => (sb.2 b hb).trans e) f0 f1 f3 f4 f5
    obtain ⟨oi, e, c, dd⟩ := id st'
    exact ⟨en.key, rfl, go_of (s := { s with heap := h' }) e c dd (by decide) ⟨kv[i].1, H, I1, rk, ⟨rfl, by rw [List.getElem?_map, hkv]; rfl⟩, st', fun b hb => (hf b hb).1⟩⟩
  done := by
    intro X hP' hw hK hc i pins s σ H E I hf st hg
    subst hP' hw hK
    obtain ⟨hd, hi⟩ := hg
    rw [List.length_map] at hi
    obtain ⟨f0, f1, f2, f3, f4, f5⟩ := hf it (by simp)
    obtain ⟨hs, hgd, hx, es', ep', hdt, _, _, ent⟩ := frz_raw hP hW I hd hk
    obtain ⟨rfl, rfl⟩ := dict_ep hod hdt
    exact next_key_end (I.ok.hd hc) st hgd hdt rfl (by rw [hsz]; exact hi) fun h' eb => ⟨rfl, I.turned (t' := s.toks) (fun b ob hb e => eb b ob hb e) f0 f1 f3 f4 f5⟩
  self := fun A i s Q E st h => by
    refine wpAny_pyIter_slot st.typeIs F.slot_dict_keyiterator_iter (wpAny_call_entry F.slot_dict_keyiterator_iter st.typeIs F.entry_dict_keyiterator_iter ?_ (F.args_dict_keyiterator_iter_1 _))
    show wpAny _ _ (ret (.ref it)) _ _ s
    exact wpAny_pure ⟨_, rfl, "dict_keyiterator", _, st.typeIs, F.slot_dict_keyiterator_next.lookup, h⟩
theorem turn_valsX (it : Addr) (hP : P = G.P) (hW : wl = G.w) (hk : KvO G d u kv) (hod : o.data = .dict es ep) (hsz : es.size = kv.length) : Turn P wl K tg (ItX d o u (kv.map (·.2))) [it] it (fun i h => h.IsValIter it d i es.size ep) where
  mem := by simp
  obj := fun i h st b hb => by
    have e : b = it := by simpa using hb
    subst e
    obtain ⟨oi, e, c, dd⟩ := st
    exact ⟨oi, e, fun v z => by rw [dd] at z; cases z⟩
  keep := fun i h h' st k => st.at fun oi e => k it (by simp) oi e
  item := by
    intro X hP' hw hK hc i pins s σ H E I hf st hg
    subst hP' hw hK
    obtain ⟨hd, hi⟩ := hg
    rw [List.length_map] at hi
    obtain ⟨f0, f1, f2, f3, f4, f5⟩ := hf it (by simp)
    obtain ⟨hs, hgd, hx, es', ep', hdt, _, _, ent⟩ := frz_raw hP hW I hd hk
    obtain ⟨rfl, rfl⟩ := dict_ep hod hdt
    have hkv := List.getElem?_eq_getElem hi
    obtain ⟨en, hen, rk, rv⟩ := ent i _ _ hkv
    obtain ⟨hi2, rfl⟩ := Array.getElem?_eq_some_iff.mp hen
    refine wpAny_pyNext_values_item_raw st ⟨o, hgd, hx, hdt⟩ hi2 fun h' st' sb => ?_
    have I1 : Inv X pins σ H { s with heap := h' } := I.turned (t' := s.toks) (fun b ob hb e => (sb.2 b hb).trans e) f0 f1 f3 f4 f5
    obtain ⟨oi, e, c, dd⟩ := id st'
    exact ⟨_, rfl, go_of (s := { s with heap := h' }) e c dd (by decide) ⟨kv[i].2, H, I1, rv, ⟨rfl, by rw [List.getElem?_map, hkv]; rfl⟩, st', fun b hb => (hf b hb).1⟩⟩
  done := by
    intro X hP' hw hK hc i pins s σ H E I hf st hg
    subst hP' hw hK
    obtain ⟨hd, hi⟩ := hg
    rw [List.length_map] at hi
    obtain ⟨f0, f1, f2, f3, f4, f5⟩ := hf it (by simp)
    obtain ⟨hs, hgd, hx, es', ep', hdt, _, _, ent⟩ := frz_raw hP hW I hd hk
    obtain ⟨rfl, rfl⟩ := dict_ep hod hdt
    exact wpAny_pyNext_values_end_raw (I.ok.hd hc) st ⟨o, hgd, hx, hdt⟩ (by rw [hsz]; exact hi) fun h' eb => ⟨rfl, I.turned (t' := s.toks) (fun b ob hb e => eb b ob hb e) f0 f1 f3 f4 f5⟩
  self := fun A i s Q E st h => wpAny_pyIter_valiter st h
theorem turn_itemsX {elts : List Expr} {kk : Nat} {tpos : Pos} (it : Addr) (hP : P = G.P) (hW : wl = G.w) (hk : KvO G d u kv) (hod : o.data = .dict es ep) (hsz : es.size = kv.length) :
    Turn P wl K (.Tuple elts kk tpos) (ItP d o u kv) [it] it (fun i h => ∃ ok ov, IsItemIter h it d i es.size ep ok ov) where
  mem := by simp
  obj := fun i h st b hb => by
    have e : b = it := by simpa using hb
    subst e
    obtain ⟨ok, ov, e⟩ := st
    exact ⟨_, e, fun v z => nomatch z⟩
  keep := fun i h h' st k => let ⟨ok, ov, e⟩ := st; ⟨ok, ov, k it (by simp) _ e⟩
  item := by
    intro X hP' hw hK hc i pins s σ H E I hf st hg
    subst hP' hw hK
    obtain ⟨hd, hi⟩ := hg
    obtain ⟨hs, hgd, hx, es', ep', hdt, _, _, ent⟩ := frz_raw hP hW I hd hk
    obtain ⟨rfl, rfl⟩ := dict_ep hod hdt
    have hkv := List.getElem?_eq_getElem hi
    obtain ⟨en, hen, rk, rv⟩ := ent i _ _ hkv
    obtain ⟨hi2, rfl⟩ := Array.getElem?_eq_some_iff.mp hen
    obtain ⟨ok, ov, he⟩ := st
    have hlt : it < s.heap.objs.size := Heap.lt_size he
    refine wpAny_pyNext_items_item_raw he ⟨o, hgd, hx, hdt⟩ hi2 fun h' ho hT hz hkp => ?_
    refine ⟨_, rfl, wpAny_letOwnedTupleGo_items (s := { s with heap := h' }) ho fun h'' he' sb => ?_⟩
    have hT2 := (sb.2 _ (Nat.ne_of_gt hlt)).trans hT
    have new : ObjOk X.prog X.w (upd H s.heap.objs.size (.tup [kv[i].1, kv[i].2])) h'' s.heap.objs.size (.tup [kv[i].1, kv[i].2]) :=
      ⟨by show 2 ≤ sizeLine; decide, [_, _], .cons rk (.cons rv .nil), ⟨_, hT2, rfl, _, rfl⟩⟩
    have I1 : Inv X pins σ (upd H s.heap.objs.size (.tup [kv[i].1, kv[i].2])) { s with heap := h'' } :=
      I.turnedNew (t' := s.toks) (ch := [it]) (fun b ob hb e => (sb.2 b (by simpa using hb)).trans (hkp b ob (by simpa using hb) e)) hf (Nat.le_refl _) new
    refine ⟨.ref s.heap.objs.size, _, I1, rfl, ⟨_, _, _, hkv, rfl, I.hok.fresh (Nat.le_refl _), rfl⟩, ⟨_, _, he'⟩, fun b hb => ?_⟩
    have e : b = it := by simpa using hb
    rw [e, upd_ne (Nat.ne_of_lt hlt)]
    exact (hf it (by simp)).1
  done := by
    intro X hP' hw hK hc i pins s σ H E I hf st hg
    subst hP' hw hK
    obtain ⟨hd, hi⟩ := hg
    obtain ⟨f0, f1, f2, f3, f4, f5⟩ := hf it (by simp)
    obtain ⟨hs, hgd, hx, es', ep', hdt, _, _, ent⟩ := frz_raw hP hW I hd hk
    obtain ⟨rfl, rfl⟩ := dict_ep hod hdt
    obtain ⟨ok, ov, he⟩ := st
    exact wpAny_pyNext_items_end_raw (I.ok.hd hc) he ⟨o, hgd, hx, hdt⟩ (by rw [hsz]; exact hi) fun h' eb => ⟨rfl, I.turned (t' := s.toks) (fun b ob hb e => eb b ob hb e) f0 f1 f3 f4 f5⟩
  self := fun A i s Q E st h => let ⟨_, _, e⟩ := st; PySem.W.kcp_self e h
end
/-! ### for k in d, d.values(), d.items() -/
/-- x is a dict; it is locked where it is not yet -/
def rDic (G : Gh) (mk : Addr → Obj → HO → List (V × V) → It) (R : It → Hp → Prop) (x : V) (H1 : Hp) : Prop := ∃ d u kv, x = .ref d ∧ KvO G d u kv ∧ ((∃ o, H1 d = some (.frz o u) ∧ R (mk d o u kv) H1) ∨ (H1 d = some u ∧ ∀ od, R (mk d od u kv) (upd H1 d (.frz od u))))
def iDic (G : Gh) (mk : Addr → Obj → HO → List (V × V) → It) (td : TE) : TI := fun σ H R => td σ H (rDic G mk R)
abbrev mkK (d : Addr) (o : Obj) (u : HO) (kv : List (V × V)) : It := ItX d o u (kv.map (·.1))
abbrev mkV (d : Addr) (o : Obj) (u : HO) (kv : List (V × V)) : It := ItX d o u (kv.map (·.2))
/-- a list, a tuple, a dict's keys -/
def iAny (G : Gh) (tl : TE) : TI := fun σ H R => tl σ H fun x H1 => (∃ a, x = .ref a ∧ (((∃ xs, SqL G.K H1 a xs) ∧ R (Itl G.K a) H1) ∨ ((∃ xs, SqT G.K H1 a xs) ∧ R (Itt G.K a) H1))) ∨ rDic G mkK R x H1
section
variable {X : Cx} {G : Gh} {tg e : Expr} {td : TE} {apos cpos : Pos}
theorem rDic_lock {pins : List (Addr × Obj)} {σ : L2.St} {H : Hp} {s : Shared} {mk : Addr → Obj → HO → List (V × V) → It} {R : It → Hp → Prop} {x : V} (I : Inv X pins σ H s) (h : rDic G mk R x H) : ∃ d u kv o H1, x = .ref d ∧ KvO G d u kv ∧ Inv X pins σ H1 s ∧ H1 d = some (.frz o u) ∧ R (mk d o u kv) H1 := by
  obtain ⟨d, u, kv, rfl, hk, ⟨o, e, q⟩ | ⟨e, q⟩⟩ := h
  · exact ⟨d, u, kv, o, H, rfl, hk, I, e, q⟩
  · obtain ⟨od, I1⟩ := I.lock e hk.mut
    exact ⟨d, u, kv, od, _, rfl, hk, I1, upd_same, q od⟩
theorem pi_any (hp : X.prog = G.P) (hw : X.w = G.w) (hK : X.K = G.K) (hl : PE X e td) : PI X tg e (iAny G td) := by
  refine ⟨fun pins s σ H R I h => ?_⟩
  refine thn (hl.run pins s σ H _ I h) fun v s1 ⟨x, H1, I1, r1, q⟩ => ?_
  have one : ∀ b ∈ [s1.heap.objs.size], FpOk X pins H1 b := fun b hb => by
    have e : b = s1.heap.objs.size := by simpa using hb
    subst e
    exact I1.fpOk (Nat.le_refl _) (I1.hok.fresh (Nat.le_refl _))
  rcases q with ⟨a, rfl, q⟩ | q
  · cases r1
    rw [← hK] at q
    rcases q with ⟨⟨xs, hq⟩, q⟩ | ⟨⟨xs, hq⟩, q⟩
    · obtain ⟨its, rv, p, hz⟩ := I1.list hq
      exact wpAny_pyIter_list p.isList ⟨s1.heap.objs.size, [s1.heap.objs.size], _, _, H1, rfl, I1.kept (t' := s1.toks) fun b o e => Heap.get?_push_of_some _ e, turn_list a _, ⟨_, Heap.get?_push_size _ rfl, rfl, rfl⟩, one, q⟩
    · obtain ⟨its, rv, p, hz⟩ := I1.tuple hq
      exact wpAny_pyIter_tuple (show s1.heap.IsTuple a its.toArray from p) ⟨s1.heap.objs.size, [s1.heap.objs.size], _, _, H1, rfl, I1.kept (t' := s1.toks) fun b o e => Heap.get?_push_of_some _ e, turn_tuple a _, ⟨_, Heap.get?_push_size _ rfl, rfl, rfl⟩, one, q⟩
  · obtain ⟨d, u, kv, o, H2, rfl, hk, I2, e, q⟩ := rDic_lock I1 q
    cases r1
    obtain ⟨hs, hgd, hx, es, ep, hdt, hsz, _, _⟩ := frz_raw hp hw I2 e hk
    exact iter_keys hs hgd hx hdt (pi_one (tk := s1.toks) I2 _ (turn_keysX _ hp hw hk hdt hsz) ⟨_, Heap.get?_push_size _ rfl, rfl, rfl⟩ q)
theorem pi_valuesX (hp : X.prog = G.P) (hw : X.w = G.w) (he : PE X e td) (hbase : attributeBase e "values" X.env (eval e X.env) = eval e X.env := by rfl) (hline : (apos.endLine == cpos.line) = true := by rfl) : PI X tg (.Call (.Attribute e "values" apos) [] [] cpos) (iDic G mkV td) := by
  refine ⟨fun pins s σ H R I h => ?_⟩
  refine wpAny_Call_method (T := "dict") (id := "dict.values") hbase rfl hline F.plainAttrs_dict F.slot_dict_values F.type_dict_values (thn (he.run pins s σ H _ I h) fun v s1 ⟨x, H1, I1, rx, q⟩ => ?_)
  obtain ⟨d, u, kv, o, H2, rfl, hk, I2, e, q⟩ := rDic_lock I1 q
  obtain rfl : v = Value.ref d := rx
  obtain ⟨hs, hgd, hx, es, ep, hdt, hsz, _, _⟩ := frz_raw hp hw I2 e hk
  have hm : s1.heap.DictRaw d es ep := ⟨o, hgd, hx, hdt⟩
  refine ⟨hm.typeIs, fun a ea => by cases ea; exact ⟨o, hgd, hx.2.1⟩, ?_⟩
  have I3 : Inv X pins σ H2 { s1 with heap := s1.heap.push { cls := .type "dict_values", data := .fields #[.ref d] } } := I2.kept (t' := s1.toks) fun b ob q => Heap.get?_push_of_some _ q
  have fin : wpAny (model X.prog X.w) X.A (pyIter (.ref s1.heap.objs.size)) (PIE X pins σ tg R) X.xe { s1 with heap := s1.heap.push { cls := .type "dict_values", data := .fields #[.ref d] } } :=
    wpAny_pyIter_values_raw (d := d) ⟨_, Heap.get?_push_size _ rfl, rfl, rfl⟩ (hm.at fun o q => Heap.get?_push_of_some _ q) (pi_one (tk := s1.toks) I3 _ (turn_valsX _ hp hw hk hdt hsz) ⟨_, Heap.get?_push_size _ rfl, rfl, rfl⟩ q)
  show wpAny _ _ (callWith cpos (.builtin "dict.values") [.ref d] [] []) _ X.xe s1
  exact method_meetsIn F.slot_dict_values F.entry_dict_values rfl (PySem.evalArgs_none ⟨rfl, hm.typeIs, F.args_dict_values_1 _, _, meets_dict_values_raw d hs, ⟨es, ep, hm⟩, fin⟩)
theorem pi_itemsX {elts : List Expr} {kk : Nat} {tpos : Pos} (hp : X.prog = G.P) (hw : X.w = G.w) (he : PE X e td) (hbase : attributeBase e "items" X.env (eval e X.env) = eval e X.env := by rfl) (hline : (apos.endLine == cpos.line) = true := by rfl) :
    PI X (.Tuple elts kk tpos) (.Call (.Attribute e "items" apos) [] [] cpos) (iDic G ItP td) := by
  refine ⟨fun pins s σ H R I h => ?_⟩
  refine wpAny_Call_method (T := "dict") (id := "dict.items") hbase rfl hline F.plainAttrs_dict F.slot_dict_items F.type_dict_items (thn (he.run pins s σ H _ I h) fun v s1 ⟨x, H1, I1, rx, q⟩ => ?_)
  obtain ⟨d, u, kv, o, H2, rfl, hk, I2, e, q⟩ := rDic_lock I1 q
  obtain rfl : v = Value.ref d := rx
  obtain ⟨hs, hgd, hx, es, ep, hdt, hsz, _, _⟩ := frz_raw hp hw I2 e hk
  have hm : s1.heap.DictRaw d es ep := ⟨o, hgd, hx, hdt⟩
  refine ⟨hm.typeIs, fun a ea => by cases ea; exact ⟨o, hgd, hx.2.1⟩, ?_⟩
  have I3 : Inv X pins σ H2 { s1 with heap := s1.heap.push { cls := .type "dict_items", data := .fields #[.ref d] } } := I2.kept (t' := s1.toks) fun b ob q => Heap.get?_push_of_some _ q
  have fin : wpAny (model X.prog X.w) X.A (pyIter (.ref s1.heap.objs.size)) (PIE X pins σ (.Tuple elts kk tpos) R) X.xe { s1 with heap := s1.heap.push { cls := .type "dict_items", data := .fields #[.ref d] } } :=
    wpAny_pyIter_items_raw (d := d) ⟨_, Heap.get?_push_size _ rfl, rfl, rfl⟩ (hm.at fun o q => Heap.get?_push_of_some _ q) (pi_one (tk := s1.toks) I3 _ (turn_itemsX _ hp hw hk hdt hsz) ⟨.none, .none, Heap.get?_push_size _ rfl⟩ q)
  show wpAny _ _ (callWith cpos (.builtin "dict.items") [.ref d] [] []) _ X.xe s1
  exact method_meetsIn F.slot_dict_items F.entry_dict_items rfl (PySem.evalArgs_none ⟨rfl, hm.typeIs, F.args_dict_items_1 _, _, meets_dict_items_raw d hs, ⟨es, ep, hm⟩, fin⟩)
end
/-! ### on trees -/
/-- the pairs stand for the trees -/
def KvR (G : Gh) (B : Hp) : List (V × V) → List (D × D) → Prop
  | [], [] => True
  | p :: kv, q :: ds => Rep G B p.1 q.1 ∧ Rep G B p.2 q.2 ∧ KvR G B kv ds
  | _, _ => False
section
variable {G : Gh} {B B' H : Hp}
theorem KvR.le (e : Le B B') : ∀ {kv : List (V × V)} {ds : List (D × D)}, KvR G B kv ds → KvR G B' kv ds
  | [], [], _ => True.intro
  | _ :: _, _ :: _, ⟨a, b, c⟩ => ⟨Rep.le e a, Rep.le e b, KvR.le e c⟩
  | [], _ :: _, h => h.elim
  | _ :: _, [], h => h.elim
theorem KvR.len : ∀ {kv : List (V × V)} {ds : List (D × D)}, KvR G B kv ds → kv.length = ds.length
  | [], [], _ => rfl
  | _ :: _, _ :: _, ⟨_, _, c⟩ => congrArg Nat.succ (KvR.len c)
  | [], _ :: _, h => h.elim
  | _ :: _, [], h => h.elim
theorem KvR.ofK : ∀ {kvs : List (Key × V)} {ds : List (D × D)}, RepK G B kvs ds → KvR G B (kvs.map fun p => (kV p.1, p.2)) ds
  | _, _, .nil => True.intro
  | _, _, .cons (k := k) r t => ⟨by cases k with
      | inl i => exact .int i
      | inr x => exact .str x, r, KvR.ofK t⟩
theorem KvR.ofX : ∀ {kvs : List (NestedKey × Addr × V)} {ds : List (D × D)}, RepX G B kvs ds → KvR G B (kvs.map fun p => (V.ref p.2.1, p.2.2)) ds
  | _, _, .nil => True.intro
  | _, _, .cons r0 _ _ r t => ⟨r0, r, KvR.ofX t⟩
theorem KvR.reps1 : ∀ {kv : List (V × V)} {ds : List (D × D)}, KvR G B kv ds → Reps G B (kv.map (·.1)) (ds.map (·.1))
  | [], [], _ => .nil
  | _ :: _, _ :: _, ⟨a, b, c⟩ => .cons a (KvR.reps1 c)
  | [], _ :: _, h => h.elim
  | _ :: _, [], h => h.elim
theorem KvR.reps2 : ∀ {kv : List (V × V)} {ds : List (D × D)}, KvR G B kv ds → Reps G B (kv.map (·.2)) (ds.map (·.2))
  | [], [], _ => .nil
  | _ :: _, _ :: _, ⟨a, b, c⟩ => .cons b (KvR.reps2 c)
  | [], _ :: _, h => h.elim
  | _ :: _, [], h => h.elim
/-- a shared dict: what it holds, locked or not -/
theorem Rep.dicO {w : Addr → Option Nat} {x : V} {ds : List (D × D)} (r : Rep G (hide H w) x (.dic ds)) : ∃ d u kv, x = .ref d ∧ KvO G d u kv ∧ w d = none ∧ (H d = some u ∨ ∃ o, H d = some (.frz o u)) ∧ KvR G (hide H w) kv ds := by
  cases r with
  | @dK a kvs _ h1 h2 =>
    refine ⟨a, .dK kvs, _, rfl, .inl ⟨kvs, rfl, rfl⟩, ?_, ?_, KvR.ofK h2⟩
    · rcases h1 with h | ⟨o, h⟩
      · exact (hide_some h).1
      · exact (hide_some h).1
    · rcases h1 with h | ⟨o, h⟩
      · exact .inl (hide_some h).2
      · exact .inr ⟨o, (hide_some h).2⟩
  | @dX a kvs _ ob h1 h2 h3 =>
    refine ⟨a, exO a ob, _, rfl, .inr ⟨ob, kvs, rfl, h2, rfl⟩, ?_, ?_, KvR.ofX h3⟩
    · rcases h1 with h | ⟨o, h⟩
      · exact (hide_some h).1
      · exact (hide_some h).1
    · rcases h1 with h | ⟨o, h⟩
      · exact .inl (hide_some h).2
      · exact .inr ⟨o, (hide_some h).2⟩
end
/-- what is walked of a dict, item by item -/
def usKv (d : Addr) (o : Obj) (u : HO) (kv : List (V × V)) (ds : List (D × D)) : List (V × D) := (V.ref d, D.ext o u) :: ((kv.map (·.1)).zip (ds.map (·.1)) ++ (kv.map (·.2)).zip (ds.map (·.2)))
section
variable {G : Gh} {B B' H : Hp} {d : Addr} {o : Obj} {u : HO} {kv : List (V × V)} {ds : List (D × D)}
theorem us_has (e : B d = some (.frz o u)) (r : KvR G B kv ds) (le : Le B H) : Has G (usKv d o u kv ds) B H := ⟨le, fun p hp => by
  rcases List.mem_cons.mp hp with rfl | hp
  · exact .ext e
  · rcases List.mem_append.mp hp with hp | hp
    · exact zipRep r.reps1 p hp
    · exact zipRep r.reps2 p hp⟩
theorem us_at (h : Has G (usKv d o u kv ds) B H) : H d = some (.frz o u) := by
  have z := h.2 _ List.mem_cons_self
  cases z with
  | ext e => exact h.1.at nt_frz nd_frz e
theorem zip_at {α β : Type} {l : List α} {m : List β} {i : Nat} {a : α} {b : β} (h1 : l[i]? = some a) (h2 : m[i]? = some b) : (a, b) ∈ l.zip m := List.mem_of_getElem? (List.getElem?_zip_eq_some.mpr ⟨h1, h2⟩)
theorem walk_keys (hl : kv.length = ds.length) : Walk G false (mkK d o u kv) (usKv d o u kv ds) (ds.map (·.1)) := by
  refine ⟨fun i B H hi h => ⟨us_at h, ?_⟩, fun i B H hi h => ⟨us_at h, ?_⟩, fun i B H x H' hi h hy => ?_⟩
  · rw [List.length_map] at hi ⊢; omega
  · rw [List.length_map] at hi ⊢; omega
  · obtain ⟨rfl, hx⟩ := hy
    have hd := List.getElem?_eq_getElem hi
    exact ⟨Ext.refl _, _, hd, h.2 _ (List.mem_cons_of_mem _ (List.mem_append_left _ (zip_at hx hd)))⟩
theorem walk_vals (hl : kv.length = ds.length) : Walk G false (mkV d o u kv) (usKv d o u kv ds) (ds.map (·.2)) := by
  refine ⟨fun i B H hi h => ⟨us_at h, ?_⟩, fun i B H hi h => ⟨us_at h, ?_⟩, fun i B H x H' hi h hy => ?_⟩
  · rw [List.length_map] at hi ⊢; omega
  · rw [List.length_map] at hi ⊢; omega
  · obtain ⟨rfl, hx⟩ := hy
    have hd := List.getElem?_eq_getElem hi
    exact ⟨Ext.refl _, _, hd, h.2 _ (List.mem_cons_of_mem _ (List.mem_append_right _ (zip_at hx hd)))⟩
theorem walk_items (hl : kv.length = ds.length) : Walk G true (ItP d o u kv) (usKv d o u kv ds) (ds.map fun p => D.tup [p.1, p.2]) := by
  refine ⟨fun i B H hi h => ⟨us_at h, ?_⟩, fun i B H hi h => ⟨us_at h, ?_⟩, fun i B H x H' hi h hy => ?_⟩
  · rw [List.length_map] at hi; omega
  · rw [List.length_map] at hi; omega
  · obtain ⟨T, k, v, hx, rfl, hT, rfl⟩ := hy
    rw [List.length_map] at hi
    have hd := List.getElem?_eq_getElem hi
    refine ⟨Ext.new hT, D.tup [ds[i].1, ds[i].2], by rw [List.getElem?_map, hd]; rfl, T, _, _, rfl, upd_same, rfl, .cons ?_ (.cons ?_ .nil)⟩
    · exact h.2 _ (List.mem_cons_of_mem _ (List.mem_append_left _ (zip_at (i := i) (by rw [List.getElem?_map, hx]; rfl) (by rw [List.getElem?_map, hd]; rfl))))
    · exact h.2 _ (List.mem_cons_of_mem _ (List.mem_append_right _ (zip_at (i := i) (by rw [List.getElem?_map, hx]; rfl) (by rw [List.getElem?_map, hd]; rfl))))
end
def dSrcD (sel : D × D → D) (f : Den) : Env → Res (List D) := fun env => (f env).bind fun s e => match esc e s with
  | some (.dic ds, e') => .ok (ds.map sel) e'
  | _ => .bad
abbrev selI (p : D × D) : D := .tup [p.1, p.2]
section
variable {G : Gh} {F : Fr} {W : WX} {w : Addr → Option Nat} {σ : L2.St} {H : Hp} {env : Env} {ts : List (V × S)} {X : Cx}
/-- a shared dict is walked -/
theorem rDic_of {pr : Bool} {mk : Addr → Obj → HO → List (V × V) → It} {sel : D × D → D} {R : It → Hp → Prop} {x : V} {ds : List (D × D)} (wk : ∀ {d o u kv}, kv.length = ds.length → Walk G pr (mk d o u kv) (usKv d o u kv ds) (ds.map sel)) (h : RelW G F w σ H env ts) (r : Rep G (hide H w) x (.dic ds))
    (q : ∀ J us H' w, RelW G F w σ H' env ts → Has G us (hide H' w) H' → Walk G pr J us (ds.map sel) → R J H') : rDic G mk R x H := by
  obtain ⟨d, u, kv, rfl, hk, hw, hd, kr⟩ := r.dicO
  refine ⟨d, u, kv, rfl, hk, ?_⟩
  rcases hd with e | ⟨o, e⟩
  · refine .inr ⟨e, fun od => ?_⟩
    obtain ⟨h1, le⟩ := h.lock od e hk hw
    exact q _ _ _ w h1 (us_has (by rw [hide_of hw]; exact upd_same) (kr.le le) hide_le) (wk kr.len)
  · exact .inl ⟨o, e, q _ _ _ w h (us_has (by rw [hide_of hw]; exact e) kr hide_le) (wk kr.len)⟩
theorem di_seq {tg l : Expr} {f : Den} (hp : X.prog = G.P) (hw : X.w = G.w) (hl : PE X l (tD G W f)) (hK : X.K = G.K := by rfl) : PI X tg l (tI G false W (dSrc f)) := by
  refine piImp (pi_any hp hw hK hl) fun σ H R ⟨F, ts, env, h, q⟩ => ?_
  rw [dSrc, Res.wp_bind] at q
  refine tD.mk h (Res.wp_mono q (fun s e q v H1 h1 => ?_) fun _ _ z => z)
  obtain ⟨w, h1⟩ := h1
  cases ee : esc e s with
  | none => rw [ee] at q; exact q.elim
  | some p =>
    obtain ⟨d, e'⟩ := p
    rw [ee] at q
    obtain ⟨w2, h2, _⟩ := h1.esc (j := ts.length) (x := v) (s := s) (by simp) ee
    rw [List.set_append_right _ _ (Nat.le_refl _), Nat.sub_self] at h2
    obtain ⟨x, ex, r⟩ := h2.tmp ts.length v (.sh d) (by simp)
    cases ex
    cases d with
    | lst ds =>
      obtain ⟨a, rfl, wk⟩ := walk_lst r
      obtain ⟨vs, hs⟩ : ∃ vs, SqL G.K H1 a vs := by
        cases r with
        | lst k1 k2 => exact ⟨_, SqL.of (hide_le.at nt_lst nd_lst k1)⟩
      exact .inl ⟨a, rfl, .inl ⟨⟨vs, hs⟩, q _ _ H1 w2 h2.drop (has_one r) wk⟩⟩
    | tup ds =>
      obtain ⟨a, rfl, wk⟩ := walk_tup r
      obtain ⟨vs, hs⟩ : ∃ vs, SqT G.K H1 a vs := by
        cases r with
        | tup k1 k2 => exact ⟨_, (TupX.le k1 hide_le).sq⟩
      exact .inl ⟨a, rfl, .inr ⟨⟨vs, hs⟩, q _ _ H1 w2 h2.drop (has_one r) wk⟩⟩
    | dic ds => exact .inr (rDic_of walk_keys h2.drop r q)
    | _ => exact q.elim
theorem tDic_of {pr : Bool} {mk : Addr → Obj → HO → List (V × V) → It} {sel : D × D → D} {f : Den} (wk : ∀ {ds d o u kv}, kv.length = ds.length → Walk G pr (mk d o u kv) (usKv d o u kv ds) (ds.map sel)) (R : It → Hp → Prop) (h : tI G pr W (dSrcD sel f) σ H R) : iDic G mk (tD G W f) σ H R := by
  obtain ⟨F, ts, env, h, q⟩ := h
  rw [dSrcD, Res.wp_bind] at q
  refine tD.mk h (Res.wp_mono q (fun s e q v H1 h1 => ?_) fun _ _ z => z)
  obtain ⟨w, h1⟩ := h1
  cases ee : esc e s with
  | none => rw [ee] at q; exact q.elim
  | some p =>
    obtain ⟨d, e'⟩ := p
    rw [ee] at q
    obtain ⟨w2, h2, _⟩ := h1.esc (j := ts.length) (x := v) (s := s) (by simp) ee
    rw [List.set_append_right _ _ (Nat.le_refl _), Nat.sub_self] at h2
    obtain ⟨x, ex, r⟩ := h2.tmp ts.length v (.sh d) (by simp)
    cases ex
    cases d with
    | dic ds => exact rDic_of wk h2.drop r q
    | _ => exact q.elim
theorem di_vals {tg e : Expr} {f : Den} {apos cpos : Pos} (hp : X.prog = G.P) (hw : X.w = G.w) (he : PE X e (tD G W f)) (hbase : attributeBase e "values" X.env (eval e X.env) = eval e X.env := by rfl) (hline : (apos.endLine == cpos.line) = true := by rfl) : PI X tg (.Call (.Attribute e "values" apos) [] [] cpos) (tI G false W (dSrcD (·.2) f)) :=
  piImp (pi_valuesX hp hw he hbase hline) fun _ _ R h => tDic_of walk_vals R h
theorem di_items {e : Expr} {elts : List Expr} {kk : Nat} {tpos : Pos} {f : Den} {apos cpos : Pos} (hp : X.prog = G.P) (hw : X.w = G.w) (he : PE X e (tD G W f)) (hbase : attributeBase e "items" X.env (eval e X.env) = eval e X.env := by rfl) (hline : (apos.endLine == cpos.line) = true := by rfl) : PI X (.Tuple elts kk tpos) (.Call (.Attribute e "items" apos) [] [] cpos) (tI G true W (dSrcD selI f)) :=
  piImp (pi_itemsX hp hw he hbase hline) fun _ _ R h => tDic_of walk_items R h
end
end T

/-! TDx: o.get(k, n), {k: v}, dict([pairs]), len(d), == of dicts. -/
namespace T
open PySem PySem.Spec PyProof.Rows L2
/-! ### o.get(k, n) -/
def opGetL : Option D → Option (List D) → Option S
  | some (.dic ds), some [k, .int n] => (lookD ds k).map fun o => .sh (o.getD (.int n))
  | _, _ => none
def isDicO : Option D → Bool
  | some (.dic _) => true
  | _ => false
theorem isDicO_at {o : Option D} (h : isDicO o = true) : ∃ ds, o = some (.dic ds) := by
  unfold isDicO at h
  split at h
  · exact ⟨_, rfl⟩
  · cases h
def dGetE (f : Den) (fs : List Den) : Den := fun env => (f env).bind fun s e => if isDicO (rd e s) = true then (dargs fs e).bind fun ss e' => .get (opGetL (rd e' s) (rds e' ss)) e' else .bad
section
variable {G : Gh} {F : Fr} {W : WX} {w : Addr → Option Nat} {σ : L2.St} {H : Hp} {env : Env} {ts : List (V × S)} {X : Cx}
theorem de_getE {o e : Expr} {es : List Expr} {f : Den} {fs : List Den} {apos cpos : Pos} (hp : X.prog = G.P) (hw : X.w = G.w) (hK : X.K = G.K) (hu : X.A.units + 64 < cLine) (ho : PE X o (tD G W f)) (ha : PA X (e :: es) (tA G W (dargs fs)))
    (hbase : attributeBase o "get" X.env (eval o X.env) = eval o X.env := by rfl)
    (hfew : ((backTo cpos (starEach (e :: es) X.env)).all (fun x => !x.1) && (backToKw cpos (keywordEach [] X.env)).all (fun x => x.1.isSome)
      && decide ((e :: es).length + ([] : List Keyword).length + (if ([] : List Keyword).isEmpty then 0 else 1) < 30)) = true := by rfl)
    (hline : (apos.endLine == cpos.line) = true := by rfl) (hs : starEach (e :: es) X.env = (false, eval e X.env) :: starEach es X.env := by rfl) (hplain : (backTo cpos (starEach es X.env)).any (·.1) = false := by rfl) :
    PE X (.Call (.Attribute o "get" apos) (e :: es) [] cpos) (tD G W (dGetE f fs)) := by
  refine peImp (pe_dm (G := G) PySem.F.slot_dict_get PySem.F.type_dict_get (mtr_get hp hw hK hu) ho ha hbase hfew hline hs hplain) fun σ H Q ⟨F, ts, env, h, q⟩ => ?_
  rw [dGetE, Res.wp_bind] at q
  refine tD.mk h (Res.wp_mono q (fun s e q v H1 h1 => ?_) fun _ _ z => z)
  split at q
  case isFalse => exact q.elim
  rename_i hi
  obtain ⟨ds, ed⟩ := isDicO_at hi
  obtain ⟨w1, h1⟩ := h1
  have rd1 := h1.read (j := ts.length) (x := v) (s := s) (by simp) ed
  refine ⟨rd1.dat, ?_⟩
  rw [Res.wp_bind] at q
  refine tA.mk ⟨w1, h1⟩ (Res.wp_mono q (fun ss e' q us H2 hl h2 => ?_) fun _ _ z => XP.drop z)
  obtain ⟨s2, eo, q⟩ := wpGet q
  obtain ⟨w2, h2⟩ := h2
  obtain ⟨z1, z2⟩ := zipL hl
  cases e1 : rd e' s with
  | none => rw [e1] at eo; cases eo
  | some d =>
    cases e2 : rds e' ss with
    | none => rw [e1, e2] at eo; cases d <;> cases eo
    | some as =>
      rw [e1, e2] at eo
      have ra := h2.reads (us := us.zip ss) (by rw [z2]; exact e2)
      rw [z1] at ra
      have rb := h2.read (j := ts.length) (x := v) (s := s) (by rw [List.getElem?_append_left (by simp)]; simp) e1
      unfold opGetL at eo
      split at eo
      case h_2 => cases eo
      rename_i ds2 k n ea eb
      cases ea
      cases eb
      cases ra with
      | cons r1 ra =>
      cases ra with
      | cons r2 ra =>
      cases ra
      cases r2
      obtain ⟨od, eod, rfl⟩ := Option.map_eq_some_iff.mp eo
      obtain ⟨ov, g, m⟩ := look_of hide_le rb r1 eod
      refine ⟨_, _, ov, rfl, g, ?_⟩
      cases od with
      | none =>
        rw [show ov = none from m]
        exact q _ _ (Rel.out (B := H) h2.drop.drop (Out.val (.int _)))
      | some d' =>
        obtain ⟨v', ev, rv⟩ := m
        rw [ev]
        exact q _ _ (Rel.out (B := H) h2.drop.drop (Out.val rv))
end
/-! ### {k: v} -/
def tDisp1 (G : Gh) (tk tv : TE) : TE := fun σ H Q => ∀ p, H p = none → tk σ (upd H p (.dK [])) fun y H1 => tv σ H1 fun z H2 => H2 p = some (.dK []) ∧ ∃ B b k kd, y = .ref b ∧ Le B H2 ∧ Rep G B (.ref b) kd ∧ nkD kd = some k ∧ k.depth ≤ 8 ∧
  ∀ ob, DX G p [(k, b, z)] ob → Q (.ref p) (upd H2 p (exO p ob))
section
variable {X : Cx} {G : Gh} {W : WX}
theorem pe_disp1 {ke ve : Expr} {pos : Pos} {tk tv : TE} (hp : X.prog = G.P) (hw : X.w = G.w) (hK : X.K = G.K) (hu : X.A.units + 64 < cLine) (hk : PE X ke tk) (hv : PE X ve tv) : PE X (.Dict [some ke] [ve] pos) (tDisp1 G tk tv) := by
  refine ⟨fun pins s σ H Q I q => ?_⟩
  have hn := I.hok.fresh (Nat.le_refl s.heap.objs.size)
  have I1 := I.laid (a := s.heap.objs.size) (o := .dK []) (h' := s.heap.push { cls := .type "dict", data := .dict #[] }) (t' := s.toks) (fun _ _ q => Heap.get?_push_of_some _ q) (Nat.le_refl _) (dk_empty s.heap I.big)
  have hroom : X.A.units + 8 < cLine := by omega
  rw [arm_eval_Dict, zip_pairTrees [some ke] [ve] X.env pos rfl rfl, dictDisplay_pairs (pairTrees [some ke] [ve] X.env pos) (by intro z; cases z) (by show 1 < 17; decide)]
  refine wpAny_bind (wpAny_standAt (wpAny_bind (wpAny_subDictH (knd := nestedKind X.prog X.w) (Q := fun d s' => wpAny (model X.prog X.w) X.A (pure (Value.ref d)) (EP X pins σ Q) X.xe s') hroom (by show 1 ≤ 15; decide) ?_)))
  refine pairTrees_cons_walk (thn (hk.run pins _ σ _ _ I1 (q _ hn)) fun u s1 ⟨y, H1, I2, ry, q1⟩ => thn (hv.run pins s1 σ H1 _ I2 q1) fun u2 s2 ⟨z, H2, I3, rz, e, B, b, k, kd, ey, le, rk, ek, hd, q2⟩ => pairTrees_nil_walk ?_)
  subst ey
  cases (show u = Value.ref b from ry)
  obtain ⟨⟨xs, dd, t⟩, _, sm, mu⟩ := DicAt.held (B := B) (ds := []) (.inr ⟨e, rfl⟩) hp hw hK I3 le .nil
  cases t
  refine ⟨[(k, b, u2)], ⟨rfl, rfl, ⟨nest_of I3 hK le rk k ek _ rfl, hd⟩, True.intro⟩, dd, fun h' tk dd' hs => wpAny_pure ?_⟩
  have t1 : Paired KF [(k, b, z)] (storedAllH [] [(k, b, u2)]) := by
    have := put_pair (k := k) (b := b) (v := z) (u := u2) rz .nil (kvs := []) (xs := []) List.nodup_nil
    exact this
  obtain ⟨ob, eo, x⟩ := DX.made hp hw dd' t1 (by rw [sizeLine_eq]; exact Nat.le_of_ble_eq_true rfl) sm (fun z => nomatch z)
  exact ⟨.ref s.heap.objs.size, upd H2 s.heap.objs.size (exO s.heap.objs.size ob), d_write (t' := tk) I3 mu hs ⟨ob, eo⟩ ⟨eo, ⟨ob, eo⟩, fun h1 h2 q k => k _ q⟩, rfl, q2 ob x⟩
def dDisp1 (fk fv : Den) : Den := fun env => (fk env).bind fun sk e => match esc e sk with
  | some (kd, e1) => (fv e1).bind fun sv e2 => (match esc e2 sv with
    | some (vd, e3) => (match keyX kd with
      | some _ => .ok (.ow (.dic [(kd, vd)])) e3
      | none => .bad)
    | none => .bad)
  | none => .bad
theorem de_disp1 {ke ve : Expr} {pos : Pos} {fk fv : Den} (hp : X.prog = G.P) (hw : X.w = G.w) (hK : X.K = G.K) (hu : X.A.units + 64 < cLine) (hk : PE X ke (tD G W fk)) (hv : PE X ve (tD G W fv)) : PE X (.Dict [some ke] [ve] pos) (tD G W (dDisp1 fk fv)) := by
  refine peImp (pe_disp1 hp hw hK hu hk hv) fun σ H Q ⟨F, ts, env, h, q⟩ => ?_
  intro p hpn
  obtain ⟨w, h⟩ := h
  obtain ⟨w0, h0, _⟩ := h.pushOut (Out.newOw (B := hide H w) hpn (.dK .nil : OwnO G p (hide H w) (.dK []) (.dic [])) True.intro)
  rw [dDisp1, Res.wp_bind] at q
  refine ⟨F, _, env, ⟨w0, h0⟩, Res.wp_mono q (fun sk e q y H1 h1 => ?_) fun _ _ z => XP.drop z⟩
  obtain ⟨w1, h1⟩ := h1
  split at q
  case h_2 => exact q.elim
  rename_i kd e1 ek
  obtain ⟨w2, h2, _⟩ := h1.esc (j := ts.length + 1) (x := y) (s := sk) (last2 ..) ek
  rw [setL2] at h2
  rw [Res.wp_bind] at q
  refine ⟨F, _, e1, ⟨w2, h2⟩, Res.wp_mono q (fun sv e2 q z H2 h3 => ?_) fun _ _ z => XP.drop (XP.drop z)⟩
  obtain ⟨w3, h3⟩ := h3
  split at q
  case h_2 => exact q.elim
  rename_i vd e3 ev
  obtain ⟨w4, h4, _⟩ := h3.esc (j := ts.length + 2) (x := z) (s := sv) (last3 ..) ev
  rw [setL3] at h4
  split at q
  case h_2 => exact q.elim
  rename_i k hk'
  obtain ⟨⟨xs, rfl⟩, _, hnk, hdp⟩ := keyX_tup hk'
  have hz : Rep G (hide H2 w4) z vd := by
    obtain ⟨x', ex, r⟩ := h4.tmp (ts.length + 2) z (.sh vd) (last3 ..)
    cases ex
    exact r
  have hc := h4.drop
  have hy : Rep G (hide H2 w4) y (.tup xs) := by
    obtain ⟨x', ex, r⟩ := hc.tmp (ts.length + 1) y (.sh (.tup xs)) (last2 ..)
    cases ex
    exact r
  have hd := hc.drop
  obtain ⟨a', o', ea, _, ho, _, hO⟩ := hd.tmp ts.length (.ref p) (.ow (.dic [])) (last1 ..)
  cases ea
  obtain ⟨kvs, hr, ho'⟩ := own_dic hO (fun _ hp => nomatch hp)
  cases hr
  have hoe : H2 p = some (.dK []) := by
    rcases ho' with ⟨ob, rfl, x⟩ | ⟨rfl, _⟩
    · exact (x.ne rfl).elim
    · exact ho
  cases hy with
  | @tup b vs _ hy1 hy2 =>
    refine ⟨hoe, hide H2 w4, b, k, .tup xs, rfl, hide_le, .tup hy1 hy2, hnk, hdp, fun ob hob => ?_⟩
    exact q _ _ ⟨_, hd.mutT (o' := exO p ob) (d' := .dic [(.tup xs, vd)]) True.intro (.dX hob (.cons (.tup hy1 hy2) hnk hdp hz .nil))⟩
end
/-! ### dict([(k, v), ..]) -/
def dicL : List D → List (D × D) → Option (List (D × D))
  | [], acc => some acc
  | .tup [kd, d] :: r, acc => (match keyX kd with
    | some k => dicL r (putX acc k kd d)
    | none => none)
  | _, _ => none
def opDictL : List D → Option S
  | [.lst ds] => if ds.length ≤ 16777216 then (dicL ds []).map fun l => .ow (.dic l) else none
  | _ => none
/-- what a list of pairs puts -/
inductive PutsV (G : Gh) (H B : Hp) : List V → List D → List (NestedKey × Addr × V) → Prop
  | nil : PutsV G H B [] [] []
  | cons {T b : Addr} {v : V} {vs : List V} {kd d : D} {ds : List D} {k : NestedKey} {ps : List (NestedKey × Addr × V)} : TupX G.K B T [.ref b, v] → Rep G B (.ref b) kd → Rep G B v d → nkD kd = some k → k.depth ≤ 8 → PutsV G H B vs ds ps → PutsV G H B (.ref T :: vs) (.tup [kd, d] :: ds) ((k, b, v) :: ps)
def putAllV (acc ps : List (NestedKey × Addr × V)) : List (NestedKey × Addr × V) := ps.foldl (fun a p => putV a p.1 p.2.1 p.2.2) acc
def rDictL (G : Gh) : List V → Hp → VK → Prop := fun us H Q => ∃ a vs ds ps B, us = [.ref a] ∧ SqL G.K H a vs ∧ Le B H ∧ PutsV G H B vs ds ps ∧ ds.length ≤ 16777216 ∧ ∀ p, H p = none → (ps = [] → Q (.ref p) (upd H p (.dK []))) ∧ (∀ ob, DX G p (putAllV [] ps) ob → Q (.ref p) (upd H p (exO p ob)))
section
variable {X : Cx} {G : Gh} {pins : List (Addr × Obj)} {σ : L2.St} {H B : Hp} {s : Shared}
theorem PutsV.len : ∀ {vs : List V} {ds : List D} {ps : List (NestedKey × Addr × V)}, PutsV G H B vs ds ps → vs.length = ps.length ∧ ds.length = ps.length
  | _, _, _, .nil => ⟨rfl, rfl⟩
  | _, _, _, .cons _ _ _ _ _ t => ⟨congrArg Nat.succ t.len.1, congrArg Nat.succ t.len.2⟩
/-- the pairs in the heap -/
theorem PutsV.items (hp : X.prog = G.P) (hw : X.w = G.w) (hK : X.K = G.K) (I : Inv X pins σ H s) (le : Le B H) : ∀ {vs : List V} {ds : List D} {ps : List (NestedKey × Addr × V)} {its : List Value}, PutsV G H B vs ds ps → Vals vs its →
    ∃ (Ts : List Addr) (qs : List (NestedKey × Addr × Value)), its = Ts.map Value.ref ∧ Ts.length = qs.length ∧ Paired KF ps qs ∧ (∀ x ∈ qs, (nestedKind X.prog X.w).is s.heap x.1 x.2.1) ∧ ∀ (j : Nat) (T : Addr) (q : NestedKey × Addr × Value), Ts[j]? = some T → qs[j]? = some q → PairAt s.heap T (.ref q.2.1) q.2.2
  | _, _, _, _, .nil, .nil => ⟨[], [], rfl, rfl, .nil, (fun _ h => nomatch h), fun j T q h => nomatch h⟩
  | _, _, _, _, .cons (T := T) (b := b) (k := k) hT rk rv ek hd t, .cons r rs => by
    obtain ⟨Ts, qs, e1, e2, e3, e4, e5⟩ := PutsV.items hp hw hK I le t rs
    cases r
    obtain ⟨ov, hPA, rv'⟩ : ∃ ov, PairAt s.heap T (.ref b) ov ∧ RelV _ ov := by
      have sq := (TupX.le hT le).sq
      rw [← hK] at sq
      obtain ⟨its, rl, pl, _⟩ := I.tuple sq
      cases rl with
      | cons r1 rl =>
      cases rl with
      | cons r2 rl =>
      cases rl
      cases r1
      exact ⟨_, .inl pl, r2⟩
    refine ⟨T :: Ts, (k, b, ov) :: qs, by rw [e1]; rfl, by rw [List.length_cons, List.length_cons, e2], .cons ⟨rfl, rfl, rv'⟩ e3, fun x hx => ?_, fun j T' q h1 h2 => ?_⟩
    · rcases List.mem_cons.mp hx with rfl | hx
      · exact ⟨nest_of I hK le rk k ek _ rfl, hd⟩
      · exact e4 x hx
    · cases j with
      | zero =>
        cases h1
        cases h2
        exact hPA
      | succ j => exact e5 j T' q h1 h2
theorem putV_nodup {k : NestedKey} {b : Addr} {v : V} : ∀ {acc : List (NestedKey × Addr × V)}, (acc.map (·.1)).Nodup → ((putV acc k b v).map (·.1)).Nodup ∧ ∀ x, x ∈ (putV acc k b v).map (·.1) → x = k ∨ x ∈ acc.map (·.1)
  | [], _ => ⟨List.pairwise_singleton _ _, fun x hx => .inl (List.mem_singleton.mp hx)⟩
  | (k0, b0, v0) :: r, hn => by
    rw [List.map_cons, List.nodup_cons] at hn
    obtain ⟨i1, i2⟩ := putV_nodup (k := k) (b := b) (v := v) hn.2
    rw [putV]
    by_cases q : k0 = k
    · rw [if_pos q, List.map_cons, List.nodup_cons]
      exact ⟨hn, fun x hx => .inr hx⟩
    · rw [if_neg q, List.map_cons, List.nodup_cons]
      refine ⟨⟨fun hm => ?_, i1⟩, fun x hx => ?_⟩
      · rcases i2 _ hm with z | z
        · exact q z
        · exact hn.1 z
      · rcases List.mem_cons.mp hx with rfl | hx
        · exact .inr List.mem_cons_self
        · rcases i2 _ hx with z | z
          · exact .inl z
          · exact .inr (List.mem_cons_of_mem _ z)
theorem storedAll_pair : ∀ (ps : List (NestedKey × Addr × V)) (qs : List (NestedKey × Addr × Value)) {acc : List (NestedKey × Addr × V)} {xs : List (NestedKey × Addr × Value)}, Paired KF ps qs → Paired KF acc xs → (acc.map (·.1)).Nodup → Paired KF (putAllV acc ps) (storedAllH xs qs)
  | _, _, _, _, .nil, h, hn => h
  | (k, b, v) :: ps, (k', b', u) :: qs, acc, xs, .cons r t, h, hn => by
    obtain ⟨e1, e2, e3⟩ := r
    cases (show k = k' from e1)
    cases (show b = b' from e2)
    exact storedAll_pair ps qs t (put_pair (k := k) (b := b) e3 h (by rw [← keys_pair h]; exact hn)) (putV_nodup hn).1
theorem putAllV_len : ∀ (ps acc : List (NestedKey × Addr × V)), (putAllV acc ps).length ≤ acc.length + ps.length
  | [], acc => Nat.le_refl _
  | p :: ps, acc => by
    have h1 := putAllV_len ps (putV acc p.1 p.2.1 p.2.2)
    have h2 := putV_len (k := p.1) (b := p.2.1) (v := p.2.2) acc
    show (putAllV (putV acc p.1 p.2.1 p.2.2) ps).length ≤ _
    rw [List.length_cons]
    omega
theorem putAllV_ne : ∀ (ps acc : List (NestedKey × Addr × V)), (acc ≠ [] ∨ ps ≠ []) → putAllV acc ps ≠ []
  | [], acc, h => h.elim id fun z => (z rfl).elim
  | p :: ps, acc, _ => putAllV_ne ps _ (.inl (putV_ne _ _ _ _))
theorem cr_dictL (hc : X.calm = true) (hp : X.prog = G.P) (hw : X.w = G.w) (hK : X.K = G.K) (hu : X.A.units + 64 < cLine) : CallR X (.type "dict") (rDictL G) := by
  intro pins s σ H us vs Q I r h
  obtain ⟨a, xs, ds, ps, B, rfl, hs, le, pv, hl, q⟩ := h
  rw [Vals.ref1 r]
  rw [← hK] at hs
  obtain ⟨its, rv, pl, hz⟩ := I.list hs
  obtain ⟨Ts, qs, e1, e2, e3, e4, e5⟩ := pv.items hp hw hK I le rv
  obtain ⟨o, n, ho, hcl, hdn, hdd⟩ := pl
  have hlen : qs.length ≤ sizeLine := by rw [← e3.length, ← pv.len.2, sizeLine_eq]; exact hl
  have P := PairArg.list (prog := X.prog) (w := X.w) a its.toArray (fun j => Ts.getD j 0) (qs.map fun x => (Value.ref x.2.1, x.2.2))
  have hroom : X.A.in1.in1.units + 8 < cLine := by
    show X.A.units + 1 + 1 + 8 < cLine
    omega
  have hTs : ∀ j T, Ts[j]? = some T → Ts.getD j 0 = T := fun j T h => by rw [List.getD_eq_getElem?_getD, h]; rfl
  refine call_dict_pairsH (knd := nestedKind X.prog X.w) (ps := qs) P (I.ok.hd hc) hroom ⟨⟨o, n, ho, hcl, hdn, hdd⟩, by rw [e1]; simp [e2], fun j k v hj => ?_⟩ ⟨by simp, fun i key v hi => ?_⟩ (fun h' hk x hx => ?_) (by simpa using hlen) fun h' tk dd hk => ?_
  · rw [List.getElem?_map] at hj
    cases hq : qs[j]? with
    | none => rw [hq] at hj; cases hj
    | some x =>
      rw [hq] at hj
      cases hj
      have hjl : j < Ts.length := by rw [e2]; exact (List.getElem?_eq_some_iff.mp hq).1
      have hT := List.getElem?_eq_getElem hjl
      refine ⟨?_, ?_⟩
      · show its.toArray[j]? = some (Value.ref (Ts.getD j 0))
        rw [e1, hTs j _ hT]
        simp [hT]
      · show PairAt s.heap (Ts.getD j 0) _ _
        rw [hTs j _ hT]
        exact e5 j _ _ hT hq
  · have hi' : (qs.map fun x => (Value.ref x.2.1, x.2.2))[i]? = some (key, v) := hi
    rw [List.getElem?_map] at hi'
    cases hq : qs[i]? with
    | none => rw [hq] at hi'; cases hi'
    | some x =>
      rw [hq] at hi'
      cases hi'
      exact ⟨x.1, x.2.1, rfl, rfl⟩
  · exact nestedKind_stays.all h' (fun b o _ e => hk b o (fun z => by rw [z] at e; exact absurd (Heap.lt_size e) (Nat.lt_irrefl _)) (List.not_mem_nil) e) _ _ (e4 x hx)
  · have hn := I.hok.fresh (Nat.le_refl s.heap.objs.size)
    have t1 := storedAll_pair _ _ e3 .nil List.nodup_nil
    obtain ⟨q0, q1⟩ := q _ hn
    have keep : ∀ b o, s.heap.get? b = some o → h'.get? b = some o := fun b o e => hk b o List.not_mem_nil e
    have sm : (s.heap.objs.size == sysModules) = false := beq_eq_false_iff_ne.mpr fun z => by
      have := I.big
      rw [← z] at this
      exact Nat.lt_irrefl _ this
    cases ps with
    | nil =>
      cases e3
      refine ⟨.ref s.heap.objs.size, _, I.laid (t' := tk) keep (Nat.le_refl _) (o := .dK []) ?_, rfl, q0 rfl⟩
      obtain ⟨ob, es, ep, d1, d2, d3, d4, d5, d6⟩ := dd
      have he : es.toList = [] := d4
      refine ⟨Nat.zero_le _, sm, [], .nil, ob, es, ep, d1, d2, d3, ?_, ?_, ?_⟩
      · intro e hm
        have : e ∈ es.toList := Array.mem_toList_iff.mpr hm
        rw [he] at this
        cases this
      · rw [he]; exact .nil
      · exact List.nodup_nil
    | cons p0 ps0 =>
      obtain ⟨ob, eo, x⟩ := DX.made hp hw dd t1 (by have := putAllV_len (p0 :: ps0) []; have hl2 := pv.len.2; rw [sizeLine_eq]; rw [List.length_nil] at this; omega) sm (putAllV_ne _ _ (.inr fun z => nomatch z))
      exact ⟨.ref s.heap.objs.size, _, I.laid (t' := tk) keep (Nat.le_refl _) (o := exO s.heap.objs.size ob) ⟨eo, ⟨ob, eo⟩, fun h1 h2 q k => k _ q⟩, rfl, q1 ob x⟩
end
section
variable {G : Gh}
theorem puts_of {H B : Hp} : ∀ {ds : List D} {vs : List V} {acc : List (NestedKey × Addr × V)} {da l : List (D × D)}, Reps G B vs ds → RepX G B acc da → dicL ds da = some l → ∃ ps, PutsV G H B vs ds ps ∧ RepX G B (putAllV acc ps) l
  | [], _, acc, da, l, .nil, ra, e => by
    cases e
    exact ⟨[], .nil, ra⟩
  | d :: ds, _, acc, da, l, .cons r rs, ra, e => by
    unfold dicL at e
    split at e
    · rename_i h; cases h
    · rename_i kd d' r' acc' h1
      cases h1
      split at e
      case h_2 => cases e
      rename_i k hk
      obtain ⟨⟨xs, rfl⟩, _, hnk, hdp⟩ := keyX_tup hk
      cases r with
      | @tup T us _ h1 h2 =>
      cases h2 with
      | cons rk h2 =>
      cases h2 with
      | cons rv h2 =>
      cases h2
      cases rk with
      | @tup b ws _ k1 k2 =>
      obtain ⟨ps, p1, p2⟩ := puts_of (H := H) rs (ra.put (.tup k1 k2) hnk hdp rv) e
      exact ⟨_, .cons h1 (.tup k1 k2) rv hnk hdp p1, p2⟩
    · cases e
variable {F : Fr} {W : WX} {w : Addr → Option Nat} {σ : L2.St} {H : Hp} {env : Env} {ts : List (V × S)} {X : Cx}
theorem s_dictL : CallS G (rDictL G) opDictL := by
  intro H B xs as s Q le ra e q
  cases ra with
  | nil => cases e
  | cons r1 r2 =>
    cases r2 with
    | cons _ _ => cases r1 <;> cases e
    | nil =>
      cases r1 with
      | @lst a vs ds h1 h2 =>
        simp only [opDictL] at e
        split at e
        case isFalse => cases e
        rename_i hl
        obtain ⟨l, el, rfl⟩ := Option.map_eq_some_iff.mp e
        obtain ⟨ps, p1, p2⟩ := puts_of (H := H) h2 .nil el
        refine ⟨a, vs, ds, ps, B, rfl, SqL.of h1, le, p1, hl, fun p hpn => ⟨fun e0 => ?_, fun ob hob => ?_⟩⟩
        · subst e0
          cases p2
          exact q _ _ (Out.newOw hpn (.dK .nil) True.intro)
        · exact q _ _ (Out.newOw hpn (.dX hob p2) True.intro)
      | _ => cases e
end
end T

/-! TDeq: == and != of dicts whose keys are tuples. -/
namespace T
open PySem PySem.Spec PyProof.Rows L2
section
variable {prog : Program} {w : World} {K : Type} [DecidableEq K] {knd : HeapKind prog w K} {A : Around} {E : Value → Shared → Prop} {s : Shared}
inductive HitsH {K : Type} [DecidableEq K] (prog : Program) (w : World) (A : Around) (s : Shared) (kb : List (K × Addr × Value)) : List (K × Addr × Value) → Bool → Prop
  | nil : HitsH prog w A s kb [] true
  | miss {k : K} {a : Addr} {v : Value} {r : List (K × Addr × Value)} : atKey kb k = none → HitsH prog w A s kb ((k, a, v) :: r) false
  | hit {k : K} {a b' : Addr} {v y : Value} {r : List (K × Addr × Value)} {e b : Bool} : atKey kb k = some (b', y) → SeqAt.EqP prog w A s v y e → HitsH prog w A s kb r b → HitsH prog w A s kb ((k, a, v) :: r) (e && b)
theorem HitsH.inv {kb : List (K × Addr × Value)} {k : K} {a : Addr} {v : Value} {r : List (K × Addr × Value)} {b : Bool} (h : HitsH prog w A s kb ((k, a, v) :: r) b) :
    (atKey kb k = none ∧ b = false) ∨ ∃ b' y e b2, atKey kb k = some (b', y) ∧ SeqAt.EqP prog w A s v y e ∧ HitsH prog w A s kb r b2 ∧ b = (e && b2) := by
  cases h with
  | miss hn => exact .inl ⟨hn, rfl⟩
  | hit hy he hr => exact .inr ⟨_, _, _, _, hy, he, hr, rfl⟩
theorem samePairsH {nm : String} {a b : Addr} {ka kb : List (K × Addr × Value)} {r : Bool} {Q : Bool → Shared → Prop} (hu : knd.room A) (ha : (a == sysModules) = false) (hb : (b == sysModules) = false)
    (da : s.heap.DictOfH knd a ka) (db : s.heap.DictOfH knd b kb) (hits : ka.length = kb.length → HitsH prog w A s kb ka r) (h : Q (ka.length == kb.length && r) s) :
    wpAny (model prog w) A (Builtin.Dict.samePairs nm a b) Q E s := by
  obtain ⟨oa, es, ep, hoa, _, hda, hea, hisa, hna⟩ := da
  obtain ⟨ob, es', ep', hob, _, hdb, heb, hisb, hnb⟩ := db
  have hla : ka.length = es.size := (size_of_entries hea).symm
  have hlb : kb.length = es'.size := (size_of_entries heb).symm
  rw [hla, hlb] at h
  unfold Builtin.Dict.samePairs Builtin.Dict.showsAll
  rw [if_neg (show ¬ (a == sysModules) = true by rw [ha]; exact Bool.false_ne_true), if_neg (show ¬ (b == sysModules) = true by rw [hb]; exact Bool.false_ne_true)]
  refine wpAny_bind (wpAny_pure (wpAny_bind (wpAny_pure ?_)))
  refine wpAny_bind (wpAny_dictEntries hoa hda ?_)
  dsimp only
  refine wpAny_bind (wpAny_dictEntries hob hdb ?_)
  by_cases hsz : es.size = es'.size
  case neg =>
    rw [if_pos (by simpa using hsz)]
    have hbf : (es.size == es'.size) = false := by simpa using hsz
    rw [hbf, Bool.false_and] at h
    exact wpAny_bind (wpAny_rule (wpAny_pure h))
  case pos =>
    have h' : Q r s := by simpa [hsz] using h
    have hits' := hits (by rw [hla, hlb]; exact hsz)
    rw [if_neg (by rw [hsz]; simp)]
    refine wpAny_bind (wpAny_dictEpoch hoa hda ?_)
    refine wpAny_bind ?_
    rw [Std.Legacy.Range.forIn_eq_forIn_range']
    simp only [Std.Legacy.Range.size, Nat.sub_zero, Nat.add_sub_cancel, Nat.div_one]
    refine wpAny_forIn_list _
      (fun rest q s' => s' = s ∧ q = (none, ()) ∧ ∃ i, rest = List.range' i (es.size - i) ∧ i ≤ es.size ∧ HitsH prog w A s kb (ka.drop i) r)
      _ ?_ ?_ _ _ ⟨rfl, rfl, 0, by simp, Nat.zero_le _, hits'⟩
    · rintro x rest q s' ⟨rfl, rfl, i, hr, hi, hpre⟩
      have hlt : i < es.size := by
        rcases Nat.lt_or_ge i es.size with h | h
        · exact h
        · rw [Nat.sub_eq_zero_of_le h] at hr; simp at hr
      obtain ⟨rfl, hrest⟩ : x = i ∧ rest = List.range' (i + 1) (es.size - (i + 1)) := by
        have e : es.size - i = (es.size - (i + 1)) + 1 := by omega
        rw [e, List.range'_succ] at hr
        injection hr with h1 h2
        exact ⟨h1, h2⟩
      refine wpAny_bind (wpAny_dictEntries hoa hda ?_)
      rw [Array.getElem?_eq_getElem hlt]
      have hlt' : x < ka.length := by rw [hla]; exact hlt
      obtain ⟨k, a0, v, hkv⟩ : ∃ k a0 v, ka[x] = (k, a0, v) := ⟨_, _, _, rfl⟩
      have hdrop : ka.drop x = (k, a0, v) :: ka.drop (x + 1) := by rw [← hkv]; exact List.drop_eq_getElem_cons hlt'
      have hen : es[x] = entryOfKey knd (k, a0, v) := by
        have z := entry_at hea x
        rw [Array.getElem?_eq_getElem hlt, List.getElem?_eq_getElem hlt', hkv] at z
        exact Option.some.inj z
      have hkey : knd.is s'.heap k a0 := by
        have z := hisa _ (List.getElem_mem hlt')
        rw [hkv] at z
        exact z
      rw [hdrop] at hpre
      rw [hen]
      show wpAny _ _ (holding [Value.ref a0, v] _ >>= _) _ _ _
      refine wpAny_bind (wpAny_holding (wpAny_bind (wpAny_dictFind_heap hu hkey hob hdb heb hisb hnb (fun hno => ?_) fun j p hj => ?_)))
      · have hn : atKey kb k = none := atKey_none_of_get hno
        rcases hpre.inv with ⟨_, er⟩ | ⟨b', y, _, _, hy, _⟩
        · rw [er] at h'
          refine wpAny_pure ?_
          show wpAny _ _ (if (!false) = true then _ else _) _ _ _
          rw [if_pos (by decide)]
          exact wpAny_pure (wpAny_pure h')
        · rw [hn] at hy; exact nomatch hy
      · have hv' : atKey kb k = some p := atKey_of_get hnb hj
        have hjl : j < es'.size := by rw [← hlb]; exact (List.getElem?_eq_some_iff.mp hj).1
        have hen' : es'[j] = entryOfKey knd (k, p) := by
          have z := entry_at heb j
          rw [Array.getElem?_eq_getElem hjl, hj] at z
          exact Option.some.inj z
        refine wpAny_bind (wpAny_dictEntries hob hdb ?_)
        rw [Array.getElem?_eq_getElem hjl, hen']
        rcases hpre.inv with ⟨hn, _⟩ | ⟨b', y, e, b2, hy, he, hrr, er⟩
        · rw [hv'] at hn; exact nomatch hn
        · rw [hv'] at hy
          cases hy
          refine wpAny_holding (he _ _ ?_)
          cases e with
          | false =>
            rw [er, Bool.false_and] at h'
            show wpAny _ _ (if (!false) = true then _ else _) _ _ _
            rw [if_pos (by decide)]
            exact wpAny_pure (wpAny_pure h')
          | true =>
            rw [Bool.true_and] at er
            rw [← er] at hrr
            show wpAny _ _ (if (!true) = true then _ else _) _ _ _
            rw [if_neg (by decide)]
            refine wpAny_bind (wpAny_dictEpoch hoa hda ?_)
            rw [if_neg (by simp)]
            exact wpAny_pure ⟨rfl, rfl, x + 1, hrest, hlt, hrr⟩
    · rintro q s' ⟨rfl, rfl, i, hr, hi, hpre⟩
      have hin : i = es.size := by
        rcases Nat.lt_or_ge i es.size with h | h
        · have e : es.size - i = (es.size - (i + 1)) + 1 := by omega
          rw [e, List.range'_succ] at hr; exact nomatch hr
        · exact Nat.le_antisymm hi h
      refine wpAny_pure ?_
      rw [hin, ← hla, List.drop_length] at hpre
      cases hpre
      exact h'
theorem heq_eq {a b : Addr} {ka kb : List (K × Addr × Value)} {r : Bool} {Q : Value → Shared → Prop} (hr : knd.room A.in1) (ha : (a == sysModules) = false) (hb : (b == sysModules) = false)
    (da : s.heap.DictOfH knd a ka) (db : s.heap.DictOfH knd b kb) (hu : A.units < cLine) (hits : ka.length = kb.length → HitsH prog w A.in1 s kb ka r) (h : Q (.bool (ka.length == kb.length && r)) s) :
    wpAny (model prog w) A (compareOp .Eq (.ref a) (.ref b)) Q E s := by
  refine wpAny_richCompare_same_room (op := .Eq) da.typeIs db.typeIs PySem.F.slot_dict_eq (wpAny_call_entry PySem.F.slot_dict_eq da.typeIs PySem.F.entry_dict_eq ?_ (PySem.F.args_dict_eq_2 _ _)) hu
  show wpAny _ _ (Builtin.Dict.dictSlotArgs "__eq__" ⟨[.ref a, .ref b], []⟩ >>= _) _ _ s
  refine wpAny_bind ?_
  unfold Builtin.Dict.dictSlotArgs
  refine wpAny_bind (wpAny_notOrdered_dict da.typeIs ?_)
  show wpAny _ _ (pure (Value.ref a, Value.ref b)) _ _ s
  refine wpAny_pure ?_
  refine wpAny_bind (wpAny_isInstance (T := "dict") db.typeIs PySem.F.sub_dict_dict ?_)
  simp only [Bool.not_true, Bool.false_eq_true, if_false]
  refine wpAny_bind (wpAny_pure (wpAny_bind (wpAny_pure ?_)))
  refine wpAny_bind (samePairsH hr ha hb da db hits ?_)
  refine wpAny_pure ⟨_, rfl, ?_, ?_⟩
  · exact fun x => nomatch x
  · simpa using h
theorem heq_ne {a b : Addr} {ka kb : List (K × Addr × Value)} {r : Bool} {Q : Value → Shared → Prop} (hr : knd.room A.in1) (ha : (a == sysModules) = false) (hb : (b == sysModules) = false)
    (da : s.heap.DictOfH knd a ka) (db : s.heap.DictOfH knd b kb) (hu : A.units < cLine) (hits : ka.length = kb.length → HitsH prog w A.in1 s kb ka r) (h : Q (.bool (!(ka.length == kb.length && r))) s) :
    wpAny (model prog w) A (compareOp .NotEq (.ref a) (.ref b)) Q E s := by
  refine wpAny_richCompare_same_room (op := .NotEq) da.typeIs db.typeIs PySem.F.slot_dict_ne (wpAny_call_entry PySem.F.slot_dict_ne da.typeIs PySem.F.entry_dict_ne ?_ (PySem.F.args_dict_ne_2 _ _)) hu
  show wpAny _ _ (Builtin.Dict.dictSlotArgs "__ne__" ⟨[.ref a, .ref b], []⟩ >>= _) _ _ s
  refine wpAny_bind ?_
  unfold Builtin.Dict.dictSlotArgs
  refine wpAny_bind (wpAny_notOrdered_dict da.typeIs ?_)
  show wpAny _ _ (pure (Value.ref a, Value.ref b)) _ _ s
  refine wpAny_pure ?_
  refine wpAny_bind (wpAny_isInstance (T := "dict") db.typeIs PySem.F.sub_dict_dict ?_)
  simp only [Bool.not_true, Bool.false_eq_true, if_false]
  refine wpAny_bind (wpAny_pure (wpAny_bind (wpAny_pure ?_)))
  refine wpAny_bind (samePairsH hr ha hb da db hits ?_)
  refine wpAny_pure ⟨_, rfl, ?_, ?_⟩
  · exact fun x => nomatch x
  · simpa using h
end
/-! ### on trees -/
def hasX (b : List (D × D)) (p : D × D) : Bool := match nkD p.1 with
  | some k => (match getX b k with
    | some e => PyData.eqv p.2.py e.py
    | none => false)
  | none => false
def eqX (a b : List (D × D)) : Bool := a.length == b.length && a.all (hasX b)
def okEq (p : D × D) : Bool := isTd p && SeqAt.shaped p.2.py
/-- a dict with tuple keys as it is held -/
def HeldX (G : Gh) (H : Hp) (a : Addr) (kvs : List (NestedKey × Addr × V)) : Prop := (∃ ob, RdX H a ob ∧ DX G a kvs ob) ∨ (Rd H a (.dK []) ∧ kvs = [])
def rEqX (G : Gh) (n : Bool) : R2 := fun x y H Q => ∃ a b ka kb da db B, x = .ref a ∧ y = .ref b ∧ HeldX G H a ka ∧ HeldX G H b kb ∧ Le B H ∧ RepX G B ka da ∧ RepX G B kb db ∧ (∀ p ∈ da, SeqAt.shaped p.2.py = true) ∧ (∀ p ∈ db, SeqAt.shaped p.2.py = true) ∧
  Q (.bl (if n = true then !eqX da db else eqX da db)) H
section
variable {X : Cx} {G : Gh} {pins : List (Addr × Obj)} {σ : L2.St} {H B : Hp} {s : Shared}
theorem getX_mem {k : NestedKey} {d : D} : ∀ {ds : List (D × D)}, getX ds k = some d → ∃ kd, (kd, d) ∈ ds
  | [], h => nomatch h
  | (kd, d0) :: r, h => by
    rw [getX] at h
    split at h
    · cases h; exact ⟨kd, List.mem_cons_self⟩
    · obtain ⟨kd', m⟩ := getX_mem h
      exact ⟨kd', List.mem_cons_of_mem _ m⟩
theorem hits_of (hK : X.K = G.K) (hu : X.A.units + 65 < cLine) (I : Inv X pins σ H s) (le : Le B H) {kb : List (NestedKey × Addr × V)} {db : List (D × D)} {xb : List (NestedKey × Addr × Value)} (rb : RepX G B kb db) (tb : Paired KF kb xb) (ob : ∀ p ∈ db, SeqAt.shaped p.2.py = true) :
    ∀ {ka : List (NestedKey × Addr × V)} {da : List (D × D)} {xa : List (NestedKey × Addr × Value)}, RepX G B ka da → Paired KF ka xa → (∀ p ∈ da, SeqAt.shaped p.2.py = true) → HitsH X.prog X.w X.A.in1 s xb xa (da.all (hasX db))
  | _, _, _, .nil, .nil, _ => .nil
  | (k, _, v) :: ka, (_, d) :: da, (k1, b1, u1) :: xa, .cons r0 e0 d0 rv t, .cons h t', oa => by
    obtain ⟨e1, e2, e3⟩ := h
    cases (show k = k1 from e1)
    have ih := hits_of hK hu I le rb tb ob t t' fun p hp => oa p (List.mem_cons_of_mem _ hp)
    have sd := oa _ List.mem_cons_self
    rw [List.all_cons]
    unfold hasX
    rw [e0]
    show HitsH X.prog X.w X.A.in1 s xb _ ((match getX db k with
      | some e => PyData.eqv d.py e.py
      | none => false) && _)
    cases q : getX db k with
    | none => exact .miss (miss_pair tb (rb.miss q))
    | some e =>
      obtain ⟨v', ev, re⟩ := rb.get q
      obtain ⟨p, ep, rp⟩ := get_pair tb ev
      obtain ⟨kd, m⟩ := getX_mem q
      have se := ob _ m
      obtain ⟨as, r1⟩ := Dp.reads I d.py v u1 (by rw [hK]; exact (Rep.le le rv).dp (SeqAt.canLay_of_shaped sd)) e3
      obtain ⟨bs, r2⟩ := Dp.reads I e.py v' p.2 (by rw [hK]; exact (Rep.le le re).dp (SeqAt.canLay_of_shaped se)) rp
      exact .hit (b' := p.1) (y := p.2) ep (SeqAt.EqAt.eqP (PySem.W.keq_at (A := X.A) r1 r2 sd se (by show X.A.units + 1 + 64 < cLine; omega))) ih
theorem HeldX.at_ {a : Addr} {kvs : List (NestedKey × Addr × V)} {ds : List (D × D)} (hp : X.prog = G.P) (hw : X.w = G.w) (hK : X.K = G.K) (I : Inv X pins σ H s) (h : HeldX G H a kvs) (le : Le B H) (r : RepX G B kvs ds) :
    (∃ xs, s.heap.DictOfH (nestedKind X.prog X.w) a xs ∧ Paired KF kvs xs) ∧ (a == sysModules) = false := held_any hp hw hK I h le r
theorem or_eqX (n : Bool) (hp : X.prog = G.P) (hw : X.w = G.w) (hK : X.K = G.K) (hu : X.A.units + 65 < cLine) : OpR X (compareOp (if n = true then .NotEq else .Eq)) (rEqX G n) := by
  intro pins s σ H x y u v Q I rx ry h
  obtain ⟨a, b, ka, kb, da, db, B, rfl, rfl, ha, hb, le, ra, rb, oa, ob, q⟩ := h
  cases (show u = Value.ref a from rx)
  cases (show v = Value.ref b from ry)
  obtain ⟨⟨xa, d1, t1⟩, sa⟩ := ha.at_ hp hw hK I le ra
  obtain ⟨⟨xb, d2, t2⟩, sb⟩ := hb.at_ hp hw hK I le rb
  have hh := hits_of hK hu I le rb t2 ob ra t1 oa
  have el : (xa.length == xb.length) = (da.length == db.length) := by rw [← t1.length, ← t2.length, ra.length, rb.length]
  have hroom : X.A.in1.units + 8 < cLine := by
    show X.A.units + 1 + 8 < cLine
    omega
  have fin : Q (.bl (if n = true then !(xa.length == xb.length && da.all (hasX db)) else (xa.length == xb.length && da.all (hasX db)))) H := by
    rw [el]
    exact q
  cases n with
  | false => exact heq_eq (knd := nestedKind X.prog X.w) hroom sa sb d1 d2 (by omega) (fun _ => hh) ⟨.bl _, H, I, rfl, fin⟩
  | true => exact heq_ne (knd := nestedKind X.prog X.w) hroom sa sb d1 d2 (by omega) (fun _ => hh) ⟨.bl _, H, I, rfl, fin⟩
end
def opEqA (n : Bool) : D → D → Option S
  | .dic a, .dic b => if (a.all okEq && b.all okEq) = true then some (.sh (.bl (if n = true then !eqX a b else eqX a b))) else none
  | a, b => if n = true then opNe a b else opEq a b
section
variable {G : Gh} {H B : Hp}
theorem BRep.heldX {x : V} {ds : List (D × D)} (r : BRep G H B x (.dic ds)) (t : TK ds) : ∃ a kvs, x = .ref a ∧ HeldX G H a kvs ∧ RepX G B kvs ds := by
  cases r with
  | @dK a kvs _ h1 h2 =>
    cases h2 with
    | nil => exact ⟨a, [], rfl, .inr ⟨h1, rfl⟩, .nil⟩
    | @cons k v kvs d ds _ _ =>
      obtain ⟨xs, e⟩ := t (keyD k, d) List.mem_cons_self
      cases k with
      | inl i => cases e
      | inr x => cases e
  | @dX a kvs _ ob h1 h2 h3 => exact ⟨a, kvs, rfl, .inl ⟨ob, h1, h2⟩, h3⟩
theorem okEq_at {ds : List (D × D)} (h : ds.all okEq = true) : TK ds ∧ ∀ p ∈ ds, SeqAt.shaped p.2.py = true := by
  refine ⟨fun p hp => ?_, fun p hp => ?_⟩
  · have z := List.all_eq_true.mp h p hp
    rw [okEq, Bool.and_eq_true] at z
    have z1 := z.1
    unfold isTd at z1
    split at z1
    · rename_i xs e; exact ⟨xs, e⟩
    · cases z1
  · have z := List.all_eq_true.mp h p hp
    rw [okEq, Bool.and_eq_true] at z
    exact z.2
theorem s_eqA (n : Bool) : OpS G (fun x y H Q => (if n = true then rNeD G.K x y H Q else rEqD G.K x y H Q) ∨ rEqX G n x y H Q) (opEqA n) := by
  intro H B x y a b s Q le ra rb e q
  have other : (if n = true then opNe a b else opEq a b) = some s → (if n = true then rNeD G.K x y H Q else rEqD G.K x y H Q) ∨ rEqX G n x y H Q := fun e => by
    refine .inl ?_
    cases n with
    | false => exact s_eq H B x y a b s Q le ra rb e q
    | true => exact s_ne H B x y a b s Q le ra rb e q
  unfold opEqA at e
  split at e
  · rename_i d1 d2
    split at e
    case isFalse => cases e
    rename_i hok
    cases e
    rw [Bool.and_eq_true] at hok
    obtain ⟨t1, o1⟩ := okEq_at hok.1
    obtain ⟨t2, o2⟩ := okEq_at hok.2
    obtain ⟨a, ka, rfl, h1, r1⟩ := ra.heldX t1
    obtain ⟨b, kb, rfl, h2, r2⟩ := rb.heldX t2
    exact .inr ⟨a, b, ka, kb, d1, d2, B, rfl, rfl, h1, h2, le, r1, r2, o1, o2, q _ _ (Out.val (.bl _))⟩
  · exact other e
variable {X : Cx}
theorem or_eqA (hp : X.prog = G.P) (hw : X.w = G.w) (hu : X.A.units + 65 < cLine) (hK : X.K = G.K := by rfl) : OpR X (compareOp .Eq) (fun x y H Q => (if false = true then rNeD G.K x y H Q else rEqD G.K x y H Q) ∨ rEqX G false x y H Q) := by
  intro pins s σ H x y u v Q I rx ry h
  rcases h with h | h
  · have h' : rEqD X.K x y H Q := by rw [hK]; exact h
    exact op_eqD (by omega) pins s σ H x y u v Q I rx ry h'
  · exact or_eqX false hp hw hK hu pins s σ H x y u v Q I rx ry h
theorem or_neA (hp : X.prog = G.P) (hw : X.w = G.w) (hu : X.A.units + 65 < cLine) (hK : X.K = G.K := by rfl) : OpR X (compareOp .NotEq) (fun x y H Q => (if true = true then rNeD G.K x y H Q else rEqD G.K x y H Q) ∨ rEqX G true x y H Q) := by
  intro pins s σ H x y u v Q I rx ry h
  rcases h with h | h
  · have h' : rNeD X.K x y H Q := by rw [hK]; exact h
    exact op_neD (by omega) pins s σ H x y u v Q I rx ry h'
  · exact or_eqX true hp hw hK hu pins s σ H x y u v Q I rx ry h
end
end T

/-! TDz: len(d), list(d.values()), tuple(range(a, b, -1)). -/
namespace T
open PySem PySem.Spec PyProof.Rows L2
/-! ### len -/
def opLenA : List D → Option S
  | [.dic ds] => some (.sh (.int ds.length))
  | as => opLen0 as
def rLenA (G : Gh) : List V → Hp → VK → Prop := fun xs H Q => (∃ x n, xs = [x] ∧ LenV G.K x H n ∧ Q (.int n) H) ∨ (∃ a kvs, xs = [.ref a] ∧ Rd H a (.dK kvs) ∧ Q (.int kvs.length) H) ∨
  ∃ a ob kvs B ds, xs = [.ref a] ∧ RdX H a ob ∧ DX G a kvs ob ∧ Le B H ∧ RepX G B kvs ds ∧ Q (.int kvs.length) H
section
variable {X : Cx} {G : Gh}
theorem cr_lenA (hp : X.prog = G.P) (hw : X.w = G.w) (hK : X.K = G.K) : CallR X (.builtin "len") (rLenA G) := by
  intro pins s σ H xs us Q I r h
  rcases h with h | ⟨a, kvs, rfl, e, q⟩ | ⟨a, ob, kvs, B, ds, rfl, e, x, le, rx, q⟩
  · exact call_len pins s σ H xs us Q I r (by rw [hK]; exact h)
  · rw [Vals.ref1 r]
    exact d_len I e fun t s' I' => ⟨.int kvs.length, H, I', ⟨t, rfl⟩, q⟩
  · rw [Vals.ref1 r]
    obtain ⟨ys, dd, t⟩ := x.held hp hw hK I (RdX.heap I e) le rx
    have hz : ys.length ≤ sizeLine := by rw [← t.length]; exact x.len
    refine call_len_dictH (knd := nestedKind X.prog X.w) x.sm dd (by rw [sizeLine_eq] at hz; omega) ?_
    rw [← t.length]
    exact ⟨.int kvs.length, H, (I.tok _).tok _, ⟨_, rfl⟩, q⟩
theorem s_lenA : CallS G (rLenA G) opLenA := by
  intro H B xs as s Q le ra e q
  unfold opLenA at e
  split at e
  · rename_i ds
    cases e
    cases ra with
    | cons r1 ra =>
    cases ra
    cases r1 with
    | dK h1 h2 =>
      refine .inr (.inl ⟨_, _, rfl, h1, ?_⟩)
      rw [h2.length]
      exact q _ _ (Out.val (.int _))
    | dX h1 h2 h3 =>
      refine .inr (.inr ⟨_, _, _, B, ds, rfl, h1, h2, le, h3, ?_⟩)
      rw [h3.length]
      exact q _ _ (Out.val (.int _))
  · exact .inl (s_len H B xs as s Q le ra e q)
end
/-! ### list(d.values()) -/
/-- what a dict holds, locked or not -/
theorem kv_raw {X : Cx} {G : Gh} {pins : List (Addr × Obj)} {σ : L2.St} {H : Hp} {s : Shared} {d : Addr} {u : HO} {kv : List (V × V)} (hp : X.prog = G.P) (hw : X.w = G.w) (I : Inv X pins σ H s) (h : H d = some u ∨ ∃ o, H d = some (.frz o u)) (hk : KvO G d u kv) :
    (d == sysModules) = false ∧ ∃ (es : Array DictEntry) (ep : Nat), s.heap.DictRaw d es ep ∧ es.size = kv.length ∧ es.size ≤ sizeLine ∧ ∀ (i : Nat) (k v : V), kv[i]? = some (k, v) → ∃ en, es[i]? = some en ∧ RelV k en.key ∧ RelV v en.val := by
  rcases h with e | ⟨o, e⟩
  · obtain ⟨od, I1⟩ := I.lock e hk.mut
    obtain ⟨a, b, c, es, ep, f, g⟩ := frz_raw hp hw I1 upd_same hk
    exact ⟨a, es, ep, ⟨od, b, c, f⟩, g⟩
  · obtain ⟨a, b, c, es, ep, f, g⟩ := frz_raw hp hw I e hk
    exact ⟨a, es, ep, ⟨o, b, c, f⟩, g⟩
def rVals (G : Gh) (R : List V → Hp → Prop) (x : V) (H1 : Hp) : Prop := ∃ d u kv, x = .ref d ∧ KvO G d u kv ∧ (H1 d = some u ∨ ∃ o, H1 d = some (.frz o u)) ∧ R (kv.map (·.2)) H1
section
variable {X : Cx} {G : Gh} {e : Expr} {td : TE} {apos cpos p pos : Pos}
theorem pe_listVals (hp : X.prog = G.P) (hw : X.w = G.w) (hc : X.calm = true) (hg : Gl X "list") (hm : X.mg "list" = none) (he : PE X e td) (hbase : attributeBase e "values" X.env (eval e X.env) = eval e X.env := by rfl) (hline : (apos.endLine == cpos.line) = true := by rfl)
    (na : starEach [.Call (.Attribute e "values" apos) [] [] cpos] X.env = (false, eval (.Call (.Attribute e "values" apos) [] [] cpos) X.env) :: starEach [] X.env := by rfl) :
    PE X (.Call (.Name "list" p) [.Call (.Attribute e "values" apos) [] [] cpos] [] pos) (fun σ H Q => td σ H fun x H1 => rVals G (fun vs H2 => ∀ p, H2 p = none → Q (.ref p) (upd H2 p (.lst vs))) x H1) := by
  refine ⟨fun pins s σ H Q I h => ?_⟩
  refine Call_ (ld_blt I hg hm PyProof.Rows.boot_list (PyProof.Rows.callWith_type1 (args_cons ?_ na) na))
  refine wpAny_Call_method (T := "dict") (id := "dict.values") hbase rfl hline F.plainAttrs_dict F.slot_dict_values F.type_dict_values (thn (he.run pins s σ H _ I h) fun v s1 ⟨x, H1, I1, rx, q⟩ => ?_)
  obtain ⟨d, u, kv, rfl, hk, hd, q⟩ := q
  obtain rfl : v = Value.ref d := rx
  obtain ⟨hs, es, ep, hmr, hsz, hle, ent⟩ := kv_raw hp hw I1 hd hk
  refine ⟨hmr.typeIs, fun a ea => by cases ea; obtain ⟨o, ho, hx, _⟩ := hmr; exact ⟨o, ho, hx.2.1⟩, ?_⟩
  have I3 : Inv X pins σ H1 { s1 with heap := s1.heap.push { cls := .type "dict_values", data := .fields #[.ref d] } } := I1.kept (t' := s1.toks) fun b ob q => Heap.get?_push_of_some _ q
  show wpAny _ _ (callWith cpos (.builtin "dict.values") [.ref d] [] []) _ X.xe s1
  refine method_meetsIn F.slot_dict_values F.entry_dict_values rfl (PySem.evalArgs_none ⟨rfl, hmr.typeIs, F.args_dict_values_1 _, _, meets_dict_values_raw d hs, ⟨es, ep, hmr⟩, args_nil ?_⟩)
  refine PySem.W.kdl_call (PySem.KdlSrc.rawValues (r := s1.heap.objs.size) (d := d) (es := es) (ep := ep)) (I.ok.hd hc) ⟨⟨_, Heap.get?_push_size _ rfl, rfl, rfl⟩, hmr.at fun o q => Heap.get?_push_of_some _ q⟩ hle fun h' tk acc' c' hkp hS' hit => ?_
  have hl : acc'.toList.length = kv.length := by rw [Array.length_toList, hit.1, hsz]
  refine ⟨.ref _, upd H1 _ (.lst (kv.map (·.2))), I3.laid (t' := tk) hkp (Nat.le_refl _) ⟨by rw [List.length_map, ← hsz]; exact hle, acc'.toList, c', ?_, by rw [Array.toArray_toList]; exact hS'⟩, rfl, q _ (I3.hok.fresh (Nat.le_refl _))⟩
  have e1 : kv.map (·.2) = (List.range acc'.toList.length).map fun j => ((kv[j]?.map (·.2)).getD .non) := by
    rw [hl]
    refine List.ext_getElem? fun j => ?_
    rw [List.getElem?_map, List.getElem?_map]
    by_cases hj : j < kv.length
    · rw [List.getElem?_range hj, List.getElem?_eq_getElem hj]
      show some kv[j].2 = some ((Option.map (·.2) kv[j]?).getD .non)
      rw [List.getElem?_eq_getElem hj]
      rfl
    · rw [List.getElem?_eq_none (by omega), List.getElem?_eq_none (by rw [List.length_range]; omega)]
      rfl
  rw [e1]
  refine vals_of_get acc'.toList _ fun j v hj => ?_
  obtain ⟨hi, rfl⟩ := hit.2 j v (by rw [← Array.getElem?_toList]; exact hj)
  have hj2 : j < kv.length := by rw [← hsz]; exact hi
  obtain ⟨en, he', _, rv⟩ := ent j kv[j].1 kv[j].2 (List.getElem?_eq_getElem hj2)
  rw [Array.getElem?_eq_getElem hi] at he'
  cases he'
  show RelV ((Option.map (·.2) kv[j]?).getD .non) _
  rw [List.getElem?_eq_getElem hj2]
  exact rv
end
def dLV (f : Den) : Den := fun env => (f env).bind fun s e => match esc e s with
  | some (.dic ds, e') => .ok (.ow (.lst (ds.map (·.2)))) e'
  | _ => .bad
section
variable {G : Gh} {F : Fr} {W : WX} {w : Addr → Option Nat} {σ : L2.St} {H : Hp} {env : Env} {ts : List (V × S)} {X : Cx}
theorem de_listVals {e : Expr} {f : Den} {apos cpos p pos : Pos} (hp : X.prog = G.P) (hw : X.w = G.w) (hc : X.calm = true) (hg : Gl X "list") (hm : X.mg "list" = none) (he : PE X e (tD G W f)) (hbase : attributeBase e "values" X.env (eval e X.env) = eval e X.env := by rfl) (hline : (apos.endLine == cpos.line) = true := by rfl)
    (na : starEach [.Call (.Attribute e "values" apos) [] [] cpos] X.env = (false, eval (.Call (.Attribute e "values" apos) [] [] cpos) X.env) :: starEach [] X.env := by rfl) :
    PE X (.Call (.Name "list" p) [.Call (.Attribute e "values" apos) [] [] cpos] [] pos) (tD G W (dLV f)) := by
  refine peImp (pe_listVals hp hw hc hg hm he hbase hline na) fun σ H Q ⟨F, ts, env, h, q⟩ => ?_
  rw [dLV, Res.wp_bind] at q
  refine tD.mk h (Res.wp_mono q (fun s e q v H1 h1 => ?_) fun _ _ z => z)
  obtain ⟨w, h1⟩ := h1
  cases ee : esc e s with
  | none => rw [ee] at q; exact q.elim
  | some p =>
    obtain ⟨d, e'⟩ := p
    rw [ee] at q
    obtain ⟨w2, h2, _⟩ := h1.esc (j := ts.length) (x := v) (s := s) (by simp) ee
    rw [List.set_append_right _ _ (Nat.le_refl _), Nat.sub_self] at h2
    obtain ⟨x, ex, r⟩ := h2.tmp ts.length v (.sh d) (by simp)
    cases ex
    cases d with
    | dic ds =>
      obtain ⟨d, u, kv, rfl, hk, hw', hd, kr⟩ := r.dicO
      exact ⟨d, u, kv, rfl, hk, hd, fun p hpn => q _ _ (Rel.out (B := H1) h2.drop (Out.newOw hpn (.lst kr.reps2) True.intro))⟩
    | _ => exact q.elim
end
/-! ### tuple(range(a, b, -1)) -/
def rngDn (a b : Int) : List D := (List.range (a - b).toNat).map fun k : Nat => D.int (a - (k : Int))
def rngDnV (a b : Int) : List V := (List.range (a - b).toNat).map fun k : Nat => V.int (a - (k : Int))
theorem rngDn_reps {G : Gh} {B : Hp} (a b : Int) : Reps G B (rngDnV a b) (rngDn a b) := by
  unfold rngDnV rngDn
  generalize List.range (a - b).toNat = l
  induction l with
  | nil => exact .nil
  | cons k l ih => exact .cons (.int _) ih
def rg3E : Option (List D) → Env → Res S
  | some [.int a, .int b, .int c], e => if c = -1 ∧ -(2 ^ 62) ≤ a ∧ a < 2 ^ 62 ∧ -(2 ^ 62) ≤ b ∧ b < 2 ^ 62 ∧ (a - b).toNat ≤ 2 ^ 24 then .ok (.sh (.tup (rngDn a b))) e else .bad
  | _, _ => .bad
def dTR3 (fs : List Den) : Den := fun env => (dargs fs env).bind fun ss e => rg3E (rds e ss) e
section
variable {X : Cx} {G : Gh} {W : WX} {a b c : Expr} {p p2 pos pos2 : Pos}
def tTR3 (ta : TA) : TE := fun σ H Q => ta σ H fun vs H1 => ∃ i j : Int, vs = [.int i, .int j, .int (-1)] ∧ -(2 ^ 62) ≤ i ∧ i < 2 ^ 62 ∧ -(2 ^ 62) ≤ j ∧ j < 2 ^ 62 ∧ (i - j).toNat ≤ 2 ^ 24 ∧ ∀ q o, o.dict = none → H1 q = none → Q (.ref q) (upd H1 q (.frz o (.tup (rngDnV i j))))
theorem pe_trg3 {ta : TA} (hc : X.calm = true) (hg : Gl X "tuple") (hm : X.mg "tuple" = none) (hgr : Gl X "range") (hmr : X.mg "range" = none) (ha : PA X [a, b, c] ta)
    (hs : starEach [a, b, c] X.env = (false, eval a X.env) :: starEach [b, c] X.env := by rfl) (hpl : (backTo pos2 (starEach [b, c] X.env)).any (·.1) = false := by rfl)
    (na : starEach [.Call (.Name "range" p2) [a, b, c] [] pos2] X.env = (false, eval (.Call (.Name "range" p2) [a, b, c] [] pos2) X.env) :: starEach [] X.env := by rfl) :
    PE X (.Call (.Name "tuple" p) [.Call (.Name "range" p2) [a, b, c] [] pos2] [] pos) (tTR3 ta) := by
  refine ⟨fun pins s σ H Q I h => ?_⟩
  refine Call_ (ld_blt I hg hm PyProof.Rows.boot_tuple (PyProof.Rows.callWith_type1 (args_cons ?_ na) na))
  refine Call_ (ld_blt I hgr hmr boot_range (PyProof.Rows.callWith_type1 (thn (ha.run pos2 pins s σ H _ I h) fun us s1 ⟨vs, H1, I1, r1, i, j, ev, b1, b2, b3, b4, b5, q⟩ => ?_) hs hpl))
  subst ev
  cases r1 with
  | cons r rr =>
  cases rr with
  | cons r' rr =>
  cases rr with
  | cons r'' rr =>
  cases rr
  obtain ⟨t, rfl⟩ := r
  obtain ⟨t', rfl⟩ := r'
  obtain ⟨t'', rfl⟩ := r''
  refine call_range_3 (by decide) ?_ (.inl (PyProof.noPylong_small (by decide)))
  have I2 : Inv X pins σ H1 { s1 with heap := s1.heap.push { cls := .type "range", data := .fields #[.int i t, .int j t', .int (-1) t''] } } := I1.kept (t' := s1.toks) fun b o e => Heap.get?_push_of_some _ e
  refine args_nil ?_
  refine call_tuple_range (n := (i - j).toNat) (I.ok.hd hc) (IsRange.new ..) (PySem.W.small_down b1 b2 b3 b4) (PySem.W.rangeSize_downNat i j) b5 fun h' tk acc hk hi => ?_
  have I3 : Inv X pins σ H1 { s1 with heap := h', toks := tk } := I2.kept hk
  have hz : (rngDnV i j).length ≤ sizeLine := by rw [rngDnV, List.length_map, List.length_range, sizeLine_eq]; omega
  have hv : Vals (rngDnV i j) acc.toList := by
    have e : acc.toList.length = (i - j).toNat := by rw [Array.length_toList]; exact hi.1
    unfold rngDnV
    rw [← e]
    refine vals_of_get acc.toList _ fun k u hk => ?_
    obtain ⟨t, rfl⟩ := hi.2 k u (by rw [← hk, Array.getElem?_toList])
    refine ⟨t, ?_⟩
    congr 1
    omega
  refine ⟨.ref h'.objs.size, upd H1 h'.objs.size (.frz { cls := .type "tuple", data := .seq acc } (.tup (rngDnV i j))), I3.laid (t' := tk) (fun c o e => Heap.get?_push_of_some _ e) (Nat.le_refl _) ⟨Heap.get?_push_size _ rfl, hz, acc.toList, hv, ?_⟩, rfl, q _ _ rfl (I3.hok.fresh (Nat.le_refl _))⟩
  rw [Array.toArray_toList]
  exact IsTup.new _ _
theorem de_trg3 {fs : List Den} (hc : X.calm = true) (hg : Gl X "tuple") (hm : X.mg "tuple" = none) (hgr : Gl X "range") (hmr : X.mg "range" = none) (ha : PA X [a, b, c] (tA G W (dargs fs)))
    (hs : starEach [a, b, c] X.env = (false, eval a X.env) :: starEach [b, c] X.env := by rfl) (hpl : (backTo pos2 (starEach [b, c] X.env)).any (·.1) = false := by rfl)
    (na : starEach [.Call (.Name "range" p2) [a, b, c] [] pos2] X.env = (false, eval (.Call (.Name "range" p2) [a, b, c] [] pos2) X.env) :: starEach [] X.env := by rfl) :
    PE X (.Call (.Name "tuple" p) [.Call (.Name "range" p2) [a, b, c] [] pos2] [] pos) (tD G W (dTR3 fs)) := by
  refine peImp (pe_trg3 hc hg hm hgr hmr ha hs hpl na) fun σ H Q ⟨F, ts, env, h, q⟩ => ?_
  rw [dTR3, Res.wp_bind] at q
  refine tA.mk h (Res.wp_mono q (fun ss e q vs H1 hl h1 => ?_) fun _ _ z => z)
  obtain ⟨w, h1⟩ := h1
  obtain ⟨z1, z2⟩ := zipL hl
  unfold rg3E at q
  split at q
  case h_2 => exact q.elim
  rename_i o0 e0 i j c0 er
  have ra := h1.reads (us := vs.zip ss) (by rw [z2]; exact er)
  rw [z1] at ra
  cases ra with
  | cons r1 ra =>
  cases ra with
  | cons r2 ra =>
  cases ra with
  | cons r3 ra =>
  cases ra
  cases r1
  cases r2
  cases r3
  split at q
  case isFalse => exact q.elim
  rename_i hb
  obtain ⟨rfl, b1, b2, b3, b4, b5⟩ := hb
  exact ⟨i, j, rfl, b1, b2, b3, b4, b5, fun qa o ho hpn => q _ _ (Rel.out (B := H) h1.drop (Out.newSh hpn (.tup ho (rngDn_reps i j))))⟩
end
end T

/-! TSu: sum of a tuple, sum(d.values()); a value shared from now on. -/
namespace T
open PySem PySem.Spec PyProof.Rows L2
theorem preSum_get (ns : List Int) : ∀ j, j ≤ ns.length → preSum (fun i => ns.getD i 0) j = (ns.take j).sum
  | 0, _ => by rw [List.take_zero]; rfl
  | j + 1, h => by
    have ih := preSum_get ns j (by omega)
    have e : preSum (fun i => ns.getD i 0) (j + 1) = preSum (fun i => ns.getD i 0) j + ns.getD j 0 := rfl
    have e2 : ns.take (j + 1) = ns.take j ++ [ns[j]] := by
      rw [List.take_add_one, List.getElem?_eq_getElem (show j < ns.length by omega)]
      rfl
    rw [e, ih, e2, List.sum_append, List.getD_eq_getElem?_getD, List.getElem?_eq_getElem (show j < ns.length by omega), List.sum_cons, List.sum_nil]
    show _ + ns[j] = _
    omega
def opSumA : List D → Option S
  | [.tup ds] => (dInts ds).map fun ns => .sh (.int ns.sum)
  | as => opSum1 as
def rSumA (G : Gh) : List V → Hp → VK → Prop := fun vs H Q => rSum G.K vs H Q ∨ ∃ (a : Addr) (ns : List Int), vs = [V.ref a] ∧ SqT G.K H a (ns.map V.int) ∧ Q (.int ns.sum) H
theorem val_int {ns : List Int} {its : List Value} (rv : Vals (ns.map V.int) its) {i : Nat} {v : Value} (h : its[i]? = some v) : ∃ t, v = .int (ns.getD i 0) t := by
  obtain ⟨x, hx, rx⟩ : ∃ x, (ns.map V.int)[i]? = some x ∧ RelV x v := by
    have hl := rv.length
    have hi := (List.getElem?_eq_some_iff.mp h).1
    obtain ⟨u, hu, ru⟩ := rv.get (List.getElem?_eq_getElem (show i < (ns.map V.int).length by omega))
    rw [h] at hu
    cases hu
    exact ⟨_, List.getElem?_eq_getElem _, ru⟩
  rw [List.getElem?_map] at hx
  cases q : ns[i]? with
  | none => rw [q] at hx; cases hx
  | some n =>
    rw [q] at hx
    cases hx
    obtain ⟨t, rfl⟩ := rx
    exact ⟨t, by rw [List.getD_eq_getElem?_getD, q]; rfl⟩
section
variable {X : Cx} {G : Gh}
theorem cr_sumA (hc : X.calm = true) (hK : X.K = G.K) : CallR X (.builtin "sum") (rSumA G) := by
  intro pins s σ H vs us Q I r h
  rcases h with h | ⟨a, ns, rfl, hs, q⟩
  · exact cr_sum hc pins s σ H vs us Q I r (by rw [hK]; exact h)
  · rw [Vals.ref1 r]
    rw [← hK] at hs
    obtain ⟨its, rv, pl, hz⟩ := I.tuple hs
    have pl' : s.heap.IsTuple a its.toArray := pl
    have hl : its.length = ns.length := by rw [← rv.length, List.length_map]
    refine call_sum_walkG (wpAny_pyIter_tuple pl' ⟨s.heap.objs.size, [s.heap.objs.size, a], [s.heap.objs.size], its.toArray.size, _, _, fun i => ns.getD i 0, rfl, Walks.tuple (show X.A.in1.handled = none from I.ok.hd hc) _ a (Nat.ne_of_lt pl.lt) its.toArray, ⟨⟨_, Heap.get?_push_size _ rfl, rfl, rfl⟩, pl'.at fun o e => Heap.get?_push_of_some _ e⟩, fun b hb => ?_, fun i v hv => ?_, fun h' tk t' hk => ?_⟩)
    · rw [Heap.size_push]
      rcases List.mem_cons.mp hb with rfl | hb
      · exact Nat.lt_succ_self _
      · rw [List.mem_singleton.mp hb]
        exact Nat.lt_succ_of_lt pl.lt
    · exact val_int rv (by simpa using hv)
    · have e : preSum (fun i => ns.getD i 0) its.toArray.size = ns.sum := by
        rw [List.size_toArray, hl, preSum_get ns _ (Nat.le_refl _), List.take_length]
      rw [e]
      refine ⟨.int ns.sum, H, I.kept (t' := tk) fun b o e => ?_, ⟨t', rfl⟩, q⟩
      exact hk b o (fun z => by rw [List.mem_singleton.mp z] at e; exact absurd (Heap.lt_size e) (Nat.lt_irrefl _)) (Heap.get?_push_of_some _ e)
theorem s_sumA : CallS G (rSumA G) opSumA := by
  intro H B xs as s Q le ra e q
  unfold opSumA at e
  split at e
  · rename_i ds
    cases ra with
    | cons r1 ra =>
    cases ra
    cases r1 with
    | tup h1 h2 =>
      simp only [Option.map_eq_some_iff] at e
      obtain ⟨ns, en, rfl⟩ := e
      rw [dInts_some en] at h2
      exact .inr ⟨_, ns, rfl, by rw [← ints_of h2]; exact (TupX.le h1 le).sq, q _ _ (Out.val (.int _))⟩
  · exact .inl (s_sum1 H B xs as s Q le ra e q)
variable {e : Expr} {td : TE} {apos cpos p pos : Pos}
theorem pe_sumVals (hp : X.prog = G.P) (hw : X.w = G.w) (hc : X.calm = true) (hg : Gl X "sum") (hm : X.mg "sum" = none) (he : PE X e td) (hbase : attributeBase e "values" X.env (eval e X.env) = eval e X.env := by rfl) (hline : (apos.endLine == cpos.line) = true := by rfl)
    (na : starEach [.Call (.Attribute e "values" apos) [] [] cpos] X.env = (false, eval (.Call (.Attribute e "values" apos) [] [] cpos) X.env) :: starEach [] X.env := by rfl) :
    PE X (.Call (.Name "sum" p) [.Call (.Attribute e "values" apos) [] [] cpos] [] pos) (fun σ H Q => td σ H fun x H1 => rVals G (fun vs H2 => ∃ ns : List Int, vs = ns.map V.int ∧ Q (.int ns.sum) H2) x H1) := by
  refine ⟨fun pins s σ H Q I h => ?_⟩
  refine Call_ (ld_blt I hg hm PyProof.Rows.boot_sum (PyProof.Rows.callWith_builtin1 (args_cons ?_ na) na))
  refine wpAny_Call_method (T := "dict") (id := "dict.values") hbase rfl hline F.plainAttrs_dict F.slot_dict_values F.type_dict_values (thn (he.run pins s σ H _ I h) fun v s1 ⟨x, H1, I1, rx, q⟩ => ?_)
  obtain ⟨d, u, kv, rfl, hk, hd, ns, en, q⟩ := q
  obtain rfl : v = Value.ref d := rx
  obtain ⟨hs, es, ep, hmr, hsz, hle, ent⟩ := kv_raw hp hw I1 hd hk
  refine ⟨hmr.typeIs, fun a ea => by cases ea; obtain ⟨o, ho, hx, _⟩ := hmr; exact ⟨o, ho, hx.2.1⟩, ?_⟩
  show wpAny _ _ (callWith cpos (.builtin "dict.values") [.ref d] [] []) _ X.xe s1
  refine method_meetsIn F.slot_dict_values F.entry_dict_values rfl (PySem.evalArgs_none ⟨rfl, hmr.typeIs, F.args_dict_values_1 _, _, meets_dict_values_raw d hs, ⟨es, ep, hmr⟩, args_nil ?_⟩)
  have I3 : Inv X pins σ H1 { s1 with heap := s1.heap.push { cls := .type "dict_values", data := .fields #[.ref d] } } := I1.kept (t' := s1.toks) fun b ob q => Heap.get?_push_of_some _ q
  have hm2 : Heap.DictRaw (s1.heap.push { cls := .type "dict_values", data := .fields #[.ref d] }) d es ep := hmr.at fun o q => Heap.get?_push_of_some _ q
  have hlt : d < (s1.heap.push { cls := .type "dict_values", data := .fields #[.ref d] }).objs.size := let ⟨_, ho, _⟩ := hm2; Heap.lt_size ho
  have hl : kv.length = ns.length := by
    have := congrArg List.length en
    rwa [List.length_map, List.length_map] at this
  have hv2 : Heap.IsValuesView (s1.heap.push { cls := .type "dict_values", data := .fields #[.ref d] }) s1.heap.objs.size d := ⟨_, Heap.get?_push_size _ rfl, rfl, rfl⟩
  generalize s1.heap.push { cls := .type "dict_values", data := .fields #[.ref d] } = h2 at hm2 hlt I3 hv2 ⊢
  generalize s1.heap.objs.size = v2 at hv2 ⊢
  refine call_sum_walkG (wpAny_pyIter_values_raw (d := d) hv2 hm2 ?_)
  refine ⟨h2.objs.size, [h2.objs.size, d], [h2.objs.size], es.size, _, _, fun i => ns.getD i 0, rfl, Walks.rawValues (show X.A.in1.handled = none from I.ok.hd hc) h2.objs.size d (Nat.ne_of_lt hlt) es ep, ⟨⟨_, Heap.get?_push_size _ rfl, rfl, rfl⟩, hm2.at fun o e => Heap.get?_push_of_some _ e⟩, fun b hb => ?_, fun i v hv => ?_, fun h' tk t' hk => ?_⟩
  · rw [Heap.size_push]
    rcases List.mem_cons.mp hb with rfl | hb
    · exact Nat.lt_succ_self _
    · rw [List.mem_singleton.mp hb]
      exact Nat.lt_succ_of_lt hlt
  · obtain ⟨hi, rfl⟩ := hv
    have hj : i < kv.length := by rw [← hsz]; exact hi
    obtain ⟨en2, he', _, rv⟩ := ent i kv[i].1 kv[i].2 (List.getElem?_eq_getElem hj)
    rw [Array.getElem?_eq_getElem hi] at he'
    cases he'
    have hx : (ns.map V.int)[i]? = some kv[i].2 := by rw [← en, List.getElem?_map, List.getElem?_eq_getElem hj]; rfl
    rw [List.getElem?_map] at hx
    cases q2 : ns[i]? with
    | none => rw [q2] at hx; cases hx
    | some n =>
      rw [q2] at hx
      have hx' : V.int n = kv[i].2 := Option.some.inj hx
      rw [← hx'] at rv
      obtain ⟨t, ht⟩ := rv
      refine ⟨t, ?_⟩
      show _ = Value.int (ns.getD i 0) t
      rw [ht, List.getD_eq_getElem?_getD, q2]
      rfl
  · have e : preSum (fun i => ns.getD i 0) es.size = ns.sum := by
      rw [hsz, hl, preSum_get ns _ (Nat.le_refl _), List.take_length]
    rw [e]
    refine ⟨.int ns.sum, H1, I3.kept (t' := tk) fun b o e => ?_, ⟨t', rfl⟩, q⟩
    exact hk b o (fun z => by rw [List.mem_singleton.mp z] at e; exact absurd (Heap.lt_size e) (Nat.lt_irrefl _)) (Heap.get?_push_of_some _ e)
end
def dSV (f : Den) : Den := fun env => (f env).bind fun s e => match esc e s with
  | some (.dic ds, e') => (match dInts (ds.map fun p => p.2) with
    | some ns => .ok (.sh (.int ns.sum)) e'
    | none => .bad)
  | _ => .bad
/-- shared from now on -/
def dShr (f : Den) : Den := fun env => (f env).bind fun s e => match esc e s with
  | some (d, e') => .ok (.sh d) e'
  | none => .bad
section
variable {G : Gh} {F : Fr} {W : WX} {w : Addr → Option Nat} {σ : L2.St} {H : Hp} {env : Env} {ts : List (V × S)} {X : Cx}
theorem de_sumVals {e : Expr} {f : Den} {apos cpos p pos : Pos} (hp : X.prog = G.P) (hw : X.w = G.w) (hc : X.calm = true) (hg : Gl X "sum") (hm : X.mg "sum" = none) (he : PE X e (tD G W f)) (hbase : attributeBase e "values" X.env (eval e X.env) = eval e X.env := by rfl) (hline : (apos.endLine == cpos.line) = true := by rfl)
    (na : starEach [.Call (.Attribute e "values" apos) [] [] cpos] X.env = (false, eval (.Call (.Attribute e "values" apos) [] [] cpos) X.env) :: starEach [] X.env := by rfl) :
    PE X (.Call (.Name "sum" p) [.Call (.Attribute e "values" apos) [] [] cpos] [] pos) (tD G W (dSV f)) := by
  refine peImp (pe_sumVals hp hw hc hg hm he hbase hline na) fun σ H Q ⟨F, ts, env, h, q⟩ => ?_
  rw [dSV, Res.wp_bind] at q
  refine tD.mk h (Res.wp_mono q (fun s e q v H1 h1 => ?_) fun _ _ z => z)
  obtain ⟨w, h1⟩ := h1
  cases ee : esc e s with
  | none => rw [ee] at q; exact q.elim
  | some p =>
    obtain ⟨d, e'⟩ := p
    rw [ee] at q
    obtain ⟨w2, h2, _⟩ := h1.esc (j := ts.length) (x := v) (s := s) (by simp) ee
    rw [List.set_append_right _ _ (Nat.le_refl _), Nat.sub_self] at h2
    obtain ⟨x, ex, r⟩ := h2.tmp ts.length v (.sh d) (by simp)
    cases ex
    cases d with
    | dic ds =>
      obtain ⟨d, u, kv, rfl, hk, hw', hd, kr⟩ := r.dicO
      change Res.wp (match dInts (ds.map fun p => p.2) with
        | some ns => Res.ok (S.sh (D.int ns.sum)) e'
        | none => .bad) _ _ at q
      split at q
      case h_2 => exact q.elim
      rename_i ns en
      have z := kr.reps2
      rw [dInts_some en] at z
      exact ⟨d, u, kv, rfl, hk, hd, ns, (ints_of z), q _ _ (Rel.out (B := H1) h2.drop (Out.val (.int _)))⟩
    | _ => exact q.elim
theorem de_shr {e : Expr} {f : Den} (he : PE X e (tD G W f)) : PE X e (tD G W (dShr f)) := by
  refine peImp he fun σ H Q ⟨F, ts, env, h, q⟩ => ?_
  rw [dShr, Res.wp_bind] at q
  refine tD.mk h (Res.wp_mono q (fun s e q v H1 h1 => ?_) fun _ _ z => z)
  obtain ⟨w, h1⟩ := h1
  cases ee : esc e s with
  | none => rw [ee] at q; exact q.elim
  | some p =>
    obtain ⟨d, e'⟩ := p
    rw [ee] at q
    obtain ⟨w2, h2, _⟩ := h1.esc (j := ts.length) (x := v) (s := s) (by simp) ee
    rw [List.set_append_right _ _ (Nat.le_refl _), Nat.sub_self] at h2
    exact q v H1 ⟨w2, h2⟩
end
end T

/-! TEnd: a law's end, from the facts of the top. -/
namespace T
open PySem PySem.Spec PyProof.Rows L2
section
variable {K : PySem.W.Frag} {h : Heap} {mg : Str → Option Value}
abbrev FnAt (K : PySem.W.Frag) (x : Str) (st : Stmt) : Prop := ∃ (oc : Value) (od : Option Addr) (osl : Array (Option Value)) (kV doc pm : Value) (an : Option Addr) (cdv ct : Value), K.lookup (He.ga K x) = some ⟨oc, od, .func (PySem.W.fnOf x x (defArgs st) (defBody st) (defScope st) .none kV doc pm an cdv ct), osl⟩ ∧ PySem.W.codeIn K cdv x = true
theorem fun_at {x : Str} {st : Stmt} (ck : (He.Fa.keep x).ok K = true) (cd : FnAt K x st) : ∃ fd, Fun K x x st (He.ga K x) fd := by
  obtain ⟨oc, od, osl, kV, doc, pm, an, cdv, ct, l, c⟩ := cd
  exact ⟨_, fun_mk l c (He.keep_ok ck)⟩
theorem defAt_mk {x : Str} {st : Stmt} {ps : List Str} (X : K.In h) (Gm : h.Ns mainGlobals mg) (cg : (He.Fa.glo x).ok K = true) (ck : (He.Fa.keep x).ok K = true) (cd : FnAt K x st)
    (hb : ∀ (kV doc pm : Value) (an : Option Addr) (cdv ct : Value) (us : List Value), us.length = ps.length → bindArgs (PySem.W.fnOf x x (defArgs st) (defBody st) (defScope st) .none kV doc pm an cdv ct) ⟨us, []⟩ = pure (ps.zip us)) : DefAt K mg x st ps := by
  obtain ⟨fd, F⟩ := fun_at ck cd
  exact ⟨_, fd, F, He.glo_ok X Gm cg, F.binds hb⟩
theorem errC_mk {P : Program} {w : World} {tb : List (Addr × Str)} {x : Str} (X : K.In h) (Gm : h.Ns mainGlobals mg) (cg : (He.Fa.glo x).ok K = true) (ce : (He.Fa.exc x).ok K = true) : ErrC ⟨P, w, K, tb, He.ga K⟩ mg x := by
  obtain ⟨e1, e2, e3, e4⟩ := He.exc_ok ce
  exact ⟨He.glo_ok X Gm cg, e1, e2, e3, e4⟩
theorem sp_law {G : Gh} {fd : FD} {H : Hp} {a : Addr} {ns : List Int} (hT : G.T = []) (hwp : (fd [.fz ns]).wp (fun s _ => s = .sh (.bl true)) (fun _ _ => False)) (hO : Only H) (hS : SqL G.K H a (ns.map V.int)) :
    spF G false 1 fd [.ref a] H (fun v _ => v = .bl true) (fun _ _ _ => False) := by
  have fz : FzX G.K H a ns := by
    rcases hS with (h | h) | h
    · rcases hO a with z | ⟨o, xs, z⟩ <;> rw [z] at h <;> cases h
    · exact .inl h
    · exact .inr h
  refine ⟨⟨H, fun _ => False, fun _ => False⟩, [.fz ns], rfl, ⟨fun _ => none, rfl, fun i s e => ?_, (fun j x s e => nomatch e), (fun _ _ z => nomatch z), (fun _ => ⟨False.elim, fun z => nomatch z⟩), (fun _ z => z.elim), fun _ _ _ _ e => .inl e, fun _ z => z, fun p hp => ?_⟩, Res.wp_mono hwp (fun s _ e v H' _ ⟨w, r⟩ => ?_) fun _ _ z => z.elim⟩
  · cases i with
    | zero =>
      cases e
      exact ⟨(fun _ z => nomatch z), .ref a, rfl, .fz (FzX.le fz (hide_mono fun b o _ _ e => ⟨rfl, e⟩ : Le (hide H fun _ => none) (hide H fun _ => none)) |> fun z => by
        rcases z with ⟨o, z⟩ | z
        · exact .inl ⟨o, by rw [hide_of rfl]; exact z⟩
        · exact .inr z)⟩
    | succ i => cases e
  · rw [hT] at hp
    cases hp
  · subst e
    obtain ⟨x, ex, rx⟩ := r.tmp 0 v (.sh (.bl true)) rfl
    cases ex
    cases rx
    rfl
end
/-- a law, what it lets out told by the world too -/
theorem walk_ofW {l : PySem.W.OpenLaw} {n k : Nat} {q : Program} {loose : List Str} {XP : (Str → Option Value) → Heap → Prop} {YP : World → Heap → Prop} {d : DefRec} {CX : World → CXT} {x : Str}
    (hn : l.most = some n) (hn2 : n ≤ sizeLine) (hdf : d.params.defaults = []) (hr : Room k callerA)
    (F : ∀ (w : World) (mg : Str → Option Value) (f : Addr) (h : Heap), YP w h → h.Ns mainGlobals mg → mg d.name = some (.ref f) →
      ∃ (K : PySem.W.Frag) (fd : FuncData) (sp : Sp), K.In h ∧ (∀ (s : Shared) (u : Value), BindsTo s fd ⟨[u], []⟩ [(x, u)]) ∧
        (∀ (H : Hp) (a : Addr) (ns : List Int), ns.length ≤ n → Only H → SqL K H a (ns.map V.int) → sp [.ref a] H (fun v _ => v = .bl true) fun _ _ _ => False) ∧ ∀ base : Heap, FnOk l.prog w K mg base (CX w) k f fd [x] sp)
    (hCX : ∀ (w : World) (H : Hp) (s : Shared) (e : Value) (s' : Shared), CX w [] H s (fun _ _ _ => False) e s' → False) :
    PySem.W.WalkO q loose XP YP l.row.toRowW d [] (fun f vs => PySem.call f vs) := by
  refine Att.attach_call hn hdf fun w s0 s1 mg mb f o pm cd doc a vs ns Gd Y ho hd hcd hmg hobj hints hlen hg => ?_
  obtain ⟨K, fd, sp, KX, hb, hsp, hF⟩ := F w mg f _ Y Gd.T.g hmg
  exact law_call KX Gd.T.g Gd.T.b Gd.T.builtins Gd.T.nolimit hg hobj hints (Nat.le_trans hlen hn2) hr (fun base _ _ => hF base) hb (fun H hO hS => hsp H a ns hlen hO hS) fun H e s' => hCX w H s1 e s'
theorem noCX {P : Program} {w : World} {H : Hp} {s s' : Shared} {e : Value} (h : L2.CX P w [] H s (fun _ _ _ => False) e s') : False := by
  obtain ⟨_, _, _, _, _, _, _, _, _, _, _, _, z⟩ := h
  exact z
end T

/-! TMir: what a denotation comes to, in plain terms. -/
namespace T
open PySem PySem.Spec PyProof.Rows L2
theorem dLoop_ok {α : Type} {e : α → D} {h : α → List D} {body : D → Nat → Env → Res (List D)} {e0 : Env} : ∀ (l : List α) (n : Nat), (∀ a ∈ l, ∀ n, (h a).length ≤ n → body (e a) n e0 = .ok (h a) e0) → (l.flatMap h).length ≤ n → dLoop body (l.map e) n e0 = .ok (l.flatMap h) e0
  | [], n, _, _ => rfl
  | a :: r, n, hb, hn => by
    rw [List.flatMap_cons, List.length_append] at hn
    rw [List.map_cons, dLoop, hb a List.mem_cons_self n (by omega)]
    show (if (h a).length ≤ n then _ else _) = _
    rw [if_pos (by omega), dLoop_ok r (n - (h a).length) (fun a ha => hb a (List.mem_cons_of_mem _ ha)) (by omega)]
    rw [List.flatMap_cons]
    rfl
theorem dLcG_ok {α : Type} {e : α → D} {h : α → List D} {src : Env → Res (List D)} {body : D → Nat → Env → Res (List D)} {own : List Nat} {env e1 : Env} (l : List α) (hs : src env = .ok (l.map e) e1) (ho : okOwn e1 own = true)
    (hb : ∀ a ∈ l, ∀ n, (h a).length ≤ n → body (e a) n (wipeE e1 own) = .ok (h a) (wipeE e1 own)) (hn : (l.flatMap h).length ≤ 16777216) (hr : restE e1 (wipeE e1 own) own = e1) : dLcG src body own env = .ok (.ow (.lst (l.flatMap h))) e1 := by
  unfold dLcG
  rw [hs]
  show (if okOwn e1 own = true then _ else _) = _
  rw [if_pos ho, dLoop_ok l _ hb hn]
  show Res.ok _ (restE e1 (wipeE e1 own) own) = _
  rw [hr]
theorem flatMap_len {α β : Type} {h : α → List β} : ∀ (l : List α), (∀ a ∈ l, (h a).length ≤ 1) → (l.flatMap h).length ≤ l.length
  | [], _ => Nat.le_refl _
  | a :: r, H => by
    rw [List.flatMap_cons, List.length_append, List.length_cons]
    have := H a List.mem_cons_self
    have := flatMap_len r fun a ha => H a (List.mem_cons_of_mem _ ha)
    omega
/-- those that pass, what each brings -/
def fm {α β : Type} (p : α → Bool) (v : α → β) (l : List α) : List β := (l.filter p).map v
theorem fm_eq {α β : Type} (p : α → Bool) (v : α → β) : ∀ l : List α, (l.flatMap fun a => if p a = true then [v a] else []) = fm p v l
  | [] => rfl
  | a :: r => by
    rw [List.flatMap_cons, fm_eq p v r, fm, fm, List.filter_cons]
    split <;> rfl
theorem fm_len {α β : Type} (p : α → Bool) (v : α → β) (l : List α) : (fm p v l).length ≤ l.length := by
  rw [fm, List.length_map]
  exact List.length_filter_le ..
theorem fm_map {α β γ : Type} (p : α → Bool) (v : α → β) (w : β → γ) (l : List α) : fm p (fun a => w (v a)) l = (fm p v l).map w := by
  rw [fm, fm, List.map_map]
  rfl
theorem elt1_ok {g : D → Env → Option Env} {t : Env → Res Bool} {f : Den} {own : List Nat} {d : D} {n : Nat} {e0 ea : Env} {p : Bool} {v : D} (hg : g d e0 = some ea) (ht : t ea = .ok p ea) (hf : p = true → ∃ s, f ea = .ok s ea ∧ esc ea s = some (v, ea)) (hw : wipeE ea own = e0) (hn : (if p = true then [v] else []).length ≤ n) :
    elt1 g t f own d n e0 = .ok (if p = true then [v] else []) e0 := by
  unfold elt1
  rw [hg]
  show (t ea).bind _ = _
  rw [ht]
  cases p with
  | false =>
    show Res.ok [] (wipeE ea own) = _
    rw [hw]
    rfl
  | true =>
    obtain ⟨s, e1, e2⟩ := hf rfl
    show (f ea).bind _ = _
    rw [e1]
    show (match esc ea s with
      | some (d', e4) => if 0 < n then Res.ok [d'] (wipeE e4 own) else .bad
      | none => .bad) = _
    rw [e2]
    show (if 0 < n then Res.ok [v] (wipeE ea own) else .bad) = _
    rw [if_pos (show 0 < n from hn), hw]
    rfl
/-- a list comprehension -/
theorem dLc_ok {α : Type} {e : α → D} {p : α → Bool} {v : α → D} {ea : α → Env} {src : Env → Res (List D)} {g : D → Env → Option Env} {t : Env → Res Bool} {f : Den} {own : List Nat} {env e1 : Env} (l : List α) (hs : src env = .ok (l.map e) e1) (ho : okOwn e1 own = true)
    (hg : ∀ a ∈ l, g (e a) (wipeE e1 own) = some (ea a)) (ht : ∀ a ∈ l, t (ea a) = .ok (p a) (ea a)) (hf : ∀ a ∈ l, p a = true → ∃ s, f (ea a) = .ok s (ea a) ∧ esc (ea a) s = some (v a, ea a)) (hw : ∀ a ∈ l, wipeE (ea a) own = wipeE e1 own) (hn : l.length ≤ 16777216) (hr : restE e1 (wipeE e1 own) own = e1) :
    dLc src g t f own env = .ok (.ow (.lst (fm p v l))) e1 := by
  have z := dLcG_ok (h := fun a => if p a = true then [v a] else []) (body := elt1 g t f own) l hs ho (fun a ha n hn => elt1_ok (hg a ha) (ht a ha) (hf a ha) (hw a ha) hn)
    (Nat.le_trans (flatMap_len l fun a _ => by split <;> first | exact Nat.le_refl _ | exact Nat.zero_le _) hn) hr
  rw [fm_eq] at z
  exact z
/-- a sequence of whole numbers -/
def nsD (l : List Int) : List D := l.map .int
def sq (l : List Int) : D := .tup (nsD l)
def cutG {α : Type} (ds : List α) (lo hi : Option Int) : List α := (ds.drop (HT.sIx ds.length 0 lo)).take (HT.sIx ds.length ds.length hi - HT.sIx ds.length 0 lo)
theorem sCut_map {α : Type} (e : α → D) (l : List α) (lo hi : Option Int) : sCut (l.map e) lo hi = (cutG l lo hi).map e := by
  unfold sCut cutG
  rw [List.length_map, ← List.map_drop, ← List.map_take]
theorem cutG_len {α : Type} (ds : List α) (lo hi : Option Int) : (cutG ds lo hi).length ≤ ds.length := by
  unfold cutG
  rw [List.length_take, List.length_drop]
  omega
@[simp] theorem get_some {α : Type} (a : α) (e : Env) : Res.get (some a) e = .ok a e := rfl
theorem env0 (m : Nat) (as : List D) : ioE false ++ as.map S.sh ++ List.replicate m S.no = as.map S.sh ++ List.replicate m S.no := rfl
/-! ### typed things as trees -/
structure Enc {α : Type} [DecidableEq α] (k : Nat) (e : α → D) : Prop where
  lay : ∀ a, PyData.canLay0 (e a).py = true
  dep : ∀ a, PyData.depth (e a).py ≤ k
  eq : ∀ a b, PyData.eqv (e a).py (e b).py = decide (a = b)
section
variable {α β : Type} [DecidableEq α] [DecidableEq β] {k : Nat} {e : α → D} {e' : β → D}
theorem Enc.int : Enc 0 D.int := ⟨fun _ => rfl, fun _ => Nat.le_refl _, fun a b => rfl⟩
theorem Enc.bl : Enc 0 D.bl := ⟨fun _ => rfl, fun _ => Nat.le_refl _, fun a b => by cases a <;> cases b <;> rfl⟩
theorem Enc.all (E : Enc k e) : ∀ l : List α, PyData.canLayAll0 (pys (l.map e)) = true ∧ PyData.depthAll (pys (l.map e)) ≤ k
  | [] => ⟨rfl, Nat.zero_le _⟩
  | a :: r => by
    obtain ⟨h1, h2⟩ := Enc.all E r
    rw [List.map_cons, pys, PyData.canLayAll0, PyData.depthAll, E.lay a, h1]
    exact ⟨rfl, Nat.max_le.mpr ⟨E.dep a, h2⟩⟩
theorem Enc.eqAll (E : Enc k e) : ∀ l m : List α, PyData.eqvAll (pys (l.map e)) (pys (m.map e)) = decide (l = m)
  | [], [] => rfl
  | [], _ :: _ => rfl
  | _ :: _, [] => rfl
  | a :: l, b :: m => by
    rw [List.map_cons, List.map_cons, pys, pys, PyData.eqvAll, E.eq a b, Enc.eqAll E l m]
    by_cases h1 : a = b <;> by_cases h2 : l = m <;> simp [h1, h2]
theorem Enc.lst (E : Enc k e) : Enc (k + 1) fun l : List α => D.lst (l.map e) :=
  ⟨fun l => by rw [D.py, PyData.canLay0]; exact (E.all l).1, fun l => by rw [D.py, PyData.depth]; exact Nat.succ_le_succ (E.all l).2, fun l m => by rw [D.py, D.py, PyData.eqv]; exact E.eqAll l m⟩
theorem Enc.tup (E : Enc k e) : Enc (k + 1) fun l : List α => D.tup (l.map e) :=
  ⟨fun l => by rw [D.py, PyData.canLay0]; exact (E.all l).1, fun l => by rw [D.py, PyData.depth]; exact Nat.succ_le_succ (E.all l).2, fun l m => by rw [D.py, D.py, PyData.eqv]; exact E.eqAll l m⟩
def pairD (e : α → D) (e' : β → D) (p : α × β) : D := .tup [e p.1, e' p.2]
theorem Enc.pair (E : Enc k e) (E' : Enc k e') : Enc (k + 1) (pairD e e') := by
  refine ⟨fun p => ?_, fun p => ?_, fun p q => ?_⟩
  · show (PyData.canLay0 _ && (PyData.canLay0 _ && true)) = true
    rw [E.lay, E'.lay]
    rfl
  · show max (PyData.depth _) (max (PyData.depth _) 0) + 1 ≤ k + 1
    have := E.dep p.1
    have := E'.dep p.2
    omega
  · show (PyData.eqv _ _ && (PyData.eqv _ _ && true)) = _
    rw [E.eq, E'.eq]
    obtain ⟨a, b⟩ := p
    obtain ⟨c, d⟩ := q
    by_cases h1 : a = c <;> by_cases h2 : b = d <;> simp [h1, h2]
theorem Enc.shaped (E : Enc k e) (hk : k ≤ 64) (a : α) : SeqAt.shaped (e a).py = true := by
  unfold SeqAt.shaped
  rw [E.lay a, decide_eq_true (Nat.le_trans (E.dep a) hk)]
  rfl
theorem Enc.opEq (E : Enc k e) (hk : k ≤ 64) (a b : α) : opEq (e a) (e b) = some (.sh (.bl (decide (a = b)))) := by
  unfold T.opEq
  rw [if_pos ⟨E.shaped hk a, E.shaped hk b⟩, E.eq]
theorem Enc.opNe (E : Enc k e) (hk : k ≤ 64) (a b : α) : opNe (e a) (e b) = some (.sh (.bl (!decide (a = b)))) := by
  unfold T.opNe
  rw [if_pos ⟨E.shaped hk a, E.shaped hk b⟩, E.eq]
theorem Enc.inD (E : Enc k e) (a : α) (l : List α) : inD (e a) (l.map e) = decide (a ∈ l) := by
  unfold T.inD
  induction l with
  | nil => rfl
  | cons b r ih =>
    rw [List.map_cons, List.any_cons, ih, E.eq]
    by_cases h1 : b = a
    · subst h1; simp
    · have h2 : ¬ a = b := fun z => h1 z.symm
      simp [h1, h2]
theorem Enc.opIn (E : Enc k e) (hk : k ≤ 64) (n : Bool) (a : α) (l : List α) : T.opIn n (e a) (.lst (l.map e)) = some (.sh (.bl (if n then !decide (a ∈ l) else decide (a ∈ l)))) := by
  have h : T.opIn n (e a) (.lst (l.map e)) = if SeqAt.shaped (e a).py = true ∧ PyData.canLayAll0 (pys (l.map e)) = true then some (.sh (.bl (if n then !T.inD (e a) (l.map e) else T.inD (e a) (l.map e)))) else none := rfl
  rw [h, if_pos ⟨E.shaped hk a, (E.all l).1⟩, E.inD]
theorem Enc.opInT (E : Enc k e) (hk : k ≤ 64) (n : Bool) (a : α) (l : List α) : T.opIn n (e a) (.tup (l.map e)) = some (.sh (.bl (if n then !decide (a ∈ l) else decide (a ∈ l)))) := by
  have h : T.opIn n (e a) (.tup (l.map e)) = if SeqAt.shaped (e a).py = true ∧ PyData.canLayAll0 (pys (l.map e)) = true then some (.sh (.bl (if n then !T.inD (e a) (l.map e) else T.inD (e a) (l.map e)))) else none := rfl
  rw [h, if_pos ⟨E.shaped hk a, (E.all l).1⟩, E.inD]
end
/-- whole numbers in a row -/
def rngI (lo hi : Int) : List Int := (List.range (hi - lo).toNat).map fun k : Nat => lo + (k : Int)
theorem rngD_map (lo hi : Int) : rngD lo hi = (rngI lo hi).map D.int := by
  rw [rngD, rngI, List.map_map]
  rfl
theorem atI_map {α β : Type} (f : α → β) (l : List α) (i : Int) : atI (l.map f) i = (atI l i).map f := by
  unfold atI
  rw [List.length_map]
  cases ixN l.length i with
  | none => rfl
  | some j => exact List.getElem?_map ..
def insI (x : Int) : List Int → List Int
  | [] => [x]
  | y :: r => if x ≤ y then x :: y :: r else y :: insI x r
def isortI : List Int → List Int
  | [] => []
  | a :: r => insI a (isortI r)
theorem insD_map (a : Int) : ∀ l : List Int, insD leI (.int a) (l.map D.int) = (insI a l).map D.int
  | [] => rfl
  | b :: r => by
    rw [List.map_cons, insD, insI]
    show (if decide (a ≤ b) = true then _ else _) = _
    by_cases h : a ≤ b
    · rw [if_pos (decide_eq_true h), if_pos h]
      rfl
    · rw [if_neg (by simpa using h), if_neg h, insD_map a r]
      rfl
theorem isortD_map : ∀ l : List Int, isortD leI (l.map D.int) = (isortI l).map D.int
  | [] => rfl
  | a :: r => by
    rw [List.map_cons, isortD, isortD_map r, insD_map]
    rfl
theorem all_isI (l : List Int) : (l.map D.int).all isI = true := by
  rw [List.all_map, List.all_eq_true]
  exact fun _ _ => rfl
theorem opSorted_lst (l : List Int) (h : l.length ≤ 1000) : opSorted [.lst (l.map D.int)] = some (.ow (.lst ((isortI l).map D.int))) := by
  show (if _ then some (S.ow (D.lst (isortD leI (l.map D.int)))) else none) = _
  rw [if_pos ⟨by rw [List.length_map]; omega, by rw [sortOk, all_isI]; rfl⟩, isortD_map]
theorem opSorted_tup (l : List Int) (h : l.length ≤ 1000) : opSorted [.tup (l.map D.int)] = some (.ow (.lst ((isortI l).map D.int))) := by
  show (if _ then some (S.ow (D.lst (isortD leI (l.map D.int)))) else none) = _
  rw [if_pos ⟨by rw [List.length_map]; omega, by rw [sortOk, all_isI]; rfl⟩, isortD_map]
/-! ### step by step -/
section
variable {env e e1 e2 : Env} {f g k : DenS} {t u : Env → Res Bool} {a b c : Den} {s s' : S} {d d' : D} {fl : Fl} {as : List D} {m : Nat}
theorem q_fun_sh (h : f (as.map S.sh ++ List.replicate m S.no) = .ok (.ret (.sh d)) e) : dFun false m f as = .ok (.sh d) [] := by
  show ends false (f (as.map S.sh ++ List.replicate m S.no)) = _
  rw [h]
  rfl
theorem q_fun_ow (h : f (as.map S.sh ++ List.replicate m S.no) = .ok (.ret (.ow d)) e) : dFun false m f as = .ok (.ow d) [] := by
  show ends false (f (as.map S.sh ++ List.replicate m S.no)) = _
  rw [h]
  rfl
theorem q_fun_nx (h : f (as.map S.sh ++ List.replicate m S.no) = .ok .next e) : dFun false m f as = .ok (.sh .non) [] := by
  show ends false (f (as.map S.sh ++ List.replicate m S.no)) = _
  rw [h]
  rfl
theorem q_seq (h : f env = .ok .next e) (h2 : g e = .ok fl e2) : dSeq f g env = .ok fl e2 := by
  unfold dSeq
  rw [h]
  exact h2
theorem q_seqR (h : f env = .ok (.ret s) e) : dSeq f g env = .ok (.ret s) e := by
  unfold dSeq
  rw [h]
  rfl
theorem q_if {x : Bool} (h : t env = .ok x e) (h1 : x = true → f e = .ok fl e2) (h2 : x = false → g e = .ok fl e2) : dIfS t f g env = .ok fl e2 := by
  unfold dIfS
  rw [h]
  cases x with
  | true => exact h1 rfl
  | false => exact h2 rfl
theorem q_ifT (h : t env = .ok true e) (h1 : f e = .ok fl e2) : dIfS t f g env = .ok fl e2 := q_if h (fun _ => h1) fun z => nomatch z
theorem q_ifF (h : t env = .ok false e) (h1 : g e = .ok fl e2) : dIfS t f g env = .ok fl e2 := q_if h (fun z => nomatch z) fun _ => h1
theorem q_ret (h : a env = .ok s e) (ho : out1 e s = .ok fl e2) : dRet a env = .ok fl e2 := by
  unfold dRet
  rw [h]
  exact ho
theorem q_expr (h : a env = .ok s e) : dExpr a env = .ok .next e := by
  unfold dExpr
  rw [h]
  rfl
theorem q_set {i : Nat} (h : a env = .ok s e) (ho : stN i (asg e s) = .ok fl e2) : dSet i a env = .ok fl e2 := by
  unfold dSet
  rw [h]
  exact ho
theorem q_1 {op : D → Option S} (h : a env = .ok s e) (ho : un1 op (rd e s) = some s') : d1 op a env = .ok s' e := by
  unfold d1
  rw [h]
  show Res.get _ e = _
  rw [ho]
  rfl
theorem q_2 {op : D → D → Option S} {sa sb : S} (h : a env = .ok sa e1) (h2 : b e1 = .ok sb e) (ho : bi2 op (rd e sa) (rd e sb) = some s') : d2 op a b env = .ok s' e := by
  unfold d2
  rw [h]
  show (b e1).bind _ = _
  rw [h2]
  show Res.get _ e = _
  rw [ho]
  rfl
theorem q_nil : dargs [] env = .ok [] env := rfl
theorem q_cons {fs : List Den} {ss : List S} (h : a env = .ok s e1) (h2 : dargs fs e1 = .ok ss e) : dargs (a :: fs) env = .ok (s :: ss) e := by
  rw [dargs, h]
  show (dargs fs e1).bind _ = _
  rw [h2]
  rfl
theorem q_N {op : List D → Option S} {fs : List Den} {ss : List S} (h : dargs fs env = .ok ss e) (ho : unL op (rds e ss) = some s') : dN op fs env = .ok s' e := by
  unfold dN
  rw [h]
  show Res.get _ e = _
  rw [ho]
  rfl
theorem q_call {n : Nat} {fd : FD} {fs : List Den} {ss : List S} (h : dargs fs env = .ok ss e1) (hn : ss.length = n) (he : escs e1 ss = some (as, e)) (hf : fd as = .ok s []) : dCall false n fd fs env = .ok s e := by
  unfold dCall
  rw [h]
  show (if ss.length = n then _ else _) = _
  rw [if_pos hn]
  show (match escs e1 ss with
    | some (as, e') => (fd as).back e'
    | none => .bad) = _
  rw [he]
  show (fd as).back e = _
  rw [hf]
  rfl
theorem q_tB {x : Bool} (h : a env = .ok s e) (ho : rd e s = some (.bl x)) : dtB a env = .ok x e := by
  unfold dtB
  rw [h]
  show asB (rd e s) e = _
  rw [ho]
  rfl
theorem q_tT {x : Bool} (h : a env = .ok s e) (ho : asT (rd e s) e = .ok x e) : dtT a env = .ok x e := by
  unfold dtT
  rw [h]
  exact ho
theorem q_not {x : Bool} (h : t env = .ok x e) : dtNot t env = .ok (!x) e := by
  unfold dtNot
  rw [h]
  rfl
theorem q_or {x y : Bool} (h : t env = .ok x e) (h2 : x = false → u e = .ok y e) : dtOr t u env = .ok (x || y) e := by
  unfold dtOr
  rw [h]
  cases x with
  | true => rfl
  | false => exact h2 rfl
theorem q_and {x y : Bool} (h : t env = .ok x e) (h2 : x = true → u e = .ok y e) : dtAnd t u env = .ok (x && y) e := by
  unfold dtAnd
  rw [h]
  cases x with
  | false => rfl
  | true => exact h2 rfl
theorem q_And {x : Bool} (h : a env = .ok (.sh (.bl x)) e) (h2 : x = true → b e = .ok s' e) : dAnd a b env = .ok (if x = true then s' else .sh (.bl false)) e := by
  unfold dAnd
  rw [h]
  cases x with
  | false => rfl
  | true => exact h2 rfl
theorem q_chain {op op' : D → D → Option S} {x y : Bool} {sa sb sc : S} (h : a env = .ok sa e) (h2 : b e = .ok sb e) (ho : bi2 op (rd e sa) (rd e sb) = some (.sh (.bl x))) (h3 : c e = .ok sc e) (ho3 : bi2 op' (rd e sb) (rd e sc) = some (.sh (.bl y))) : dChain op op' a b c env = .ok (.sh (.bl (x && y))) e := by
  unfold dChain
  rw [h]
  show (b e).bind _ = _
  rw [h2]
  show (asB (match bi2 op (rd e sa) (rd e sb) with | some (.sh d) => some d | _ => none) e).bind _ = _
  rw [ho]
  cases x with
  | false => rfl
  | true =>
    show (c e).bind _ = _
    rw [h3]
    show Res.get (bi2 op' (rd e sb) (rd e sc)) e = _
    rw [ho3]
    rfl
end
theorem q_rg2 {env e e1 : Env} {a b : Den} {sa sb : S} {c : List D → S} {i j : Int} (h : a env = .ok sa e1) (h2 : b e1 = .ok sb e) (hi : rd e sa = some (.int i)) (hj : rd e sb = some (.int j)) (hr : RgOk i j) : dRg2 c a b env = .ok (c (rngD i j)) e := by
  unfold dRg2
  rw [h]
  show (b e1).bind _ = _
  rw [h2]
  show rg2E c (rd e sa) (rd e sb) e = _
  rw [hi, hj]
  show (if RgOk i j then _ else _) = _
  rw [if_pos hr]
theorem nsD_len (t : List Int) : (nsD t).length = t.length := List.length_map ..
theorem fm_true {α β : Type} (v : α → β) (l : List α) : fm (fun _ => true) v l = l.map v := by
  rw [fm, List.filter_eq_self.mpr fun _ _ => rfl]
section
variable {env e : T.Env} {a b : Den} {d : D} {s' : S}
theorem q_retS (h : a env = .ok (.sh d) e) : dRet a env = .ok (.ret (.sh d)) e := q_ret h rfl
theorem q_retO (h : a env = .ok (.ow d) e) : dRet a env = .ok (.ret (.ow d)) e := q_ret h rfl
theorem q_AndT (h : a env = .ok (.sh (.bl true)) e) (h2 : b e = .ok s' e) : dAnd a b env = .ok s' e := q_And h fun _ => h2
theorem q_notF {t : T.Env → Res Bool} {x : Bool} (h : t env = .ok x e) (hx : (!x) = false) : dtNot t env = .ok false e := (q_not h).trans (by rw [hx])
theorem q_orF {t u : T.Env → Res Bool} (h : t env = .ok false e) (h2 : u e = .ok false e) : dtOr t u env = .ok false e := q_or h fun _ => h2
end
end T

/-! TTy: denotations against typed runs. -/
namespace T
open PySem PySem.Spec PyProof.Rows L2
/-- a typed run: a value, an error by its class's name, nothing told, a draw below n -/
inductive R (α : Type) where
  | ok (a : α)
  | exc (x : Str)
  | bad
  | ask (n : Nat) (k : Nat → R α)
namespace R
variable {α β γ : Type}
def bind : R α → (α → R β) → R β
  | ok a, f => f a
  | exc x, _ => exc x
  | bad, _ => bad
  | ask n k, f => ask n fun r => bind (k r) f
def wp : R α → (α → Prop) → Prop
  | ok a, Q => Q a
  | exc _, _ => False
  | bad, _ => False
  | ask n k, Q => ∀ r, r < n → wp (k r) Q
/-- of a value that may fail -/
def get : Option α → R α
  | some a => ok a
  | none => bad
/-- a draw below n -/
def draw (n : Int) : R Int := if 0 < n ∧ n < 1073741824 then ask n.toNat fun r => ok (r : Int) else bad
@[simp] theorem bind_ok (a : α) (f : α → R β) : bind (ok a) f = f a := rfl
@[simp] theorem bind_exc (x : Str) (f : α → R β) : bind (exc x) f = exc x := rfl
@[simp] theorem bind_bad (f : α → R β) : bind bad f = bad := rfl
@[simp] theorem get_some (a : α) : get (some a) = ok a := rfl
@[simp] theorem get_none : get (none : Option α) = bad := rfl
theorem bind_right (q : R α) : q.bind ok = q := by
  induction q with
  | ok a => rfl
  | exc x => rfl
  | bad => rfl
  | ask n k ih =>
    show ask n (fun j => (k j).bind ok) = _
    congr 1
    exact funext ih
theorem bind_assoc (m : R α) (f : α → R β) (g : β → R γ) : bind (bind m f) g = bind m fun a => bind (f a) g := by
  induction m with
  | ok a => rfl
  | exc x => rfl
  | bad => rfl
  | ask n k ih =>
    show ask n (fun j => bind (bind (k j) f) g) = ask n fun j => bind (k j) fun a => bind (f a) g
    congr 1
    exact funext ih
theorem wp_bind {m : R α} {f : α → R β} {Q : β → Prop} : wp (bind m f) Q ↔ wp m fun a => wp (f a) Q := by
  induction m with
  | ok a => exact Iff.rfl
  | exc x => exact Iff.rfl
  | bad => exact Iff.rfl
  | ask n k ih => exact ⟨fun h r hr => (ih r).mp (h r hr), fun h r hr => (ih r).mpr (h r hr)⟩
theorem wp_mono {m : R α} {Q Q' : α → Prop} (h : wp m Q) (hq : ∀ a, Q a → Q' a) : wp m Q' := by
  induction m with
  | ok a => exact hq a h
  | exc x => exact h
  | bad => exact h
  | ask n k ih => exact fun r hr => ih r (h r hr)
end R
/-- where the typed run tells anything, the denotation does as it says -/
def Sm0 {α β : Type} (Z : Env → Prop) (P : α → β → Env → Prop) : Res β → R α → Prop
  | _, .bad => True
  | .ok b e, .ok a => P a b e
  | .exc x e, .exc y => x = ⟨y, []⟩ ∧ Z e
  | .ask n k, .ask m k' => n = m ∧ ∀ r, r < n → Sm0 Z P (k r) (k' r)
  | _, _ => False
section
variable {α β γ δ : Type} {Z : Env → Prop} {P : α → β → Env → Prop} {P2 : γ → δ → Env → Prop}
theorem Sm0.bad {m : Res β} : Sm0 Z P m .bad := by cases m <;> exact True.intro
theorem Sm0.bind : ∀ {r : R α} {m : Res β} {k : β → Env → Res δ} {k' : α → R γ}, Sm0 Z P m r → (∀ a b e, P a b e → Sm0 Z P2 (k b e) (k' a)) → Sm0 Z P2 (m.bind k) (r.bind k')
  | .bad, _, _, _, _, _ => Sm0.bad
  | .ok a, .ok b e, _, _, h, hk => hk a b e h
  | .ok _, .exc _ _, _, _, h, _ => h.elim
  | .ok _, .bad, _, _, h, _ => h.elim
  | .ok _, .ask _ _, _, _, h, _ => h.elim
  | .exc _, .ok _ _, _, _, h, _ => h.elim
  | .exc _, .exc _ _, _, _, h, _ => h
  | .exc _, .bad, _, _, h, _ => h.elim
  | .exc _, .ask _ _, _, _, h, _ => h.elim
  | .ask _ _, .ok _ _, _, _, h, _ => h.elim
  | .ask _ _, .exc _ _, _, _, h, _ => h.elim
  | .ask _ _, .bad, _, _, h, _ => h.elim
  | .ask _ f, .ask _ g, _, _, ⟨hn, h⟩, hk => ⟨hn, fun r hr => Sm0.bind (h r hr) hk⟩
theorem Sm0.mono {Q : α → β → Env → Prop} (hq : ∀ a b e, P a b e → Q a b e) : ∀ {r : R α} {m : Res β}, Sm0 Z P m r → Sm0 Z Q m r
  | .bad, _, _ => Sm0.bad
  | .ok a, .ok b e, h => hq a b e h
  | .ok _, .exc _ _, h => h.elim
  | .ok _, .bad, h => h.elim
  | .ok _, .ask _ _, h => h.elim
  | .exc _, .ok _ _, h => h.elim
  | .exc _, .exc _ _, h => h
  | .exc _, .bad, h => h.elim
  | .exc _, .ask _ _, h => h.elim
  | .ask _ _, .ok _ _, h => h.elim
  | .ask _ _, .exc _ _, h => h.elim
  | .ask _ _, .bad, h => h.elim
  | .ask _ f, .ask _ g, ⟨hn, h⟩ => ⟨hn, fun r hr => Sm0.mono hq (h r hr)⟩
theorem Sm0.wp {Q : β → Env → Prop} {E : Exn → Env → Prop} {Qr : α → Prop} (hq : ∀ a b e, P a b e → Qr a → Q b e) : ∀ {r : R α} {m : Res β}, Sm0 Z P m r → r.wp Qr → m.wp Q E
  | .bad, _, _, w => w.elim
  | .exc _, _, _, w => w.elim
  | .ok a, .ok b e, h, w => hq a b e h w
  | .ok _, .exc _ _, h, _ => h.elim
  | .ok _, .bad, h, _ => h.elim
  | .ok _, .ask _ _, h, _ => h.elim
  | .ask _ _, .ok _ _, h, _ => h.elim
  | .ask _ _, .exc _ _, h, _ => h.elim
  | .ask _ _, .bad, h, _ => h.elim
  | .ask _ f, .ask _ g, ⟨hn, h⟩, w => fun r hr => Sm0.wp hq (h r hr) (w r (by rw [← hn]; exact hr))
/-- as the last step -/
theorem Sm0.last {P2 : α → δ → Env → Prop} {r : R α} {m : Res β} {k : β → Env → Res δ} (h : Sm0 Z P m r) (hk : ∀ a b e, P a b e → Sm0 Z P2 (k b e) (.ok a)) : Sm0 Z P2 (m.bind k) r := by
  have z := Sm0.bind h hk
  rwa [R.bind_right] at z
theorem Sm0.nx {Z' : Env → Prop} {P : α → δ → Env → Prop} {f : R α → R α} (hf : ∀ r : R α, f r = match r with
    | .ok a => .ok a
    | .exc _ => .bad
    | .bad => .bad
    | .ask n k => .ask n fun r => f (k r)) : ∀ {r : R α} {m : Res δ}, Sm0 Z P m r → Sm0 Z' P m.nx (f r)
  | .bad, _, _ => by rw [hf]; exact Sm0.bad
  | .ok a, .ok b e, h => by rw [hf]; exact h
  | .ok _, .exc _ _, h => h.elim
  | .ok _, .bad, h => h.elim
  | .ok _, .ask _ _, h => h.elim
  | .exc _, _, _ => by rw [hf]; exact Sm0.bad
  | .ask _ _, .ok _ _, h => h.elim
  | .ask _ _, .exc _ _, h => h.elim
  | .ask _ _, .bad, h => h.elim
  | .ask _ _, .ask _ _, ⟨hn, h⟩ => by rw [hf]; exact ⟨hn, fun r hr => Sm0.nx hf (h r hr)⟩
end
/-- the same, as a thing of its own -/
structure Sm {α β : Type} (Z : Env → Prop) (P : α → β → Env → Prop) (m : Res β) (r : R α) : Prop where
  out : Sm0 Z P m r
section
variable {α β γ δ : Type} {Z : Env → Prop} {P : α → β → Env → Prop} {P2 : γ → δ → Env → Prop}
theorem Sm.bad {m : Res β} : Sm Z P m .bad := ⟨Sm0.bad⟩
theorem Sm.bind {r : R α} {m : Res β} {k : β → Env → Res δ} {k' : α → R γ} (h : Sm Z P m r) (hk : ∀ a b e, P a b e → Sm Z P2 (k b e) (k' a)) : Sm Z P2 (m.bind k) (r.bind k') := ⟨Sm0.bind h.out fun a b e q => (hk a b e q).out⟩
theorem Sm.wp {Q : β → Env → Prop} {E : Exn → Env → Prop} {Qr : α → Prop} (hq : ∀ a b e, P a b e → Qr a → Q b e) {r : R α} {m : Res β} (h : Sm Z P m r) (w : r.wp Qr) : m.wp Q E := Sm0.wp hq h.out w
theorem Sm.last {P2 : α → δ → Env → Prop} {r : R α} {m : Res β} {k : β → Env → Res δ} (h : Sm Z P m r) (hk : ∀ a b e, P a b e → Sm Z P2 (k b e) (.ok a)) : Sm Z P2 (m.bind k) r := ⟨Sm0.last h.out fun a b e q => (hk a b e q).out⟩
theorem Sm.nx {Z' : Env → Prop} {P : α → δ → Env → Prop} {f : R α → R α} (hf : ∀ r : R α, f r = match r with
    | .ok a => .ok a
    | .exc _ => .bad
    | .bad => .bad
    | .ask n k => .ask n fun r => f (k r)) {r : R α} {m : Res δ} (h : Sm Z P m r) : Sm Z' P m.nx (f r) := ⟨Sm0.nx hf h.out⟩
end
/-- a def's result -/
abbrev Fs {α : Type} (mk : α → S) (m : Res S) (r : R α) : Prop := Sm (fun _ => True) (fun a s _ => s = mk a) m r
def rngOk (a b : Int) : Prop := -(2 ^ 62) ≤ a ∧ a < 2 ^ 62 ∧ -(2 ^ 62) ≤ b ∧ b < 2 ^ 62
instance (a b : Int) : Decidable (rngOk a b) := inferInstanceAs (Decidable (_ ∧ _))
/-- range(a, b) to be walked -/
def R.rng (a b : Int) : R (List Int) := if rngOk a b then .ok (rngI a b) else .bad
/-! ### list comprehensions -/
namespace R
variable {α β γ : Type}
/-- nothing may be raised in a comprehension -/
def nx : R α → R α
  | ok a => ok a
  | exc _ => bad
  | bad => bad
  | ask n k => ask n fun r => nx (k r)
theorem nx_eq (r : R α) : nx r = match r with
    | .ok a => .ok a
    | .exc _ => .bad
    | .bad => .bad
    | .ask n k => .ask n fun r => nx (k r) := by cases r <;> rfl
@[simp] theorem nx_ok (a : α) : nx (ok a) = ok a := rfl
def one (tt : α → R Bool) (ff : α → R β) (a : α) : R (List β) := (tt a).bind fun b => if b = true then (ff a).bind fun x => .ok [x] else .ok []
/-- what each item brings, one behind the other -/
def cat (h : α → R (List β)) : List α → R (List β)
  | [] => .ok []
  | a :: r => (h a).bind fun o => (cat h r).bind fun out => .ok (o ++ out)
def lc (tt : α → R Bool) (ff : α → R β) (l : List α) : R (List β) := if l.length ≤ 16777216 then (cat (one tt ff) l).nx else .bad
/-- two loops in one -/
def lc2 (tt : α → R Bool) (src : α → R (List γ)) (tt1 : α → γ → R Bool) (ff : α → γ → R β) (l : List α) : R (List β) :=
  if l.length ≤ 1000 then (cat (fun a => (tt a).bind fun b => if b = true then (src a).bind fun m => if m.length ≤ 1000 then cat (one (tt1 a) (ff a)) m else .bad else .ok []) l).nx else .bad
def yes : α → R Bool := fun _ => .ok true
theorem cat_pure {h : α → R (List β)} {v : α → List β} : ∀ (l : List α), (∀ a ∈ l, h a = .ok (v a)) → cat h l = .ok (l.flatMap v)
  | [], _ => rfl
  | a :: r, H => by
    rw [cat, H a List.mem_cons_self, cat_pure r fun b hb => H b (List.mem_cons_of_mem _ hb), List.flatMap_cons]
    rfl
theorem one_pure {tt : α → R Bool} {ff : α → R β} {p : Bool} {v : β} {a : α} (h1 : tt a = .ok p) (h2 : p = true → ff a = .ok v) : one tt ff a = .ok (if p = true then [v] else []) := by
  unfold one
  rw [h1]
  cases p with
  | false => rfl
  | true =>
    show (if true = true then (ff a).bind fun x => .ok [x] else .ok []) = _
    rw [h2 rfl]
    rfl
theorem lc_pure {tt : α → R Bool} {ff : α → R β} {p : α → Bool} {v : α → β} {l : List α} (hl : l.length ≤ 16777216) (h1 : ∀ a ∈ l, tt a = .ok (p a)) (h2 : ∀ a ∈ l, p a = true → ff a = .ok (v a)) : lc tt ff l = .ok (fm p v l) := by
  rw [lc, if_pos hl, cat_pure l fun a ha => one_pure (h1 a ha) (h2 a ha), fm_eq]
  rfl
end R
section
variable {α β γ : Type} {Z : Env → Prop} {en : α → D} {en2 : β → D} {e0 : Env}
/-- a loop whose items bring k each at most -/
theorem loop_sm {h : α → R (List β)} {body : D → Nat → Env → Res (List D)} {k : Nat} (hb : ∀ a n, k ≤ n → Sm Z (fun o ds e => ds = o.map en2 ∧ e = e0 ∧ o.length ≤ k) (body (en a) n e0) (h a)) : ∀ (l : List α) (n : Nat), l.length * k ≤ n →
    Sm Z (fun out ds e => ds = out.map en2 ∧ e = e0 ∧ out.length ≤ l.length * k) (dLoop body (l.map en) n e0) (R.cat h l)
  | [], n, _ => ⟨rfl, rfl, Nat.zero_le _⟩
  | a :: r, n, hn => by
    rw [List.length_cons, Nat.succ_mul] at hn
    rw [List.map_cons, dLoop, R.cat]
    refine Sm.bind (hb a n (by omega)) fun o ds e ⟨q1, q2, q3⟩ => ?_
    rw [q1, q2, if_pos (by rw [List.length_map]; omega)]
    refine Sm.bind (loop_sm hb r (n - (o.map en2).length) (by rw [List.length_map]; omega)) fun out ds e ⟨q4, q5, q6⟩ => ?_
    rw [q4, q5]
    refine ⟨(List.map_append ..).symm, rfl, ?_⟩
    rw [List.length_append, List.length_cons, Nat.succ_mul]
    omega
end
/-! ### statements, blocks, defs -/
/-- how a block ends: it goes on with a state, it breaks or goes on with the loop, it hands out -/
inductive O (σ τ : Type) where
  | nx (s : σ)
  | br (s : σ)
  | cn (s : σ)
  | rt (a : τ)
/-- what a block's end tells -/
def OP {σ τ : Type} (Z : Env → Prop) (E : σ → Env) (mk : τ → S) : O σ τ → Fl → Env → Prop
  | .nx s, fl, e => fl = .next ∧ e = E s
  | .br s, fl, e => fl = .brk ∧ e = E s
  | .cn s, fl, e => fl = .cont ∧ e = E s
  | .rt a, fl, e => fl = .ret (mk a) ∧ Z e
abbrev Bk {σ τ : Type} (Z : Env → Prop) (env : Env) (E : σ → Env) (mk : τ → S) (d : DenS) (r : R (O σ τ)) : Prop := Sm Z (OP Z E mk) (d env) r
section
variable {α β γ σ τ : Type} {Z : Env → Prop} {env e1 : Env} {Es : σ → Env} {mkr : τ → S} {f : DenS}
def R.forL {α : Type} (f : σ → α → R (O σ τ)) : List α → σ → R (O σ τ)
  | [], s => .ok (.nx s)
  | a :: r, s => (f s a).bind fun o => match o with
    | .nx s' => R.forL f r s'
    | .cn s' => R.forL f r s'
    | .br s' => .ok (.nx s')
    | .rt x => .ok (.rt x)
theorem for_sm {en : γ → D} {gt : D → Env → Option Env} {Eb : σ → γ → Env} {ff : σ → γ → R (O σ τ)} (hg : ∀ s c, gt (en c) (Es s) = some (Eb s c)) (hb : ∀ s c, Bk Z (Eb s c) Es mkr f (ff s c)) : ∀ (l : List γ) (s : σ), Sm Z (OP Z Es mkr) (dForL gt f (l.map en) (Es s)) (R.forL ff l s)
  | [], s => ⟨rfl, rfl⟩
  | a :: r, s => by
    rw [List.map_cons, R.forL]
    show Sm Z _ (match gt (en a) (Es s) with
      | some e => (f e).bind fun fl e' => (match fl with
        | .next => dForL gt f (r.map en) e'
        | .cont => dForL gt f (r.map en) e'
        | .brk => .ok .next e'
        | .ret s => .ok (.ret s) e')
      | none => .bad) _
    rw [hg s a]
    refine Sm.bind (hb s a) fun o fl e q => ?_
    cases o with
    | nx s' =>
      obtain ⟨q1, q2⟩ := q
      rw [q1, q2]
      exact for_sm hg hb r s'
    | cn s' =>
      obtain ⟨q1, q2⟩ := q
      rw [q1, q2]
      exact for_sm hg hb r s'
    | br s' =>
      obtain ⟨q1, q2⟩ := q
      rw [q1, q2]
      exact ⟨rfl, rfl⟩
    | rt a =>
      obtain ⟨q1, q2⟩ := q
      rw [q1]
      exact ⟨rfl, q2⟩
theorem ends_sm0 {io : Bool} {δ : Type} {P : δ → Fl → Env → Prop} {mk : δ → S} (hP : ∀ a fl e, P a fl e → ∃ e2, fin io fl e = .ok (mk a) e2) : ∀ {r : R δ} {m : Res Fl}, Sm0 (fun e => tokAt io e = true) P m r → Sm0 (fun _ => True) (fun a s _ => s = mk a) (ends io m) r
  | .bad, _, _ => Sm0.bad
  | .ok a, .ok fl e, h => by
    obtain ⟨e2, q⟩ := hP a fl e h
    show Sm0 _ _ (fin io fl e) _
    rw [q]
    exact rfl
  | .ok _, .exc _ _, h => h.elim
  | .ok _, .bad, h => h.elim
  | .ok _, .ask _ _, h => h.elim
  | .exc _, .ok _ _, h => h.elim
  | .exc _, .exc x e, h => by
    show Sm0 _ _ (if tokAt io e = true then .exc x [] else .bad) _
    rw [if_pos h.2]
    exact ⟨h.1, True.intro⟩
  | .exc _, .bad, h => h.elim
  | .exc _, .ask _ _, h => h.elim
  | .ask _ _, .ok _ _, h => h.elim
  | .ask _ _, .exc _ _, h => h.elim
  | .ask _ _, .bad, h => h.elim
  | .ask _ f, .ask _ g, ⟨hn, h⟩ => ⟨hn, fun r hr => ends_sm0 hP (h r hr)⟩
theorem Fs_map0 {δ ε : Type} {mk : δ → S} {mk' : ε → S} {k : δ → R ε} (hk : ∀ a, match k a with
    | .ok b => mk a = mk' b
    | .bad => True
    | _ => False) : ∀ {r : R δ} {m : Res S}, Sm0 (fun _ => True) (fun a s _ => s = mk a) m r → Sm0 (fun _ => True) (fun a s _ => s = mk' a) m (r.bind k)
  | .bad, _, _ => Sm0.bad
  | .ok a, .ok b e, h => by
    have z := hk a
    show Sm0 _ _ _ (k a)
    cases q : k a with
    | ok c => rw [q] at z; exact (show b = mk a from h).trans z
    | bad => exact Sm0.bad
    | exc x => rw [q] at z; exact z.elim
    | ask n k => rw [q] at z; exact z.elim
  | .ok _, .exc _ _, h => h.elim
  | .ok _, .bad, h => h.elim
  | .ok _, .ask _ _, h => h.elim
  | .exc _, .ok _ _, h => h.elim
  | .exc _, .exc _ _, h => h
  | .exc _, .bad, h => h.elim
  | .exc _, .ask _ _, h => h.elim
  | .ask _ _, .ok _ _, h => h.elim
  | .ask _ _, .exc _ _, h => h.elim
  | .ask _ _, .bad, h => h.elim
  | .ask _ f, .ask _ g, ⟨hn, h⟩ => ⟨hn, fun r hr => Fs_map0 hk (h r hr)⟩
theorem ends_sm {io : Bool} {δ : Type} {P : δ → Fl → Env → Prop} {mk : δ → S} (hP : ∀ a fl e, P a fl e → ∃ e2, fin io fl e = .ok (mk a) e2) {r : R δ} {m : Res Fl} (h : Sm (fun e => tokAt io e = true) P m r) : Fs mk (ends io m) r := ⟨ends_sm0 hP h.out⟩
/-- a number is drawn -/
theorem take_sm (n : Int) : Fs (fun i => .sh (.int i)) (fTake [.int n]) (R.draw n) := by
  show Fs _ (if 0 < n ∧ n < 1073741824 then Res.ask n.toNat fun r => Res.ok (S.sh (D.int (r : Int))) [] else Res.bad) _
  unfold R.draw
  by_cases h : 0 < n ∧ n < 1073741824
  · rw [if_pos h, if_pos h]
    exact ⟨rfl, fun r _ => rfl⟩
  · rw [if_neg h, if_neg h]
    exact Sm.bad
end
end T

/-! TX: typed runs of printed denotations, printed too. -/
namespace T
open PySem PySem.Spec PyProof.Rows L2
/-! ### typed things as trees -/
section
variable {α β γ : Type}
abbrev eL (e : α → D) (l : List α) : D := .lst (l.map e)
abbrev eT (e : α → D) (l : List α) : D := .tup (l.map e)
abbrev eU (_ : Unit) : D := .non
abbrev eP (e : α → D) (e' : β → D) (p : α × β) : D := .tup [e p.1, e' p.2]
abbrev eP3 (e : α → D) (e' : β → D) (e2 : γ → D) (p : α × β × γ) : D := .tup [e p.1, e' p.2.1, e2 p.2.2]
@[reducible] def eO (e : α → D) (o : Option α) : D := match o with
  | some a => e a
  | none => .non
abbrev eK (e : α → D) (e' : β → D) (l : List (α × β)) : D := .dic (l.map fun p => (e p.1, e' p.2))
/-- a slot that may be empty -/
@[reducible] def oS (f : α → S) (o : Option α) : S := match o with
  | some a => f a
  | none => .no
end
theorem Enc.opt {α : Type} [DecidableEq α] {k : Nat} {e : α → D} (E : Enc k e) (hn : ∀ a, PyData.eqv (e a).py PyData.none = false ∧ PyData.eqv PyData.none (e a).py = false) : Enc k (eO e) := by
  refine ⟨fun o => ?_, fun o => ?_, fun o p => ?_⟩
  · cases o with
    | none => rfl
    | some a => exact E.lay a
  · cases o with
    | none => exact Nat.zero_le _
    | some a => exact E.dep a
  · cases o with
    | none => cases p with
      | none => rfl
      | some b => exact ((hn b).2).trans (by simp)
    | some a => cases p with
      | none => exact ((hn a).1).trans (by simp)
      | some b => exact (E.eq a b).trans (by simp)
theorem Enc.unit : Enc 0 eU := ⟨fun _ => rfl, fun _ => Nat.le_refl _, fun a b => rfl⟩
/-! ### judgements -/
abbrev X {α : Type} (Z : Env → Prop) (env : Env) (Ef : α → Env) (mk : α → S) (d : Den) (r : R α) : Prop := Sm Z (fun a s e => s = mk a ∧ e = Ef a) (d env) r
abbrev Tx (Z : Env → Prop) (env e1 : Env) (t : Env → Res Bool) (r : R Bool) : Prop := Sm Z (fun a b e => b = a ∧ e = e1) (t env) r
abbrev W {α : Type} (Z : Env → Prop) (env e1 : Env) (en : α → D) (src : Env → Res (List D)) (r : R (List α)) : Prop := Sm Z (fun l ds e => ds = l.map en ∧ e = e1) (src env) r
/-- statements that go on -/
abbrev Nx {σ : Type} (Z : Env → Prop) (env : Env) (E : σ → Env) (f : DenS) (r : R σ) : Prop := Sm Z (fun a fl e => fl = .next ∧ e = E a) (f env) r
/-- blocks that hand out -/
abbrev Tl {τ : Type} (Z : Env → Prop) (env : Env) (mk : τ → S) (f : DenS) (r : R τ) : Prop := Sm Z (fun a fl e => fl = .ret (mk a) ∧ Z e) (f env) r
/-- blocks in loops that hand out, break, go on with the loop -/
inductive J (σ τ : Type) where
  | br (s : σ)
  | cn (s : σ)
  | rt (a : τ)
def JP {σ τ : Type} (Z : Env → Prop) (E : σ → Env) (mk : τ → S) : J σ τ → Fl → Env → Prop
  | .br s, fl, e => fl = .brk ∧ e = E s
  | .cn s, fl, e => fl = .cont ∧ e = E s
  | .rt a, fl, e => fl = .ret (mk a) ∧ Z e
abbrev Jp {σ τ : Type} (Z : Env → Prop) (env : Env) (E : σ → Env) (mk : τ → S) (f : DenS) (r : R (J σ τ)) : Prop := Sm Z (JP Z E mk) (f env) r
section
variable {α β γ δ ε σ τ ρ : Type} {Z : Env → Prop} {P : ρ → ε → Env → Prop} {env e1 e2 e3 : Env} {d d2 d3 : Den} {q : R ρ}
/-! ### one after the other -/
theorem k_p {m : Res δ} {a : δ} {k : δ → Env → Res ε} (h : m = .ok a e1) (hq : Sm Z P (k a e1) q) : Sm Z P (m.bind k) q := by
  rw [h]
  exact hq
theorem k_v (mk : α → S) (Ef : α → Env) {r : R α} {rr : α → R ρ} {k : S → Env → Res ε} (h : X Z env Ef mk d r) (hq : ∀ a, Sm Z P (k (mk a) (Ef a)) (rr a)) : Sm Z P ((d env).bind k) (r.bind rr) := by
  refine Sm.bind h fun a s e ⟨q1, q2⟩ => ?_
  rw [q1, q2]
  exact hq a
theorem kq_p {i : Int} (h : d env = .ok (.sh (.int i)) e1) : dPart (some d) env = .ok (some i) e1 := by
  show (d env).bind _ = _
  rw [h]
  rfl
theorem kq_v (Ef : Int → Env) {r : R Int} {rr : Int → R ρ} {k : Option Int → Env → Res ε} (h : X Z env Ef (fun a => .sh (.int a)) d r) (hq : ∀ a, Sm Z P (k (some a) (Ef a)) (rr a)) : Sm Z P ((dPart (some d) env).bind k) (r.bind rr) := by
  unfold dPart
  rw [Res.bind_assoc]
  refine Sm.bind h fun a s e ⟨q1, q2⟩ => ?_
  rw [q1, q2]
  exact hq a
theorem a_nil {k : List S → Env → Res ε} (h : Sm Z P (k [] env) q) : Sm Z P ((dargs [] env).bind k) q := h
theorem a_p {fs : List Den} {s : S} {k : List S → Env → Res ε} (h : d env = .ok s e1) (h2 : Sm Z P ((dargs fs e1).bind fun ss e => k (s :: ss) e) q) : Sm Z P ((dargs (d :: fs) env).bind k) q := by
  rw [dargs, Res.bind_assoc, h]
  show Sm Z P (((dargs fs e1).bind _).bind k) q
  rw [Res.bind_assoc]
  exact h2
theorem a_v (mk : α → S) (Ef : α → Env) {r : R α} {rr : α → R ρ} {fs : List Den} {k : List S → Env → Res ε} (h : X Z env Ef mk d r) (h2 : ∀ a, Sm Z P ((dargs fs (Ef a)).bind fun ss e => k (mk a :: ss) e) (rr a)) : Sm Z P ((dargs (d :: fs) env).bind k) (r.bind rr) := by
  rw [dargs, Res.bind_assoc]
  refine Sm.bind h fun a s e ⟨q1, q2⟩ => ?_
  rw [q1, q2, Res.bind_assoc]
  exact h2 a
/-! the forms -/
section
variable {P : ρ → S → Env → Prop}
theorem u_1 {op : D → Option S} (h : Sm Z P ((d env).bind fun s e => Res.get (un1 op (rd e s)) e) q) : Sm Z P (d1 op d env) q := h
theorem u_2 {op : D → D → Option S} (h : Sm Z P ((d env).bind fun s e => (d2 e).bind fun s' e' => Res.get (bi2 op (rd e' s) (rd e' s')) e') q) : Sm Z P (T.d2 op d d2 env) q := h
theorem u_N {op : List D → Option S} {fs : List Den} (h : Sm Z P ((dargs fs env).bind fun ss e => Res.get (unL op (rds e ss)) e) q) : Sm Z P (dN op fs env) q := h
theorem u_tup {fs : List Den} (h : Sm Z P ((dargs fs env).bind fun ss e => mkSeq (fun ds => S.sh (.tup ds)) (escs e ss)) q) : Sm Z P (dTup fs env) q := h
theorem u_lst {fs : List Den} (h : Sm Z P ((dargs fs env).bind fun ss e => mkSeq (fun ds => S.ow (.lst ds)) (escs e ss)) q) : Sm Z P (dLst fs env) q := h
theorem u_sl {lo hi : Option Den} (h : Sm Z P ((d env).bind fun s e => (dPart lo e).bind fun l e1 => (dPart hi e1).bind fun h e2 => Res.get (un1 (opSl l h) (rd e2 s)) e2) q) : Sm Z P (dSl d lo hi env) q := h
theorem u_call {io : Bool} {n : Nat} {fd : FD} {fs : List Den} (h : Sm Z P ((dargs fs env).bind fun ss e => if ss.length = n then callS io fd ss e else .bad) q) : Sm Z P (dCall io n fd fs env) q := h
theorem u_rg2 {c : List D → S} (h : Sm Z P ((d env).bind fun s e => (d2 e).bind fun s' e' => rg2E c (rd e' s) (rd e' s') e') q) : Sm Z P (dRg2 c d d2 env) q := h
theorem u_rg1 {c : List D → S} (h : Sm Z P ((d env).bind fun s e => rg1E c (rd e s) e) q) : Sm Z P (dRg1 c d env) q := h
theorem u_sum2 {fs : List Den} (h : Sm Z P ((dargs fs env).bind fun ss e => sum2E (escs e ss)) q) : Sm Z P (dSum2 fs env) q := h
theorem u_lz {fs : List Den} (h : Sm Z P ((dargs fs env).bind fun ss e => lzE (escs e ss)) q) : Sm Z P (dLZ fs env) q := h
theorem u_lm {i : Nat} {op : List D → List D → Option (List D × D)} {fs : List Den} (hl : isL env[i]? = true) (h : Sm Z P ((dargs fs env).bind fun ss e => lmEnd i op (escs e ss)) q) : Sm Z P (dLm i op fs env) q := by
  unfold dLm
  rw [if_pos hl]
  exact h
end
/-! ### plain equations -/
theorem p_1 {op : D → Option S} {s s' : S} (h : d env = .ok s e1) (ho : un1 op (rd e1 s) = some s') : d1 op d env = .ok s' e1 := q_1 h ho
theorem p_tup {fs : List Den} {ss : List S} {ds : List D} (h : dargs fs env = .ok ss e1) (he : escs e1 ss = some (ds, e2)) (hl : ds.length ≤ 16777216) : dTup fs env = .ok (.sh (.tup ds)) e2 := by
  unfold dTup
  rw [h]
  show mkSeq _ (escs e1 ss) = _
  rw [he]
  exact if_pos hl
theorem p_lst {fs : List Den} {ss : List S} {ds : List D} (h : dargs fs env = .ok ss e1) (he : escs e1 ss = some (ds, e2)) (hl : ds.length ≤ 16777216) : dLst fs env = .ok (.ow (.lst ds)) e2 := by
  unfold dLst
  rw [h]
  show mkSeq _ (escs e1 ss) = _
  rw [he]
  exact if_pos hl
theorem p_And {x y : Bool} (h : d env = .ok (.sh (.bl x)) e1) (h2 : d2 e1 = .ok (.sh (.bl y)) e1) : dAnd d d2 env = .ok (.sh (.bl (x && y))) e1 := by
  unfold dAnd
  rw [h]
  cases x with
  | true => exact h2
  | false => rfl
theorem p_Or {x y : Bool} (h : d env = .ok (.sh (.bl x)) e1) (h2 : d2 e1 = .ok (.sh (.bl y)) e1) : dOr d d2 env = .ok (.sh (.bl (x || y))) e1 := by
  unfold dOr
  rw [h]
  cases x with
  | true => rfl
  | false => exact h2
theorem p_Not {s : S} {x : D} {b : Bool} (h : d env = .ok s e1) (hr : rd e1 s = some x) (hb : truD x = some b) : dNot d env = .ok (.sh (.bl (!b))) e1 := by
  unfold dNot
  rw [h]
  show (asT (rd e1 s) e1).bind _ = _
  rw [hr]
  show (Res.get (truD x) e1).bind _ = _
  rw [hb]
  rfl
theorem p_chain {op op' : D → D → Option S} {x y : Bool} {sa sb sc : S} (h : d env = .ok sa e1) (h2 : d2 e1 = .ok sb e1) (ho : bi2 op (rd e1 sa) (rd e1 sb) = some (.sh (.bl x))) (h3 : d3 e1 = .ok sc e1) (ho3 : bi2 op' (rd e1 sb) (rd e1 sc) = some (.sh (.bl y))) : dChain op op' d d2 d3 env = .ok (.sh (.bl (x && y))) e1 := q_chain h h2 ho h3 ho3
theorem p_sl {lo hi : Option Den} {s s' : S} {l u : Option Int} (h : d env = .ok s e1) (hl : dPart lo e1 = .ok l e1) (hh : dPart hi e1 = .ok u e1) (ho : un1 (opSl l u) (rd e1 s) = some s') : dSl d lo hi env = .ok s' e1 := by
  unfold dSl
  rw [h]
  show (dPart lo e1).bind _ = _
  rw [hl]
  show (dPart hi e1).bind _ = _
  rw [hh]
  show Res.get _ e1 = _
  rw [ho]
  rfl
theorem p_T {s : S} {x : D} {b : Bool} (h : d env = .ok s e1) (hr : rd e1 s = some x) (hb : truD x = some b) : dtT d env = .ok b e1 := by
  unfold dtT
  rw [h]
  show asT (rd e1 s) e1 = _
  rw [hr]
  show Res.get (truD x) e1 = _
  rw [hb]
  rfl
/-! ### expressions -/
theorem x_p (mk : α → S) (x : α) {Ef : α → Env} (h : d env = .ok (mk x) (Ef x)) : X Z env Ef mk d (.ok x) := by
  show Sm Z _ (d env) _
  rw [h]
  exact ⟨rfl, rfl⟩
theorem x_map (mk : α → S) (Ef : α → Env) {mk' : β → S} {Ef' : β → Env} {r : R α} (f : α → β) (h : X Z env Ef mk d r) (hm : ∀ a, mk a = mk' (f a)) (hE : ∀ a, Ef a = Ef' (f a)) : X Z env Ef' mk' d (r.bind fun a => .ok (f a)) :=
  by
    have z := Sm.bind (P2 := fun a s e => s = mk' a ∧ e = Ef' a) (k' := fun a => .ok (f a)) h (k := fun s e => .ok s e) fun a s e ⟨q1, q2⟩ => ⟨q1.trans (hm a), q2.trans (hE a)⟩
    have e : ∀ m : Res S, (m.bind fun s e => .ok s e) = m := fun m => by
      induction m with
      | ok a e => rfl
      | exc x e => rfl
      | bad => rfl
      | ask n k ih =>
        show Res.ask n (fun j => (k j).bind fun s e => .ok s e) = _
        congr 1
        exact funext ih
    rw [e] at z
    exact z
section
variable {Ef : ρ → Env} {mk : ρ → S}
abbrev XP2 (mk : ρ → S) (Ef : ρ → Env) : ρ → S → Env → Prop := fun a s e => s = mk a ∧ e = Ef a
theorem z_ok {o : Option S} (x : ρ) (h : o = some (mk x)) (he : e1 = Ef x) : Sm Z (XP2 mk Ef) (Res.get o e1) (.ok x) := by
  rw [h]
  exact ⟨rfl, he⟩
theorem z_get {o : Option S} (x : Option ρ) (h : o = x.map mk) (he : ∀ a, e1 = Ef a) : Sm Z (XP2 mk Ef) (Res.get o e1) (R.get x) := by
  rw [h]
  cases x with
  | none => exact Sm.bad
  | some a => exact ⟨rfl, he a⟩
theorem z_if {o : Option S} {c : Prop} [Decidable c] (x : ρ) (h : c → o = some (mk x)) (he : e1 = Ef x) : Sm Z (XP2 mk Ef) (Res.get o e1) (if c then .ok x else .bad) := by
  by_cases hc : c
  · rw [if_pos hc]; exact z_ok x (h hc) he
  · rw [if_neg hc]; exact Sm.bad
theorem z_seq {c : List D → S} {ss : List S} {ds : List D} (x : ρ) (h : escs e1 ss = some (ds, e2)) (hl : ds.length ≤ 16777216) (hx : c ds = mk x) (he : e2 = Ef x) : Sm Z (XP2 mk Ef) (mkSeq c (escs e1 ss)) (.ok x) := by
  rw [h]
  show Sm Z _ (if ds.length ≤ 16777216 then Res.ok (c ds) e2 else .bad) _
  rw [if_pos hl]
  exact ⟨hx, he⟩
theorem back_x0 : ∀ {r : R ρ} {m : Res S}, (∀ a, Z (Ef a)) → Z e1 → Sm0 (fun _ => True) (fun a s _ => s = mk a) m r → (∀ a, e1 = Ef a) → Sm0 Z (XP2 mk Ef) (m.back e1) r
  | .bad, _, _, _, _, _ => Sm0.bad
  | .ok a, .ok b e, _, _, h, he => ⟨h, he a⟩
  | .ok _, .exc _ _, _, _, h, _ => h.elim
  | .ok _, .bad, _, _, h, _ => h.elim
  | .ok _, .ask _ _, _, _, h, _ => h.elim
  | .exc _, .ok _ _, _, _, h, _ => h.elim
  | .exc _, .exc x e, _, hZ, h, _ => ⟨h.1, hZ⟩
  | .exc _, .bad, _, _, h, _ => h.elim
  | .exc _, .ask _ _, _, _, h, _ => h.elim
  | .ask _ _, .ok _ _, _, _, h, _ => h.elim
  | .ask _ _, .exc _ _, _, _, h, _ => h.elim
  | .ask _ _, .bad, _, _, h, _ => h.elim
  | .ask _ f, .ask _ g, h1, h2, ⟨hn, h⟩, he => ⟨hn, fun r hr => back_x0 h1 h2 (h r hr) he⟩
theorem back_x {r : R ρ} {m : Res S} (h1 : ∀ a, Z (Ef a)) (h2 : Z e1) (h : Fs mk m r) (he : ∀ a, e1 = Ef a) : Sm Z (XP2 mk Ef) (m.back e1) r := ⟨back_x0 h1 h2 h.out he⟩
theorem z_call {n : Nat} {fd : FD} {ss : List S} {as : List D} (hZ : Z e2) (hn : ss.length = n) (he : escs e1 ss = some (as, e2)) (hE : ∀ a, e2 = Ef a) (hf : Fs mk (fd as) q) : Sm Z (XP2 mk Ef) (if ss.length = n then callS false fd ss e1 else .bad) q := by
  rw [if_pos hn]
  show Sm Z _ (match escs e1 ss with
    | some (as, e') => (fd as).back e'
    | none => .bad) _
  rw [he]
  exact back_x (fun a => hE a ▸ hZ) hZ hf hE
theorem z_callD {n j : Nat} {fd : FD} {ss : List S} {as : List D} (hZ : Z e2) (hn : (S.bo j :: ss).length = n) (he : escs e1 ss = some (as, e2)) (hj : e2[j]? = some .tok) (hE : ∀ a, e2 = Ef a) (hf : Fs mk (fd as) q) : Sm Z (XP2 mk Ef) (if (S.bo j :: ss).length = n then callS true fd (.bo j :: ss) e1 else .bad) q := by
  rw [if_pos hn]
  show Sm Z _ (match escs e1 ss with
    | some (as, e') => (match (e'[j]? : Option S) with
      | some S.tok => (fd as).back e'
      | _ => .bad)
    | none => .bad) _
  rw [he]
  show Sm Z _ (match (e2[j]? : Option S) with
      | some S.tok => (fd as).back e2
      | _ => .bad) _
  rw [hj]
  exact back_x (fun a => hE a ▸ hZ) hZ hf hE
end
/-! and, or, not, if, chains -/
section
variable {Ef : Bool → Env} {r r2 : R Bool}
abbrev mB (b : Bool) : S := .sh (.bl b)
theorem x_And (h : X Z env (fun _ => e1) mB d r) (h2 : X Z e1 (fun _ => e1) mB d2 r2) : X Z env (fun _ => e1) mB (dAnd d d2) (r.bind fun b => if b = true then r2 else .ok false) :=
  Sm.bind h fun a s e ⟨q1, q2⟩ => by
    rw [q1, q2]
    cases a with
    | true => exact h2
    | false => exact ⟨rfl, rfl⟩
theorem x_Or (h : X Z env (fun _ => e1) mB d r) (h2 : X Z e1 (fun _ => e1) mB d2 r2) : X Z env (fun _ => e1) mB (dOr d d2) (r.bind fun b => if b = true then .ok true else r2) :=
  Sm.bind h fun a s e ⟨q1, q2⟩ => by
    rw [q1, q2]
    cases a with
    | true => exact ⟨rfl, rfl⟩
    | false => exact h2
theorem x_AndP {b : Bool} (h : d env = .ok (mB b) e1) (h2 : X Z e1 (fun _ => e1) mB d2 r2) : X Z env (fun _ => e1) mB (dAnd d d2) (if b = true then r2 else .ok false) := by
  show Sm Z _ ((d env).bind _) _
  rw [h]
  cases b with
  | true => exact h2
  | false => exact ⟨rfl, rfl⟩
theorem x_OrP {b : Bool} (h : d env = .ok (mB b) e1) (h2 : X Z e1 (fun _ => e1) mB d2 r2) : X Z env (fun _ => e1) mB (dOr d d2) (if b = true then .ok true else r2) := by
  show Sm Z _ ((d env).bind _) _
  rw [h]
  cases b with
  | true => exact ⟨rfl, rfl⟩
  | false => exact h2
theorem x_Not {mk : α → S} {r : R α} {en : α → D} {tv : α → Bool} (mk : α → S) (h : X Z env (fun _ => e1) mk d r) (hr : ∀ a, rd e1 (mk a) = some (en a)) (hb : ∀ a, truD (en a) = some (tv a)) : X Z env (fun _ => e1) mB (dNot d) (r.bind fun a => .ok (!tv a)) := by
  refine Sm.bind h fun a s e ⟨q1, q2⟩ => ?_
  rw [q1, q2, hr a]
  show Sm Z _ ((Res.get (truD (en a)) e1).bind _) _
  rw [hb a]
  exact ⟨rfl, rfl⟩
theorem x_If {t : Env → Res Bool} {rt : R Bool} {ra rb : R ρ} {Ef : ρ → Env} {mk : ρ → S} (ht : Tx Z env e1 t rt) (h1 : X Z e1 Ef mk d ra) (h2 : X Z e1 Ef mk d2 rb) : X Z env Ef mk (dIf t d d2) (rt.bind fun b => if b = true then ra else rb) :=
  Sm.bind ht fun a s e ⟨q1, q2⟩ => by
    rw [q1, q2]
    cases a with
    | true => exact h1
    | false => exact h2
theorem x_IfP {t : Env → Res Bool} {b : Bool} {ra rb : R ρ} {Ef : ρ → Env} {mk : ρ → S} (ht : t env = .ok b e1) (h1 : X Z e1 Ef mk d ra) (h2 : X Z e1 Ef mk d2 rb) : X Z env Ef mk (dIf t d d2) (if b = true then ra else rb) := by
  show Sm Z _ ((t env).bind _) _
  rw [ht]
  cases b with
  | true => exact h1
  | false => exact h2
/-- a <= b < c over whole numbers -/
theorem x_chain {op op' : D → D → Option S} {p p' : Int → Int → Bool} {ra rb rc : R Int} (ho : op = iCmp p) (ho' : op' = iCmp p') (h : X Z env (fun _ => e1) (fun a => .sh (.int a)) d ra) (h2 : X Z e1 (fun _ => e1) (fun a => .sh (.int a)) d2 rb) (h3 : X Z e1 (fun _ => e1) (fun a => .sh (.int a)) d3 rc) :
    X Z env (fun _ => e1) mB (dChain op op' d d2 d3) (ra.bind fun a => rb.bind fun b => if p a b = true then rc.bind fun c => .ok (p' b c) else .ok false) := by
  subst ho ho'
  refine Sm.bind h fun a s e ⟨q1, q2⟩ => ?_
  rw [q1, q2]
  refine Sm.bind h2 fun b s e ⟨q3, q4⟩ => ?_
  rw [q3, q4]
  show Sm Z _ (if p a b = true then _ else _) _
  cases p a b with
  | false => exact ⟨rfl, rfl⟩
  | true =>
    refine Sm.bind h3 fun c s e ⟨q5, q6⟩ => ?_
    rw [q5, q6]
    exact ⟨rfl, rfl⟩
end
/-! tests -/
section
variable {t t2 : Env → Res Bool} {r r2 : R Bool} {b : Bool}
theorem t_p (h : t env = .ok b e1) : Tx Z env e1 t (.ok b) := by
  show Sm Z _ (t env) _
  rw [h]
  exact ⟨rfl, rfl⟩
theorem t_B (h : X Z env (fun _ => e1) mB d r) : Tx Z env e1 (dtB d) r := Sm.last h fun a s e ⟨q1, q2⟩ => by
  rw [q1, q2]
  exact ⟨rfl, rfl⟩
theorem t_T (mk : α → S) {r : R α} {en : α → D} {tv : α → Bool} (h : X Z env (fun _ => e1) mk d r) (hr : ∀ a, rd e1 (mk a) = some (en a)) (hb : ∀ a, truD (en a) = some (tv a)) : Tx Z env e1 (dtT d) (r.bind fun a => .ok (tv a)) := by
  refine Sm.bind h fun a s e ⟨q1, q2⟩ => ?_
  rw [q1, q2, hr a]
  show Sm Z _ (Res.get (truD (en a)) e1) _
  rw [hb a]
  exact ⟨rfl, rfl⟩
/-- of a bool -/
theorem t_TB (h : X Z env (fun _ => e1) mB d r) : Tx Z env e1 (dtT d) r := Sm.last h fun a s e ⟨q1, q2⟩ => by
  rw [q1, q2]
  exact ⟨rfl, rfl⟩
theorem t_not (h : Tx Z env e1 t r) : Tx Z env e1 (dtNot t) (r.bind fun b => .ok (!b)) :=
  Sm.bind h fun a s e ⟨q1, q2⟩ => by
    rw [q1, q2]
    exact ⟨rfl, rfl⟩
theorem t_or (h : Tx Z env e1 t r) (h2 : Tx Z e1 e1 t2 r2) : Tx Z env e1 (dtOr t t2) (r.bind fun b => if b = true then .ok true else r2) :=
  Sm.bind h fun a s e ⟨q1, q2⟩ => by
    rw [q1, q2]
    cases a with
    | true => exact ⟨rfl, rfl⟩
    | false => exact h2
theorem t_and (h : Tx Z env e1 t r) (h2 : Tx Z e1 e1 t2 r2) : Tx Z env e1 (dtAnd t t2) (r.bind fun b => if b = true then r2 else .ok false) :=
  Sm.bind h fun a s e ⟨q1, q2⟩ => by
    rw [q1, q2]
    cases a with
    | true => exact h2
    | false => exact ⟨rfl, rfl⟩
theorem t_orP (h : t env = .ok b e1) (h2 : Tx Z e1 e1 t2 r2) : Tx Z env e1 (dtOr t t2) (if b = true then .ok true else r2) := by
  show Sm Z _ ((t env).bind _) _
  rw [h]
  cases b with
  | true => exact ⟨rfl, rfl⟩
  | false => exact h2
theorem t_andP (h : t env = .ok b e1) (h2 : Tx Z e1 e1 t2 r2) : Tx Z env e1 (dtAnd t t2) (if b = true then r2 else .ok false) := by
  show Sm Z _ ((t env).bind _) _
  rw [h]
  cases b with
  | true => exact h2
  | false => exact ⟨rfl, rfl⟩
end
theorem q_orT {t u : T.Env → Res Bool} (h : t env = .ok true e1) : dtOr t u env = .ok true e1 := by
  unfold dtOr
  rw [h]
  rfl
theorem t_orS {t t2 : T.Env → Res Bool} {r2 : R Bool} (h : t env = .ok false e1) (h2 : Tx Z e1 e1 t2 r2) : Tx Z env e1 (dtOr t t2) r2 := by
  show Sm Z _ ((t env).bind _) _
  rw [h]
  exact h2
/-! ### statements that go on -/
section
variable {E : σ → Env} {f g rest : DenS} {r : R σ} {rs : R σ} {t : Env → Res Bool} {b : Bool}
theorem n_p {r : σ} (h : f env = .ok .next e1) (he : e1 = E r) : Nx Z env E f (.ok r) := by
  show Sm Z _ (f env) _
  rw [h]
  exact ⟨rfl, he⟩
theorem n_expr (mk : α → S) (Ef : α → Env) {r : R α} (h : X Z env Ef mk d r) : Nx Z env Ef (dExpr d) r := Sm.last h fun a s e ⟨_, q⟩ => ⟨rfl, q⟩
theorem n_set {i : Nat} (mk : α → S) (Ef : α → Env) {E : α → Env} {r : R α} (h : X Z env Ef mk d r) (hs : ∀ a, stN i (asg (Ef a) (mk a)) = .ok .next (E a)) : Nx Z env E (dSet i d) r := Sm.last h fun a s e ⟨q1, q2⟩ => by
  rw [q1, q2, hs a]
  exact ⟨rfl, rfl⟩
theorem n_asg {gt : D → Env → Option Env} (mk : α → S) (Ef : α → Env) {E : α → Env} {r : R α} (h : X Z env Ef mk d r) (hs : ∀ a, gEnd gt (esc (Ef a) (mk a)) = .ok .next (E a)) : Nx Z env E (dAsg d gt) r := Sm.last h fun a s e ⟨q1, q2⟩ => by
  rw [q1, q2, hs a]
  exact ⟨rfl, rfl⟩
theorem n_asgR {gt : D → Env → Option Env} (mk : α → S) (Ef : α → Env) {E : σ → Env} {r : R α} {rr : α → R σ} (h : X Z env Ef mk d r) (hs : ∀ a, Sm Z (fun b fl e => fl = .next ∧ e = E b) (gEnd gt (esc (Ef a) (mk a))) (rr a)) : Nx Z env E (dAsg d gt) (r.bind rr) := Sm.bind h fun a s e ⟨q1, q2⟩ => by
  rw [q1, q2]
  exact hs a
theorem u_par {i j : Nat} {fs : List Den} (h : Sm Z (fun a fl e => fl = .next ∧ e = E a) ((dargs fs env).bind fun ss e => par2 i j (stos e ss)) r) : Nx Z env E (dPar i j fs) r := h
theorem u_par3 {i j l : Nat} {fs : List Den} (h : Sm Z (fun a fl e => fl = .next ∧ e = E a) ((dargs fs env).bind fun ss e => par3 i j l (stos e ss)) r) : Nx Z env E (dPar3 i j l fs) r := h
theorem n_done {m : Res Fl} (x : σ) (h : m = .ok .next (E x)) : Sm Z (fun a fl e => fl = .next ∧ e = E a) m (.ok x) := by
  rw [h]
  exact ⟨rfl, rfl⟩
theorem n_lm {i : Nat} {op : List D → List D → Option (List D × D)} {fs : List Den} (hl : isL env[i]? = true) (h : Sm Z (fun a (fl : Fl) e => fl = Fl.next ∧ e = E a) ((dargs fs env).bind fun ss e => (lmEnd i op (escs e ss)).bind fun _ e => Res.ok Fl.next e) r) : Nx Z env E (dExpr (dLm i op fs)) r := by
  show Sm Z _ ((if isL env[i]? = true then (dargs fs env).bind fun ss e => lmEnd i op (escs e ss) else .bad).bind _) _
  rw [if_pos hl, Res.bind_assoc]
  exact h
theorem n_raise {x : Str} (hZ : Z env) : Nx Z env E (dRaise x) (.exc x) := ⟨rfl, hZ⟩
theorem n_skip (x : σ) (h : env = E x) : Nx Z env E dSkip (.ok x) := ⟨rfl, h⟩
theorem n_seq {E1 : α → Env} {r : R α} {k : α → R σ} (h : Nx Z env E1 f r) (hk : ∀ a, Nx Z (E1 a) E rest (k a)) : Nx Z env E (dSeq f rest) (r.bind k) := by
  refine Sm.bind h fun a fl e ⟨q1, q2⟩ => ?_
  rw [q1, q2]
  exact hk a
theorem n_last {E1 : α → Env} {r : R α} (u : α → σ) (h : Nx Z env E1 f r) (hk : ∀ a, E1 a = E (u a)) : Nx Z env E f (r.bind fun a => .ok (u a)) := by
  have z := Sm.bind (P2 := fun a fl e => fl = Fl.next ∧ e = E a) (k' := fun a => .ok (u a)) h (k := fun fl e => .ok fl e) fun a fl e ⟨q1, q2⟩ => by
    rw [q1, q2, hk a]
    exact ⟨rfl, rfl⟩
  have e : ∀ m : Res Fl, (m.bind fun fl e => .ok fl e) = m := fun m => by
    induction m with
    | ok a e => rfl
    | exc x e => rfl
    | bad => rfl
    | ask n k ih =>
      show Res.ask n (fun j => (k j).bind fun fl e => .ok fl e) = _
      congr 1
      exact funext ih
  rw [e] at z
  exact z
theorem n_if {rt : R Bool} {ra rb : R σ} (ht : Tx Z env e1 t rt) (h1 : Nx Z e1 E f ra) (h2 : Nx Z e1 E g rb) : Nx Z env E (dIfS t f g) (rt.bind fun b => if b = true then ra else rb) :=
  Sm.bind ht fun a s e ⟨q1, q2⟩ => by
    rw [q1, q2]
    cases a with
    | true => exact h1
    | false => exact h2
theorem n_ifP {ra rb : R σ} (ht : t env = .ok b e1) (h1 : Nx Z e1 E f ra) (h2 : Nx Z e1 E g rb) : Nx Z env E (dIfS t f g) (if b = true then ra else rb) := by
  show Sm Z _ ((t env).bind _) _
  rw [ht]
  cases b with
  | true => exact h1
  | false => exact h2
/-! loops -/
def R.fold {α : Type} (f : σ → α → R σ) : List α → σ → R σ
  | [], s => .ok s
  | a :: r, s => (f s a).bind fun s' => R.fold f r s'
theorem fold_sm {en : γ → D} {gt : D → Env → Option Env} {Eb : σ → γ → Env} {ff : σ → γ → R σ} (hg : ∀ s c, gt (en c) (E s) = some (Eb s c)) (hb : ∀ s c, Nx Z (Eb s c) E f (ff s c)) : ∀ (l : List γ) (s : σ), Sm Z (fun a fl e => fl = .next ∧ e = E a) (dForL gt f (l.map en) (E s)) (R.fold ff l s)
  | [], s => ⟨rfl, rfl⟩
  | a :: r, s => by
    rw [List.map_cons, R.fold]
    show Sm Z _ (match gt (en a) (E s) with
      | some e => (f e).bind fun fl e' => (match fl with
        | .next => dForL gt f (r.map en) e'
        | .cont => dForL gt f (r.map en) e'
        | .brk => .ok .next e'
        | .ret s => .ok (.ret s) e')
      | none => .bad) _
    rw [hg s a]
    refine Sm.bind (hb s a) fun s' fl e ⟨q1, q2⟩ => ?_
    rw [q1, q2]
    exact fold_sm hg hb r s'
theorem n_for {src : Env → Res (List D)} (en : γ → D) {gt : D → Env → Option Env} (Eb : σ → γ → Env) {ff : σ → γ → R σ} {rs : R (List γ)} (s0 : σ) (hs : W Z env e1 en src rs) (h0 : e1 = E s0) (hg : ∀ s c, gt (en c) (E s) = some (Eb s c)) (hb : ∀ s c, Nx Z (Eb s c) E f (ff s c)) :
    Nx Z env E (dFor src gt f) (rs.bind fun l => R.fold ff l s0) :=
  Sm.bind hs fun l ds e ⟨q1, q2⟩ => by
    rw [q1, q2, h0]
    exact fold_sm hg hb l s0
def R.loop (t : σ → R Bool) (f : σ → R σ) : Nat → σ → R σ
  | 0, _ => .bad
  | n + 1, s => (t s).bind fun b => if b = true then (f s).bind fun s' => R.loop t f n s' else .ok s
theorem n_while {tt : σ → R Bool} {ff : σ → R σ} (ht : ∀ s, Tx Z (E s) (E s) t (tt s)) (hb : ∀ s, Nx Z (E s) E f (ff s)) : ∀ (n : Nat) (s : σ), Nx Z (E s) E (dWhile t f n) (R.loop tt ff n s)
  | 0, s => Sm.bad
  | n + 1, s => by
    show Sm Z _ (dWhile t f (n + 1) (E s)) (R.loop tt ff (n + 1) s)
    rw [dWhile, R.loop]
    refine Sm.bind (ht s) fun b b' e ⟨q1, q2⟩ => ?_
    rw [q1, q2]
    cases b with
    | false => exact ⟨rfl, rfl⟩
    | true =>
      refine Sm.bind (hb s) fun s' fl e ⟨q1, q2⟩ => ?_
      rw [q1, q2]
      exact n_while ht hb n s'
theorem n_while0 {tt : σ → R Bool} {ff : σ → R σ} {n : Nat} (s : σ) (h0 : env = E s) (ht : ∀ s, Tx Z (E s) (E s) t (tt s)) (hb : ∀ s, Nx Z (E s) E f (ff s)) : Nx Z env E (dWhile t f n) (R.loop tt ff n s) := by
  subst h0
  exact n_while ht hb n s
end
/-! ### blocks that hand out -/
section
variable {mk : τ → S} {f g rest : DenS} {t : Env → Res Bool} {b : Bool} {r : R τ}
theorem l_seq {E1 : α → Env} {r : R α} {k : α → R τ} (h : Nx Z env E1 f r) (hk : ∀ a, Tl Z (E1 a) mk rest (k a)) : Tl Z env mk (dSeq f rest) (r.bind k) := by
  refine Sm.bind h fun a fl e ⟨q1, q2⟩ => ?_
  rw [q1, q2]
  exact hk a
theorem l_ret (Ef : τ → Env) (Eo : τ → Env) (h : X Z env Ef mk d r) (ho : ∀ a, out1 (Ef a) (mk a) = .ok (.ret (mk a)) (Eo a)) (hz : ∀ a, Z (Eo a)) : Tl Z env mk (dRet d) r := Sm.last h fun a s e ⟨q1, q2⟩ => by
  rw [q1, q2, ho a]
  exact ⟨rfl, hz a⟩
theorem l_retP {s : S} (x : τ) (h : d env = .ok s e1) (ho : out1 e1 s = .ok (.ret (mk x)) e2) (hz : Z e2) : Tl Z env mk (dRet d) (.ok x) := by
  show Sm Z _ ((d env).bind _) _
  rw [h]
  show Sm Z _ (out1 e1 s) _
  rw [ho]
  exact ⟨rfl, hz⟩
theorem l_retN (x : τ) (hm : mk x = .sh .non) (hz : Z env) : Tl Z env mk dRetN (.ok x) := by
  refine ⟨?_, hz⟩
  show Fl.ret (.sh .non) = Fl.ret (mk x)
  rw [hm]
theorem l_raise {x : Str} (hZ : Z env) : Tl Z env mk (dRaise x) (.exc x) := ⟨rfl, hZ⟩
theorem l_if {rt : R Bool} {ra rb : R τ} (ht : Tx Z env e1 t rt) (h1 : Tl Z e1 mk f ra) (h2 : Tl Z e1 mk g rb) : Tl Z env mk (dIfS t f g) (rt.bind fun b => if b = true then ra else rb) :=
  Sm.bind ht fun a s e ⟨q1, q2⟩ => by
    rw [q1, q2]
    cases a with
    | true => exact h1
    | false => exact h2
theorem l_ifP {ra rb : R τ} (ht : t env = .ok b e1) (h1 : Tl Z e1 mk f ra) (h2 : Tl Z e1 mk g rb) : Tl Z env mk (dIfS t f g) (if b = true then ra else rb) := by
  show Sm Z _ ((t env).bind _) _
  rw [ht]
  cases b with
  | true => exact h1
  | false => exact h2
theorem ret_skip {f : DenS} {ra : R τ} (h : Tl Z e1 mk f ra) : Tl Z e1 mk (dSeq f rest) ra := Sm.last h fun a fl e ⟨q1, q2⟩ => by
  rw [q1]
  exact ⟨rfl, q2⟩
theorem l_stop {rt : R Bool} {ra rb : R τ} (ht : Tx Z env e1 t rt) (h1 : Tl Z e1 mk f ra) (h2 : Tl Z e1 mk rest rb) : Tl Z env mk (dSeq (dIfS t f dSkip) rest) (rt.bind fun b => if b = true then ra else rb) := by
  show Sm Z _ (((t env).bind fun b e => if b = true then f e else dSkip e).bind _) _
  rw [Res.bind_assoc]
  refine Sm.bind ht fun b b' e ⟨q1, q2⟩ => ?_
  rw [q1, q2]
  cases b with
  | false => exact h2
  | true => exact ret_skip h1
theorem l_stopP {ra rb : R τ} (ht : t env = .ok b e1) (h1 : Tl Z e1 mk f ra) (h2 : Tl Z e1 mk rest rb) : Tl Z env mk (dSeq (dIfS t f dSkip) rest) (if b = true then ra else rb) := by
  show Sm Z _ (((t env).bind fun b e => if b = true then f e else dSkip e).bind _) _
  rw [ht]
  cases b with
  | false => exact h2
  | true => exact ret_skip h1
/-- raising only -/
theorem n_stop {σ : Type} {E : σ → Env} {rt : R Bool} {x : Str} {rb : R σ} (hZ : Z e1) (ht : Tx Z env e1 t rt) (h2 : Nx Z e1 E rest rb) : Nx Z env E (dSeq (dIfS t (dRaise x) dSkip) rest) (rt.bind fun b => if b = true then .exc x else rb) := by
  show Sm Z _ (((t env).bind fun b e => if b = true then dRaise x e else dSkip e).bind _) _
  rw [Res.bind_assoc]
  refine Sm.bind ht fun b b' e ⟨q1, q2⟩ => ?_
  rw [q1, q2]
  cases b with
  | false => exact h2
  | true => exact ⟨rfl, hZ⟩
theorem n_stopP {σ : Type} {E : σ → Env} {x : Str} {rb : R σ} (hZ : Z e1) (ht : t env = .ok b e1) (h2 : Nx Z e1 E rest rb) : Nx Z env E (dSeq (dIfS t (dRaise x) dSkip) rest) (if b = true then .exc x else rb) := by
  show Sm Z _ (((t env).bind fun b e => if b = true then dRaise x e else dSkip e).bind _) _
  rw [ht]
  cases b with
  | false => exact h2
  | true => exact ⟨rfl, hZ⟩
/-- none or something -/
@[reducible] def R.opt {α β : Type} (o : Option α) (q1 : β) (q2 : α → β) : β := match o with
  | none => q1
  | some a => q2 a
theorem o_cases {α : Type} {P : ρ → ε → Env → Prop} {o : Option α} {m : Option α → Res ε} {q1 : R ρ} {q2 : α → R ρ} (h1 : Sm Z P (m none) q1) (h2 : ∀ a, Sm Z P (m (some a)) (q2 a)) : Sm Z P (m o) (R.opt o q1 q2) := by
  cases o with
  | none => exact h1
  | some a => exact h2 a
/-- where the test is known -/
theorem l_stopT {ra : R τ} (ht : t env = .ok true e1) (h1 : Tl Z e1 mk f ra) : Tl Z env mk (dSeq (dIfS t f dSkip) rest) ra := by
  show Sm Z _ (((t env).bind fun b e => if b = true then f e else dSkip e).bind _) _
  rw [ht]
  exact ret_skip h1
theorem l_stopF {ra : R τ} (ht : t env = .ok false e1) (h1 : Tl Z e1 mk rest ra) : Tl Z env mk (dSeq (dIfS t f dSkip) rest) ra := by
  show Sm Z _ (((t env).bind fun b e => if b = true then f e else dSkip e).bind _) _
  rw [ht]
  exact h1
end
/-! ### blocks in loops -/
section
variable {E : σ → Env} {mk : τ → S} {f g rest : DenS} {t : Env → Res Bool} {b : Bool}
theorem b_seq {E1 : α → Env} {r : R α} {k : α → R (O σ τ)} (h : Nx Z env E1 f r) (hk : ∀ a, Bk Z (E1 a) E mk rest (k a)) : Bk Z env E mk (dSeq f rest) (r.bind k) := by
  refine Sm.bind h fun a fl e ⟨q1, q2⟩ => ?_
  rw [q1, q2]
  exact hk a
theorem b_nx {r : R σ} (h : Nx Z env E f r) : Bk Z env E mk f (r.bind fun s => .ok (.nx s)) := by
  have z := Sm.bind (P2 := OP Z E mk) (k' := fun a => .ok (.nx a)) h (k := fun fl e => .ok fl e) fun a fl e ⟨q1, q2⟩ => by
    rw [q1, q2]
    exact ⟨rfl, rfl⟩
  have e : ∀ m : Res Fl, (m.bind fun fl e => .ok fl e) = m := fun m => by
    induction m with
    | ok a e => rfl
    | exc x e => rfl
    | bad => rfl
    | ask n k ih =>
      show Res.ask n (fun j => (k j).bind fun fl e => .ok fl e) = _
      congr 1
      exact funext ih
  rw [e] at z
  exact z
theorem b_skip (s : σ) (h : env = E s) : Bk Z env E mk dSkip (.ok (.nx s)) := ⟨rfl, h⟩
theorem b_if {rt : R Bool} {ra rb : R (O σ τ)} (ht : Tx Z env e1 t rt) (h1 : Bk Z e1 E mk f ra) (h2 : Bk Z e1 E mk g rb) : Bk Z env E mk (dIfS t f g) (rt.bind fun b => if b = true then ra else rb) :=
  Sm.bind ht fun a s e ⟨q1, q2⟩ => by
    rw [q1, q2]
    cases a with
    | true => exact h1
    | false => exact h2
theorem b_ifP {ra rb : R (O σ τ)} (ht : t env = .ok b e1) (h1 : Bk Z e1 E mk f ra) (h2 : Bk Z e1 E mk g rb) : Bk Z env E mk (dIfS t f g) (if b = true then ra else rb) := by
  show Sm Z _ ((t env).bind _) _
  rw [ht]
  cases b with
  | true => exact h1
  | false => exact h2
/-- jumps -/
def R.jmp (r : R (J σ τ)) : R (O σ τ) := r.bind fun o => match o with
  | .br s => .ok (.br s)
  | .cn s => .ok (.cn s)
  | .rt a => .ok (.rt a)
theorem j_l {r : R τ} (h : Tl Z env mk f r) : Jp Z env E mk f (r.bind fun a => .ok (.rt a)) := by
  have z := Sm.bind (P2 := JP Z E mk) (k' := fun a => .ok (.rt a)) h (k := fun fl e => .ok fl e) fun a fl e ⟨q1, q2⟩ => by
    rw [q1]
    exact ⟨rfl, q2⟩
  have e : ∀ m : Res Fl, (m.bind fun fl e => .ok fl e) = m := fun m => by
    induction m with
    | ok a e => rfl
    | exc x e => rfl
    | bad => rfl
    | ask n k ih =>
      show Res.ask n (fun j => (k j).bind fun fl e => .ok fl e) = _
      congr 1
      exact funext ih
  rw [e] at z
  exact z
theorem jmp_sm {f : DenS} {r : R (J σ τ)} (h : Jp Z e1 E mk f r) : Sm Z (OP Z E mk) (dSeq f rest e1) r.jmp := by
  refine Sm.bind h fun o fl e q => ?_
  cases o with
  | br s =>
    obtain ⟨q1, q2⟩ := q
    rw [q1]
    exact ⟨rfl, q2⟩
  | cn s =>
    obtain ⟨q1, q2⟩ := q
    rw [q1]
    exact ⟨rfl, q2⟩
  | rt a =>
    obtain ⟨q1, q2⟩ := q
    rw [q1]
    exact ⟨rfl, q2⟩
theorem b_jmp {r : R (J σ τ)} (h : Jp Z env E mk f r) : Bk Z env E mk f r.jmp := by
  have z : Sm Z (OP Z E mk) ((f env).bind fun fl e => .ok fl e) r.jmp := by
    refine Sm.bind h fun o fl e q => ?_
    cases o with
    | br s => exact ⟨q⟩
    | cn s => exact ⟨q⟩
    | rt a => exact ⟨q⟩
  have e : ∀ m : Res Fl, (m.bind fun fl e => .ok fl e) = m := fun m => by
    induction m with
    | ok a e => rfl
    | exc x e => rfl
    | bad => rfl
    | ask n k ih =>
      show Res.ask n (fun j => (k j).bind fun fl e => .ok fl e) = _
      congr 1
      exact funext ih
  rw [e] at z
  exact z
theorem b_stop {rt : R Bool} {ra : R (J σ τ)} {rb : R (O σ τ)} (ht : Tx Z env e1 t rt) (h1 : Jp Z e1 E mk f ra) (h2 : Bk Z e1 E mk rest rb) : Bk Z env E mk (dSeq (dIfS t f dSkip) rest) (rt.bind fun b => if b = true then ra.jmp else rb) := by
  show Sm Z _ (((t env).bind fun b e => if b = true then f e else dSkip e).bind _) _
  rw [Res.bind_assoc]
  refine Sm.bind ht fun b b' e ⟨q1, q2⟩ => ?_
  rw [q1, q2]
  cases b with
  | false => exact h2
  | true => exact jmp_sm h1
theorem b_stopP {ra : R (J σ τ)} {rb : R (O σ τ)} (ht : t env = .ok b e1) (h1 : Jp Z e1 E mk f ra) (h2 : Bk Z e1 E mk rest rb) : Bk Z env E mk (dSeq (dIfS t f dSkip) rest) (if b = true then ra.jmp else rb) := by
  show Sm Z _ (((t env).bind fun b e => if b = true then f e else dSkip e).bind _) _
  rw [ht]
  cases b with
  | false => exact h2
  | true => exact jmp_sm h1
theorem j_brk (s : σ) (h : env = E s) (hf : f env = .ok .brk env) : Jp Z env E mk f (.ok (.br s)) := by
  show Sm Z _ (f env) _
  rw [hf]
  exact ⟨rfl, h⟩
theorem j_cn (s : σ) (h : env = E s) (hf : f env = .ok .cont env) : Jp Z env E mk f (.ok (.cn s)) := by
  show Sm Z _ (f env) _
  rw [hf]
  exact ⟨rfl, h⟩
theorem j_seq {E1 : α → Env} {r : R α} {k : α → R (J σ τ)} (h : Nx Z env E1 f r) (hk : ∀ a, Jp Z (E1 a) E mk rest (k a)) : Jp Z env E mk (dSeq f rest) (r.bind k) := by
  refine Sm.bind h fun a fl e ⟨q1, q2⟩ => ?_
  rw [q1, q2]
  exact hk a
/-- a loop that may hand out, then the rest -/
def R.onT {α : Type} (r : R (O α τ)) (k : α → R τ) : R τ := r.bind fun o => match o with
  | .nx s => k s
  | .rt a => .ok a
  | _ => .bad
theorem l_on {Ea : α → Env} {ra : R (O α τ)} {k : α → R τ} (h : Bk Z env Ea mk f ra) (hk : ∀ a, Tl Z (Ea a) mk rest (k a)) : Tl Z env mk (dSeq f rest) (ra.onT k) := by
  refine Sm.bind h fun o fl e q => ?_
  cases o with
  | nx s =>
    obtain ⟨q1, q2⟩ := q
    rw [q1, q2]
    exact hk s
  | br s => exact Sm.bad
  | cn s => exact Sm.bad
  | rt a =>
    obtain ⟨q1, q2⟩ := q
    rw [q1]
    exact ⟨rfl, q2⟩
def R.onB {α : Type} (r : R (O α τ)) (k : α → R (O σ τ)) : R (O σ τ) := r.bind fun o => match o with
  | .nx s => k s
  | .rt a => .ok (.rt a)
  | _ => .bad
theorem b_on {Ea : α → Env} {ra : R (O α τ)} {k : α → R (O σ τ)} (h : Bk Z env Ea mk f ra) (hk : ∀ a, Bk Z (Ea a) E mk rest (k a)) : Bk Z env E mk (dSeq f rest) (ra.onB k) := by
  refine Sm.bind h fun o fl e q => ?_
  cases o with
  | nx s =>
    obtain ⟨q1, q2⟩ := q
    rw [q1, q2]
    exact hk s
  | br s => exact Sm.bad
  | cn s => exact Sm.bad
  | rt a =>
    obtain ⟨q1, q2⟩ := q
    rw [q1]
    exact ⟨rfl, q2⟩
theorem b_onL {Ea : α → Env} {ra : R (O α τ)} (u : α → σ) (h : Bk Z env Ea mk f ra) (hu : ∀ a, Ea a = E (u a)) : Bk Z env E mk f (ra.onB fun a => .ok (.nx (u a))) := by
  have z : Sm Z (OP Z E mk) ((f env).bind fun fl e => .ok fl e) (ra.onB fun a => .ok (.nx (u a))) := by
    refine Sm.bind h fun o fl e q => ?_
    cases o with
    | nx s =>
      obtain ⟨q1, q2⟩ := q
      rw [q1, q2]
      exact ⟨rfl, hu s⟩
    | br s => exact Sm.bad
    | cn s => exact Sm.bad
    | rt a =>
      obtain ⟨q1, q2⟩ := q
      rw [q1]
      exact ⟨rfl, q2⟩
  have e : ∀ m : Res Fl, (m.bind fun fl e => .ok fl e) = m := fun m => by
    induction m with
    | ok a e => rfl
    | exc x e => rfl
    | bad => rfl
    | ask n k ih =>
      show Res.ask n (fun j => (k j).bind fun fl e => .ok fl e) = _
      congr 1
      exact funext ih
  rw [e] at z
  exact z
theorem b_for {src : Env → Res (List D)} (en : γ → D) {gt : D → Env → Option Env} (Eb : σ → γ → Env) {ff : σ → γ → R (O σ τ)} {rs : R (List γ)} (s0 : σ) (hs : W Z env e1 en src rs) (h0 : e1 = E s0) (hg : ∀ s c, gt (en c) (E s) = some (Eb s c)) (hb : ∀ s c, Bk Z (Eb s c) E mk f (ff s c)) :
    Bk Z env E mk (dFor src gt f) (rs.bind fun l => R.forL ff l s0) :=
  Sm.bind hs fun l ds e ⟨q1, q2⟩ => by
    rw [q1, q2, h0]
    exact for_sm hg hb l s0
end
/-! ### defs -/
section
variable {mk : τ → S} {f : DenS} {io : Bool} {m : Nat} {as : List D}
theorem f_tl {r : R τ} (env : Env) (he : ioE io ++ as.map S.sh ++ List.replicate m S.no = env) (hm : ∀ a, (∃ x, mk a = .sh x) ∨ ∃ x, mk a = .ow x) (h : Tl (fun e => tokAt io e = true) env mk f r) : Fs mk (dFun io m f as) r := by
  show Sm _ _ (ends io (f (ioE io ++ as.map S.sh ++ List.replicate m S.no))) _
  rw [he]
  refine ends_sm (fun a fl e ⟨q1, q2⟩ => ?_) h
  rw [q1]
  refine ⟨[], ?_⟩
  rcases hm a with ⟨x, hx⟩ | ⟨x, hx⟩ <;> rw [hx] <;> exact if_pos q2
theorem f_nx {r : R Unit} {E : Unit → Env} (env : Env) (he : ioE io ++ as.map S.sh ++ List.replicate m S.no = env) (h : Nx (fun e => tokAt io e = true) env E f r) (ht : ∀ a, tokAt io (E a) = true) : Fs (fun _ : Unit => .sh .non) (dFun io m f as) r := by
  show Sm _ _ (ends io (f (ioE io ++ as.map S.sh ++ List.replicate m S.no))) _
  rw [he]
  refine ends_sm (fun a fl e ⟨q1, q2⟩ => ?_) h
  rw [q1, q2]
  exact ⟨[], if_pos (ht a)⟩
end
end
end T

/-! TY: operations over typed things. -/
namespace T
open PySem PySem.Spec PyProof.Rows L2
section
variable {α β γ δ ε σ τ κ ν : Type} {Z : Env → Prop} {env e1 e2 e3 : Env} {d d2 d3 : Den} {e : α → D} {e' : β → D}
/-- in -/
def memB [DecidableEq α] (a : α) (l : List α) : Bool := l.any fun b => decide (b = a)
/-! ### plain facts -/
theorem o_lenL (e : α → D) (l : List α) : opLen0 [eL e l] = some (.sh (.int (l.length : Int))) := by
  show some (S.sh (.int ((l.map e).length : Int))) = _
  rw [List.length_map]
theorem o_lenT (e : α → D) (l : List α) : opLen0 [eT e l] = some (.sh (.int (l.length : Int))) := o_lenL e l
theorem o_lenF (l : List Int) : opLen0 [.fz l] = some (.sh (.int (l.length : Int))) := rfl
theorem o_ixL (e : α → D) (l : List α) (i : Int) : opIx (eL e l) (.int i) = (atI l i).map fun a => S.sh (e a) := by
  show (atI (l.map e) i).map S.sh = _
  rw [atI_map, Option.map_map]
  rfl
theorem o_ixT (e : α → D) (l : List α) (i : Int) : opIx (eT e l) (.int i) = (atI l i).map fun a => S.sh (e a) := o_ixL e l i
theorem o_slL (e : α → D) (l : List α) (lo hi : Option Int) : opSl lo hi (eL e l) = some (.ow (eL e (cutG l lo hi))) := by
  show some (S.ow (.lst (sCut (l.map e) lo hi))) = _
  rw [sCut_map]
theorem o_slT (e : α → D) (l : List α) (lo hi : Option Int) : opSl lo hi (eT e l) = some (.sh (eT e (cutG l lo hi))) := by
  show some (S.sh (.tup (sCut (l.map e) lo hi))) = _
  rw [sCut_map]
theorem o_addT (e : α → D) (l m : List α) (h : l.length + m.length ≤ 16777216) : opAdd (eT e l) (eT e m) = some (.sh (eT e (l ++ m))) := by
  show (if (l.map e).length + (m.map e).length ≤ 16777216 then some (S.sh (.tup (l.map e ++ m.map e))) else none) = _
  rw [List.length_map, List.length_map, if_pos h, ← List.map_append]
theorem o_addL (e : α → D) (l m : List α) (h : l.length + m.length ≤ 16777216) : opAdd (eL e l) (eL e m) = some (.ow (eL e (l ++ m))) := by
  show (if (l.map e).length + (m.map e).length ≤ 16777216 then some (S.ow (.lst (l.map e ++ m.map e))) else none) = _
  rw [List.length_map, List.length_map, if_pos h, ← List.map_append]
def mulOk (i j : Int) : Prop := (-(2 ^ 64) < i ∧ i < 2 ^ 64) ∨ (-(2 ^ 64) < j ∧ j < 2 ^ 64)
instance (i j : Int) : Decidable (mulOk i j) := inferInstanceAs (Decidable (_ ∨ _))
theorem o_mul (i j : Int) (h : mulOk i j) : opMul (.int i) (.int j) = some (.sh (.int (i * j))) := if_pos h
theorem o_mod (i j : Int) (h : 0 < j) : opMod (.int i) (.int j) = some (.sh (.int (i % j))) := if_pos h
theorem o_fdiv (i j : Int) (h : 0 < j ∧ j < 1073741824) : opFdiv (.int i) (.int j) = some (.sh (.int (i / j))) := if_pos h
theorem bls_all (l : List Bool) : opAll [eL D.bl l] = some (.sh (.bl (l.all id))) := by
  show (dBls (l.map D.bl)).map _ = _
  rw [dBls_map]
  rfl
theorem bls_any (l : List Bool) : opAny [eL D.bl l] = some (.sh (.bl (l.any id))) := by
  show (dBls (l.map D.bl)).map _ = _
  rw [dBls_map]
  rfl
theorem o_sum (l : List Int) : opSum1 [eL D.int l] = some (.sh (.int l.sum)) := by
  show (dInts (l.map D.int)).map _ = _
  rw [dInts_map]
  rfl
def maxO : List Int → Option Int
  | n :: ns => some (maxI n ns)
  | [] => none
def minO : List Int → Option Int
  | n :: ns => some (minI n ns)
  | [] => none
theorem o_max (l : List Int) : opMax [eL D.int l] = (maxO l).map fun a => S.sh (.int a) := by
  show (match dInts (l.map D.int) with
    | some (n :: ns) => some (S.sh (.int (maxI n ns)))
    | _ => none) = _
  rw [dInts_map]
  cases l <;> rfl
theorem o_min (l : List Int) : opMin [eL D.int l] = (minO l).map fun a => S.sh (.int a) := by
  show (match dInts (l.map D.int) with
    | some (n :: ns) => some (S.sh (.int (minI n ns)))
    | _ => none) = _
  rw [dInts_map]
  cases l <;> rfl
theorem o_sortL (l : List Int) (h : l.length ≤ 1000) : opSorted [eL D.int l] = some (.ow (eL D.int (isortI l))) := opSorted_lst l h
theorem o_sortT (l : List Int) (h : l.length ≤ 1000) : opSorted [eT D.int l] = some (.ow (eL D.int (isortI l))) := opSorted_tup l h
theorem o_truL (e : α → D) (l : List α) : truD (eL e l) = some (!l.isEmpty) := by cases l <;> rfl
theorem o_truT (e : α → D) (l : List α) : truD (eT e l) = some (!l.isEmpty) := by cases l <;> rfl
theorem o_isN (e : α → D) (h : ∀ n a, opIs n (e a) .non = some (.sh (.bl n))) (n : Bool) (o : Option α) : opIs n (eO e o) .non = some (.sh (.bl (if n = true then o.isSome else o.isNone))) := by
  cases o with
  | none => cases n <;> rfl
  | some a => rw [show opIs n (eO e (some a)) .non = _ from h n a]; cases n <;> rfl
section
variable [DecidableEq α] {k : Nat}
theorem memD (E : Enc k e) (a : α) (l : List α) : inD (e a) (l.map e) = memB a l := by
  unfold inD memB
  rw [List.any_map]
  congr 1
  funext b
  exact E.eq b a
theorem o_inL (E : Enc k e) (hk : k ≤ 64) (a : α) (l : List α) : T.opIn false (e a) (eL e l) = some (.sh (.bl (memB a l))) := by
  have h : T.opIn false (e a) (.lst (l.map e)) = if SeqAt.shaped (e a).py = true ∧ PyData.canLayAll0 (pys (l.map e)) = true then some (.sh (.bl (inD (e a) (l.map e)))) else none := rfl
  rw [h, if_pos ⟨E.shaped hk a, (E.all l).1⟩, memD E]
theorem o_inT (E : Enc k e) (hk : k ≤ 64) (a : α) (l : List α) : T.opIn false (e a) (eT e l) = some (.sh (.bl (memB a l))) := o_inL E hk a l
theorem o_ninL (E : Enc k e) (hk : k ≤ 64) (a : α) (l : List α) : T.opIn true (e a) (eL e l) = some (.sh (.bl (!memB a l))) := by
  have h : T.opIn true (e a) (.lst (l.map e)) = if SeqAt.shaped (e a).py = true ∧ PyData.canLayAll0 (pys (l.map e)) = true then some (.sh (.bl (!inD (e a) (l.map e)))) else none := rfl
  rw [h, if_pos ⟨E.shaped hk a, (E.all l).1⟩, memD E]
theorem o_ninT (E : Enc k e) (hk : k ≤ 64) (a : α) (l : List α) : T.opIn true (e a) (eT e l) = some (.sh (.bl (!memB a l))) := o_ninL E hk a l
theorem Enc.up {k' : Nat} (E : Enc k e) (h : k ≤ k') : Enc k' e := ⟨E.lay, fun a => Nat.le_trans (E.dep a) h, E.eq⟩
end
def enumI (k : Int) : List α → List (Int × α)
  | [] => []
  | a :: r => (k, a) :: enumI (k + 1) r
theorem enL_map (e : α → D) : ∀ (k : Int) (l : List α), enL k (l.map e) = (enumI k l).map (eP D.int e)
  | _, [] => rfl
  | k, a :: r => by rw [List.map_cons, enL, enumI, List.map_cons, enL_map e (k + 1) r]
theorem zpL_map (e : α → D) (e' : β → D) : ∀ (l : List α) (m : List β), zpL (l.map e) (m.map e') = (l.zip m).map (eP e e')
  | [], m => by cases m <;> rfl
  | _ :: _, [] => rfl
  | a :: l, b :: m => by rw [List.map_cons, List.map_cons, zpL, List.zip_cons_cons, List.map_cons, zpL_map e e' l m]
theorem lsts_map (e : α → D) : ∀ l : List (List α), lsts (l.map (eL e)) = some (l.map (List.map e))
  | [] => rfl
  | a :: r => by
    rw [List.map_cons, lsts, lsts_map e r]
    rfl
theorem flat_map (f : α → β) : ∀ l : List (List α), (l.map (List.map f)).flatten = l.flatten.map f
  | [] => rfl
  | a :: r => by rw [List.map_cons, List.flatten_cons, List.flatten_cons, List.map_append, flat_map f r]
/-! ### what is walked -/
theorem w_p {en : γ → D} {src : Env → Res (List D)} (l : List γ) (h : src env = .ok (l.map en) e1) : W Z env e1 en src (.ok l) := by
  show Sm Z _ (src env) _
  rw [h]
  exact ⟨rfl, rfl⟩
def srcE : Option (D × Env) → Res (List D)
  | some (.lst ds, e') => .ok ds e'
  | some (.tup ds, e') => .ok ds e'
  | some (.dic ds, e') => .ok (ds.map (·.1)) e'
  | _ => .bad
theorem src_p {s : S} {ds : List D} (h : d env = .ok s e1) (hx : srcE (esc e1 s) = .ok ds e2) : dSrc d env = .ok ds e2 := by
  unfold dSrc
  rw [h]
  exact hx
theorem w_src {en : γ → D} (mk : List γ → S) (Ef : List γ → Env) {r : R (List γ)} (h : X Z env Ef mk d r) (hx : ∀ a, srcE (esc (Ef a) (mk a)) = .ok (a.map en) e2) : W Z env e2 en (dSrc d) r := Sm.last h fun a s e ⟨q1, q2⟩ => by
  rw [q1, q2]
  show Sm Z _ (srcE (esc (Ef a) (mk a))) _
  rw [hx a]
  exact ⟨rfl, rfl⟩
abbrev XW (en : γ → D) (e2 : Env) : List γ → List D → Env → Prop := fun l ds e => ds = l.map en ∧ e = e2
theorem u_rng {rg : Option (List D) → Option (List D)} {fs : List Den} {r : R (List Int)} (h : Sm Z (XW D.int e1) ((dargs fs env).bind fun ss e => Res.get (rg (rds e ss)) e) r) : W Z env e1 D.int (dRng rg fs) r := h
theorem g_rng1 {ss : List S} {b : Int} (h : rds e1 ss = some [.int b]) : Sm Z (XW D.int e1) (Res.get (rng1 (rds e1 ss)) e1) (R.rng 0 b) := by
  rw [h]
  unfold R.rng
  split
  · rename_i hr
    show Sm Z _ (Res.get (if -(2 ^ 62) ≤ b ∧ b < 2 ^ 62 then some (rngD 0 b) else none) e1) _
    rw [if_pos ⟨hr.2.2.1, hr.2.2.2⟩]
    exact ⟨rngD_map .., rfl⟩
  · exact Sm.bad
theorem g_rng2 {ss : List S} {a b : Int} (h : rds e1 ss = some [.int a, .int b]) : Sm Z (XW D.int e1) (Res.get (rng2 (rds e1 ss)) e1) (R.rng a b) := by
  rw [h]
  unfold R.rng
  split
  · rename_i hr
    show Sm Z _ (Res.get (if -(2 ^ 62) ≤ a ∧ a < 2 ^ 62 ∧ -(2 ^ 62) ≤ b ∧ b < 2 ^ 62 then some (rngD a b) else none) e1) _
    rw [if_pos (show -(2 ^ 62) ≤ a ∧ a < 2 ^ 62 ∧ -(2 ^ 62) ≤ b ∧ b < 2 ^ 62 from hr)]
    exact ⟨rngD_map .., rfl⟩
  · exact Sm.bad
theorem u_en {en : γ → D} {fs : List Den} {r : R (List γ)} (h : Sm Z (XW en e1) ((dargs fs env).bind fun ss e => enE (escs e ss)) r) : W Z env e1 en (dEn fs) r := h
theorem u_zp {en : γ → D} {fs : List Den} {r : R (List γ)} (h : Sm Z (XW en e1) ((dargs fs env).bind fun ss e => zpE (escs e ss)) r) : W Z env e1 en (dZp fs) r := h
theorem g_en0 {ss : List S} {x : D} (l : List α) (h : escs e1 ss = some ([x], e2)) (hx : seqD x = some (l.map e)) : Sm Z (XW (eP D.int e) e2) (enE (escs e1 ss)) (.ok (enumI 0 l)) := by
  rw [h]
  show Sm Z _ (match seqD x with
    | some ds => Res.ok (enL 0 ds) e2
    | none => .bad) _
  rw [hx]
  exact ⟨enL_map .., rfl⟩
theorem g_en1 {ss : List S} {x : D} (k : Int) (l : List α) (hk : -(2 ^ 62) ≤ k ∧ k < 2 ^ 62) (h : escs e1 ss = some ([x, .int k], e2)) (hx : seqD x = some (l.map e)) : Sm Z (XW (eP D.int e) e2) (enE (escs e1 ss)) (.ok (enumI k l)) := by
  rw [h]
  show Sm Z _ (match seqD x with
    | some ds => if -(2 ^ 62) ≤ k ∧ k < 2 ^ 62 then Res.ok (enL k ds) e2 else .bad
    | none => .bad) _
  rw [hx]
  show Sm Z _ (if -(2 ^ 62) ≤ k ∧ k < 2 ^ 62 then Res.ok (enL k (l.map e)) e2 else .bad) _
  rw [if_pos hk]
  exact ⟨enL_map .., rfl⟩
theorem g_zp {ss : List S} {x y : D} (l : List α) (m : List β) (h : escs e1 ss = some ([x, y], e2)) (hx : seqD x = some (l.map e)) (hy : seqD y = some (m.map e')) : Sm Z (XW (eP e e') e2) (zpE (escs e1 ss)) (.ok (l.zip m)) := by
  rw [h]
  show Sm Z _ (match seqD x, seqD y with
    | some ds, some es => Res.ok (zpL ds es) e2
    | _, _ => .bad) _
  rw [hx, hy]
  exact ⟨zpL_map .., rfl⟩
/-- own or shared -/
def wS (b : Bool) (d : D) : S := match b with
  | true => .ow d
  | false => .sh d
theorem w_srcW {en : γ → D} (Ef : Bool × List γ → Env) {r : R (Bool × List γ)} (h : X Z env Ef (fun a => wS a.1 (eL en a.2)) d r) (he : ∀ a, Ef a = e2) : W Z env e2 en (dSrc d) (r.bind fun a => .ok a.2) := Sm.bind h fun a s e ⟨q1, q2⟩ => by
  rw [q1, q2, he a]
  obtain ⟨b, l⟩ := a
  cases b with
  | true => exact ⟨rfl, rfl⟩
  | false => exact ⟨rfl, rfl⟩
theorem wS_out (a : Bool) (d : D) : (∃ x, wS a d = .sh x) ∨ ∃ x, wS a d = .ow x := by
  cases a with
  | true => exact .inr ⟨_, rfl⟩
  | false => exact .inl ⟨_, rfl⟩
/-! ### operations with an end of their own -/
section
variable {ρ : Type} {mk : ρ → S} {Ef : ρ → Env}
def R.flat (l : List (List α)) : R (List α) := if l.flatten.length ≤ 16777216 then .ok l.flatten else .bad
theorem z_sum2 {ss : List S} {Ef : List α → Env} (l : List (List α)) (h : escs e1 ss = some ([eL (eL e) l, .lst []], e2)) (he : ∀ a, e2 = Ef a) : Sm Z (XP2 (fun l : List α => .sh (eL e l)) Ef) (sum2E (escs e1 ss)) (R.flat l) := by
  rw [h]
  show Sm Z _ (match lsts (l.map (eL e)) with
    | some dss => if dss.flatten.length ≤ 16777216 then Res.ok (S.sh (.lst dss.flatten)) e2 else .bad
    | none => .bad) _
  rw [lsts_map]
  show Sm Z _ (if (l.map (List.map e)).flatten.length ≤ 16777216 then Res.ok (S.sh (.lst (l.map (List.map e)).flatten)) e2 else .bad) _
  rw [flat_map, List.length_map]
  unfold R.flat
  by_cases hl : l.flatten.length ≤ 16777216
  · rw [if_pos hl, if_pos hl]; exact ⟨rfl, he _⟩
  · rw [if_neg hl, if_neg hl]; exact Sm.bad
theorem z_lz {ss : List S} {Ef : List (α × β) → Env} (l : List α) (m : List β) (h : escs e1 ss = some ([eL e l, eL e' m], e2)) (he : ∀ a, e2 = Ef a) : Sm Z (XP2 (fun l : List (α × β) => .ow (eL (eP e e') l)) Ef) (lzE (escs e1 ss)) (.ok (l.zip m)) := by
  rw [h]
  refine ⟨?_, he _⟩
  show S.ow (.lst (zpL (l.map e) (m.map e'))) = _
  rw [zpL_map]
def R.rgl (a b : Int) : R (List Int) := if RgOk a b then .ok (rngI a b) else .bad
theorem z_rg2 {c : List D → S} {s t : S} {mk : List Int → S} {Ef : List Int → Env} {a b : Int} (h1 : rd e1 s = some (.int a)) (h2 : rd e1 t = some (.int b)) (hc : ∀ l, c (l.map D.int) = mk l) (he : ∀ l, e1 = Ef l) : Sm Z (XP2 mk Ef) (rg2E c (rd e1 s) (rd e1 t) e1) (R.rgl a b) := by
  rw [h1, h2]
  show Sm Z _ (if RgOk a b then Res.ok (c (rngD a b)) e1 else .bad) _
  unfold R.rgl
  by_cases h : RgOk a b
  · rw [if_pos h, if_pos h, rngD_map, hc]; exact ⟨rfl, he _⟩
  · rw [if_neg h, if_neg h]; exact Sm.bad
theorem z_rg1 {c : List D → S} {s : S} {mk : List Int → S} {Ef : List Int → Env} {b : Int} (h1 : rd e1 s = some (.int b)) (hc : ∀ l, c (l.map D.int) = mk l) (he : ∀ l, e1 = Ef l) : Sm Z (XP2 mk Ef) (rg1E c (rd e1 s) e1) (R.rgl 0 b) := by
  rw [h1]
  show Sm Z _ (if RgOk 0 b then Res.ok (c (rngD 0 b)) e1 else .bad) _
  unfold R.rgl
  by_cases h : RgOk 0 b
  · rw [if_pos h, if_pos h, rngD_map, hc]; exact ⟨rfl, he _⟩
  · rw [if_neg h, if_neg h]; exact Sm.bad
/-! with a test -/
def R.mul (i j : Int) : R Int := if mulOk i j then .ok (i * j) else .bad
def R.mod (i j : Int) : R Int := if 0 < j then .ok (i % j) else .bad
def R.fdiv (i j : Int) : R Int := if 0 < j ∧ j < 1073741824 then .ok (i / j) else .bad
def R.sorted (l : List Int) : R (List Int) := if l.length ≤ 1000 then .ok (isortI l) else .bad
def R.app (l m : List α) : R (List α) := if l.length + m.length ≤ 16777216 then .ok (l ++ m) else .bad
theorem z_mul {Ef : Int → Env} (i j : Int) (he : ∀ a, e1 = Ef a) : Sm Z (XP2 (fun a => .sh (.int a)) Ef) (Res.get (opMul (.int i) (.int j)) e1) (R.mul i j) := z_if _ (o_mul i j) (he _)
theorem z_mod {Ef : Int → Env} (i j : Int) (he : ∀ a, e1 = Ef a) : Sm Z (XP2 (fun a => .sh (.int a)) Ef) (Res.get (opMod (.int i) (.int j)) e1) (R.mod i j) := z_if _ (o_mod i j) (he _)
theorem z_fdiv {Ef : Int → Env} (i j : Int) (he : ∀ a, e1 = Ef a) : Sm Z (XP2 (fun a => .sh (.int a)) Ef) (Res.get (opFdiv (.int i) (.int j)) e1) (R.fdiv i j) := z_if _ (o_fdiv i j) (he _)
theorem z_appT {Ef : List α → Env} (e : α → D) (l m : List α) (he : ∀ a, e1 = Ef a) : Sm Z (XP2 (fun l : List α => .sh (eT e l)) Ef) (Res.get (opAdd (eT e l) (eT e m)) e1) (R.app l m) := z_if _ (o_addT e l m) (he _)
theorem z_appL {Ef : List α → Env} (e : α → D) (l m : List α) (he : ∀ a, e1 = Ef a) : Sm Z (XP2 (fun l : List α => .ow (eL e l)) Ef) (Res.get (opAdd (eL e l) (eL e m)) e1) (R.app l m) := z_if _ (o_addL e l m) (he _)
theorem z_sortL {Ef : List Int → Env} (l : List Int) (he : ∀ a, e1 = Ef a) : Sm Z (XP2 (fun l : List Int => .ow (eL D.int l)) Ef) (Res.get (opSorted [eL D.int l]) e1) (R.sorted l) := z_if _ (o_sortL l) (he _)
theorem z_sortT {Ef : List Int → Env} (l : List Int) (he : ∀ a, e1 = Ef a) : Sm Z (XP2 (fun l : List Int => .ow (eL D.int l)) Ef) (Res.get (opSorted [eT D.int l]) e1) (R.sorted l) := z_if _ (o_sortT l) (he _)
/-! lists that are written -/
def R.push (l : List α) (a : α) : R (List α) := if l.length < 16777216 then .ok (l ++ [a]) else .bad
theorem n_append {i : Nat} {ss : List S} {E : List α → Env} (l : List α) (a : α) (h : escs e1 ss = some ([e a], e2)) (hl : e2[i]? = some (.ow (eL e l))) (hE : ∀ l', e2.set i (.ow (eL e l')) = E l') : Sm Z (fun a (fl : Fl) e => fl = Fl.next ∧ e = E a) ((lmEnd i mAppend (escs e1 ss)).bind fun _ e => Res.ok Fl.next e) (R.push l a) := by
  rw [h]
  show Sm Z _ ((match (e2[i]? : Option S) with
      | some (.ow (.lst xs)) => (match mAppend xs [e a] with
        | some (xs', d) => Res.ok (S.sh d) (e2.set i (.ow (.lst xs')))
        | none => .bad)
      | _ => .bad).bind _) _
  rw [hl]
  show Sm Z _ ((match (if (l.map e).length < 16777216 then some (l.map e ++ [e a], D.non) else none) with
        | some (xs', d) => Res.ok (S.sh d) (e2.set i (.ow (.lst xs')))
        | none => .bad).bind _) _
  rw [List.length_map]
  unfold R.push
  by_cases hh : l.length < 16777216
  · rw [if_pos hh, if_pos hh]
    refine ⟨rfl, ?_⟩
    rw [← hE, eL, List.map_append]
    rfl
  · rw [if_neg hh, if_neg hh]; exact Sm.bad
theorem n_appendF {i : Nat} {ss : List S} {E : σ → Env} (f : List α → σ) (l : List α) (a : α) (h : escs e1 ss = some ([e a], e2)) (hl : e2[i]? = some (.ow (eL e l))) (hE : ∀ l', e2.set i (.ow (eL e l')) = E (f l')) : Sm Z (fun a (fl : Fl) e => fl = Fl.next ∧ e = E a) ((lmEnd i mAppend (escs e1 ss)).bind fun _ e => Res.ok Fl.next e) ((R.push l a).bind fun l' => .ok (f l')) := by
  have z := Sm.bind (P2 := fun a fl e => fl = Fl.next ∧ e = E a) (k' := fun l' => .ok (f l')) (n_append (Z := Z) (E := fun l' => E (f l')) l a h hl hE) (k := fun fl e => .ok fl e) fun a fl e ⟨q1, q2⟩ => ⟨q1, q2⟩
  have w : ∀ m : Res Fl, (m.bind fun fl e => .ok fl e) = m := fun m => by
    induction m with
    | ok a e => rfl
    | exc x e => rfl
    | bad => rfl
    | ask n k ih =>
      show Res.ask n (fun j => (k j).bind fun fl e => .ok fl e) = _
      congr 1
      exact funext ih
  rw [w] at z
  exact z
theorem n_extend {i : Nat} {ss : List S} {E : List α → Env} (l m : List α) (h : escs e1 ss = some ([eL e m], e2)) (hl : e2[i]? = some (.ow (eL e l))) (hE : ∀ l', e2.set i (.ow (eL e l')) = E l') : Sm Z (fun a (fl : Fl) e => fl = Fl.next ∧ e = E a) ((lmEnd i mExtend (escs e1 ss)).bind fun _ e => Res.ok Fl.next e) (R.app l m) := by
  rw [h]
  show Sm Z _ ((match (e2[i]? : Option S) with
      | some (.ow (.lst xs)) => (match mExtend xs [eL e m] with
        | some (xs', d) => Res.ok (S.sh d) (e2.set i (.ow (.lst xs')))
        | none => .bad)
      | _ => .bad).bind _) _
  rw [hl]
  show Sm Z _ ((match (if (l.map e).length + (m.map e).length ≤ 16777216 then some (l.map e ++ m.map e, D.non) else none) with
        | some (xs', d) => Res.ok (S.sh d) (e2.set i (.ow (.lst xs')))
        | none => .bad).bind _) _
  rw [List.length_map, List.length_map]
  unfold R.app
  by_cases hh : l.length + m.length ≤ 16777216
  · rw [if_pos hh, if_pos hh]
    refine ⟨rfl, ?_⟩
    rw [← hE, eL, List.map_append]
  · rw [if_neg hh, if_neg hh]; exact Sm.bad
def R.popAt (l : List α) (i : Int) : R (α × List α) := if -(2 ^ 62) ≤ i ∧ i < 2 ^ 62 then (match ixN l.length i with
    | some k => (match l[k]? with
      | some d => .ok (d, l.eraseIdx k)
      | none => .bad)
    | none => .bad) else .bad
theorem erase_map (f : α → β) : ∀ (l : List α) (k : Nat), (l.map f).eraseIdx k = (l.eraseIdx k).map f
  | [], _ => rfl
  | _ :: _, 0 => rfl
  | a :: l, k + 1 => by rw [List.map_cons, List.eraseIdx_cons_succ, List.eraseIdx_cons_succ, List.map_cons, erase_map f l k]
theorem z_popAt {i : Nat} {ss : List S} {Ef : α × List α → Env} (l : List α) (k : Int) (h : escs e1 ss = some ([.int k], e2)) (hl : e2[i]? = some (.ow (eL e l))) (hE : ∀ p : α × List α, e2.set i (.ow (eL e p.2)) = Ef p) : Sm Z (XP2 (fun p : α × List α => .sh (e p.1)) Ef) (lmEnd i mPopAt (escs e1 ss)) (R.popAt l k) := by
  rw [h]
  show Sm Z _ (match (e2[i]? : Option S) with
      | some (.ow (.lst xs)) => (match mPopAt xs [.int k] with
        | some (xs', d) => Res.ok (S.sh d) (e2.set i (.ow (.lst xs')))
        | none => .bad)
      | _ => .bad) _
  rw [hl]
  show Sm Z _ (match mPopAt (l.map e) [.int k] with
        | some (xs', d) => Res.ok (S.sh d) (e2.set i (.ow (.lst xs')))
        | none => .bad) _
  show Sm Z _ (match (if -(2 ^ 62) ≤ k ∧ k < 2 ^ 62 then (match ixN (l.map e).length k with
    | some k => (match (l.map e)[k]? with
      | some d => some ((l.map e).eraseIdx k, d)
      | none => none)
    | none => none) else none) with
        | some (xs', d) => Res.ok (S.sh d) (e2.set i (.ow (.lst xs')))
        | none => .bad) _
  unfold R.popAt
  by_cases hh : -(2 ^ 62) ≤ k ∧ k < 2 ^ 62
  · rw [if_pos hh, if_pos hh, List.length_map]
    cases ixN l.length k with
    | none => exact Sm.bad
    | some j =>
      simp only [List.getElem?_map]
      cases hj : l[j]? with
      | none => exact Sm.bad
      | some a =>
        refine ⟨rfl, ?_⟩
        rw [← hE (a, l.eraseIdx j), erase_map]
  · rw [if_neg hh, if_neg hh]; exact Sm.bad
def setL (l : List α) (k : Int) (x : α) : Option (List α) := (ixN l.length k).map fun n => l.set n x
theorem set_map (f : α → β) : ∀ (l : List α) (k : Nat) (x : α), (l.map f).set k (f x) = (l.set k x).map f
  | [], _, _ => rfl
  | _ :: _, 0, _ => rfl
  | a :: l, k + 1, x => by rw [List.map_cons, List.set_cons_succ, List.set_cons_succ, List.map_cons, set_map f l k]
theorem gAt_eq {i : Nat} {env e3 : Env} (l : List α) (k : Int) (x : α) (hd : d env = .ok (.sh (.int k)) env) (hl : env[i]? = some (.ow (eL e l))) : gAt i d (e x) env = (setL l k x).map fun l' => env.set i (.ow (eL e l')) := by
  have hi : isL env[i]? = true := by rw [hl]; rfl
  show (if isL env[i]? = true then setAt i (e x) (intOf (d env)) else none) = _
  rw [if_pos hi, hd]
  show (match (env[i]? : Option S) with
    | some (.ow (.lst xs)) => (match ixN xs.length k with
      | some n => some (env.set i (.ow (.lst (xs.set n (e x)))))
      | none => none)
    | _ => none) = _
  rw [hl]
  show (match ixN (l.map e).length k with
      | some n => some (env.set i (.ow (.lst ((l.map e).set n (e x)))))
      | none => none) = _
  unfold setL
  rw [List.length_map]
  cases ixN l.length k with
  | none => rfl
  | some n =>
    show some (env.set i (.ow (.lst ((l.map e).set n (e x))))) = _
    rw [set_map]
    rfl
theorem z_at1 {i : Nat} {s : S} {E : List α → Env} (l : List α) (k : Int) (x : α) (h : esc e1 s = some (e x, e2)) (hd : d e2 = .ok (.sh (.int k)) e2) (hl : e2[i]? = some (.ow (eL e l))) (hE : ∀ l', e2.set i (.ow (eL e l')) = E l') : Sm Z (fun a (fl : Fl) e => fl = .next ∧ e = E a) (gEnd (gAt i d) (esc e1 s)) (R.get (setL l k x)) := by
  rw [h]
  show Sm Z _ (match gAt i d (e x) e2 with
    | some e' => Res.ok Fl.next e'
    | none => .bad) _
  rw [gAt_eq (e3 := e2) l k x hd hl]
  cases setL l k x with
  | none => exact Sm.bad
  | some l' => exact ⟨rfl, hE l'⟩
theorem z_at2 {i : Nat} {s : S} {d' : Den} {E : List α → Env} (l : List α) (k k' : Int) (x y : α) (h : esc e1 s = some (.tup [e x, e y], e2)) (hd : d e2 = .ok (.sh (.int k)) e2) (hl : e2[i]? = some (.ow (eL e l))) (hE : ∀ l', e2.set i (.ow (eL e l')) = E l') (hd' : ∀ l', d' (E l') = .ok (.sh (.int k')) (E l')) (hl' : ∀ l', (E l')[i]? = some (.ow (eL e l'))) (hE' : ∀ l' l2, (E l').set i (.ow (eL e l2)) = E l2) :
    Sm Z (fun a (fl : Fl) e => fl = .next ∧ e = E a) (gEnd (gT 2 (gsC (gAt i d) (gsC (gAt i d') gsN))) (esc e1 s)) ((R.get (setL l k x)).bind fun l' => R.get (setL l' k' y)) := by
  rw [h]
  show Sm Z _ (match (match gAt i d (e x) e2 with
      | some e' => (match gAt i d' (e y) e' with
        | some e' => gsN [] e'
        | none => none)
      | none => none) with
    | some e' => Res.ok Fl.next e'
    | none => .bad) _
  rw [gAt_eq (e3 := e2) l k x hd hl]
  cases setL l k x with
  | none => exact Sm.bad
  | some l' =>
    show Sm Z _ (match (match gAt i d' (e y) (e2.set i (.ow (eL e l'))) with
        | some e' => gsN [] e'
        | none => none) with
    | some e' => Res.ok Fl.next e'
    | none => .bad) _
    rw [hE, gAt_eq (e3 := e2) l' k' y (hd' l') (hl' l')]
    show Sm Z _ _ (R.get (setL l' k' y))
    cases setL l' k' y with
    | none => exact Sm.bad
    | some l2 => exact ⟨rfl, hE' l' l2⟩
def R.two : List α → R (α × α)
  | [a, b] => .ok (a, b)
  | _ => .bad
theorem z_two {g g' : D → Env → Option Env} {s : S} {E : α × α → Env} (l : List α) (h : esc e1 s = some (eL e l, e2)) (hg : ∀ a b, gsC g (gsC g' gsN) [e a, e b] e2 = some (E (a, b))) : Sm Z (fun a (fl : Fl) e => fl = .next ∧ e = E a) (gEnd (gL 2 (gsC g (gsC g' gsN))) (esc e1 s)) (R.two l) := by
  rw [h]
  match l with
  | [] => exact Sm.bad
  | [_] => exact Sm.bad
  | [a, b] =>
    show Sm Z _ (match gsC g (gsC g' gsN) [e a, e b] e2 with
    | some e' => Res.ok Fl.next e'
    | none => .bad) _
    rw [hg a b]
    exact ⟨rfl, rfl⟩
  | _ :: _ :: _ :: _ => exact Sm.bad
theorem n_begun {i j : Nat} {E : Unit → Env} (ns : List Int) (h : env[j]? = some (.sh (.fz ns))) (hE : env.set i .tok = E ()) : Nx Z env E (dBegun i j) (if ns.length ≤ 1000 then .ok () else .bad) := by
  show Sm Z _ (match (env[j]? : Option S) with
    | some (.sh (.fz ns)) => if ns.length ≤ 1000 then Res.ok Fl.next (env.set i .tok) else .bad
    | _ => .bad) _
  rw [h]
  show Sm Z _ (if ns.length ≤ 1000 then Res.ok Fl.next (env.set i .tok) else .bad) _
  by_cases hl : ns.length ≤ 1000
  · rw [if_pos hl, if_pos hl]; exact ⟨rfl, hE⟩
  · rw [if_neg hl, if_neg hl]; exact Sm.bad
theorem x_ix {l : List Int} {k : Int} {Ef : Int → Env} (h : d env = .ok (.sh (eT D.int l)) e1) (h2 : d2 e1 = .ok (.sh (.int k)) e1) (he : ∀ a, e1 = Ef a) : X Z env Ef (fun a => .sh (.int a)) (dIx d d2) (R.get ((idxI l k).map fun i => (i : Int))) := by
  show Sm Z _ ((d env).bind _) _
  rw [h]
  show Sm Z _ (match dInts (l.map D.int) with
    | some ns => (d2 e1).bind fun s e' => (match rd e' s with
      | some (.int k) => (match idxI ns k with
        | some i => Res.ok (S.sh (.int (i : Int))) e'
        | none => .bad)
      | _ => .bad)
    | none => .bad) _
  rw [dInts_map]
  show Sm Z _ ((d2 e1).bind _) _
  rw [h2]
  show Sm Z _ (match idxI l k with
        | some i => Res.ok (S.sh (.int (i : Int))) e1
        | none => .bad) _
  cases idxI l k with
  | none => exact Sm.bad
  | some i => exact ⟨rfl, he _⟩
end
/-! ### list comprehensions -/
def R.lcp (p : α → Bool) (v : α → β) (l : List α) : R (List β) := if l.length ≤ 16777216 then .ok (fm p v l) else .bad
theorem R.lc_lcp (p : α → Bool) (v : α → β) (l : List α) : R.lc (fun a => .ok (p a)) (fun a => .ok (v a)) l = R.lcp p v l := by
  unfold R.lcp
  by_cases hl : l.length ≤ 16777216
  · rw [if_pos hl]; exact R.lc_pure hl (fun _ _ => rfl) fun _ _ _ => rfl
  · rw [if_neg hl, R.lc, if_neg hl]
section
variable {en : α → D} {en2 : β → D} {e0 : Env} {ea : α → Env} {mk : β → S} {src : Env → Res (List D)} {g : D → Env → Option Env} {t : Env → Res Bool} {f : Den} {own : List Nat} {tt : α → R Bool} {ff : α → R β}
theorem one_x {a : α} {n : Nat} {e0 ea : Env} (hn : 1 ≤ n) (hg : g (en a) e0 = some ea) (ht : Tx Z ea ea t (tt a)) (hf : X Z ea (fun _ => ea) mk f (ff a)) (he : ∀ b, esc ea (mk b) = some (en2 b, ea)) (hw : wipeE ea own = e0) :
    Sm Z (fun o ds e => ds = o.map en2 ∧ e = e0 ∧ o.length ≤ 1) (elt1 g t f own (en a) n e0) (R.one tt ff a) := by
  unfold elt1 R.one
  rw [hg]
  refine Sm.bind ht fun b b' e ⟨q1, q2⟩ => ?_
  rw [q1, q2]
  cases b with
  | false => exact ⟨rfl, hw, Nat.zero_le _⟩
  | true =>
    refine Sm.bind hf fun x s e ⟨q3, q4⟩ => ?_
    rw [q3, q4, he x]
    show Sm Z _ (if 0 < n then _ else _) _
    rw [if_pos (show 0 < n from hn)]
    exact ⟨rfl, hw, Nat.le_refl _⟩
theorem x_lc {env e1 : Env} {rs : R (List α)} {Ef : List β → Env} (en : α → D) (en2 : β → D) (ea : α → Env) (mk : β → S) (hs : W Z env e1 en src rs) (ho : okOwn e1 own = true) (hr : restE e1 (wipeE e1 own) own = e1)
    (hg : ∀ a, g (en a) (wipeE e1 own) = some (ea a)) (ht : ∀ a, Tx Z (ea a) (ea a) t (tt a)) (hf : ∀ a, X Z (ea a) (fun _ => ea a) mk f (ff a)) (he : ∀ a b, esc (ea a) (mk b) = some (en2 b, ea a)) (hw : ∀ a, wipeE (ea a) own = wipeE e1 own) (hE : ∀ a, e1 = Ef a) :
    X Z env Ef (fun l : List β => .ow (eL en2 l)) (dLc src g t f own) (rs.bind (R.lc tt ff)) := by
  refine Sm.bind hs fun l ds e ⟨q1, q2⟩ => ?_
  rw [q1, q2, if_pos ho]
  unfold R.lc
  by_cases hl : l.length ≤ 16777216
  · rw [if_pos hl]
    refine Sm.last (Sm.nx R.nx_eq (loop_sm (Z := Z) (k := 1) (fun a n hn => one_x hn (hg a) (ht a) (hf a) (he a) (hw a)) l 16777216 (by omega))) fun out ds e ⟨q3, q4, _⟩ => ?_
    rw [q3, q4, hr]
    exact ⟨rfl, hE _⟩
  · rw [if_neg hl]
    exact Sm.bad
theorem x_lcp {env e1 : Env} {rs : R (List α)} {Ef : List β → Env} {p : α → Bool} {v : α → β} {s : α → S} (en : α → D) (en2 : β → D) (ea : α → Env) (hs : W Z env e1 en src rs) (ho : okOwn e1 own = true) (hr : restE e1 (wipeE e1 own) own = e1)
    (hg : ∀ a, g (en a) (wipeE e1 own) = some (ea a)) (ht : ∀ a, t (ea a) = .ok (p a) (ea a)) (hf : ∀ a, f (ea a) = .ok (s a) (ea a)) (he : ∀ a, esc (ea a) (s a) = some (en2 (v a), ea a)) (hw : ∀ a, wipeE (ea a) own = wipeE e1 own) (hE : ∀ a, e1 = Ef a) :
    X Z env Ef (fun l : List β => .ow (eL en2 l)) (dLc src g t f own) (rs.bind (R.lcp p v)) := by
  refine Sm.bind hs fun l ds e ⟨q1, q2⟩ => ?_
  rw [q1, q2, if_pos ho, ← R.lc_lcp]
  unfold R.lc
  by_cases hl : l.length ≤ 16777216
  · rw [if_pos hl]
    refine Sm.last (Sm.nx R.nx_eq (loop_sm (Z := Z) (en2 := en2) (e0 := wipeE e1 own) (k := 1) (fun a n hn => ?_) l 16777216 (by omega))) fun out ds e ⟨q3, q4, _⟩ => ?_
    · unfold elt1 R.one
      rw [hg a]
      show Sm Z _ ((t (ea a)).bind _) (if p a = true then _ else _)
      rw [ht a]
      show Sm Z _ (if p a = true then _ else _) _
      cases p a with
      | false => exact ⟨rfl, hw a, Nat.zero_le _⟩
      | true =>
        show Sm Z _ ((f (ea a)).bind _) _
        rw [hf a]
        show Sm Z _ (match esc (ea a) (s a) with
          | some (d', e4) => if 0 < n then Res.ok [d'] (wipeE e4 own) else .bad
          | none => .bad) _
        rw [he a]
        show Sm Z _ (if 0 < n then _ else _) _
        rw [if_pos (show 0 < n from hn)]
        exact ⟨rfl, hw a, Nat.le_refl _⟩
    · rw [q3, q4, hr]
      exact ⟨rfl, hE _⟩
  · rw [if_neg hl]
    exact Sm.bad
theorem x_lc2 {env e1 : Env} {rs : R (List α)} {Ef : List β → Env} {src1 : Env → Res (List D)} {g1 : D → Env → Option Env} {t1 : Env → Res Bool} {rs1 : α → R (List γ)} {tt1 : α → γ → R Bool} {ff : α → γ → R β} {vs1 : List Nat} (en : α → D) (en1 : γ → D) (en2 : β → D) (ea : α → Env) (ea2 : α → γ → Env) (mk : β → S) (hs : W Z env e1 en src rs) (ho : okOwn e1 own = true) (hr : restE e1 (wipeE e1 own) own = e1)
    (hg : ∀ a, g (en a) (wipeE e1 own) = some (ea a)) (ht : ∀ a, Tx Z (ea a) (ea a) t (tt a)) (hs1 : ∀ a, W Z (ea a) (ea a) en1 src1 (rs1 a)) (hg1 : ∀ a c, g1 (en1 c) (wipeE (ea a) vs1) = some (ea2 a c)) (ht1 : ∀ a c, Tx Z (ea2 a c) (ea2 a c) t1 (tt1 a c)) (hf : ∀ a c, X Z (ea2 a c) (fun _ => ea2 a c) mk f (ff a c))
    (he : ∀ a c b, esc (ea2 a c) (mk b) = some (en2 b, ea2 a c)) (hw1 : ∀ a c, wipeE (ea2 a c) vs1 = wipeE (ea a) vs1) (hw : ∀ a, wipeE (ea a) own = wipeE e1 own) (hw2 : ∀ a, wipeE (wipeE (ea a) vs1) own = wipeE e1 own) (hE : ∀ a, e1 = Ef a) :
    X Z env Ef (fun l : List β => .ow (eL en2 l)) (dLc2 src g t src1 g1 t1 f own vs1) (rs.bind (R.lc2 tt rs1 tt1 ff)) := by
  refine Sm.bind hs fun l ds e ⟨q1, q2⟩ => ?_
  rw [q1, q2, if_pos ho]
  unfold R.lc2
  by_cases hl : l.length ≤ 1000
  · rw [if_pos hl]
    refine Sm.last (Sm.nx R.nx_eq (loop_sm (Z := Z) (en2 := en2) (e0 := wipeE e1 own) (k := 1000) (fun a n hn => ?_) l 16777216 (by omega))) fun out ds e ⟨q3, q4, _⟩ => ?_
    · unfold elt2
      rw [hg a]
      refine Sm.bind (ht a) fun b b' e ⟨q3, q4⟩ => ?_
      rw [q3, q4]
      cases b with
      | false => exact ⟨rfl, hw a, Nat.zero_le _⟩
      | true =>
        refine Sm.bind (hs1 a) fun m ds e ⟨q5, q6⟩ => ?_
        rw [q5, q6]
        by_cases hm : m.length ≤ 1000
        · rw [if_pos hm]
          refine Sm.last (loop_sm (k := 1) (fun c n hn => one_x hn (hg1 a c) (ht1 a c) (hf a c) (he a c) (hw1 a c)) m n (by omega)) fun out ds e ⟨q7, q8, q9⟩ => ?_
          rw [q7, q8]
          exact ⟨rfl, hw2 a, by omega⟩
        · rw [if_neg hm]
          exact Sm.bad
    · rw [q3, q4, hr]
      exact ⟨rfl, hE _⟩
  · rw [if_neg hl]
    exact Sm.bad
end
/-! ### dicts with tuples for keys -/
structure EncK [DecidableEq κ] (nk : κ → NestedKey) (ek : κ → D) : Prop where
  key : ∀ a, keyX (ek a) = some (nk a)
  inj : ∀ a b, nk a = nk b → a = b
theorem EncK.nk [DecidableEq κ] {nk : κ → NestedKey} {ek : κ → D} (K : EncK nk ek) (a : κ) : nkD (ek a) = some (nk a) := (keyX_tup (K.key a)).2.2.1
theorem EncK.int2 : EncK (fun p : Int × Int => .tup [.num p.1, .num p.2]) (eP D.int D.int) := ⟨fun _ => rfl, fun a b h => by
  obtain ⟨a1, a2⟩ := a
  obtain ⟨b1, b2⟩ := b
  cases h
  rfl⟩
def putK [DecidableEq κ] : List (κ × ν) → κ → ν → List (κ × ν)
  | [], k, v => [(k, v)]
  | (k0, v0) :: r, k, v => if k0 = k then (k0, v) :: r else (k0, v0) :: putK r k v
def getK [DecidableEq κ] : List (κ × ν) → κ → Option ν
  | [], _ => none
  | (k0, v0) :: r, k => if k0 = k then some v0 else getK r k
section
variable [DecidableEq κ] {nk : κ → NestedKey} {ek : κ → D} {ev : ν → D}
theorem putX_map (K : EncK nk ek) (k : κ) (v : ν) : ∀ l : List (κ × ν), putX (l.map fun p => (ek p.1, ev p.2)) (nk k) (ek k) (ev v) = (putK l k v).map fun p => (ek p.1, ev p.2)
  | [] => rfl
  | (k0, v0) :: r => by
    rw [List.map_cons, putX, putK, K.nk]
    by_cases h : k0 = k
    · rw [if_pos (by rw [h]), if_pos h]; rfl
    · rw [if_neg (fun z => h (K.inj _ _ (Option.some.inj z))), if_neg h, putX_map K k v r]; rfl
theorem getX_map (K : EncK nk ek) (k : κ) : ∀ l : List (κ × ν), getX (l.map fun p => (ek p.1, ev p.2)) (nk k) = (getK l k).map ev
  | [] => rfl
  | (k0, v0) :: r => by
    rw [List.map_cons, getX, getK, K.nk]
    by_cases h : k0 = k
    · rw [if_pos (by rw [h]), if_pos h]; rfl
    · rw [if_neg (fun z => h (K.inj _ _ (Option.some.inj z))), if_neg h, getX_map K k r]
theorem o_ixA (K : EncK nk ek) (l : List (κ × ν)) (k : κ) : opIxA (eK ek ev l) (ek k) = (getK l k).map fun v => S.sh (ev v) := by
  obtain ⟨⟨ks, e⟩, _⟩ := keyX_tup (K.key k)
  have h : opIxA (eK ek ev l) (ek k) = (match keyX (ek k) with
    | some k => (getX (l.map fun p => (ek p.1, ev p.2)) k).map S.sh
    | none => none) := by rw [e]; rfl
  rw [h, K.key]
  show (getX _ (nk k)).map S.sh = _
  rw [getX_map K, Option.map_map]
  rfl
/-- the pairs of a dict comprehension -/
def R.dcL (h : α → R (Option (κ × ν))) : List α → List (κ × ν) → R (List (κ × ν))
  | [], acc => .ok acc
  | a :: r, acc => (h a).bind fun o => match o with
    | none => R.dcL h r acc
    | some p => if acc.length < 16777216 then R.dcL h r (putK acc p.1 p.2) else .bad
def R.dc (tt : α → R Bool) (fk : α → R κ) (fv : α → R ν) (l : List α) : R (List (κ × ν)) := (R.dcL (fun a => (tt a).bind fun b => if b = true then (fk a).bind fun k => (fv a).bind fun v => .ok (some (k, v)) else .ok none) l []).nx
theorem x_dc (K : EncK nk ek) {src : Env → Res (List D)} {g : D → Env → Option Env} {t : Env → Res Bool} {fk fv : Den} {own : List Nat} {tt : α → R Bool} {rk : α → R κ} {rv : α → R ν} {rs : R (List α)} {Ef : List (κ × ν) → Env} (en : α → D) (ea : α → Env) (mk : κ → S) (mv : ν → S) (hs : W Z env e1 en src rs) (ho : okOwn e1 own = true) (hr : restE e1 (wipeE e1 own) own = e1)
    (hg : ∀ a, g (en a) (wipeE e1 own) = some (ea a)) (ht : ∀ a, Tx Z (ea a) (ea a) t (tt a)) (hk : ∀ a, X Z (ea a) (fun _ => ea a) mk fk (rk a)) (hke : ∀ a b, esc (ea a) (mk b) = some (ek b, ea a)) (hv : ∀ a, X Z (ea a) (fun _ => ea a) mv fv (rv a)) (hve : ∀ a b, esc (ea a) (mv b) = some (ev b, ea a)) (hw : ∀ a, wipeE (ea a) own = wipeE e1 own) (hE : ∀ a, e1 = Ef a) :
    X Z env Ef (fun l : List (κ × ν) => .ow (eK ek ev l)) (dDc src g t fk fv own) (rs.bind (R.dc tt rk rv)) := by
  refine Sm.bind hs fun l ds e ⟨q1, q2⟩ => ?_
  rw [q1, q2, if_pos ho]
  have main : ∀ (l : List α) (acc : List (κ × ν)), Sm Z (fun out ds e => ds = out.map (fun p => (ek p.1, ev p.2)) ∧ e = wipeE e1 own) (dDLoop (eltX g t fk fv own) (l.map en) (acc.map fun p => (ek p.1, ev p.2)) (wipeE e1 own)) (R.dcL (fun a => (tt a).bind fun b => if b = true then (rk a).bind fun k => (rv a).bind fun v => .ok (some (k, v)) else .ok none) l acc) := by
    intro l
    induction l with
    | nil => exact fun acc => ⟨rfl, rfl⟩
    | cons a r ih =>
      intro acc
      rw [List.map_cons, dDLoop, R.dcL]
      refine Sm.bind (P := fun o ds e => ds = o.map (fun p => (ek p.1, ev p.2)) ∧ e = wipeE e1 own) ?_ fun o ds e ⟨q3, q4⟩ => ?_
      · unfold eltX
        rw [hg a]
        refine Sm.bind (ht a) fun b b' e ⟨q3, q4⟩ => ?_
        rw [q3, q4]
        cases b with
        | false => exact ⟨rfl, hw a⟩
        | true =>
          refine Sm.bind (hk a) fun k s e ⟨q5, q6⟩ => ?_
          rw [q5, q6, hke a k]
          refine Sm.bind (hv a) fun v s e ⟨q7, q8⟩ => ?_
          rw [q7, q8, hve a v]
          exact ⟨rfl, hw a⟩
      · rw [q3, q4]
        cases o with
        | none => exact ih acc
        | some p =>
          show Sm Z _ (match (match keyX (ek p.1) with
            | some k => if (acc.map fun p => (ek p.1, ev p.2)).length < 16777216 then some (putX (acc.map fun p => (ek p.1, ev p.2)) k (ek p.1) (ev p.2)) else none
            | none => none) with
            | some acc' => dDLoop (eltX g t fk fv own) (r.map en) acc' (wipeE e1 own)
            | none => .bad) (if acc.length < 16777216 then _ else _)
          rw [K.key]
          show Sm Z _ (match (if (acc.map fun p => (ek p.1, ev p.2)).length < 16777216 then some (putX (acc.map fun p => (ek p.1, ev p.2)) (nk p.1) (ek p.1) (ev p.2)) else none) with
            | some acc' => dDLoop (eltX g t fk fv own) (r.map en) acc' (wipeE e1 own)
            | none => .bad) _
          rw [List.length_map]
          by_cases h : acc.length < 16777216
          · rw [if_pos h, if_pos h, putX_map K]
            exact ih _
          · rw [if_neg h, if_neg h]
            exact Sm.bad
  refine Sm.last (Sm.nx (Z' := Z) R.nx_eq (main l [])) fun out ds e ⟨q3, q4⟩ => ?_
  rw [q3, q4, hr]
  exact ⟨rfl, hE _⟩
end
end
end T

/-! TYd: typed dicts by whole numbers, rows turned about. -/
namespace T
open PySem PySem.Spec PyProof.Rows L2
section
variable {α β γ δ ε σ τ κ ν : Type} {Z : Env → Prop} {env e1 e2 e3 : Env} {d d2 d3 : Den} {e : α → D} {e' : β → D}
theorem o_revL (e : α → D) (l : List α) : opRev (eL e l) = some (.ow (eL e l.reverse)) := by
  show some (S.ow (.lst (l.map e).reverse)) = _
  rw [← List.map_reverse]
theorem o_revT (e : α → D) (l : List α) : opRev (eT e l) = some (.sh (eT e l.reverse)) := by
  show some (S.sh (.tup (l.map e).reverse)) = _
  rw [← List.map_reverse]
section
variable {ev : ν → D}
theorem getX_mapI (k : Int) : ∀ l : List (Int × ν), getX (l.map fun p => (D.int p.1, ev p.2)) (.num k) = (getK l k).map ev
  | [] => rfl
  | (k0, v0) :: r => by
    rw [List.map_cons, getX, getK]
    show (if some (NestedKey.num k0) = some (.num k) then _ else _) = _
    by_cases h : k0 = k
    · rw [if_pos (by rw [h]), if_pos h]; rfl
    · rw [if_neg (fun z => h (by cases z; rfl)), if_neg h, getX_mapI k r]
theorem o_ixI (l : List (Int × ν)) (k : Int) : opIxA (eK D.int ev l) (.int k) = (getK l k).map fun v => S.sh (ev v) := by
  show (getX (l.map fun p => (D.int p.1, ev p.2)) (.num k)).map S.sh = _
  rw [getX_mapI, Option.map_map]
  rfl
def putI (l : List (Int × ν)) (k : Int) (v : ν) : List (Int × ν) := if (l.any fun p => decide (p.1 = k)) = true then l.map (fun p => if p.1 = k then (p.1, v) else p) else l ++ [(k, v)]
theorem keyK_int (p : Int) (k : Int) : keyK (D.int p) = some (Sum.inl k) ↔ p = k := ⟨fun z => by cases z; rfl, fun z => by rw [z]; rfl⟩
theorem putM_map (l : List (Int × ν)) (k : Int) (v : ν) : putM (l.map fun p => (D.int p.1, ev p.2)) (.inl k) (ev v) = (putI l k v).map fun p => (D.int p.1, ev p.2) := by
  unfold putM putI
  rw [List.any_map]
  have e1 : ((fun p : D × D => decide (keyK p.1 = some (.inl k))) ∘ fun p : Int × ν => (D.int p.1, ev p.2)) = fun p => decide (p.1 = k) := by
    funext p
    exact decide_eq_decide.mpr (keyK_int p.1 k)
  rw [e1]
  split
  · rw [List.map_map, List.map_map]
    refine List.map_congr_left fun p _ => ?_
    show (if keyK (D.int p.1) = some (Sum.inl k) then (D.int p.1, ev v) else (D.int p.1, ev p.2)) = (fun p : Int × ν => (D.int p.1, ev p.2)) (if p.1 = k then (p.1, v) else p)
    by_cases h : p.1 = k
    · rw [if_pos ((keyK_int p.1 k).mpr h), if_pos h]
    · rw [if_neg (fun z => h ((keyK_int p.1 k).mp z)), if_neg h]
  · rw [List.map_append]
    rfl
theorem allK (l : List (Int × ν)) : (l.map fun p => (D.int p.1, ev p.2)).all isKd = true := by
  rw [List.all_map, List.all_eq_true]
  exact fun _ _ => rfl
def R.putI (l : List (Int × ν)) (k : Int) (v : ν) : R (List (Int × ν)) := if l.length < 16777216 then .ok (T.putI l k v) else .bad
theorem z_putI {i : Nat} {s : S} {E : List (Int × ν) → Env} (l : List (Int × ν)) (k : Int) (v : ν) (h : esc e1 s = some (ev v, e2)) (hd : d e2 = .ok (.sh (.int k)) e2) (hl : e2[i]? = some (.ow (eK D.int ev l))) (hE : ∀ l', e2.set i (.ow (eK D.int ev l')) = E l') : Sm Z (fun a (fl : Fl) e => fl = .next ∧ e = E a) (gEnd (gPut i d) (esc e1 s)) (R.putI l k v) := by
  rw [h]
  have hi : isDc e2[i]? = true := by rw [hl]; rfl
  have hg : gPut i d (ev v) e2 = if l.length < 16777216 then some (e2.set i (.ow (eK D.int ev (putI l k v)))) else none := by
    show (if isDc e2[i]? = true then putAt i (ev v) (keyOf (d e2)) else none) = _
    rw [if_pos hi, hd]
    show (match (e2[i]? : Option S) with
      | some (.ow (.dic ds)) => (putD ds (.int k) (ev v)).map fun ds' => e2.set i (.ow (.dic ds'))
      | _ => none) = _
    rw [hl]
    show (if (l.map fun p => (D.int p.1, ev p.2)).length < 16777216 then (if (l.map fun p => (D.int p.1, ev p.2)).all isKd = true then some (putM (l.map fun p => (D.int p.1, ev p.2)) (.inl k) (ev v)) else none) else none).map _ = _
    rw [List.length_map, if_pos (allK l), putM_map]
    by_cases h : l.length < 16777216
    · rw [if_pos h, if_pos h]; rfl
    · rw [if_neg h, if_neg h]; rfl
  show Sm Z _ (match gPut i d (ev v) e2 with
    | some e' => Res.ok Fl.next e'
    | none => .bad) _
  rw [hg]
  unfold R.putI
  by_cases h : l.length < 16777216
  · rw [if_pos h, if_pos h]; exact ⟨rfl, hE _⟩
  · rw [if_neg h, if_neg h]; exact Sm.bad
end
end
end T

/-! TYe: typed dicts whose keys are tuples; sorted by any order. -/
namespace T
open PySem PySem.Spec PyProof.Rows L2
section
variable {α β γ δ ε σ τ κ ν ρ : Type} {Z : Env → Prop} {env e1 e2 e3 : Env} {d d2 d3 : Den} {e : α → D} {e' : β → D}
/-! ### keys -/
theorem nkDs_ints : ∀ l : List Int, nkDs (l.map D.int) = some (l.map NestedKey.num)
  | [] => rfl
  | a :: r => by rw [List.map_cons, nkDs, nkDs_ints r]; rfl
theorem depth_nums : ∀ l : List Int, NestedKey.depth (.tup (l.map NestedKey.num)) ≤ 1
  | [] => Nat.le_of_ble_eq_true rfl
  | a :: r => by
    have z := depth_nums r
    simp only [List.map_cons, NestedKey.depth, NestedKey.depthAll] at z ⊢
    omega
theorem nums_inj : ∀ {l m : List Int}, l.map NestedKey.num = m.map NestedKey.num → l = m
  | [], [], _ => rfl
  | [], _ :: _, h => nomatch h
  | _ :: _, [], h => nomatch h
  | a :: l, b :: m, h => by
    rw [List.map_cons, List.map_cons] at h
    injection h with h1 h2
    cases h1
    rw [nums_inj h2]
theorem EncK.ints : EncK (fun l : List Int => .tup (l.map .num)) (eT D.int) := ⟨fun l => by
  show (match nkD (.tup (l.map D.int)) with
    | some k => if k.depth ≤ 8 then some k else none
    | none => none) = _
  rw [nkD, nkDs_ints]
  exact if_pos (Nat.le_trans (depth_nums l) (by decide)), fun a b h => nums_inj (by injection h)⟩
section
variable [DecidableEq κ] {nk : κ → NestedKey} {ek : κ → D} {ev : ν → D}
theorem EncK.tup (K : EncK nk ek) (k : κ) : ∃ xs, ek k = .tup xs := (keyX_tup (K.key k)).1
theorem EncK.noK (K : EncK nk ek) (k : κ) : keyK (ek k) = none := by
  obtain ⟨xs, h⟩ := K.tup k
  rw [h]
  rfl
theorem EncK.isT (K : EncK nk ek) (l : List (κ × ν)) : (l.map fun p => (ek p.1, ev p.2)).all isTd = true := by
  rw [List.all_map, List.all_eq_true]
  intro p _
  obtain ⟨xs, h⟩ := K.tup p.1
  show isTd (ek p.1, ev p.2) = true
  unfold isTd
  rw [h]
theorem o_look (K : EncK nk ek) (l : List (κ × ν)) (k : κ) : lookD (l.map fun p => (ek p.1, ev p.2)) (ek k) = some ((getK l k).map ev) := by
  unfold lookD
  rw [K.noK, K.key]
  show (if _ then some (getX _ (nk k)) else none) = _
  rw [if_pos (K.isT l), getX_map K]
/-! ### get -/
theorem o_getE (K : EncK nk ek) (l : List (κ × Int)) (k : κ) (n : Int) : opGetL (some (eK ek D.int l)) (some [ek k, .int n]) = some (.sh (.int ((getK l k).getD n))) := by
  show (lookD (l.map fun p => (ek p.1, D.int p.2)) (ek k)).map _ = _
  rw [o_look K]
  cases getK l k <;> rfl
theorem u_getE {P : ρ → S → Env → Prop} {fs : List Den} {q : R ρ} (h : Sm Z P ((d env).bind fun s e => if isDicO (rd e s) = true then (dargs fs e).bind fun ss e' => Res.get (opGetL (rd e' s) (rds e' ss)) e' else .bad) q) : Sm Z P (dGetE d fs env) q := h
theorem g_if {P : ρ → S → Env → Prop} {c : Bool} {m : Res S} {q : R ρ} (hc : c = true) (h : Sm Z P m q) : Sm Z P (if c = true then m else .bad) q := by
  rw [if_pos hc]
  exact h
theorem p_getE {fs : List Den} {s s' : S} {ss : List S} (h : d env = .ok s e1) (hi : isDicO (rd e1 s) = true) (ha : dargs fs e1 = .ok ss e1) (ho : opGetL (rd e1 s) (rds e1 ss) = some s') : dGetE d fs env = .ok s' e1 := by
  unfold dGetE
  rw [h]
  show (if isDicO (rd e1 s) = true then _ else _) = _
  rw [if_pos hi, ha]
  show Res.get _ e1 = _
  rw [ho]
  rfl
/-! ### {k: v} -/
theorem p_disp1 (K : EncK nk ek) {sk sv : S} (k : κ) (v : ν) (h : d env = .ok sk e1) (he : esc e1 sk = some (ek k, e1)) (h2 : d2 e1 = .ok sv e1) (he2 : esc e1 sv = some (ev v, e1)) : dDisp1 d d2 env = .ok (.ow (eK ek ev [(k, v)])) e1 := by
  unfold dDisp1
  rw [h]
  show (match esc e1 sk with
    | some (kd, e1) => (d2 e1).bind _
    | none => _) = _
  rw [he]
  show ((d2 e1).bind _) = _
  rw [h2]
  show (match esc e1 sv with
    | some (vd, e3) => (match keyX (ek k) with
      | some _ => Res.ok (S.ow (.dic [(ek k, vd)])) e3
      | none => .bad)
    | none => .bad) = _
  rw [he2]
  show (match keyX (ek k) with
      | some _ => Res.ok (S.ow (.dic [(ek k, ev v)])) e1
      | none => .bad) = _
  rw [K.key]
  rfl
theorem x_disp1 (K : EncK nk ek) {rk : R κ} {rv : R ν} {Ef : List (κ × ν) → Env} (mk : κ → S) (mv : ν → S) (h : X Z env (fun _ => e1) mk d rk) (he : ∀ a, esc e1 (mk a) = some (ek a, e1)) (h2 : X Z e1 (fun _ => e1) mv d2 rv) (he2 : ∀ a, esc e1 (mv a) = some (ev a, e1)) (hE : ∀ a, e1 = Ef a) :
    X Z env Ef (fun l : List (κ × ν) => .ow (eK ek ev l)) (dDisp1 d d2) (rk.bind fun k => rv.bind fun v => .ok [(k, v)]) := by
  refine Sm.bind h fun k s e ⟨q1, q2⟩ => ?_
  rw [q1, q2, he k]
  refine Sm.bind h2 fun v s e ⟨q3, q4⟩ => ?_
  rw [q3, q4, he2 v]
  show Sm Z _ (match keyX (ek k) with
      | some _ => Res.ok (S.ow (.dic [(ek k, ev v)])) e1
      | none => .bad) _
  rw [K.key]
  exact ⟨rfl, hE _⟩
/-! ### == -/
def hasK [DecidableEq ν] (m : List (κ × ν)) (p : κ × ν) : Bool := match getK m p.1 with
  | some v => decide (p.2 = v)
  | none => false
def eqK [DecidableEq ν] (l m : List (κ × ν)) : Bool := l.length == m.length && l.all (hasK m)
theorem eqX_map [DecidableEq ν] {j : Nat} (K : EncK nk ek) (E : Enc j ev) (l m : List (κ × ν)) : eqX (l.map fun p => (ek p.1, ev p.2)) (m.map fun p => (ek p.1, ev p.2)) = eqK l m := by
  unfold eqX eqK
  rw [List.length_map, List.length_map, List.all_map]
  congr 1
  have h : (hasX (m.map fun p => (ek p.1, ev p.2))) ∘ (fun p : κ × ν => (ek p.1, ev p.2)) = hasK m := by
    funext p
    show hasX _ (ek p.1, ev p.2) = _
    unfold hasX hasK
    rw [K.nk]
    show (match getX (m.map fun p => (ek p.1, ev p.2)) (nk p.1) with
      | some e => PyData.eqv (ev p.2).py e.py
      | none => false) = _
    rw [getX_map K]
    cases getK m p.1 with
    | none => rfl
    | some v => exact E.eq _ _
  rw [h]
theorem okEq_map [DecidableEq ν] {j : Nat} (K : EncK nk ek) (E : Enc j ev) (hj : j ≤ 64) (l : List (κ × ν)) : (l.map fun p => (ek p.1, ev p.2)).all okEq = true := by
  rw [List.all_eq_true]
  intro p hp
  unfold okEq
  rw [Bool.and_eq_true]
  refine ⟨List.all_eq_true.mp (K.isT l) p hp, ?_⟩
  obtain ⟨q, _, rfl⟩ := List.mem_map.mp hp
  exact E.shaped hj _
theorem o_eqK [DecidableEq ν] {j : Nat} (K : EncK nk ek) (E : Enc j ev) (hj : j ≤ 64) (n : Bool) (l m : List (κ × ν)) : opEqA n (eK ek ev l) (eK ek ev m) = some (.sh (.bl (if n = true then !eqK l m else eqK l m))) := by
  show (if _ then some (S.sh (D.bl (if n = true then !eqX _ _ else eqX _ _))) else none) = _
  rw [if_pos (by rw [okEq_map K E hj, okEq_map K E hj]; rfl), eqX_map K E]
theorem o_eqK0 [DecidableEq ν] {j : Nat} (K : EncK nk ek) (E : Enc j ev) (hj : j ≤ 64) (l m : List (κ × ν)) : opEqA false (eK ek ev l) (eK ek ev m) = some (.sh (.bl (eqK l m))) := o_eqK K E hj false l m
theorem o_eqK1 [DecidableEq ν] {j : Nat} (K : EncK nk ek) (E : Enc j ev) (hj : j ≤ 64) (l m : List (κ × ν)) : opEqA true (eK ek ev l) (eK ek ev m) = some (.sh (.bl (!eqK l m))) := o_eqK K E hj true l m
/-! ### in -/
theorem o_inK (K : EncK nk ek) (l : List (κ × ν)) (k : κ) : opInX (ek k) (eK ek ev l) = some (.sh (.bl (getK l k).isSome)) := by
  show (lookD (l.map fun p => (ek p.1, ev p.2)) (ek k)).map _ = _
  rw [o_look K]
  cases getK l k <;> rfl
/-! ### store -/
def R.putK (l : List (κ × ν)) (k : κ) (v : ν) : R (List (κ × ν)) := if l.length < 16777216 then .ok (T.putK l k v) else .bad
theorem z_putK (K : EncK nk ek) {i : Nat} {s : S} {E : List (κ × ν) → Env} (l : List (κ × ν)) (k : κ) (v : ν) (h : esc e1 s = some (ev v, e2)) (hd : d e2 = .ok (.sh (ek k)) e2) (hl : e2[i]? = some (.ow (eK ek ev l))) (hE : ∀ l', e2.set i (.ow (eK ek ev l')) = E l') : Sm Z (fun a (fl : Fl) e => fl = .next ∧ e = E a) (gEnd (gPut i d) (esc e1 s)) (R.putK l k v) := by
  rw [h]
  have hi : isDc e2[i]? = true := by rw [hl]; rfl
  have hg : gPut i d (ev v) e2 = if l.length < 16777216 then some (e2.set i (.ow (eK ek ev (T.putK l k v)))) else none := by
    show (if isDc e2[i]? = true then putAt i (ev v) (keyOf (d e2)) else none) = _
    rw [if_pos hi, hd]
    show (match (e2[i]? : Option S) with
      | some (.ow (.dic ds)) => (putD ds (ek k) (ev v)).map fun ds' => e2.set i (.ow (.dic ds'))
      | _ => none) = _
    rw [hl]
    show (putD (l.map fun p => (ek p.1, ev p.2)) (ek k) (ev v)).map _ = _
    unfold putD
    rw [List.length_map, K.noK, K.key]
    by_cases h : l.length < 16777216
    · rw [if_pos h, if_pos h]
      show (if _ then some (putX _ (nk k) (ek k) (ev v)) else none).map _ = _
      rw [if_pos (K.isT l), putX_map K]
      rfl
    · rw [if_neg h, if_neg h]; rfl
  show Sm Z _ (match gPut i d (ev v) e2 with
    | some e' => Res.ok Fl.next e'
    | none => .bad) _
  rw [hg]
  unfold R.putK
  by_cases h : l.length < 16777216
  · rw [if_pos h, if_pos h]; exact ⟨rfl, hE _⟩
  · rw [if_neg h, if_neg h]; exact Sm.bad
/-! ### dict([(k, v), ..]) -/
def putAll (l acc : List (κ × ν)) : List (κ × ν) := match l with
  | [] => acc
  | p :: r => putAll r (T.putK acc p.1 p.2)
theorem dicL_map (K : EncK nk ek) : ∀ (l acc : List (κ × ν)), dicL (l.map (eP ek ev)) (acc.map fun p => (ek p.1, ev p.2)) = some ((putAll l acc).map fun p => (ek p.1, ev p.2))
  | [], _ => rfl
  | p :: r, acc => by
    rw [List.map_cons]
    show (match keyX (ek p.1) with
      | some k => dicL (r.map (eP ek ev)) (putX (acc.map fun p : κ × ν => (ek p.1, ev p.2)) k (ek p.1) (ev p.2))
      | none => none) = _
    rw [K.key]
    show dicL (r.map (eP ek ev)) (putX (acc.map fun p => (ek p.1, ev p.2)) (nk p.1) (ek p.1) (ev p.2)) = _
    rw [putX_map K, dicL_map K r]
    rfl
def R.dict (l : List (κ × ν)) : R (List (κ × ν)) := if l.length ≤ 16777216 then .ok (putAll l []) else .bad
theorem z_dict (K : EncK nk ek) {Ef : List (κ × ν) → Env} (l : List (κ × ν)) (he : ∀ a, e1 = Ef a) : Sm Z (XP2 (fun l : List (κ × ν) => .ow (eK ek ev l)) Ef) (Res.get (opDictL [eL (eP ek ev) l]) e1) (R.dict l) := by
  show Sm Z _ (Res.get (if (l.map (eP ek ev)).length ≤ 16777216 then (dicL (l.map (eP ek ev)) (([] : List (κ × ν)).map fun p : κ × ν => (ek p.1, ev p.2))).map fun l => S.ow (.dic l) else none) e1) _
  rw [List.length_map, dicL_map K]
  unfold R.dict
  by_cases h : l.length ≤ 16777216
  · rw [if_pos h, if_pos h]; exact ⟨rfl, he _⟩
  · rw [if_neg h, if_neg h]; exact Sm.bad
end
/-! ### len, values -/
section
variable {ek : κ → D} {ev : ν → D}
theorem o_lenK (ek : κ → D) (ev : ν → D) (l : List (κ × ν)) : opLenA [eK ek ev l] = some (.sh (.int (l.length : Int))) := by
  show some (S.sh (.int ((l.map _).length : Nat))) = _
  rw [List.length_map]
theorem p_lv {s : S} (l : List (κ × ν)) (h : d env = .ok s e1) (he : esc e1 s = some (eK ek ev l, e2)) : dLV d env = .ok (.ow (eL ev (l.map (·.2)))) e2 := by
  unfold dLV
  rw [h]
  show (match esc e1 s with
    | some (.dic ds, e') => Res.ok (S.ow (.lst (ds.map fun p : D × D => p.2))) e'
    | _ => .bad) = _
  rw [he]
  show Res.ok (S.ow (.lst ((l.map fun p => (ek p.1, ev p.2)).map fun p : D × D => p.2))) e2 = _
  rw [List.map_map]
  show _ = Res.ok (S.ow (.lst ((l.map (·.2)).map ev))) e2
  rw [List.map_map]
  rfl
theorem x_lv (mk : List (κ × ν) → S) {Ef : List ν → Env} {r : R (List (κ × ν))} (h : X Z env (fun _ => e1) mk d r) (he : ∀ l, esc e1 (mk l) = some (eK ek ev l, e2)) (hE : ∀ a, e2 = Ef a) : X Z env Ef (fun l : List ν => .ow (eL ev l)) (dLV d) (r.bind fun l => .ok (l.map (·.2))) := by
  refine Sm.bind h fun l s e ⟨q1, q2⟩ => ?_
  rw [q1, q2, he l]
  show Sm Z _ (Res.ok (S.ow (.lst ((l.map fun p => (ek p.1, ev p.2)).map fun p : D × D => p.2))) e2) _
  rw [List.map_map]
  refine ⟨?_, hE _⟩
  show _ = S.ow (.lst ((l.map (·.2)).map ev))
  rw [List.map_map]
  rfl
/-! ### sums, sharing -/
theorem o_sumT (l : List Int) : opSumA [eT D.int l] = some (.sh (.int l.sum)) := by
  show (dInts (l.map D.int)).map _ = _
  rw [dInts_map]
  rfl
theorem p_sv {ek : κ → D} {s : S} (l : List (κ × Int)) (h : d env = .ok s e1) (he : esc e1 s = some (eK ek D.int l, e2)) : dSV d env = .ok (.sh (.int (l.map (·.2)).sum)) e2 := by
  unfold dSV
  rw [h]
  show (match esc e1 s with
    | some (.dic ds, e') => (match dInts (ds.map fun p : D × D => p.2) with
      | some ns => Res.ok (S.sh (.int ns.sum)) e'
      | none => .bad)
    | _ => .bad) = _
  rw [he]
  show (match dInts ((l.map fun p => (ek p.1, D.int p.2)).map fun p : D × D => p.2) with
      | some ns => Res.ok (S.sh (.int ns.sum)) e2
      | none => .bad) = _
  have e : (l.map fun p => (ek p.1, D.int p.2)).map (fun p : D × D => p.2) = (l.map (·.2)).map D.int := by
    rw [List.map_map, List.map_map]
    rfl
  rw [e, dInts_map]
theorem x_sv {ek : κ → D} (mk : List (κ × Int) → S) {Ef : Int → Env} {r : R (List (κ × Int))} (h : X Z env (fun _ => e1) mk d r) (he : ∀ l, esc e1 (mk l) = some (eK ek D.int l, e2)) (hE : ∀ a, e2 = Ef a) : X Z env Ef (fun n : Int => .sh (.int n)) (dSV d) (r.bind fun l => .ok (l.map (·.2)).sum) := by
  refine Sm.bind h fun l s e ⟨q1, q2⟩ => ?_
  rw [q1, q2, he l]
  show Sm Z _ (match dInts ((l.map fun p => (ek p.1, D.int p.2)).map fun p : D × D => p.2) with
      | some ns => Res.ok (S.sh (.int ns.sum)) e2
      | none => .bad) _
  have e : (l.map fun p => (ek p.1, D.int p.2)).map (fun p : D × D => p.2) = (l.map (·.2)).map D.int := by
    rw [List.map_map, List.map_map]
    rfl
  rw [e, dInts_map]
  exact ⟨rfl, hE _⟩
theorem p_shr {s : S} {x : D} (h : d env = .ok s e1) (he : esc e1 s = some (x, e2)) : dShr d env = .ok (.sh x) e2 := by
  unfold dShr
  rw [h]
  show (match esc e1 s with
    | some (d, e') => Res.ok (S.sh d) e'
    | none => .bad) = _
  rw [he]
theorem x_shr (en : α → D) (mk : α → S) (Ef : α → Env) {r : R α} (h : X Z env Ef mk d r) (he : ∀ a, esc (Ef a) (mk a) = some (en a, Ef a)) : X Z env Ef (fun a => .sh (en a)) (dShr d) r := by
  refine Sm.last h fun a s e ⟨q1, q2⟩ => ?_
  rw [q1, q2, he a]
  exact ⟨rfl, rfl⟩
theorem x_shrW (en : α → D) {r : R (Bool × α)} {Ef : α → Env} (h : X Z env (fun _ => e1) (fun a => wS a.1 (en a.2)) d r) (hE : ∀ a, e1 = Ef a) : X Z env Ef (fun a => .sh (en a)) (dShr d) (r.bind fun a => .ok a.2) := by
  refine Sm.bind h fun a s e ⟨q1, q2⟩ => ?_
  rw [q1, q2]
  obtain ⟨b, x⟩ := a
  cases b with
  | true => exact ⟨rfl, hE _⟩
  | false => exact ⟨rfl, hE _⟩
/-! ### walks -/
theorem w_keys {s : S} (l : List (κ × ν)) (h : d env = .ok s e1) (he : esc e1 s = some (eK ek ev l, e2)) : W Z env e2 ek (dSrc d) (.ok (l.map (·.1))) := by
  show Sm Z _ (dSrc d env) _
  unfold dSrc
  rw [h]
  show Sm Z _ (srcE (esc e1 s)) _
  rw [he]
  refine ⟨?_, rfl⟩
  show (l.map _).map _ = (l.map _).map _
  rw [List.map_map, List.map_map]
  rfl
theorem w_keysF (mk : List (κ × ν) → S) {r : R (List (κ × ν))} (h : X Z env (fun _ => e1) mk d r) (he : ∀ l, esc e1 (mk l) = some (eK ek ev l, e2)) : W Z env e2 ek (dSrc d) (r.bind fun l => .ok (l.map (·.1))) := by
  refine Sm.bind h fun l s e ⟨q1, q2⟩ => ?_
  rw [q1, q2]
  show Sm Z _ (srcE (esc e1 (mk l))) _
  rw [he]
  refine ⟨?_, rfl⟩
  show (l.map _).map _ = (l.map _).map _
  rw [List.map_map, List.map_map]
  rfl
def srcD (sel : D × D → D) : Option (D × Env) → Res (List D)
  | some (.dic ds, e') => .ok (ds.map sel) e'
  | _ => .bad
theorem w_vals {s : S} (l : List (κ × ν)) (h : d env = .ok s e1) (he : esc e1 s = some (eK ek ev l, e2)) : W Z env e2 ev (dSrcD (·.2) d) (.ok (l.map (·.2))) := by
  show Sm Z _ (dSrcD (·.2) d env) _
  unfold dSrcD
  rw [h]
  show Sm Z _ (srcD (·.2) (esc e1 s)) _
  rw [he]
  refine ⟨?_, rfl⟩
  show (l.map _).map _ = (l.map _).map _
  rw [List.map_map, List.map_map]
  rfl
theorem w_valsF (mk : List (κ × ν) → S) {r : R (List (κ × ν))} (h : X Z env (fun _ => e1) mk d r) (he : ∀ l, esc e1 (mk l) = some (eK ek ev l, e2)) : W Z env e2 ev (dSrcD (·.2) d) (r.bind fun l => .ok (l.map (·.2))) := by
  refine Sm.bind h fun l s e ⟨q1, q2⟩ => ?_
  rw [q1, q2]
  show Sm Z _ (srcD (·.2) (esc e1 (mk l))) _
  rw [he]
  refine ⟨?_, rfl⟩
  show (l.map _).map _ = (l.map _).map _
  rw [List.map_map, List.map_map]
  rfl
theorem w_items {s : S} (l : List (κ × ν)) (h : d env = .ok s e1) (he : esc e1 s = some (eK ek ev l, e2)) : W Z env e2 (eP ek ev) (dSrcD selI d) (.ok l) := by
  show Sm Z _ (dSrcD selI d env) _
  unfold dSrcD
  rw [h]
  show Sm Z _ (srcD selI (esc e1 s)) _
  rw [he]
  refine ⟨?_, rfl⟩
  show (l.map _).map _ = l.map _
  rw [List.map_map]
  rfl
theorem w_itemsF (mk : List (κ × ν) → S) {r : R (List (κ × ν))} (h : X Z env (fun _ => e1) mk d r) (he : ∀ l, esc e1 (mk l) = some (eK ek ev l, e2)) : W Z env e2 (eP ek ev) (dSrcD selI d) r := by
  refine Sm.last h fun l s e ⟨q1, q2⟩ => ?_
  rw [q1, q2]
  show Sm Z _ (srcD selI (esc e1 (mk l))) _
  rw [he]
  refine ⟨?_, rfl⟩
  show (l.map _).map _ = l.map _
  rw [List.map_map]
  rfl
end
/-! ### tuple(range(a, b, -1)), [..] * n -/
def rgdI (a b : Int) : List Int := (List.range (a - b).toNat).map fun k : Nat => a - (k : Int)
def R.rgd (a b : Int) : R (List Int) := if -(2 ^ 62) ≤ a ∧ a < 2 ^ 62 ∧ -(2 ^ 62) ≤ b ∧ b < 2 ^ 62 ∧ (a - b).toNat ≤ 2 ^ 24 then .ok (rgdI a b) else .bad
theorem u_trg3 {P : ρ → S → Env → Prop} {fs : List Den} {q : R ρ} (h : Sm Z P ((dargs fs env).bind fun ss e => rg3E (rds e ss) e) q) : Sm Z P (dTR3 fs env) q := h
theorem z_trg3 {ss : List S} {a b : Int} {Ef : List Int → Env} (h : rds e1 ss = some [.int a, .int b, .int (-1)]) (he : ∀ x, e1 = Ef x) : Sm Z (XP2 (fun l : List Int => .sh (eT D.int l)) Ef) (rg3E (rds e1 ss) e1) (R.rgd a b) := by
  rw [h]
  show Sm Z _ (if (-1 : Int) = -1 ∧ -(2 ^ 62) ≤ a ∧ a < 2 ^ 62 ∧ -(2 ^ 62) ≤ b ∧ b < 2 ^ 62 ∧ (a - b).toNat ≤ 2 ^ 24 then Res.ok (S.sh (.tup (rngDn a b))) e1 else .bad) _
  unfold R.rgd
  by_cases h : -(2 ^ 62) ≤ a ∧ a < 2 ^ 62 ∧ -(2 ^ 62) ≤ b ∧ b < 2 ^ 62 ∧ (a - b).toNat ≤ 2 ^ 24
  · rw [if_pos ⟨rfl, h⟩, if_pos h]
    refine ⟨?_, he _⟩
    show S.sh (.tup (rngDn a b)) = S.sh (.tup ((rgdI a b).map D.int))
    unfold rngDn rgdI
    rw [List.map_map]
    rfl
  · rw [if_neg (fun z => h z.2), if_neg h]
    exact Sm.bad
def R.rep (l : List α) (k : Int) : R (List α) := if 0 ≤ k ∧ k < 2 ^ 63 ∧ l.length * k.toNat ≤ 16777216 then .ok (List.replicate k.toNat l).flatten else .bad
theorem z_repL {Ef : List α → Env} (e : α → D) (l : List α) (k : Int) (he : ∀ x, e1 = Ef x) : Sm Z (XP2 (fun l : List α => .ow (eL e l)) Ef) (Res.get (bi2 opMul (some (eL e l)) (some (.int k))) e1) (R.rep l k) := by
  show Sm Z _ (Res.get (if 0 ≤ k ∧ k < 2 ^ 63 ∧ (l.map e).length * k.toNat ≤ 16777216 then some (S.ow (.lst (List.replicate k.toNat (l.map e)).flatten)) else none) e1) _
  unfold R.rep
  rw [List.length_map]
  by_cases h : 0 ≤ k ∧ k < 2 ^ 63 ∧ l.length * k.toNat ≤ 16777216
  · rw [if_pos h, if_pos h]
    refine ⟨?_, he _⟩
    show _ = S.ow (.lst ((List.replicate k.toNat l).flatten.map e))
    rw [List.map_flatten, List.map_replicate]
  · rw [if_neg h, if_neg h]; exact Sm.bad
/-! ### orders -/
open PySem.W (alike dataLt dataLe keyToks keyToksAll alikeAll) in
structure OrdE [DecidableEq α] (e : α → D) (lt : α → α → Bool) : Prop where
  al : ∀ a b, alike (e a).py (e b).py = true
  eq : ∀ a b, PyData.eqv (e a).py (e b).py = decide (a = b)
  lt_eq : ∀ a b, dataLt (e a).py (e b).py = lt a b
def lexB [DecidableEq α] (lt : α → α → Bool) : List α → List α → Bool
  | [], [] => false
  | [], _ :: _ => true
  | _ :: _, [] => false
  | a :: r, b :: s => if a = b then lexB lt r s else lt a b
section
variable [DecidableEq α] [DecidableEq β] {lt : α → α → Bool} {lt' : β → β → Bool}
open PySem.W (alike dataLt dataLe keyToks keyToksAll alikeAll)
theorem OrdE.int : OrdE D.int fun a b => decide (a < b) := ⟨fun _ _ => rfl, fun _ _ => rfl, fun a b => PySem.W.dataLt_int a b⟩
theorem OrdE.alAll (O : OrdE e lt) : ∀ l m : List α, alikeAll (pys (l.map e)) (pys (m.map e)) = true
  | [], _ => by simp [pys, alikeAll]
  | _ :: _, [] => by simp [pys, alikeAll]
  | a :: l, b :: m => by
    rw [List.map_cons, List.map_cons, pys, pys, alikeAll, O.al a b, OrdE.alAll O l m]
    rfl
theorem OrdE.ltAll (O : OrdE e lt) : ∀ l m : List α, PyProof.Rows.lexLt itemOrd (keyToksAll (pys (l.map e))) (keyToksAll (pys (m.map e))) = lexB lt l m
  | [], [] => by
    simp only [List.map_nil, pys, keyToksAll, lexB]
    rw [PyProof.Rows.lex_self]
    rfl
  | [], _ :: _ => by
    simp only [List.map_nil, List.map_cons, pys, keyToksAll, lexB]
    rw [PyProof.Rows.lex_diff (by intro z; cases z)]
    rfl
  | _ :: _, [] => by
    simp only [List.map_nil, List.map_cons, pys, keyToksAll, lexB]
    rw [PyProof.Rows.lex_diff (by intro z; cases z)]
    rfl
  | a :: l, b :: m => by
    rw [List.map_cons, List.map_cons, pys, pys, lexB]
    by_cases h : a = b
    · rw [if_pos h, PySem.W.dataLt_all_yes (O.al a b) (by rw [O.eq, decide_eq_true h])]
      exact OrdE.ltAll O l m
    · rw [if_neg h, PySem.W.dataLt_all_no (O.al a b) (by rw [O.eq, decide_eq_false h])]
      exact O.lt_eq a b
theorem OrdE.tup (O : OrdE e lt) : OrdE (eT e) (lexB lt) := ⟨fun l m => by
    show alike (.tuple (pys (l.map e))) (.tuple (pys (m.map e))) = true
    rw [alike]
    exact O.alAll l m, fun l m => by
    show PyData.eqv (.tuple (pys (l.map e))) (.tuple (pys (m.map e))) = _
    rw [PyData.eqv]
    have go : ∀ l m : List α, PyData.eqvAll (pys (l.map e)) (pys (m.map e)) = decide (l = m) := by
      intro l
      induction l with
      | nil => intro m; cases m <;> rfl
      | cons a l ih =>
        intro m
        cases m with
        | nil => rfl
        | cons b m =>
          rw [List.map_cons, List.map_cons, pys, pys, PyData.eqvAll, O.eq a b, ih m]
          by_cases h1 : a = b <;> by_cases h2 : l = m <;> simp [h1, h2]
    exact go l m, fun l m => by
    show dataLt (.tuple (pys (l.map e))) (.tuple (pys (m.map e))) = _
    rw [PySem.W.dataLt_tuple]
    exact O.ltAll l m⟩
theorem OrdE.lst (O : OrdE e lt) : OrdE (eL e) (lexB lt) := ⟨fun l m => by
    show alike (.list (pys (l.map e))) (.list (pys (m.map e))) = true
    rw [alike]
    exact O.alAll l m, fun l m => O.tup.eq l m, fun l m => by
    show dataLt (.list (pys (l.map e))) (.list (pys (m.map e))) = _
    rw [PySem.W.dataLt_list]
    exact O.ltAll l m⟩
def lexP (lt : α → α → Bool) (lt' : β → β → Bool) (p q : α × β) : Bool := if p.1 = q.1 then lt' p.2 q.2 else lt p.1 q.1
theorem OrdE.pair (O : OrdE e lt) (O' : OrdE e' lt') : OrdE (eP e e') (lexP lt lt') := ⟨fun p q => by
    show alike (.tuple [(e p.1).py, (e' p.2).py]) (.tuple [(e q.1).py, (e' q.2).py]) = true
    rw [alike, alikeAll, alikeAll, O.al, O'.al]
    rfl, fun p q => by
    show (PyData.eqv _ _ && (PyData.eqv _ _ && true)) = _
    rw [O.eq, O'.eq]
    obtain ⟨a, b⟩ := p
    obtain ⟨c, d⟩ := q
    by_cases h1 : a = c <;> by_cases h2 : b = d <;> simp [h1, h2], fun p q => by
    show dataLt (.tuple [(e p.1).py, (e' p.2).py]) (.tuple [(e q.1).py, (e' q.2).py]) = _
    rw [PySem.W.dataLt_tuple]
    unfold lexP
    by_cases h : p.1 = q.1
    · rw [if_pos h, PySem.W.dataLt_all_yes (O.al _ _) (by rw [O.eq, decide_eq_true h])]
      by_cases h2 : p.2 = q.2
      · rw [PySem.W.dataLt_all_yes (O'.al _ _) (by rw [O'.eq, decide_eq_true h2])]
        have z : PyProof.Rows.lexLt itemOrd (keyToksAll []) (keyToksAll []) = false := by
          simp only [keyToksAll]
          rw [PyProof.Rows.lex_self]
          rfl
        rw [z, ← h2, ← O'.lt_eq]
        have go : ∀ l : List (Int ⊕ List Nat), PyProof.Rows.lexLt itemOrd l l = false := by
          intro l
          induction l with
          | nil => rfl
          | cons x l ih => rw [PyProof.Rows.lex_self]; exact ih
        exact (go _).symm
      · rw [PySem.W.dataLt_all_no (O'.al _ _) (by rw [O'.eq, decide_eq_false h2])]
        exact O'.lt_eq _ _
    · rw [if_neg h, PySem.W.dataLt_all_no (O.al _ _) (by rw [O.eq, decide_eq_false h])]
      exact O.lt_eq _ _⟩
/-! ### sorted -/
def insG (le : α → α → Bool) (a : α) : List α → List α
  | [] => [a]
  | b :: r => if le a b = true then a :: b :: r else b :: insG le a r
def isortG (le : α → α → Bool) : List α → List α
  | [] => []
  | a :: r => insG le a (isortG le r)
theorem OrdE.le (O : OrdE e lt) (a b : α) : leI (e a) (e b) = !lt b a := by
  rw [leI_eq]
  show (!dataLt (e b).py (e a).py) = _
  rw [O.lt_eq]
theorem insD_mapG (O : OrdE e lt) (a : α) : ∀ l : List α, insD leI (e a) (l.map e) = (insG (fun a b => !lt b a) a l).map e
  | [] => rfl
  | b :: r => by
    rw [List.map_cons, insD, insG, O.le]
    by_cases h : (!lt b a) = true
    · rw [if_pos h, if_pos h]; rfl
    · rw [if_neg h, if_neg h, insD_mapG O a r]; rfl
theorem isortD_mapG (O : OrdE e lt) : ∀ l : List α, isortD leI (l.map e) = (isortG (fun a b => !lt b a) l).map e
  | [] => rfl
  | a :: r => by
    rw [List.map_cons, isortD, isortD_mapG O r, insD_mapG O]
    rfl
/-- what may be sorted -/
structure Srt (e : α → D) (lt : α → α → Bool) (ok : List α → Bool) : Prop where
  o : OrdE e lt
  ok : ∀ l, ok l = true → sortOk (l.map e) = true
theorem Srt.int : Srt D.int (fun a b => decide (a < b)) fun _ => true := ⟨.int, fun l _ => by rw [sortOk, all_isI]; rfl⟩
theorem gen_base {k : Nat} (O : OrdE e lt) (E : Enc k e) (hk : k ≤ 50) (l : List α) : ((l.map e).all (fun d => d.py.canLay0 && decide (d.py.depth ≤ 50)) && (l.map e).all (fun d => (l.map e).all fun d' => alike d.py d'.py)) = true := by
  rw [Bool.and_eq_true, List.all_eq_true, List.all_eq_true]
  refine ⟨fun d hd => ?_, fun d hd => ?_⟩
  · obtain ⟨a, _, rfl⟩ := List.mem_map.mp hd
    rw [E.lay, decide_eq_true (Nat.le_trans (E.dep a) hk)]
    rfl
  · rw [List.all_eq_true]
    intro d' hd'
    obtain ⟨a, _, rfl⟩ := List.mem_map.mp hd
    obtain ⟨b, _, rfl⟩ := List.mem_map.mp hd'
    exact O.al a b
theorem Srt.tup {k : Nat} (O : OrdE e lt) (E : Enc k (eT e)) (hk : k ≤ 50) : Srt (eT e) (lexB lt) fun l => l.all (fun x => !x.isEmpty) || decide (l.length ≤ 1) := ⟨O.tup, fun l h => by
  rw [Bool.or_eq_true] at h
  rw [sortOk, Bool.or_eq_true, Bool.or_eq_true]
  rcases h with h | h
  · refine .inl (.inr ?_)
    unfold genOk
    rw [gen_base O.tup E hk l]
    rw [Bool.true_and, Bool.or_eq_true]
    refine .inl ?_
    rw [List.all_eq_true]
    intro d hd
    obtain ⟨x, hx, rfl⟩ := List.mem_map.mp hd
    have hn := List.all_eq_true.mp h x hx
    cases x with
    | nil => cases hn
    | cons a r => rfl
  · refine .inr ?_
    have hl := of_decide_eq_true h
    cases l with
    | nil => rfl
    | cons x r =>
      cases r with
      | nil =>
        show (PyData.canLay0 (eT e x).py && decide (PyData.depth (eT e x).py ≤ 50) && alike (eT e x).py (eT e x).py && true) = true
        rw [E.lay, decide_eq_true (Nat.le_trans (E.dep x) hk), O.tup.al]
        rfl
      | cons y r => exact absurd hl (by simp)⟩
theorem Srt.pair {k : Nat} (O : OrdE e lt) (O' : OrdE e' lt') (E : Enc k (eP e e')) (hk : k ≤ 50) : Srt (eP e e') (lexP lt lt') fun _ => true := ⟨O.pair O', fun l _ => by
  rw [sortOk, Bool.or_eq_true, Bool.or_eq_true]
  refine .inl (.inr ?_)
  unfold genOk
  rw [gen_base (O.pair O') E hk l]
  rw [Bool.true_and, Bool.or_eq_true]
  refine .inl ?_
  rw [List.all_eq_true]
  intro d hd
  obtain ⟨x, hx, rfl⟩ := List.mem_map.mp hd
  rfl⟩
def R.sortG (lt : α → α → Bool) (ok : List α → Bool) (l : List α) : R (List α) := if l.length ≤ 16777216 ∧ ok l = true then .ok (isortG (fun a b => !lt b a) l) else .bad
theorem z_sortGL {ok : List α → Bool} {Ef : List α → Env} (O : Srt e lt ok) (l : List α) (he : ∀ a, e1 = Ef a) : Sm Z (XP2 (fun l : List α => .ow (eL e l)) Ef) (Res.get (opSorted [eL e l]) e1) (R.sortG lt ok l) := by
  show Sm Z _ (Res.get (if (l.map e).length ≤ 16777216 ∧ sortOk (l.map e) = true then some (S.ow (.lst (isortD leI (l.map e)))) else none) e1) _
  unfold R.sortG
  by_cases h : l.length ≤ 16777216 ∧ ok l = true
  · rw [if_pos h, if_pos ⟨by rw [List.length_map]; exact h.1, O.ok l h.2⟩, isortD_mapG O.o]
    exact ⟨rfl, he _⟩
  · rw [if_neg h]; exact Sm.bad
theorem z_sortGT {ok : List α → Bool} {Ef : List α → Env} (O : Srt e lt ok) (l : List α) (he : ∀ a, e1 = Ef a) : Sm Z (XP2 (fun l : List α => .ow (eL e l)) Ef) (Res.get (opSorted [eT e l]) e1) (R.sortG lt ok l) := by
  show Sm Z _ (Res.get (if (l.map e).length ≤ 16777216 ∧ sortOk (l.map e) = true then some (S.ow (.lst (isortD leI (l.map e)))) else none) e1) _
  unfold R.sortG
  by_cases h : l.length ≤ 16777216 ∧ ok l = true
  · rw [if_pos h, if_pos ⟨by rw [List.length_map]; exact h.1, O.ok l h.2⟩, isortD_mapG O.o]
    exact ⟨rfl, he _⟩
  · rw [if_neg h]; exact Sm.bad
end
end
end T

/-! TW: plain facts about typed runs. -/
namespace T
open PySem PySem.Spec PyProof.Rows L2
section
variable {α β γ σ τ : Type}
/-! ### how a run ends -/
def R.is (r : R α) (p : α → Bool) : Bool := match r with
  | .ok a => p a
  | _ => false
theorem R.is_ok {r : R α} {p : α → Bool} (h : r.is p = true) : ∃ a, r = .ok a ∧ p a = true := by
  cases r with
  | ok a => exact ⟨a, rfl, h⟩
  | _ => cases h
theorem R.is_eq [DecidableEq α] {r : R α} {v : α} (h : r.is (fun a => decide (a = v)) = true) : r = .ok v := by
  obtain ⟨a, e, q⟩ := R.is_ok h
  rw [e, of_decide_eq_true q]
/-- what all draws lead to -/
def R.all : R α → (α → Bool) → Bool
  | .ok a, p => p a
  | .ask n k, p => (List.range n).all fun r => R.all (k r) p
  | _, _ => false
theorem R.all_wp {p : α → Bool} : ∀ {r : R α}, r.all p = true → r.wp fun a => p a = true
  | .ok a, h => h
  | .exc _, h => by cases h
  | .bad, h => by cases h
  | .ask n k, h => fun r hr => R.all_wp (List.all_eq_true.mp h r (List.mem_range.mpr hr))
theorem R.wp_ok {a : α} {Q : α → Prop} (h : Q a) : (R.ok a).wp Q := h
theorem R.wp_eq {r : R α} {a : α} {Q : α → Prop} (e : r = .ok a) (h : Q a) : r.wp Q := by rw [e]; exact h
theorem R.wp_seq {r : R α} {f : α → R β} {P : α → Prop} {Q : β → Prop} (h : r.wp P) (hf : ∀ a, P a → (f a).wp Q) : (r.bind f).wp Q := R.wp_bind.mpr (R.wp_mono h hf)
theorem R.seq_eq {r : R α} {f : α → R β} {a : α} {q : R β} (e : r = .ok a) (h : f a = q) : r.bind f = q := by rw [e]; exact h
theorem wp_draw {n : Int} {Q : Int → Prop} (h0 : 0 < n) (h1 : n < 1073741824) (h : ∀ r : Int, 0 ≤ r → r < n → Q r) : (R.draw n).wp Q := by
  unfold R.draw
  rw [if_pos ⟨h0, h1⟩]
  intro r hr
  exact h r (by omega) (by omega)
theorem rng_ok {a b : Int} (h : rngOk a b) : R.rng a b = .ok (rngI a b) := if_pos h
theorem rgl_ok {a b : Int} (h : RgOk a b) : R.rgl a b = .ok (rngI a b) := if_pos h
theorem mem_rngI {a b x : Int} : x ∈ rngI a b ↔ a ≤ x ∧ x < b := by
  unfold rngI
  rw [List.mem_map]
  constructor
  · rintro ⟨k, hk, rfl⟩
    have := List.mem_range.mp hk
    omega
  · intro h
    exact ⟨(x - a).toNat, List.mem_range.mpr (by omega), by omega⟩
theorem R.cat_congr {h h' : α → R (List β)} : ∀ {l : List α}, (∀ a ∈ l, h a = h' a) → R.cat h l = R.cat h' l
  | [], _ => rfl
  | a :: r, H => by rw [R.cat, R.cat, H a List.mem_cons_self, R.cat_congr fun b hb => H b (List.mem_cons_of_mem _ hb)]
theorem R.lc_congr {tt tt' : α → R Bool} {ff ff' : α → R β} {l : List α} (h1 : ∀ a ∈ l, tt a = tt' a) (h2 : ∀ a ∈ l, ff a = ff' a) : R.lc tt ff l = R.lc tt' ff' l := by
  unfold R.lc
  rw [R.cat_congr (h' := R.one tt' ff') fun a ha => by unfold R.one; rw [h1 a ha, h2 a ha]]
theorem lcp_ok {p : α → Bool} {v : α → β} {l : List α} (h : l.length ≤ 16777216) : R.lcp p v l = .ok (fm p v l) := if_pos h
theorem lcp_src {p : α → Bool} {v : α → β} {l : List α} (h : l.length ≤ 16777216) : (R.ok l).bind (R.lcp p v) = .ok (fm p v l) := if_pos h
theorem fm_id (p : α → Bool) (l : List α) : fm p (fun a => a) l = l.filter p := List.map_id _
theorem wp_forL {ff : σ → γ → R (O σ τ)} {I : σ → Prop} : ∀ {l : List γ} {s : σ}, (∀ s c, c ∈ l → I s → (ff s c).wp fun o => ∃ s', o = .nx s' ∧ I s') → I s → (R.forL ff l s).wp fun o => ∃ s', o = .nx s' ∧ I s'
  | [], s, _, hs => ⟨s, rfl, hs⟩
  | a :: r, s, H, hs => R.wp_seq (H s a List.mem_cons_self hs) fun o ⟨s', e, hs'⟩ => by
    rw [e]
    exact wp_forL (fun s c hc => H s c (List.mem_cons_of_mem _ hc)) hs'
theorem forL_ok {ff : σ → γ → R (O σ τ)} : ∀ {l : List γ} {s : σ}, (∀ s c, c ∈ l → ∃ s', ff s c = .ok (.nx s')) → ∃ s', R.forL ff l s = .ok (.nx s')
  | [], s, _ => ⟨s, rfl⟩
  | a :: r, s, H => by
    obtain ⟨s', e⟩ := H s a List.mem_cons_self
    obtain ⟨s2, e2⟩ := forL_ok (l := r) (s := s') fun s c hc => H s c (List.mem_cons_of_mem _ hc)
    exact ⟨s2, by rw [R.forL, e]; exact e2⟩
/-! ### all ways to put things in a row -/
def ins (a : α) : List α → List (List α)
  | [] => [[a]]
  | b :: l => (a :: b :: l) :: (ins a l).map (b :: ·)
def perms : List α → List (List α)
  | [] => [[]]
  | a :: l => (perms l).flatMap (ins a)
theorem mem_ins (a : α) : ∀ s t : List α, s ++ a :: t ∈ ins a (s ++ t)
  | [], [] => List.mem_singleton.mpr rfl
  | [], b :: t => List.mem_cons_self
  | b :: s, t => List.mem_cons_of_mem _ (List.mem_map.mpr ⟨s ++ a :: t, mem_ins a s t, rfl⟩)
theorem mem_perms : ∀ {l p : List α}, p.Perm l → p ∈ perms l
  | [], p, h => by rw [List.perm_nil.mp h]; exact List.mem_singleton.mpr rfl
  | a :: l, p, h => by
    obtain ⟨s, t, rfl⟩ := List.append_of_mem (h.symm.subset List.mem_cons_self)
    have h2 : (s ++ t).Perm l := (List.perm_middle.symm.trans h).cons_inv
    exact List.mem_flatMap.mpr ⟨s ++ t, mem_perms h2, mem_ins a s t⟩
theorem ins_perm (a : α) : ∀ {l p : List α}, p ∈ ins a l → p.Perm (a :: l)
  | [], p, h => by rw [List.mem_singleton.mp h]
  | b :: l, p, h => by
    rcases List.mem_cons.mp h with rfl | h
    · exact .refl _
    · obtain ⟨q, hq, rfl⟩ := List.mem_map.mp h
      exact ((ins_perm a hq).cons b).trans (List.Perm.swap a b l)
theorem perms_perm : ∀ {l p : List α}, p ∈ perms l → p.Perm l
  | [], p, h => by rw [List.mem_singleton.mp h]
  | a :: l, p, h => by
    obtain ⟨q, hq, h⟩ := List.mem_flatMap.mp h
    exact (ins_perm a h).trans ((perms_perm hq).cons a)
theorem erase_perm : ∀ {l : List α} {i : Nat} {x : α}, l[i]? = some x → (x :: l.eraseIdx i).Perm l
  | [], i, x, h => by simp at h
  | a :: l, 0, x, h => by cases h; exact .refl _
  | a :: l, i + 1, x, h => (List.Perm.swap a x _).trans ((erase_perm (l := l) (i := i) (by simpa using h)).cons a)
theorem ixN_nat {n k : Nat} (h : k < n) : ixN n (k : Int) = some k := by
  unfold ixN
  rw [if_pos (by omega), if_pos (by omega)]
  rfl
theorem popAt_ok {l : List α} {i : Int} (h0 : 0 ≤ i) (h1 : i < l.length) (hl : l.length ≤ 1000000) : ∃ x, l[i.toNat]? = some x ∧ R.popAt l i = .ok (x, l.eraseIdx i.toNat) := by
  have hi : i.toNat < l.length := by omega
  refine ⟨l[i.toNat], List.getElem?_eq_getElem hi, ?_⟩
  have e : ixN l.length i = some i.toNat := by
    have := ixN_nat hi
    rwa [Int.toNat_of_nonneg h0] at this
  unfold R.popAt
  rw [if_pos ⟨by omega, by omega⟩, e]
  show (match l[i.toNat]? with
      | some d => R.ok (d, l.eraseIdx i.toNat)
      | none => .bad) = _
  rw [List.getElem?_eq_getElem hi]
/-- things taken out at drawn places -/
def shufT (s : List Int × List Int) : R Bool := R.ok (!decide (s.1 = ([] : List Int)))
def shufF (s2 : List Int × List Int) : R (List Int × List Int) := (R.bind (R.bind (R.bind (R.draw ((s2.1.length : Int))) fun (v3 : Int) => (R.popAt s2.1 v3)) fun (v4 : (Int × (List Int))) => (R.bind (R.push s2.2 v4.1) fun l => .ok (l, v4.2))) fun (l5 : ((List Int) × (List Int))) => .ok (l5.2, l5.1))
theorem loop_shuf : ∀ (n : Nat) (s : List Int × List Int), s.1.length < n → s.1.length + s.2.length ≤ 1000 → (R.loop shufT shufF n s).wp fun q => q.2.Perm (s.2 ++ s.1)
  | 0, s, h, _ => by omega
  | n + 1, s, h, hb => by
    rw [R.loop]
    show R.wp (if (!decide (s.1 = ([] : List Int))) = true then (shufF s).bind _ else _) _
    by_cases e : s.1 = []
    · rw [if_neg (by rw [decide_eq_true e]; exact Bool.false_ne_true)]
      show s.2.Perm (s.2 ++ s.1)
      rw [e, List.append_nil]
    · rw [if_pos (by rw [decide_eq_false e]; rfl)]
      have hl : 0 < s.1.length := List.length_pos_iff.mpr e
      refine R.wp_seq (P := fun t => ∃ x i, s.1[i]? = some x ∧ t = (s.1.eraseIdx i, s.2 ++ [x])) ?_ ?_
      · refine R.wp_seq (P := fun t => ∃ x i, s.1[i]? = some x ∧ t = (s.2 ++ [x], s.1.eraseIdx i)) ?_ fun t ⟨x, i, h1, h2⟩ => ?_
        · refine R.wp_seq (P := fun v => ∃ x i, s.1[i]? = some x ∧ v = (x, s.1.eraseIdx i)) ?_ fun v ⟨x, i, h1, h2⟩ => ?_
          · refine R.wp_seq (wp_draw (Q := fun r => 0 ≤ r ∧ r < s.1.length) (by omega) (by omega) fun r a b => ⟨a, b⟩) fun r ⟨a, b⟩ => ?_
            obtain ⟨x, e1, e2⟩ := popAt_ok a b (by omega)
            rw [e2]
            exact ⟨x, _, e1, rfl⟩
          · subst h2
            unfold R.push
            rw [if_pos (by omega)]
            exact ⟨x, i, h1, rfl⟩
        · subst h2
          exact ⟨x, i, h1, rfl⟩
      · rintro t ⟨x, i, h1, rfl⟩
        have hi : i < s.1.length := by
          rcases Nat.lt_or_ge i s.1.length with h | h
          · exact h
          · rw [List.getElem?_eq_none h] at h1; cases h1
        have hlen : (s.1.eraseIdx i).length = s.1.length - 1 := List.length_eraseIdx_of_lt hi
        refine R.wp_mono (loop_shuf n (s.1.eraseIdx i, s.2 ++ [x]) (by show (s.1.eraseIdx i).length < n; omega) (by show (s.1.eraseIdx i).length + (s.2 ++ [x]).length ≤ 1000; rw [List.length_append, List.length_singleton]; omega)) fun q hq => ?_
        refine List.Perm.trans hq ?_
        show ((s.2 ++ [x]) ++ s.1.eraseIdx i).Perm _
        rw [List.append_assoc]
        exact (erase_perm h1).append_left s.2
/-! ### slices -/
theorem cut_to (l : List α) (k : Nat) : cutG l none (some (k : Int)) = l.take k := by
  unfold cutG
  rw [HT.sIx_none, HT.sIx_nat, List.drop_zero, Nat.sub_zero]
  by_cases h : k ≤ l.length
  · rw [Nat.min_eq_left h]
  · rw [Nat.min_eq_right (by omega), List.take_of_length_le (Nat.le_refl _), List.take_of_length_le (by omega)]
theorem cut_from (l : List α) (k : Nat) : cutG l (some (k : Int)) none = l.drop k := by
  unfold cutG
  rw [HT.sIx_none, HT.sIx_nat]
  by_cases h : k ≤ l.length
  · rw [Nat.min_eq_left h, List.take_of_length_le (by rw [List.length_drop]; exact Nat.le_refl _)]
  · rw [Nat.min_eq_right (by omega), List.drop_of_length_le (Nat.le_refl _), List.drop_of_length_le (by omega), List.take_nil]
theorem cut_mid (l : List α) (a b : Nat) (hb : b ≤ l.length) (ha : a ≤ b) : cutG l (some (a : Int)) (some (b : Int)) = (l.drop a).take (b - a) := by
  unfold cutG
  rw [HT.sIx_nat, HT.sIx_nat, Nat.min_eq_left hb, Nat.min_eq_left (show a ≤ l.length by omega)]
theorem atI_nat {l : List α} {k : Nat} : atI l (k : Int) = l[k]? := by
  unfold atI
  by_cases h : k < l.length
  · rw [ixN_nat h]
    rfl
  · unfold ixN
    rw [if_pos (by omega), if_neg (by omega), List.getElem?_eq_none (by omega)]
    rfl
theorem setL_nat {l : List α} {k : Nat} (x : α) (h : k < l.length) : setL l (k : Int) x = some (l.set k x) := by
  unfold setL
  rw [ixN_nat h]
  rfl
theorem app_ok {l m : List α} (h : l.length + m.length ≤ 16777216) : R.app l m = .ok (l ++ m) := if_pos h
end
end T

/-! TW2: what all draws lead to. -/
namespace T
open PySem PySem.Spec PyProof.Rows L2
section
variable {α β γ σ τ : Type}
/-! ### the same as a thing of its own -/
structure Wp (r : R α) (Q : α → Prop) : Prop where
  out : r.wp Q
theorem Wp.ok {a : α} {Q : α → Prop} (h : Q a) : Wp (.ok a) Q := ⟨h⟩
theorem Wp.eq {r : R α} {a : α} {Q : α → Prop} (e : r = .ok a) (h : Q a) : Wp r Q := ⟨R.wp_eq e h⟩
theorem Wp.seq {r : R α} {f : α → R β} {P : α → Prop} {Q : β → Prop} (h : Wp r P) (hf : ∀ a, P a → Wp (f a) Q) : Wp (r.bind f) Q := ⟨R.wp_seq h.out fun a p => (hf a p).out⟩
theorem Wp.mono {r : R α} {P Q : α → Prop} (h : Wp r P) (hq : ∀ a, P a → Q a) : Wp r Q := ⟨R.wp_mono h.out hq⟩
theorem Wp.draw {n : Int} (h0 : 0 < n) (h1 : n < 1073741824) : Wp (R.draw n) fun r => 0 ≤ r ∧ r < n := ⟨wp_draw h0 h1 fun r a b => ⟨a, b⟩⟩
theorem Wp.get {o : Option α} {a : α} {Q : α → Prop} (e : o = some a) (h : Q a) : Wp (R.get o) Q := ⟨by rw [e]; exact h⟩
theorem Wp.forL {l : List γ} {ff : σ → γ → R (O σ τ)} {I : σ → Prop} {s : σ} (h : ∀ s c, c ∈ l → I s → Wp (ff s c) fun o => ∃ s', o = .nx s' ∧ I s') (hs : I s) : Wp (R.forL ff l s) fun o => ∃ s', o = .nx s' ∧ I s' := ⟨wp_forL (fun s c hc hi => (h s c hc hi).out) hs⟩
theorem Wp.shuf (l : List Int) (h : l.length < 64) : Wp (R.loop shufT shufF 64 (l, [])) fun q => q.2.Perm l := ⟨loop_shuf 64 (l, []) h (by show l.length + 0 ≤ 1000; omega)⟩
theorem Wp.onT {ra : R (O σ τ)} {k : σ → R τ} {P : σ → Prop} {Q : τ → Prop} (h : Wp ra fun o => ∃ s, o = .nx s ∧ P s) (hk : ∀ s, P s → Wp (k s) Q) : Wp (ra.onT k) Q := Wp.seq h fun o ⟨s, e, p⟩ => by
  rw [e]
  exact hk s p
end
end T

/-! TSeq: sequences of wires in plain terms. -/
namespace T
open PySem PySem.Spec PyProof.Rows L2
abbrev Pm (n : Nat) : List (List Int) := perms (rngI 1 ((n : Int) + 1))
def cnt (p : List Int) (i j : Int) : Int := (((cutG p none (some i)).filter fun w => decide (w ≤ j)).length : Nat)
def swp (p : List Int) (a b : Nat) : List Int := (p.set a (p.getD b 0)).set b (p.getD a 0)
def dbl : List Int → Nat
  | [] => 0
  | a :: l => (l.filter fun b => decide (b < a)).length + dbl l
theorem all_step {α : Type} {P : α → Bool} {l : List α} {a : Nat} (c : Nat) (h : ((l.drop a).take c).all P = true) (h2 : (l.drop (a + c)).all P = true) : (l.drop a).all P = true := by
  rw [← List.take_append_drop c (l.drop a), List.all_append, h, List.drop_drop, h2]
  rfl
/-! ### two places of a row -/
theorem set_app {α : Type} (L : List α) (v : α) (k : Nat) : ∀ A : List α, (A ++ L).set (A.length + k) v = A ++ L.set k v
  | [] => by simp
  | a :: A => by
    rw [List.cons_append, List.length_cons, Nat.add_right_comm, List.set_cons_succ, set_app L v k A, List.cons_append]
theorem get_app {α : Type} (L : List α) (k : Nat) : ∀ A : List α, (A ++ L)[A.length + k]? = L[k]?
  | [] => by simp
  | a :: A => by
    rw [List.cons_append, List.length_cons, Nat.add_right_comm, List.getElem?_cons_succ, get_app L k A]
theorem two_at {p : List Int} {a b : Nat} (hab : a < b) (hb : b < p.length) : ∃ A x B y C, p = A ++ x :: (B ++ y :: C) ∧ A.length = a ∧ A.length + 1 + B.length = b := by
  refine ⟨p.take a, p[a], (p.drop (a + 1)).take (b - a - 1), p[b], p.drop (b + 1), ?_, ?_, ?_⟩
  · have e1 : (p.drop (a + 1)).drop (b - a - 1) = p[b] :: p.drop (b + 1) := by
      rw [List.drop_drop, show a + 1 + (b - a - 1) = b by omega]
      exact List.drop_eq_getElem_cons hb
    rw [← e1, List.take_append_drop, ← List.drop_eq_getElem_cons (show a < p.length by omega), List.take_append_drop]
  · rw [List.length_take]; omega
  · rw [List.length_take, List.length_take, List.length_drop]; omega
section
variable (A B C : List Int) (x y : Int)
theorem at1 : (A ++ x :: (B ++ y :: C))[A.length]? = some x := get_app _ 0 A
theorem at2 : (A ++ x :: (B ++ y :: C))[A.length + 1 + B.length]? = some y := by
  rw [Nat.add_assoc, get_app, Nat.add_comm 1, List.getElem?_cons_succ]
  exact get_app _ 0 B
theorem swp_form : swp (A ++ x :: (B ++ y :: C)) A.length (A.length + 1 + B.length) = A ++ y :: (B ++ x :: C) := by
  unfold swp
  rw [List.getD_eq_getElem?_getD, List.getD_eq_getElem?_getD, at1, at2]
  show ((A ++ x :: (B ++ y :: C)).set (A.length + 0) y).set _ x = _
  rw [set_app, List.set_cons_zero, Nat.add_assoc, set_app, Nat.add_comm 1, List.set_cons_succ]
  have := set_app (y :: C) x 0 B
  rw [Nat.add_zero] at this
  rw [this, List.set_cons_zero]
theorem form_perm : (A ++ y :: (B ++ x :: C)).Perm (A ++ x :: (B ++ y :: C)) := by
  refine List.Perm.append_left A ?_
  refine ((List.perm_middle (l₁ := B) (a := x)).cons y).trans ?_
  exact (List.Perm.swap x y (B ++ C)).trans ((List.perm_middle (l₁ := B) (a := y)).symm.cons x)
end
structure Sq (n : Nat) (p : List Int) : Prop where
  hn : n ∈ [1, 2, 3, 4, 5, 6]
  hp : p ∈ Pm n
section
variable {n : Nat} {p q : List Int}
theorem rngI_len (n : Nat) : (rngI 1 ((n : Int) + 1)).length = n := by
  unfold rngI
  rw [List.length_map, List.length_range]
  omega
theorem Sq.len (h : Sq n p) : p.length = n := (perms_perm h.hp).length_eq.trans (rngI_len n)
theorem Sq.small (h : Sq n p) : n ≤ 6 ∧ 1 ≤ n := by
  have := h.hn
  simp only [List.mem_cons, List.not_mem_nil, or_false] at this
  omega
theorem Sq.perm (h : Sq n p) (e : q.Perm p) : Sq n q := ⟨h.hn, mem_perms (e.trans (perms_perm h.hp))⟩
theorem Sq.le (h : Sq n p) : p.length ≤ 1000 := by rw [h.len]; have := h.small; omega
theorem cut_len (p : List Int) (i : Int) : (cutG p none (some i)).length ≤ p.length := cutG_len ..
theorem Sq.swp (h : Sq n p) {a b : Nat} (hab : a < b) (hb : b < n) : Sq n (swp p a b) := by
  refine h.perm ?_
  obtain ⟨A, x, B, y, C, rfl, rfl, rfl⟩ := two_at hab (by rw [h.len]; exact hb)
  rw [swp_form]
  exact form_perm A B C x y
end
theorem memB_iff {α : Type} [DecidableEq α] {a : α} {l : List α} : memB a l = true ↔ a ∈ l := by
  unfold memB
  rw [List.any_eq_true]
  exact ⟨fun ⟨b, h, e⟩ => by rw [← of_decide_eq_true e]; exact h, fun h => ⟨a, h, decide_eq_true rfl⟩⟩
theorem onT_for {σ τ γ : Type} {ff : σ → γ → R (O σ τ)} {l : List γ} {s0 : σ} {k : σ → R τ} {q : R τ} (h : ∀ s c, c ∈ l → ∃ s', ff s c = .ok (.nx s')) (hk : ∀ s, k s = q) : R.onT (R.forL ff l s0) k = q := by
  obtain ⟨s', e⟩ := forL_ok h (s := s0)
  rw [e]
  exact hk s'
theorem onB_for {ρ σ τ γ : Type} {ff : σ → γ → R (O σ τ)} {l : List γ} {s0 : σ} {u : σ → ρ} (h : ∀ s c, c ∈ l → ∃ s', ff s c = .ok (.nx s')) : ∃ s', R.onB (R.forL ff l s0) (fun s => .ok (.nx (u s))) = .ok (.nx s') := by
  obtain ⟨s', e⟩ := forL_ok h (s := s0)
  rw [e]
  exact ⟨_, rfl⟩
/-! ### how corners change -/
theorem cnt_nat (p : List Int) (k : Nat) (j : Int) : cnt p (k : Int) j = (((p.take k).filter fun w => decide (w ≤ j)).length : Nat) := by
  unfold cnt
  rw [cut_to]
theorem take_mid (L : List Int) (m : Nat) : ∀ A : List Int, (A ++ L).take (A.length + m) = A ++ L.take m
  | [] => by simp
  | a :: A => by rw [List.cons_append, List.length_cons, Nat.add_right_comm, List.take_succ_cons, take_mid L m A]; rfl
theorem take_low (L : List Int) : ∀ (A : List Int) (m : Nat), m ≤ A.length → (A ++ L).take m = A.take m
  | A, 0, _ => rfl
  | [], m + 1, h => by simp at h
  | a :: A, m + 1, h => by rw [List.cons_append, List.take_succ_cons, List.take_succ_cons, take_low L A m (by simpa using h)]
theorem flt (A : List Int) (u : Int) (L : List Int) (j : Int) : ((A ++ u :: L).filter fun w => decide (w ≤ j)).length = (A.filter fun w => decide (w ≤ j)).length + (if u ≤ j then 1 else 0) + (L.filter fun w => decide (w ≤ j)).length := by
  rw [List.filter_append, List.length_append, List.filter_cons]
  by_cases h : u ≤ j
  · rw [if_pos (decide_eq_true h), if_pos h, List.length_cons]; omega
  · rw [if_neg (by simpa using h), if_neg h]; omega
theorem flt2 (A B C : List Int) (j : Int) (u v : Int) : ((A ++ u :: (B ++ v :: C)).filter fun w => decide (w ≤ j)).length = (A.filter fun w => decide (w ≤ j)).length + (if u ≤ j then 1 else 0) + ((B.filter fun w => decide (w ≤ j)).length + (if v ≤ j then 1 else 0) + (C.filter fun w => decide (w ≤ j)).length) := by
  rw [flt, flt]
theorem change (A B C : List Int) (u v : Int) (huv : v ≤ u) (k j : Int) (hk : 0 ≤ k) : cnt (A ++ v :: (B ++ u :: C)) k j - cnt (A ++ u :: (B ++ v :: C)) k j = if (decide (((A.length + 1 : Nat) : Int) ≤ k) && decide (k < ((A.length + 1 + B.length + 1 : Nat) : Int)) && (decide (v ≤ j) && decide (j < u))) = true then 1 else 0 := by
  obtain ⟨m, rfl⟩ := Int.eq_ofNat_of_zero_le hk
  rw [cnt_nat, cnt_nat]
  simp only [Bool.and_eq_true, decide_eq_true_eq]
  by_cases h1 : m ≤ A.length
  · rw [take_low _ A m h1, take_low _ A m h1, if_neg (by omega)]
    omega
  · obtain ⟨t, rfl⟩ : ∃ t, m = A.length + (t + 1) := ⟨m - A.length - 1, by omega⟩
    rw [take_mid, take_mid, List.take_succ_cons, List.take_succ_cons]
    by_cases h2 : t ≤ B.length
    · rw [take_low _ B t h2, take_low _ B t h2, flt, flt]
      split <;> split <;> split <;> omega
    · obtain ⟨r, rfl⟩ : ∃ r, t = B.length + (r + 1) := ⟨t - B.length - 1, by omega⟩
      rw [take_mid, take_mid, List.take_succ_cons, List.take_succ_cons, flt2, flt2]
      split <;> split <;> split <;> omega
theorem drop_app (L : List Int) (k : Nat) : ∀ A : List Int, (A ++ L).drop (A.length + k) = L.drop k
  | [] => by simp
  | a :: A => by rw [List.cons_append, List.length_cons, Nat.add_right_comm, List.drop_succ_cons, drop_app L k A]
theorem take_app (L A : List Int) : (A ++ L).take A.length = A := by rw [take_low L A _ (Nat.le_refl _), List.take_of_length_le (Nat.le_refl _)]
theorem getD_at {L : List Int} {k : Nat} {x : Int} (h : L[k]? = some x) : L.getD k 0 = x := by rw [List.getD_eq_getElem?_getD, h]; rfl
/-! ### loops with a plain part -/
section
variable {α β γ σ τ : Type}
/-- a part of the state goes by plain steps -/
theorem fold_part {ff : σ → γ → R σ} {pr : σ → τ} {g : τ → γ → τ} : ∀ {l : List γ} {s : σ}, (∀ s c, c ∈ l → ∃ s', ff s c = .ok s' ∧ pr s' = g (pr s) c) → ∃ s', R.fold ff l s = .ok s' ∧ pr s' = l.foldl g (pr s)
  | [], s, _ => ⟨s, rfl, rfl⟩
  | a :: r, s, H => by
    obtain ⟨s1, e1, e2⟩ := H s a List.mem_cons_self
    obtain ⟨s2, e3, e4⟩ := fold_part (l := r) (s := s1) fun s c hc => H s c (List.mem_cons_of_mem _ hc)
    exact ⟨s2, by rw [R.fold, e1]; exact e3, by rw [e4, e2]; rfl⟩
/-- an invariant that knows what is still to come -/
theorem fold_inv {ff : σ → γ → R σ} {I : List γ → σ → Prop} : ∀ {l : List γ} {s : σ}, (∀ s c r, I (c :: r) s → ∃ s', ff s c = .ok s' ∧ I r s') → I l s → ∃ s', R.fold ff l s = .ok s' ∧ I [] s'
  | [], s, _, h => ⟨s, rfl, h⟩
  | a :: r, s, H, h => by
    obtain ⟨s1, e1, h1⟩ := H s a r h
    obtain ⟨s2, e2, h2⟩ := fold_inv (l := r) H h1
    exact ⟨s2, by rw [R.fold, e1]; exact e2, h2⟩
theorem Wp.fold {ff : σ → γ → R σ} {I : List γ → σ → Prop} : ∀ {l : List γ} {s : σ}, (∀ s c r, I (c :: r) s → Wp (ff s c) (I r)) → I l s → Wp (R.fold ff l s) (I [])
  | [], s, _, h => Wp.ok h
  | a :: r, s, H, h => Wp.seq (H s a r h) fun s1 h1 => Wp.fold (l := r) H h1
theorem Wp.nx {r : R α} {Q : α → Prop} (h : Wp r Q) : Wp r.nx Q := by
  have go : ∀ r : R α, r.wp Q → r.nx.wp Q := fun r => by
    induction r with
    | ok a => exact fun h => h
    | exc x => exact fun h => h.elim
    | bad => exact fun h => h
    | ask n k ih => exact fun h j hj => ih j (h j hj)
  exact ⟨go r h.out⟩
theorem Wp.cat {h : α → R (List β)} {Q : β → Prop} : ∀ {l : List α}, (∀ a ∈ l, Wp (h a) fun o => o.length ≤ 1 ∧ ∀ x ∈ o, Q x) → Wp (R.cat h l) fun o => o.length ≤ l.length ∧ ∀ x ∈ o, Q x
  | [], _ => Wp.ok ⟨Nat.le_refl _, fun _ z => nomatch z⟩
  | a :: r, H => Wp.seq (H a List.mem_cons_self) fun o h1 => Wp.seq (Wp.cat (l := r) fun b hb => H b (List.mem_cons_of_mem _ hb)) fun o2 h2 => Wp.ok (by
    refine ⟨?_, fun x hx => ?_⟩
    · have := h1.1
      have := h2.1
      rw [List.length_append, List.length_cons]
      omega
    · rcases List.mem_append.mp hx with hx | hx
      · exact h1.2 x hx
      · exact h2.2 x hx)
/-- a comprehension with draws in it -/
theorem Wp.lc {tt : α → R Bool} {ff : α → R β} {Q : β → Prop} {l : List α} (hl : l.length ≤ 16777216) (ht : ∀ a ∈ l, ∃ b, tt a = .ok b) (hf : ∀ a ∈ l, Wp (ff a) Q) : Wp (R.lc tt ff l) fun o => o.length ≤ l.length ∧ ∀ x ∈ o, Q x := by
  unfold R.lc
  rw [if_pos hl]
  refine Wp.nx (Wp.cat fun a ha => ?_)
  obtain ⟨b, e⟩ := ht a ha
  unfold R.one
  rw [e]
  cases b with
  | false => exact Wp.ok ⟨Nat.zero_le _, fun _ z => nomatch z⟩
  | true =>
    rw [R.bind_ok, if_pos rfl]
    exact Wp.seq (hf a ha) fun x hx => Wp.ok ⟨Nat.le_refl _, fun y hy => by rw [List.mem_singleton.mp hy]; exact hx⟩
theorem Wp.loop {t : σ → R Bool} {f : σ → R σ} {I : σ → Prop} {m : σ → Nat} (ht : ∀ s, I s → ∃ b, t s = .ok b) (hf : ∀ s, I s → t s = .ok true → Wp (f s) fun s' => I s' ∧ m s' < m s) : ∀ {n : Nat} {s : σ}, I s → m s < n → Wp (R.loop t f n s) I
  | 0, s, _, h => by omega
  | n + 1, s, hI, h => by
    obtain ⟨b, e⟩ := ht s hI
    rw [R.loop, e, R.bind_ok]
    cases b with
    | false => rw [if_neg Bool.false_ne_true]; exact Wp.ok hI
    | true =>
      rw [if_pos rfl]
      exact Wp.seq (hf s hI e) fun s' ⟨h1, h2⟩ => Wp.loop ht hf h1 (by omega)
end
end T

/-! TFin: laws gone through by the kernel. -/
namespace T
open PySem PySem.Spec PyProof.Rows L2
variable {α β γ : Type}
def R.thru (m : R α) (f : α → Bool) : Bool := match m with
  | .ok a => f a
  | _ => false
theorem R.thru_ok {m : R α} {f : α → Bool} (h : R.thru m f = true) : ∃ a, m = .ok a ∧ f a = true := by
  cases m with
  | ok a => exact ⟨a, rfl, h⟩
  | _ => cases h
/-- where b is true every run ends well -/
structure Fi (b : Bool) (r : R α) (Q : α → Prop) : Prop where
  out : b = true → Wp r Q
section
variable {Q : α → Prop} {P : β → Prop} {r : R α}
theorem fi_thru {m : R β} {f : β → Bool} {k : β → R α} (h : ∀ a, m = .ok a → Fi (f a) (k a) Q) : Fi (R.thru m f) (m.bind k) Q := ⟨fun e => by
  obtain ⟨a, e1, e2⟩ := R.thru_ok e
  rw [e1]
  exact (h a e1).out e2⟩
theorem fi_if {c : Prop} [Decidable c] {f1 f2 : Bool} {r1 r2 : R α} (h1 : c → Fi f1 r1 Q) (h2 : ¬ c → Fi f2 r2 Q) : Fi (if c then f1 else f2) (if c then r1 else r2) Q := ⟨fun e => by
  by_cases hc : c
  · rw [if_pos hc] at e ⊢
    exact (h1 hc).out e
  · rw [if_neg hc] at e ⊢
    exact (h2 hc).out e⟩
theorem fi_no : Fi false r Q := ⟨fun e => nomatch e⟩
theorem fi_ok {a : α} (h : Q a) : Fi true (R.ok a) Q := ⟨fun _ => Wp.ok h⟩
theorem fi_fin {b : Bool} : Fi b (R.ok b) fun x => x = true := ⟨fun e => Wp.ok e⟩
theorem fi_last {m : R Bool} : Fi (R.thru m fun a => a) m fun x => x = true := ⟨fun e => by
  obtain ⟨a, e1, e2⟩ := R.thru_ok e
  exact Wp.eq e1 e2⟩
theorem fi_all {l : List β} {m : R β} {f : β → Bool} {k : β → R α} (hm : l ≠ [] → l.length ≤ 1000 → Wp m fun x => x ∈ l) (h : ∀ a, a ∈ l → Fi (f a) (k a) Q) : Fi (!l.isEmpty && decide (l.length ≤ 1000) && l.all f) (m.bind k) Q := ⟨fun e => by
  rw [Bool.and_eq_true, Bool.and_eq_true] at e
  obtain ⟨⟨e1, e2⟩, e3⟩ := e
  refine Wp.seq (hm (fun z => by rw [z] at e1; cases e1) (of_decide_eq_true e2)) fun a ha => (h a ha).out (List.all_eq_true.mp e3 a ha)⟩
theorem fi_wp {m : R β} {f : β → Bool} {k : β → R α} {b : Bool} (hm : Wp m P) (h : ∀ a, P a → Fi b (k a) Q) : Fi b (m.bind k) Q := ⟨fun e => Wp.seq hm fun a ha => (h a ha).out e⟩
theorem fi_draw {n : Int} {f : Int → Bool} {k : Int → R α} (h : ∀ a, Fi (f a) (k a) Q) : Fi (decide (0 < n ∧ n < 1000000) && (rngI 0 n).all f) ((R.draw n).bind k) Q := ⟨fun e => by
  rw [Bool.and_eq_true] at e
  have hn := of_decide_eq_true e.1
  exact Wp.seq (Wp.draw hn.1 (by omega)) fun a ⟨a0, a1⟩ => (h a).out (List.all_eq_true.mp e.2 a (mem_rngI.mpr ⟨a0, a1⟩))⟩
theorem fi_assoc {m : R γ} {f : γ → R β} {k : β → R α} {b : Bool} (h : Fi b (m.bind fun v => (f v).bind k) Q) : Fi b ((m.bind f).bind k) Q := by
  rw [R.bind_assoc]
  exact h
theorem fi_bok {a : β} {k : β → R α} {b : Bool} (h : Fi b (k a) Q) : Fi b ((R.ok a).bind k) Q := h
end
/-! ### draws of a law -/
theorem pick_wp {l : List α} (h : l ≠ []) (hl : l.length ≤ 1000) : Wp ((R.draw (l.length : Int)).bind fun v1 => R.get (atI l v1)) fun x => x ∈ l := by
  have h0 : 0 < l.length := List.length_pos_iff.mpr h
  refine Wp.seq (Wp.draw (by omega) (by omega)) fun r ⟨a, b⟩ => ?_
  obtain ⟨m, rfl⟩ := Int.eq_ofNat_of_zero_le a
  have hr : m < l.length := by omega
  exact Wp.get (a := l[m]) (T.atI_nat.trans (List.getElem?_eq_getElem hr)) (List.getElem_mem hr)
theorem shuf_wp {n : Nat} (h1 : 1 ≤ n) (h6 : n ≤ 6) : Wp ((R.rgl (1 : Int) ((n : Int) + 1)).bind fun v1 => (R.loop shufT shufF 64 (v1, [])).bind fun s6 => R.ok s6.2) fun p => p ∈ Pm n := by
  rw [rgl_ok (by unfold RgOk; omega), R.bind_ok]
  exact Wp.seq (Wp.shuf _ (by rw [rngI_len]; omega)) fun q hq => Wp.ok (mem_perms hq)
theorem swap_perm {l : List Int} {a b : Nat} (ha : a < l.length) (hb : b < l.length) : ((l.set a l[b]).set b l[a]).Perm l := by
  rcases Nat.lt_trichotomy a b with h | h | h
  · obtain ⟨A, x, B, y, C, rfl, rfl, rfl⟩ := two_at h hb
    have e := swp_form A B C x y
    unfold swp at e
    rw [List.getD_eq_getElem?_getD, List.getD_eq_getElem?_getD, List.getElem?_eq_getElem ha, List.getElem?_eq_getElem hb] at e
    exact (show ((_ : List Int).set _ _).set _ _ = _ from e) ▸ form_perm A B C x y
  · subst h
    rw [List.set_getElem_self, List.set_getElem_self]
  · obtain ⟨A, x, B, y, C, rfl, rfl, rfl⟩ := two_at h ha
    have e := swp_form A B C x y
    unfold swp at e
    rw [List.getD_eq_getElem?_getD, List.getD_eq_getElem?_getD, List.getElem?_eq_getElem ha, List.getElem?_eq_getElem hb] at e
    rw [List.set_comm _ _ (by omega)]
    exact (show ((_ : List Int).set _ _).set _ _ = _ from e) ▸ form_perm A B C x y
theorem chunk {P : α → Bool} {l : List α} (c : Nat) : ∀ (k a : Nat), (∀ i, i < k → ((l.drop (a + c * i)).take c).all P = true) → (l.drop (a + c * k)) = [] → (l.drop a).all P = true
  | 0, a, _, h => by
    rw [Nat.mul_zero, Nat.add_zero] at h
    rw [h]
    rfl
  | k + 1, a, h, he => by
    refine all_step c ?_ (chunk c k (a + c) (fun i hi => ?_) ?_)
    · have := h 0 (Nat.succ_pos _)
      rwa [Nat.mul_zero, Nat.add_zero] at this
    · have := h (i + 1) (Nat.succ_lt_succ hi)
      rwa [Nat.mul_succ, show a + (c * i + c) = a + c + c * i by omega] at this
    · rwa [Nat.mul_succ, show a + (c * k + c) = a + c + c * k by omega] at he
end T

namespace Kk54
open PySem PySem.Spec PyProof.Rows L2 T
def top (i : Nat) : Stmt := PySem.Challenge.pw_crosswires_k54_across_codes_telling_corn.main.body.getD i (.Pass ⟨0, 0, 0, 0⟩)
section
variable {P : Program} {wl : World} {G : Gh} {mg : Str → Option Value} {base : Heap}
abbrev s__law_mixed : Stmt := top 35
abbrev n__law_mixed : List Str := ["draw", "lap", "found", "great", "blend", "cell"]
theorem sc__law_mixed : FnScope n__law_mixed ["draw"] (defScope s__law_mixed) := ⟨rfl, rfl, rfl, by decide +kernel, rfl, by decide +kernel, by decide +kernel⟩
theorem ok_mixed {f : Addr} {fd : FuncData} (Fn : Fun G.K "_law_mixed" "_law_mixed" s__law_mixed f fd) (B : Bn mg) : FnOk P wl G.K mg base (L2.CX P wl) 1 f fd ["draw"] spMixed := by
  refine Fn.okX sc__law_mixed (fun vs H Q E h => ?_) fun cdv A outer s H vs Q E hr h => ?_
  · obtain ⟨a, l, c, cs, r, t, rfl, _⟩ := h
    rfl
  obtain ⟨a, l, c, cs, r, t, rfl, hA, hC, hne, hcs, ht, q⟩ := h
  have nd := sc__law_mixed.nd
  refine ⟨_, pss_cons (ps_dput (hu_of hr) (pv 0) pe_str (pe_op op_add (pe_dget (hu_of hr) (pv 0) pe_str (fun _ _ => rfl)) pe_int) rfl)
    (pss_cons (ps_par (i := 1) (j := 2) rfl nd rfl rfl (by decide) rfl rfl (pa_cons (pe_callTy call_int1 (by rfl) B.int PyProof.Rows.boot_int (pa_cons (pe_dget (hu_of hr) (pv 0) pe_str (fun _ _ => rfl)) pa_nil)) (pa_cons pe_int pa_nil)) rfl)
    (pss_cons (ps_for (passes_of rfl) rfl (pi_list (pe_lst (pa_cons pe_int (pa_cons pe_int (pa_cons pe_int pa_nil))))) (pg_name (i := 3) nd rfl (.inl rfl))
      (pss_cons (ps_set (i := 4) nd rfl (.inl rfl) (pe_op op_mod (pe_op op_add (pe_op op_mul (pv 1) pe_int) (pe_op op_fdiv (pv 3) pe_int)) (pv 3)))
      (pss_cons (ps_for (passes_of rfl) rfl (pi_list (pe_dget (hu_of hr) (pv 0) pe_str (fun _ _ => rfl))) (pg_name (i := 5) nd rfl (.inl rfl))
        (pss_one (ps_set (i := 4) nd rfl (.inl rfl) (pe_op op_mod (pe_op op_add (pe_op op_add (pe_op op_mul (pv 4) pe_int) (pe_callTy call_int1 (by rfl) B.int PyProof.Rows.boot_int (pa_cons (pv 5) pa_nil))) (pv 1)) (pv 3)))))
      (pss_one (ps_set (i := 2) nd rfl (.inl rfl) (pe_op op_add (pe_op op_mul (pv 2) pe_int) (pe_op op_mod (pe_op op_pow (pv 4) pe_int) (pv 3))))))))
    (pss_one (ps_ret (pv 2))))), ?_⟩
  -- draw['turn'] = draw['turn'] + 1
  refine ⟨.ref a, rfl, a, .int t, rfl, dg_turn hA, t, 1, rfl, rfl, .ref a, rfl, a, _, rfl, dp_turn hA, ?_⟩
  have hA1 : upd H a (.dK (dkv l c r (t + 1))) a = some (.dK (dkv l c r (t + 1))) := upd_same
  have hC1 : upd H a (.dK (dkv l c r (t + 1))) c = some (.lst (cs.map V.int)) := by rw [upd_ne (Ne.symm hne)]; exact hC
  -- lap, found = (int(draw['turn']), 0)
  refine ⟨.ref a, rfl, a, .int (t + 1), rfl, dg_turn hA1, .inl ⟨t + 1, rfl, _, _, rfl, ?_⟩⟩
  -- for great in ..
  refine ⟨by show 3 ≤ 16777216; decide, fun p hp => ⟨p, rfl, ⟨_, SqL.of upd_same⟩, ?_⟩⟩
  have hpa : p ≠ a := fun e => by rw [e, hA1] at hp; cases hp
  have hpc : p ≠ c := fun e => by rw [e, hC1] at hp; cases hp
  have hA2 : upd (upd H a (.dK (dkv l c r (t + 1)))) p (.lst [.int 2147483647, .int 2147483629, .int 2147483587]) a = some (.dK (dkv l c r (t + 1))) := by rw [upd_ne (Ne.symm hpa)]; exact hA1
  have hC2 : upd (upd H a (.dK (dkv l c r (t + 1)))) p (.lst [.int 2147483647, .int 2147483629, .int 2147483587]) c = some (.lst (cs.map V.int)) := by rw [upd_ne (Ne.symm hpc)]; exact hC1
  refine for_list (xs := [.int 2147483647, .int 2147483629, .int 2147483587]) (fun i σ H' => H' = upd (upd H a (.dK (dkv l c r (t + 1)))) p (.lst [.int 2147483647, .int 2147483629, .int 2147483587]) ∧ ∃ (f : Int) (g b e : Option V), σ = [some (.ref a), some (.int (t + 1)), some (.int f), g, b, e] ∧ 0 ≤ f)
    ⟨rfl, 0, _, _, _, rfl, Int.le_refl _⟩ (fun i σ H' _ h => by rw [h.1]; exact SqL.of upd_same) ?_ ?_
  · rintro i x σ H' hx ⟨rfl, f0, g0, b0, e0, rfl, hf⟩
    obtain ⟨gr, rfl, hg0, hg1⟩ : ∃ gr : Int, x = .int gr ∧ 0 < gr ∧ gr < 2147483648 := by
      match i, hx with
      | 0, hx => cases hx; exact ⟨_, rfl, by decide, by decide⟩
      | 1, hx => cases hx; exact ⟨_, rfl, by decide, by decide⟩
      | 2, hx => cases hx; exact ⟨_, rfl, by decide, by decide⟩
    -- blend = ..
    refine ⟨.int (t + 1), rfl, t + 1, 48271, rfl, rfl, .inr ⟨by decide, by decide⟩, .int gr, rfl, gr, 11, rfl, rfl, ⟨by decide, by decide⟩, _, _, rfl, rfl, .int gr, rfl, _, gr, rfl, rfl, hg0, ?_⟩
    -- for cell in ..
    refine ⟨.ref a, rfl, a, .ref c, rfl, dg_cells hA2, c, rfl, ⟨_, SqL.of hC2⟩, ?_⟩
    refine for_list (xs := cs.map V.int) (fun i σ H' => H' = upd (upd H a (.dK (dkv l c r (t + 1)))) p (.lst [.int 2147483647, .int 2147483629, .int 2147483587]) ∧ ∃ (b : Int) (e : Option V), σ = [some (.ref a), some (.int (t + 1)), some (.int f0), some (.int gr), some (.int b), e] ∧ 0 ≤ b ∧ b < gr)
      ⟨rfl, _, _, rfl, Int.emod_nonneg _ (by omega), Int.emod_lt_of_pos _ hg0⟩ (fun i σ H' _ h => by rw [h.1]; exact SqL.of hC2) ?_ ?_
    · rintro i x σ H' hx ⟨rfl, b1, e1, rfl, hb0, hb1⟩
      obtain ⟨z, rfl⟩ : ∃ z : Int, x = .int z := by
        rw [List.getElem?_map] at hx
        cases q : cs[i]? with
        | none => rw [q] at hx; cases hx
        | some z => rw [q] at hx; cases hx; exact ⟨z, rfl⟩
      refine ⟨.int b1, rfl, b1, 69621, rfl, rfl, .inr ⟨by decide, by decide⟩, .int z, rfl, .inl ⟨z, rfl, _, _, rfl, rfl, .int (t + 1), rfl, _, _, rfl, rfl, .int gr, rfl, _, gr, rfl, rfl, hg0, ?_⟩⟩
      exact ⟨rfl, _, _, rfl, Int.emod_nonneg _ (by omega), Int.emod_lt_of_pos _ hg0⟩
    · rintro σ H' ⟨rfl, b1, e1, rfl, hb0, hb1⟩
      refine ⟨.int f0, rfl, f0, 2147483659, rfl, rfl, .inr ⟨by decide, by decide⟩, .int b1, rfl, b1, 5, rfl, rfl, ⟨by decide, by decide, by omega⟩, .int gr, rfl, _, gr, rfl, rfl, hg0, _, _, rfl, rfl, ?_⟩
      refine ⟨rfl, _, _, _, _, rfl, ?_⟩
      have := Int.emod_nonneg (b1 ^ (5 : Int).toNat) (by omega : gr ≠ 0)
      omega
  · rintro σ H' ⟨rfl, f0, g0, b0, e0, rfl, hf⟩
    exact ⟨.int f0, rfl, q f0 hf p _ hpa (by rw [upd_ne hpa] at hp; exact hp)⟩
abbrev s__law_take : Stmt := top 36
abbrev n__law_take : List Str := ["draw", "amount", "found"]
theorem sc__law_take : FnScope n__law_take ["draw", "amount"] (defScope s__law_take) := ⟨rfl, rfl, rfl, by decide +kernel, rfl, by decide +kernel, by decide +kernel⟩
theorem ite_t {A B : Prop} {c : Bool} (hc : c = true) (h : A) : if c = true then A else B := by
  rw [if_pos hc]
  exact h
theorem ite_f {A B : Prop} {c : Bool} (hc : c = false) (h : B) : if c = true then A else B := by
  rw [hc, if_neg Bool.false_ne_true]
  exact h
theorem ok_take {f g : Addr} {fd gd : FuncData} (Fn : Fun G.K "_law_take" "_law_take" s__law_take f fd) (Gn : Fun G.K "_law_mixed" "_law_mixed" s__law_mixed g gd) (B : Bn mg) (hg : mg "_law_mixed" = some (.ref g)) (hb : L2.Binds G.K gd ["draw"] []) : FnOk P wl G.K mg base (L2.CX P wl) 2 f fd ["draw", "amount"] (spF G true 2 fTake) := by
  have GM : FnOk P wl G.K mg base (L2.CX P wl) 1 g gd ["draw"] spMixed := ok_mixed Gn B
  refine Fn.okX sc__law_take (fun vs H Q E h => ?_) fun cdv A outer s H vs Q E hr h => ?_
  · obtain ⟨F, as, hl, _⟩ := h
    exact hl
  have nd := sc__law_take.nd
  refine ⟨_, pss_cons (ps_if (pt_cmpR op_eq (pe_dget (hu_of hr) (pv 0) pe_str (fun _ _ => rfl)) pe_int (nomark _))
      (pss_one (ps_dput (hu_of hr) (pv 0) pe_str (pe_ifExp (pt_cmpR (op_neD (room64 hr)) (pe_dget (hu_of hr) (pv 0) pe_str (fun _ _ => rfl)) (pe_lst pa_nil) (nomark _))
        (pe_bm PySem.F.plainAttrs_list PySem.F.slot_list_pop PySem.F.type_list_pop (MtR.of mt_popAt) (pe_dget (hu_of hr) (pv 0) pe_str (fun _ _ => rfl)) (pa_cons pe_int pa_nil))
        (pe_callS GM hr rfl hg Gn.kp hb (fun σ => passAt (takes_of rfl rfl rfl rfl) σ) (pa_cons (pv 0) pa_nil))) rfl)) pss_nil)
    (pss_cons (ps_set (i := 2) nd rfl (.inl rfl) (pe_op op_mod (pe_callTy call_int1 (by rfl) B.int PyProof.Rows.boot_int (pa_cons (pe_dget (hu_of hr) (pv 0) pe_str (fun _ _ => rfl)) pa_nil)) (pv 1)))
    (pss_cons (ps_dput (hu_of hr) (pv 0) pe_str (pe_op op_fdiv (pe_callTy call_int1 (by rfl) B.int PyProof.Rows.boot_int (pa_cons (pe_dget (hu_of hr) (pv 0) pe_str (fun _ _ => rfl)) pa_nil)) (pv 1)) rfl)
    (pss_one (ps_ret (pv 2))))), ?_⟩
  obtain ⟨F, as, hl, ⟨w, h⟩, q⟩ := h
  obtain ⟨a, l, c, ea, tok, step⟩ := h.tokStep (i := 0) rfl
  obtain ⟨n, rfl, hn0, hn1, q⟩ : ∃ n : Int, as = [.int n] ∧ 0 < n ∧ n < 1073741824 ∧ ∀ r, r < n.toNat → ∀ v H', (∀ j, S.sh (.int (r : Int)) ≠ .bo j) → Rel G F ((vs.take (ioN true)).map some) H' (ioE true) [(v, .sh (.int (r : Int)))] → Q v H' := by
    unfold fTake at q
    split at q
    · rename_i n
      split at q
      · rename_i hn
        exact ⟨n, rfl, hn.1, hn.2, q⟩
      · exact q.elim
    · exact q.elim
  obtain ⟨v0, v1, rfl⟩ : ∃ v0 v1, vs = [v0, v1] := by
    match vs, hl with
    | [v0, v1], _ => exact ⟨v0, v1, rfl⟩
  have e0 : v0 = .ref a := Option.some.inj (Option.some.inj ea)
  subst e0
  have e1 : v1 = .int n := by
    obtain ⟨x, ex, rx⟩ := (h.ent 1 _ rfl).2
    have ex' : v1 = x := Option.some.inj ex
    rw [ex']
    cases rx
    rfl
  subst e1
  obtain ⟨ls, cs, r, t, hr0, ht0, hls, hcs, hA, hL, hC, n1, n2, n3⟩ := tok
  -- behind the first statement: rest is r', at least 0
  have fin : ∀ (H1 : Hp) (ls' : List Int) (r' t' : Int), 0 ≤ r' → 0 ≤ t' → (∀ x ∈ ls', 0 ≤ x) → H1 a = some (.dK (dkv l c r' t')) → H1 l = some (.lst (ls'.map V.int)) → H1 c = some (.lst (cs.map V.int)) → (∀ b o, b ≠ a → b ≠ l → b ≠ c → H b = some o → H1 b = some o) →
      Q (.int (r' % n)) (upd H1 a (.dK (dkv l c (r' / n) t'))) := fun H1 ls' r' t' hr' ht' hls' a1 l1 c1 k => by
    have hm0 := Int.emod_nonneg r' (by omega : n ≠ 0)
    have hm1 := Int.emod_lt_of_pos r' hn0
    have er : ((r' % n).toNat : Int) = r' % n := Int.toNat_of_nonneg hm0
    have z := q (r' % n).toNat (by omega) (.int (r' % n)) (upd H1 a (.dK (dkv l c (r' / n) t'))) (fun _ z => nomatch z)
    rw [er] at z
    refine z ?_
    have h2 := step (upd H1 a (.dK (dkv l c (r' / n) t'))) ⟨ls', cs, r' / n, t', Int.ediv_nonneg hr' (by omega), ht', hls', hcs, upd_same, by rw [upd_ne (Ne.symm n1)]; exact l1, by rw [upd_ne (Ne.symm n2)]; exact c1, n1, n2, n3⟩ fun b o b1 b2 b3 e => by rw [upd_ne b1]; exact k b o b1 b2 b3 e
    have h3 := (RelW.cut (us := []) (io := true) (σ0 := []) (vs := [V.ref a, .int n]) h2 (fun t ht => nomatch ht) rfl (by show 1 ≤ 2; exact Nat.le_succ 1) fun _ => rfl)
    obtain ⟨w3, h3⟩ := h3
    exact ⟨w3, h3.pushSh (.int _)⟩
  by_cases hr : r = 0
  · subst hr
    refine ⟨.ref a, rfl, a, .int 0, rfl, dg_rest hA, rfl, _, rfl, ?_⟩
    refine ite_t (by decide) ?_
    refine ⟨.ref a, rfl, a, .ref l, rfl, dg_large hA, Nat.zero_le _, fun p hp => ?_⟩
    have hpa : p ≠ a := fun e => by rw [e, hA] at hp; cases hp
    have hpl : p ≠ l := fun e => by rw [e, hL] at hp; cases hp
    have hpc : p ≠ c := fun e => by rw [e, hC] at hp; cases hp
    have hA1 : upd H p (.lst []) a = some (.dK (dkv l c 0 t)) := by rw [upd_ne (Ne.symm hpa)]; exact hA
    have hL1 : upd H p (.lst []) l = some (.lst (ls.map V.int)) := by rw [upd_ne (Ne.symm hpl)]; exact hL
    have hC1 : upd H p (.lst []) c = some (.lst (cs.map V.int)) := by rw [upd_ne (Ne.symm hpc)]; exact hC
    have k1 : ∀ b o, b ≠ a → b ≠ l → b ≠ c → H b = some o → upd H p (.lst []) b = some o := fun b o _ _ _ e => by
      rw [upd_ne (fun z => by rw [z, hp] at e; cases e)]
      exact e
    refine ⟨.list (ls.map PyData.int), .list [], .lst (SqL.of hL1) (dp_ints ls), .lst (SqL.of upd_same) .nil, shaped_ints ls, shaped_ints [], _, rfl, ?_⟩
    cases ls with
    | nil =>
      refine ite_f (by decide) ?_
      refine ⟨.ref a, rfl, a, l, c, cs, 0, t, rfl, hA1, hC1, n2, hcs, ht0, fun m hm p' o hp' hpn => ?_⟩
      have hpc' : p' ≠ c := fun e => by rw [e, hC1] at hpn; cases hpn
      have hpl' : p' ≠ l := fun e => by rw [e, hL1] at hpn; cases hpn
      have hA2 : upd (upd (upd H p (.lst [])) a (.dK (dkv l c 0 (t + 1)))) p' o a = some (.dK (dkv l c 0 (t + 1))) := by rw [upd_ne (Ne.symm hp'), upd_same]
      refine ⟨.ref a, rfl, a, _, rfl, dp_rest (r' := m) hA2, ?_⟩
      refine ⟨.ref a, rfl, a, .int m, rfl, dg_rest upd_same, .inl ⟨m, rfl, .int n, rfl, m, n, rfl, rfl, hn0, .ref a, rfl, a, .int m, rfl, dg_rest upd_same, .inl ⟨m, rfl, .int n, rfl, m, n, rfl, rfl, ⟨hn0, hn1⟩, .ref a, rfl, a, _, rfl, dp_rest upd_same, .int (m % n), rfl, fin _ [] m (t + 1) hm (by omega) (fun _ z => nomatch z) upd_same ?_ ?_ ?_⟩⟩⟩
      · rw [upd_ne (Ne.symm n1), upd_ne (Ne.symm hpl'), upd_ne (Ne.symm n1)]; exact hL1
      · rw [upd_ne (Ne.symm n2), upd_ne (Ne.symm hpc'), upd_ne (Ne.symm n2)]; exact hC1
      · intro b o' b1 b2 b3 e
        have e1 := k1 b o' b1 b2 b3 e
        rw [upd_ne b1, upd_ne (fun z => by rw [z, hpn] at e1; cases e1), upd_ne b1]
        exact e1
    | cons x ls =>
      refine ite_t (by rfl) ?_
      refine ⟨.ref a, rfl, a, .ref l, rfl, dg_large hA1, .inl ⟨rfl, _, SqL.of hL1⟩, l, _, 0, 0, .int x, rfl, rfl, hL1, by decide, by decide, by simp [seqIndex?], rfl, ?_⟩
      have hA2 : upd (upd H p (.lst [])) l (.lst ((x :: ls).map V.int |>.eraseIdx 0)) a = some (.dK (dkv l c 0 t)) := by rw [upd_ne n1]; exact hA1
      refine ⟨.ref a, rfl, a, _, rfl, dp_rest (r' := x) hA2, ?_⟩
      refine ⟨.ref a, rfl, a, .int x, rfl, dg_rest upd_same, .inl ⟨x, rfl, .int n, rfl, x, n, rfl, rfl, hn0, .ref a, rfl, a, .int x, rfl, dg_rest upd_same, .inl ⟨x, rfl, .int n, rfl, x, n, rfl, rfl, ⟨hn0, hn1⟩, .ref a, rfl, a, _, rfl, dp_rest upd_same, .int (x % n), rfl, fin _ ls x t (hls x List.mem_cons_self) ht0 (fun y hy => hls y (List.mem_cons_of_mem _ hy)) upd_same ?_ ?_ ?_⟩⟩⟩
      · rw [upd_ne (Ne.symm n1), upd_same]; rfl
      · rw [upd_ne (Ne.symm n2), upd_ne (Ne.symm n3)]; exact hC1
      · intro b o' b1 b2 b3 e
        rw [upd_ne b1, upd_ne b2]
        exact k1 b o' b1 b2 b3 e
  · refine ⟨.ref a, rfl, a, .int r, rfl, dg_rest hA, rfl, _, rfl, ?_⟩
    refine ite_f (by simpa using hr) ?_
    refine ⟨.ref a, rfl, a, .int r, rfl, dg_rest hA, .inl ⟨r, rfl, .int n, rfl, r, n, rfl, rfl, hn0, .ref a, rfl, a, .int r, rfl, dg_rest hA, .inl ⟨r, rfl, .int n, rfl, r, n, rfl, rfl, ⟨hn0, hn1⟩, .ref a, rfl, a, _, rfl, dp_rest hA, .int (r % n), rfl, fin H ls r t hr0 ht0 hls hA hL hC fun b o _ _ _ e => e⟩⟩⟩
abbrev s__law_begun : Stmt := top 34
abbrev n__law_begun : List Str := ["script", "large", "cell"]
theorem sc__law_begun : FnScope n__law_begun ["script"] (defScope s__law_begun) := ⟨rfl, rfl, rfl, by decide +kernel, rfl, by decide +kernel, by decide +kernel⟩
theorem ext_upd {H : Hp} {p : Addr} {o : HO} (h : H p = none) : Ext H (upd H p o) := Ext.new h
/-- a comprehension's list grows: all else stands -/
structure Gr (H0 : Hp) (D : Addr) (xs : List Int) (H : Hp) : Prop where
  at_ : H D = some (.lst (xs.map V.int))
  ext : ∀ b o, b ≠ D → H0 b = some o → H b = some o
  nn : ∀ x ∈ xs, 0 ≤ x
theorem ok_begun {f : Addr} {fd : FuncData} (Fn : Fun G.K "_law_begun" "_law_begun" s__law_begun f fd) (B : Bn mg) : FnOk P wl G.K mg base (L2.CX P wl) 1 f fd ["script"] (spBegun G.K) := by
  refine Fn.okX sc__law_begun (fun vs H Q E h => ?_) fun cdv A outer s H vs Q E hr h => ?_
  · obtain ⟨s, ns, rfl, _⟩ := h
    rfl
  obtain ⟨s, ns, rfl, hS, hlen, stay, q⟩ := h
  have nd := sc__law_begun.nd
  refine ⟨_, pss_cons (ps_setLc (i := 1) (g := gName 2) rfl nd rfl rfl (sw_true rfl rfl rfl rfl) (pi_list (pv 0)) (blkOk_by (N := n__law_begun) (sc := defScope s__law_begun) (own := [("cell", 2)]) (by decide +kernel)) (fun _ _ _ _ _ => pg_name (i := 2) nd rfl (.inl rfl))
      (fun _ _ _ _ _ => pts_one (pt_cmpR op_ge (pe_callB call_abs (by rfl) B.abs PyProof.Rows.boot_abs (pa_cons (pv 2) pa_nil)) (pe_op op_pow pe_int pe_int) (nomark _)))
      (fun _ _ _ _ _ => pe_op op_sub (pe_callB call_abs (by rfl) B.abs PyProof.Rows.boot_abs (pa_cons (pv 2) pa_nil)) (pe_op op_pow pe_int pe_int)))
    (pss_one (ps_ret (pe_disp (pps_cons pe_str (pv 1) (pps_cons pe_str pe_int (pps_cons pe_str (pe_lc (g := gName 2) (tt := tYes) rfl nd (pi_list (pv 0)) (blkOk_by (N := n__law_begun) (sc := defScope s__law_begun) (own := [("cell", 2)]) (by decide +kernel)) (fun _ _ _ _ _ => pg_name (i := 2) nd rfl (.inl rfl))
      (fun _ _ _ _ _ => pts_nil) (fun _ _ _ _ _ => pe_callB call_abs (by rfl) B.abs PyProof.Rows.boot_abs (pa_cons (pv 2) pa_nil))) (pps_cons pe_str pe_int pps_nil)))) rfl rfl (by simp) (by decide)))), ?_⟩
  have itm : ∀ {i : Nat} {x : V}, (ns.map V.int)[i]? = some x → ∃ z : Int, x = .int z ∧ i < ns.length := fun {i x} hx => by
    rw [List.getElem?_map] at hx
    cases e : ns[i]? with
    | none => rw [e] at hx; cases hx
    | some z => rw [e] at hx; cases hx; exact ⟨z, rfl, (List.getElem?_eq_some_iff.mp e).1⟩
  have ab : ∀ z : Int, 0 ≤ (if z < 0 then -z else z) := fun z => by split <;> omega
  -- large
  refine ⟨.ref s, rfl, s, rfl, ⟨_, hS⟩, fun l hl => ?_⟩
  refine lc_list (xs := ns.map V.int) (fun i H' => ∃ xs : List Int, xs.length ≤ i ∧ Gr H l xs H') ⟨[], Nat.le_refl _, upd_same, fun b o hb e => by rw [upd_ne hb]; exact e, fun _ z => nomatch z⟩ (fun i H' _ h => ?_) ?_ ?_
  · obtain ⟨xs, _, g⟩ := h
    refine stay H' fun b o e => g.ext b o (fun z => by rw [z, hl] at e; cases e) e
  · rintro i x H' hx ⟨xs, hxl, g⟩
    obtain ⟨z, rfl, hi⟩ := itm hx
    refine ⟨rfl, .int z, rfl, z, rfl, 10, 18, rfl, rfl, ⟨by decide, by decide, by decide⟩, _, _, rfl, rfl, _, rfl, ?_⟩
    by_cases hc : (10 : Int) ^ (18 : Int).toNat ≤ (if z < 0 then -z else z)
    · refine ite_t (decide_eq_true hc) ⟨.int z, rfl, z, rfl, 10, 18, rfl, rfl, ⟨by decide, by decide, by decide⟩, _, _, rfl, rfl, _, g.at_, ?_, xs ++ [(if z < 0 then -z else z) - (10 : Int) ^ (18 : Int).toNat], ?_, ?_, ?_, ?_⟩
      · rw [List.length_map]
        show xs.length < 16777216
        omega
      · rw [List.length_append]
        simp
        omega
      · rw [upd_same, List.map_append]
        rfl
      · intro b o hb e
        rw [upd_ne hb]
        exact g.ext b o hb e
      · intro y hy
        rcases List.mem_append.mp hy with hy | hy
        · exact g.nn y hy
        · rw [List.mem_singleton.mp hy]
          omega
    · exact ite_f (decide_eq_false hc) ⟨xs, Nat.le_succ_of_le hxl, g⟩
  · rintro H1 ⟨ls, hls, g⟩
    have e1 : Ext H H1 := fun b o e => g.ext b o (fun z => by rw [z, hl] at e; cases e) e
    -- {..}
    refine fun a ha => ⟨.ref l, rfl, .ref s, rfl, s, rfl, ⟨_, stay _ (e1.trans (ext_upd ha))⟩, fun c hc => ?_⟩
    have hla : l ≠ a := fun z => by rw [← z, g.at_] at ha; cases ha
    have hlc : l ≠ c := fun z => by rw [← z, upd_ne hla, g.at_] at hc; cases hc
    have hac : a ≠ c := fun z => by rw [← z, upd_same] at hc; cases hc
    refine lc_list (xs := ns.map V.int) (fun i H' => ∃ xs : List Int, xs.length ≤ i ∧ Gr (upd H1 a (.dK [])) c xs H') ⟨[], Nat.le_refl _, upd_same, fun b o hb e => by rw [upd_ne hb]; exact e, fun _ z => nomatch z⟩ (fun i H' _ h => ?_) ?_ ?_
    · obtain ⟨xs, _, g2⟩ := h
      refine stay H' fun b o e => g2.ext b o (fun z => ?_) (ext_upd ha b o (e1 b o e))
      have e2 := ext_upd (o := .dK []) ha b o (e1 b o e)
      rw [z, hc] at e2
      cases e2
    · rintro i x H' hx ⟨xs, hxl, g2⟩
      obtain ⟨z, rfl, hi⟩ := itm hx
      refine ⟨rfl, ite_t (c := true) (B := ∃ ys : List Int, ys.length ≤ i + 1 ∧ Gr (upd H1 a (.dK [])) c ys H') rfl ⟨.int z, rfl, z, rfl, _, g2.at_, ?_, xs ++ [if z < 0 then -z else z], ?_, ?_, ?_, ?_⟩⟩
      · rw [List.length_map]
        show xs.length < 16777216
        omega
      · rw [List.length_append]
        simp
        omega
      · rw [upd_same, List.map_append]
        rfl
      · intro b o hb e
        rw [upd_ne hb]
        exact g2.ext b o hb e
      · intro y hy
        rcases List.mem_append.mp hy with hy | hy
        · exact g2.nn y hy
        · rw [List.mem_singleton.mp hy]
          exact ab z
    · rintro H2 ⟨cs, hcs, g2⟩
      have ha2 : H2 a = some (.dK []) := g2.ext a _ hac upd_same
      refine ⟨ha2, [(.inr "large", .ref l), (.inr "rest", .int 0), (.inr "cells", .ref c), (.inr "turn", .int 0)], rfl, by show 4 ≤ 15; decide, ?_⟩
      have hc0 : H c = none := by
        cases e : H c with
        | none => rfl
        | some o =>
          have z := ext_upd (o := .dK []) ha c o (e1 c o e)
          rw [hc] at z
          cases z
      have ha0 : H a = none := by
        cases e : H a with
        | none => rfl
        | some o => rw [e1 a o e] at ha; cases ha
      refine q a l c ls cs _ g.nn g2.nn ha0 hl hc0 (Ne.symm hla) hac hlc ?_ ?_ ?_ ?_
      · intro b o e
        rw [upd_ne (fun z => by rw [z, ha0] at e; cases e)]
        exact g2.ext b o (fun z => by rw [z, hc0] at e; cases e) (ext_upd ha b o (e1 b o e))
      · rw [upd_same]
        rfl
      · rw [upd_ne hla]
        exact g2.ext l _ hlc (by rw [upd_ne hla]; exact g.at_)
      · rw [upd_ne (Ne.symm hac)]
        exact g2.at_
abbrev f__law_take : FD := fTake
theorem k__law_take (D : DefAt G.K mg "_law_take" s__law_take ["draw", "amount"]) (Dm : DefAt G.K mg "_law_mixed" s__law_mixed ["draw"]) (B : Bn mg) : CalF P wl G mg base 2 "_law_take" true 2 f__law_take := by
  obtain ⟨f, fd, Fn, hm, hb⟩ := D.ex
  obtain ⟨g, gd, Gn, hg, hgb⟩ := Dm.ex
  exact ⟨f, fd, _, ok_take Fn Gn B hg hgb, hm, Fn.kp, hb⟩
theorem k__law_begun (D : DefAt G.K mg "_law_begun" s__law_begun ["script"]) (B : Bn mg) : BegF P wl G mg base 1 "_law_begun" := by
  obtain ⟨f, fd, Fn, hm, hb⟩ := D.ex
  exact ⟨f, fd, ok_begun Fn B, hm, Fn.kp, hb⟩

abbrev s_is_number : Stmt := top 4
abbrev n_is_number : List Str := ["thing"]
theorem sc_is_number : FnScope n_is_number ["thing"] (defScope s_is_number) := ⟨rfl, rfl, rfl, by decide +kernel, rfl, by decide +kernel, by decide +kernel⟩
def b_is_number : DenS :=
  (dRet (dAnd (d1 (opIsi .int) (dVar 0)) (dNot (d1 (opIsi .bl) (dVar 0)))))
def f_is_number : FD := dFun false 0 b_is_number
theorem k_is_number (D : DefAt G.K mg "is_number" s_is_number ["thing"]) (B : Bn mg) : CalF P wl G mg base 1 "is_number" false 1 f_is_number := by
  refine cal_ok (k := 0) (fx := fun i => false) D sc_is_number rfl rfl (by decide) (fun z => nomatch z) fun f cdv A outer s H E hr => ?_
  exact (ds_one (ds_ret (de_and (de_isi (k := .int) (by rfl) B.isinstance (dv 0) (by rfl) B.int PyProof.Rows.boot_int) (de_one (de_not (de_isi (k := .bl) (by rfl) B.isinstance (dv 0) (by rfl) B.bool PyProof.Rows.boot_bool))))))
abbrev s_swapped : Stmt := top 7
abbrev n_swapped : List Str := ["sequence", "at"]
theorem sc_swapped : FnScope n_swapped ["sequence", "at"] (defScope s_swapped) := ⟨rfl, rfl, rfl, by decide +kernel, rfl, by decide +kernel, by decide +kernel⟩
def b_swapped : DenS :=
  (dRet (d2 opAdd (d2 opAdd (dSl (dVar 0) none (some (d2 opSub (dVar 1) (dC (.int 1))))) (dTup [(d2 opIx (dVar 0) (dVar 1)), (d2 opIx (dVar 0) (d2 opSub (dVar 1) (dC (.int 1))))])) (dSl (dVar 0) (some (d2 opAdd (dVar 1) (dC (.int 1)))) none)))
def f_swapped : FD := dFun false 0 b_swapped
theorem k_swapped (D : DefAt G.K mg "swapped" s_swapped ["sequence", "at"]) : CalF P wl G mg base 1 "swapped" false 2 f_swapped := by
  refine cal_ok (k := 0) (fx := fun i => false) D sc_swapped rfl rfl (by decide) (fun z => nomatch z) fun f cdv A outer s H E hr => ?_
  exact (ds_one (ds_ret (de_bin or_add s_add (de_bin or_add s_add (de_sl (dv 0) dp_none (dp_some (de_bin op_sub s_sub (dv 1) de_int))) (de_tup (da_cons (de_ix ix_seq s_ix (dv 0) (dv 1) (fun _ _ => rfl)) (da_cons (de_ix ix_seq s_ix (dv 0) (de_bin op_sub s_sub (dv 1) de_int) (fun _ _ => rfl)) da_nil)))) (de_sl (dv 0) (dp_some (de_bin or_add s_add (dv 1) de_int)) dp_none))))
abbrev s_is_sequence_of : Stmt := top 9
abbrev n_is_sequence_of : List Str := ["thing", "wire"]
theorem sc_is_sequence_of : FnScope n_is_sequence_of ["thing"] (defScope s_is_sequence_of) := ⟨rfl, rfl, rfl, by decide +kernel, rfl, by decide +kernel, by decide +kernel⟩
def b_is_sequence_of : DenS :=
  (dSeq (dIfS (dtOr (dtNot (dtT (d1 (opIsi .tup) (dVar 0)))) (dtNot (dtB (dChain opLe opLe (dC (.int 1)) (dN opLen0 [(dVar 0)]) (dC (.int 6)))))) (dRet (dC (.bl false))) dSkip)
  (dRet (dAnd (dN opAll [(dLc (dSrc (dVar 0)) (gN 1) dYes (dCall false 1 f_is_number [(dVar 1)]) [1])]) (d2 opEq (dN opSorted [(dVar 0)]) (dRg2 mkOwL (dC (.int 1)) (d2 opAdd (dN opLen0 [(dVar 0)]) (dC (.int 1))))))))
def f_is_sequence_of : FD := dFun false 1 b_is_sequence_of
theorem k_is_sequence_of (D : DefAt G.K mg "is_sequence_of" s_is_sequence_of ["thing"]) (B : Bn mg) (hGP : P = G.P) (hGw : wl = G.w) (c_is_number : CalF P wl G mg base 1 "is_number" false 1 f_is_number) (g_MOST_WIRES : ∃ t, mg "MOST_WIRES" = some (.int 6 t)) : CalF P wl G mg base 2 "is_sequence_of" false 1 f_is_sequence_of := by
  refine cal_ok (k := 1) (fx := fun i => false) D sc_is_sequence_of rfl rfl (by decide) (fun z => nomatch z) fun f cdv A outer s H E hr => ?_
  exact (ds_cons (ds_if (PW.pt (dw_or (dt_not (dt_truth (de_isi (k := .tup) (by rfl) B.isinstance (dv 0) (by rfl) B.tuple PyProof.Rows.boot_tuple) (by intro _; rfl))) (dw_or1 (dt_not (dt_chain op_le op_le s_cmp s_cmp de_int (de_callB call_len s_len (by rfl) B.len PySem.boot_len (da_cons (dv 0) da_nil)) (de_gint g_MOST_WIRES)))))) (ds_one (ds_ret de_bl)) ds_nil)
  (ds_one (ds_ret (de_and (de_callB (cr_all rfl) s_all (by rfl) B.all PyProof.Rows.boot_all (da_cons (de_lc rfl sc_is_sequence_of.nd (di_seq hGP hGw (dv 0)) (blkOk_by (N := n_is_sequence_of) (sc := defScope s_is_sequence_of) (own := [("wire", 1)]) (by decide +kernel)) rfl (fun _ _ _ _ _ => (dg_name (i := 1) sc_is_sequence_of.nd rfl (by first | exact Or.inl rfl | exact Or.inr rfl) (by decide))) (fun _ _ _ _ _ => dts_nil) (fun _ _ _ _ _ => (de_c takes0 c_is_number hr (by decide) (da_cons (dv 1) da_nil)))) da_nil)) (de_one (de_cmp (op_eqD (room64 hr)) s_eq (de_callB (cr_sorted rfl (room64 hr)) s_sorted (by rfl) B.sorted PyProof.Rows.boot_sorted (da_cons (dv 0) da_nil)) (de_lrg2 rfl (by rfl) B.list (by rfl) B.range de_int (de_bin or_add s_add (de_callB call_len s_len (by rfl) B.len PySem.boot_len (da_cons (dv 0) da_nil)) de_int)) (by with_unfolding_all rfl)))))))
abbrev s_need_sequence : Stmt := top 10
abbrev n_need_sequence : List Str := ["sequence"]
theorem sc_need_sequence : FnScope n_need_sequence ["sequence"] (defScope s_need_sequence) := ⟨rfl, rfl, rfl, by decide +kernel, rfl, by decide +kernel, by decide +kernel⟩
def b_need_sequence : DenS :=
  (dIfS (dtNot (dtT (dCall false 1 f_is_sequence_of [(dVar 0)]))) (dRaise "BadSequence") dSkip)
def f_need_sequence : FD := dFun false 0 b_need_sequence
theorem k_need_sequence (D : DefAt G.K mg "need_sequence" s_need_sequence ["sequence"]) (c_is_sequence_of : CalF P wl G mg base 2 "is_sequence_of" false 1 f_is_sequence_of) (e_BadSequence : ErrC G mg "BadSequence") : CalF P wl G mg base 3 "need_sequence" false 1 f_need_sequence := by
  refine cal_ok (k := 2) (fx := fun i => false) D sc_need_sequence rfl rfl (by decide) (fun z => nomatch z) fun f cdv A outer s H E hr => ?_
  exact (ds_one (ds_if (dt_not (dt_truth (de_c (takes_of rfl rfl rfl rfl) c_is_sequence_of hr (by decide) (da_cons (dv 0) da_nil)) (by intro _; rfl))) (ds_one (ds_raise rfl (takes_of rfl rfl rfl rfl) e_BadSequence)) ds_nil))
abbrev s_doubles_by : Stmt := top 11
abbrev n_doubles_by : List Str := ["sequence", "size", "i", "j"]
theorem sc_doubles_by : FnScope n_doubles_by ["sequence"] (defScope s_doubles_by) := ⟨rfl, rfl, rfl, by decide +kernel, rfl, by decide +kernel, by decide +kernel⟩
def b_doubles_by : DenS :=
  (dSeq (dSet 1 (dN opLen0 [(dVar 0)]))
  (dRet (dLc2 (dRng rng2 [(dC (.int 1)), (dVar 1)]) (gN 2) dYes (dRng rng2 [(d2 opAdd (dVar 2) (dC (.int 1))), (d2 opAdd (dVar 1) (dC (.int 1)))]) (gN 3) (dtB (d2 opGt (d2 opIx (dVar 0) (d2 opSub (dVar 2) (dC (.int 1)))) (d2 opIx (dVar 0) (d2 opSub (dVar 3) (dC (.int 1)))))) (dTup [(dVar 2), (dVar 3)]) [2, 3] [3])))
def f_doubles_by : FD := dFun false 3 b_doubles_by
theorem k_doubles_by (D : DefAt G.K mg "doubles_by" s_doubles_by ["sequence"]) (B : Bn mg) : CalF P wl G mg base 1 "doubles_by" false 1 f_doubles_by := by
  refine cal_ok (k := 0) (fx := fun i => false) D sc_doubles_by rfl rfl (by decide) (fun z => nomatch z) fun f cdv A outer s H E hr => ?_
  exact (ds_cons (ds_set (i := 1) sc_doubles_by.nd rfl (by first | exact Or.inl rfl | exact Or.inr rfl) rfl (de_callB call_len s_len (by rfl) B.len PySem.boot_len (da_cons (dv 0) da_nil)))
  (ds_one (ds_ret (de_lc2 rfl sc_doubles_by.nd (di_rng2 (by rfl) B.range (da_cons de_int (da_cons (dv 1) da_nil))) (blkOk_by (N := n_doubles_by) (sc := defScope s_doubles_by) (own := [("i", 2), ("j", 3)]) (by decide +kernel)) rfl (by decide) (fun _ _ _ _ _ => (dg_name (i := 2) sc_doubles_by.nd rfl (by first | exact Or.inl rfl | exact Or.inr rfl) (by decide))) (fun _ _ _ _ _ => dts_nil) (fun _ _ _ _ _ => (di_rng2 (by rfl) B.range (da_cons (de_bin or_add s_add (dv 2) de_int) (da_cons (de_bin or_add s_add (dv 1) de_int) da_nil)))) (fun _ _ _ _ _ => (dg_name (i := 3) sc_doubles_by.nd rfl (by first | exact Or.inl rfl | exact Or.inr rfl) (by decide))) (fun _ _ _ _ _ => (dts_one (dt_cmp op_gt s_cmp (de_ix ix_seq s_ix (dv 0) (de_bin op_sub s_sub (dv 2) de_int) (fun _ _ => rfl)) (de_ix ix_seq s_ix (dv 0) (de_bin op_sub s_sub (dv 3) de_int) (fun _ _ => rfl)) (by with_unfolding_all rfl)))) (fun _ _ _ _ _ => (de_tup (da_cons (dv 2) (da_cons (dv 3) da_nil))))))))
abbrev s_crossings_by : Stmt := top 12
abbrev n_crossings_by : List Str := ["sequence"]
theorem sc_crossings_by : FnScope n_crossings_by ["sequence"] (defScope s_crossings_by) := ⟨rfl, rfl, rfl, by decide +kernel, rfl, by decide +kernel, by decide +kernel⟩
def b_crossings_by : DenS :=
  (dRet (dN opLen0 [(dCall false 1 f_doubles_by [(dVar 0)])]))
def f_crossings_by : FD := dFun false 0 b_crossings_by
theorem k_crossings_by (D : DefAt G.K mg "crossings_by" s_crossings_by ["sequence"]) (B : Bn mg) (c_doubles_by : CalF P wl G mg base 1 "doubles_by" false 1 f_doubles_by) : CalF P wl G mg base 2 "crossings_by" false 1 f_crossings_by := by
  refine cal_ok (k := 1) (fx := fun i => false) D sc_crossings_by rfl rfl (by decide) (fun z => nomatch z) fun f cdv A outer s H E hr => ?_
  exact (ds_one (ds_ret (de_callB call_len s_len (by rfl) B.len PySem.boot_len (da_cons (de_c (takes_of rfl rfl rfl rfl) c_doubles_by hr (by decide) (da_cons (dv 0) da_nil)) da_nil))))
abbrev s_back_by : Stmt := top 13
abbrev n_back_by : List Str := ["sequence", "wire"]
theorem sc_back_by : FnScope n_back_by ["sequence"] (defScope s_back_by) := ⟨rfl, rfl, rfl, by decide +kernel, rfl, by decide +kernel, by decide +kernel⟩
def b_back_by : DenS :=
  (dRet (dN opTuple [(dLc (dRng rng2 [(dC (.int 1)), (d2 opAdd (dN opLen0 [(dVar 0)]) (dC (.int 1)))]) (gN 1) dYes (d2 opAdd (dIx (dVar 0) (dVar 1)) (dC (.int 1))) [1])]))
def f_back_by : FD := dFun false 1 b_back_by
theorem k_back_by (D : DefAt G.K mg "back_by" s_back_by ["sequence"]) (B : Bn mg) : CalF P wl G mg base 1 "back_by" false 1 f_back_by := by
  refine cal_ok (k := 0) (fx := fun i => false) D sc_back_by rfl rfl (by decide) (fun z => nomatch z) fun f cdv A outer s H E hr => ?_
  exact (ds_one (ds_ret (de_callTy cr_tuple s_tuple (by rfl) B.tuple PyProof.Rows.boot_tuple (da_cons (de_lc rfl sc_back_by.nd (di_rng2 (by rfl) B.range (da_cons de_int (da_cons (de_bin or_add s_add (de_callB call_len s_len (by rfl) B.len PySem.boot_len (da_cons (dv 0) da_nil)) de_int) da_nil))) (blkOk_by (N := n_back_by) (sc := defScope s_back_by) (own := [("wire", 1)]) (by decide +kernel)) rfl (fun _ _ _ _ _ => (dg_name (i := 1) sc_back_by.nd rfl (by first | exact Or.inl rfl | exact Or.inr rfl) (by decide))) (fun _ _ _ _ _ => dts_nil) (fun _ _ _ _ _ => (de_bin or_add s_add (de_tupIndex (dv 0) (dv 1)) de_int))) da_nil))))
abbrev s_code_by : Stmt := top 14
abbrev n_code_by : List Str := ["sequence", "late", "at", "wire"]
theorem sc_code_by : FnScope n_code_by ["sequence"] (defScope s_code_by) := ⟨rfl, rfl, rfl, by decide +kernel, rfl, by decide +kernel, by decide +kernel⟩
def b_code_by : DenS :=
  (dRet (dN opTuple [(dLc (dEn [(dVar 0)]) (gT 2 (gsC (gN 2) (gsC (gN 3) gsN))) dYes (dN opLen0 [(dLc (dSrc (dSl (dVar 0) (some (dVar 2)) none)) (gN 1) (dtB (d2 opLt (dVar 1) (dVar 3))) (dVar 1) [1])]) [2, 3])]))
def f_code_by : FD := dFun false 3 b_code_by
theorem k_code_by (D : DefAt G.K mg "code_by" s_code_by ["sequence"]) (B : Bn mg) (hGP : P = G.P) (hGw : wl = G.w) : CalF P wl G mg base 1 "code_by" false 1 f_code_by := by
  refine cal_ok (k := 0) (fx := fun i => false) D sc_code_by rfl rfl (by decide) (fun z => nomatch z) fun f cdv A outer s H E hr => ?_
  exact (ds_one (ds_ret (de_callTy cr_tuple s_tuple (by rfl) B.tuple PyProof.Rows.boot_tuple (da_cons (de_lc rfl sc_code_by.nd (di_enum (by rfl) B.enumerate (da_cons (dv 0) da_nil)) (blkOk_by (N := n_code_by) (sc := defScope s_code_by) (own := [("at", 2), ("wire", 3)]) (by decide +kernel)) rfl (fun _ _ _ _ _ => (dg_pair rfl (dgs_cons (dg_name (i := 2) sc_code_by.nd rfl (by first | exact Or.inl rfl | exact Or.inr rfl) (by decide)) (dgs_cons (dg_name (i := 3) sc_code_by.nd rfl (by first | exact Or.inl rfl | exact Or.inr rfl) (by decide)) dgs_nil)))) (fun _ _ _ _ _ => dts_nil) (fun _ _ _ _ _ => (de_callB call_len s_len (by rfl) B.len PySem.boot_len (da_cons (de_lc rfl sc_code_by.nd (di_seq hGP hGw (de_sl (dv 0) (dp_some (dv 2)) dp_none)) (blkOk_by (own := [("late", 1)]) (by kernel_rfl)) rfl (fun _ _ _ _ _ => (dg_name (i := 1) sc_code_by.nd rfl (by first | exact Or.inl rfl | exact Or.inr rfl) (by decide))) (fun _ _ _ _ _ => (dts_one (dt_cmp op_lt s_cmp (dv 1) (dv 3) (by with_unfolding_all rfl)))) (fun _ _ _ _ _ => (dv 1))) da_nil)))) da_nil))))
abbrev s_doubles : Stmt := top 15
abbrev n_doubles : List Str := ["sequence"]
theorem sc_doubles : FnScope n_doubles ["sequence"] (defScope s_doubles) := ⟨rfl, rfl, rfl, by decide +kernel, rfl, by decide +kernel, by decide +kernel⟩
def b_doubles : DenS :=
  (dSeq (dExpr (dCall false 1 f_need_sequence [(dVar 0)]))
  (dRet (dN opTuple [(dCall false 1 f_doubles_by [(dVar 0)])])))
def f_doubles : FD := dFun false 0 b_doubles
theorem k_doubles (D : DefAt G.K mg "doubles" s_doubles ["sequence"]) (B : Bn mg) (c_need_sequence : CalF P wl G mg base 3 "need_sequence" false 1 f_need_sequence) (c_doubles_by : CalF P wl G mg base 1 "doubles_by" false 1 f_doubles_by) : CalF P wl G mg base 4 "doubles" false 1 f_doubles := by
  refine cal_ok (k := 3) (fx := fun i => false) D sc_doubles rfl rfl (by decide) (fun z => nomatch z) fun f cdv A outer s H E hr => ?_
  exact (ds_cons (ds_expr (de_c (takes_of rfl rfl rfl rfl) c_need_sequence hr (by decide) (da_cons (dv 0) da_nil)))
  (ds_one (ds_ret (de_callTy cr_tuple s_tuple (by rfl) B.tuple PyProof.Rows.boot_tuple (da_cons (de_c (takes_of rfl rfl rfl rfl) c_doubles_by hr (by decide) (da_cons (dv 0) da_nil)) da_nil)))))
abbrev s_many_crossings : Stmt := top 16
abbrev n_many_crossings : List Str := ["sequence"]
theorem sc_many_crossings : FnScope n_many_crossings ["sequence"] (defScope s_many_crossings) := ⟨rfl, rfl, rfl, by decide +kernel, rfl, by decide +kernel, by decide +kernel⟩
def b_many_crossings : DenS :=
  (dSeq (dExpr (dCall false 1 f_need_sequence [(dVar 0)]))
  (dRet (dCall false 1 f_crossings_by [(dVar 0)])))
def f_many_crossings : FD := dFun false 0 b_many_crossings
theorem k_many_crossings (D : DefAt G.K mg "many_crossings" s_many_crossings ["sequence"]) (c_need_sequence : CalF P wl G mg base 3 "need_sequence" false 1 f_need_sequence) (c_crossings_by : CalF P wl G mg base 2 "crossings_by" false 1 f_crossings_by) : CalF P wl G mg base 4 "many_crossings" false 1 f_many_crossings := by
  refine cal_ok (k := 3) (fx := fun i => false) D sc_many_crossings rfl rfl (by decide) (fun z => nomatch z) fun f cdv A outer s H E hr => ?_
  exact (ds_cons (ds_expr (de_c (takes_of rfl rfl rfl rfl) c_need_sequence hr (by decide) (da_cons (dv 0) da_nil)))
  (ds_one (ds_ret (de_c (takes_of rfl rfl rfl rfl) c_crossings_by hr (by decide) (da_cons (dv 0) da_nil)))))
abbrev s_code : Stmt := top 17
abbrev n_code : List Str := ["sequence"]
theorem sc_code : FnScope n_code ["sequence"] (defScope s_code) := ⟨rfl, rfl, rfl, by decide +kernel, rfl, by decide +kernel, by decide +kernel⟩
def b_code : DenS :=
  (dSeq (dExpr (dCall false 1 f_need_sequence [(dVar 0)]))
  (dRet (dCall false 1 f_code_by [(dVar 0)])))
def f_code : FD := dFun false 0 b_code
theorem k_code (D : DefAt G.K mg "code" s_code ["sequence"]) (c_need_sequence : CalF P wl G mg base 3 "need_sequence" false 1 f_need_sequence) (c_code_by : CalF P wl G mg base 1 "code_by" false 1 f_code_by) : CalF P wl G mg base 4 "code" false 1 f_code := by
  refine cal_ok (k := 3) (fx := fun i => false) D sc_code rfl rfl (by decide) (fun z => nomatch z) fun f cdv A outer s H E hr => ?_
  exact (ds_cons (ds_expr (de_c (takes_of rfl rfl rfl rfl) c_need_sequence hr (by decide) (da_cons (dv 0) da_nil)))
  (ds_one (ds_ret (de_c (takes_of rfl rfl rfl rfl) c_code_by hr (by decide) (da_cons (dv 0) da_nil)))))
abbrev s_corner_by : Stmt := top 19
abbrev n_corner_by : List Str := ["sequence", "i", "j", "wire"]
theorem sc_corner_by : FnScope n_corner_by ["sequence", "i", "j"] (defScope s_corner_by) := ⟨rfl, rfl, rfl, by decide +kernel, rfl, by decide +kernel, by decide +kernel⟩
def b_corner_by : DenS :=
  (dRet (dN opLen0 [(dLc (dSrc (dSl (dVar 0) none (some (dVar 1)))) (gN 3) (dtB (d2 opLe (dVar 3) (dVar 2))) (dVar 3) [3])]))
def f_corner_by : FD := dFun false 1 b_corner_by
theorem k_corner_by (D : DefAt G.K mg "corner_by" s_corner_by ["sequence", "i", "j"]) (B : Bn mg) (hGP : P = G.P) (hGw : wl = G.w) : CalF P wl G mg base 1 "corner_by" false 3 f_corner_by := by
  refine cal_ok (k := 0) (fx := fun i => false) D sc_corner_by rfl rfl (by decide) (fun z => nomatch z) fun f cdv A outer s H E hr => ?_
  exact (ds_one (ds_ret (de_callB call_len s_len (by rfl) B.len PySem.boot_len (da_cons (de_lc rfl sc_corner_by.nd (di_seq hGP hGw (de_sl (dv 0) dp_none (dp_some (dv 1)))) (blkOk_by (N := n_corner_by) (sc := defScope s_corner_by) (own := [("wire", 3)]) (by decide +kernel)) rfl (fun _ _ _ _ _ => (dg_name (i := 3) sc_corner_by.nd rfl (by first | exact Or.inl rfl | exact Or.inr rfl) (by decide))) (fun _ _ _ _ _ => (dts_one (dt_cmp op_le s_cmp (dv 3) (dv 2) (by with_unfolding_all rfl)))) (fun _ _ _ _ _ => (dv 3))) da_nil))))
abbrev s_diagram_by : Stmt := top 21
abbrev n_diagram_by : List Str := ["sequence", "places", "found", "i", "wire", "j"]
theorem sc_diagram_by : FnScope n_diagram_by ["sequence"] (defScope s_diagram_by) := ⟨rfl, rfl, rfl, by decide +kernel, rfl, by decide +kernel, by decide +kernel⟩
def b_diagram_by : DenS :=
  (dSeq (dSet 1 (dShr (dCall false 1 f_back_by [(dVar 0)])))
  (dSeq (dSet 2 (dLst []))
  (dSeq (dFor (dEn [(dVar 0), (dC (.int 1))]) (gT 2 (gsC (gN 3) (gsC (gN 4) gsN))) (dExpr (dLm 2 mExtend [(dLc (dRng rng2 [(dC (.int 1)), (dVar 4)]) (gN 5) (dtB (d2 opGt (d2 opIx (dVar 1) (d2 opSub (dVar 5) (dC (.int 1)))) (dVar 3))) (dTup [(dVar 3), (dVar 5)]) [5])])))
  (dRet (dVar 2)))))
def f_diagram_by : FD := dFun false 5 b_diagram_by
theorem k_diagram_by (D : DefAt G.K mg "diagram_by" s_diagram_by ["sequence"]) (B : Bn mg) (c_back_by : CalF P wl G mg base 1 "back_by" false 1 f_back_by) : CalF P wl G mg base 2 "diagram_by" false 1 f_diagram_by := by
  refine cal_ok (k := 1) (fx := fun i => false) D sc_diagram_by rfl rfl (by decide) (fun z => nomatch z) fun f cdv A outer s H E hr => ?_
  exact (ds_cons (ds_set (i := 1) sc_diagram_by.nd rfl (by first | exact Or.inl rfl | exact Or.inr rfl) rfl (de_shr (de_c (takes_of rfl rfl rfl rfl) c_back_by hr (by decide) (da_cons (dv 0) da_nil))))
  (ds_cons (ds_set (i := 2) sc_diagram_by.nd rfl (by first | exact Or.inl rfl | exact Or.inr rfl) rfl (de_lst da_nil))
  (ds_cons (ds_for (passes_of rfl) rfl (di_enum (by rfl) B.enumerate (da_cons (dv 0) (da_cons de_int da_nil))) (dg_pair rfl (dgs_cons (dg_name (i := 3) sc_diagram_by.nd rfl (by first | exact Or.inl rfl | exact Or.inr rfl) rfl) (dgs_cons (dg_name (i := 4) sc_diagram_by.nd rfl (by first | exact Or.inl rfl | exact Or.inr rfl) rfl) dgs_nil))) (ds_one (ds_expr (de_lm (i := 2) PySem.F.slot_list_extend PySem.F.type_list_extend (MtR.of mt_extend) lm_extend rfl (by first | exact Or.inl rfl | exact Or.inr (Or.inl rfl) | exact Or.inr (Or.inr rfl)) (da_cons (de_lc rfl sc_diagram_by.nd (di_rng2 (by rfl) B.range (da_cons de_int (da_cons (dv 4) da_nil))) (blkOk_by (N := n_diagram_by) (sc := defScope s_diagram_by) (own := [("j", 5)]) (by decide +kernel)) rfl (fun _ _ _ _ _ => (dg_name (i := 5) sc_diagram_by.nd rfl (by first | exact Or.inl rfl | exact Or.inr rfl) (by decide))) (fun _ _ _ _ _ => (dts_one (dt_cmp op_gt s_cmp (de_ix ix_seq s_ix (dv 1) (de_bin op_sub s_sub (dv 5) de_int) (fun _ _ => rfl)) (dv 3) (by with_unfolding_all rfl)))) (fun _ _ _ _ _ => (de_tup (da_cons (dv 3) (da_cons (dv 5) da_nil))))) da_nil)))))
  (ds_one (ds_ret (dv 2))))))
abbrev s_telling_by : Stmt := top 22
abbrev n_telling_by : List Str := ["sequence", "found", "i", "j"]
theorem sc_telling_by : FnScope n_telling_by ["sequence"] (defScope s_telling_by) := ⟨rfl, rfl, rfl, by decide +kernel, rfl, by decide +kernel, by decide +kernel⟩
def b_telling_by : DenS :=
  (dSeq (dSet 1 (dShr (dCall false 1 f_diagram_by [(dVar 0)])))
  (dRet (dLc (dSrc (dVar 1)) (gT 2 (gsC (gN 2) (gsC (gN 3) gsN))) (dtAnd (dtB (d2 (opIn true) (dTup [(d2 opAdd (dVar 2) (dC (.int 1))), (dVar 3)]) (dVar 1))) (dtB (d2 (opIn true) (dTup [(dVar 2), (d2 opAdd (dVar 3) (dC (.int 1)))]) (dVar 1)))) (dTup [(dVar 2), (dVar 3)]) [2, 3])))
def f_telling_by : FD := dFun false 3 b_telling_by
theorem k_telling_by (D : DefAt G.K mg "telling_by" s_telling_by ["sequence"]) (hGP : P = G.P) (hGw : wl = G.w) (c_diagram_by : CalF P wl G mg base 2 "diagram_by" false 1 f_diagram_by) : CalF P wl G mg base 3 "telling_by" false 1 f_telling_by := by
  refine cal_ok (k := 2) (fx := fun i => false) D sc_telling_by rfl rfl (by decide) (fun z => nomatch z) fun f cdv A outer s H E hr => ?_
  exact (ds_cons (ds_set (i := 1) sc_telling_by.nd rfl (by first | exact Or.inl rfl | exact Or.inr rfl) rfl (de_shr (de_c (takes_of rfl rfl rfl rfl) c_diagram_by hr (by decide) (da_cons (dv 0) da_nil))))
  (ds_one (ds_ret (de_lc rfl sc_telling_by.nd (di_seq hGP hGw (dv 1)) (blkOk_by (N := n_telling_by) (sc := defScope s_telling_by) (own := [("i", 2), ("j", 3)]) (by decide +kernel)) rfl (fun _ _ _ _ _ => (dg_tup rfl (dgs_cons (dg_name (i := 2) sc_telling_by.nd rfl (by first | exact Or.inl rfl | exact Or.inr rfl) (by decide)) (dgs_cons (dg_name (i := 3) sc_telling_by.nd rfl (by first | exact Or.inl rfl | exact Or.inr rfl) (by decide)) dgs_nil)))) (fun _ _ _ _ _ => (dts_one (PW.pt (dw_and (dt_cmp (or_notin (room65 hr)) s_in (de_tup (da_cons (de_bin or_add s_add (dv 2) de_int) (da_cons (dv 3) da_nil))) (dv 1) (by with_unfolding_all rfl)) (dw_and1 (dt_cmp (or_notin (room65 hr)) s_in (de_tup (da_cons (dv 2) (da_cons (de_bin or_add s_add (dv 3) de_int) da_nil))) (dv 1) (by with_unfolding_all rfl))))))) (fun _ _ _ _ _ => (de_tup (da_cons (dv 2) (da_cons (dv 3) da_nil))))))))
abbrev s_diagram : Stmt := top 23
abbrev n_diagram : List Str := ["sequence"]
theorem sc_diagram : FnScope n_diagram ["sequence"] (defScope s_diagram) := ⟨rfl, rfl, rfl, by decide +kernel, rfl, by decide +kernel, by decide +kernel⟩
def b_diagram : DenS :=
  (dSeq (dExpr (dCall false 1 f_need_sequence [(dVar 0)]))
  (dRet (dN opTuple [(dCall false 1 f_diagram_by [(dVar 0)])])))
def f_diagram : FD := dFun false 0 b_diagram
theorem k_diagram (D : DefAt G.K mg "diagram" s_diagram ["sequence"]) (B : Bn mg) (c_need_sequence : CalF P wl G mg base 3 "need_sequence" false 1 f_need_sequence) (c_diagram_by : CalF P wl G mg base 2 "diagram_by" false 1 f_diagram_by) : CalF P wl G mg base 4 "diagram" false 1 f_diagram := by
  refine cal_ok (k := 3) (fx := fun i => false) D sc_diagram rfl rfl (by decide) (fun z => nomatch z) fun f cdv A outer s H E hr => ?_
  exact (ds_cons (ds_expr (de_c (takes_of rfl rfl rfl rfl) c_need_sequence hr (by decide) (da_cons (dv 0) da_nil)))
  (ds_one (ds_ret (de_callTy cr_tuple s_tuple (by rfl) B.tuple PyProof.Rows.boot_tuple (da_cons (de_c (takes_of rfl rfl rfl rfl) c_diagram_by hr (by decide) (da_cons (dv 0) da_nil)) da_nil)))))
abbrev s_told_by_corners : Stmt := top 24
abbrev n_told_by_corners : List Str := ["sequence", "i", "j"]
theorem sc_told_by_corners : FnScope n_told_by_corners ["sequence"] (defScope s_told_by_corners) := ⟨rfl, rfl, rfl, by decide +kernel, rfl, by decide +kernel, by decide +kernel⟩
def b_told_by_corners : DenS :=
  (dSeq (dExpr (dCall false 1 f_need_sequence [(dVar 0)]))
  (dRet (dDc (dSrc (dCall false 1 f_telling_by [(dVar 0)])) (gT 2 (gsC (gN 1) (gsC (gN 2) gsN))) dYes (dTup [(dVar 1), (dVar 2)]) (dCall false 3 f_corner_by [(dVar 0), (dVar 1), (dVar 2)]) [1, 2])))
def f_told_by_corners : FD := dFun false 2 b_told_by_corners
theorem k_told_by_corners (D : DefAt G.K mg "told_by_corners" s_told_by_corners ["sequence"]) (hGP : P = G.P) (hGw : wl = G.w) (c_need_sequence : CalF P wl G mg base 3 "need_sequence" false 1 f_need_sequence) (c_telling_by : CalF P wl G mg base 3 "telling_by" false 1 f_telling_by) (c_corner_by : CalF P wl G mg base 1 "corner_by" false 3 f_corner_by) : CalF P wl G mg base 4 "told_by_corners" false 1 f_told_by_corners := by
  refine cal_ok (k := 3) (fx := fun i => false) D sc_told_by_corners rfl rfl (by decide) (fun z => nomatch z) fun f cdv A outer s H E hr => ?_
  exact (ds_cons (ds_expr (de_c (takes_of rfl rfl rfl rfl) c_need_sequence hr (by decide) (da_cons (dv 0) da_nil)))
  (ds_one (ds_ret (de_dc hGP hGw rfl (room64 hr) rfl sc_told_by_corners.nd (di_seq hGP hGw (de_c (takes_of rfl rfl rfl rfl) c_telling_by hr (by decide) (da_cons (dv 0) da_nil))) (blkOk_by (N := n_told_by_corners) (sc := defScope s_told_by_corners) (own := [("i", 1), ("j", 2)]) (by decide +kernel)) rfl (fun _ _ _ _ _ => (dg_tup rfl (dgs_cons (dg_name (i := 1) sc_told_by_corners.nd rfl (by first | exact Or.inl rfl | exact Or.inr rfl) (by decide)) (dgs_cons (dg_name (i := 2) sc_told_by_corners.nd rfl (by first | exact Or.inl rfl | exact Or.inr rfl) (by decide)) dgs_nil)))) (fun _ _ _ _ _ => dts_nil) (fun _ _ _ _ _ => (de_tup (da_cons (dv 1) (da_cons (dv 2) da_nil)))) (fun _ _ _ _ _ => (de_c takes0 c_corner_by hr (by decide) (da_cons (dv 0) (da_cons (dv 1) (da_cons (dv 2) da_nil)))))))))
abbrev s_without_noughts : Stmt := top 27
abbrev n_without_noughts : List Str := ["rows", "row", "number"]
theorem sc_without_noughts : FnScope n_without_noughts ["rows"] (defScope s_without_noughts) := ⟨rfl, rfl, rfl, by decide +kernel, rfl, by decide +kernel, by decide +kernel⟩
def b_without_noughts : DenS :=
  (dRet (dDc (dSrcD selI (dVar 0)) (gT 2 (gsC (gN 1) (gsC (gN 2) gsN))) (dtB (d2 opNe (dVar 2) (dC (.int 0)))) (dVar 1) (dVar 2) [1, 2]))
def f_without_noughts : FD := dFun false 2 b_without_noughts
theorem k_without_noughts (D : DefAt G.K mg "without_noughts" s_without_noughts ["rows"]) (hGP : P = G.P) (hGw : wl = G.w) : CalF P wl G mg base 1 "without_noughts" false 1 f_without_noughts := by
  refine cal_ok (k := 0) (fx := fun i => false) D sc_without_noughts rfl rfl (by decide) (fun z => nomatch z) fun f cdv A outer s H E hr => ?_
  exact (ds_one (ds_ret (de_dc hGP hGw rfl (room64 hr) rfl sc_without_noughts.nd (di_items hGP hGw (dv 0)) (blkOk_by (N := n_without_noughts) (sc := defScope s_without_noughts) (own := [("row", 1), ("number", 2)]) (by decide +kernel)) rfl (fun _ _ _ _ _ => (dg_pair rfl (dgs_cons (dg_name (i := 1) sc_without_noughts.nd rfl (by first | exact Or.inl rfl | exact Or.inr rfl) (by decide)) (dgs_cons (dg_name (i := 2) sc_without_noughts.nd rfl (by first | exact Or.inl rfl | exact Or.inr rfl) (by decide)) dgs_nil)))) (fun _ _ _ _ _ => (dts_one (dt_cmp (op_neD (room64 hr)) s_ne (dv 2) de_int (by with_unfolding_all rfl)))) (fun _ _ _ _ _ => (dv 1)) (fun _ _ _ _ _ => (dv 2)))))
abbrev s_cut_by : Stmt := top 29
abbrev n_cut_by : List Str := ["rows", "at", "found", "row", "number", "one", "other", "sign", "low", "high", "more", "late"]
theorem sc_cut_by : FnScope n_cut_by ["rows", "at"] (defScope s_cut_by) := ⟨rfl, rfl, rfl, by decide +kernel, rfl, by decide +kernel, by decide +kernel⟩
def b_cut_by : DenS :=
  (dSeq (dSet 2 dNew)
  (dSeq (dFor (dSrcD selI (dVar 0)) (gT 2 (gsC (gN 3) (gsC (gN 4) gsN))) (dSeq (dPar 5 6 [(d2 opIx (dVar 3) (d2 opSub (dVar 1) (dC (.int 1)))), (d2 opIx (dVar 3) (dVar 1))])
  (dSeq (dAsg (dIf (dtB (d2 opGt (dVar 5) (dVar 6))) (dTup [(dC (.int 1)), (dVar 6), (dVar 5)]) (dTup [(d1 opNeg (dC (.int 1))), (dVar 5), (dVar 6)])) (gT 3 (gsC (gN 7) (gsC (gN 8) (gsC (gN 9) gsN)))))
  (dFor (dRng rng1 [(d2 opSub (dVar 9) (dVar 8))]) (gN 10) (dSeq (dSet 11 (d2 opAdd (d2 opAdd (dSl (dVar 3) none (some (d2 opSub (dVar 1) (dC (.int 1))))) (dTup [(d2 opAdd (dVar 8) (dVar 10)), (d2 opSub (d2 opSub (dVar 9) (dC (.int 1))) (dVar 10))])) (dSl (dVar 3) (some (d2 opAdd (dVar 1) (dC (.int 1)))) none)))
  (dAsg (d2 opAdd (dGetE (dVar 2) [(dVar 11), (dC (.int 0))]) (d2 opMul (dVar 7) (dVar 4))) (gPut 2 (dVar 11))))))))
  (dRet (dCall false 1 f_without_noughts [(dVar 2)]))))
def f_cut_by : FD := dFun false 10 b_cut_by
theorem k_cut_by (D : DefAt G.K mg "cut_by" s_cut_by ["rows", "at"]) (B : Bn mg) (hGP : P = G.P) (hGw : wl = G.w) (c_without_noughts : CalF P wl G mg base 1 "without_noughts" false 1 f_without_noughts) : CalF P wl G mg base 2 "cut_by" false 2 f_cut_by := by
  refine cal_ok (k := 1) (fx := fun i => false) D sc_cut_by rfl rfl (by decide) (fun z => nomatch z) fun f cdv A outer s H E hr => ?_
  exact (ds_cons (ds_set (i := 2) sc_cut_by.nd rfl (by first | exact Or.inl rfl | exact Or.inr rfl) rfl de_new)
  (ds_cons (ds_for (passes_of rfl) rfl (di_items hGP hGw (dv 0)) (dg_pair rfl (dgs_cons (dg_name (i := 3) sc_cut_by.nd rfl (by first | exact Or.inl rfl | exact Or.inr rfl) rfl) (dgs_cons (dg_name (i := 4) sc_cut_by.nd rfl (by first | exact Or.inl rfl | exact Or.inr rfl) rfl) dgs_nil))) (ds_cons (ds_par (i := 5) (j := 6) rfl sc_cut_by.nd rfl rfl (by decide) rfl rfl rfl rfl (da_cons (de_ix ix_seq s_ix (dv 3) (de_bin op_sub s_sub (dv 1) de_int) (fun _ _ => rfl)) (da_cons (de_ix ix_seq s_ix (dv 3) (dv 1) (fun _ _ => rfl)) da_nil)))
  (ds_cons (ds_asg (de_if (dt_cmp op_gt s_cmp (dv 5) (dv 6) (by with_unfolding_all rfl)) (de_tup (da_cons de_int (da_cons (dv 6) (da_cons (dv 5) da_nil)))) (de_tup (da_cons (de_un un_neg s_neg de_int) (da_cons (dv 5) (da_cons (dv 6) da_nil))))) (dg_tup rfl (dgs_cons (dg_name (i := 7) sc_cut_by.nd rfl (by first | exact Or.inl rfl | exact Or.inr rfl) rfl) (dgs_cons (dg_name (i := 8) sc_cut_by.nd rfl (by first | exact Or.inl rfl | exact Or.inr rfl) rfl) (dgs_cons (dg_name (i := 9) sc_cut_by.nd rfl (by first | exact Or.inl rfl | exact Or.inr rfl) rfl) dgs_nil)))))
  (ds_one (ds_for (passes_of rfl) rfl (di_rng1 (by rfl) B.range (da_cons (de_bin op_sub s_sub (dv 9) (dv 8)) da_nil)) (dg_name (i := 10) sc_cut_by.nd rfl (by first | exact Or.inl rfl | exact Or.inr rfl) rfl) (ds_cons (ds_set (i := 11) sc_cut_by.nd rfl (by first | exact Or.inl rfl | exact Or.inr rfl) rfl (de_bin or_add s_add (de_bin or_add s_add (de_sl (dv 3) dp_none (dp_some (de_bin op_sub s_sub (dv 1) de_int))) (de_tup (da_cons (de_bin or_add s_add (dv 8) (dv 10)) (da_cons (de_bin op_sub s_sub (de_bin op_sub s_sub (dv 9) de_int) (dv 10)) da_nil)))) (de_sl (dv 3) (dp_some (de_bin or_add s_add (dv 1) de_int)) dp_none)))
  (ds_one (ds_asg (de_bin or_add s_add (de_getE hGP hGw rfl (room64 hr) (dv 2) (da_cons (dv 11) (da_cons de_int da_nil))) (de_bin or_mul s_mul (dv 7) (dv 4))) (dg_put (i := 2) hGP hGw (room64 hr) rfl (by first | exact Or.inl rfl | exact Or.inr (Or.inl rfl) | exact Or.inr (Or.inr rfl)) (dv 11))))))))))
  (ds_one (ds_ret (de_c (takes_of rfl rfl rfl rfl) c_without_noughts hr (by decide) (da_cons (dv 2) da_nil))))))
abbrev s_sum_by : Stmt := top 31
abbrev n_sum_by : List Str := ["sequence", "many", "here", "road", "at", "rows", "row", "number"]
theorem sc_sum_by : FnScope n_sum_by ["sequence"] (defScope s_sum_by) := ⟨rfl, rfl, rfl, by decide +kernel, rfl, by decide +kernel, by decide +kernel⟩
def b_sum_by : DenS :=
  (dSeq (dPar3 1 2 3 [(dN opLen0 [(dVar 0)]), (dVar 0), (dLst [])])
  (dSeq (dWhile (dtB (d2 opNe (dVar 2) (dTR3 [(dVar 1), (dC (.int 0)), (d1 opNeg (dC (.int 1)))]))) (dSeq (dSet 4 (d2 opIx (dLc (dRng rng2 [(dC (.int 1)), (dVar 1)]) (gN 4) (dtB (d2 opLt (d2 opIx (dVar 2) (d2 opSub (dVar 4) (dC (.int 1)))) (d2 opIx (dVar 2) (dVar 4)))) (dVar 4) [4]) (dC (.int 0))))
  (dSeq (dSet 2 (dShr (dCall false 2 f_swapped [(dVar 2), (dVar 4)])))
  (dExpr (dLm 3 mAppend [(dVar 4)])))) 64)
  (dSeq (dSet 5 (dShr (dDisp1 (dN opTuple [(dLc (dRng rng2 [(dC (.int 1)), (d2 opAdd (dC (.int 5)) (dC (.int 2)))]) (gN 4) dYes (dN opMax [(d2 opSub (dVar 1) (dVar 4)), (dC (.int 0))]) [4])]) (dC (.int 1)))))
  (dSeq (dFor (dSrc (d1 opRev (dVar 3))) (gN 4) (dSet 5 (dShr (dCall false 2 f_cut_by [(dVar 5), (dVar 4)]))))
  (dRet (dDc (dSrcD selI (dVar 5)) (gT 2 (gsC (gN 6) (gsC (gN 7) gsN))) dYes (dSl (dVar 6) none (some (dC (.int 5)))) (dVar 7) [6, 7]))))))
def f_sum_by : FD := dFun false 7 b_sum_by
theorem k_sum_by (D : DefAt G.K mg "sum_by" s_sum_by ["sequence"]) (B : Bn mg) (hGP : P = G.P) (hGw : wl = G.w) (c_swapped : CalF P wl G mg base 1 "swapped" false 2 f_swapped) (c_cut_by : CalF P wl G mg base 2 "cut_by" false 2 f_cut_by) (g_UNKNOWNS : ∃ t, mg "UNKNOWNS" = some (.int 5 t)) : CalF P wl G mg base 3 "sum_by" false 1 f_sum_by := by
  refine cal_ok (k := 2) (fx := fun i => false) D sc_sum_by rfl rfl (by decide) (fun z => nomatch z) fun f cdv A outer s H E hr => ?_
  exact (ds_cons (ds_parT3 (i := 1) (j := 2) (l := 3) rfl sc_sum_by.nd rfl rfl rfl (by decide) (by decide) (by decide) (by first | exact Or.inl rfl | exact Or.inr rfl) (by first | exact Or.inl rfl | exact Or.inr rfl) (by first | exact Or.inl rfl | exact Or.inr rfl) rfl rfl rfl (da_cons (de_callB call_len s_len (by rfl) B.len PySem.boot_len (da_cons (dv 0) da_nil)) (da_cons (dv 0) (da_cons (de_lst da_nil) da_nil))))
  (ds_cons (ds_while 64 (passes_of rfl) (dt_cmp (op_neD (room64 hr)) s_ne (dv 2) (de_trg3 rfl (by rfl) B.tuple (by rfl) B.range (da_cons (dv 1) (da_cons de_int (da_cons (de_un un_neg s_neg de_int) da_nil)))) (by with_unfolding_all rfl)) (ds_cons (ds_set (i := 4) sc_sum_by.nd rfl (by first | exact Or.inl rfl | exact Or.inr rfl) rfl (de_ix ix_seq s_ix (de_lc rfl sc_sum_by.nd (di_rng2 (by rfl) B.range (da_cons de_int (da_cons (dv 1) da_nil))) (blkOk_by (N := n_sum_by) (sc := defScope s_sum_by) (own := [("at", 4)]) (by decide +kernel)) rfl (fun _ _ _ _ _ => (dg_name (i := 4) sc_sum_by.nd rfl (by first | exact Or.inl rfl | exact Or.inr rfl) (by decide))) (fun _ _ _ _ _ => (dts_one (dt_cmp op_lt s_cmp (de_ix ix_seq s_ix (dv 2) (de_bin op_sub s_sub (dv 4) de_int) (fun _ _ => rfl)) (de_ix ix_seq s_ix (dv 2) (dv 4) (fun _ _ => rfl)) (by with_unfolding_all rfl)))) (fun _ _ _ _ _ => (dv 4))) de_int (fun _ _ => rfl)))
  (ds_cons (ds_set (i := 2) sc_sum_by.nd rfl (by first | exact Or.inl rfl | exact Or.inr rfl) rfl (de_shr (de_c (takes_of rfl rfl rfl rfl) c_swapped hr (by decide) (da_cons (dv 2) (da_cons (dv 4) da_nil)))))
  (ds_one (ds_expr (de_lm (i := 3) PySem.F.slot_list_append PySem.F.type_list_append (MtR.of mt_append) lm_append rfl (by first | exact Or.inl rfl | exact Or.inr (Or.inl rfl) | exact Or.inr (Or.inr rfl)) (da_cons (dv 4) da_nil)))))))
  (ds_cons (ds_set (i := 5) sc_sum_by.nd rfl (by first | exact Or.inl rfl | exact Or.inr rfl) rfl (de_shr (de_disp1 hGP hGw rfl (room64 hr) (de_callTy cr_tuple s_tuple (by rfl) B.tuple PyProof.Rows.boot_tuple (da_cons (de_lc rfl sc_sum_by.nd (di_rng2 (by rfl) B.range (da_cons de_int (da_cons (de_bin or_add s_add (de_gint g_UNKNOWNS) de_int) da_nil))) (blkOk_by (N := n_sum_by) (sc := defScope s_sum_by) (own := [("at", 4)]) (by decide +kernel)) rfl (fun _ _ _ _ _ => (dg_name (i := 4) sc_sum_by.nd rfl (by first | exact Or.inl rfl | exact Or.inr rfl) (by decide))) (fun _ _ _ _ _ => dts_nil) (fun _ _ _ _ _ => (de_callB (cr_maxAll rfl) s_max (by rfl) B.max PyProof.Rows.boot_max (da_cons (de_bin op_sub s_sub (dv 1) (dv 4)) (da_cons de_int da_nil))))) da_nil)) de_int)))
  (ds_cons (ds_for (passes_of rfl) rfl (di_seq hGP hGw (de_rev (dv 3))) (dg_name (i := 4) sc_sum_by.nd rfl (by first | exact Or.inl rfl | exact Or.inr rfl) rfl) (ds_one (ds_set (i := 5) sc_sum_by.nd rfl (by first | exact Or.inl rfl | exact Or.inr rfl) rfl (de_shr (de_c (takes_of rfl rfl rfl rfl) c_cut_by hr (by decide) (da_cons (dv 5) (da_cons (dv 4) da_nil)))))))
  (ds_one (ds_ret (de_dc hGP hGw rfl (room64 hr) rfl sc_sum_by.nd (di_items hGP hGw (dv 5)) (blkOk_by (N := n_sum_by) (sc := defScope s_sum_by) (own := [("row", 6), ("number", 7)]) (by decide +kernel)) rfl (fun _ _ _ _ _ => (dg_pair rfl (dgs_cons (dg_name (i := 6) sc_sum_by.nd rfl (by first | exact Or.inl rfl | exact Or.inr rfl) (by decide)) (dgs_cons (dg_name (i := 7) sc_sum_by.nd rfl (by first | exact Or.inl rfl | exact Or.inr rfl) (by decide)) dgs_nil)))) (fun _ _ _ _ _ => dts_nil) (fun _ _ _ _ _ => (de_sl (dv 6) dp_none (dp_some (de_gint g_UNKNOWNS)))) (fun _ _ _ _ _ => (dv 7)))))))))
abbrev s_sum_of : Stmt := top 32
abbrev n_sum_of : List Str := ["sequence"]
theorem sc_sum_of : FnScope n_sum_of ["sequence"] (defScope s_sum_of) := ⟨rfl, rfl, rfl, by decide +kernel, rfl, by decide +kernel, by decide +kernel⟩
def b_sum_of : DenS :=
  (dSeq (dExpr (dCall false 1 f_need_sequence [(dVar 0)]))
  (dRet (dCall false 1 f_sum_by [(dVar 0)])))
def f_sum_of : FD := dFun false 0 b_sum_of
theorem k_sum_of (D : DefAt G.K mg "sum_of" s_sum_of ["sequence"]) (c_need_sequence : CalF P wl G mg base 3 "need_sequence" false 1 f_need_sequence) (c_sum_by : CalF P wl G mg base 3 "sum_by" false 1 f_sum_by) : CalF P wl G mg base 4 "sum_of" false 1 f_sum_of := by
  refine cal_ok (k := 3) (fx := fun i => false) D sc_sum_of rfl rfl (by decide) (fun z => nomatch z) fun f cdv A outer s H E hr => ?_
  exact (ds_cons (ds_expr (de_c (takes_of rfl rfl rfl rfl) c_need_sequence hr (by decide) (da_cons (dv 0) da_nil)))
  (ds_one (ds_ret (de_c (takes_of rfl rfl rfl rfl) c_sum_by hr (by decide) (da_cons (dv 0) da_nil)))))



abbrev s__law_pick : Stmt := top 37
abbrev n__law_pick : List Str := ["draw", "some"]
theorem sc__law_pick : FnScope n__law_pick ["draw", "some"] (defScope s__law_pick) := ⟨rfl, rfl, rfl, by decide +kernel, rfl, by decide +kernel, by decide +kernel⟩
def b__law_pick : DenS :=
  (dRet (d2 opIx (dVar 1) (dCall true 2 f__law_take [(dVar 0), (dN opLen0 [(dVar 1)])])))
def f__law_pick : FD := dFun true 0 b__law_pick
theorem k__law_pick (D : DefAt G.K mg "_law_pick" s__law_pick ["draw", "some"]) (B : Bn mg) (c__law_take : CalF P wl G mg base 2 "_law_take" true 2 f__law_take) : CalF P wl G mg base 3 "_law_pick" true 2 f__law_pick := by
  refine cal_ok (k := 2) (fx := fun i => decide (i = 0)) D sc__law_pick rfl rfl (by decide) (fun _ => rfl) fun f cdv A outer s H E hr => ?_
  exact (ds_one (ds_ret (de_ix ix_seq s_ix (dv 1) (de_c (takes_of rfl rfl rfl rfl) c__law_take hr (by decide) (da_cons (dv 0) (da_cons (de_callB call_len s_len (by rfl) B.len PySem.boot_len (da_cons (dv 1) da_nil)) da_nil))) (fun _ _ => rfl))))
abbrev s__law_shuffled : Stmt := top 38
abbrev n__law_shuffled : List Str := ["draw", "some", "rest", "found"]
theorem sc__law_shuffled : FnScope n__law_shuffled ["draw", "some"] (defScope s__law_shuffled) := ⟨rfl, rfl, rfl, by decide +kernel, rfl, by decide +kernel, by decide +kernel⟩
def b__law_shuffled : DenS :=
  (dSeq (dPar 2 3 [(dN opList [(dVar 1)]), (dLst [])])
  (dSeq (dWhile (dtB (d2 opNe (dVar 2) (dLst []))) (dExpr (dLm 3 mAppend [(dLm 2 mPopAt [(dCall true 2 f__law_take [(dVar 0), (dN opLen0 [(dVar 2)])])])])) 64)
  (dRet (dVar 3))))
def f__law_shuffled : FD := dFun true 2 b__law_shuffled
theorem k__law_shuffled (D : DefAt G.K mg "_law_shuffled" s__law_shuffled ["draw", "some"]) (B : Bn mg) (c__law_take : CalF P wl G mg base 2 "_law_take" true 2 f__law_take) : CalF P wl G mg base 3 "_law_shuffled" true 2 f__law_shuffled := by
  refine cal_ok (k := 2) (fx := fun i => decide (i = 0)) D sc__law_shuffled rfl rfl (by decide) (fun _ => rfl) fun f cdv A outer s H E hr => ?_
  exact (ds_cons (ds_par (i := 2) (j := 3) rfl sc__law_shuffled.nd rfl rfl (by decide) rfl rfl rfl rfl (da_cons (de_callTy call_list_of s_list (by rfl) B.list PyProof.Rows.boot_list (da_cons (dv 1) da_nil)) (da_cons (de_lst da_nil) da_nil)))
  (ds_cons (ds_while 64 (passes_of rfl) (dt_cmp (op_neD (room64 hr)) s_ne (dv 2) (de_lst da_nil) (by with_unfolding_all rfl)) (ds_one (ds_expr (de_lm (i := 3) PySem.F.slot_list_append PySem.F.type_list_append (MtR.of mt_append) lm_append rfl (by first | exact Or.inl rfl | exact Or.inr (Or.inl rfl) | exact Or.inr (Or.inr rfl)) (da_cons (de_lm (i := 2) PySem.F.slot_list_pop PySem.F.type_list_pop (MtR.of mt_popAt) lm_popAt rfl (by first | exact Or.inl rfl | exact Or.inr (Or.inl rfl) | exact Or.inr (Or.inr rfl)) (da_cons (de_c (takes_of rfl rfl rfl rfl) c__law_take hr (by decide) (da_cons (dv 0) (da_cons (de_callB call_len s_len (by rfl) B.len PySem.boot_len (da_cons (dv 2) da_nil)) da_nil))) da_nil)) da_nil)))))
  (ds_one (ds_ret (dv 3)))))
abbrev s__law_sequence : Stmt := top 39
abbrev n__law_sequence : List Str := ["draw", "wires"]
theorem sc__law_sequence : FnScope n__law_sequence ["draw", "wires"] (defScope s__law_sequence) := ⟨rfl, rfl, rfl, by decide +kernel, rfl, by decide +kernel, by decide +kernel⟩
def b__law_sequence : DenS :=
  (dRet (dN opTuple [(dCall true 2 f__law_shuffled [(dVar 0), (dRg2 mkOwL (dC (.int 1)) (d2 opAdd (dVar 1) (dC (.int 1))))])]))
def f__law_sequence : FD := dFun true 0 b__law_sequence
theorem k__law_sequence (D : DefAt G.K mg "_law_sequence" s__law_sequence ["draw", "wires"]) (B : Bn mg) (c__law_shuffled : CalF P wl G mg base 3 "_law_shuffled" true 2 f__law_shuffled) : CalF P wl G mg base 4 "_law_sequence" true 2 f__law_sequence := by
  refine cal_ok (k := 3) (fx := fun i => decide (i = 0)) D sc__law_sequence rfl rfl (by decide) (fun _ => rfl) fun f cdv A outer s H E hr => ?_
  exact (ds_one (ds_ret (de_callTy cr_tuple s_tuple (by rfl) B.tuple PyProof.Rows.boot_tuple (da_cons (de_c (takes_of rfl rfl rfl rfl) c__law_shuffled hr (by decide) (da_cons (dv 0) (da_cons (de_lrg2 rfl (by rfl) B.list (by rfl) B.range de_int (de_bin or_add s_add (dv 1) de_int)) da_nil))) da_nil))))
abbrev s__law_near_sequence : Stmt := top 40
abbrev n__law_near_sequence : List Str := ["draw", "sequence", "line", "way", "lap", "at", "to"]
theorem sc__law_near_sequence : FnScope n__law_near_sequence ["draw", "sequence"] (defScope s__law_near_sequence) := ⟨rfl, rfl, rfl, by decide +kernel, rfl, by decide +kernel, by decide +kernel⟩
def b__law_near_sequence : DenS :=
  (dSeq (dPar 2 3 [(dN opList [(dVar 1)]), (dCall true 2 f__law_take [(dVar 0), (dC (.int 5))])])
  (dSeq (dFor (dRng rng1 [(d2 opAdd (dC (.int 1)) (d2 opFdiv (dVar 3) (dC (.int 2))))]) (gN 4) (dSeq (dPar 5 6 [(dCall true 2 f__law_take [(dVar 0), (dN opLen0 [(dVar 2)])]), (dCall true 2 f__law_take [(dVar 0), (dN opLen0 [(dVar 2)])])])
  (dAsg (dTup [(d2 opIx (dVar 2) (dVar 6)), (d2 opIx (dVar 2) (dVar 5))]) (gT 2 (gsC (gAt 2 (dVar 5)) (gsC (gAt 2 (dVar 6)) gsN))))))
  (dRet (dIf (dtB (d2 opLt (dVar 3) (dC (.int 4)))) (dN opTuple [(dVar 2)]) (dCall true 2 f__law_sequence [(dVar 0), (dN opLen0 [(dVar 2)])])))))
def f__law_near_sequence : FD := dFun true 5 b__law_near_sequence
theorem k__law_near_sequence (D : DefAt G.K mg "_law_near_sequence" s__law_near_sequence ["draw", "sequence"]) (B : Bn mg) (c__law_take : CalF P wl G mg base 2 "_law_take" true 2 f__law_take) (c__law_sequence : CalF P wl G mg base 4 "_law_sequence" true 2 f__law_sequence) : CalF P wl G mg base 5 "_law_near_sequence" true 2 f__law_near_sequence := by
  refine cal_ok (k := 4) (fx := fun i => decide (i = 0)) D sc__law_near_sequence rfl rfl (by decide) (fun _ => rfl) fun f cdv A outer s H E hr => ?_
  exact (ds_cons (ds_par (i := 2) (j := 3) rfl sc__law_near_sequence.nd rfl rfl (by decide) rfl rfl rfl rfl (da_cons (de_callTy call_list_of s_list (by rfl) B.list PyProof.Rows.boot_list (da_cons (dv 1) da_nil)) (da_cons (de_c (takes_of rfl rfl rfl rfl) c__law_take hr (by decide) (da_cons (dv 0) (da_cons de_int da_nil))) da_nil)))
  (ds_cons (ds_for (passes_of rfl) rfl (di_rng1 (by rfl) B.range (da_cons (de_bin or_add s_add de_int (de_bin op_fdiv s_fdiv (dv 3) de_int)) da_nil)) (dg_name (i := 4) sc__law_near_sequence.nd rfl (by first | exact Or.inl rfl | exact Or.inr rfl) rfl) (ds_cons (ds_par (i := 5) (j := 6) rfl sc__law_near_sequence.nd rfl rfl (by decide) rfl rfl rfl rfl (da_cons (de_c (takes_of rfl rfl rfl rfl) c__law_take hr (by decide) (da_cons (dv 0) (da_cons (de_callB call_len s_len (by rfl) B.len PySem.boot_len (da_cons (dv 2) da_nil)) da_nil))) (da_cons (de_c (takes_of rfl rfl rfl rfl) c__law_take hr (by decide) (da_cons (dv 0) (da_cons (de_callB call_len s_len (by rfl) B.len PySem.boot_len (da_cons (dv 2) da_nil)) da_nil))) da_nil)))
  (ds_one (ds_asg (de_tup (da_cons (de_ix ix_seq s_ix (dv 2) (dv 6) (fun _ _ => rfl)) (da_cons (de_ix ix_seq s_ix (dv 2) (dv 5) (fun _ _ => rfl)) da_nil))) (dg_tup rfl (dgs_cons (dg_at (i := 2) rfl (by first | exact Or.inl rfl | exact Or.inr (Or.inl rfl) | exact Or.inr (Or.inr rfl)) (dv 5)) (dgs_cons (dg_at (i := 2) rfl (by first | exact Or.inl rfl | exact Or.inr (Or.inl rfl) | exact Or.inr (Or.inr rfl)) (dv 6)) dgs_nil)))))))
  (ds_one (ds_ret (de_if (dt_cmp op_lt s_cmp (dv 3) de_int (by with_unfolding_all rfl)) (de_callTy cr_tuple s_tuple (by rfl) B.tuple PyProof.Rows.boot_tuple (da_cons (dv 2) da_nil)) (de_c (takes_of rfl rfl rfl rfl) c__law_sequence hr (by decide) (da_cons (dv 0) (da_cons (de_callB call_len s_len (by rfl) B.len PySem.boot_len (da_cons (dv 2) da_nil)) da_nil))))))))
abbrev s__law_swapped : Stmt := top 41
abbrev n__law_swapped : List Str := ["sequence", "at", "line"]
theorem sc__law_swapped : FnScope n__law_swapped ["sequence", "at"] (defScope s__law_swapped) := ⟨rfl, rfl, rfl, by decide +kernel, rfl, by decide +kernel, by decide +kernel⟩
def b__law_swapped : DenS :=
  (dSeq (dSet 2 (dN opList [(dVar 0)]))
  (dSeq (dAsg (dTup [(d2 opIx (dVar 2) (dVar 1)), (d2 opIx (dVar 2) (d2 opSub (dVar 1) (dC (.int 1))))]) (gT 2 (gsC (gAt 2 (d2 opSub (dVar 1) (dC (.int 1)))) (gsC (gAt 2 (dVar 1)) gsN))))
  (dRet (dN opTuple [(dVar 2)]))))
def f__law_swapped : FD := dFun false 1 b__law_swapped
theorem k__law_swapped (D : DefAt G.K mg "_law_swapped" s__law_swapped ["sequence", "at"]) (B : Bn mg) : CalF P wl G mg base 1 "_law_swapped" false 2 f__law_swapped := by
  refine cal_ok (k := 0) (fx := fun i => false) D sc__law_swapped rfl rfl (by decide) (fun z => nomatch z) fun f cdv A outer s H E hr => ?_
  exact (ds_cons (ds_set (i := 2) sc__law_swapped.nd rfl (by first | exact Or.inl rfl | exact Or.inr rfl) rfl (de_callTy call_list_of s_list (by rfl) B.list PyProof.Rows.boot_list (da_cons (dv 0) da_nil)))
  (ds_cons (ds_asg (de_tup (da_cons (de_ix ix_seq s_ix (dv 2) (dv 1) (fun _ _ => rfl)) (da_cons (de_ix ix_seq s_ix (dv 2) (de_bin op_sub s_sub (dv 1) de_int) (fun _ _ => rfl)) da_nil))) (dg_tup rfl (dgs_cons (dg_at (i := 2) rfl (by first | exact Or.inl rfl | exact Or.inr (Or.inl rfl) | exact Or.inr (Or.inr rfl)) (de_bin op_sub s_sub (dv 1) de_int)) (dgs_cons (dg_at (i := 2) rfl (by first | exact Or.inl rfl | exact Or.inr (Or.inl rfl) | exact Or.inr (Or.inr rfl)) (dv 1)) dgs_nil))))
  (ds_one (ds_ret (de_callTy cr_tuple s_tuple (by rfl) B.tuple PyProof.Rows.boot_tuple (da_cons (dv 2) da_nil))))))
abbrev s__law_kept : Stmt := top 42
abbrev n__law_kept : List Str := ["found", "key"]
theorem sc__law_kept : FnScope n__law_kept ["found"] (defScope s__law_kept) := ⟨rfl, rfl, rfl, by decide +kernel, rfl, by decide +kernel, by decide +kernel⟩
def b__law_kept : DenS :=
  (dRet (dN opDictL [(dLc (dSrc (dVar 0)) (gN 1) (dtB (d2 opNe (d2 opIxA (dVar 0) (dVar 1)) (dC (.int 0)))) (dTup [(dVar 1), (d2 opIxA (dVar 0) (dVar 1))]) [1])]))
def f__law_kept : FD := dFun false 1 b__law_kept
theorem k__law_kept (D : DefAt G.K mg "_law_kept" s__law_kept ["found"]) (B : Bn mg) (hGP : P = G.P) (hGw : wl = G.w) : CalF P wl G mg base 1 "_law_kept" false 1 f__law_kept := by
  refine cal_ok (k := 0) (fx := fun i => false) D sc__law_kept rfl rfl (by decide) (fun z => nomatch z) fun f cdv A outer s H E hr => ?_
  exact (ds_one (ds_ret (de_callTy (cr_dictL rfl hGP hGw rfl (room64 hr)) s_dictL (by rfl) B.dict PyProof.Rows.boot_dict (da_cons (de_lc rfl sc__law_kept.nd (di_seq hGP hGw (dv 0)) (blkOk_by (N := n__law_kept) (sc := defScope s__law_kept) (own := [("key", 1)]) (by decide +kernel)) rfl (fun _ _ _ _ _ => (dg_name (i := 1) sc__law_kept.nd rfl (by first | exact Or.inl rfl | exact Or.inr rfl) (by decide))) (fun _ _ _ _ _ => (dts_one (dt_cmp (op_neD (room64 hr)) s_ne (de_ix (ix_any hGP hGw rfl (room64 hr)) s_ixA (dv 0) (dv 1) (fun _ _ => rfl)) de_int (by with_unfolding_all rfl)))) (fun _ _ _ _ _ => (de_tup (da_cons (dv 1) (da_cons (de_ix (ix_any hGP hGw rfl (room64 hr)) s_ixA (dv 0) (dv 1) (fun _ _ => rfl)) da_nil))))) da_nil))))
abbrev s__law_cut : Stmt := top 43
abbrev n__law_cut : List Str := ["polynomial", "at", "found", "row", "high", "low", "sign", "lap", "late"]
theorem sc__law_cut : FnScope n__law_cut ["polynomial", "at"] (defScope s__law_cut) := ⟨rfl, rfl, rfl, by decide +kernel, rfl, by decide +kernel, by decide +kernel⟩
def b__law_cut : DenS :=
  (dSeq (dSet 2 dNew)
  (dSeq (dFor (dSrc (dVar 0)) (gN 3) (dSeq (dPar 4 5 [(dN opMax [(d2 opIx (dVar 3) (d2 opSub (dVar 1) (dC (.int 1)))), (d2 opIx (dVar 3) (dVar 1))]), (dN opMin [(d2 opIx (dVar 3) (d2 opSub (dVar 1) (dC (.int 1)))), (d2 opIx (dVar 3) (dVar 1))])])
  (dSeq (dSet 6 (dIf (dtB (d2 opGt (d2 opIx (dVar 3) (d2 opSub (dVar 1) (dC (.int 1)))) (d2 opIx (dVar 3) (dVar 1)))) (dC (.int 1)) (d1 opNeg (dC (.int 1)))))
  (dFor (dRng rng1 [(d2 opSub (dVar 4) (dVar 5))]) (gN 7) (dSeq (dSet 8 (d2 opAdd (d2 opAdd (dSl (dVar 3) none (some (d2 opSub (dVar 1) (dC (.int 1))))) (dTup [(d2 opSub (d2 opSub (dVar 4) (dC (.int 1))) (dVar 7)), (d2 opAdd (dVar 5) (dVar 7))])) (dSl (dVar 3) (some (d2 opAdd (dVar 1) (dC (.int 1)))) none)))
  (dAsg (d2 opAdd (dGetE (dVar 2) [(dVar 8), (dC (.int 0))]) (d2 opMul (dVar 6) (d2 opIxA (dVar 0) (dVar 3)))) (gPut 2 (dVar 8))))))))
  (dRet (dCall false 1 f__law_kept [(dVar 2)]))))
def f__law_cut : FD := dFun false 7 b__law_cut
theorem k__law_cut (D : DefAt G.K mg "_law_cut" s__law_cut ["polynomial", "at"]) (B : Bn mg) (hGP : P = G.P) (hGw : wl = G.w) (c__law_kept : CalF P wl G mg base 1 "_law_kept" false 1 f__law_kept) : CalF P wl G mg base 2 "_law_cut" false 2 f__law_cut := by
  refine cal_ok (k := 1) (fx := fun i => false) D sc__law_cut rfl rfl (by decide) (fun z => nomatch z) fun f cdv A outer s H E hr => ?_
  exact (ds_cons (ds_set (i := 2) sc__law_cut.nd rfl (by first | exact Or.inl rfl | exact Or.inr rfl) rfl de_new)
  (ds_cons (ds_for (passes_of rfl) rfl (di_seq hGP hGw (dv 0)) (dg_name (i := 3) sc__law_cut.nd rfl (by first | exact Or.inl rfl | exact Or.inr rfl) rfl) (ds_cons (ds_par (i := 4) (j := 5) rfl sc__law_cut.nd rfl rfl (by decide) rfl rfl rfl rfl (da_cons (de_callB (cr_maxAll rfl) s_max (by rfl) B.max PyProof.Rows.boot_max (da_cons (de_ix ix_seq s_ix (dv 3) (de_bin op_sub s_sub (dv 1) de_int) (fun _ _ => rfl)) (da_cons (de_ix ix_seq s_ix (dv 3) (dv 1) (fun _ _ => rfl)) da_nil))) (da_cons (de_callB (cr_minAll rfl) s_min (by rfl) B.min PyProof.Rows.boot_min (da_cons (de_ix ix_seq s_ix (dv 3) (de_bin op_sub s_sub (dv 1) de_int) (fun _ _ => rfl)) (da_cons (de_ix ix_seq s_ix (dv 3) (dv 1) (fun _ _ => rfl)) da_nil))) da_nil)))
  (ds_cons (ds_set (i := 6) sc__law_cut.nd rfl (by first | exact Or.inl rfl | exact Or.inr rfl) rfl (de_if (dt_cmp op_gt s_cmp (de_ix ix_seq s_ix (dv 3) (de_bin op_sub s_sub (dv 1) de_int) (fun _ _ => rfl)) (de_ix ix_seq s_ix (dv 3) (dv 1) (fun _ _ => rfl)) (by with_unfolding_all rfl)) de_int (de_un un_neg s_neg de_int)))
  (ds_one (ds_for (passes_of rfl) rfl (di_rng1 (by rfl) B.range (da_cons (de_bin op_sub s_sub (dv 4) (dv 5)) da_nil)) (dg_name (i := 7) sc__law_cut.nd rfl (by first | exact Or.inl rfl | exact Or.inr rfl) rfl) (ds_cons (ds_set (i := 8) sc__law_cut.nd rfl (by first | exact Or.inl rfl | exact Or.inr rfl) rfl (de_bin or_add s_add (de_bin or_add s_add (de_sl (dv 3) dp_none (dp_some (de_bin op_sub s_sub (dv 1) de_int))) (de_tup (da_cons (de_bin op_sub s_sub (de_bin op_sub s_sub (dv 4) de_int) (dv 7)) (da_cons (de_bin or_add s_add (dv 5) (dv 7)) da_nil)))) (de_sl (dv 3) (dp_some (de_bin or_add s_add (dv 1) de_int)) dp_none)))
  (ds_one (ds_asg (de_bin or_add s_add (de_getE hGP hGw rfl (room64 hr) (dv 2) (da_cons (dv 8) (da_cons de_int da_nil))) (de_bin or_mul s_mul (dv 6) (de_ix (ix_any hGP hGw rfl (room64 hr)) s_ixA (dv 0) (dv 3) (fun _ _ => rfl)))) (dg_put (i := 2) hGP hGw (room64 hr) rfl (by first | exact Or.inl rfl | exact Or.inr (Or.inl rfl) | exact Or.inr (Or.inr rfl)) (dv 8))))))))))
  (ds_one (ds_ret (de_c (takes_of rfl rfl rfl rfl) c__law_kept hr (by decide) (da_cons (dv 2) da_nil))))))
abbrev s__law_sum : Stmt := top 44
abbrev n__law_sum : List Str := ["sequence", "here", "path", "at", "found", "row"]
theorem sc__law_sum : FnScope n__law_sum ["sequence"] (defScope s__law_sum) := ⟨rfl, rfl, rfl, by decide +kernel, rfl, by decide +kernel, by decide +kernel⟩
def b__law_sum : DenS :=
  (dSeq (dPar 1 2 [(dVar 0), (dLst [])])
  (dSeq (dWhile (dtB (d2 opNe (dLc (dRng rng2 [(dC (.int 1)), (dN opLen0 [(dVar 1)])]) (gN 3) (dtB (d2 opLt (d2 opIx (dVar 1) (d2 opSub (dVar 3) (dC (.int 1)))) (d2 opIx (dVar 1) (dVar 3)))) (dVar 3) [3]) (dLst []))) (dSeq (dSet 3 (d2 opIx (dLc (dRng rng2 [(dC (.int 1)), (dN opLen0 [(dVar 1)])]) (gN 3) (dtB (d2 opLt (d2 opIx (dVar 1) (d2 opSub (dVar 3) (dC (.int 1)))) (d2 opIx (dVar 1) (dVar 3)))) (dVar 3) [3]) (dC (.int 0))))
  (dPar 1 2 [(dShr (dCall false 2 f__law_swapped [(dVar 1), (dVar 3)])), (d2 opAdd (dLst [(dVar 3)]) (dVar 2))])) 64)
  (dSeq (dSet 4 (dShr (dDisp1 (dN opTuple [(dLc (dRng rng2 [(dC (.int 1)), (dC (.int 7))]) (gN 3) dYes (dN opMax [(dC (.int 0)), (d2 opSub (dN opLen0 [(dVar 0)]) (dVar 3))]) [3])]) (dC (.int 1)))))
  (dSeq (dFor (dSrc (dVar 2)) (gN 3) (dSet 4 (dShr (dCall false 2 f__law_cut [(dVar 4), (dVar 3)]))))
  (dRet (dN opDictL [(dLc (dSrc (dVar 4)) (gN 5) dYes (dTup [(dSl (dVar 5) none (some (dC (.int 5)))), (d2 opIxA (dVar 4) (dVar 5))]) [5])]))))))
def f__law_sum : FD := dFun false 5 b__law_sum
theorem k__law_sum (D : DefAt G.K mg "_law_sum" s__law_sum ["sequence"]) (B : Bn mg) (hGP : P = G.P) (hGw : wl = G.w) (c__law_swapped : CalF P wl G mg base 1 "_law_swapped" false 2 f__law_swapped) (c__law_cut : CalF P wl G mg base 2 "_law_cut" false 2 f__law_cut) : CalF P wl G mg base 3 "_law_sum" false 1 f__law_sum := by
  refine cal_ok (k := 2) (fx := fun i => false) D sc__law_sum rfl rfl (by decide) (fun z => nomatch z) fun f cdv A outer s H E hr => ?_
  exact (ds_cons (ds_parT (i := 1) (j := 2) rfl sc__law_sum.nd rfl rfl (by decide) (by first | exact Or.inl rfl | exact Or.inr rfl) (by first | exact Or.inl rfl | exact Or.inr rfl) rfl rfl (da_cons (dv 0) (da_cons (de_lst da_nil) da_nil)))
  (ds_cons (ds_while 64 (passes_of rfl) (dt_cmp (op_neD (room64 hr)) s_ne (de_lc rfl sc__law_sum.nd (di_rng2 (by rfl) B.range (da_cons de_int (da_cons (de_callB call_len s_len (by rfl) B.len PySem.boot_len (da_cons (dv 1) da_nil)) da_nil))) (blkOk_by (N := n__law_sum) (sc := defScope s__law_sum) (own := [("at", 3)]) (by decide +kernel)) rfl (fun _ _ _ _ _ => (dg_name (i := 3) sc__law_sum.nd rfl (by first | exact Or.inl rfl | exact Or.inr rfl) (by decide))) (fun _ _ _ _ _ => (dts_one (dt_cmp op_lt s_cmp (de_ix ix_seq s_ix (dv 1) (de_bin op_sub s_sub (dv 3) de_int) (fun _ _ => rfl)) (de_ix ix_seq s_ix (dv 1) (dv 3) (fun _ _ => rfl)) (by with_unfolding_all rfl)))) (fun _ _ _ _ _ => (dv 3))) (de_lst da_nil) (by with_unfolding_all rfl)) (ds_cons (ds_set (i := 3) sc__law_sum.nd rfl (by first | exact Or.inl rfl | exact Or.inr rfl) rfl (de_ix ix_seq s_ix (de_lc rfl sc__law_sum.nd (di_rng2 (by rfl) B.range (da_cons de_int (da_cons (de_callB call_len s_len (by rfl) B.len PySem.boot_len (da_cons (dv 1) da_nil)) da_nil))) (blkOk_by (N := n__law_sum) (sc := defScope s__law_sum) (own := [("at", 3)]) (by decide +kernel)) rfl (fun _ _ _ _ _ => (dg_name (i := 3) sc__law_sum.nd rfl (by first | exact Or.inl rfl | exact Or.inr rfl) (by decide))) (fun _ _ _ _ _ => (dts_one (dt_cmp op_lt s_cmp (de_ix ix_seq s_ix (dv 1) (de_bin op_sub s_sub (dv 3) de_int) (fun _ _ => rfl)) (de_ix ix_seq s_ix (dv 1) (dv 3) (fun _ _ => rfl)) (by with_unfolding_all rfl)))) (fun _ _ _ _ _ => (dv 3))) de_int (fun _ _ => rfl)))
  (ds_one (ds_parT (i := 1) (j := 2) rfl sc__law_sum.nd rfl rfl (by decide) (by first | exact Or.inl rfl | exact Or.inr rfl) (by first | exact Or.inl rfl | exact Or.inr rfl) rfl rfl (da_cons (de_shr (de_c (takes_of rfl rfl rfl rfl) c__law_swapped hr (by decide) (da_cons (dv 1) (da_cons (dv 3) da_nil)))) (da_cons (de_bin or_add s_add (de_lst (da_cons (dv 3) da_nil)) (dv 2)) da_nil))))))
  (ds_cons (ds_set (i := 4) sc__law_sum.nd rfl (by first | exact Or.inl rfl | exact Or.inr rfl) rfl (de_shr (de_disp1 hGP hGw rfl (room64 hr) (de_callTy cr_tuple s_tuple (by rfl) B.tuple PyProof.Rows.boot_tuple (da_cons (de_lc rfl sc__law_sum.nd (di_rng2 (by rfl) B.range (da_cons de_int (da_cons de_int da_nil))) (blkOk_by (N := n__law_sum) (sc := defScope s__law_sum) (own := [("at", 3)]) (by decide +kernel)) rfl (fun _ _ _ _ _ => (dg_name (i := 3) sc__law_sum.nd rfl (by first | exact Or.inl rfl | exact Or.inr rfl) (by decide))) (fun _ _ _ _ _ => dts_nil) (fun _ _ _ _ _ => (de_callB (cr_maxAll rfl) s_max (by rfl) B.max PyProof.Rows.boot_max (da_cons de_int (da_cons (de_bin op_sub s_sub (de_callB call_len s_len (by rfl) B.len PySem.boot_len (da_cons (dv 0) da_nil)) (dv 3)) da_nil))))) da_nil)) de_int)))
  (ds_cons (ds_for (passes_of rfl) rfl (di_seq hGP hGw (dv 2)) (dg_name (i := 3) sc__law_sum.nd rfl (by first | exact Or.inl rfl | exact Or.inr rfl) rfl) (ds_one (ds_set (i := 4) sc__law_sum.nd rfl (by first | exact Or.inl rfl | exact Or.inr rfl) rfl (de_shr (de_c (takes_of rfl rfl rfl rfl) c__law_cut hr (by decide) (da_cons (dv 4) (da_cons (dv 3) da_nil)))))))
  (ds_one (ds_ret (de_callTy (cr_dictL rfl hGP hGw rfl (room64 hr)) s_dictL (by rfl) B.dict PyProof.Rows.boot_dict (da_cons (de_lc rfl sc__law_sum.nd (di_seq hGP hGw (dv 4)) (blkOk_by (N := n__law_sum) (sc := defScope s__law_sum) (own := [("row", 5)]) (by decide +kernel)) rfl (fun _ _ _ _ _ => (dg_name (i := 5) sc__law_sum.nd rfl (by first | exact Or.inl rfl | exact Or.inr rfl) (by decide))) (fun _ _ _ _ _ => dts_nil) (fun _ _ _ _ _ => (de_tup (da_cons (de_sl (dv 5) dp_none (dp_some de_int)) (da_cons (de_ix (ix_any hGP hGw rfl (room64 hr)) s_ixA (dv 4) (dv 5) (fun _ _ => rfl)) da_nil))))) da_nil))))))))
abbrev s__law_last : Stmt := top 45
abbrev n__law_last : List Str := ["polynomial", "row"]
theorem sc__law_last : FnScope n__law_last ["polynomial"] (defScope s__law_last) := ⟨rfl, rfl, rfl, by decide +kernel, rfl, by decide +kernel, by decide +kernel⟩
def b__law_last : DenS :=
  (dRet (d1 opRev (d2 opIxA (dN opSorted [(dLc (dSrc (dVar 0)) (gN 1) dYes (d1 opRev (dVar 1)) [1])]) (d1 opNeg (dC (.int 1))))))
def f__law_last : FD := dFun false 1 b__law_last
theorem k__law_last (D : DefAt G.K mg "_law_last" s__law_last ["polynomial"]) (B : Bn mg) (hGP : P = G.P) (hGw : wl = G.w) : CalF P wl G mg base 1 "_law_last" false 1 f__law_last := by
  refine cal_ok (k := 0) (fx := fun i => false) D sc__law_last rfl rfl (by decide) (fun z => nomatch z) fun f cdv A outer s H E hr => ?_
  exact (ds_one (ds_ret (de_rev (de_ix (ix_any hGP hGw rfl (room64 hr)) s_ixA (de_callB (cr_sorted rfl (room64 hr)) s_sorted (by rfl) B.sorted PyProof.Rows.boot_sorted (da_cons (de_lc rfl sc__law_last.nd (di_seq hGP hGw (dv 0)) (blkOk_by (N := n__law_last) (sc := defScope s__law_last) (own := [("row", 1)]) (by decide +kernel)) rfl (fun _ _ _ _ _ => (dg_name (i := 1) sc__law_last.nd rfl (by first | exact Or.inl rfl | exact Or.inr rfl) (by decide))) (fun _ _ _ _ _ => dts_nil) (fun _ _ _ _ _ => (de_rev (dv 1)))) da_nil)) (de_un un_neg s_neg de_int) (fun _ _ => rfl)))))
abbrev s__law_right : Stmt := top 46
abbrev n__law_right : List Str := ["draw", "wires", "one", "other", "total", "numbers", "row", "late", "number", "falls", "at", "used", "rows", "pair"]
theorem sc__law_right : FnScope n__law_right ["draw"] (defScope s__law_right) := ⟨rfl, rfl, rfl, by decide +kernel, rfl, by decide +kernel, by decide +kernel⟩
def b__law_right : DenS :=
  (dSeq (dSet 1 (dShr (dCall true 2 f__law_pick [(dVar 0), (dLst [(dC (.int 1)), (dC (.int 2)), (dC (.int 3)), (dC (.int 4)), (dC (.int 4)), (dC (.int 5))])])))
  (dSeq (dSet 2 (dShr (dCall true 2 f__law_sequence [(dVar 0), (dVar 1)])))
  (dSeq (dSet 3 (dShr (dCall true 2 f__law_near_sequence [(dVar 0), (dVar 2)])))
  (dSeq (dPar 4 5 [(dShr (dCall false 1 f_sum_of [(dVar 2)])), (dShr (dCall false 1 f_code [(dVar 2)]))])
  (dSeq (dSet 6 (dN opTuple [(dSl (d2 opAdd (dN opList [(dVar 5)]) (d2 opMul (dLst [(dC (.int 0))]) (dC (.int 5)))) none (some (dC (.int 5))))]))
  (dSeq (dIfS (dtOr (dtB (d2 (opEqA true) (dVar 4) (dCall false 1 f__law_sum [(dVar 2)]))) (dtOr (dtB (d2 opNe (dCall false 1 f__law_last [(dVar 4)]) (dVar 6))) (dtOr (dtB (d2 opNe (d2 opIxA (dVar 4) (dVar 6)) (dC (.int 1)))) (dtB (d2 opNe (dLc (dSrc (dVar 4)) (gN 7) (dtOr (dtB (d2 opNe (dN opSumA [(dVar 7)]) (dCall false 1 f_many_crossings [(dVar 2)]))) (dtB (d2 opLt (d2 opIxA (dVar 4) (dVar 7)) (dC (.int 1))))) (dVar 7) [7]) (dLst [])))))) (dRet (dC (.bl false))) dSkip)
  (dSeq (dIfS (dtB (d2 opNe (d2 opEq (dN opLenA [(dVar 4)]) (dC (.int 1))) (d2 opEq (dLc (dSrc (dLV (dCall false 1 f_told_by_corners [(dVar 2)]))) (gN 8) (dtB (d2 opNe (dVar 8) (dC (.int 0)))) (dVar 8) [8]) (dLst [])))) (dRet (dC (.bl false))) dSkip)
  (dSeq (dSet 9 (dLc (dRng rng2 [(dC (.int 1)), (dVar 1)]) (gN 10) (dtB (d2 (opIn false) (dTup [(dVar 10), (d2 opAdd (dVar 10) (dC (.int 1)))]) (dCall false 1 f_doubles [(dVar 2)]))) (dVar 10) [10]))
  (dSeq (dSet 11 (dLc (dRng rng2 [(dC (.int 1)), (dC (.int 6))]) (gN 10) (dtB (d2 opNe (dLc (dSrc (dVar 4)) (gN 7) (dtB (d2 opGt (d2 opIx (dVar 7) (d2 opSub (dVar 10) (dC (.int 1)))) (dC (.int 0)))) (dVar 7) [7]) (dLst []))) (dVar 10) [10]))
  (dSeq (dIfS (dtB (d2 opNe (dVar 11) (dRg2 mkOwL (dC (.int 1)) (d2 opAdd (dIf (dtB (d2 opNe (dVar 9) (dLst []))) (d2 opIx (dVar 9) (d1 opNeg (dC (.int 1)))) (dC (.int 0))) (dC (.int 1)))))) (dRet (dC (.bl false))) dSkip)
  (dSeq (dSet 12 (dLc (dRng rng2 [(dC (.int 1)), (d2 opAdd (dVar 1) (dC (.int 1)))]) (gN 10) dYes (dN opLen0 [(dLc (dSrc (dCall false 1 f_diagram [(dVar 2)])) (gN 13) (dtB (d2 opEq (d2 opIx (dVar 13) (dC (.int 0))) (dVar 10))) (dVar 13) [13])]) [10]))
  (dRet (dAnd (d2 opEq (dN opTuple [(dVar 12)]) (dVar 5)) (d2 opEq (d2 (opEqA false) (dCall false 1 f_sum_of [(dVar 3)]) (dVar 4)) (d2 opEq (dVar 2) (dVar 3))))))))))))))))
def f__law_right : FD := dFun true 13 b__law_right
theorem k__law_right (D : DefAt G.K mg "_law_right" s__law_right ["draw"]) (B : Bn mg) (hGP : P = G.P) (hGw : wl = G.w) (c__law_pick : CalF P wl G mg base 3 "_law_pick" true 2 f__law_pick) (c__law_sequence : CalF P wl G mg base 4 "_law_sequence" true 2 f__law_sequence) (c__law_near_sequence : CalF P wl G mg base 5 "_law_near_sequence" true 2 f__law_near_sequence) (c_sum_of : CalF P wl G mg base 4 "sum_of" false 1 f_sum_of) (c_code : CalF P wl G mg base 4 "code" false 1 f_code) (c__law_sum : CalF P wl G mg base 3 "_law_sum" false 1 f__law_sum) (c__law_last : CalF P wl G mg base 1 "_law_last" false 1 f__law_last) (c_many_crossings : CalF P wl G mg base 4 "many_crossings" false 1 f_many_crossings) (c_told_by_corners : CalF P wl G mg base 4 "told_by_corners" false 1 f_told_by_corners) (c_doubles : CalF P wl G mg base 4 "doubles" false 1 f_doubles) (c_diagram : CalF P wl G mg base 4 "diagram" false 1 f_diagram) : CalF P wl G mg base 6 "_law_right" true 1 f__law_right := by
  refine cal_ok (k := 5) (fx := fun i => decide (i = 0)) D sc__law_right rfl rfl (by decide) (fun _ => rfl) fun f cdv A outer s H E hr => ?_
  exact (ds_cons (ds_set (i := 1) sc__law_right.nd rfl (by first | exact Or.inl rfl | exact Or.inr rfl) rfl (de_shr (de_c (takes_of rfl rfl rfl rfl) c__law_pick hr (by decide) (da_cons (dv 0) (da_cons (de_lst (da_cons de_int (da_cons de_int (da_cons de_int (da_cons de_int (da_cons de_int (da_cons de_int da_nil))))))) da_nil)))))
  (ds_cons (ds_set (i := 2) sc__law_right.nd rfl (by first | exact Or.inl rfl | exact Or.inr rfl) rfl (de_shr (de_c (takes_of rfl rfl rfl rfl) c__law_sequence hr (by decide) (da_cons (dv 0) (da_cons (dv 1) da_nil)))))
  (ds_cons (ds_set (i := 3) sc__law_right.nd rfl (by first | exact Or.inl rfl | exact Or.inr rfl) rfl (de_shr (de_c (takes_of rfl rfl rfl rfl) c__law_near_sequence hr (by decide) (da_cons (dv 0) (da_cons (dv 2) da_nil)))))
  (ds_cons (ds_parT (i := 4) (j := 5) rfl sc__law_right.nd rfl rfl (by decide) (by first | exact Or.inl rfl | exact Or.inr rfl) (by first | exact Or.inl rfl | exact Or.inr rfl) rfl rfl (da_cons (de_shr (de_c (takes_of rfl rfl rfl rfl) c_sum_of hr (by decide) (da_cons (dv 2) da_nil))) (da_cons (de_shr (de_c (takes_of rfl rfl rfl rfl) c_code hr (by decide) (da_cons (dv 2) da_nil))) da_nil)))
  (ds_cons (ds_set (i := 6) sc__law_right.nd rfl (by first | exact Or.inl rfl | exact Or.inr rfl) rfl (de_callTy cr_tuple s_tuple (by rfl) B.tuple PyProof.Rows.boot_tuple (da_cons (de_sl (de_bin or_add s_add (de_callTy call_list_of s_list (by rfl) B.list PyProof.Rows.boot_list (da_cons (dv 5) da_nil)) (de_bin or_mul s_mul (de_lst (da_cons de_int da_nil)) de_int)) dp_none (dp_some de_int)) da_nil)))
  (ds_cons (ds_if (PW.pt (dw_or (dt_cmp (or_neA hGP hGw (room65 hr)) (s_eqA true) (dv 4) (de_c (takes_of rfl rfl rfl rfl) c__law_sum hr (by decide) (da_cons (dv 2) da_nil)) (by with_unfolding_all rfl)) (dw_or (dt_cmp (op_neD (room64 hr)) s_ne (de_c (takes_of rfl rfl rfl rfl) c__law_last hr (by decide) (da_cons (dv 4) da_nil)) (dv 6) (by with_unfolding_all rfl)) (dw_or (dt_cmp (op_neD (room64 hr)) s_ne (de_ix (ix_any hGP hGw rfl (room64 hr)) s_ixA (dv 4) (dv 6) (fun _ _ => rfl)) de_int (by with_unfolding_all rfl)) (dw_or1 (dt_cmp (op_neD (room64 hr)) s_ne (de_lc rfl sc__law_right.nd (di_seq hGP hGw (dv 4)) (blkOk_by (N := n__law_right) (sc := defScope s__law_right) (own := [("late", 7)]) (by decide +kernel)) rfl (fun _ _ _ _ _ => (dg_name (i := 7) sc__law_right.nd rfl (by first | exact Or.inl rfl | exact Or.inr rfl) (by decide))) (fun _ _ _ _ _ => (dts_one (PW.pt (dw_or (dt_cmp (op_neD (room64 hr)) s_ne (de_callB (cr_sumA rfl rfl) s_sumA (by rfl) B.sum PyProof.Rows.boot_sum (da_cons (dv 7) da_nil)) (de_c takes0 c_many_crossings hr (by decide) (da_cons (dv 2) da_nil)) (by with_unfolding_all rfl)) (dw_or1 (dt_cmp op_lt s_cmp (de_ix (ix_any hGP hGw rfl (room64 hr)) s_ixA (dv 4) (dv 7) (fun _ _ => rfl)) de_int (by with_unfolding_all rfl))))))) (fun _ _ _ _ _ => (dv 7))) (de_lst da_nil) (by with_unfolding_all rfl))))))) (ds_one (ds_ret de_bl)) ds_nil)
  (ds_cons (ds_if (dt_cmp (op_neD (room64 hr)) s_ne (de_cmp (op_eqD (room64 hr)) s_eq (de_callB (cr_lenA hGP hGw rfl) s_lenA (by rfl) B.len PySem.boot_len (da_cons (dv 4) da_nil)) de_int (by with_unfolding_all rfl)) (de_cmp (op_eqD (room64 hr)) s_eq (de_lc rfl sc__law_right.nd (di_seq hGP hGw (de_listVals hGP hGw rfl (by rfl) B.list (de_c (takes_of rfl rfl rfl rfl) c_told_by_corners hr (by decide) (da_cons (dv 2) da_nil)))) (blkOk_by (N := n__law_right) (sc := defScope s__law_right) (own := [("number", 8)]) (by decide +kernel)) rfl (fun _ _ _ _ _ => (dg_name (i := 8) sc__law_right.nd rfl (by first | exact Or.inl rfl | exact Or.inr rfl) (by decide))) (fun _ _ _ _ _ => (dts_one (dt_cmp (op_neD (room64 hr)) s_ne (dv 8) de_int (by with_unfolding_all rfl)))) (fun _ _ _ _ _ => (dv 8))) (de_lst da_nil) (by with_unfolding_all rfl)) (by with_unfolding_all rfl)) (ds_one (ds_ret de_bl)) ds_nil)
  (ds_cons (ds_setLc (i := 9) rfl sc__law_right.nd rfl rfl rfl (sw_true rfl rfl rfl rfl) (di_rng2 (by rfl) B.range (da_cons de_int (da_cons (dv 1) da_nil))) (blkOk_by (N := n__law_right) (sc := defScope s__law_right) (own := [("at", 10)]) (by decide +kernel)) rfl (fun _ _ _ _ _ => (dg_name (i := 10) sc__law_right.nd rfl (by first | exact Or.inl rfl | exact Or.inr rfl) (by decide))) (fun _ _ _ _ _ => (dts_one (dt_cmp (or_in (room65 hr)) s_in (de_tup (da_cons (dv 10) (da_cons (de_bin or_add s_add (dv 10) de_int) da_nil))) (de_c takes0 c_doubles hr (by decide) (da_cons (dv 2) da_nil)) (by with_unfolding_all rfl)))) (fun _ _ _ _ _ => (dv 10)))
  (ds_cons (ds_setLc (i := 11) rfl sc__law_right.nd rfl rfl rfl (sw_true rfl rfl rfl rfl) (di_rng2 (by rfl) B.range (da_cons de_int (da_cons de_int da_nil))) (blkOk_by (N := n__law_right) (sc := defScope s__law_right) (own := [("at", 10)]) (by decide +kernel)) rfl (fun _ _ _ _ _ => (dg_name (i := 10) sc__law_right.nd rfl (by first | exact Or.inl rfl | exact Or.inr rfl) (by decide))) (fun _ _ _ _ _ => (dts_one (dt_cmp (op_neD (room64 hr)) s_ne (de_lc rfl sc__law_right.nd (di_seq hGP hGw (dv 4)) (blkOk_by (own := [("late", 7)]) (by kernel_rfl)) rfl (fun _ _ _ _ _ => (dg_name (i := 7) sc__law_right.nd rfl (by first | exact Or.inl rfl | exact Or.inr rfl) (by decide))) (fun _ _ _ _ _ => (dts_one (dt_cmp op_gt s_cmp (de_ix ix_seq s_ix (dv 7) (de_bin op_sub s_sub (dv 10) de_int) (fun _ _ => rfl)) de_int (by with_unfolding_all rfl)))) (fun _ _ _ _ _ => (dv 7))) (de_lst da_nil) (by with_unfolding_all rfl)))) (fun _ _ _ _ _ => (dv 10)))
  (ds_cons (ds_if (dt_cmp (op_neD (room64 hr)) s_ne (dv 11) (de_lrg2 rfl (by rfl) B.list (by rfl) B.range de_int (de_bin or_add s_add (de_if (dt_cmp (op_neD (room64 hr)) s_ne (dv 9) (de_lst da_nil) (by with_unfolding_all rfl)) (de_ix ix_seq s_ix (dv 9) (de_un un_neg s_neg de_int) (fun _ _ => rfl)) de_int) de_int)) (by with_unfolding_all rfl)) (ds_one (ds_ret de_bl)) ds_nil)
  (ds_cons (ds_setLc (i := 12) rfl sc__law_right.nd rfl rfl rfl (sw_true rfl rfl rfl rfl) (di_rng2 (by rfl) B.range (da_cons de_int (da_cons (de_bin or_add s_add (dv 1) de_int) da_nil))) (blkOk_by (N := n__law_right) (sc := defScope s__law_right) (own := [("at", 10)]) (by decide +kernel)) rfl (fun _ _ _ _ _ => (dg_name (i := 10) sc__law_right.nd rfl (by first | exact Or.inl rfl | exact Or.inr rfl) (by decide))) (fun _ _ _ _ _ => dts_nil) (fun _ _ _ _ _ => (de_callB call_len s_len (by rfl) B.len PySem.boot_len (da_cons (de_lc rfl sc__law_right.nd (di_seq hGP hGw (de_c takes0 c_diagram hr (by decide) (da_cons (dv 2) da_nil))) (blkOk_by (own := [("pair", 13)]) (by kernel_rfl)) rfl (fun _ _ _ _ _ => (dg_name (i := 13) sc__law_right.nd rfl (by first | exact Or.inl rfl | exact Or.inr rfl) (by decide))) (fun _ _ _ _ _ => (dts_one (dt_cmp (op_eqD (room64 hr)) s_eq (de_ix ix_seq s_ix (dv 13) de_int (fun _ _ => rfl)) (dv 10) (by with_unfolding_all rfl)))) (fun _ _ _ _ _ => (dv 13))) da_nil))))
  (ds_one (ds_ret (de_and (de_cmp (op_eqD (room64 hr)) s_eq (de_callTy cr_tuple s_tuple (by rfl) B.tuple PyProof.Rows.boot_tuple (da_cons (dv 12) da_nil)) (dv 5) (by with_unfolding_all rfl)) (de_one (de_cmp (op_eqD (room64 hr)) s_eq (de_cmp (or_eqA hGP hGw (room65 hr)) (s_eqA false) (de_c (takes_of rfl rfl rfl rfl) c_sum_of hr (by decide) (da_cons (dv 3) da_nil)) (dv 4) (by with_unfolding_all rfl)) (de_cmp (op_eqD (room64 hr)) s_eq (dv 2) (dv 3) (by with_unfolding_all rfl)) (by with_unfolding_all rfl)))))))))))))))))
abbrev s_law : Stmt := top 47
abbrev n_law : List Str := ["script", "draw", "lap"]
theorem sc_law : FnScope n_law ["script"] (defScope s_law) := ⟨rfl, rfl, rfl, by decide +kernel, rfl, by decide +kernel, by decide +kernel⟩
def b_law : DenS :=
  (dSeq (dBegun 1 0)
  (dSeq (dFor (dRng rng1 [(d2 opAdd (dC (.int 3)) (dN opMin [(dN opLen0 [(dVar 0)]), (dC (.int 7))]))]) (gN 2) (dIfS (dtNot (dtT (dCall true 1 f__law_right [(dVar 1)]))) (dRet (dC (.bl false))) dSkip))
  (dRet (dC (.bl true)))))
def f_law : FD := dFun false 2 b_law
theorem k_law (D : DefAt G.K mg "law" s_law ["script"]) (B : Bn mg) (c__law_begun : BegF P wl G mg base 1 "_law_begun") (c__law_right : CalF P wl G mg base 6 "_law_right" true 1 f__law_right) : CalF P wl G mg base 7 "law" false 1 f_law := by
  refine cal_ok (k := 6) (fx := fun i => false) D sc_law rfl rfl (by decide) (fun z => nomatch z) fun f cdv A outer s H E hr => ?_
  exact (ds_cons (ds_begunF (i := 1) (takes_of rfl rfl rfl rfl) c__law_begun hr (by decide) sc_law.nd rfl (by first | exact Or.inl rfl | exact Or.inr rfl) rfl (pv 0))
  (ds_cons (ds_for (passes_of rfl) rfl (di_rng1 (by rfl) B.range (da_cons (de_bin or_add s_add de_int (de_callB (cr_minAll rfl) s_min (by rfl) B.min PyProof.Rows.boot_min (da_cons (de_callB call_len s_len (by rfl) B.len PySem.boot_len (da_cons (dv 0) da_nil)) (da_cons de_int da_nil)))) da_nil)) (dg_name (i := 2) sc_law.nd rfl (by first | exact Or.inl rfl | exact Or.inr rfl) rfl) (ds_one (ds_if (dt_not (dt_truth (de_c (takes_of rfl rfl rfl rfl) c__law_right hr (by decide) (da_cons (dv 1) da_nil)) (by intro _; rfl))) (ds_one (ds_ret de_bl)) ds_nil)))
  (ds_one (ds_ret de_bl))))
theorem ok_law {f : Addr} {fd : FuncData} (Fn : Fun G.K "law" "law" s_law f fd) (B : Bn mg) (c__law_begun : BegF P wl G mg base 1 "_law_begun") (c__law_right : CalF P wl G mg base 6 "_law_right" true 1 f__law_right) : FnOk P wl G.K mg base (L2.CX P wl) 7 f fd ["script"] (spF G false 1 f_law) := by
  refine fn_ok (k := 6) (fx := fun i => false) Fn sc_law rfl (by decide) (fun z => nomatch z) fun cdv A outer s H E hr => ?_
  exact (ds_cons (ds_begunF (i := 1) (takes_of rfl rfl rfl rfl) c__law_begun hr (by decide) sc_law.nd rfl (by first | exact Or.inl rfl | exact Or.inr rfl) rfl (pv 0))
  (ds_cons (ds_for (passes_of rfl) rfl (di_rng1 (by rfl) B.range (da_cons (de_bin or_add s_add de_int (de_callB (cr_minAll rfl) s_min (by rfl) B.min PyProof.Rows.boot_min (da_cons (de_callB call_len s_len (by rfl) B.len PySem.boot_len (da_cons (dv 0) da_nil)) (da_cons de_int da_nil)))) da_nil)) (dg_name (i := 2) sc_law.nd rfl (by first | exact Or.inl rfl | exact Or.inr rfl) rfl) (ds_one (ds_if (dt_not (dt_truth (de_c (takes_of rfl rfl rfl rfl) c__law_right hr (by decide) (da_cons (dv 1) da_nil)) (by intro _; rfl))) (ds_one (ds_ret de_bl)) ds_nil)))
  (ds_one (ds_ret de_bl))))
end
end Kk54

set_option maxHeartbeats 0
namespace Kk54
open PySem PySem.Spec PyProof.Rows L2 T

def fns0 : List He.FnD := [⟨("is_number", none), "is_number", "is_number", defArgs s_is_number, defBody s_is_number, defScope s_is_number⟩,
  ⟨("swapped", none), "swapped", "swapped", defArgs s_swapped, defBody s_swapped, defScope s_swapped⟩,
  ⟨("is_sequence_of", none), "is_sequence_of", "is_sequence_of", defArgs s_is_sequence_of, defBody s_is_sequence_of, defScope s_is_sequence_of⟩,
  ⟨("need_sequence", none), "need_sequence", "need_sequence", defArgs s_need_sequence, defBody s_need_sequence, defScope s_need_sequence⟩,
  ⟨("doubles_by", none), "doubles_by", "doubles_by", defArgs s_doubles_by, defBody s_doubles_by, defScope s_doubles_by⟩,
  ⟨("crossings_by", none), "crossings_by", "crossings_by", defArgs s_crossings_by, defBody s_crossings_by, defScope s_crossings_by⟩,
  ⟨("back_by", none), "back_by", "back_by", defArgs s_back_by, defBody s_back_by, defScope s_back_by⟩,
  ⟨("code_by", none), "code_by", "code_by", defArgs s_code_by, defBody s_code_by, defScope s_code_by⟩,
  ⟨("doubles", none), "doubles", "doubles", defArgs s_doubles, defBody s_doubles, defScope s_doubles⟩,
  ⟨("many_crossings", none), "many_crossings", "many_crossings", defArgs s_many_crossings, defBody s_many_crossings, defScope s_many_crossings⟩,
  ⟨("code", none), "code", "code", defArgs s_code, defBody s_code, defScope s_code⟩,
  ⟨("corner_by", none), "corner_by", "corner_by", defArgs s_corner_by, defBody s_corner_by, defScope s_corner_by⟩,
  ⟨("diagram_by", none), "diagram_by", "diagram_by", defArgs s_diagram_by, defBody s_diagram_by, defScope s_diagram_by⟩,
  ⟨("telling_by", none), "telling_by", "telling_by", defArgs s_telling_by, defBody s_telling_by, defScope s_telling_by⟩,
  ⟨("diagram", none), "diagram", "diagram", defArgs s_diagram, defBody s_diagram, defScope s_diagram⟩,
  ⟨("told_by_corners", none), "told_by_corners", "told_by_corners", defArgs s_told_by_corners, defBody s_told_by_corners, defScope s_told_by_corners⟩,
  ⟨("without_noughts", none), "without_noughts", "without_noughts", defArgs s_without_noughts, defBody s_without_noughts, defScope s_without_noughts⟩,
  ⟨("cut_by", none), "cut_by", "cut_by", defArgs s_cut_by, defBody s_cut_by, defScope s_cut_by⟩,
  ⟨("sum_by", none), "sum_by", "sum_by", defArgs s_sum_by, defBody s_sum_by, defScope s_sum_by⟩,
  ⟨("sum_of", none), "sum_of", "sum_of", defArgs s_sum_of, defBody s_sum_of, defScope s_sum_of⟩,
  ⟨("_law_begun", none), "_law_begun", "_law_begun", defArgs s__law_begun, defBody s__law_begun, defScope s__law_begun⟩,
  ⟨("_law_mixed", none), "_law_mixed", "_law_mixed", defArgs s__law_mixed, defBody s__law_mixed, defScope s__law_mixed⟩,
  ⟨("_law_take", none), "_law_take", "_law_take", defArgs s__law_take, defBody s__law_take, defScope s__law_take⟩,
  ⟨("_law_pick", none), "_law_pick", "_law_pick", defArgs s__law_pick, defBody s__law_pick, defScope s__law_pick⟩,
  ⟨("_law_shuffled", none), "_law_shuffled", "_law_shuffled", defArgs s__law_shuffled, defBody s__law_shuffled, defScope s__law_shuffled⟩,
  ⟨("_law_sequence", none), "_law_sequence", "_law_sequence", defArgs s__law_sequence, defBody s__law_sequence, defScope s__law_sequence⟩,
  ⟨("_law_near_sequence", none), "_law_near_sequence", "_law_near_sequence", defArgs s__law_near_sequence, defBody s__law_near_sequence, defScope s__law_near_sequence⟩,
  ⟨("_law_swapped", none), "_law_swapped", "_law_swapped", defArgs s__law_swapped, defBody s__law_swapped, defScope s__law_swapped⟩,
  ⟨("_law_kept", none), "_law_kept", "_law_kept", defArgs s__law_kept, defBody s__law_kept, defScope s__law_kept⟩,
  ⟨("_law_cut", none), "_law_cut", "_law_cut", defArgs s__law_cut, defBody s__law_cut, defScope s__law_cut⟩]
def fns1 : List He.FnD := [⟨("_law_sum", none), "_law_sum", "_law_sum", defArgs s__law_sum, defBody s__law_sum, defScope s__law_sum⟩,
  ⟨("_law_last", none), "_law_last", "_law_last", defArgs s__law_last, defBody s__law_last, defScope s__law_last⟩,
  ⟨("_law_right", none), "_law_right", "_law_right", defArgs s__law_right, defBody s__law_right, defScope s__law_right⟩,
  ⟨("law", none), "law", "law", defArgs s_law, defBody s_law, defScope s_law⟩]
def fns : List He.FnD := fns0 ++ fns1
def fas0 : List He.Fa := [.glo "is_number",
  .glo "swapped",
  .glo "is_sequence_of",
  .glo "need_sequence",
  .glo "doubles_by",
  .glo "crossings_by",
  .glo "back_by",
  .glo "code_by",
  .glo "doubles",
  .glo "many_crossings",
  .glo "code",
  .glo "corner_by",
  .glo "diagram_by",
  .glo "telling_by",
  .glo "diagram",
  .glo "told_by_corners",
  .glo "without_noughts",
  .glo "cut_by",
  .glo "sum_by",
  .glo "sum_of",
  .glo "_law_begun",
  .glo "_law_mixed",
  .glo "_law_take",
  .glo "_law_pick",
  .glo "_law_shuffled",
  .glo "_law_sequence",
  .glo "_law_near_sequence",
  .glo "_law_swapped",
  .glo "_law_kept",
  .glo "_law_cut"]
def fas1 : List He.Fa := [.glo "_law_sum",
  .glo "_law_last",
  .glo "_law_right",
  .glo "law",
  .keep "is_number",
  .keep "swapped",
  .keep "is_sequence_of",
  .keep "need_sequence",
  .keep "doubles_by",
  .keep "crossings_by",
  .keep "back_by",
  .keep "code_by",
  .keep "doubles",
  .keep "many_crossings",
  .keep "code",
  .keep "corner_by",
  .keep "diagram_by",
  .keep "telling_by",
  .keep "diagram",
  .keep "told_by_corners",
  .keep "without_noughts",
  .keep "cut_by",
  .keep "sum_by",
  .keep "sum_of",
  .keep "_law_begun",
  .keep "_law_mixed",
  .keep "_law_take",
  .keep "_law_pick",
  .keep "_law_shuffled",
  .keep "_law_sequence"]
def fas2 : List He.Fa := [.keep "_law_near_sequence",
  .keep "_law_swapped",
  .keep "_law_kept",
  .keep "_law_cut",
  .keep "_law_sum",
  .keep "_law_last",
  .keep "_law_right",
  .keep "law",
  .glo "BadSequence",
  .exc "BadSequence",
  .free "len",
  .free "range",
  .free "sorted",
  .free "list",
  .free "tuple",
  .free "all",
  .free "sum",
  .free "int",
  .free "bool",
  .free "isinstance",
  .free "enumerate",
  .free "zip",
  .free "abs",
  .free "min",
  .free "max",
  .free "dict",
  .int "MOST_WIRES" 6,
  .int "UNKNOWNS" 5]
def fas : List He.Fa := fas0 ++ fas1 ++ fas2
def names0 : List PySem.Str := ["WireError",
  "BadSequence",
  "is_number",
  "MOST_WIRES",
  "swapped",
  "is_sequence_of",
  "need_sequence",
  "doubles_by",
  "crossings_by",
  "back_by",
  "code_by",
  "doubles",
  "many_crossings",
  "code",
  "corner_by",
  "diagram_by",
  "telling_by",
  "diagram",
  "told_by_corners",
  "UNKNOWNS",
  "without_noughts",
  "cut_by",
  "sum_by",
  "sum_of",
  "_law_begun",
  "_law_mixed",
  "_law_take",
  "_law_pick",
  "_law_shuffled",
  "_law_sequence"]
def names1 : List PySem.Str := ["_law_near_sequence",
  "_law_swapped",
  "_law_kept",
  "_law_cut",
  "_law_sum",
  "_law_last",
  "_law_right"]
def names : List PySem.Str := names0 ++ names1
abbrev rowR : PySem.W.OpenRow := PySem.W.OpenLaw.row PySem.Challenge.rw_crosswires_k54_across_codes_telling_corn
abbrev hk : PySem.W.Hook := He.hookE 4 fas fns
def ob (s : PySem.W.SharedT) : He.Al := He.obsG 4 fas fns (HandSHeadRun.getT s)
theorem ob_eq (s : PySem.W.SharedT) : ob s = hk.obs s.abs := He.obsG_eq (HandSHeadRun.getT_eq s)
theorem run (w : World) : HandSHeadRun.RunEq rowR (PySem.W.view rowR.prog [47]) hk ob 6000 names w := by
  intro os
  kernel_rfl
end Kk54

set_option maxHeartbeats 0
namespace Kk54
open PySem PySem.Spec PyProof.Rows L2 T

theorem facts {P : Program} {w : World} {K : PySem.W.Frag} {h : Heap} {mg : Str → Option Value} {f : Addr} (X : K.In h) (Gm : h.Ns mainGlobals mg) (hfa : mg ("law" : Str) = some (.ref f)) (c : He.SaysE fas fns K) :
    ∃ fd : FuncData, (∀ (s : Shared) (v : Value), BindsTo s fd ⟨[v], []⟩ [("script", v)]) ∧ ∀ base : Heap, FnOk P w K mg base (L2.CX P w) 7 f fd ["script"] (spF ⟨P, w, K, [], He.ga K⟩ false 1 f_law) := by
  have B : Bn mg := ⟨He.free_ok X Gm (c.fact 70 (f := .free "len") rfl), He.free_ok X Gm (c.fact 71 (f := .free "range") rfl), He.free_ok X Gm (c.fact 72 (f := .free "sorted") rfl), He.free_ok X Gm (c.fact 73 (f := .free "list") rfl), He.free_ok X Gm (c.fact 74 (f := .free "tuple") rfl), He.free_ok X Gm (c.fact 75 (f := .free "all") rfl), He.free_ok X Gm (c.fact 76 (f := .free "sum") rfl), He.free_ok X Gm (c.fact 77 (f := .free "int") rfl), He.free_ok X Gm (c.fact 78 (f := .free "bool") rfl), He.free_ok X Gm (c.fact 79 (f := .free "isinstance") rfl), He.free_ok X Gm (c.fact 80 (f := .free "enumerate") rfl), He.free_ok X Gm (c.fact 81 (f := .free "zip") rfl), He.free_ok X Gm (c.fact 82 (f := .free "abs") rfl), He.free_ok X Gm (c.fact 83 (f := .free "min") rfl), He.free_ok X Gm (c.fact 84 (f := .free "max") rfl), He.free_ok X Gm (c.fact 85 (f := .free "dict") rfl)⟩
  have d_is_number : DefAt K mg "is_number" s_is_number ["thing"] := defAt_mk X Gm (c.fact 0 (f := .glo "is_number") rfl) (c.fact 34 (f := .keep "is_number") rfl) (c.def_ 0 (d := ⟨("is_number", none), "is_number", "is_number", defArgs s_is_number, defBody s_is_number, defScope s_is_number⟩) rfl) (fun _ _ _ _ _ _ us hl => match us, hl with | [_], _ => rfl)
  have d_swapped : DefAt K mg "swapped" s_swapped ["sequence", "at"] := defAt_mk X Gm (c.fact 1 (f := .glo "swapped") rfl) (c.fact 35 (f := .keep "swapped") rfl) (c.def_ 1 (d := ⟨("swapped", none), "swapped", "swapped", defArgs s_swapped, defBody s_swapped, defScope s_swapped⟩) rfl) (fun _ _ _ _ _ _ us hl => match us, hl with | [_, _], _ => rfl)
  have d_is_sequence_of : DefAt K mg "is_sequence_of" s_is_sequence_of ["thing"] := defAt_mk X Gm (c.fact 2 (f := .glo "is_sequence_of") rfl) (c.fact 36 (f := .keep "is_sequence_of") rfl) (c.def_ 2 (d := ⟨("is_sequence_of", none), "is_sequence_of", "is_sequence_of", defArgs s_is_sequence_of, defBody s_is_sequence_of, defScope s_is_sequence_of⟩) rfl) (fun _ _ _ _ _ _ us hl => match us, hl with | [_], _ => rfl)
  have d_need_sequence : DefAt K mg "need_sequence" s_need_sequence ["sequence"] := defAt_mk X Gm (c.fact 3 (f := .glo "need_sequence") rfl) (c.fact 37 (f := .keep "need_sequence") rfl) (c.def_ 3 (d := ⟨("need_sequence", none), "need_sequence", "need_sequence", defArgs s_need_sequence, defBody s_need_sequence, defScope s_need_sequence⟩) rfl) (fun _ _ _ _ _ _ us hl => match us, hl with | [_], _ => rfl)
  have d_doubles_by : DefAt K mg "doubles_by" s_doubles_by ["sequence"] := defAt_mk X Gm (c.fact 4 (f := .glo "doubles_by") rfl) (c.fact 38 (f := .keep "doubles_by") rfl) (c.def_ 4 (d := ⟨("doubles_by", none), "doubles_by", "doubles_by", defArgs s_doubles_by, defBody s_doubles_by, defScope s_doubles_by⟩) rfl) (fun _ _ _ _ _ _ us hl => match us, hl with | [_], _ => rfl)
  have d_crossings_by : DefAt K mg "crossings_by" s_crossings_by ["sequence"] := defAt_mk X Gm (c.fact 5 (f := .glo "crossings_by") rfl) (c.fact 39 (f := .keep "crossings_by") rfl) (c.def_ 5 (d := ⟨("crossings_by", none), "crossings_by", "crossings_by", defArgs s_crossings_by, defBody s_crossings_by, defScope s_crossings_by⟩) rfl) (fun _ _ _ _ _ _ us hl => match us, hl with | [_], _ => rfl)
  have d_back_by : DefAt K mg "back_by" s_back_by ["sequence"] := defAt_mk X Gm (c.fact 6 (f := .glo "back_by") rfl) (c.fact 40 (f := .keep "back_by") rfl) (c.def_ 6 (d := ⟨("back_by", none), "back_by", "back_by", defArgs s_back_by, defBody s_back_by, defScope s_back_by⟩) rfl) (fun _ _ _ _ _ _ us hl => match us, hl with | [_], _ => rfl)
  have d_code_by : DefAt K mg "code_by" s_code_by ["sequence"] := defAt_mk X Gm (c.fact 7 (f := .glo "code_by") rfl) (c.fact 41 (f := .keep "code_by") rfl) (c.def_ 7 (d := ⟨("code_by", none), "code_by", "code_by", defArgs s_code_by, defBody s_code_by, defScope s_code_by⟩) rfl) (fun _ _ _ _ _ _ us hl => match us, hl with | [_], _ => rfl)
  have d_doubles : DefAt K mg "doubles" s_doubles ["sequence"] := defAt_mk X Gm (c.fact 8 (f := .glo "doubles") rfl) (c.fact 42 (f := .keep "doubles") rfl) (c.def_ 8 (d := ⟨("doubles", none), "doubles", "doubles", defArgs s_doubles, defBody s_doubles, defScope s_doubles⟩) rfl) (fun _ _ _ _ _ _ us hl => match us, hl with | [_], _ => rfl)
  have d_many_crossings : DefAt K mg "many_crossings" s_many_crossings ["sequence"] := defAt_mk X Gm (c.fact 9 (f := .glo "many_crossings") rfl) (c.fact 43 (f := .keep "many_crossings") rfl) (c.def_ 9 (d := ⟨("many_crossings", none), "many_crossings", "many_crossings", defArgs s_many_crossings, defBody s_many_crossings, defScope s_many_crossings⟩) rfl) (fun _ _ _ _ _ _ us hl => match us, hl with | [_], _ => rfl)
  have d_code : DefAt K mg "code" s_code ["sequence"] := defAt_mk X Gm (c.fact 10 (f := .glo "code") rfl) (c.fact 44 (f := .keep "code") rfl) (c.def_ 10 (d := ⟨("code", none), "code", "code", defArgs s_code, defBody s_code, defScope s_code⟩) rfl) (fun _ _ _ _ _ _ us hl => match us, hl with | [_], _ => rfl)
  have d_corner_by : DefAt K mg "corner_by" s_corner_by ["sequence", "i", "j"] := defAt_mk X Gm (c.fact 11 (f := .glo "corner_by") rfl) (c.fact 45 (f := .keep "corner_by") rfl) (c.def_ 11 (d := ⟨("corner_by", none), "corner_by", "corner_by", defArgs s_corner_by, defBody s_corner_by, defScope s_corner_by⟩) rfl) (fun _ _ _ _ _ _ us hl => match us, hl with | [_, _, _], _ => rfl)
  have d_diagram_by : DefAt K mg "diagram_by" s_diagram_by ["sequence"] := defAt_mk X Gm (c.fact 12 (f := .glo "diagram_by") rfl) (c.fact 46 (f := .keep "diagram_by") rfl) (c.def_ 12 (d := ⟨("diagram_by", none), "diagram_by", "diagram_by", defArgs s_diagram_by, defBody s_diagram_by, defScope s_diagram_by⟩) rfl) (fun _ _ _ _ _ _ us hl => match us, hl with | [_], _ => rfl)
  have d_telling_by : DefAt K mg "telling_by" s_telling_by ["sequence"] := defAt_mk X Gm (c.fact 13 (f := .glo "telling_by") rfl) (c.fact 47 (f := .keep "telling_by") rfl) (c.def_ 13 (d := ⟨("telling_by", none), "telling_by", "telling_by", defArgs s_telling_by, defBody s_telling_by, defScope s_telling_by⟩) rfl) (fun _ _ _ _ _ _ us hl => match us, hl with | [_], _ => rfl)
  have d_diagram : DefAt K mg "diagram" s_diagram ["sequence"] := defAt_mk X Gm (c.fact 14 (f := .glo "diagram") rfl) (c.fact 48 (f := .keep "diagram") rfl) (c.def_ 14 (d := ⟨("diagram", none), "diagram", "diagram", defArgs s_diagram, defBody s_diagram, defScope s_diagram⟩) rfl) (fun _ _ _ _ _ _ us hl => match us, hl with | [_], _ => rfl)
  have d_told_by_corners : DefAt K mg "told_by_corners" s_told_by_corners ["sequence"] := defAt_mk X Gm (c.fact 15 (f := .glo "told_by_corners") rfl) (c.fact 49 (f := .keep "told_by_corners") rfl) (c.def_ 15 (d := ⟨("told_by_corners", none), "told_by_corners", "told_by_corners", defArgs s_told_by_corners, defBody s_told_by_corners, defScope s_told_by_corners⟩) rfl) (fun _ _ _ _ _ _ us hl => match us, hl with | [_], _ => rfl)
  have d_without_noughts : DefAt K mg "without_noughts" s_without_noughts ["rows"] := defAt_mk X Gm (c.fact 16 (f := .glo "without_noughts") rfl) (c.fact 50 (f := .keep "without_noughts") rfl) (c.def_ 16 (d := ⟨("without_noughts", none), "without_noughts", "without_noughts", defArgs s_without_noughts, defBody s_without_noughts, defScope s_without_noughts⟩) rfl) (fun _ _ _ _ _ _ us hl => match us, hl with | [_], _ => rfl)
  have d_cut_by : DefAt K mg "cut_by" s_cut_by ["rows", "at"] := defAt_mk X Gm (c.fact 17 (f := .glo "cut_by") rfl) (c.fact 51 (f := .keep "cut_by") rfl) (c.def_ 17 (d := ⟨("cut_by", none), "cut_by", "cut_by", defArgs s_cut_by, defBody s_cut_by, defScope s_cut_by⟩) rfl) (fun _ _ _ _ _ _ us hl => match us, hl with | [_, _], _ => rfl)
  have d_sum_by : DefAt K mg "sum_by" s_sum_by ["sequence"] := defAt_mk X Gm (c.fact 18 (f := .glo "sum_by") rfl) (c.fact 52 (f := .keep "sum_by") rfl) (c.def_ 18 (d := ⟨("sum_by", none), "sum_by", "sum_by", defArgs s_sum_by, defBody s_sum_by, defScope s_sum_by⟩) rfl) (fun _ _ _ _ _ _ us hl => match us, hl with | [_], _ => rfl)
  have d_sum_of : DefAt K mg "sum_of" s_sum_of ["sequence"] := defAt_mk X Gm (c.fact 19 (f := .glo "sum_of") rfl) (c.fact 53 (f := .keep "sum_of") rfl) (c.def_ 19 (d := ⟨("sum_of", none), "sum_of", "sum_of", defArgs s_sum_of, defBody s_sum_of, defScope s_sum_of⟩) rfl) (fun _ _ _ _ _ _ us hl => match us, hl with | [_], _ => rfl)
  have d__law_begun : DefAt K mg "_law_begun" s__law_begun ["script"] := defAt_mk X Gm (c.fact 20 (f := .glo "_law_begun") rfl) (c.fact 54 (f := .keep "_law_begun") rfl) (c.def_ 20 (d := ⟨("_law_begun", none), "_law_begun", "_law_begun", defArgs s__law_begun, defBody s__law_begun, defScope s__law_begun⟩) rfl) (fun _ _ _ _ _ _ us hl => match us, hl with | [_], _ => rfl)
  have d__law_mixed : DefAt K mg "_law_mixed" s__law_mixed ["draw"] := defAt_mk X Gm (c.fact 21 (f := .glo "_law_mixed") rfl) (c.fact 55 (f := .keep "_law_mixed") rfl) (c.def_ 21 (d := ⟨("_law_mixed", none), "_law_mixed", "_law_mixed", defArgs s__law_mixed, defBody s__law_mixed, defScope s__law_mixed⟩) rfl) (fun _ _ _ _ _ _ us hl => match us, hl with | [_], _ => rfl)
  have d__law_take : DefAt K mg "_law_take" s__law_take ["draw", "amount"] := defAt_mk X Gm (c.fact 22 (f := .glo "_law_take") rfl) (c.fact 56 (f := .keep "_law_take") rfl) (c.def_ 22 (d := ⟨("_law_take", none), "_law_take", "_law_take", defArgs s__law_take, defBody s__law_take, defScope s__law_take⟩) rfl) (fun _ _ _ _ _ _ us hl => match us, hl with | [_, _], _ => rfl)
  have d__law_pick : DefAt K mg "_law_pick" s__law_pick ["draw", "some"] := defAt_mk X Gm (c.fact 23 (f := .glo "_law_pick") rfl) (c.fact 57 (f := .keep "_law_pick") rfl) (c.def_ 23 (d := ⟨("_law_pick", none), "_law_pick", "_law_pick", defArgs s__law_pick, defBody s__law_pick, defScope s__law_pick⟩) rfl) (fun _ _ _ _ _ _ us hl => match us, hl with | [_, _], _ => rfl)
  have d__law_shuffled : DefAt K mg "_law_shuffled" s__law_shuffled ["draw", "some"] := defAt_mk X Gm (c.fact 24 (f := .glo "_law_shuffled") rfl) (c.fact 58 (f := .keep "_law_shuffled") rfl) (c.def_ 24 (d := ⟨("_law_shuffled", none), "_law_shuffled", "_law_shuffled", defArgs s__law_shuffled, defBody s__law_shuffled, defScope s__law_shuffled⟩) rfl) (fun _ _ _ _ _ _ us hl => match us, hl with | [_, _], _ => rfl)
  have d__law_sequence : DefAt K mg "_law_sequence" s__law_sequence ["draw", "wires"] := defAt_mk X Gm (c.fact 25 (f := .glo "_law_sequence") rfl) (c.fact 59 (f := .keep "_law_sequence") rfl) (c.def_ 25 (d := ⟨("_law_sequence", none), "_law_sequence", "_law_sequence", defArgs s__law_sequence, defBody s__law_sequence, defScope s__law_sequence⟩) rfl) (fun _ _ _ _ _ _ us hl => match us, hl with | [_, _], _ => rfl)
  have d__law_near_sequence : DefAt K mg "_law_near_sequence" s__law_near_sequence ["draw", "sequence"] := defAt_mk X Gm (c.fact 26 (f := .glo "_law_near_sequence") rfl) (c.fact 60 (f := .keep "_law_near_sequence") rfl) (c.def_ 26 (d := ⟨("_law_near_sequence", none), "_law_near_sequence", "_law_near_sequence", defArgs s__law_near_sequence, defBody s__law_near_sequence, defScope s__law_near_sequence⟩) rfl) (fun _ _ _ _ _ _ us hl => match us, hl with | [_, _], _ => rfl)
  have d__law_swapped : DefAt K mg "_law_swapped" s__law_swapped ["sequence", "at"] := defAt_mk X Gm (c.fact 27 (f := .glo "_law_swapped") rfl) (c.fact 61 (f := .keep "_law_swapped") rfl) (c.def_ 27 (d := ⟨("_law_swapped", none), "_law_swapped", "_law_swapped", defArgs s__law_swapped, defBody s__law_swapped, defScope s__law_swapped⟩) rfl) (fun _ _ _ _ _ _ us hl => match us, hl with | [_, _], _ => rfl)
  have d__law_kept : DefAt K mg "_law_kept" s__law_kept ["found"] := defAt_mk X Gm (c.fact 28 (f := .glo "_law_kept") rfl) (c.fact 62 (f := .keep "_law_kept") rfl) (c.def_ 28 (d := ⟨("_law_kept", none), "_law_kept", "_law_kept", defArgs s__law_kept, defBody s__law_kept, defScope s__law_kept⟩) rfl) (fun _ _ _ _ _ _ us hl => match us, hl with | [_], _ => rfl)
  have d__law_cut : DefAt K mg "_law_cut" s__law_cut ["polynomial", "at"] := defAt_mk X Gm (c.fact 29 (f := .glo "_law_cut") rfl) (c.fact 63 (f := .keep "_law_cut") rfl) (c.def_ 29 (d := ⟨("_law_cut", none), "_law_cut", "_law_cut", defArgs s__law_cut, defBody s__law_cut, defScope s__law_cut⟩) rfl) (fun _ _ _ _ _ _ us hl => match us, hl with | [_, _], _ => rfl)
  have d__law_sum : DefAt K mg "_law_sum" s__law_sum ["sequence"] := defAt_mk X Gm (c.fact 30 (f := .glo "_law_sum") rfl) (c.fact 64 (f := .keep "_law_sum") rfl) (c.def_ 30 (d := ⟨("_law_sum", none), "_law_sum", "_law_sum", defArgs s__law_sum, defBody s__law_sum, defScope s__law_sum⟩) rfl) (fun _ _ _ _ _ _ us hl => match us, hl with | [_], _ => rfl)
  have d__law_last : DefAt K mg "_law_last" s__law_last ["polynomial"] := defAt_mk X Gm (c.fact 31 (f := .glo "_law_last") rfl) (c.fact 65 (f := .keep "_law_last") rfl) (c.def_ 31 (d := ⟨("_law_last", none), "_law_last", "_law_last", defArgs s__law_last, defBody s__law_last, defScope s__law_last⟩) rfl) (fun _ _ _ _ _ _ us hl => match us, hl with | [_], _ => rfl)
  have d__law_right : DefAt K mg "_law_right" s__law_right ["draw"] := defAt_mk X Gm (c.fact 32 (f := .glo "_law_right") rfl) (c.fact 66 (f := .keep "_law_right") rfl) (c.def_ 32 (d := ⟨("_law_right", none), "_law_right", "_law_right", defArgs s__law_right, defBody s__law_right, defScope s__law_right⟩) rfl) (fun _ _ _ _ _ _ us hl => match us, hl with | [_], _ => rfl)
  have e_BadSequence : ErrC ⟨P, w, K, [], He.ga K⟩ mg "BadSequence" := errC_mk X Gm (c.fact 68 (f := .glo "BadSequence") rfl) (c.fact 69 (f := .exc "BadSequence") rfl)
  have g_MOST_WIRES := He.int_ok X Gm (c.fact 86 (f := .int "MOST_WIRES" 6) rfl)
  have g_UNKNOWNS := He.int_ok X Gm (c.fact 87 (f := .int "UNKNOWNS" 5) rfl)
  obtain ⟨fd, F⟩ := fun_at (x := "law") (st := s_law) (c.fact 67 (f := .keep "law") rfl) (c.def_ 33 (d := ⟨("law", none), "law", "law", defArgs s_law, defBody s_law, defScope s_law⟩) rfl)
  have e := hfa.symm.trans (He.glo_ok X Gm (c.fact 33 (f := .glo "law") rfl))
  cases e
  have bl : ∀ (s : Shared) (v : Value), BindsTo s fd ⟨[v], []⟩ [("script", v)] := fun s v => by
    obtain ⟨oc, od, kV, doc, pm, an, cdv, ct, osl, e, _⟩ := F.ex
    rw [e]
    exact .of_eq rfl
  refine ⟨fd, bl, fun base => ?_⟩
  have c_is_number := k_is_number (P := P) (wl := w) (G := ⟨P, w, K, [], He.ga K⟩) (base := base) d_is_number B
  have c_swapped := k_swapped (P := P) (wl := w) (G := ⟨P, w, K, [], He.ga K⟩) (base := base) d_swapped
  have c_is_sequence_of := k_is_sequence_of (P := P) (wl := w) (G := ⟨P, w, K, [], He.ga K⟩) (base := base) d_is_sequence_of B rfl rfl c_is_number g_MOST_WIRES
  have c_need_sequence := k_need_sequence (P := P) (wl := w) (G := ⟨P, w, K, [], He.ga K⟩) (base := base) d_need_sequence c_is_sequence_of e_BadSequence
  have c_doubles_by := k_doubles_by (P := P) (wl := w) (G := ⟨P, w, K, [], He.ga K⟩) (base := base) d_doubles_by B
  have c_crossings_by := k_crossings_by (P := P) (wl := w) (G := ⟨P, w, K, [], He.ga K⟩) (base := base) d_crossings_by B c_doubles_by
  have c_back_by := k_back_by (P := P) (wl := w) (G := ⟨P, w, K, [], He.ga K⟩) (base := base) d_back_by B
  have c_code_by := k_code_by (P := P) (wl := w) (G := ⟨P, w, K, [], He.ga K⟩) (base := base) d_code_by B rfl rfl
  have c_doubles := k_doubles (P := P) (wl := w) (G := ⟨P, w, K, [], He.ga K⟩) (base := base) d_doubles B c_need_sequence c_doubles_by
  have c_many_crossings := k_many_crossings (P := P) (wl := w) (G := ⟨P, w, K, [], He.ga K⟩) (base := base) d_many_crossings c_need_sequence c_crossings_by
  have c_code := k_code (P := P) (wl := w) (G := ⟨P, w, K, [], He.ga K⟩) (base := base) d_code c_need_sequence c_code_by
  have c_corner_by := k_corner_by (P := P) (wl := w) (G := ⟨P, w, K, [], He.ga K⟩) (base := base) d_corner_by B rfl rfl
  have c_diagram_by := k_diagram_by (P := P) (wl := w) (G := ⟨P, w, K, [], He.ga K⟩) (base := base) d_diagram_by B c_back_by
  have c_telling_by := k_telling_by (P := P) (wl := w) (G := ⟨P, w, K, [], He.ga K⟩) (base := base) d_telling_by rfl rfl c_diagram_by
  have c_diagram := k_diagram (P := P) (wl := w) (G := ⟨P, w, K, [], He.ga K⟩) (base := base) d_diagram B c_need_sequence c_diagram_by
  have c_told_by_corners := k_told_by_corners (P := P) (wl := w) (G := ⟨P, w, K, [], He.ga K⟩) (base := base) d_told_by_corners rfl rfl c_need_sequence c_telling_by c_corner_by
  have c_without_noughts := k_without_noughts (P := P) (wl := w) (G := ⟨P, w, K, [], He.ga K⟩) (base := base) d_without_noughts rfl rfl
  have c_cut_by := k_cut_by (P := P) (wl := w) (G := ⟨P, w, K, [], He.ga K⟩) (base := base) d_cut_by B rfl rfl c_without_noughts
  have c_sum_by := k_sum_by (P := P) (wl := w) (G := ⟨P, w, K, [], He.ga K⟩) (base := base) d_sum_by B rfl rfl c_swapped c_cut_by g_UNKNOWNS
  have c_sum_of := k_sum_of (P := P) (wl := w) (G := ⟨P, w, K, [], He.ga K⟩) (base := base) d_sum_of c_need_sequence c_sum_by
  have c__law_begun := k__law_begun (P := P) (wl := w) (G := ⟨P, w, K, [], He.ga K⟩) (base := base) d__law_begun B
  have c__law_take := k__law_take (P := P) (wl := w) (G := ⟨P, w, K, [], He.ga K⟩) (base := base) d__law_take d__law_mixed B
  have c__law_pick := k__law_pick (P := P) (wl := w) (G := ⟨P, w, K, [], He.ga K⟩) (base := base) d__law_pick B c__law_take
  have c__law_shuffled := k__law_shuffled (P := P) (wl := w) (G := ⟨P, w, K, [], He.ga K⟩) (base := base) d__law_shuffled B c__law_take
  have c__law_sequence := k__law_sequence (P := P) (wl := w) (G := ⟨P, w, K, [], He.ga K⟩) (base := base) d__law_sequence B c__law_shuffled
  have c__law_near_sequence := k__law_near_sequence (P := P) (wl := w) (G := ⟨P, w, K, [], He.ga K⟩) (base := base) d__law_near_sequence B c__law_take c__law_sequence
  have c__law_swapped := k__law_swapped (P := P) (wl := w) (G := ⟨P, w, K, [], He.ga K⟩) (base := base) d__law_swapped B
  have c__law_kept := k__law_kept (P := P) (wl := w) (G := ⟨P, w, K, [], He.ga K⟩) (base := base) d__law_kept B rfl rfl
  have c__law_cut := k__law_cut (P := P) (wl := w) (G := ⟨P, w, K, [], He.ga K⟩) (base := base) d__law_cut B rfl rfl c__law_kept
  have c__law_sum := k__law_sum (P := P) (wl := w) (G := ⟨P, w, K, [], He.ga K⟩) (base := base) d__law_sum B rfl rfl c__law_swapped c__law_cut
  have c__law_last := k__law_last (P := P) (wl := w) (G := ⟨P, w, K, [], He.ga K⟩) (base := base) d__law_last B rfl rfl
  have c__law_right := k__law_right (P := P) (wl := w) (G := ⟨P, w, K, [], He.ga K⟩) (base := base) d__law_right B rfl rfl c__law_pick c__law_sequence c__law_near_sequence c_sum_of c_code c__law_sum c__law_last c_many_crossings c_told_by_corners c_doubles c_diagram
  exact ok_law (P := P) (wl := w) (G := ⟨P, w, K, [], He.ga K⟩) (base := base) F B c__law_begun c__law_right
theorem holds_of (hm : ∀ ns : List Int, ns.length ≤ 63 → (f_law [.fz ns]).wp (fun s _ => s = .sh (.bl true)) (fun _ _ => False)) : PySem.Challenge.rw_crosswires_k54_across_codes_telling_corn.Holds := by
  open PySem.W PySem.Calls in
  w_on; o_law
  refine HandSHeadRun.head_any (r := OpenLaw.row PySem.Challenge.rw_crosswires_k54_across_codes_telling_corn) (q := view (OpenLaw.row PySem.Challenge.rw_crosswires_k54_across_codes_telling_corn).prog [47]) (H := hk) (ob := ob) (M := 6000) (loose := names) (d := HandSHeadRun.topDef (OpenLaw.row PySem.Challenge.rw_crosswires_k54_across_codes_telling_corn).prog 47) (kwd := []) ob_eq
    (by kernel_rfl) (fun s => by kernel_rfl) run (by kernel_rfl) (by kernel_rfl) (by kernel_rfl) (by rfl) (by first | assumption | decide +kernel) (by decide +kernel) ⟨rfl, rfl, rfl, rfl, rfl, by decide +kernel⟩ ?hw ?hc
  case hw => w_witness2
  case hc =>
    refine walk_ofW (l := PySem.Challenge.rw_crosswires_k54_across_codes_telling_corn) (n := 63) (k := 7) (x := "script") (CX := fun w => L2.CX (PySem.Challenge.rw_crosswires_k54_across_codes_telling_corn).prog w) rfl (by decide) (by kernel_rfl) ⟨rfl, by decide, by decide⟩ ?F (fun _ _ _ _ _ z => noCX z)
    intro w mg f h Y Gm hmg0
    obtain ⟨K, KX, c⟩ := Y
    have hmg : mg ("law" : PySem.Str) = some (.ref f) := by
      have e : (HandSHeadRun.topDef (PySem.W.OpenLaw.row PySem.Challenge.rw_crosswires_k54_across_codes_telling_corn).prog 47).name = ("law" : PySem.Str) := by kernel_rfl
      rw [← e]
      exact hmg0
    obtain ⟨fd, hb, hF⟩ := facts (P := (PySem.Challenge.rw_crosswires_k54_across_codes_telling_corn).prog) (w := w) KX Gm hmg c
    exact ⟨K, fd, _, KX, hb, fun H a ns hl hO hS => sp_law rfl (hm ns hl) hO hS, hF⟩
end Kk54

namespace Kk54
open PySem PySem.Spec PyProof.Rows L2 T
def r_is_number (x_thing : Int) : R Bool :=
  (R.ok (true && (!false)))
theorem y_is_number (x_thing : Int) : Fs (fun (a : Bool) => .sh (D.bl a)) (f_is_number [D.int x_thing]) (r_is_number x_thing) := by
  unfold r_is_number
  exact f_tl [.sh (D.int x_thing)] rfl (fun _ => .inl ⟨_, rfl⟩) (l_retP (true && (!false)) (p_And (q_1 rfl rfl) (p_Not (q_1 rfl rfl) rfl rfl)) rfl rfl)
def r_swapped (x_sequence : (List Int)) (x_at : Int) : R (List Int) :=
  (R.bind (R.bind (R.bind (R.get (atI x_sequence x_at)) fun (v1 : Int) => (R.bind (R.get (atI x_sequence (x_at - (1 : Int)))) fun (v2 : Int) => (R.ok [v1, v2]))) fun (v3 : (List Int)) => (R.app (cutG x_sequence none (some (x_at - (1 : Int)))) v3)) fun (v4 : (List Int)) => (R.app v4 (cutG x_sequence (some (x_at + (1 : Int))) none)))
theorem y_swapped (x_sequence : (List Int)) (x_at : Int) : Fs (fun (a : (List Int)) => .sh ((eT D.int) a)) (f_swapped [(eT D.int) x_sequence, D.int x_at]) (r_swapped x_sequence x_at) := by
  unfold r_swapped
  exact f_tl [.sh ((eT D.int) x_sequence), .sh (D.int x_at)] rfl (fun _ => .inl ⟨_, rfl⟩) (l_ret (fun _ => [.sh ((eT D.int) x_sequence), .sh (D.int x_at)]) (fun _ => [.sh ((eT D.int) x_sequence), .sh (D.int x_at)]) (u_2 (k_v (fun (a : (List Int)) => .sh ((eT D.int) a)) (fun (a : (List Int)) => [.sh ((eT D.int) x_sequence), .sh (D.int x_at)]) (u_2 (k_p (p_sl rfl rfl (kq_p (q_2 rfl rfl rfl)) (o_slT D.int x_sequence none (some (x_at - (1 : Int))))) (k_v (fun (a : (List Int)) => .sh ((eT D.int) a)) (fun (a : (List Int)) => [.sh ((eT D.int) x_sequence), .sh (D.int x_at)]) (u_tup (a_v (fun (a : Int) => .sh (D.int a)) (fun (a : Int) => [.sh ((eT D.int) x_sequence), .sh (D.int x_at)]) (u_2 (k_p rfl (k_p rfl (z_get (atI x_sequence x_at) (o_ixT D.int x_sequence x_at) fun _ => rfl)))) fun v1 => (a_v (fun (a : Int) => .sh (D.int a)) (fun (a : Int) => [.sh ((eT D.int) x_sequence), .sh (D.int x_at)]) (u_2 (k_p rfl (k_p (q_2 rfl rfl rfl) (z_get (atI x_sequence (x_at - (1 : Int))) (o_ixT D.int x_sequence (x_at - (1 : Int))) fun _ => rfl)))) fun v2 => (a_nil (z_seq (e2 := [.sh ((eT D.int) x_sequence), .sh (D.int x_at)]) [v1, v2] rfl (Nat.le_of_ble_eq_true rfl) rfl rfl))))) fun v3 => (z_appT D.int (cutG x_sequence none (some (x_at - (1 : Int)))) v3 fun _ => rfl)))) fun v4 => (k_p (p_sl rfl (kq_p (q_2 rfl rfl rfl)) rfl (o_slT D.int x_sequence (some (x_at + (1 : Int))) none)) (z_appT D.int v4 (cutG x_sequence (some (x_at + (1 : Int))) none) fun _ => rfl)))) (fun _ => rfl) (fun _ => rfl))
def r_is_sequence_of (x_thing : (List Int)) : R Bool :=
  (if ((!true) || (!((decide ((1 : Int) ≤ (x_thing.length : Int))) && (decide ((x_thing.length : Int) ≤ 6))))) = true then (R.ok false) else (R.bind (R.bind (R.bind (R.ok x_thing) (R.lc (fun (c1 : Int) => (R.ok true)) (fun (c1 : Int) => (r_is_number (c1))))) fun (v2 : (List Bool)) => (R.ok (List.all v2 id))) fun b5 => if b5 = true then (R.bind (R.sorted x_thing) fun (v3 : (List Int)) => (R.bind (R.rgl (1 : Int) ((x_thing.length : Int) + (1 : Int))) fun (v4 : (List Int)) => (R.ok (decide (v3 = v4))))) else .ok false))
theorem y_is_sequence_of (x_thing : (List Int)) : Fs (fun (a : Bool) => .sh (D.bl a)) (f_is_sequence_of [(eT D.int) x_thing]) (r_is_sequence_of x_thing) := by
  unfold r_is_sequence_of
  exact f_tl [.sh ((eT D.int) x_thing), .no] rfl (fun _ => .inl ⟨_, rfl⟩) (l_stopP (q_or (q_not (p_T (q_1 rfl rfl) rfl rfl)) fun _ => (q_not (q_tB (p_chain rfl (q_N (q_cons rfl q_nil) (o_lenT D.int x_thing)) rfl rfl rfl) rfl))) (l_retP false rfl rfl rfl) (l_ret (fun _ => [.sh ((eT D.int) x_thing), .no]) (fun _ => [.sh ((eT D.int) x_thing), .no]) (x_And (u_N (a_v (fun (a : (List Bool)) => .ow ((eL D.bl) a)) (fun (a : (List Bool)) => [.sh ((eT D.int) x_thing), .no]) (x_lc D.int D.bl (fun (c1 : Int) => [.sh ((eT D.int) x_thing), .sh (D.int c1)]) (fun (a : Bool) => .sh (D.bl a)) (w_p x_thing rfl) rfl rfl (fun _ => rfl) (fun c1 => (t_p rfl)) (fun c1 => (u_call (a_p rfl (a_nil (z_call (e2 := [.sh ((eT D.int) x_thing), .sh (D.int c1)]) rfl rfl rfl (fun _ => rfl) (y_is_number (c1))))))) (fun _ _ => rfl) (fun _ => rfl) (fun _ => rfl)) fun v2 => (a_nil (z_ok (List.all v2 id) (bls_all v2) rfl)))) (u_2 (k_v (fun (a : (List Int)) => .ow ((eL D.int) a)) (fun (a : (List Int)) => [.sh ((eT D.int) x_thing), .no]) (u_N (a_p rfl (a_nil (z_sortT x_thing fun _ => rfl)))) fun v3 => (k_v (fun (a : (List Int)) => .ow ((eL D.int) a)) (fun (a : (List Int)) => [.sh ((eT D.int) x_thing), .no]) (u_rg2 (k_p rfl (k_p (q_2 (q_N (q_cons rfl q_nil) (o_lenT D.int x_thing)) rfl rfl) (z_rg2 rfl rfl (fun _ => rfl) (fun _ => rfl))))) fun v4 => (z_ok (decide (v3 = v4)) (Enc.opEq (e := (eL D.int)) (Enc.lst Enc.int) (Nat.le_of_ble_eq_true rfl) v3 v4) rfl))))) (fun _ => rfl) (fun _ => rfl)))
def r_need_sequence (x_sequence : (List Int)) : R Unit :=
  (R.bind (R.bind (r_is_sequence_of (x_sequence)) fun b1 => .ok (!b1)) fun b2 => if b2 = true then (R.exc "BadSequence") else (R.ok ()))
theorem y_need_sequence (x_sequence : (List Int)) : Fs (fun _ : Unit => .sh .non) (f_need_sequence [(eT D.int) x_sequence]) (r_need_sequence x_sequence) := by
  unfold r_need_sequence
  exact f_nx (E := fun _ => [.sh ((eT D.int) x_sequence)]) [.sh ((eT D.int) x_sequence)] rfl (n_if (t_not (t_TB (u_call (a_p rfl (a_nil (z_call (e2 := [.sh ((eT D.int) x_sequence)]) rfl rfl rfl (fun _ => rfl) (y_is_sequence_of (x_sequence)))))))) (n_raise rfl) (n_skip () rfl)) (fun _ => rfl)
def r_doubles_by (x_sequence : (List Int)) : R (List (Int × Int)) :=
  (R.bind (R.ok (x_sequence.length : Int)) fun (x_size_1 : Int) => (R.bind (R.rng (1 : Int) x_size_1) (R.lc2 (fun (c2 : Int) => (R.ok true)) (fun (c2 : Int) => (R.rng (c2 + (1 : Int)) (x_size_1 + (1 : Int)))) (fun (c2 : Int) (c3 : Int) => (R.bind (R.get (atI x_sequence (c2 - (1 : Int)))) fun (v4 : Int) => (R.bind (R.get (atI x_sequence (c3 - (1 : Int)))) fun (v5 : Int) => (R.ok (decide (v5 < v4)))))) (fun (c2 : Int) (c3 : Int) => (R.ok (c2, c3))))))
theorem y_doubles_by (x_sequence : (List Int)) : Fs (fun (a : (List (Int × Int))) => .ow ((eL (eP D.int D.int)) a)) (f_doubles_by [(eT D.int) x_sequence]) (r_doubles_by x_sequence) := by
  unfold r_doubles_by
  exact f_tl [.sh ((eT D.int) x_sequence), .no, .no, .no] rfl (fun _ => .inr ⟨_, rfl⟩) (l_seq (E1 := fun (x_size_1 : Int) => [.sh ((eT D.int) x_sequence), .sh (D.int x_size_1), .no, .no]) (n_p (r := (x_sequence.length : Int)) (q_set (q_N (q_cons rfl q_nil) (o_lenT D.int x_sequence)) rfl) rfl) fun x_size_1 => (l_ret (fun _ => [.sh ((eT D.int) x_sequence), .sh (D.int x_size_1), .no, .no]) (fun _ => [.sh ((eT D.int) x_sequence), .sh (D.int x_size_1), .no, .no]) (x_lc2 D.int D.int (eP D.int D.int) (fun (c2 : Int) => [.sh ((eT D.int) x_sequence), .sh (D.int x_size_1), .sh (D.int c2), .no]) (fun (c2 : Int) (c3 : Int) => [.sh ((eT D.int) x_sequence), .sh (D.int x_size_1), .sh (D.int c2), .sh (D.int c3)]) (fun (a : (Int × Int)) => .sh ((eP D.int D.int) a)) (u_rng (a_p rfl (a_p rfl (a_nil (g_rng2 rfl))))) rfl rfl (fun _ => rfl) (fun c2 => (t_p rfl)) (fun c2 => (u_rng (a_p (q_2 rfl rfl rfl) (a_p (q_2 rfl rfl rfl) (a_nil (g_rng2 rfl)))))) (fun _ _ => rfl) (fun c2 c3 => (t_B (u_2 (k_v (fun (a : Int) => .sh (D.int a)) (fun (a : Int) => [.sh ((eT D.int) x_sequence), .sh (D.int x_size_1), .sh (D.int c2), .sh (D.int c3)]) (u_2 (k_p rfl (k_p (q_2 rfl rfl rfl) (z_get (atI x_sequence (c2 - (1 : Int))) (o_ixT D.int x_sequence (c2 - (1 : Int))) fun _ => rfl)))) fun v4 => (k_v (fun (a : Int) => .sh (D.int a)) (fun (a : Int) => [.sh ((eT D.int) x_sequence), .sh (D.int x_size_1), .sh (D.int c2), .sh (D.int c3)]) (u_2 (k_p rfl (k_p (q_2 rfl rfl rfl) (z_get (atI x_sequence (c3 - (1 : Int))) (o_ixT D.int x_sequence (c3 - (1 : Int))) fun _ => rfl)))) fun v5 => (z_ok (decide (v5 < v4)) rfl rfl)))))) (fun c2 c3 => (x_p (fun (a : (Int × Int)) => .sh ((eP D.int D.int) a)) (c2, c3) (p_tup (q_cons rfl (q_cons rfl q_nil)) rfl (Nat.le_of_ble_eq_true rfl)))) (fun _ _ _ => rfl) (fun _ _ => rfl) (fun _ => rfl) (fun _ => rfl) (fun _ => rfl)) (fun _ => rfl) (fun _ => rfl)))
def r_crossings_by (x_sequence : (List Int)) : R Int :=
  (R.bind (r_doubles_by (x_sequence)) fun (v1 : (List (Int × Int))) => (R.ok (v1.length : Int)))
theorem y_crossings_by (x_sequence : (List Int)) : Fs (fun (a : Int) => .sh (D.int a)) (f_crossings_by [(eT D.int) x_sequence]) (r_crossings_by x_sequence) := by
  unfold r_crossings_by
  exact f_tl [.sh ((eT D.int) x_sequence)] rfl (fun _ => .inl ⟨_, rfl⟩) (l_ret (fun _ => [.sh ((eT D.int) x_sequence)]) (fun _ => [.sh ((eT D.int) x_sequence)]) (u_N (a_v (fun (a : (List (Int × Int))) => .ow ((eL (eP D.int D.int)) a)) (fun (a : (List (Int × Int))) => [.sh ((eT D.int) x_sequence)]) (u_call (a_p rfl (a_nil (z_call (e2 := [.sh ((eT D.int) x_sequence)]) rfl rfl rfl (fun _ => rfl) (y_doubles_by (x_sequence)))))) fun v1 => (a_nil (z_ok (v1.length : Int) (o_lenL (eP D.int D.int) v1) rfl)))) (fun _ => rfl) (fun _ => rfl))
def r_back_by (x_sequence : (List Int)) : R (List Int) :=
  (R.bind (R.bind (R.rng (1 : Int) ((x_sequence.length : Int) + (1 : Int))) (R.lc (fun (c1 : Int) => (R.ok true)) (fun (c1 : Int) => (R.bind (R.get ((idxI x_sequence c1).map fun i => (i : Int))) fun (v2 : Int) => (R.ok (v2 + (1 : Int))))))) fun (v3 : (List Int)) => (R.ok v3))
theorem y_back_by (x_sequence : (List Int)) : Fs (fun (a : (List Int)) => .sh ((eT D.int) a)) (f_back_by [(eT D.int) x_sequence]) (r_back_by x_sequence) := by
  unfold r_back_by
  exact f_tl [.sh ((eT D.int) x_sequence), .no] rfl (fun _ => .inl ⟨_, rfl⟩) (l_ret (fun _ => [.sh ((eT D.int) x_sequence), .no]) (fun _ => [.sh ((eT D.int) x_sequence), .no]) (u_N (a_v (fun (a : (List Int)) => .ow ((eL D.int) a)) (fun (a : (List Int)) => [.sh ((eT D.int) x_sequence), .no]) (x_lc D.int D.int (fun (c1 : Int) => [.sh ((eT D.int) x_sequence), .sh (D.int c1)]) (fun (a : Int) => .sh (D.int a)) (u_rng (a_p rfl (a_p (q_2 (q_N (q_cons rfl q_nil) (o_lenT D.int x_sequence)) rfl rfl) (a_nil (g_rng2 rfl))))) rfl rfl (fun _ => rfl) (fun c1 => (t_p rfl)) (fun c1 => (u_2 (k_v (fun (a : Int) => .sh (D.int a)) (fun (a : Int) => [.sh ((eT D.int) x_sequence), .sh (D.int c1)]) (x_ix rfl rfl fun _ => rfl) fun v2 => (k_p rfl (z_ok (v2 + (1 : Int)) rfl rfl))))) (fun _ _ => rfl) (fun _ => rfl) (fun _ => rfl)) fun v3 => (a_nil (z_ok v3 rfl rfl)))) (fun _ => rfl) (fun _ => rfl))
def r_code_by (x_sequence : (List Int)) : R (List Int) :=
  (R.bind (R.bind (R.ok (enumI 0 x_sequence)) (R.lc (fun (c1 : (Int × Int)) => (R.ok true)) (fun (c1 : (Int × Int)) => (R.bind (R.bind (R.ok (cutG x_sequence (some c1.1) none)) (R.lcp (fun (c2 : Int) => (decide (c2 < c1.2))) (fun (c2 : Int) => c2))) fun (v3 : (List Int)) => (R.ok (v3.length : Int)))))) fun (v4 : (List Int)) => (R.ok v4))
theorem y_code_by (x_sequence : (List Int)) : Fs (fun (a : (List Int)) => .sh ((eT D.int) a)) (f_code_by [(eT D.int) x_sequence]) (r_code_by x_sequence) := by
  unfold r_code_by
  exact f_tl [.sh ((eT D.int) x_sequence), .no, .no, .no] rfl (fun _ => .inl ⟨_, rfl⟩) (l_ret (fun _ => [.sh ((eT D.int) x_sequence), .no, .no, .no]) (fun _ => [.sh ((eT D.int) x_sequence), .no, .no, .no]) (u_N (a_v (fun (a : (List Int)) => .ow ((eL D.int) a)) (fun (a : (List Int)) => [.sh ((eT D.int) x_sequence), .no, .no, .no]) (x_lc (eP D.int D.int) D.int (fun (c1 : (Int × Int)) => [.sh ((eT D.int) x_sequence), .no, .sh (D.int c1.1), .sh (D.int c1.2)]) (fun (a : Int) => .sh (D.int a)) (u_en (a_p rfl (a_nil (g_en0 (e2 := [.sh ((eT D.int) x_sequence), .no, .no, .no]) (e := D.int) x_sequence rfl rfl)))) rfl rfl (fun _ => rfl) (fun c1 => (t_p rfl)) (fun c1 => (u_N (a_v (fun (a : (List Int)) => .ow ((eL D.int) a)) (fun (a : (List Int)) => [.sh ((eT D.int) x_sequence), .no, .sh (D.int c1.1), .sh (D.int c1.2)]) (x_lcp (p := fun (c2 : Int) => (decide (c2 < c1.2))) (v := fun (c2 : Int) => c2) (s := fun (c2 : Int) => (.sh (D.int c2))) D.int D.int (fun (c2 : Int) => [.sh ((eT D.int) x_sequence), .sh (D.int c2), .sh (D.int c1.1), .sh (D.int c1.2)]) (w_p (cutG x_sequence (some c1.1) none) (src_p (p_sl rfl (kq_p rfl) rfl (o_slT D.int x_sequence (some c1.1) none)) rfl)) rfl rfl (fun _ => rfl) (fun c2 => (q_tB (q_2 rfl rfl rfl) rfl)) (fun c2 => rfl) (fun _ => rfl) (fun _ => rfl) (fun _ => rfl)) fun v3 => (a_nil (z_ok (v3.length : Int) (o_lenL D.int v3) rfl))))) (fun _ _ => rfl) (fun _ => rfl) (fun _ => rfl)) fun v4 => (a_nil (z_ok v4 rfl rfl)))) (fun _ => rfl) (fun _ => rfl))
def r_doubles (x_sequence : (List Int)) : R (List (Int × Int)) :=
  (R.bind (r_need_sequence (x_sequence)) fun (_v1 : Unit) => (R.bind (r_doubles_by (x_sequence)) fun (v2 : (List (Int × Int))) => (R.ok v2)))
theorem y_doubles (x_sequence : (List Int)) : Fs (fun (a : (List (Int × Int))) => .sh ((eT (eP D.int D.int)) a)) (f_doubles [(eT D.int) x_sequence]) (r_doubles x_sequence) := by
  unfold r_doubles
  exact f_tl [.sh ((eT D.int) x_sequence)] rfl (fun _ => .inl ⟨_, rfl⟩) (l_seq (E1 := fun (_v1 : Unit) => [.sh ((eT D.int) x_sequence)]) (n_expr (fun (a : Unit) => .sh (eU a)) (fun (a : Unit) => [.sh ((eT D.int) x_sequence)]) (u_call (a_p rfl (a_nil (z_call (e2 := [.sh ((eT D.int) x_sequence)]) rfl rfl rfl (fun _ => rfl) (y_need_sequence (x_sequence))))))) fun _v1 => (l_ret (fun _ => [.sh ((eT D.int) x_sequence)]) (fun _ => [.sh ((eT D.int) x_sequence)]) (u_N (a_v (fun (a : (List (Int × Int))) => .ow ((eL (eP D.int D.int)) a)) (fun (a : (List (Int × Int))) => [.sh ((eT D.int) x_sequence)]) (u_call (a_p rfl (a_nil (z_call (e2 := [.sh ((eT D.int) x_sequence)]) rfl rfl rfl (fun _ => rfl) (y_doubles_by (x_sequence)))))) fun v2 => (a_nil (z_ok v2 rfl rfl)))) (fun _ => rfl) (fun _ => rfl)))
def r_many_crossings (x_sequence : (List Int)) : R Int :=
  (R.bind (r_need_sequence (x_sequence)) fun (_v1 : Unit) => (r_crossings_by (x_sequence)))
theorem y_many_crossings (x_sequence : (List Int)) : Fs (fun (a : Int) => .sh (D.int a)) (f_many_crossings [(eT D.int) x_sequence]) (r_many_crossings x_sequence) := by
  unfold r_many_crossings
  exact f_tl [.sh ((eT D.int) x_sequence)] rfl (fun _ => .inl ⟨_, rfl⟩) (l_seq (E1 := fun (_v1 : Unit) => [.sh ((eT D.int) x_sequence)]) (n_expr (fun (a : Unit) => .sh (eU a)) (fun (a : Unit) => [.sh ((eT D.int) x_sequence)]) (u_call (a_p rfl (a_nil (z_call (e2 := [.sh ((eT D.int) x_sequence)]) rfl rfl rfl (fun _ => rfl) (y_need_sequence (x_sequence))))))) fun _v1 => (l_ret (fun _ => [.sh ((eT D.int) x_sequence)]) (fun _ => [.sh ((eT D.int) x_sequence)]) (u_call (a_p rfl (a_nil (z_call (e2 := [.sh ((eT D.int) x_sequence)]) rfl rfl rfl (fun _ => rfl) (y_crossings_by (x_sequence)))))) (fun _ => rfl) (fun _ => rfl)))
def r_code (x_sequence : (List Int)) : R (List Int) :=
  (R.bind (r_need_sequence (x_sequence)) fun (_v1 : Unit) => (r_code_by (x_sequence)))
theorem y_code (x_sequence : (List Int)) : Fs (fun (a : (List Int)) => .sh ((eT D.int) a)) (f_code [(eT D.int) x_sequence]) (r_code x_sequence) := by
  unfold r_code
  exact f_tl [.sh ((eT D.int) x_sequence)] rfl (fun _ => .inl ⟨_, rfl⟩) (l_seq (E1 := fun (_v1 : Unit) => [.sh ((eT D.int) x_sequence)]) (n_expr (fun (a : Unit) => .sh (eU a)) (fun (a : Unit) => [.sh ((eT D.int) x_sequence)]) (u_call (a_p rfl (a_nil (z_call (e2 := [.sh ((eT D.int) x_sequence)]) rfl rfl rfl (fun _ => rfl) (y_need_sequence (x_sequence))))))) fun _v1 => (l_ret (fun _ => [.sh ((eT D.int) x_sequence)]) (fun _ => [.sh ((eT D.int) x_sequence)]) (u_call (a_p rfl (a_nil (z_call (e2 := [.sh ((eT D.int) x_sequence)]) rfl rfl rfl (fun _ => rfl) (y_code_by (x_sequence)))))) (fun _ => rfl) (fun _ => rfl)))
def r_corner_by (x_sequence : (List Int)) (x_i : Int) (x_j : Int) : R Int :=
  (R.bind (R.bind (R.ok (cutG x_sequence none (some x_i))) (R.lcp (fun (c1 : Int) => (decide (c1 ≤ x_j))) (fun (c1 : Int) => c1))) fun (v2 : (List Int)) => (R.ok (v2.length : Int)))
theorem y_corner_by (x_sequence : (List Int)) (x_i : Int) (x_j : Int) : Fs (fun (a : Int) => .sh (D.int a)) (f_corner_by [(eT D.int) x_sequence, D.int x_i, D.int x_j]) (r_corner_by x_sequence x_i x_j) := by
  unfold r_corner_by
  exact f_tl [.sh ((eT D.int) x_sequence), .sh (D.int x_i), .sh (D.int x_j), .no] rfl (fun _ => .inl ⟨_, rfl⟩) (l_ret (fun _ => [.sh ((eT D.int) x_sequence), .sh (D.int x_i), .sh (D.int x_j), .no]) (fun _ => [.sh ((eT D.int) x_sequence), .sh (D.int x_i), .sh (D.int x_j), .no]) (u_N (a_v (fun (a : (List Int)) => .ow ((eL D.int) a)) (fun (a : (List Int)) => [.sh ((eT D.int) x_sequence), .sh (D.int x_i), .sh (D.int x_j), .no]) (x_lcp (p := fun (c1 : Int) => (decide (c1 ≤ x_j))) (v := fun (c1 : Int) => c1) (s := fun (c1 : Int) => (.sh (D.int c1))) D.int D.int (fun (c1 : Int) => [.sh ((eT D.int) x_sequence), .sh (D.int x_i), .sh (D.int x_j), .sh (D.int c1)]) (w_p (cutG x_sequence none (some x_i)) (src_p (p_sl rfl rfl (kq_p rfl) (o_slT D.int x_sequence none (some x_i))) rfl)) rfl rfl (fun _ => rfl) (fun c1 => (q_tB (q_2 rfl rfl rfl) rfl)) (fun c1 => rfl) (fun _ => rfl) (fun _ => rfl) (fun _ => rfl)) fun v2 => (a_nil (z_ok (v2.length : Int) (o_lenL D.int v2) rfl)))) (fun _ => rfl) (fun _ => rfl))
def r_diagram_by (x_sequence : (List Int)) : R (List (Int × Int)) :=
  (R.bind (r_back_by (x_sequence)) fun (x_places_1 : (List Int)) => (R.bind (R.ok ([] : List (Int × Int))) fun (x_found_2 : (List (Int × Int))) => (R.bind (R.bind (R.ok (enumI (1 : Int) x_sequence)) fun l => R.fold (fun (s3 : ((List (Int × Int)) × (Option Int) × (Option Int))) (c4 : (Int × Int)) => (R.bind (R.bind (R.bind (R.rng (1 : Int) c4.2) (R.lc (fun (c5 : Int) => (R.bind (R.get (atI x_places_1 (c5 - (1 : Int)))) fun (v6 : Int) => (R.ok (decide (c4.1 < v6))))) (fun (c5 : Int) => (R.ok (c4.1, c5))))) fun (v7 : (List (Int × Int))) => (R.app s3.1 v7)) fun (l8 : (List (Int × Int))) => .ok (l8, (some c4.1), (some c4.2)))) l (x_found_2, (none : Option Int), (none : Option Int))) fun (s9 : ((List (Int × Int)) × (Option Int) × (Option Int))) => (R.ok s9.1))))
theorem y_diagram_by (x_sequence : (List Int)) : Fs (fun (a : (List (Int × Int))) => .ow ((eL (eP D.int D.int)) a)) (f_diagram_by [(eT D.int) x_sequence]) (r_diagram_by x_sequence) := by
  unfold r_diagram_by
  exact f_tl [.sh ((eT D.int) x_sequence), .no, .no, .no, .no, .no] rfl (fun _ => .inr ⟨_, rfl⟩) (l_seq (E1 := fun (x_places_1 : (List Int)) => [.sh ((eT D.int) x_sequence), .sh ((eT D.int) x_places_1), .no, .no, .no, .no]) (n_set (fun (a : (List Int)) => .sh ((eT D.int) a)) (fun (a : (List Int)) => [.sh ((eT D.int) x_sequence), .no, .no, .no, .no, .no]) (x_shr (eT D.int) (fun (a : (List Int)) => .sh ((eT D.int) a)) (fun (a : (List Int)) => [.sh ((eT D.int) x_sequence), .no, .no, .no, .no, .no]) (u_call (a_p rfl (a_nil (z_call (e2 := [.sh ((eT D.int) x_sequence), .no, .no, .no, .no, .no]) rfl rfl rfl (fun _ => rfl) (y_back_by (x_sequence)))))) (fun _ => rfl)) fun _ => rfl) fun x_places_1 => (l_seq (E1 := fun (x_found_2 : (List (Int × Int))) => [.sh ((eT D.int) x_sequence), .sh ((eT D.int) x_places_1), .ow ((eL (eP D.int D.int)) x_found_2), .no, .no, .no]) (n_p (r := ([] : List (Int × Int))) (q_set (p_lst q_nil rfl (Nat.le_of_ble_eq_true rfl)) rfl) rfl) fun x_found_2 => (l_seq (E1 := fun (s9 : ((List (Int × Int)) × (Option Int) × (Option Int))) => [.sh ((eT D.int) x_sequence), .sh ((eT D.int) x_places_1), .ow ((eL (eP D.int D.int)) s9.1), (oS (fun a => .sh (D.int a)) s9.2.1), (oS (fun a => .sh (D.int a)) s9.2.2), .no]) (n_for (E := fun (s3 : ((List (Int × Int)) × (Option Int) × (Option Int))) => [.sh ((eT D.int) x_sequence), .sh ((eT D.int) x_places_1), .ow ((eL (eP D.int D.int)) s3.1), (oS (fun a => .sh (D.int a)) s3.2.1), (oS (fun a => .sh (D.int a)) s3.2.2), .no]) (eP D.int D.int) (fun (s3 : ((List (Int × Int)) × (Option Int) × (Option Int))) (c4 : (Int × Int)) => [.sh ((eT D.int) x_sequence), .sh ((eT D.int) x_places_1), .ow ((eL (eP D.int D.int)) s3.1), .sh (D.int c4.1), .sh (D.int c4.2), .no]) (x_found_2, (none : Option Int), (none : Option Int)) (u_en (a_p rfl (a_p rfl (a_nil (g_en1 (e2 := [.sh ((eT D.int) x_sequence), .sh ((eT D.int) x_places_1), .ow ((eL (eP D.int D.int)) x_found_2), .no, .no, .no]) (e := D.int) (1 : Int) x_sequence (by decide) rfl rfl))))) rfl (fun _ _ => rfl) fun s3 c4 => (n_last (E1 := fun (l8 : (List (Int × Int))) => [.sh ((eT D.int) x_sequence), .sh ((eT D.int) x_places_1), .ow ((eL (eP D.int D.int)) l8), .sh (D.int c4.1), .sh (D.int c4.2), .no]) (fun (l8 : (List (Int × Int))) => (l8, (some c4.1), (some c4.2))) (n_lm rfl (a_v (fun (a : (List (Int × Int))) => .ow ((eL (eP D.int D.int)) a)) (fun (a : (List (Int × Int))) => [.sh ((eT D.int) x_sequence), .sh ((eT D.int) x_places_1), .ow ((eL (eP D.int D.int)) s3.1), .sh (D.int c4.1), .sh (D.int c4.2), .no]) (x_lc D.int (eP D.int D.int) (fun (c5 : Int) => [.sh ((eT D.int) x_sequence), .sh ((eT D.int) x_places_1), .ow ((eL (eP D.int D.int)) s3.1), .sh (D.int c4.1), .sh (D.int c4.2), .sh (D.int c5)]) (fun (a : (Int × Int)) => .sh ((eP D.int D.int) a)) (u_rng (a_p rfl (a_p rfl (a_nil (g_rng2 rfl))))) rfl rfl (fun _ => rfl) (fun c5 => (t_B (u_2 (k_v (fun (a : Int) => .sh (D.int a)) (fun (a : Int) => [.sh ((eT D.int) x_sequence), .sh ((eT D.int) x_places_1), .ow ((eL (eP D.int D.int)) s3.1), .sh (D.int c4.1), .sh (D.int c4.2), .sh (D.int c5)]) (u_2 (k_p rfl (k_p (q_2 rfl rfl rfl) (z_get (atI x_places_1 (c5 - (1 : Int))) (o_ixT D.int x_places_1 (c5 - (1 : Int))) fun _ => rfl)))) fun v6 => (k_p rfl (z_ok (decide (c4.1 < v6)) rfl rfl)))))) (fun c5 => (x_p (fun (a : (Int × Int)) => .sh ((eP D.int D.int) a)) (c4.1, c5) (p_tup (q_cons rfl (q_cons rfl q_nil)) rfl (Nat.le_of_ble_eq_true rfl)))) (fun _ _ => rfl) (fun _ => rfl) (fun _ => rfl)) fun v7 => (a_nil (n_extend (e := (eP D.int D.int)) (e2 := [.sh ((eT D.int) x_sequence), .sh ((eT D.int) x_places_1), .ow ((eL (eP D.int D.int)) s3.1), .sh (D.int c4.1), .sh (D.int c4.2), .no]) s3.1 v7 rfl rfl fun _ => rfl)))) fun _ => rfl)) fun s9 => (l_retP s9.1 rfl rfl rfl))))
def r_telling_by (x_sequence : (List Int)) : R (List (Int × Int)) :=
  (R.bind (r_diagram_by (x_sequence)) fun (x_found_1 : (List (Int × Int))) => (R.bind (R.ok x_found_1) (R.lcp (fun (c2 : (Int × Int)) => ((!memB ((c2.1 + (1 : Int)), c2.2) x_found_1) && (!memB (c2.1, (c2.2 + (1 : Int))) x_found_1))) (fun (c2 : (Int × Int)) => (c2.1, c2.2)))))
theorem y_telling_by (x_sequence : (List Int)) : Fs (fun (a : (List (Int × Int))) => .ow ((eL (eP D.int D.int)) a)) (f_telling_by [(eT D.int) x_sequence]) (r_telling_by x_sequence) := by
  unfold r_telling_by
  exact f_tl [.sh ((eT D.int) x_sequence), .no, .no, .no] rfl (fun _ => .inr ⟨_, rfl⟩) (l_seq (E1 := fun (x_found_1 : (List (Int × Int))) => [.sh ((eT D.int) x_sequence), .sh ((eL (eP D.int D.int)) x_found_1), .no, .no]) (n_set (fun (a : (List (Int × Int))) => .sh ((eL (eP D.int D.int)) a)) (fun (a : (List (Int × Int))) => [.sh ((eT D.int) x_sequence), .no, .no, .no]) (x_shr (eL (eP D.int D.int)) (fun (a : (List (Int × Int))) => .ow ((eL (eP D.int D.int)) a)) (fun (a : (List (Int × Int))) => [.sh ((eT D.int) x_sequence), .no, .no, .no]) (u_call (a_p rfl (a_nil (z_call (e2 := [.sh ((eT D.int) x_sequence), .no, .no, .no]) rfl rfl rfl (fun _ => rfl) (y_diagram_by (x_sequence)))))) (fun _ => rfl)) fun _ => rfl) fun x_found_1 => (l_ret (fun _ => [.sh ((eT D.int) x_sequence), .sh ((eL (eP D.int D.int)) x_found_1), .no, .no]) (fun _ => [.sh ((eT D.int) x_sequence), .sh ((eL (eP D.int D.int)) x_found_1), .no, .no]) (x_lcp (p := fun (c2 : (Int × Int)) => ((!memB ((c2.1 + (1 : Int)), c2.2) x_found_1) && (!memB (c2.1, (c2.2 + (1 : Int))) x_found_1))) (v := fun (c2 : (Int × Int)) => (c2.1, c2.2)) (s := fun (c2 : (Int × Int)) => (.sh ((eP D.int D.int) (c2.1, c2.2)))) (eP D.int D.int) (eP D.int D.int) (fun (c2 : (Int × Int)) => [.sh ((eT D.int) x_sequence), .sh ((eL (eP D.int D.int)) x_found_1), .sh (D.int c2.1), .sh (D.int c2.2)]) (w_p x_found_1 rfl) rfl rfl (fun _ => rfl) (fun c2 => (q_and (q_tB (q_2 (p_tup (q_cons (q_2 rfl rfl rfl) (q_cons rfl q_nil)) rfl (Nat.le_of_ble_eq_true rfl)) rfl (o_ninL (e := (eP D.int D.int)) (Enc.pair Enc.int Enc.int) (Nat.le_of_ble_eq_true rfl) ((c2.1 + (1 : Int)), c2.2) x_found_1)) rfl) fun _ => (q_tB (q_2 (p_tup (q_cons rfl (q_cons (q_2 rfl rfl rfl) q_nil)) rfl (Nat.le_of_ble_eq_true rfl)) rfl (o_ninL (e := (eP D.int D.int)) (Enc.pair Enc.int Enc.int) (Nat.le_of_ble_eq_true rfl) (c2.1, (c2.2 + (1 : Int))) x_found_1)) rfl))) (fun c2 => (p_tup (q_cons rfl (q_cons rfl q_nil)) rfl (Nat.le_of_ble_eq_true rfl))) (fun _ => rfl) (fun _ => rfl) (fun _ => rfl)) (fun _ => rfl) (fun _ => rfl)))
def r_diagram (x_sequence : (List Int)) : R (List (Int × Int)) :=
  (R.bind (r_need_sequence (x_sequence)) fun (_v1 : Unit) => (R.bind (r_diagram_by (x_sequence)) fun (v2 : (List (Int × Int))) => (R.ok v2)))
theorem y_diagram (x_sequence : (List Int)) : Fs (fun (a : (List (Int × Int))) => .sh ((eT (eP D.int D.int)) a)) (f_diagram [(eT D.int) x_sequence]) (r_diagram x_sequence) := by
  unfold r_diagram
  exact f_tl [.sh ((eT D.int) x_sequence)] rfl (fun _ => .inl ⟨_, rfl⟩) (l_seq (E1 := fun (_v1 : Unit) => [.sh ((eT D.int) x_sequence)]) (n_expr (fun (a : Unit) => .sh (eU a)) (fun (a : Unit) => [.sh ((eT D.int) x_sequence)]) (u_call (a_p rfl (a_nil (z_call (e2 := [.sh ((eT D.int) x_sequence)]) rfl rfl rfl (fun _ => rfl) (y_need_sequence (x_sequence))))))) fun _v1 => (l_ret (fun _ => [.sh ((eT D.int) x_sequence)]) (fun _ => [.sh ((eT D.int) x_sequence)]) (u_N (a_v (fun (a : (List (Int × Int))) => .ow ((eL (eP D.int D.int)) a)) (fun (a : (List (Int × Int))) => [.sh ((eT D.int) x_sequence)]) (u_call (a_p rfl (a_nil (z_call (e2 := [.sh ((eT D.int) x_sequence)]) rfl rfl rfl (fun _ => rfl) (y_diagram_by (x_sequence)))))) fun v2 => (a_nil (z_ok v2 rfl rfl)))) (fun _ => rfl) (fun _ => rfl)))
def r_told_by_corners (x_sequence : (List Int)) : R (List ((Int × Int) × Int)) :=
  (R.bind (r_need_sequence (x_sequence)) fun (_v1 : Unit) => (R.bind (r_telling_by (x_sequence)) (R.dc (fun (c2 : (Int × Int)) => (R.ok true)) (fun (c2 : (Int × Int)) => (R.ok (c2.1, c2.2))) (fun (c2 : (Int × Int)) => (r_corner_by (x_sequence) (c2.1) (c2.2))))))
theorem y_told_by_corners (x_sequence : (List Int)) : Fs (fun (a : (List ((Int × Int) × Int))) => .ow ((eK (eP D.int D.int) D.int) a)) (f_told_by_corners [(eT D.int) x_sequence]) (r_told_by_corners x_sequence) := by
  unfold r_told_by_corners
  exact f_tl [.sh ((eT D.int) x_sequence), .no, .no] rfl (fun _ => .inr ⟨_, rfl⟩) (l_seq (E1 := fun (_v1 : Unit) => [.sh ((eT D.int) x_sequence), .no, .no]) (n_expr (fun (a : Unit) => .sh (eU a)) (fun (a : Unit) => [.sh ((eT D.int) x_sequence), .no, .no]) (u_call (a_p rfl (a_nil (z_call (e2 := [.sh ((eT D.int) x_sequence), .no, .no]) rfl rfl rfl (fun _ => rfl) (y_need_sequence (x_sequence))))))) fun _v1 => (l_ret (fun _ => [.sh ((eT D.int) x_sequence), .no, .no]) (fun _ => [.sh ((eT D.int) x_sequence), .no, .no]) (x_dc (ev := D.int) EncK.int2 (eP D.int D.int) (fun (c2 : (Int × Int)) => [.sh ((eT D.int) x_sequence), .sh (D.int c2.1), .sh (D.int c2.2)]) (fun (a : (Int × Int)) => .sh ((eP D.int D.int) a)) (fun (a : Int) => .sh (D.int a)) (w_src (fun (a : (List (Int × Int))) => .ow ((eL (eP D.int D.int)) a)) (fun (a : (List (Int × Int))) => [.sh ((eT D.int) x_sequence), .no, .no]) (u_call (a_p rfl (a_nil (z_call (e2 := [.sh ((eT D.int) x_sequence), .no, .no]) rfl rfl rfl (fun _ => rfl) (y_telling_by (x_sequence)))))) fun _ => rfl) rfl rfl (fun _ => rfl) (fun c2 => (t_p rfl)) (fun c2 => (x_p (fun (a : (Int × Int)) => .sh ((eP D.int D.int) a)) (c2.1, c2.2) (p_tup (q_cons rfl (q_cons rfl q_nil)) rfl (Nat.le_of_ble_eq_true rfl)))) (fun _ _ => rfl) (fun c2 => (u_call (a_p rfl (a_p rfl (a_p rfl (a_nil (z_call (e2 := [.sh ((eT D.int) x_sequence), .sh (D.int c2.1), .sh (D.int c2.2)]) rfl rfl rfl (fun _ => rfl) (y_corner_by (x_sequence) (c2.1) (c2.2))))))))) (fun _ _ => rfl) (fun _ => rfl) (fun _ => rfl)) (fun _ => rfl) (fun _ => rfl)))
def r_without_noughts (x_rows : (List ((List Int) × Int))) : R (List ((List Int) × Int)) :=
  (R.bind (R.ok x_rows) (R.dc (fun (c1 : ((List Int) × Int)) => (R.ok (!decide (c1.2 = (0 : Int))))) (fun (c1 : ((List Int) × Int)) => (R.ok c1.1)) (fun (c1 : ((List Int) × Int)) => (R.ok c1.2))))
theorem y_without_noughts (x_rows : (List ((List Int) × Int))) : Fs (fun (a : (List ((List Int) × Int))) => .ow ((eK (eT D.int) D.int) a)) (f_without_noughts [(eK (eT D.int) D.int) x_rows]) (r_without_noughts x_rows) := by
  unfold r_without_noughts
  exact f_tl [.sh ((eK (eT D.int) D.int) x_rows), .no, .no] rfl (fun _ => .inr ⟨_, rfl⟩) (l_ret (fun _ => [.sh ((eK (eT D.int) D.int) x_rows), .no, .no]) (fun _ => [.sh ((eK (eT D.int) D.int) x_rows), .no, .no]) (x_dc (ev := D.int) EncK.ints (eP (eT D.int) D.int) (fun (c1 : ((List Int) × Int)) => [.sh ((eK (eT D.int) D.int) x_rows), .sh ((eT D.int) c1.1), .sh (D.int c1.2)]) (fun (a : (List Int)) => .sh ((eT D.int) a)) (fun (a : Int) => .sh (D.int a)) (w_items (ek := (eT D.int)) (ev := D.int) x_rows rfl rfl) rfl rfl (fun _ => rfl) (fun c1 => (t_p (q_tB (q_2 rfl rfl (Enc.opNe (e := D.int) Enc.int (Nat.le_of_ble_eq_true rfl) c1.2 (0 : Int))) rfl))) (fun c1 => (x_p (fun (a : (List Int)) => .sh ((eT D.int) a)) c1.1 rfl)) (fun _ _ => rfl) (fun c1 => (x_p (fun (a : Int) => .sh (D.int a)) c1.2 rfl)) (fun _ _ => rfl) (fun _ => rfl) (fun _ => rfl)) (fun _ => rfl) (fun _ => rfl))
def r_cut_by (x_rows : (List ((List Int) × Int))) (x_at : Int) : R (List ((List Int) × Int)) :=
  (R.bind (R.ok ([] : (List ((List Int) × Int)))) fun (x_found_1 : (List ((List Int) × Int))) => (R.bind (R.bind (R.ok x_rows) fun l => R.fold (fun (s2 : ((List ((List Int) × Int)) × (Option (List Int)) × (Option Int) × (Option Int) × (Option Int) × (Option Int) × (Option Int) × (Option Int) × (Option Int) × (Option (List Int)))) (c3 : ((List Int) × Int)) => (R.bind (R.bind (R.get (atI c3.1 (x_at - (1 : Int)))) fun (v4 : Int) => (R.bind (R.get (atI c3.1 x_at)) fun (v5 : Int) => (R.ok (v4, v5)))) fun (p6 : (Int × Int)) => (R.bind (if (decide (p6.2 < p6.1)) = true then (R.ok ((1 : Int), p6.2, p6.1)) else (R.ok ((-(1 : Int)), p6.1, p6.2))) fun (p7 : (Int × Int × Int)) => (R.bind (R.bind (R.rng 0 (p7.2.2 - p7.2.1)) fun l => R.fold (fun (s8 : ((List ((List Int) × Int)) × (Option Int) × (Option (List Int)))) (c9 : Int) => (R.bind (R.bind (R.app (cutG c3.1 none (some (x_at - (1 : Int)))) [(p7.2.1 + c9), ((p7.2.2 - (1 : Int)) - c9)]) fun (v10 : (List Int)) => (R.app v10 (cutG c3.1 (some (x_at + (1 : Int))) none))) fun (x_late_11 : (List Int)) => (R.bind (R.bind (R.bind (R.mul p7.1 c3.2) fun (v12 : Int) => (R.ok (((getK s8.1 x_late_11).getD (0 : Int)) + v12))) fun (w13 : Int) => R.putK s8.1 x_late_11 w13) fun (l14 : (List ((List Int) × Int))) => .ok (l14, (some c9), (some x_late_11))))) l (s2.1, s2.2.2.2.2.2.2.2.2.1, s2.2.2.2.2.2.2.2.2.2)) fun (s15 : ((List ((List Int) × Int)) × (Option Int) × (Option (List Int)))) => .ok (s15.1, (some c3.1), (some c3.2), (some p6.1), (some p6.2), (some p7.1), (some p7.2.1), (some p7.2.2), s15.2.1, s15.2.2))))) l (x_found_1, (none : Option (List Int)), (none : Option Int), (none : Option Int), (none : Option Int), (none : Option Int), (none : Option Int), (none : Option Int), (none : Option Int), (none : Option (List Int)))) fun (s16 : ((List ((List Int) × Int)) × (Option (List Int)) × (Option Int) × (Option Int) × (Option Int) × (Option Int) × (Option Int) × (Option Int) × (Option Int) × (Option (List Int)))) => (r_without_noughts (s16.1))))
theorem y_cut_by (x_rows : (List ((List Int) × Int))) (x_at : Int) : Fs (fun (a : (List ((List Int) × Int))) => .ow ((eK (eT D.int) D.int) a)) (f_cut_by [(eK (eT D.int) D.int) x_rows, D.int x_at]) (r_cut_by x_rows x_at) := by
  unfold r_cut_by
  exact f_tl [.sh ((eK (eT D.int) D.int) x_rows), .sh (D.int x_at), .no, .no, .no, .no, .no, .no, .no, .no, .no, .no] rfl (fun _ => .inr ⟨_, rfl⟩) (l_seq (E1 := fun (x_found_1 : (List ((List Int) × Int))) => [.sh ((eK (eT D.int) D.int) x_rows), .sh (D.int x_at), .ow ((eK (eT D.int) D.int) x_found_1), .no, .no, .no, .no, .no, .no, .no, .no, .no]) (n_p (r := ([] : (List ((List Int) × Int)))) (q_set rfl rfl) rfl) fun x_found_1 => (l_seq (E1 := fun (s16 : ((List ((List Int) × Int)) × (Option (List Int)) × (Option Int) × (Option Int) × (Option Int) × (Option Int) × (Option Int) × (Option Int) × (Option Int) × (Option (List Int)))) => [.sh ((eK (eT D.int) D.int) x_rows), .sh (D.int x_at), .ow ((eK (eT D.int) D.int) s16.1), (oS (fun a => .sh ((eT D.int) a)) s16.2.1), (oS (fun a => .sh (D.int a)) s16.2.2.1), (oS (fun a => .sh (D.int a)) s16.2.2.2.1), (oS (fun a => .sh (D.int a)) s16.2.2.2.2.1), (oS (fun a => .sh (D.int a)) s16.2.2.2.2.2.1), (oS (fun a => .sh (D.int a)) s16.2.2.2.2.2.2.1), (oS (fun a => .sh (D.int a)) s16.2.2.2.2.2.2.2.1), (oS (fun a => .sh (D.int a)) s16.2.2.2.2.2.2.2.2.1), (oS (fun a => .sh ((eT D.int) a)) s16.2.2.2.2.2.2.2.2.2)]) (n_for (E := fun (s2 : ((List ((List Int) × Int)) × (Option (List Int)) × (Option Int) × (Option Int) × (Option Int) × (Option Int) × (Option Int) × (Option Int) × (Option Int) × (Option (List Int)))) => [.sh ((eK (eT D.int) D.int) x_rows), .sh (D.int x_at), .ow ((eK (eT D.int) D.int) s2.1), (oS (fun a => .sh ((eT D.int) a)) s2.2.1), (oS (fun a => .sh (D.int a)) s2.2.2.1), (oS (fun a => .sh (D.int a)) s2.2.2.2.1), (oS (fun a => .sh (D.int a)) s2.2.2.2.2.1), (oS (fun a => .sh (D.int a)) s2.2.2.2.2.2.1), (oS (fun a => .sh (D.int a)) s2.2.2.2.2.2.2.1), (oS (fun a => .sh (D.int a)) s2.2.2.2.2.2.2.2.1), (oS (fun a => .sh (D.int a)) s2.2.2.2.2.2.2.2.2.1), (oS (fun a => .sh ((eT D.int) a)) s2.2.2.2.2.2.2.2.2.2)]) (eP (eT D.int) D.int) (fun (s2 : ((List ((List Int) × Int)) × (Option (List Int)) × (Option Int) × (Option Int) × (Option Int) × (Option Int) × (Option Int) × (Option Int) × (Option Int) × (Option (List Int)))) (c3 : ((List Int) × Int)) => [.sh ((eK (eT D.int) D.int) x_rows), .sh (D.int x_at), .ow ((eK (eT D.int) D.int) s2.1), .sh ((eT D.int) c3.1), .sh (D.int c3.2), (oS (fun a => .sh (D.int a)) s2.2.2.2.1), (oS (fun a => .sh (D.int a)) s2.2.2.2.2.1), (oS (fun a => .sh (D.int a)) s2.2.2.2.2.2.1), (oS (fun a => .sh (D.int a)) s2.2.2.2.2.2.2.1), (oS (fun a => .sh (D.int a)) s2.2.2.2.2.2.2.2.1), (oS (fun a => .sh (D.int a)) s2.2.2.2.2.2.2.2.2.1), (oS (fun a => .sh ((eT D.int) a)) s2.2.2.2.2.2.2.2.2.2)]) (x_found_1, (none : Option (List Int)), (none : Option Int), (none : Option Int), (none : Option Int), (none : Option Int), (none : Option Int), (none : Option Int), (none : Option Int), (none : Option (List Int))) (w_items (ek := (eT D.int)) (ev := D.int) x_rows rfl rfl) rfl (fun _ _ => rfl) fun s2 c3 => (n_seq (E1 := fun (p6 : (Int × Int)) => [.sh ((eK (eT D.int) D.int) x_rows), .sh (D.int x_at), .ow ((eK (eT D.int) D.int) s2.1), .sh ((eT D.int) c3.1), .sh (D.int c3.2), .sh (D.int p6.1), .sh (D.int p6.2), (oS (fun a => .sh (D.int a)) s2.2.2.2.2.2.1), (oS (fun a => .sh (D.int a)) s2.2.2.2.2.2.2.1), (oS (fun a => .sh (D.int a)) s2.2.2.2.2.2.2.2.1), (oS (fun a => .sh (D.int a)) s2.2.2.2.2.2.2.2.2.1), (oS (fun a => .sh ((eT D.int) a)) s2.2.2.2.2.2.2.2.2.2)]) (u_par (a_v (fun (a : Int) => .sh (D.int a)) (fun (a : Int) => [.sh ((eK (eT D.int) D.int) x_rows), .sh (D.int x_at), .ow ((eK (eT D.int) D.int) s2.1), .sh ((eT D.int) c3.1), .sh (D.int c3.2), (oS (fun a => .sh (D.int a)) s2.2.2.2.1), (oS (fun a => .sh (D.int a)) s2.2.2.2.2.1), (oS (fun a => .sh (D.int a)) s2.2.2.2.2.2.1), (oS (fun a => .sh (D.int a)) s2.2.2.2.2.2.2.1), (oS (fun a => .sh (D.int a)) s2.2.2.2.2.2.2.2.1), (oS (fun a => .sh (D.int a)) s2.2.2.2.2.2.2.2.2.1), (oS (fun a => .sh ((eT D.int) a)) s2.2.2.2.2.2.2.2.2.2)]) (u_2 (k_p rfl (k_p (q_2 rfl rfl rfl) (z_get (atI c3.1 (x_at - (1 : Int))) (o_ixT D.int c3.1 (x_at - (1 : Int))) fun _ => rfl)))) fun v4 => (a_v (fun (a : Int) => .sh (D.int a)) (fun (a : Int) => [.sh ((eK (eT D.int) D.int) x_rows), .sh (D.int x_at), .ow ((eK (eT D.int) D.int) s2.1), .sh ((eT D.int) c3.1), .sh (D.int c3.2), (oS (fun a => .sh (D.int a)) s2.2.2.2.1), (oS (fun a => .sh (D.int a)) s2.2.2.2.2.1), (oS (fun a => .sh (D.int a)) s2.2.2.2.2.2.1), (oS (fun a => .sh (D.int a)) s2.2.2.2.2.2.2.1), (oS (fun a => .sh (D.int a)) s2.2.2.2.2.2.2.2.1), (oS (fun a => .sh (D.int a)) s2.2.2.2.2.2.2.2.2.1), (oS (fun a => .sh ((eT D.int) a)) s2.2.2.2.2.2.2.2.2.2)]) (u_2 (k_p rfl (k_p rfl (z_get (atI c3.1 x_at) (o_ixT D.int c3.1 x_at) fun _ => rfl)))) fun v5 => (a_nil (n_done (v4, v5) rfl))))) fun p6 => (n_seq (E1 := fun (p7 : (Int × Int × Int)) => [.sh ((eK (eT D.int) D.int) x_rows), .sh (D.int x_at), .ow ((eK (eT D.int) D.int) s2.1), .sh ((eT D.int) c3.1), .sh (D.int c3.2), .sh (D.int p6.1), .sh (D.int p6.2), .sh (D.int p7.1), .sh (D.int p7.2.1), .sh (D.int p7.2.2), (oS (fun a => .sh (D.int a)) s2.2.2.2.2.2.2.2.2.1), (oS (fun a => .sh ((eT D.int) a)) s2.2.2.2.2.2.2.2.2.2)]) (n_asg (fun (a : (Int × Int × Int)) => .sh ((eP3 D.int D.int D.int) a)) (fun (a : (Int × Int × Int)) => [.sh ((eK (eT D.int) D.int) x_rows), .sh (D.int x_at), .ow ((eK (eT D.int) D.int) s2.1), .sh ((eT D.int) c3.1), .sh (D.int c3.2), .sh (D.int p6.1), .sh (D.int p6.2), (oS (fun a => .sh (D.int a)) s2.2.2.2.2.2.1), (oS (fun a => .sh (D.int a)) s2.2.2.2.2.2.2.1), (oS (fun a => .sh (D.int a)) s2.2.2.2.2.2.2.2.1), (oS (fun a => .sh (D.int a)) s2.2.2.2.2.2.2.2.2.1), (oS (fun a => .sh ((eT D.int) a)) s2.2.2.2.2.2.2.2.2.2)]) (x_IfP (q_tB (q_2 rfl rfl rfl) rfl) (x_p (fun (a : (Int × Int × Int)) => .sh ((eP3 D.int D.int D.int) a)) ((1 : Int), p6.2, p6.1) (p_tup (q_cons rfl (q_cons rfl (q_cons rfl q_nil))) rfl (Nat.le_of_ble_eq_true rfl))) (x_p (fun (a : (Int × Int × Int)) => .sh ((eP3 D.int D.int D.int) a)) ((-(1 : Int)), p6.1, p6.2) (p_tup (q_cons (q_1 rfl rfl) (q_cons rfl (q_cons rfl q_nil))) rfl (Nat.le_of_ble_eq_true rfl)))) fun _ => rfl) fun p7 => (n_last (E1 := fun (s15 : ((List ((List Int) × Int)) × (Option Int) × (Option (List Int)))) => [.sh ((eK (eT D.int) D.int) x_rows), .sh (D.int x_at), .ow ((eK (eT D.int) D.int) s15.1), .sh ((eT D.int) c3.1), .sh (D.int c3.2), .sh (D.int p6.1), .sh (D.int p6.2), .sh (D.int p7.1), .sh (D.int p7.2.1), .sh (D.int p7.2.2), (oS (fun a => .sh (D.int a)) s15.2.1), (oS (fun a => .sh ((eT D.int) a)) s15.2.2)]) (fun (s15 : ((List ((List Int) × Int)) × (Option Int) × (Option (List Int)))) => (s15.1, (some c3.1), (some c3.2), (some p6.1), (some p6.2), (some p7.1), (some p7.2.1), (some p7.2.2), s15.2.1, s15.2.2)) (n_for (E := fun (s8 : ((List ((List Int) × Int)) × (Option Int) × (Option (List Int)))) => [.sh ((eK (eT D.int) D.int) x_rows), .sh (D.int x_at), .ow ((eK (eT D.int) D.int) s8.1), .sh ((eT D.int) c3.1), .sh (D.int c3.2), .sh (D.int p6.1), .sh (D.int p6.2), .sh (D.int p7.1), .sh (D.int p7.2.1), .sh (D.int p7.2.2), (oS (fun a => .sh (D.int a)) s8.2.1), (oS (fun a => .sh ((eT D.int) a)) s8.2.2)]) D.int (fun (s8 : ((List ((List Int) × Int)) × (Option Int) × (Option (List Int)))) (c9 : Int) => [.sh ((eK (eT D.int) D.int) x_rows), .sh (D.int x_at), .ow ((eK (eT D.int) D.int) s8.1), .sh ((eT D.int) c3.1), .sh (D.int c3.2), .sh (D.int p6.1), .sh (D.int p6.2), .sh (D.int p7.1), .sh (D.int p7.2.1), .sh (D.int p7.2.2), .sh (D.int c9), (oS (fun a => .sh ((eT D.int) a)) s8.2.2)]) (s2.1, s2.2.2.2.2.2.2.2.2.1, s2.2.2.2.2.2.2.2.2.2) (u_rng (a_p (q_2 rfl rfl rfl) (a_nil (g_rng1 rfl)))) rfl (fun _ _ => rfl) fun s8 c9 => (n_seq (E1 := fun (x_late_11 : (List Int)) => [.sh ((eK (eT D.int) D.int) x_rows), .sh (D.int x_at), .ow ((eK (eT D.int) D.int) s8.1), .sh ((eT D.int) c3.1), .sh (D.int c3.2), .sh (D.int p6.1), .sh (D.int p6.2), .sh (D.int p7.1), .sh (D.int p7.2.1), .sh (D.int p7.2.2), .sh (D.int c9), .sh ((eT D.int) x_late_11)]) (n_set (fun (a : (List Int)) => .sh ((eT D.int) a)) (fun (a : (List Int)) => [.sh ((eK (eT D.int) D.int) x_rows), .sh (D.int x_at), .ow ((eK (eT D.int) D.int) s8.1), .sh ((eT D.int) c3.1), .sh (D.int c3.2), .sh (D.int p6.1), .sh (D.int p6.2), .sh (D.int p7.1), .sh (D.int p7.2.1), .sh (D.int p7.2.2), .sh (D.int c9), (oS (fun a => .sh ((eT D.int) a)) s8.2.2)]) (u_2 (k_v (fun (a : (List Int)) => .sh ((eT D.int) a)) (fun (a : (List Int)) => [.sh ((eK (eT D.int) D.int) x_rows), .sh (D.int x_at), .ow ((eK (eT D.int) D.int) s8.1), .sh ((eT D.int) c3.1), .sh (D.int c3.2), .sh (D.int p6.1), .sh (D.int p6.2), .sh (D.int p7.1), .sh (D.int p7.2.1), .sh (D.int p7.2.2), .sh (D.int c9), (oS (fun a => .sh ((eT D.int) a)) s8.2.2)]) (u_2 (k_p (p_sl rfl rfl (kq_p (q_2 rfl rfl rfl)) (o_slT D.int c3.1 none (some (x_at - (1 : Int))))) (k_p (p_tup (q_cons (q_2 rfl rfl rfl) (q_cons (q_2 (q_2 rfl rfl rfl) rfl rfl) q_nil)) rfl (Nat.le_of_ble_eq_true rfl)) (z_appT D.int (cutG c3.1 none (some (x_at - (1 : Int)))) [(p7.2.1 + c9), ((p7.2.2 - (1 : Int)) - c9)] fun _ => rfl)))) fun v10 => (k_p (p_sl rfl (kq_p (q_2 rfl rfl rfl)) rfl (o_slT D.int c3.1 (some (x_at + (1 : Int))) none)) (z_appT D.int v10 (cutG c3.1 (some (x_at + (1 : Int))) none) fun _ => rfl)))) fun _ => rfl) fun x_late_11 => (n_last (E1 := fun (l14 : (List ((List Int) × Int))) => [.sh ((eK (eT D.int) D.int) x_rows), .sh (D.int x_at), .ow ((eK (eT D.int) D.int) l14), .sh ((eT D.int) c3.1), .sh (D.int c3.2), .sh (D.int p6.1), .sh (D.int p6.2), .sh (D.int p7.1), .sh (D.int p7.2.1), .sh (D.int p7.2.2), .sh (D.int c9), .sh ((eT D.int) x_late_11)]) (fun (l14 : (List ((List Int) × Int))) => (l14, (some c9), (some x_late_11))) (n_asgR (fun (a : Int) => .sh (D.int a)) (fun (a : Int) => [.sh ((eK (eT D.int) D.int) x_rows), .sh (D.int x_at), .ow ((eK (eT D.int) D.int) s8.1), .sh ((eT D.int) c3.1), .sh (D.int c3.2), .sh (D.int p6.1), .sh (D.int p6.2), .sh (D.int p7.1), .sh (D.int p7.2.1), .sh (D.int p7.2.2), .sh (D.int c9), .sh ((eT D.int) x_late_11)]) (u_2 (k_p (p_getE rfl rfl (q_cons rfl (q_cons rfl q_nil)) (o_getE EncK.ints s8.1 x_late_11 (0 : Int))) (k_v (fun (a : Int) => .sh (D.int a)) (fun (a : Int) => [.sh ((eK (eT D.int) D.int) x_rows), .sh (D.int x_at), .ow ((eK (eT D.int) D.int) s8.1), .sh ((eT D.int) c3.1), .sh (D.int c3.2), .sh (D.int p6.1), .sh (D.int p6.2), .sh (D.int p7.1), .sh (D.int p7.2.1), .sh (D.int p7.2.2), .sh (D.int c9), .sh ((eT D.int) x_late_11)]) (u_2 (k_p rfl (k_p rfl (z_mul p7.1 c3.2 fun _ => rfl)))) fun v12 => (z_ok (((getK s8.1 x_late_11).getD (0 : Int)) + v12) rfl rfl)))) fun w13 => z_putK (ev := D.int) (e2 := [.sh ((eK (eT D.int) D.int) x_rows), .sh (D.int x_at), .ow ((eK (eT D.int) D.int) s8.1), .sh ((eT D.int) c3.1), .sh (D.int c3.2), .sh (D.int p6.1), .sh (D.int p6.2), .sh (D.int p7.1), .sh (D.int p7.2.1), .sh (D.int p7.2.2), .sh (D.int c9), .sh ((eT D.int) x_late_11)]) EncK.ints s8.1 x_late_11 w13 rfl rfl rfl (fun _ => rfl)) fun _ => rfl))) fun _ => rfl)))) fun s16 => (l_ret (fun _ => [.sh ((eK (eT D.int) D.int) x_rows), .sh (D.int x_at), .sh ((eK (eT D.int) D.int) s16.1), (oS (fun a => .sh ((eT D.int) a)) s16.2.1), (oS (fun a => .sh (D.int a)) s16.2.2.1), (oS (fun a => .sh (D.int a)) s16.2.2.2.1), (oS (fun a => .sh (D.int a)) s16.2.2.2.2.1), (oS (fun a => .sh (D.int a)) s16.2.2.2.2.2.1), (oS (fun a => .sh (D.int a)) s16.2.2.2.2.2.2.1), (oS (fun a => .sh (D.int a)) s16.2.2.2.2.2.2.2.1), (oS (fun a => .sh (D.int a)) s16.2.2.2.2.2.2.2.2.1), (oS (fun a => .sh ((eT D.int) a)) s16.2.2.2.2.2.2.2.2.2)]) (fun _ => [.sh ((eK (eT D.int) D.int) x_rows), .sh (D.int x_at), .sh ((eK (eT D.int) D.int) s16.1), (oS (fun a => .sh ((eT D.int) a)) s16.2.1), (oS (fun a => .sh (D.int a)) s16.2.2.1), (oS (fun a => .sh (D.int a)) s16.2.2.2.1), (oS (fun a => .sh (D.int a)) s16.2.2.2.2.1), (oS (fun a => .sh (D.int a)) s16.2.2.2.2.2.1), (oS (fun a => .sh (D.int a)) s16.2.2.2.2.2.2.1), (oS (fun a => .sh (D.int a)) s16.2.2.2.2.2.2.2.1), (oS (fun a => .sh (D.int a)) s16.2.2.2.2.2.2.2.2.1), (oS (fun a => .sh ((eT D.int) a)) s16.2.2.2.2.2.2.2.2.2)]) (u_call (a_p rfl (a_nil (z_call (e2 := [.sh ((eK (eT D.int) D.int) x_rows), .sh (D.int x_at), .sh ((eK (eT D.int) D.int) s16.1), (oS (fun a => .sh ((eT D.int) a)) s16.2.1), (oS (fun a => .sh (D.int a)) s16.2.2.1), (oS (fun a => .sh (D.int a)) s16.2.2.2.1), (oS (fun a => .sh (D.int a)) s16.2.2.2.2.1), (oS (fun a => .sh (D.int a)) s16.2.2.2.2.2.1), (oS (fun a => .sh (D.int a)) s16.2.2.2.2.2.2.1), (oS (fun a => .sh (D.int a)) s16.2.2.2.2.2.2.2.1), (oS (fun a => .sh (D.int a)) s16.2.2.2.2.2.2.2.2.1), (oS (fun a => .sh ((eT D.int) a)) s16.2.2.2.2.2.2.2.2.2)]) rfl rfl rfl (fun _ => rfl) (y_without_noughts (s16.1)))))) (fun _ => rfl) (fun _ => rfl))))
def r_sum_by (x_sequence : (List Int)) : R (List ((List Int) × Int)) :=
  (R.bind (R.ok ((x_sequence.length : Int), x_sequence, ([] : List Int))) fun (p1 : (Int × (List Int) × (List Int))) => (R.bind (R.loop (fun (s2 : ((List Int) × (List Int) × (Option Int))) => (R.bind (R.rgd p1.1 (0 : Int)) fun (v3 : (List Int)) => (R.ok (!decide (s2.1 = v3))))) (fun (s2 : ((List Int) × (List Int) × (Option Int))) => (R.bind (R.bind (R.bind (R.rng (1 : Int) p1.1) (R.lc (fun (c4 : Int) => (R.bind (R.get (atI s2.1 (c4 - (1 : Int)))) fun (v5 : Int) => (R.bind (R.get (atI s2.1 c4)) fun (v6 : Int) => (R.ok (decide (v5 < v6)))))) (fun (c4 : Int) => (R.ok c4)))) fun (v7 : (List Int)) => (R.get (atI v7 (0 : Int)))) fun (x_at_8 : Int) => (R.bind (r_swapped (s2.1) (x_at_8)) fun (x_here_9 : (List Int)) => (R.bind (R.push s2.2.1 x_at_8) fun (l10 : (List Int)) => .ok (x_here_9, l10, (some x_at_8)))))) 64 (p1.2.1, p1.2.2, (none : Option Int))) fun (s11 : ((List Int) × (List Int) × (Option Int))) => (R.bind (R.bind (R.bind (R.bind (R.rng (1 : Int) (5 + (2 : Int))) (R.lcp (fun (c12 : Int) => true) (fun (c12 : Int) => (if (0 : Int) > (p1.1 - c12) then (0 : Int) else (p1.1 - c12))))) fun (v13 : (List Int)) => (R.ok v13)) fun (v14 : (List Int)) => R.bind (R.ok (1 : Int)) fun (v15 : Int) => .ok [(v14, v15)]) fun (x_rows_16 : (List ((List Int) × Int))) => (R.bind (R.bind (R.ok (List.reverse s11.2.1)) fun l => R.fold (fun (s17 : ((Option Int) × (List ((List Int) × Int)))) (c18 : Int) => (R.bind (r_cut_by (s17.2) (c18)) fun (x_rows_19 : (List ((List Int) × Int))) => .ok ((some c18), x_rows_19))) l (s11.2.2, x_rows_16)) fun (s20 : ((Option Int) × (List ((List Int) × Int)))) => (R.bind (R.ok s20.2) (R.dc (fun (c21 : ((List Int) × Int)) => (R.ok true)) (fun (c21 : ((List Int) × Int)) => (R.ok (cutG c21.1 none (some 5)))) (fun (c21 : ((List Int) × Int)) => (R.ok c21.2))))))))
theorem y_sum_by (x_sequence : (List Int)) : Fs (fun (a : (List ((List Int) × Int))) => .ow ((eK (eT D.int) D.int) a)) (f_sum_by [(eT D.int) x_sequence]) (r_sum_by x_sequence) := by
  unfold r_sum_by
  exact f_tl [.sh ((eT D.int) x_sequence), .no, .no, .no, .no, .no, .no, .no] rfl (fun _ => .inr ⟨_, rfl⟩) (l_seq (E1 := fun (p1 : (Int × (List Int) × (List Int))) => [.sh ((eT D.int) x_sequence), .sh (D.int p1.1), .sh ((eT D.int) p1.2.1), .ow ((eL D.int) p1.2.2), .no, .no, .no, .no]) (u_par3 (a_p (q_N (q_cons rfl q_nil) (o_lenT D.int x_sequence)) (a_p rfl (a_p (p_lst q_nil rfl (Nat.le_of_ble_eq_true rfl)) (a_nil (n_done ((x_sequence.length : Int), x_sequence, ([] : List Int)) rfl)))))) fun p1 => (l_seq (E1 := fun (s11 : ((List Int) × (List Int) × (Option Int))) => [.sh ((eT D.int) x_sequence), .sh (D.int p1.1), .sh ((eT D.int) s11.1), .ow ((eL D.int) s11.2.1), (oS (fun a => .sh (D.int a)) s11.2.2), .no, .no, .no]) (n_while0 (E := fun (s2 : ((List Int) × (List Int) × (Option Int))) => [.sh ((eT D.int) x_sequence), .sh (D.int p1.1), .sh ((eT D.int) s2.1), .ow ((eL D.int) s2.2.1), (oS (fun a => .sh (D.int a)) s2.2.2), .no, .no, .no]) (p1.2.1, p1.2.2, (none : Option Int)) rfl (fun s2 => (t_B (u_2 (k_p rfl (k_v (fun (a : (List Int)) => .sh ((eT D.int) a)) (fun (a : (List Int)) => [.sh ((eT D.int) x_sequence), .sh (D.int p1.1), .sh ((eT D.int) s2.1), .ow ((eL D.int) s2.2.1), (oS (fun a => .sh (D.int a)) s2.2.2), .no, .no, .no]) (u_trg3 (a_p rfl (a_p rfl (a_p (q_1 rfl rfl) (a_nil (z_trg3 rfl fun _ => rfl)))))) fun v3 => (z_ok (!decide (s2.1 = v3)) (Enc.opNe (e := (eT D.int)) (Enc.tup Enc.int) (Nat.le_of_ble_eq_true rfl) s2.1 v3) rfl)))))) (fun s2 => (n_seq (E1 := fun (x_at_8 : Int) => [.sh ((eT D.int) x_sequence), .sh (D.int p1.1), .sh ((eT D.int) s2.1), .ow ((eL D.int) s2.2.1), .sh (D.int x_at_8), .no, .no, .no]) (n_set (fun (a : Int) => .sh (D.int a)) (fun (a : Int) => [.sh ((eT D.int) x_sequence), .sh (D.int p1.1), .sh ((eT D.int) s2.1), .ow ((eL D.int) s2.2.1), (oS (fun a => .sh (D.int a)) s2.2.2), .no, .no, .no]) (u_2 (k_v (fun (a : (List Int)) => .ow ((eL D.int) a)) (fun (a : (List Int)) => [.sh ((eT D.int) x_sequence), .sh (D.int p1.1), .sh ((eT D.int) s2.1), .ow ((eL D.int) s2.2.1), (oS (fun a => .sh (D.int a)) s2.2.2), .no, .no, .no]) (x_lc D.int D.int (fun (c4 : Int) => [.sh ((eT D.int) x_sequence), .sh (D.int p1.1), .sh ((eT D.int) s2.1), .ow ((eL D.int) s2.2.1), .sh (D.int c4), .no, .no, .no]) (fun (a : Int) => .sh (D.int a)) (u_rng (a_p rfl (a_p rfl (a_nil (g_rng2 rfl))))) (by generalize s2.2.2 = o; cases o <;> rfl) rfl (fun _ => rfl) (fun c4 => (t_B (u_2 (k_v (fun (a : Int) => .sh (D.int a)) (fun (a : Int) => [.sh ((eT D.int) x_sequence), .sh (D.int p1.1), .sh ((eT D.int) s2.1), .ow ((eL D.int) s2.2.1), .sh (D.int c4), .no, .no, .no]) (u_2 (k_p rfl (k_p (q_2 rfl rfl rfl) (z_get (atI s2.1 (c4 - (1 : Int))) (o_ixT D.int s2.1 (c4 - (1 : Int))) fun _ => rfl)))) fun v5 => (k_v (fun (a : Int) => .sh (D.int a)) (fun (a : Int) => [.sh ((eT D.int) x_sequence), .sh (D.int p1.1), .sh ((eT D.int) s2.1), .ow ((eL D.int) s2.2.1), .sh (D.int c4), .no, .no, .no]) (u_2 (k_p rfl (k_p rfl (z_get (atI s2.1 c4) (o_ixT D.int s2.1 c4) fun _ => rfl)))) fun v6 => (z_ok (decide (v5 < v6)) rfl rfl)))))) (fun c4 => (x_p (fun (a : Int) => .sh (D.int a)) c4 rfl)) (fun _ _ => rfl) (fun _ => rfl) (fun _ => rfl)) fun v7 => (k_p rfl (z_get (atI v7 (0 : Int)) (o_ixL D.int v7 (0 : Int)) fun _ => rfl)))) fun _ => rfl) fun x_at_8 => (n_seq (E1 := fun (x_here_9 : (List Int)) => [.sh ((eT D.int) x_sequence), .sh (D.int p1.1), .sh ((eT D.int) x_here_9), .ow ((eL D.int) s2.2.1), .sh (D.int x_at_8), .no, .no, .no]) (n_set (fun (a : (List Int)) => .sh ((eT D.int) a)) (fun (a : (List Int)) => [.sh ((eT D.int) x_sequence), .sh (D.int p1.1), .sh ((eT D.int) s2.1), .ow ((eL D.int) s2.2.1), .sh (D.int x_at_8), .no, .no, .no]) (x_shr (eT D.int) (fun (a : (List Int)) => .sh ((eT D.int) a)) (fun (a : (List Int)) => [.sh ((eT D.int) x_sequence), .sh (D.int p1.1), .sh ((eT D.int) s2.1), .ow ((eL D.int) s2.2.1), .sh (D.int x_at_8), .no, .no, .no]) (u_call (a_p rfl (a_p rfl (a_nil (z_call (e2 := [.sh ((eT D.int) x_sequence), .sh (D.int p1.1), .sh ((eT D.int) s2.1), .ow ((eL D.int) s2.2.1), .sh (D.int x_at_8), .no, .no, .no]) rfl rfl rfl (fun _ => rfl) (y_swapped (s2.1) (x_at_8))))))) (fun _ => rfl)) fun _ => rfl) fun x_here_9 => (n_last (E1 := fun (l10 : (List Int)) => [.sh ((eT D.int) x_sequence), .sh (D.int p1.1), .sh ((eT D.int) x_here_9), .ow ((eL D.int) l10), .sh (D.int x_at_8), .no, .no, .no]) (fun (l10 : (List Int)) => (x_here_9, l10, (some x_at_8))) (n_lm rfl (a_p rfl (a_nil (n_append (e := D.int) (e2 := [.sh ((eT D.int) x_sequence), .sh (D.int p1.1), .sh ((eT D.int) x_here_9), .ow ((eL D.int) s2.2.1), .sh (D.int x_at_8), .no, .no, .no]) s2.2.1 x_at_8 rfl rfl fun _ => rfl)))) fun _ => rfl))))) fun s11 => (l_seq (E1 := fun (x_rows_16 : (List ((List Int) × Int))) => [.sh ((eT D.int) x_sequence), .sh (D.int p1.1), .sh ((eT D.int) s11.1), .ow ((eL D.int) s11.2.1), (oS (fun a => .sh (D.int a)) s11.2.2), .sh ((eK (eT D.int) D.int) x_rows_16), .no, .no]) (n_set (fun (a : (List ((List Int) × Int))) => .sh ((eK (eT D.int) D.int) a)) (fun (a : (List ((List Int) × Int))) => [.sh ((eT D.int) x_sequence), .sh (D.int p1.1), .sh ((eT D.int) s11.1), .ow ((eL D.int) s11.2.1), (oS (fun a => .sh (D.int a)) s11.2.2), .no, .no, .no]) (x_shr (eK (eT D.int) D.int) (fun (a : (List ((List Int) × Int))) => .ow ((eK (eT D.int) D.int) a)) (fun (a : (List ((List Int) × Int))) => [.sh ((eT D.int) x_sequence), .sh (D.int p1.1), .sh ((eT D.int) s11.1), .ow ((eL D.int) s11.2.1), (oS (fun a => .sh (D.int a)) s11.2.2), .no, .no, .no]) (x_disp1 (ev := D.int) EncK.ints (fun (a : (List Int)) => .sh ((eT D.int) a)) (fun (a : Int) => .sh (D.int a)) (u_N (a_v (fun (a : (List Int)) => .ow ((eL D.int) a)) (fun (a : (List Int)) => [.sh ((eT D.int) x_sequence), .sh (D.int p1.1), .sh ((eT D.int) s11.1), .ow ((eL D.int) s11.2.1), (oS (fun a => .sh (D.int a)) s11.2.2), .no, .no, .no]) (x_lcp (p := fun (c12 : Int) => true) (v := fun (c12 : Int) => (if (0 : Int) > (p1.1 - c12) then (0 : Int) else (p1.1 - c12))) (s := fun (c12 : Int) => (.sh (D.int (if (0 : Int) > (p1.1 - c12) then (0 : Int) else (p1.1 - c12))))) D.int D.int (fun (c12 : Int) => [.sh ((eT D.int) x_sequence), .sh (D.int p1.1), .sh ((eT D.int) s11.1), .ow ((eL D.int) s11.2.1), .sh (D.int c12), .no, .no, .no]) (u_rng (a_p rfl (a_p (q_2 rfl rfl rfl) (a_nil (g_rng2 rfl))))) (by generalize s11.2.2 = o; cases o <;> rfl) rfl (fun _ => rfl) (fun c12 => rfl) (fun c12 => (q_N (q_cons (q_2 rfl rfl rfl) (q_cons rfl q_nil)) rfl)) (fun _ => rfl) (fun _ => rfl) (fun _ => rfl)) fun v13 => (a_nil (z_ok v13 rfl rfl)))) (fun _ => rfl) (x_p (fun (a : Int) => .sh (D.int a)) (1 : Int) rfl) (fun _ => rfl) (fun _ => rfl)) (fun _ => rfl)) fun _ => rfl) fun x_rows_16 => (l_seq (E1 := fun (s20 : ((Option Int) × (List ((List Int) × Int)))) => [.sh ((eT D.int) x_sequence), .sh (D.int p1.1), .sh ((eT D.int) s11.1), .ow ((eL D.int) s11.2.1), (oS (fun a => .sh (D.int a)) s20.1), .sh ((eK (eT D.int) D.int) s20.2), .no, .no]) (n_for (E := fun (s17 : ((Option Int) × (List ((List Int) × Int)))) => [.sh ((eT D.int) x_sequence), .sh (D.int p1.1), .sh ((eT D.int) s11.1), .ow ((eL D.int) s11.2.1), (oS (fun a => .sh (D.int a)) s17.1), .sh ((eK (eT D.int) D.int) s17.2), .no, .no]) D.int (fun (s17 : ((Option Int) × (List ((List Int) × Int)))) (c18 : Int) => [.sh ((eT D.int) x_sequence), .sh (D.int p1.1), .sh ((eT D.int) s11.1), .ow ((eL D.int) s11.2.1), .sh (D.int c18), .sh ((eK (eT D.int) D.int) s17.2), .no, .no]) (s11.2.2, x_rows_16) (w_p (List.reverse s11.2.1) (src_p (q_1 rfl (o_revL D.int s11.2.1)) rfl)) rfl (fun _ _ => rfl) fun s17 c18 => (n_last (E1 := fun (x_rows_19 : (List ((List Int) × Int))) => [.sh ((eT D.int) x_sequence), .sh (D.int p1.1), .sh ((eT D.int) s11.1), .ow ((eL D.int) s11.2.1), .sh (D.int c18), .sh ((eK (eT D.int) D.int) x_rows_19), .no, .no]) (fun (x_rows_19 : (List ((List Int) × Int))) => ((some c18), x_rows_19)) (n_set (fun (a : (List ((List Int) × Int))) => .sh ((eK (eT D.int) D.int) a)) (fun (a : (List ((List Int) × Int))) => [.sh ((eT D.int) x_sequence), .sh (D.int p1.1), .sh ((eT D.int) s11.1), .ow ((eL D.int) s11.2.1), .sh (D.int c18), .sh ((eK (eT D.int) D.int) s17.2), .no, .no]) (x_shr (eK (eT D.int) D.int) (fun (a : (List ((List Int) × Int))) => .ow ((eK (eT D.int) D.int) a)) (fun (a : (List ((List Int) × Int))) => [.sh ((eT D.int) x_sequence), .sh (D.int p1.1), .sh ((eT D.int) s11.1), .ow ((eL D.int) s11.2.1), .sh (D.int c18), .sh ((eK (eT D.int) D.int) s17.2), .no, .no]) (u_call (a_p rfl (a_p rfl (a_nil (z_call (e2 := [.sh ((eT D.int) x_sequence), .sh (D.int p1.1), .sh ((eT D.int) s11.1), .ow ((eL D.int) s11.2.1), .sh (D.int c18), .sh ((eK (eT D.int) D.int) s17.2), .no, .no]) rfl rfl rfl (fun _ => rfl) (y_cut_by (s17.2) (c18))))))) (fun _ => rfl)) fun _ => rfl) fun _ => rfl)) fun s20 => (l_ret (fun _ => [.sh ((eT D.int) x_sequence), .sh (D.int p1.1), .sh ((eT D.int) s11.1), .ow ((eL D.int) s11.2.1), (oS (fun a => .sh (D.int a)) s20.1), .sh ((eK (eT D.int) D.int) s20.2), .no, .no]) (fun _ => [.sh ((eT D.int) x_sequence), .sh (D.int p1.1), .sh ((eT D.int) s11.1), .ow ((eL D.int) s11.2.1), (oS (fun a => .sh (D.int a)) s20.1), .sh ((eK (eT D.int) D.int) s20.2), .no, .no]) (x_dc (ev := D.int) EncK.ints (eP (eT D.int) D.int) (fun (c21 : ((List Int) × Int)) => [.sh ((eT D.int) x_sequence), .sh (D.int p1.1), .sh ((eT D.int) s11.1), .ow ((eL D.int) s11.2.1), (oS (fun a => .sh (D.int a)) s20.1), .sh ((eK (eT D.int) D.int) s20.2), .sh ((eT D.int) c21.1), .sh (D.int c21.2)]) (fun (a : (List Int)) => .sh ((eT D.int) a)) (fun (a : Int) => .sh (D.int a)) (w_items (ek := (eT D.int)) (ev := D.int) s20.2 rfl rfl) rfl rfl (fun _ => rfl) (fun c21 => (t_p rfl)) (fun c21 => (x_p (fun (a : (List Int)) => .sh ((eT D.int) a)) (cutG c21.1 none (some 5)) (p_sl rfl rfl (kq_p rfl) (o_slT D.int c21.1 none (some 5))))) (fun _ _ => rfl) (fun c21 => (x_p (fun (a : Int) => .sh (D.int a)) c21.2 rfl)) (fun _ _ => rfl) (fun _ => rfl) (fun _ => rfl)) (fun _ => rfl) (fun _ => rfl))))))
def r_sum_of (x_sequence : (List Int)) : R (List ((List Int) × Int)) :=
  (R.bind (r_need_sequence (x_sequence)) fun (_v1 : Unit) => (r_sum_by (x_sequence)))
theorem y_sum_of (x_sequence : (List Int)) : Fs (fun (a : (List ((List Int) × Int))) => .ow ((eK (eT D.int) D.int) a)) (f_sum_of [(eT D.int) x_sequence]) (r_sum_of x_sequence) := by
  unfold r_sum_of
  exact f_tl [.sh ((eT D.int) x_sequence)] rfl (fun _ => .inr ⟨_, rfl⟩) (l_seq (E1 := fun (_v1 : Unit) => [.sh ((eT D.int) x_sequence)]) (n_expr (fun (a : Unit) => .sh (eU a)) (fun (a : Unit) => [.sh ((eT D.int) x_sequence)]) (u_call (a_p rfl (a_nil (z_call (e2 := [.sh ((eT D.int) x_sequence)]) rfl rfl rfl (fun _ => rfl) (y_need_sequence (x_sequence))))))) fun _v1 => (l_ret (fun _ => [.sh ((eT D.int) x_sequence)]) (fun _ => [.sh ((eT D.int) x_sequence)]) (u_call (a_p rfl (a_nil (z_call (e2 := [.sh ((eT D.int) x_sequence)]) rfl rfl rfl (fun _ => rfl) (y_sum_by (x_sequence)))))) (fun _ => rfl) (fun _ => rfl)))
def r__law_pick (x_some : (List Int)) : R Int :=
  (R.bind (R.draw ((x_some.length : Int))) fun (v1 : Int) => (R.get (atI x_some v1)))
theorem y__law_pick (x_some : (List Int)) : Fs (fun (a : Int) => .sh (D.int a)) (f__law_pick [(eL D.int) x_some]) (r__law_pick x_some) := by
  unfold r__law_pick
  exact f_tl [.tok, .sh ((eL D.int) x_some)] rfl (fun _ => .inl ⟨_, rfl⟩) (l_ret (fun _ => [.tok, .sh ((eL D.int) x_some)]) (fun _ => [.tok, .sh ((eL D.int) x_some)]) (u_2 (k_p rfl (k_v (fun (a : Int) => .sh (D.int a)) (fun (a : Int) => [.tok, .sh ((eL D.int) x_some)]) (u_call (a_p rfl (a_p (q_N (q_cons rfl q_nil) (o_lenL D.int x_some)) (a_nil (z_callD (e2 := [.tok, .sh ((eL D.int) x_some)]) rfl rfl rfl rfl (fun _ => rfl) (take_sm ((x_some.length : Int)))))))) fun v1 => (z_get (atI x_some v1) (o_ixL D.int x_some v1) fun _ => rfl)))) (fun _ => rfl) (fun _ => rfl))
def r__law_shuffled (x_some : (List Int)) : R (List Int) :=
  (R.bind (R.ok (x_some, ([] : List Int))) fun (p1 : ((List Int) × (List Int))) => (R.bind (R.loop (fun (s2 : ((List Int) × (List Int))) => (R.ok (!decide (s2.1 = ([] : List Int))))) (fun (s2 : ((List Int) × (List Int))) => (R.bind (R.bind (R.bind (R.draw ((s2.1.length : Int))) fun (v3 : Int) => (R.popAt s2.1 v3)) fun (v4 : (Int × (List Int))) => (R.bind (R.push s2.2 v4.1) fun l => .ok (l, v4.2))) fun (l5 : ((List Int) × (List Int))) => .ok (l5.2, l5.1))) 64 (p1.1, p1.2)) fun (s6 : ((List Int) × (List Int))) => (R.ok s6.2)))
theorem y__law_shuffled (x_some : (List Int)) : Fs (fun (a : (List Int)) => .ow ((eL D.int) a)) (f__law_shuffled [(eL D.int) x_some]) (r__law_shuffled x_some) := by
  unfold r__law_shuffled
  exact f_tl [.tok, .sh ((eL D.int) x_some), .no, .no] rfl (fun _ => .inr ⟨_, rfl⟩) (l_seq (E1 := fun (p1 : ((List Int) × (List Int))) => [.tok, .sh ((eL D.int) x_some), .ow ((eL D.int) p1.1), .ow ((eL D.int) p1.2)]) (u_par (a_p (q_N (q_cons rfl q_nil) rfl) (a_p (p_lst q_nil rfl (Nat.le_of_ble_eq_true rfl)) (a_nil (n_done (x_some, ([] : List Int)) rfl))))) fun p1 => (l_seq (E1 := fun (s6 : ((List Int) × (List Int))) => [.tok, .sh ((eL D.int) x_some), .ow ((eL D.int) s6.1), .ow ((eL D.int) s6.2)]) (n_while0 (E := fun (s2 : ((List Int) × (List Int))) => [.tok, .sh ((eL D.int) x_some), .ow ((eL D.int) s2.1), .ow ((eL D.int) s2.2)]) (p1.1, p1.2) rfl (fun s2 => (t_p (q_tB (q_2 rfl (p_lst q_nil rfl (Nat.le_of_ble_eq_true rfl)) (Enc.opNe (e := (eL D.int)) (Enc.lst Enc.int) (Nat.le_of_ble_eq_true rfl) s2.1 ([] : List Int))) rfl))) (fun s2 => (n_last (E1 := fun (l5 : ((List Int) × (List Int))) => [.tok, .sh ((eL D.int) x_some), .ow ((eL D.int) l5.2), .ow ((eL D.int) l5.1)]) (fun (l5 : ((List Int) × (List Int))) => (l5.2, l5.1)) (n_lm rfl (a_v (fun (a : (Int × (List Int))) => .sh (D.int a.1)) (fun (a : (Int × (List Int))) => [.tok, .sh ((eL D.int) x_some), .ow ((eL D.int) a.2), .ow ((eL D.int) s2.2)]) (u_lm rfl (a_v (fun (a : Int) => .sh (D.int a)) (fun (a : Int) => [.tok, .sh ((eL D.int) x_some), .ow ((eL D.int) s2.1), .ow ((eL D.int) s2.2)]) (u_call (a_p rfl (a_p (q_N (q_cons rfl q_nil) (o_lenL D.int s2.1)) (a_nil (z_callD (e2 := [.tok, .sh ((eL D.int) x_some), .ow ((eL D.int) s2.1), .ow ((eL D.int) s2.2)]) rfl rfl rfl rfl (fun _ => rfl) (take_sm ((s2.1.length : Int)))))))) fun v3 => (a_nil (z_popAt (e := D.int) (e2 := [.tok, .sh ((eL D.int) x_some), .ow ((eL D.int) s2.1), .ow ((eL D.int) s2.2)]) s2.1 v3 rfl rfl fun _ => rfl)))) fun v4 => (a_nil (n_appendF (e := D.int) (e2 := [.tok, .sh ((eL D.int) x_some), .ow ((eL D.int) v4.2), .ow ((eL D.int) s2.2)]) (fun l => (l, v4.2)) s2.2 v4.1 rfl rfl fun _ => rfl)))) fun _ => rfl))) fun s6 => (l_retP s6.2 rfl rfl rfl)))
def r__law_sequence (x_wires : Int) : R (List Int) :=
  (R.bind (R.bind (R.rgl (1 : Int) (x_wires + (1 : Int))) fun (v1 : (List Int)) => (r__law_shuffled (v1))) fun (v2 : (List Int)) => (R.ok v2))
theorem y__law_sequence (x_wires : Int) : Fs (fun (a : (List Int)) => .sh ((eT D.int) a)) (f__law_sequence [D.int x_wires]) (r__law_sequence x_wires) := by
  unfold r__law_sequence
  exact f_tl [.tok, .sh (D.int x_wires)] rfl (fun _ => .inl ⟨_, rfl⟩) (l_ret (fun _ => [.tok, .sh (D.int x_wires)]) (fun _ => [.tok, .sh (D.int x_wires)]) (u_N (a_v (fun (a : (List Int)) => .ow ((eL D.int) a)) (fun (a : (List Int)) => [.tok, .sh (D.int x_wires)]) (u_call (a_p rfl (a_v (fun (a : (List Int)) => .ow ((eL D.int) a)) (fun (a : (List Int)) => [.tok, .sh (D.int x_wires)]) (u_rg2 (k_p rfl (k_p (q_2 rfl rfl rfl) (z_rg2 rfl rfl (fun _ => rfl) (fun _ => rfl))))) fun v1 => (a_nil (z_callD (e2 := [.tok, .sh (D.int x_wires)]) rfl rfl rfl rfl (fun _ => rfl) (y__law_shuffled (v1))))))) fun v2 => (a_nil (z_ok v2 rfl rfl)))) (fun _ => rfl) (fun _ => rfl))
def r__law_near_sequence (x_sequence : (List Int)) : R (List Int) :=
  (R.bind (R.bind (R.draw ((5 : Int))) fun (v1 : Int) => (R.ok (x_sequence, v1))) fun (p2 : ((List Int) × Int)) => (R.bind (R.bind (R.rng 0 ((1 : Int) + (p2.2 / (2 : Int)))) fun l => R.fold (fun (s3 : ((List Int) × (Option Int) × (Option Int) × (Option Int))) (c4 : Int) => (R.bind (R.bind (R.draw ((s3.1.length : Int))) fun (v5 : Int) => (R.bind (R.draw ((s3.1.length : Int))) fun (v6 : Int) => (R.ok (v5, v6)))) fun (p7 : (Int × Int)) => (R.bind (R.bind (R.bind (R.get (atI s3.1 p7.2)) fun (v8 : Int) => (R.bind (R.get (atI s3.1 p7.1)) fun (v9 : Int) => (R.ok (v8, v9)))) fun (w10 : (Int × Int)) => R.bind (R.get (setL s3.1 p7.1 w10.1)) fun l => R.get (setL l p7.2 w10.2)) fun (l11 : (List Int)) => .ok (l11, (some c4), (some p7.1), (some p7.2))))) l (p2.1, (none : Option Int), (none : Option Int), (none : Option Int))) fun (s12 : ((List Int) × (Option Int) × (Option Int) × (Option Int))) => (if (decide (p2.2 < (4 : Int))) = true then (R.ok s12.1) else (r__law_sequence ((s12.1.length : Int))))))
theorem y__law_near_sequence (x_sequence : (List Int)) : Fs (fun (a : (List Int)) => .sh ((eT D.int) a)) (f__law_near_sequence [(eT D.int) x_sequence]) (r__law_near_sequence x_sequence) := by
  unfold r__law_near_sequence
  exact f_tl [.tok, .sh ((eT D.int) x_sequence), .no, .no, .no, .no, .no] rfl (fun _ => .inl ⟨_, rfl⟩) (l_seq (E1 := fun (p2 : ((List Int) × Int)) => [.tok, .sh ((eT D.int) x_sequence), .ow ((eL D.int) p2.1), .sh (D.int p2.2), .no, .no, .no]) (u_par (a_p (q_N (q_cons rfl q_nil) rfl) (a_v (fun (a : Int) => .sh (D.int a)) (fun (a : Int) => [.tok, .sh ((eT D.int) x_sequence), .no, .no, .no, .no, .no]) (u_call (a_p rfl (a_p rfl (a_nil (z_callD (e2 := [.tok, .sh ((eT D.int) x_sequence), .no, .no, .no, .no, .no]) rfl rfl rfl rfl (fun _ => rfl) (take_sm ((5 : Int)))))))) fun v1 => (a_nil (n_done (x_sequence, v1) rfl))))) fun p2 => (l_seq (E1 := fun (s12 : ((List Int) × (Option Int) × (Option Int) × (Option Int))) => [.tok, .sh ((eT D.int) x_sequence), .ow ((eL D.int) s12.1), .sh (D.int p2.2), (oS (fun a => .sh (D.int a)) s12.2.1), (oS (fun a => .sh (D.int a)) s12.2.2.1), (oS (fun a => .sh (D.int a)) s12.2.2.2)]) (n_for (E := fun (s3 : ((List Int) × (Option Int) × (Option Int) × (Option Int))) => [.tok, .sh ((eT D.int) x_sequence), .ow ((eL D.int) s3.1), .sh (D.int p2.2), (oS (fun a => .sh (D.int a)) s3.2.1), (oS (fun a => .sh (D.int a)) s3.2.2.1), (oS (fun a => .sh (D.int a)) s3.2.2.2)]) D.int (fun (s3 : ((List Int) × (Option Int) × (Option Int) × (Option Int))) (c4 : Int) => [.tok, .sh ((eT D.int) x_sequence), .ow ((eL D.int) s3.1), .sh (D.int p2.2), .sh (D.int c4), (oS (fun a => .sh (D.int a)) s3.2.2.1), (oS (fun a => .sh (D.int a)) s3.2.2.2)]) (p2.1, (none : Option Int), (none : Option Int), (none : Option Int)) (u_rng (a_p (q_2 rfl (q_2 rfl rfl (o_fdiv p2.2 (2 : Int) (by decide))) rfl) (a_nil (g_rng1 rfl)))) rfl (fun _ _ => rfl) fun s3 c4 => (n_seq (E1 := fun (p7 : (Int × Int)) => [.tok, .sh ((eT D.int) x_sequence), .ow ((eL D.int) s3.1), .sh (D.int p2.2), .sh (D.int c4), .sh (D.int p7.1), .sh (D.int p7.2)]) (u_par (a_v (fun (a : Int) => .sh (D.int a)) (fun (a : Int) => [.tok, .sh ((eT D.int) x_sequence), .ow ((eL D.int) s3.1), .sh (D.int p2.2), .sh (D.int c4), (oS (fun a => .sh (D.int a)) s3.2.2.1), (oS (fun a => .sh (D.int a)) s3.2.2.2)]) (u_call (a_p rfl (a_p (q_N (q_cons rfl q_nil) (o_lenL D.int s3.1)) (a_nil (z_callD (e2 := [.tok, .sh ((eT D.int) x_sequence), .ow ((eL D.int) s3.1), .sh (D.int p2.2), .sh (D.int c4), (oS (fun a => .sh (D.int a)) s3.2.2.1), (oS (fun a => .sh (D.int a)) s3.2.2.2)]) rfl rfl rfl rfl (fun _ => rfl) (take_sm ((s3.1.length : Int)))))))) fun v5 => (a_v (fun (a : Int) => .sh (D.int a)) (fun (a : Int) => [.tok, .sh ((eT D.int) x_sequence), .ow ((eL D.int) s3.1), .sh (D.int p2.2), .sh (D.int c4), (oS (fun a => .sh (D.int a)) s3.2.2.1), (oS (fun a => .sh (D.int a)) s3.2.2.2)]) (u_call (a_p rfl (a_p (q_N (q_cons rfl q_nil) (o_lenL D.int s3.1)) (a_nil (z_callD (e2 := [.tok, .sh ((eT D.int) x_sequence), .ow ((eL D.int) s3.1), .sh (D.int p2.2), .sh (D.int c4), (oS (fun a => .sh (D.int a)) s3.2.2.1), (oS (fun a => .sh (D.int a)) s3.2.2.2)]) rfl rfl rfl rfl (fun _ => rfl) (take_sm ((s3.1.length : Int)))))))) fun v6 => (a_nil (n_done (v5, v6) rfl))))) fun p7 => (n_last (E1 := fun (l11 : (List Int)) => [.tok, .sh ((eT D.int) x_sequence), .ow ((eL D.int) l11), .sh (D.int p2.2), .sh (D.int c4), .sh (D.int p7.1), .sh (D.int p7.2)]) (fun (l11 : (List Int)) => (l11, (some c4), (some p7.1), (some p7.2))) (n_asgR (fun (a : (Int × Int)) => .sh ((eP D.int D.int) a)) (fun (a : (Int × Int)) => [.tok, .sh ((eT D.int) x_sequence), .ow ((eL D.int) s3.1), .sh (D.int p2.2), .sh (D.int c4), .sh (D.int p7.1), .sh (D.int p7.2)]) (u_tup (a_v (fun (a : Int) => .sh (D.int a)) (fun (a : Int) => [.tok, .sh ((eT D.int) x_sequence), .ow ((eL D.int) s3.1), .sh (D.int p2.2), .sh (D.int c4), .sh (D.int p7.1), .sh (D.int p7.2)]) (u_2 (k_p rfl (k_p rfl (z_get (atI s3.1 p7.2) (o_ixL D.int s3.1 p7.2) fun _ => rfl)))) fun v8 => (a_v (fun (a : Int) => .sh (D.int a)) (fun (a : Int) => [.tok, .sh ((eT D.int) x_sequence), .ow ((eL D.int) s3.1), .sh (D.int p2.2), .sh (D.int c4), .sh (D.int p7.1), .sh (D.int p7.2)]) (u_2 (k_p rfl (k_p rfl (z_get (atI s3.1 p7.1) (o_ixL D.int s3.1 p7.1) fun _ => rfl)))) fun v9 => (a_nil (z_seq (e2 := [.tok, .sh ((eT D.int) x_sequence), .ow ((eL D.int) s3.1), .sh (D.int p2.2), .sh (D.int c4), .sh (D.int p7.1), .sh (D.int p7.2)]) (v8, v9) rfl (Nat.le_of_ble_eq_true rfl) rfl rfl))))) fun w10 => z_at2 (e := D.int) (e2 := [.tok, .sh ((eT D.int) x_sequence), .ow ((eL D.int) s3.1), .sh (D.int p2.2), .sh (D.int c4), .sh (D.int p7.1), .sh (D.int p7.2)]) s3.1 p7.1 p7.2 w10.1 w10.2 rfl rfl rfl (fun _ => rfl) (fun _ => rfl) (fun _ => rfl) (fun _ _ => rfl)) fun _ => rfl))) fun s12 => (l_ret (fun _ => [.tok, .sh ((eT D.int) x_sequence), .ow ((eL D.int) s12.1), .sh (D.int p2.2), (oS (fun a => .sh (D.int a)) s12.2.1), (oS (fun a => .sh (D.int a)) s12.2.2.1), (oS (fun a => .sh (D.int a)) s12.2.2.2)]) (fun _ => [.tok, .sh ((eT D.int) x_sequence), .ow ((eL D.int) s12.1), .sh (D.int p2.2), (oS (fun a => .sh (D.int a)) s12.2.1), (oS (fun a => .sh (D.int a)) s12.2.2.1), (oS (fun a => .sh (D.int a)) s12.2.2.2)]) (x_IfP (q_tB (q_2 rfl rfl rfl) rfl) (x_p (fun (a : (List Int)) => .sh ((eT D.int) a)) s12.1 (q_N (q_cons rfl q_nil) rfl)) (u_call (a_p rfl (a_p (q_N (q_cons rfl q_nil) (o_lenL D.int s12.1)) (a_nil (z_callD (e2 := [.tok, .sh ((eT D.int) x_sequence), .ow ((eL D.int) s12.1), .sh (D.int p2.2), (oS (fun a => .sh (D.int a)) s12.2.1), (oS (fun a => .sh (D.int a)) s12.2.2.1), (oS (fun a => .sh (D.int a)) s12.2.2.2)]) rfl rfl rfl rfl (fun _ => rfl) (y__law_sequence ((s12.1.length : Int))))))))) (fun _ => rfl) (fun _ => rfl))))
def r__law_swapped (x_sequence : (List Int)) (x_at : Int) : R (List Int) :=
  (R.bind (R.ok x_sequence) fun (x_line_1 : (List Int)) => (R.bind (R.bind (R.bind (R.get (atI x_line_1 x_at)) fun (v2 : Int) => (R.bind (R.get (atI x_line_1 (x_at - (1 : Int)))) fun (v3 : Int) => (R.ok (v2, v3)))) fun (w4 : (Int × Int)) => R.bind (R.get (setL x_line_1 (x_at - (1 : Int)) w4.1)) fun l => R.get (setL l x_at w4.2)) fun (l5 : (List Int)) => (R.ok l5)))
theorem y__law_swapped (x_sequence : (List Int)) (x_at : Int) : Fs (fun (a : (List Int)) => .sh ((eT D.int) a)) (f__law_swapped [(eT D.int) x_sequence, D.int x_at]) (r__law_swapped x_sequence x_at) := by
  unfold r__law_swapped
  exact f_tl [.sh ((eT D.int) x_sequence), .sh (D.int x_at), .no] rfl (fun _ => .inl ⟨_, rfl⟩) (l_seq (E1 := fun (x_line_1 : (List Int)) => [.sh ((eT D.int) x_sequence), .sh (D.int x_at), .ow ((eL D.int) x_line_1)]) (n_p (r := x_sequence) (q_set (q_N (q_cons rfl q_nil) rfl) rfl) rfl) fun x_line_1 => (l_seq (E1 := fun (l5 : (List Int)) => [.sh ((eT D.int) x_sequence), .sh (D.int x_at), .ow ((eL D.int) l5)]) (n_asgR (fun (a : (Int × Int)) => .sh ((eP D.int D.int) a)) (fun (a : (Int × Int)) => [.sh ((eT D.int) x_sequence), .sh (D.int x_at), .ow ((eL D.int) x_line_1)]) (u_tup (a_v (fun (a : Int) => .sh (D.int a)) (fun (a : Int) => [.sh ((eT D.int) x_sequence), .sh (D.int x_at), .ow ((eL D.int) x_line_1)]) (u_2 (k_p rfl (k_p rfl (z_get (atI x_line_1 x_at) (o_ixL D.int x_line_1 x_at) fun _ => rfl)))) fun v2 => (a_v (fun (a : Int) => .sh (D.int a)) (fun (a : Int) => [.sh ((eT D.int) x_sequence), .sh (D.int x_at), .ow ((eL D.int) x_line_1)]) (u_2 (k_p rfl (k_p (q_2 rfl rfl rfl) (z_get (atI x_line_1 (x_at - (1 : Int))) (o_ixL D.int x_line_1 (x_at - (1 : Int))) fun _ => rfl)))) fun v3 => (a_nil (z_seq (e2 := [.sh ((eT D.int) x_sequence), .sh (D.int x_at), .ow ((eL D.int) x_line_1)]) (v2, v3) rfl (Nat.le_of_ble_eq_true rfl) rfl rfl))))) fun w4 => z_at2 (e := D.int) (e2 := [.sh ((eT D.int) x_sequence), .sh (D.int x_at), .ow ((eL D.int) x_line_1)]) x_line_1 (x_at - (1 : Int)) x_at w4.1 w4.2 rfl (q_2 rfl rfl rfl) rfl (fun _ => rfl) (fun _ => rfl) (fun _ => rfl) (fun _ _ => rfl)) fun l5 => (l_retP l5 (q_N (q_cons rfl q_nil) rfl) rfl rfl)))
def r__law_kept (x_found : (List ((List Int) × Int))) : R (List ((List Int) × Int)) :=
  (R.bind (R.bind (R.ok (List.map (fun p => p.1) x_found)) (R.lc (fun (c1 : (List Int)) => (R.bind (R.get (getK x_found c1)) fun (v2 : Int) => (R.ok (!decide (v2 = (0 : Int)))))) (fun (c1 : (List Int)) => (R.bind (R.get (getK x_found c1)) fun (v3 : Int) => (R.ok (c1, v3)))))) fun (v4 : (List ((List Int) × Int))) => (R.dict v4))
theorem y__law_kept (x_found : (List ((List Int) × Int))) : Fs (fun (a : (List ((List Int) × Int))) => .ow ((eK (eT D.int) D.int) a)) (f__law_kept [(eK (eT D.int) D.int) x_found]) (r__law_kept x_found) := by
  unfold r__law_kept
  exact f_tl [.sh ((eK (eT D.int) D.int) x_found), .no] rfl (fun _ => .inr ⟨_, rfl⟩) (l_ret (fun _ => [.sh ((eK (eT D.int) D.int) x_found), .no]) (fun _ => [.sh ((eK (eT D.int) D.int) x_found), .no]) (u_N (a_v (fun (a : (List ((List Int) × Int))) => .ow ((eL (eP (eT D.int) D.int)) a)) (fun (a : (List ((List Int) × Int))) => [.sh ((eK (eT D.int) D.int) x_found), .no]) (x_lc (eT D.int) (eP (eT D.int) D.int) (fun (c1 : (List Int)) => [.sh ((eK (eT D.int) D.int) x_found), .sh ((eT D.int) c1)]) (fun (a : ((List Int) × Int)) => .sh ((eP (eT D.int) D.int) a)) (w_keys (ek := (eT D.int)) (ev := D.int) x_found rfl rfl) rfl rfl (fun _ => rfl) (fun c1 => (t_B (u_2 (k_v (fun (a : Int) => .sh (D.int a)) (fun (a : Int) => [.sh ((eK (eT D.int) D.int) x_found), .sh ((eT D.int) c1)]) (u_2 (k_p rfl (k_p rfl (z_get (getK x_found c1) (o_ixA EncK.ints x_found c1) fun _ => rfl)))) fun v2 => (k_p rfl (z_ok (!decide (v2 = (0 : Int))) (Enc.opNe (e := D.int) Enc.int (Nat.le_of_ble_eq_true rfl) v2 (0 : Int)) rfl)))))) (fun c1 => (u_tup (a_p rfl (a_v (fun (a : Int) => .sh (D.int a)) (fun (a : Int) => [.sh ((eK (eT D.int) D.int) x_found), .sh ((eT D.int) c1)]) (u_2 (k_p rfl (k_p rfl (z_get (getK x_found c1) (o_ixA EncK.ints x_found c1) fun _ => rfl)))) fun v3 => (a_nil (z_seq (e2 := [.sh ((eK (eT D.int) D.int) x_found), .sh ((eT D.int) c1)]) (c1, v3) rfl (Nat.le_of_ble_eq_true rfl) rfl rfl)))))) (fun _ _ => rfl) (fun _ => rfl) (fun _ => rfl)) fun v4 => (a_nil (z_dict (ev := D.int) EncK.ints v4 fun _ => rfl)))) (fun _ => rfl) (fun _ => rfl))
def r__law_cut (x_polynomial : (List ((List Int) × Int))) (x_at : Int) : R (List ((List Int) × Int)) :=
  (R.bind (R.ok ([] : (List ((List Int) × Int)))) fun (x_found_1 : (List ((List Int) × Int))) => (R.bind (R.bind (R.ok (List.map (fun p => p.1) x_polynomial)) fun l => R.fold (fun (s2 : ((List ((List Int) × Int)) × (Option (List Int)) × (Option Int) × (Option Int) × (Option Int) × (Option Int) × (Option (List Int)))) (c3 : (List Int)) => (R.bind (R.bind (R.bind (R.get (atI c3 (x_at - (1 : Int)))) fun (v4 : Int) => (R.bind (R.get (atI c3 x_at)) fun (v5 : Int) => (R.ok (if v5 > v4 then v5 else v4)))) fun (v6 : Int) => (R.bind (R.bind (R.get (atI c3 (x_at - (1 : Int)))) fun (v7 : Int) => (R.bind (R.get (atI c3 x_at)) fun (v8 : Int) => (R.ok (if v8 < v7 then v8 else v7)))) fun (v9 : Int) => (R.ok (v6, v9)))) fun (p10 : (Int × Int)) => (R.bind (R.bind (R.bind (R.get (atI c3 (x_at - (1 : Int)))) fun (v11 : Int) => (R.bind (R.get (atI c3 x_at)) fun (v12 : Int) => (R.ok (decide (v12 < v11))))) fun b13 => if b13 = true then (R.ok (1 : Int)) else (R.ok (-(1 : Int)))) fun (x_sign_14 : Int) => (R.bind (R.bind (R.rng 0 (p10.1 - p10.2)) fun l => R.fold (fun (s15 : ((List ((List Int) × Int)) × (Option Int) × (Option (List Int)))) (c16 : Int) => (R.bind (R.bind (R.app (cutG c3 none (some (x_at - (1 : Int)))) [((p10.1 - (1 : Int)) - c16), (p10.2 + c16)]) fun (v17 : (List Int)) => (R.app v17 (cutG c3 (some (x_at + (1 : Int))) none))) fun (x_late_18 : (List Int)) => (R.bind (R.bind (R.bind (R.bind (R.get (getK x_polynomial c3)) fun (v19 : Int) => (R.mul x_sign_14 v19)) fun (v20 : Int) => (R.ok (((getK s15.1 x_late_18).getD (0 : Int)) + v20))) fun (w21 : Int) => R.putK s15.1 x_late_18 w21) fun (l22 : (List ((List Int) × Int))) => .ok (l22, (some c16), (some x_late_18))))) l (s2.1, s2.2.2.2.2.2.1, s2.2.2.2.2.2.2)) fun (s23 : ((List ((List Int) × Int)) × (Option Int) × (Option (List Int)))) => .ok (s23.1, (some c3), (some p10.1), (some p10.2), (some x_sign_14), s23.2.1, s23.2.2))))) l (x_found_1, (none : Option (List Int)), (none : Option Int), (none : Option Int), (none : Option Int), (none : Option Int), (none : Option (List Int)))) fun (s24 : ((List ((List Int) × Int)) × (Option (List Int)) × (Option Int) × (Option Int) × (Option Int) × (Option Int) × (Option (List Int)))) => (r__law_kept (s24.1))))
theorem y__law_cut (x_polynomial : (List ((List Int) × Int))) (x_at : Int) : Fs (fun (a : (List ((List Int) × Int))) => .ow ((eK (eT D.int) D.int) a)) (f__law_cut [(eK (eT D.int) D.int) x_polynomial, D.int x_at]) (r__law_cut x_polynomial x_at) := by
  unfold r__law_cut
  exact f_tl [.sh ((eK (eT D.int) D.int) x_polynomial), .sh (D.int x_at), .no, .no, .no, .no, .no, .no, .no] rfl (fun _ => .inr ⟨_, rfl⟩) (l_seq (E1 := fun (x_found_1 : (List ((List Int) × Int))) => [.sh ((eK (eT D.int) D.int) x_polynomial), .sh (D.int x_at), .ow ((eK (eT D.int) D.int) x_found_1), .no, .no, .no, .no, .no, .no]) (n_p (r := ([] : (List ((List Int) × Int)))) (q_set rfl rfl) rfl) fun x_found_1 => (l_seq (E1 := fun (s24 : ((List ((List Int) × Int)) × (Option (List Int)) × (Option Int) × (Option Int) × (Option Int) × (Option Int) × (Option (List Int)))) => [.sh ((eK (eT D.int) D.int) x_polynomial), .sh (D.int x_at), .ow ((eK (eT D.int) D.int) s24.1), (oS (fun a => .sh ((eT D.int) a)) s24.2.1), (oS (fun a => .sh (D.int a)) s24.2.2.1), (oS (fun a => .sh (D.int a)) s24.2.2.2.1), (oS (fun a => .sh (D.int a)) s24.2.2.2.2.1), (oS (fun a => .sh (D.int a)) s24.2.2.2.2.2.1), (oS (fun a => .sh ((eT D.int) a)) s24.2.2.2.2.2.2)]) (n_for (E := fun (s2 : ((List ((List Int) × Int)) × (Option (List Int)) × (Option Int) × (Option Int) × (Option Int) × (Option Int) × (Option (List Int)))) => [.sh ((eK (eT D.int) D.int) x_polynomial), .sh (D.int x_at), .ow ((eK (eT D.int) D.int) s2.1), (oS (fun a => .sh ((eT D.int) a)) s2.2.1), (oS (fun a => .sh (D.int a)) s2.2.2.1), (oS (fun a => .sh (D.int a)) s2.2.2.2.1), (oS (fun a => .sh (D.int a)) s2.2.2.2.2.1), (oS (fun a => .sh (D.int a)) s2.2.2.2.2.2.1), (oS (fun a => .sh ((eT D.int) a)) s2.2.2.2.2.2.2)]) (eT D.int) (fun (s2 : ((List ((List Int) × Int)) × (Option (List Int)) × (Option Int) × (Option Int) × (Option Int) × (Option Int) × (Option (List Int)))) (c3 : (List Int)) => [.sh ((eK (eT D.int) D.int) x_polynomial), .sh (D.int x_at), .ow ((eK (eT D.int) D.int) s2.1), .sh ((eT D.int) c3), (oS (fun a => .sh (D.int a)) s2.2.2.1), (oS (fun a => .sh (D.int a)) s2.2.2.2.1), (oS (fun a => .sh (D.int a)) s2.2.2.2.2.1), (oS (fun a => .sh (D.int a)) s2.2.2.2.2.2.1), (oS (fun a => .sh ((eT D.int) a)) s2.2.2.2.2.2.2)]) (x_found_1, (none : Option (List Int)), (none : Option Int), (none : Option Int), (none : Option Int), (none : Option Int), (none : Option (List Int))) (w_keys (ek := (eT D.int)) (ev := D.int) x_polynomial rfl rfl) rfl (fun _ _ => rfl) fun s2 c3 => (n_seq (E1 := fun (p10 : (Int × Int)) => [.sh ((eK (eT D.int) D.int) x_polynomial), .sh (D.int x_at), .ow ((eK (eT D.int) D.int) s2.1), .sh ((eT D.int) c3), .sh (D.int p10.1), .sh (D.int p10.2), (oS (fun a => .sh (D.int a)) s2.2.2.2.2.1), (oS (fun a => .sh (D.int a)) s2.2.2.2.2.2.1), (oS (fun a => .sh ((eT D.int) a)) s2.2.2.2.2.2.2)]) (u_par (a_v (fun (a : Int) => .sh (D.int a)) (fun (a : Int) => [.sh ((eK (eT D.int) D.int) x_polynomial), .sh (D.int x_at), .ow ((eK (eT D.int) D.int) s2.1), .sh ((eT D.int) c3), (oS (fun a => .sh (D.int a)) s2.2.2.1), (oS (fun a => .sh (D.int a)) s2.2.2.2.1), (oS (fun a => .sh (D.int a)) s2.2.2.2.2.1), (oS (fun a => .sh (D.int a)) s2.2.2.2.2.2.1), (oS (fun a => .sh ((eT D.int) a)) s2.2.2.2.2.2.2)]) (u_N (a_v (fun (a : Int) => .sh (D.int a)) (fun (a : Int) => [.sh ((eK (eT D.int) D.int) x_polynomial), .sh (D.int x_at), .ow ((eK (eT D.int) D.int) s2.1), .sh ((eT D.int) c3), (oS (fun a => .sh (D.int a)) s2.2.2.1), (oS (fun a => .sh (D.int a)) s2.2.2.2.1), (oS (fun a => .sh (D.int a)) s2.2.2.2.2.1), (oS (fun a => .sh (D.int a)) s2.2.2.2.2.2.1), (oS (fun a => .sh ((eT D.int) a)) s2.2.2.2.2.2.2)]) (u_2 (k_p rfl (k_p (q_2 rfl rfl rfl) (z_get (atI c3 (x_at - (1 : Int))) (o_ixT D.int c3 (x_at - (1 : Int))) fun _ => rfl)))) fun v4 => (a_v (fun (a : Int) => .sh (D.int a)) (fun (a : Int) => [.sh ((eK (eT D.int) D.int) x_polynomial), .sh (D.int x_at), .ow ((eK (eT D.int) D.int) s2.1), .sh ((eT D.int) c3), (oS (fun a => .sh (D.int a)) s2.2.2.1), (oS (fun a => .sh (D.int a)) s2.2.2.2.1), (oS (fun a => .sh (D.int a)) s2.2.2.2.2.1), (oS (fun a => .sh (D.int a)) s2.2.2.2.2.2.1), (oS (fun a => .sh ((eT D.int) a)) s2.2.2.2.2.2.2)]) (u_2 (k_p rfl (k_p rfl (z_get (atI c3 x_at) (o_ixT D.int c3 x_at) fun _ => rfl)))) fun v5 => (a_nil (z_ok (if v5 > v4 then v5 else v4) rfl rfl))))) fun v6 => (a_v (fun (a : Int) => .sh (D.int a)) (fun (a : Int) => [.sh ((eK (eT D.int) D.int) x_polynomial), .sh (D.int x_at), .ow ((eK (eT D.int) D.int) s2.1), .sh ((eT D.int) c3), (oS (fun a => .sh (D.int a)) s2.2.2.1), (oS (fun a => .sh (D.int a)) s2.2.2.2.1), (oS (fun a => .sh (D.int a)) s2.2.2.2.2.1), (oS (fun a => .sh (D.int a)) s2.2.2.2.2.2.1), (oS (fun a => .sh ((eT D.int) a)) s2.2.2.2.2.2.2)]) (u_N (a_v (fun (a : Int) => .sh (D.int a)) (fun (a : Int) => [.sh ((eK (eT D.int) D.int) x_polynomial), .sh (D.int x_at), .ow ((eK (eT D.int) D.int) s2.1), .sh ((eT D.int) c3), (oS (fun a => .sh (D.int a)) s2.2.2.1), (oS (fun a => .sh (D.int a)) s2.2.2.2.1), (oS (fun a => .sh (D.int a)) s2.2.2.2.2.1), (oS (fun a => .sh (D.int a)) s2.2.2.2.2.2.1), (oS (fun a => .sh ((eT D.int) a)) s2.2.2.2.2.2.2)]) (u_2 (k_p rfl (k_p (q_2 rfl rfl rfl) (z_get (atI c3 (x_at - (1 : Int))) (o_ixT D.int c3 (x_at - (1 : Int))) fun _ => rfl)))) fun v7 => (a_v (fun (a : Int) => .sh (D.int a)) (fun (a : Int) => [.sh ((eK (eT D.int) D.int) x_polynomial), .sh (D.int x_at), .ow ((eK (eT D.int) D.int) s2.1), .sh ((eT D.int) c3), (oS (fun a => .sh (D.int a)) s2.2.2.1), (oS (fun a => .sh (D.int a)) s2.2.2.2.1), (oS (fun a => .sh (D.int a)) s2.2.2.2.2.1), (oS (fun a => .sh (D.int a)) s2.2.2.2.2.2.1), (oS (fun a => .sh ((eT D.int) a)) s2.2.2.2.2.2.2)]) (u_2 (k_p rfl (k_p rfl (z_get (atI c3 x_at) (o_ixT D.int c3 x_at) fun _ => rfl)))) fun v8 => (a_nil (z_ok (if v8 < v7 then v8 else v7) rfl rfl))))) fun v9 => (a_nil (n_done (v6, v9) rfl))))) fun p10 => (n_seq (E1 := fun (x_sign_14 : Int) => [.sh ((eK (eT D.int) D.int) x_polynomial), .sh (D.int x_at), .ow ((eK (eT D.int) D.int) s2.1), .sh ((eT D.int) c3), .sh (D.int p10.1), .sh (D.int p10.2), .sh (D.int x_sign_14), (oS (fun a => .sh (D.int a)) s2.2.2.2.2.2.1), (oS (fun a => .sh ((eT D.int) a)) s2.2.2.2.2.2.2)]) (n_set (fun (a : Int) => .sh (D.int a)) (fun (a : Int) => [.sh ((eK (eT D.int) D.int) x_polynomial), .sh (D.int x_at), .ow ((eK (eT D.int) D.int) s2.1), .sh ((eT D.int) c3), .sh (D.int p10.1), .sh (D.int p10.2), (oS (fun a => .sh (D.int a)) s2.2.2.2.2.1), (oS (fun a => .sh (D.int a)) s2.2.2.2.2.2.1), (oS (fun a => .sh ((eT D.int) a)) s2.2.2.2.2.2.2)]) (x_If (t_B (u_2 (k_v (fun (a : Int) => .sh (D.int a)) (fun (a : Int) => [.sh ((eK (eT D.int) D.int) x_polynomial), .sh (D.int x_at), .ow ((eK (eT D.int) D.int) s2.1), .sh ((eT D.int) c3), .sh (D.int p10.1), .sh (D.int p10.2), (oS (fun a => .sh (D.int a)) s2.2.2.2.2.1), (oS (fun a => .sh (D.int a)) s2.2.2.2.2.2.1), (oS (fun a => .sh ((eT D.int) a)) s2.2.2.2.2.2.2)]) (u_2 (k_p rfl (k_p (q_2 rfl rfl rfl) (z_get (atI c3 (x_at - (1 : Int))) (o_ixT D.int c3 (x_at - (1 : Int))) fun _ => rfl)))) fun v11 => (k_v (fun (a : Int) => .sh (D.int a)) (fun (a : Int) => [.sh ((eK (eT D.int) D.int) x_polynomial), .sh (D.int x_at), .ow ((eK (eT D.int) D.int) s2.1), .sh ((eT D.int) c3), .sh (D.int p10.1), .sh (D.int p10.2), (oS (fun a => .sh (D.int a)) s2.2.2.2.2.1), (oS (fun a => .sh (D.int a)) s2.2.2.2.2.2.1), (oS (fun a => .sh ((eT D.int) a)) s2.2.2.2.2.2.2)]) (u_2 (k_p rfl (k_p rfl (z_get (atI c3 x_at) (o_ixT D.int c3 x_at) fun _ => rfl)))) fun v12 => (z_ok (decide (v12 < v11)) rfl rfl))))) (x_p (fun (a : Int) => .sh (D.int a)) (1 : Int) rfl) (x_p (fun (a : Int) => .sh (D.int a)) (-(1 : Int)) (q_1 rfl rfl))) fun _ => rfl) fun x_sign_14 => (n_last (E1 := fun (s23 : ((List ((List Int) × Int)) × (Option Int) × (Option (List Int)))) => [.sh ((eK (eT D.int) D.int) x_polynomial), .sh (D.int x_at), .ow ((eK (eT D.int) D.int) s23.1), .sh ((eT D.int) c3), .sh (D.int p10.1), .sh (D.int p10.2), .sh (D.int x_sign_14), (oS (fun a => .sh (D.int a)) s23.2.1), (oS (fun a => .sh ((eT D.int) a)) s23.2.2)]) (fun (s23 : ((List ((List Int) × Int)) × (Option Int) × (Option (List Int)))) => (s23.1, (some c3), (some p10.1), (some p10.2), (some x_sign_14), s23.2.1, s23.2.2)) (n_for (E := fun (s15 : ((List ((List Int) × Int)) × (Option Int) × (Option (List Int)))) => [.sh ((eK (eT D.int) D.int) x_polynomial), .sh (D.int x_at), .ow ((eK (eT D.int) D.int) s15.1), .sh ((eT D.int) c3), .sh (D.int p10.1), .sh (D.int p10.2), .sh (D.int x_sign_14), (oS (fun a => .sh (D.int a)) s15.2.1), (oS (fun a => .sh ((eT D.int) a)) s15.2.2)]) D.int (fun (s15 : ((List ((List Int) × Int)) × (Option Int) × (Option (List Int)))) (c16 : Int) => [.sh ((eK (eT D.int) D.int) x_polynomial), .sh (D.int x_at), .ow ((eK (eT D.int) D.int) s15.1), .sh ((eT D.int) c3), .sh (D.int p10.1), .sh (D.int p10.2), .sh (D.int x_sign_14), .sh (D.int c16), (oS (fun a => .sh ((eT D.int) a)) s15.2.2)]) (s2.1, s2.2.2.2.2.2.1, s2.2.2.2.2.2.2) (u_rng (a_p (q_2 rfl rfl rfl) (a_nil (g_rng1 rfl)))) rfl (fun _ _ => rfl) fun s15 c16 => (n_seq (E1 := fun (x_late_18 : (List Int)) => [.sh ((eK (eT D.int) D.int) x_polynomial), .sh (D.int x_at), .ow ((eK (eT D.int) D.int) s15.1), .sh ((eT D.int) c3), .sh (D.int p10.1), .sh (D.int p10.2), .sh (D.int x_sign_14), .sh (D.int c16), .sh ((eT D.int) x_late_18)]) (n_set (fun (a : (List Int)) => .sh ((eT D.int) a)) (fun (a : (List Int)) => [.sh ((eK (eT D.int) D.int) x_polynomial), .sh (D.int x_at), .ow ((eK (eT D.int) D.int) s15.1), .sh ((eT D.int) c3), .sh (D.int p10.1), .sh (D.int p10.2), .sh (D.int x_sign_14), .sh (D.int c16), (oS (fun a => .sh ((eT D.int) a)) s15.2.2)]) (u_2 (k_v (fun (a : (List Int)) => .sh ((eT D.int) a)) (fun (a : (List Int)) => [.sh ((eK (eT D.int) D.int) x_polynomial), .sh (D.int x_at), .ow ((eK (eT D.int) D.int) s15.1), .sh ((eT D.int) c3), .sh (D.int p10.1), .sh (D.int p10.2), .sh (D.int x_sign_14), .sh (D.int c16), (oS (fun a => .sh ((eT D.int) a)) s15.2.2)]) (u_2 (k_p (p_sl rfl rfl (kq_p (q_2 rfl rfl rfl)) (o_slT D.int c3 none (some (x_at - (1 : Int))))) (k_p (p_tup (q_cons (q_2 (q_2 rfl rfl rfl) rfl rfl) (q_cons (q_2 rfl rfl rfl) q_nil)) rfl (Nat.le_of_ble_eq_true rfl)) (z_appT D.int (cutG c3 none (some (x_at - (1 : Int)))) [((p10.1 - (1 : Int)) - c16), (p10.2 + c16)] fun _ => rfl)))) fun v17 => (k_p (p_sl rfl (kq_p (q_2 rfl rfl rfl)) rfl (o_slT D.int c3 (some (x_at + (1 : Int))) none)) (z_appT D.int v17 (cutG c3 (some (x_at + (1 : Int))) none) fun _ => rfl)))) fun _ => rfl) fun x_late_18 => (n_last (E1 := fun (l22 : (List ((List Int) × Int))) => [.sh ((eK (eT D.int) D.int) x_polynomial), .sh (D.int x_at), .ow ((eK (eT D.int) D.int) l22), .sh ((eT D.int) c3), .sh (D.int p10.1), .sh (D.int p10.2), .sh (D.int x_sign_14), .sh (D.int c16), .sh ((eT D.int) x_late_18)]) (fun (l22 : (List ((List Int) × Int))) => (l22, (some c16), (some x_late_18))) (n_asgR (fun (a : Int) => .sh (D.int a)) (fun (a : Int) => [.sh ((eK (eT D.int) D.int) x_polynomial), .sh (D.int x_at), .ow ((eK (eT D.int) D.int) s15.1), .sh ((eT D.int) c3), .sh (D.int p10.1), .sh (D.int p10.2), .sh (D.int x_sign_14), .sh (D.int c16), .sh ((eT D.int) x_late_18)]) (u_2 (k_p (p_getE rfl rfl (q_cons rfl (q_cons rfl q_nil)) (o_getE EncK.ints s15.1 x_late_18 (0 : Int))) (k_v (fun (a : Int) => .sh (D.int a)) (fun (a : Int) => [.sh ((eK (eT D.int) D.int) x_polynomial), .sh (D.int x_at), .ow ((eK (eT D.int) D.int) s15.1), .sh ((eT D.int) c3), .sh (D.int p10.1), .sh (D.int p10.2), .sh (D.int x_sign_14), .sh (D.int c16), .sh ((eT D.int) x_late_18)]) (u_2 (k_p rfl (k_v (fun (a : Int) => .sh (D.int a)) (fun (a : Int) => [.sh ((eK (eT D.int) D.int) x_polynomial), .sh (D.int x_at), .ow ((eK (eT D.int) D.int) s15.1), .sh ((eT D.int) c3), .sh (D.int p10.1), .sh (D.int p10.2), .sh (D.int x_sign_14), .sh (D.int c16), .sh ((eT D.int) x_late_18)]) (u_2 (k_p rfl (k_p rfl (z_get (getK x_polynomial c3) (o_ixA EncK.ints x_polynomial c3) fun _ => rfl)))) fun v19 => (z_mul x_sign_14 v19 fun _ => rfl)))) fun v20 => (z_ok (((getK s15.1 x_late_18).getD (0 : Int)) + v20) rfl rfl)))) fun w21 => z_putK (ev := D.int) (e2 := [.sh ((eK (eT D.int) D.int) x_polynomial), .sh (D.int x_at), .ow ((eK (eT D.int) D.int) s15.1), .sh ((eT D.int) c3), .sh (D.int p10.1), .sh (D.int p10.2), .sh (D.int x_sign_14), .sh (D.int c16), .sh ((eT D.int) x_late_18)]) EncK.ints s15.1 x_late_18 w21 rfl rfl rfl (fun _ => rfl)) fun _ => rfl))) fun _ => rfl)))) fun s24 => (l_ret (fun _ => [.sh ((eK (eT D.int) D.int) x_polynomial), .sh (D.int x_at), .sh ((eK (eT D.int) D.int) s24.1), (oS (fun a => .sh ((eT D.int) a)) s24.2.1), (oS (fun a => .sh (D.int a)) s24.2.2.1), (oS (fun a => .sh (D.int a)) s24.2.2.2.1), (oS (fun a => .sh (D.int a)) s24.2.2.2.2.1), (oS (fun a => .sh (D.int a)) s24.2.2.2.2.2.1), (oS (fun a => .sh ((eT D.int) a)) s24.2.2.2.2.2.2)]) (fun _ => [.sh ((eK (eT D.int) D.int) x_polynomial), .sh (D.int x_at), .sh ((eK (eT D.int) D.int) s24.1), (oS (fun a => .sh ((eT D.int) a)) s24.2.1), (oS (fun a => .sh (D.int a)) s24.2.2.1), (oS (fun a => .sh (D.int a)) s24.2.2.2.1), (oS (fun a => .sh (D.int a)) s24.2.2.2.2.1), (oS (fun a => .sh (D.int a)) s24.2.2.2.2.2.1), (oS (fun a => .sh ((eT D.int) a)) s24.2.2.2.2.2.2)]) (u_call (a_p rfl (a_nil (z_call (e2 := [.sh ((eK (eT D.int) D.int) x_polynomial), .sh (D.int x_at), .sh ((eK (eT D.int) D.int) s24.1), (oS (fun a => .sh ((eT D.int) a)) s24.2.1), (oS (fun a => .sh (D.int a)) s24.2.2.1), (oS (fun a => .sh (D.int a)) s24.2.2.2.1), (oS (fun a => .sh (D.int a)) s24.2.2.2.2.1), (oS (fun a => .sh (D.int a)) s24.2.2.2.2.2.1), (oS (fun a => .sh ((eT D.int) a)) s24.2.2.2.2.2.2)]) rfl rfl rfl (fun _ => rfl) (y__law_kept (s24.1)))))) (fun _ => rfl) (fun _ => rfl))))
def r__law_sum (x_sequence : (List Int)) : R (List ((List Int) × Int)) :=
  (R.bind (R.ok (x_sequence, ([] : List Int))) fun (p1 : ((List Int) × (List Int))) => (R.bind (R.loop (fun (s2 : ((List Int) × (List Int) × (Option Int))) => (R.bind (R.bind (R.rng (1 : Int) (s2.1.length : Int)) (R.lc (fun (c3 : Int) => (R.bind (R.get (atI s2.1 (c3 - (1 : Int)))) fun (v4 : Int) => (R.bind (R.get (atI s2.1 c3)) fun (v5 : Int) => (R.ok (decide (v4 < v5)))))) (fun (c3 : Int) => (R.ok c3)))) fun (v6 : (List Int)) => (R.ok (!decide (v6 = ([] : List Int)))))) (fun (s2 : ((List Int) × (List Int) × (Option Int))) => (R.bind (R.bind (R.bind (R.rng (1 : Int) (s2.1.length : Int)) (R.lc (fun (c7 : Int) => (R.bind (R.get (atI s2.1 (c7 - (1 : Int)))) fun (v8 : Int) => (R.bind (R.get (atI s2.1 c7)) fun (v9 : Int) => (R.ok (decide (v8 < v9)))))) (fun (c7 : Int) => (R.ok c7)))) fun (v10 : (List Int)) => (R.get (atI v10 (0 : Int)))) fun (x_at_11 : Int) => (R.bind (R.bind (r__law_swapped (s2.1) (x_at_11)) fun (v12 : (List Int)) => (R.bind (R.app [x_at_11] s2.2.1) fun (v13 : (List Int)) => (R.ok (v12, v13)))) fun (p14 : ((List Int) × (List Int))) => .ok (p14.1, p14.2, (some x_at_11))))) 64 (p1.1, p1.2, (none : Option Int))) fun (s15 : ((List Int) × (List Int) × (Option Int))) => (R.bind (R.bind (R.bind (R.bind (R.rng (1 : Int) (7 : Int)) (R.lcp (fun (c16 : Int) => true) (fun (c16 : Int) => (if ((x_sequence.length : Int) - c16) > (0 : Int) then ((x_sequence.length : Int) - c16) else (0 : Int))))) fun (v17 : (List Int)) => (R.ok v17)) fun (v18 : (List Int)) => R.bind (R.ok (1 : Int)) fun (v19 : Int) => .ok [(v18, v19)]) fun (x_found_20 : (List ((List Int) × Int))) => (R.bind (R.bind (R.ok s15.2.1) fun l => R.fold (fun (s21 : ((Option Int) × (List ((List Int) × Int)))) (c22 : Int) => (R.bind (r__law_cut (s21.2) (c22)) fun (x_found_23 : (List ((List Int) × Int))) => .ok ((some c22), x_found_23))) l (s15.2.2, x_found_20)) fun (s24 : ((Option Int) × (List ((List Int) × Int)))) => (R.bind (R.bind (R.ok (List.map (fun p => p.1) s24.2)) (R.lc (fun (c25 : (List Int)) => (R.ok true)) (fun (c25 : (List Int)) => (R.bind (R.get (getK s24.2 c25)) fun (v26 : Int) => (R.ok ((cutG c25 none (some (5 : Int))), v26)))))) fun (v27 : (List ((List Int) × Int))) => (R.dict v27))))))
theorem y__law_sum (x_sequence : (List Int)) : Fs (fun (a : (List ((List Int) × Int))) => .ow ((eK (eT D.int) D.int) a)) (f__law_sum [(eT D.int) x_sequence]) (r__law_sum x_sequence) := by
  unfold r__law_sum
  exact f_tl [.sh ((eT D.int) x_sequence), .no, .no, .no, .no, .no] rfl (fun _ => .inr ⟨_, rfl⟩) (l_seq (E1 := fun (p1 : ((List Int) × (List Int))) => [.sh ((eT D.int) x_sequence), .sh ((eT D.int) p1.1), .ow ((eL D.int) p1.2), .no, .no, .no]) (u_par (a_p rfl (a_p (p_lst q_nil rfl (Nat.le_of_ble_eq_true rfl)) (a_nil (n_done (x_sequence, ([] : List Int)) rfl))))) fun p1 => (l_seq (E1 := fun (s15 : ((List Int) × (List Int) × (Option Int))) => [.sh ((eT D.int) x_sequence), .sh ((eT D.int) s15.1), .ow ((eL D.int) s15.2.1), (oS (fun a => .sh (D.int a)) s15.2.2), .no, .no]) (n_while0 (E := fun (s2 : ((List Int) × (List Int) × (Option Int))) => [.sh ((eT D.int) x_sequence), .sh ((eT D.int) s2.1), .ow ((eL D.int) s2.2.1), (oS (fun a => .sh (D.int a)) s2.2.2), .no, .no]) (p1.1, p1.2, (none : Option Int)) rfl (fun s2 => (t_B (u_2 (k_v (fun (a : (List Int)) => .ow ((eL D.int) a)) (fun (a : (List Int)) => [.sh ((eT D.int) x_sequence), .sh ((eT D.int) s2.1), .ow ((eL D.int) s2.2.1), (oS (fun a => .sh (D.int a)) s2.2.2), .no, .no]) (x_lc D.int D.int (fun (c3 : Int) => [.sh ((eT D.int) x_sequence), .sh ((eT D.int) s2.1), .ow ((eL D.int) s2.2.1), .sh (D.int c3), .no, .no]) (fun (a : Int) => .sh (D.int a)) (u_rng (a_p rfl (a_p (q_N (q_cons rfl q_nil) (o_lenT D.int s2.1)) (a_nil (g_rng2 rfl))))) (by generalize s2.2.2 = o; cases o <;> rfl) rfl (fun _ => rfl) (fun c3 => (t_B (u_2 (k_v (fun (a : Int) => .sh (D.int a)) (fun (a : Int) => [.sh ((eT D.int) x_sequence), .sh ((eT D.int) s2.1), .ow ((eL D.int) s2.2.1), .sh (D.int c3), .no, .no]) (u_2 (k_p rfl (k_p (q_2 rfl rfl rfl) (z_get (atI s2.1 (c3 - (1 : Int))) (o_ixT D.int s2.1 (c3 - (1 : Int))) fun _ => rfl)))) fun v4 => (k_v (fun (a : Int) => .sh (D.int a)) (fun (a : Int) => [.sh ((eT D.int) x_sequence), .sh ((eT D.int) s2.1), .ow ((eL D.int) s2.2.1), .sh (D.int c3), .no, .no]) (u_2 (k_p rfl (k_p rfl (z_get (atI s2.1 c3) (o_ixT D.int s2.1 c3) fun _ => rfl)))) fun v5 => (z_ok (decide (v4 < v5)) rfl rfl)))))) (fun c3 => (x_p (fun (a : Int) => .sh (D.int a)) c3 rfl)) (fun _ _ => rfl) (fun _ => rfl) (fun _ => rfl)) fun v6 => (k_p (p_lst q_nil rfl (Nat.le_of_ble_eq_true rfl)) (z_ok (!decide (v6 = ([] : List Int))) (Enc.opNe (e := (eL D.int)) (Enc.lst Enc.int) (Nat.le_of_ble_eq_true rfl) v6 ([] : List Int)) rfl)))))) (fun s2 => (n_seq (E1 := fun (x_at_11 : Int) => [.sh ((eT D.int) x_sequence), .sh ((eT D.int) s2.1), .ow ((eL D.int) s2.2.1), .sh (D.int x_at_11), .no, .no]) (n_set (fun (a : Int) => .sh (D.int a)) (fun (a : Int) => [.sh ((eT D.int) x_sequence), .sh ((eT D.int) s2.1), .ow ((eL D.int) s2.2.1), (oS (fun a => .sh (D.int a)) s2.2.2), .no, .no]) (u_2 (k_v (fun (a : (List Int)) => .ow ((eL D.int) a)) (fun (a : (List Int)) => [.sh ((eT D.int) x_sequence), .sh ((eT D.int) s2.1), .ow ((eL D.int) s2.2.1), (oS (fun a => .sh (D.int a)) s2.2.2), .no, .no]) (x_lc D.int D.int (fun (c7 : Int) => [.sh ((eT D.int) x_sequence), .sh ((eT D.int) s2.1), .ow ((eL D.int) s2.2.1), .sh (D.int c7), .no, .no]) (fun (a : Int) => .sh (D.int a)) (u_rng (a_p rfl (a_p (q_N (q_cons rfl q_nil) (o_lenT D.int s2.1)) (a_nil (g_rng2 rfl))))) (by generalize s2.2.2 = o; cases o <;> rfl) rfl (fun _ => rfl) (fun c7 => (t_B (u_2 (k_v (fun (a : Int) => .sh (D.int a)) (fun (a : Int) => [.sh ((eT D.int) x_sequence), .sh ((eT D.int) s2.1), .ow ((eL D.int) s2.2.1), .sh (D.int c7), .no, .no]) (u_2 (k_p rfl (k_p (q_2 rfl rfl rfl) (z_get (atI s2.1 (c7 - (1 : Int))) (o_ixT D.int s2.1 (c7 - (1 : Int))) fun _ => rfl)))) fun v8 => (k_v (fun (a : Int) => .sh (D.int a)) (fun (a : Int) => [.sh ((eT D.int) x_sequence), .sh ((eT D.int) s2.1), .ow ((eL D.int) s2.2.1), .sh (D.int c7), .no, .no]) (u_2 (k_p rfl (k_p rfl (z_get (atI s2.1 c7) (o_ixT D.int s2.1 c7) fun _ => rfl)))) fun v9 => (z_ok (decide (v8 < v9)) rfl rfl)))))) (fun c7 => (x_p (fun (a : Int) => .sh (D.int a)) c7 rfl)) (fun _ _ => rfl) (fun _ => rfl) (fun _ => rfl)) fun v10 => (k_p rfl (z_get (atI v10 (0 : Int)) (o_ixL D.int v10 (0 : Int)) fun _ => rfl)))) fun _ => rfl) fun x_at_11 => (n_last (E1 := fun (p14 : ((List Int) × (List Int))) => [.sh ((eT D.int) x_sequence), .sh ((eT D.int) p14.1), .ow ((eL D.int) p14.2), .sh (D.int x_at_11), .no, .no]) (fun (p14 : ((List Int) × (List Int))) => (p14.1, p14.2, (some x_at_11))) (u_par (a_v (fun (a : (List Int)) => .sh ((eT D.int) a)) (fun (a : (List Int)) => [.sh ((eT D.int) x_sequence), .sh ((eT D.int) s2.1), .ow ((eL D.int) s2.2.1), .sh (D.int x_at_11), .no, .no]) (x_shr (eT D.int) (fun (a : (List Int)) => .sh ((eT D.int) a)) (fun (a : (List Int)) => [.sh ((eT D.int) x_sequence), .sh ((eT D.int) s2.1), .ow ((eL D.int) s2.2.1), .sh (D.int x_at_11), .no, .no]) (u_call (a_p rfl (a_p rfl (a_nil (z_call (e2 := [.sh ((eT D.int) x_sequence), .sh ((eT D.int) s2.1), .ow ((eL D.int) s2.2.1), .sh (D.int x_at_11), .no, .no]) rfl rfl rfl (fun _ => rfl) (y__law_swapped (s2.1) (x_at_11))))))) (fun _ => rfl)) fun v12 => (a_v (fun (a : (List Int)) => .ow ((eL D.int) a)) (fun (a : (List Int)) => [.sh ((eT D.int) x_sequence), .sh ((eT D.int) s2.1), .ow ((eL D.int) s2.2.1), .sh (D.int x_at_11), .no, .no]) (u_2 (k_p (p_lst (q_cons rfl q_nil) rfl (Nat.le_of_ble_eq_true rfl)) (k_p rfl (z_appL D.int [x_at_11] s2.2.1 fun _ => rfl)))) fun v13 => (a_nil (n_done (v12, v13) rfl))))) fun _ => rfl)))) fun s15 => (l_seq (E1 := fun (x_found_20 : (List ((List Int) × Int))) => [.sh ((eT D.int) x_sequence), .sh ((eT D.int) s15.1), .ow ((eL D.int) s15.2.1), (oS (fun a => .sh (D.int a)) s15.2.2), .sh ((eK (eT D.int) D.int) x_found_20), .no]) (n_set (fun (a : (List ((List Int) × Int))) => .sh ((eK (eT D.int) D.int) a)) (fun (a : (List ((List Int) × Int))) => [.sh ((eT D.int) x_sequence), .sh ((eT D.int) s15.1), .ow ((eL D.int) s15.2.1), (oS (fun a => .sh (D.int a)) s15.2.2), .no, .no]) (x_shr (eK (eT D.int) D.int) (fun (a : (List ((List Int) × Int))) => .ow ((eK (eT D.int) D.int) a)) (fun (a : (List ((List Int) × Int))) => [.sh ((eT D.int) x_sequence), .sh ((eT D.int) s15.1), .ow ((eL D.int) s15.2.1), (oS (fun a => .sh (D.int a)) s15.2.2), .no, .no]) (x_disp1 (ev := D.int) EncK.ints (fun (a : (List Int)) => .sh ((eT D.int) a)) (fun (a : Int) => .sh (D.int a)) (u_N (a_v (fun (a : (List Int)) => .ow ((eL D.int) a)) (fun (a : (List Int)) => [.sh ((eT D.int) x_sequence), .sh ((eT D.int) s15.1), .ow ((eL D.int) s15.2.1), (oS (fun a => .sh (D.int a)) s15.2.2), .no, .no]) (x_lcp (p := fun (c16 : Int) => true) (v := fun (c16 : Int) => (if ((x_sequence.length : Int) - c16) > (0 : Int) then ((x_sequence.length : Int) - c16) else (0 : Int))) (s := fun (c16 : Int) => (.sh (D.int (if ((x_sequence.length : Int) - c16) > (0 : Int) then ((x_sequence.length : Int) - c16) else (0 : Int))))) D.int D.int (fun (c16 : Int) => [.sh ((eT D.int) x_sequence), .sh ((eT D.int) s15.1), .ow ((eL D.int) s15.2.1), .sh (D.int c16), .no, .no]) (u_rng (a_p rfl (a_p rfl (a_nil (g_rng2 rfl))))) (by generalize s15.2.2 = o; cases o <;> rfl) rfl (fun _ => rfl) (fun c16 => rfl) (fun c16 => (q_N (q_cons rfl (q_cons (q_2 (q_N (q_cons rfl q_nil) (o_lenT D.int x_sequence)) rfl rfl) q_nil)) rfl)) (fun _ => rfl) (fun _ => rfl) (fun _ => rfl)) fun v17 => (a_nil (z_ok v17 rfl rfl)))) (fun _ => rfl) (x_p (fun (a : Int) => .sh (D.int a)) (1 : Int) rfl) (fun _ => rfl) (fun _ => rfl)) (fun _ => rfl)) fun _ => rfl) fun x_found_20 => (l_seq (E1 := fun (s24 : ((Option Int) × (List ((List Int) × Int)))) => [.sh ((eT D.int) x_sequence), .sh ((eT D.int) s15.1), .sh ((eL D.int) s15.2.1), (oS (fun a => .sh (D.int a)) s24.1), .sh ((eK (eT D.int) D.int) s24.2), .no]) (n_for (E := fun (s21 : ((Option Int) × (List ((List Int) × Int)))) => [.sh ((eT D.int) x_sequence), .sh ((eT D.int) s15.1), .sh ((eL D.int) s15.2.1), (oS (fun a => .sh (D.int a)) s21.1), .sh ((eK (eT D.int) D.int) s21.2), .no]) D.int (fun (s21 : ((Option Int) × (List ((List Int) × Int)))) (c22 : Int) => [.sh ((eT D.int) x_sequence), .sh ((eT D.int) s15.1), .sh ((eL D.int) s15.2.1), .sh (D.int c22), .sh ((eK (eT D.int) D.int) s21.2), .no]) (s15.2.2, x_found_20) (w_p s15.2.1 rfl) rfl (fun _ _ => rfl) fun s21 c22 => (n_last (E1 := fun (x_found_23 : (List ((List Int) × Int))) => [.sh ((eT D.int) x_sequence), .sh ((eT D.int) s15.1), .sh ((eL D.int) s15.2.1), .sh (D.int c22), .sh ((eK (eT D.int) D.int) x_found_23), .no]) (fun (x_found_23 : (List ((List Int) × Int))) => ((some c22), x_found_23)) (n_set (fun (a : (List ((List Int) × Int))) => .sh ((eK (eT D.int) D.int) a)) (fun (a : (List ((List Int) × Int))) => [.sh ((eT D.int) x_sequence), .sh ((eT D.int) s15.1), .sh ((eL D.int) s15.2.1), .sh (D.int c22), .sh ((eK (eT D.int) D.int) s21.2), .no]) (x_shr (eK (eT D.int) D.int) (fun (a : (List ((List Int) × Int))) => .ow ((eK (eT D.int) D.int) a)) (fun (a : (List ((List Int) × Int))) => [.sh ((eT D.int) x_sequence), .sh ((eT D.int) s15.1), .sh ((eL D.int) s15.2.1), .sh (D.int c22), .sh ((eK (eT D.int) D.int) s21.2), .no]) (u_call (a_p rfl (a_p rfl (a_nil (z_call (e2 := [.sh ((eT D.int) x_sequence), .sh ((eT D.int) s15.1), .sh ((eL D.int) s15.2.1), .sh (D.int c22), .sh ((eK (eT D.int) D.int) s21.2), .no]) rfl rfl rfl (fun _ => rfl) (y__law_cut (s21.2) (c22))))))) (fun _ => rfl)) fun _ => rfl) fun _ => rfl)) fun s24 => (l_ret (fun _ => [.sh ((eT D.int) x_sequence), .sh ((eT D.int) s15.1), .sh ((eL D.int) s15.2.1), (oS (fun a => .sh (D.int a)) s24.1), .sh ((eK (eT D.int) D.int) s24.2), .no]) (fun _ => [.sh ((eT D.int) x_sequence), .sh ((eT D.int) s15.1), .sh ((eL D.int) s15.2.1), (oS (fun a => .sh (D.int a)) s24.1), .sh ((eK (eT D.int) D.int) s24.2), .no]) (u_N (a_v (fun (a : (List ((List Int) × Int))) => .ow ((eL (eP (eT D.int) D.int)) a)) (fun (a : (List ((List Int) × Int))) => [.sh ((eT D.int) x_sequence), .sh ((eT D.int) s15.1), .sh ((eL D.int) s15.2.1), (oS (fun a => .sh (D.int a)) s24.1), .sh ((eK (eT D.int) D.int) s24.2), .no]) (x_lc (eT D.int) (eP (eT D.int) D.int) (fun (c25 : (List Int)) => [.sh ((eT D.int) x_sequence), .sh ((eT D.int) s15.1), .sh ((eL D.int) s15.2.1), (oS (fun a => .sh (D.int a)) s24.1), .sh ((eK (eT D.int) D.int) s24.2), .sh ((eT D.int) c25)]) (fun (a : ((List Int) × Int)) => .sh ((eP (eT D.int) D.int) a)) (w_keys (ek := (eT D.int)) (ev := D.int) s24.2 rfl rfl) rfl rfl (fun _ => rfl) (fun c25 => (t_p rfl)) (fun c25 => (u_tup (a_p (p_sl rfl rfl (kq_p rfl) (o_slT D.int c25 none (some (5 : Int)))) (a_v (fun (a : Int) => .sh (D.int a)) (fun (a : Int) => [.sh ((eT D.int) x_sequence), .sh ((eT D.int) s15.1), .sh ((eL D.int) s15.2.1), (oS (fun a => .sh (D.int a)) s24.1), .sh ((eK (eT D.int) D.int) s24.2), .sh ((eT D.int) c25)]) (u_2 (k_p rfl (k_p rfl (z_get (getK s24.2 c25) (o_ixA EncK.ints s24.2 c25) fun _ => rfl)))) fun v26 => (a_nil (z_seq (e2 := [.sh ((eT D.int) x_sequence), .sh ((eT D.int) s15.1), .sh ((eL D.int) s15.2.1), (oS (fun a => .sh (D.int a)) s24.1), .sh ((eK (eT D.int) D.int) s24.2), .sh ((eT D.int) c25)]) ((cutG c25 none (some (5 : Int))), v26) rfl (Nat.le_of_ble_eq_true rfl) rfl rfl)))))) (fun _ _ => rfl) (fun _ => rfl) (fun _ => rfl)) fun v27 => (a_nil (z_dict (ev := D.int) EncK.ints v27 fun _ => rfl)))) (fun _ => rfl) (fun _ => rfl))))))
def r__law_last (x_polynomial : (List ((List Int) × Int))) : R (List Int) :=
  (R.bind (R.bind (R.bind (R.bind (R.ok (List.map (fun p => p.1) x_polynomial)) (R.lcp (fun (c1 : (List Int)) => true) (fun (c1 : (List Int)) => (List.reverse c1)))) fun (v2 : (List (List Int))) => (R.sortG (lexB (fun a b : Int => decide (a < b))) (fun l : List (List Int) => l.all (fun x => !x.isEmpty) || decide (l.length ≤ 1)) v2)) fun (v3 : (List (List Int))) => (R.get (atI v3 (-(1 : Int))))) fun (v4 : (List Int)) => (R.ok (List.reverse v4)))
theorem y__law_last (x_polynomial : (List ((List Int) × Int))) : Fs (fun (a : (List Int)) => .sh ((eT D.int) a)) (f__law_last [(eK (eT D.int) D.int) x_polynomial]) (r__law_last x_polynomial) := by
  unfold r__law_last
  exact f_tl [.sh ((eK (eT D.int) D.int) x_polynomial), .no] rfl (fun _ => .inl ⟨_, rfl⟩) (l_ret (fun _ => [.sh ((eK (eT D.int) D.int) x_polynomial), .no]) (fun _ => [.sh ((eK (eT D.int) D.int) x_polynomial), .no]) (u_1 (k_v (fun (a : (List Int)) => .sh ((eT D.int) a)) (fun (a : (List Int)) => [.sh ((eK (eT D.int) D.int) x_polynomial), .no]) (u_2 (k_v (fun (a : (List (List Int))) => .ow ((eL (eT D.int)) a)) (fun (a : (List (List Int))) => [.sh ((eK (eT D.int) D.int) x_polynomial), .no]) (u_N (a_v (fun (a : (List (List Int))) => .ow ((eL (eT D.int)) a)) (fun (a : (List (List Int))) => [.sh ((eK (eT D.int) D.int) x_polynomial), .no]) (x_lcp (p := fun (c1 : (List Int)) => true) (v := fun (c1 : (List Int)) => (List.reverse c1)) (s := fun (c1 : (List Int)) => (.sh ((eT D.int) (List.reverse c1)))) (eT D.int) (eT D.int) (fun (c1 : (List Int)) => [.sh ((eK (eT D.int) D.int) x_polynomial), .sh ((eT D.int) c1)]) (w_keys (ek := (eT D.int)) (ev := D.int) x_polynomial rfl rfl) rfl rfl (fun _ => rfl) (fun c1 => rfl) (fun c1 => (q_1 rfl (o_revT D.int c1))) (fun _ => rfl) (fun _ => rfl) (fun _ => rfl)) fun v2 => (a_nil (z_sortGL (Srt.tup OrdE.int (Enc.tup Enc.int) (Nat.le_of_ble_eq_true rfl)) v2 fun _ => rfl)))) fun v3 => (k_p (q_1 rfl rfl) (z_get (atI v3 (-(1 : Int))) (o_ixL (eT D.int) v3 (-(1 : Int))) fun _ => rfl)))) fun v4 => (z_ok (List.reverse v4) (o_revT D.int v4) rfl))) (fun _ => rfl) (fun _ => rfl))
def r__law_right  : R Bool :=
  (R.bind (r__law_pick ([(1 : Int), (2 : Int), (3 : Int), (4 : Int), (4 : Int), (5 : Int)])) fun (x_wires_1 : Int) => (R.bind (r__law_sequence (x_wires_1)) fun (x_one_2 : (List Int)) => (R.bind (r__law_near_sequence (x_one_2)) fun (x_other_3 : (List Int)) => (R.bind (R.bind (r_sum_of (x_one_2)) fun (v4 : (List ((List Int) × Int))) => (R.bind (r_code (x_one_2)) fun (v5 : (List Int)) => (R.ok (v4, v5)))) fun (p6 : ((List ((List Int) × Int)) × (List Int))) => (R.bind (R.bind (R.bind (R.bind (R.rep [(0 : Int)] (5 : Int)) fun (v7 : (List Int)) => (R.app p6.2 v7)) fun (v8 : (List Int)) => (R.ok (cutG v8 none (some (5 : Int))))) fun (v9 : (List Int)) => (R.ok v9)) fun (x_row_10 : (List Int)) => (R.bind (R.bind (R.bind (r__law_sum (x_one_2)) fun (v11 : (List ((List Int) × Int))) => (R.ok (!eqK p6.1 v11))) fun b21 => if b21 = true then .ok true else (R.bind (R.bind (r__law_last (p6.1)) fun (v12 : (List Int)) => (R.ok (!decide (v12 = x_row_10)))) fun b20 => if b20 = true then .ok true else (R.bind (R.bind (R.get (getK p6.1 x_row_10)) fun (v13 : Int) => (R.ok (!decide (v13 = (1 : Int))))) fun b19 => if b19 = true then .ok true else (R.bind (R.bind (R.ok (List.map (fun p => p.1) p6.1)) (R.lc (fun (c14 : (List Int)) => (R.bind (R.bind (r_many_crossings (x_one_2)) fun (v15 : Int) => (R.ok (!decide ((List.sum c14) = v15)))) fun b17 => if b17 = true then .ok true else (R.bind (R.get (getK p6.1 c14)) fun (v16 : Int) => (R.ok (decide (v16 < (1 : Int))))))) (fun (c14 : (List Int)) => (R.ok c14)))) fun (v18 : (List (List Int))) => (R.ok (!decide (v18 = ([] : List (List Int))))))))) fun b45 => if b45 = true then (R.ok false) else (R.bind (R.bind (R.bind (R.bind (R.bind (r_told_by_corners (x_one_2)) fun (v22 : (List ((Int × Int) × Int))) => .ok (List.map (fun p => p.2) v22)) (R.lcp (fun (c23 : Int) => (!decide (c23 = (0 : Int)))) (fun (c23 : Int) => c23))) fun (v24 : (List Int)) => (R.ok (decide (v24 = ([] : List Int))))) fun (v25 : Bool) => (R.ok (!decide ((decide ((p6.1.length : Int) = (1 : Int))) = v25)))) fun b44 => if b44 = true then (R.ok false) else (R.bind (R.bind (R.rng (1 : Int) x_wires_1) (R.lc (fun (c26 : Int) => (R.bind (r_doubles (x_one_2)) fun (v27 : (List (Int × Int))) => (R.ok (memB (c26, (c26 + (1 : Int))) v27)))) (fun (c26 : Int) => (R.ok c26)))) fun (x_falls_28 : (List Int)) => (R.bind (R.bind (R.rng (1 : Int) (6 : Int)) (R.lc (fun (c29 : Int) => (R.bind (R.bind (R.ok (List.map (fun p => p.1) p6.1)) (R.lc (fun (c30 : (List Int)) => (R.bind (R.get (atI c30 (c29 - (1 : Int)))) fun (v31 : Int) => (R.ok (decide ((0 : Int) < v31))))) (fun (c30 : (List Int)) => (R.ok c30)))) fun (v32 : (List (List Int))) => (R.ok (!decide (v32 = ([] : List (List Int))))))) (fun (c29 : Int) => (R.ok c29)))) fun (x_used_33 : (List Int)) => (R.bind (R.bind (R.bind (R.bind (if (!decide (x_falls_28 = ([] : List Int))) = true then (R.get (atI x_falls_28 (-(1 : Int)))) else (R.ok (0 : Int))) fun (v34 : Int) => (R.ok (v34 + (1 : Int)))) fun (v35 : Int) => (R.rgl (1 : Int) v35)) fun (v36 : (List Int)) => (R.ok (!decide (x_used_33 = v36)))) fun b43 => if b43 = true then (R.ok false) else (R.bind (R.bind (R.rng (1 : Int) (x_wires_1 + (1 : Int))) (R.lc (fun (c37 : Int) => (R.ok true)) (fun (c37 : Int) => (R.bind (R.bind (r_diagram (x_one_2)) (R.lcp (fun (c38 : (Int × Int)) => (decide (c38.1 = c37))) (fun (c38 : (Int × Int)) => c38))) fun (v39 : (List (Int × Int))) => (R.ok (v39.length : Int)))))) fun (x_rows_40 : (List Int)) => (if (decide (x_rows_40 = p6.2)) = true then (R.bind (R.bind (r_sum_of (x_other_3)) fun (v41 : (List ((List Int) × Int))) => (R.ok (eqK v41 p6.1))) fun (v42 : Bool) => (R.ok (decide (v42 = (decide (x_one_2 = x_other_3)))))) else .ok false))))))))))))
theorem y__law_right  : Fs (fun (a : Bool) => .sh (D.bl a)) (f__law_right []) (r__law_right) := by
  unfold r__law_right
  exact f_tl [.tok, .no, .no, .no, .no, .no, .no, .no, .no, .no, .no, .no, .no, .no] rfl (fun _ => .inl ⟨_, rfl⟩) (l_seq (E1 := fun (x_wires_1 : Int) => [.tok, .sh (D.int x_wires_1), .no, .no, .no, .no, .no, .no, .no, .no, .no, .no, .no, .no]) (n_set (fun (a : Int) => .sh (D.int a)) (fun (a : Int) => [.tok, .no, .no, .no, .no, .no, .no, .no, .no, .no, .no, .no, .no, .no]) (x_shr D.int (fun (a : Int) => .sh (D.int a)) (fun (a : Int) => [.tok, .no, .no, .no, .no, .no, .no, .no, .no, .no, .no, .no, .no, .no]) (u_call (a_p rfl (a_p (p_lst (q_cons rfl (q_cons rfl (q_cons rfl (q_cons rfl (q_cons rfl (q_cons rfl q_nil)))))) rfl (Nat.le_of_ble_eq_true rfl)) (a_nil (z_callD (e2 := [.tok, .no, .no, .no, .no, .no, .no, .no, .no, .no, .no, .no, .no, .no]) rfl rfl rfl rfl (fun _ => rfl) (y__law_pick ([(1 : Int), (2 : Int), (3 : Int), (4 : Int), (4 : Int), (5 : Int)]))))))) (fun _ => rfl)) fun _ => rfl) fun x_wires_1 => (l_seq (E1 := fun (x_one_2 : (List Int)) => [.tok, .sh (D.int x_wires_1), .sh ((eT D.int) x_one_2), .no, .no, .no, .no, .no, .no, .no, .no, .no, .no, .no]) (n_set (fun (a : (List Int)) => .sh ((eT D.int) a)) (fun (a : (List Int)) => [.tok, .sh (D.int x_wires_1), .no, .no, .no, .no, .no, .no, .no, .no, .no, .no, .no, .no]) (x_shr (eT D.int) (fun (a : (List Int)) => .sh ((eT D.int) a)) (fun (a : (List Int)) => [.tok, .sh (D.int x_wires_1), .no, .no, .no, .no, .no, .no, .no, .no, .no, .no, .no, .no]) (u_call (a_p rfl (a_p rfl (a_nil (z_callD (e2 := [.tok, .sh (D.int x_wires_1), .no, .no, .no, .no, .no, .no, .no, .no, .no, .no, .no, .no]) rfl rfl rfl rfl (fun _ => rfl) (y__law_sequence (x_wires_1))))))) (fun _ => rfl)) fun _ => rfl) fun x_one_2 => (l_seq (E1 := fun (x_other_3 : (List Int)) => [.tok, .sh (D.int x_wires_1), .sh ((eT D.int) x_one_2), .sh ((eT D.int) x_other_3), .no, .no, .no, .no, .no, .no, .no, .no, .no, .no]) (n_set (fun (a : (List Int)) => .sh ((eT D.int) a)) (fun (a : (List Int)) => [.tok, .sh (D.int x_wires_1), .sh ((eT D.int) x_one_2), .no, .no, .no, .no, .no, .no, .no, .no, .no, .no, .no]) (x_shr (eT D.int) (fun (a : (List Int)) => .sh ((eT D.int) a)) (fun (a : (List Int)) => [.tok, .sh (D.int x_wires_1), .sh ((eT D.int) x_one_2), .no, .no, .no, .no, .no, .no, .no, .no, .no, .no, .no]) (u_call (a_p rfl (a_p rfl (a_nil (z_callD (e2 := [.tok, .sh (D.int x_wires_1), .sh ((eT D.int) x_one_2), .no, .no, .no, .no, .no, .no, .no, .no, .no, .no, .no]) rfl rfl rfl rfl (fun _ => rfl) (y__law_near_sequence (x_one_2))))))) (fun _ => rfl)) fun _ => rfl) fun x_other_3 => (l_seq (E1 := fun (p6 : ((List ((List Int) × Int)) × (List Int))) => [.tok, .sh (D.int x_wires_1), .sh ((eT D.int) x_one_2), .sh ((eT D.int) x_other_3), .sh ((eK (eT D.int) D.int) p6.1), .sh ((eT D.int) p6.2), .no, .no, .no, .no, .no, .no, .no, .no]) (u_par (a_v (fun (a : (List ((List Int) × Int))) => .sh ((eK (eT D.int) D.int) a)) (fun (a : (List ((List Int) × Int))) => [.tok, .sh (D.int x_wires_1), .sh ((eT D.int) x_one_2), .sh ((eT D.int) x_other_3), .no, .no, .no, .no, .no, .no, .no, .no, .no, .no]) (x_shr (eK (eT D.int) D.int) (fun (a : (List ((List Int) × Int))) => .ow ((eK (eT D.int) D.int) a)) (fun (a : (List ((List Int) × Int))) => [.tok, .sh (D.int x_wires_1), .sh ((eT D.int) x_one_2), .sh ((eT D.int) x_other_3), .no, .no, .no, .no, .no, .no, .no, .no, .no, .no]) (u_call (a_p rfl (a_nil (z_call (e2 := [.tok, .sh (D.int x_wires_1), .sh ((eT D.int) x_one_2), .sh ((eT D.int) x_other_3), .no, .no, .no, .no, .no, .no, .no, .no, .no, .no]) rfl rfl rfl (fun _ => rfl) (y_sum_of (x_one_2)))))) (fun _ => rfl)) fun v4 => (a_v (fun (a : (List Int)) => .sh ((eT D.int) a)) (fun (a : (List Int)) => [.tok, .sh (D.int x_wires_1), .sh ((eT D.int) x_one_2), .sh ((eT D.int) x_other_3), .no, .no, .no, .no, .no, .no, .no, .no, .no, .no]) (x_shr (eT D.int) (fun (a : (List Int)) => .sh ((eT D.int) a)) (fun (a : (List Int)) => [.tok, .sh (D.int x_wires_1), .sh ((eT D.int) x_one_2), .sh ((eT D.int) x_other_3), .no, .no, .no, .no, .no, .no, .no, .no, .no, .no]) (u_call (a_p rfl (a_nil (z_call (e2 := [.tok, .sh (D.int x_wires_1), .sh ((eT D.int) x_one_2), .sh ((eT D.int) x_other_3), .no, .no, .no, .no, .no, .no, .no, .no, .no, .no]) rfl rfl rfl (fun _ => rfl) (y_code (x_one_2)))))) (fun _ => rfl)) fun v5 => (a_nil (n_done (v4, v5) rfl))))) fun p6 => (l_seq (E1 := fun (x_row_10 : (List Int)) => [.tok, .sh (D.int x_wires_1), .sh ((eT D.int) x_one_2), .sh ((eT D.int) x_other_3), .sh ((eK (eT D.int) D.int) p6.1), .sh ((eT D.int) p6.2), .sh ((eT D.int) x_row_10), .no, .no, .no, .no, .no, .no, .no]) (n_set (fun (a : (List Int)) => .sh ((eT D.int) a)) (fun (a : (List Int)) => [.tok, .sh (D.int x_wires_1), .sh ((eT D.int) x_one_2), .sh ((eT D.int) x_other_3), .sh ((eK (eT D.int) D.int) p6.1), .sh ((eT D.int) p6.2), .no, .no, .no, .no, .no, .no, .no, .no]) (u_N (a_v (fun (a : (List Int)) => .ow ((eL D.int) a)) (fun (a : (List Int)) => [.tok, .sh (D.int x_wires_1), .sh ((eT D.int) x_one_2), .sh ((eT D.int) x_other_3), .sh ((eK (eT D.int) D.int) p6.1), .sh ((eT D.int) p6.2), .no, .no, .no, .no, .no, .no, .no, .no]) (u_sl (k_v (fun (a : (List Int)) => .ow ((eL D.int) a)) (fun (a : (List Int)) => [.tok, .sh (D.int x_wires_1), .sh ((eT D.int) x_one_2), .sh ((eT D.int) x_other_3), .sh ((eK (eT D.int) D.int) p6.1), .sh ((eT D.int) p6.2), .no, .no, .no, .no, .no, .no, .no, .no]) (u_2 (k_p (q_N (q_cons rfl q_nil) rfl) (k_v (fun (a : (List Int)) => .ow ((eL D.int) a)) (fun (a : (List Int)) => [.tok, .sh (D.int x_wires_1), .sh ((eT D.int) x_one_2), .sh ((eT D.int) x_other_3), .sh ((eK (eT D.int) D.int) p6.1), .sh ((eT D.int) p6.2), .no, .no, .no, .no, .no, .no, .no, .no]) (u_2 (k_p (p_lst (q_cons rfl q_nil) rfl (Nat.le_of_ble_eq_true rfl)) (k_p rfl (z_repL D.int [(0 : Int)] (5 : Int) fun _ => rfl)))) fun v7 => (z_appL D.int p6.2 v7 fun _ => rfl)))) fun v8 => (k_p rfl (k_p (kq_p rfl) (z_ok (cutG v8 none (some (5 : Int))) (o_slL D.int v8 none (some (5 : Int))) rfl))))) fun v9 => (a_nil (z_ok v9 rfl rfl)))) fun _ => rfl) fun x_row_10 => (l_stop (t_or (t_B (u_2 (k_p rfl (k_v (fun (a : (List ((List Int) × Int))) => .ow ((eK (eT D.int) D.int) a)) (fun (a : (List ((List Int) × Int))) => [.tok, .sh (D.int x_wires_1), .sh ((eT D.int) x_one_2), .sh ((eT D.int) x_other_3), .sh ((eK (eT D.int) D.int) p6.1), .sh ((eT D.int) p6.2), .sh ((eT D.int) x_row_10), .no, .no, .no, .no, .no, .no, .no]) (u_call (a_p rfl (a_nil (z_call (e2 := [.tok, .sh (D.int x_wires_1), .sh ((eT D.int) x_one_2), .sh ((eT D.int) x_other_3), .sh ((eK (eT D.int) D.int) p6.1), .sh ((eT D.int) p6.2), .sh ((eT D.int) x_row_10), .no, .no, .no, .no, .no, .no, .no]) rfl rfl rfl (fun _ => rfl) (y__law_sum (x_one_2)))))) fun v11 => (z_ok (!eqK p6.1 v11) (o_eqK1 (ev := D.int) EncK.ints Enc.int (Nat.le_of_ble_eq_true rfl) p6.1 v11) rfl))))) (t_or (t_B (u_2 (k_v (fun (a : (List Int)) => .sh ((eT D.int) a)) (fun (a : (List Int)) => [.tok, .sh (D.int x_wires_1), .sh ((eT D.int) x_one_2), .sh ((eT D.int) x_other_3), .sh ((eK (eT D.int) D.int) p6.1), .sh ((eT D.int) p6.2), .sh ((eT D.int) x_row_10), .no, .no, .no, .no, .no, .no, .no]) (u_call (a_p rfl (a_nil (z_call (e2 := [.tok, .sh (D.int x_wires_1), .sh ((eT D.int) x_one_2), .sh ((eT D.int) x_other_3), .sh ((eK (eT D.int) D.int) p6.1), .sh ((eT D.int) p6.2), .sh ((eT D.int) x_row_10), .no, .no, .no, .no, .no, .no, .no]) rfl rfl rfl (fun _ => rfl) (y__law_last (p6.1)))))) fun v12 => (k_p rfl (z_ok (!decide (v12 = x_row_10)) (Enc.opNe (e := (eT D.int)) (Enc.tup Enc.int) (Nat.le_of_ble_eq_true rfl) v12 x_row_10) rfl))))) (t_or (t_B (u_2 (k_v (fun (a : Int) => .sh (D.int a)) (fun (a : Int) => [.tok, .sh (D.int x_wires_1), .sh ((eT D.int) x_one_2), .sh ((eT D.int) x_other_3), .sh ((eK (eT D.int) D.int) p6.1), .sh ((eT D.int) p6.2), .sh ((eT D.int) x_row_10), .no, .no, .no, .no, .no, .no, .no]) (u_2 (k_p rfl (k_p rfl (z_get (getK p6.1 x_row_10) (o_ixA EncK.ints p6.1 x_row_10) fun _ => rfl)))) fun v13 => (k_p rfl (z_ok (!decide (v13 = (1 : Int))) (Enc.opNe (e := D.int) Enc.int (Nat.le_of_ble_eq_true rfl) v13 (1 : Int)) rfl))))) (t_B (u_2 (k_v (fun (a : (List (List Int))) => .ow ((eL (eT D.int)) a)) (fun (a : (List (List Int))) => [.tok, .sh (D.int x_wires_1), .sh ((eT D.int) x_one_2), .sh ((eT D.int) x_other_3), .sh ((eK (eT D.int) D.int) p6.1), .sh ((eT D.int) p6.2), .sh ((eT D.int) x_row_10), .no, .no, .no, .no, .no, .no, .no]) (x_lc (eT D.int) (eT D.int) (fun (c14 : (List Int)) => [.tok, .sh (D.int x_wires_1), .sh ((eT D.int) x_one_2), .sh ((eT D.int) x_other_3), .sh ((eK (eT D.int) D.int) p6.1), .sh ((eT D.int) p6.2), .sh ((eT D.int) x_row_10), .sh ((eT D.int) c14), .no, .no, .no, .no, .no, .no]) (fun (a : (List Int)) => .sh ((eT D.int) a)) (w_keys (ek := (eT D.int)) (ev := D.int) p6.1 rfl rfl) rfl rfl (fun _ => rfl) (fun c14 => (t_or (t_B (u_2 (k_p (q_N (q_cons rfl q_nil) (o_sumT c14)) (k_v (fun (a : Int) => .sh (D.int a)) (fun (a : Int) => [.tok, .sh (D.int x_wires_1), .sh ((eT D.int) x_one_2), .sh ((eT D.int) x_other_3), .sh ((eK (eT D.int) D.int) p6.1), .sh ((eT D.int) p6.2), .sh ((eT D.int) x_row_10), .sh ((eT D.int) c14), .no, .no, .no, .no, .no, .no]) (u_call (a_p rfl (a_nil (z_call (e2 := [.tok, .sh (D.int x_wires_1), .sh ((eT D.int) x_one_2), .sh ((eT D.int) x_other_3), .sh ((eK (eT D.int) D.int) p6.1), .sh ((eT D.int) p6.2), .sh ((eT D.int) x_row_10), .sh ((eT D.int) c14), .no, .no, .no, .no, .no, .no]) rfl rfl rfl (fun _ => rfl) (y_many_crossings (x_one_2)))))) fun v15 => (z_ok (!decide ((List.sum c14) = v15)) (Enc.opNe (e := D.int) Enc.int (Nat.le_of_ble_eq_true rfl) (List.sum c14) v15) rfl))))) (t_B (u_2 (k_v (fun (a : Int) => .sh (D.int a)) (fun (a : Int) => [.tok, .sh (D.int x_wires_1), .sh ((eT D.int) x_one_2), .sh ((eT D.int) x_other_3), .sh ((eK (eT D.int) D.int) p6.1), .sh ((eT D.int) p6.2), .sh ((eT D.int) x_row_10), .sh ((eT D.int) c14), .no, .no, .no, .no, .no, .no]) (u_2 (k_p rfl (k_p rfl (z_get (getK p6.1 c14) (o_ixA EncK.ints p6.1 c14) fun _ => rfl)))) fun v16 => (k_p rfl (z_ok (decide (v16 < (1 : Int))) rfl rfl))))))) (fun c14 => (x_p (fun (a : (List Int)) => .sh ((eT D.int) a)) c14 rfl)) (fun _ _ => rfl) (fun _ => rfl) (fun _ => rfl)) fun v18 => (k_p (p_lst q_nil rfl (Nat.le_of_ble_eq_true rfl)) (z_ok (!decide (v18 = ([] : List (List Int)))) (Enc.opNe (e := (eL (eT D.int))) (Enc.lst (Enc.tup Enc.int)) (Nat.le_of_ble_eq_true rfl) v18 ([] : List (List Int))) rfl)))))))) (l_retP false rfl rfl rfl) (l_stop (t_B (u_2 (k_p (q_2 (q_N (q_cons rfl q_nil) (o_lenK (eT D.int) D.int p6.1)) rfl (Enc.opEq (e := D.int) Enc.int (Nat.le_of_ble_eq_true rfl) (p6.1.length : Int) (1 : Int))) (k_v (fun (a : Bool) => .sh (D.bl a)) (fun (a : Bool) => [.tok, .sh (D.int x_wires_1), .sh ((eT D.int) x_one_2), .sh ((eT D.int) x_other_3), .sh ((eK (eT D.int) D.int) p6.1), .sh ((eT D.int) p6.2), .sh ((eT D.int) x_row_10), .no, .no, .no, .no, .no, .no, .no]) (u_2 (k_v (fun (a : (List Int)) => .ow ((eL D.int) a)) (fun (a : (List Int)) => [.tok, .sh (D.int x_wires_1), .sh ((eT D.int) x_one_2), .sh ((eT D.int) x_other_3), .sh ((eK (eT D.int) D.int) p6.1), .sh ((eT D.int) p6.2), .sh ((eT D.int) x_row_10), .no, .no, .no, .no, .no, .no, .no]) (x_lcp (p := fun (c23 : Int) => (!decide (c23 = (0 : Int)))) (v := fun (c23 : Int) => c23) (s := fun (c23 : Int) => (.sh (D.int c23))) D.int D.int (fun (c23 : Int) => [.tok, .sh (D.int x_wires_1), .sh ((eT D.int) x_one_2), .sh ((eT D.int) x_other_3), .sh ((eK (eT D.int) D.int) p6.1), .sh ((eT D.int) p6.2), .sh ((eT D.int) x_row_10), .no, .sh (D.int c23), .no, .no, .no, .no, .no]) (w_src (fun (a : (List Int)) => .ow ((eL D.int) a)) (fun (a : (List Int)) => [.tok, .sh (D.int x_wires_1), .sh ((eT D.int) x_one_2), .sh ((eT D.int) x_other_3), .sh ((eK (eT D.int) D.int) p6.1), .sh ((eT D.int) p6.2), .sh ((eT D.int) x_row_10), .no, .no, .no, .no, .no, .no, .no]) (x_lv (ek := (eP D.int D.int)) (ev := D.int) (fun (a : (List ((Int × Int) × Int))) => .ow ((eK (eP D.int D.int) D.int) a)) (u_call (a_p rfl (a_nil (z_call (e2 := [.tok, .sh (D.int x_wires_1), .sh ((eT D.int) x_one_2), .sh ((eT D.int) x_other_3), .sh ((eK (eT D.int) D.int) p6.1), .sh ((eT D.int) p6.2), .sh ((eT D.int) x_row_10), .no, .no, .no, .no, .no, .no, .no]) rfl rfl rfl (fun _ => rfl) (y_told_by_corners (x_one_2)))))) (fun _ => rfl) (fun _ => rfl)) fun _ => rfl) rfl rfl (fun _ => rfl) (fun c23 => (q_tB (q_2 rfl rfl (Enc.opNe (e := D.int) Enc.int (Nat.le_of_ble_eq_true rfl) c23 (0 : Int))) rfl)) (fun c23 => rfl) (fun _ => rfl) (fun _ => rfl) (fun _ => rfl)) fun v24 => (k_p (p_lst q_nil rfl (Nat.le_of_ble_eq_true rfl)) (z_ok (decide (v24 = ([] : List Int))) (Enc.opEq (e := (eL D.int)) (Enc.lst Enc.int) (Nat.le_of_ble_eq_true rfl) v24 ([] : List Int)) rfl)))) fun v25 => (z_ok (!decide ((decide ((p6.1.length : Int) = (1 : Int))) = v25)) (Enc.opNe (e := D.bl) Enc.bl (Nat.le_of_ble_eq_true rfl) (decide ((p6.1.length : Int) = (1 : Int))) v25) rfl))))) (l_retP false rfl rfl rfl) (l_seq (E1 := fun (x_falls_28 : (List Int)) => [.tok, .sh (D.int x_wires_1), .sh ((eT D.int) x_one_2), .sh ((eT D.int) x_other_3), .sh ((eK (eT D.int) D.int) p6.1), .sh ((eT D.int) p6.2), .sh ((eT D.int) x_row_10), .no, .no, .ow ((eL D.int) x_falls_28), .no, .no, .no, .no]) (n_set (fun (a : (List Int)) => .ow ((eL D.int) a)) (fun (a : (List Int)) => [.tok, .sh (D.int x_wires_1), .sh ((eT D.int) x_one_2), .sh ((eT D.int) x_other_3), .sh ((eK (eT D.int) D.int) p6.1), .sh ((eT D.int) p6.2), .sh ((eT D.int) x_row_10), .no, .no, .no, .no, .no, .no, .no]) (x_lc D.int D.int (fun (c26 : Int) => [.tok, .sh (D.int x_wires_1), .sh ((eT D.int) x_one_2), .sh ((eT D.int) x_other_3), .sh ((eK (eT D.int) D.int) p6.1), .sh ((eT D.int) p6.2), .sh ((eT D.int) x_row_10), .no, .no, .no, .sh (D.int c26), .no, .no, .no]) (fun (a : Int) => .sh (D.int a)) (u_rng (a_p rfl (a_p rfl (a_nil (g_rng2 rfl))))) rfl rfl (fun _ => rfl) (fun c26 => (t_B (u_2 (k_p (p_tup (q_cons rfl (q_cons (q_2 rfl rfl rfl) q_nil)) rfl (Nat.le_of_ble_eq_true rfl)) (k_v (fun (a : (List (Int × Int))) => .sh ((eT (eP D.int D.int)) a)) (fun (a : (List (Int × Int))) => [.tok, .sh (D.int x_wires_1), .sh ((eT D.int) x_one_2), .sh ((eT D.int) x_other_3), .sh ((eK (eT D.int) D.int) p6.1), .sh ((eT D.int) p6.2), .sh ((eT D.int) x_row_10), .no, .no, .no, .sh (D.int c26), .no, .no, .no]) (u_call (a_p rfl (a_nil (z_call (e2 := [.tok, .sh (D.int x_wires_1), .sh ((eT D.int) x_one_2), .sh ((eT D.int) x_other_3), .sh ((eK (eT D.int) D.int) p6.1), .sh ((eT D.int) p6.2), .sh ((eT D.int) x_row_10), .no, .no, .no, .sh (D.int c26), .no, .no, .no]) rfl rfl rfl (fun _ => rfl) (y_doubles (x_one_2)))))) fun v27 => (z_ok (memB (c26, (c26 + (1 : Int))) v27) (o_inT (e := (eP D.int D.int)) (Enc.pair Enc.int Enc.int) (Nat.le_of_ble_eq_true rfl) (c26, (c26 + (1 : Int))) v27) rfl)))))) (fun c26 => (x_p (fun (a : Int) => .sh (D.int a)) c26 rfl)) (fun _ _ => rfl) (fun _ => rfl) (fun _ => rfl)) fun _ => rfl) fun x_falls_28 => (l_seq (E1 := fun (x_used_33 : (List Int)) => [.tok, .sh (D.int x_wires_1), .sh ((eT D.int) x_one_2), .sh ((eT D.int) x_other_3), .sh ((eK (eT D.int) D.int) p6.1), .sh ((eT D.int) p6.2), .sh ((eT D.int) x_row_10), .no, .no, .ow ((eL D.int) x_falls_28), .no, .ow ((eL D.int) x_used_33), .no, .no]) (n_set (fun (a : (List Int)) => .ow ((eL D.int) a)) (fun (a : (List Int)) => [.tok, .sh (D.int x_wires_1), .sh ((eT D.int) x_one_2), .sh ((eT D.int) x_other_3), .sh ((eK (eT D.int) D.int) p6.1), .sh ((eT D.int) p6.2), .sh ((eT D.int) x_row_10), .no, .no, .ow ((eL D.int) x_falls_28), .no, .no, .no, .no]) (x_lc D.int D.int (fun (c29 : Int) => [.tok, .sh (D.int x_wires_1), .sh ((eT D.int) x_one_2), .sh ((eT D.int) x_other_3), .sh ((eK (eT D.int) D.int) p6.1), .sh ((eT D.int) p6.2), .sh ((eT D.int) x_row_10), .no, .no, .ow ((eL D.int) x_falls_28), .sh (D.int c29), .no, .no, .no]) (fun (a : Int) => .sh (D.int a)) (u_rng (a_p rfl (a_p rfl (a_nil (g_rng2 rfl))))) rfl rfl (fun _ => rfl) (fun c29 => (t_B (u_2 (k_v (fun (a : (List (List Int))) => .ow ((eL (eT D.int)) a)) (fun (a : (List (List Int))) => [.tok, .sh (D.int x_wires_1), .sh ((eT D.int) x_one_2), .sh ((eT D.int) x_other_3), .sh ((eK (eT D.int) D.int) p6.1), .sh ((eT D.int) p6.2), .sh ((eT D.int) x_row_10), .no, .no, .ow ((eL D.int) x_falls_28), .sh (D.int c29), .no, .no, .no]) (x_lc (eT D.int) (eT D.int) (fun (c30 : (List Int)) => [.tok, .sh (D.int x_wires_1), .sh ((eT D.int) x_one_2), .sh ((eT D.int) x_other_3), .sh ((eK (eT D.int) D.int) p6.1), .sh ((eT D.int) p6.2), .sh ((eT D.int) x_row_10), .sh ((eT D.int) c30), .no, .ow ((eL D.int) x_falls_28), .sh (D.int c29), .no, .no, .no]) (fun (a : (List Int)) => .sh ((eT D.int) a)) (w_keys (ek := (eT D.int)) (ev := D.int) p6.1 rfl rfl) rfl rfl (fun _ => rfl) (fun c30 => (t_B (u_2 (k_v (fun (a : Int) => .sh (D.int a)) (fun (a : Int) => [.tok, .sh (D.int x_wires_1), .sh ((eT D.int) x_one_2), .sh ((eT D.int) x_other_3), .sh ((eK (eT D.int) D.int) p6.1), .sh ((eT D.int) p6.2), .sh ((eT D.int) x_row_10), .sh ((eT D.int) c30), .no, .ow ((eL D.int) x_falls_28), .sh (D.int c29), .no, .no, .no]) (u_2 (k_p rfl (k_p (q_2 rfl rfl rfl) (z_get (atI c30 (c29 - (1 : Int))) (o_ixT D.int c30 (c29 - (1 : Int))) fun _ => rfl)))) fun v31 => (k_p rfl (z_ok (decide ((0 : Int) < v31)) rfl rfl)))))) (fun c30 => (x_p (fun (a : (List Int)) => .sh ((eT D.int) a)) c30 rfl)) (fun _ _ => rfl) (fun _ => rfl) (fun _ => rfl)) fun v32 => (k_p (p_lst q_nil rfl (Nat.le_of_ble_eq_true rfl)) (z_ok (!decide (v32 = ([] : List (List Int)))) (Enc.opNe (e := (eL (eT D.int))) (Enc.lst (Enc.tup Enc.int)) (Nat.le_of_ble_eq_true rfl) v32 ([] : List (List Int))) rfl)))))) (fun c29 => (x_p (fun (a : Int) => .sh (D.int a)) c29 rfl)) (fun _ _ => rfl) (fun _ => rfl) (fun _ => rfl)) fun _ => rfl) fun x_used_33 => (l_stop (t_B (u_2 (k_p rfl (k_v (fun (a : (List Int)) => .ow ((eL D.int) a)) (fun (a : (List Int)) => [.tok, .sh (D.int x_wires_1), .sh ((eT D.int) x_one_2), .sh ((eT D.int) x_other_3), .sh ((eK (eT D.int) D.int) p6.1), .sh ((eT D.int) p6.2), .sh ((eT D.int) x_row_10), .no, .no, .ow ((eL D.int) x_falls_28), .no, .ow ((eL D.int) x_used_33), .no, .no]) (u_rg2 (k_p rfl (k_v (fun (a : Int) => .sh (D.int a)) (fun (a : Int) => [.tok, .sh (D.int x_wires_1), .sh ((eT D.int) x_one_2), .sh ((eT D.int) x_other_3), .sh ((eK (eT D.int) D.int) p6.1), .sh ((eT D.int) p6.2), .sh ((eT D.int) x_row_10), .no, .no, .ow ((eL D.int) x_falls_28), .no, .ow ((eL D.int) x_used_33), .no, .no]) (u_2 (k_v (fun (a : Int) => .sh (D.int a)) (fun (a : Int) => [.tok, .sh (D.int x_wires_1), .sh ((eT D.int) x_one_2), .sh ((eT D.int) x_other_3), .sh ((eK (eT D.int) D.int) p6.1), .sh ((eT D.int) p6.2), .sh ((eT D.int) x_row_10), .no, .no, .ow ((eL D.int) x_falls_28), .no, .ow ((eL D.int) x_used_33), .no, .no]) (x_IfP (q_tB (q_2 rfl (p_lst q_nil rfl (Nat.le_of_ble_eq_true rfl)) (Enc.opNe (e := (eL D.int)) (Enc.lst Enc.int) (Nat.le_of_ble_eq_true rfl) x_falls_28 ([] : List Int))) rfl) (u_2 (k_p rfl (k_p (q_1 rfl rfl) (z_get (atI x_falls_28 (-(1 : Int))) (o_ixL D.int x_falls_28 (-(1 : Int))) fun _ => rfl)))) (x_p (fun (a : Int) => .sh (D.int a)) (0 : Int) rfl)) fun v34 => (k_p rfl (z_ok (v34 + (1 : Int)) rfl rfl)))) fun v35 => (z_rg2 rfl rfl (fun _ => rfl) (fun _ => rfl))))) fun v36 => (z_ok (!decide (x_used_33 = v36)) (Enc.opNe (e := (eL D.int)) (Enc.lst Enc.int) (Nat.le_of_ble_eq_true rfl) x_used_33 v36) rfl))))) (l_retP false rfl rfl rfl) (l_seq (E1 := fun (x_rows_40 : (List Int)) => [.tok, .sh (D.int x_wires_1), .sh ((eT D.int) x_one_2), .sh ((eT D.int) x_other_3), .sh ((eK (eT D.int) D.int) p6.1), .sh ((eT D.int) p6.2), .sh ((eT D.int) x_row_10), .no, .no, .ow ((eL D.int) x_falls_28), .no, .ow ((eL D.int) x_used_33), .ow ((eL D.int) x_rows_40), .no]) (n_set (fun (a : (List Int)) => .ow ((eL D.int) a)) (fun (a : (List Int)) => [.tok, .sh (D.int x_wires_1), .sh ((eT D.int) x_one_2), .sh ((eT D.int) x_other_3), .sh ((eK (eT D.int) D.int) p6.1), .sh ((eT D.int) p6.2), .sh ((eT D.int) x_row_10), .no, .no, .ow ((eL D.int) x_falls_28), .no, .ow ((eL D.int) x_used_33), .no, .no]) (x_lc D.int D.int (fun (c37 : Int) => [.tok, .sh (D.int x_wires_1), .sh ((eT D.int) x_one_2), .sh ((eT D.int) x_other_3), .sh ((eK (eT D.int) D.int) p6.1), .sh ((eT D.int) p6.2), .sh ((eT D.int) x_row_10), .no, .no, .ow ((eL D.int) x_falls_28), .sh (D.int c37), .ow ((eL D.int) x_used_33), .no, .no]) (fun (a : Int) => .sh (D.int a)) (u_rng (a_p rfl (a_p (q_2 rfl rfl rfl) (a_nil (g_rng2 rfl))))) rfl rfl (fun _ => rfl) (fun c37 => (t_p rfl)) (fun c37 => (u_N (a_v (fun (a : (List (Int × Int))) => .ow ((eL (eP D.int D.int)) a)) (fun (a : (List (Int × Int))) => [.tok, .sh (D.int x_wires_1), .sh ((eT D.int) x_one_2), .sh ((eT D.int) x_other_3), .sh ((eK (eT D.int) D.int) p6.1), .sh ((eT D.int) p6.2), .sh ((eT D.int) x_row_10), .no, .no, .ow ((eL D.int) x_falls_28), .sh (D.int c37), .ow ((eL D.int) x_used_33), .no, .no]) (x_lcp (p := fun (c38 : (Int × Int)) => (decide (c38.1 = c37))) (v := fun (c38 : (Int × Int)) => c38) (s := fun (c38 : (Int × Int)) => (.sh ((eP D.int D.int) c38))) (eP D.int D.int) (eP D.int D.int) (fun (c38 : (Int × Int)) => [.tok, .sh (D.int x_wires_1), .sh ((eT D.int) x_one_2), .sh ((eT D.int) x_other_3), .sh ((eK (eT D.int) D.int) p6.1), .sh ((eT D.int) p6.2), .sh ((eT D.int) x_row_10), .no, .no, .ow ((eL D.int) x_falls_28), .sh (D.int c37), .ow ((eL D.int) x_used_33), .no, .sh ((eP D.int D.int) c38)]) (w_src (fun (a : (List (Int × Int))) => .sh ((eT (eP D.int D.int)) a)) (fun (a : (List (Int × Int))) => [.tok, .sh (D.int x_wires_1), .sh ((eT D.int) x_one_2), .sh ((eT D.int) x_other_3), .sh ((eK (eT D.int) D.int) p6.1), .sh ((eT D.int) p6.2), .sh ((eT D.int) x_row_10), .no, .no, .ow ((eL D.int) x_falls_28), .sh (D.int c37), .ow ((eL D.int) x_used_33), .no, .no]) (u_call (a_p rfl (a_nil (z_call (e2 := [.tok, .sh (D.int x_wires_1), .sh ((eT D.int) x_one_2), .sh ((eT D.int) x_other_3), .sh ((eK (eT D.int) D.int) p6.1), .sh ((eT D.int) p6.2), .sh ((eT D.int) x_row_10), .no, .no, .ow ((eL D.int) x_falls_28), .sh (D.int c37), .ow ((eL D.int) x_used_33), .no, .no]) rfl rfl rfl (fun _ => rfl) (y_diagram (x_one_2)))))) fun _ => rfl) rfl rfl (fun _ => rfl) (fun c38 => (q_tB (q_2 (q_2 rfl rfl rfl) rfl (Enc.opEq (e := D.int) Enc.int (Nat.le_of_ble_eq_true rfl) c38.1 c37)) rfl)) (fun c38 => rfl) (fun _ => rfl) (fun _ => rfl) (fun _ => rfl)) fun v39 => (a_nil (z_ok (v39.length : Int) (o_lenL (eP D.int D.int) v39) rfl))))) (fun _ _ => rfl) (fun _ => rfl) (fun _ => rfl)) fun _ => rfl) fun x_rows_40 => (l_ret (fun _ => [.tok, .sh (D.int x_wires_1), .sh ((eT D.int) x_one_2), .sh ((eT D.int) x_other_3), .sh ((eK (eT D.int) D.int) p6.1), .sh ((eT D.int) p6.2), .sh ((eT D.int) x_row_10), .no, .no, .ow ((eL D.int) x_falls_28), .no, .ow ((eL D.int) x_used_33), .ow ((eL D.int) x_rows_40), .no]) (fun _ => [.tok, .sh (D.int x_wires_1), .sh ((eT D.int) x_one_2), .sh ((eT D.int) x_other_3), .sh ((eK (eT D.int) D.int) p6.1), .sh ((eT D.int) p6.2), .sh ((eT D.int) x_row_10), .no, .no, .ow ((eL D.int) x_falls_28), .no, .ow ((eL D.int) x_used_33), .ow ((eL D.int) x_rows_40), .no]) (x_AndP (q_2 (q_N (q_cons rfl q_nil) rfl) rfl (Enc.opEq (e := (eT D.int)) (Enc.tup Enc.int) (Nat.le_of_ble_eq_true rfl) x_rows_40 p6.2)) (u_2 (k_v (fun (a : Bool) => .sh (D.bl a)) (fun (a : Bool) => [.tok, .sh (D.int x_wires_1), .sh ((eT D.int) x_one_2), .sh ((eT D.int) x_other_3), .sh ((eK (eT D.int) D.int) p6.1), .sh ((eT D.int) p6.2), .sh ((eT D.int) x_row_10), .no, .no, .ow ((eL D.int) x_falls_28), .no, .ow ((eL D.int) x_used_33), .ow ((eL D.int) x_rows_40), .no]) (u_2 (k_v (fun (a : (List ((List Int) × Int))) => .ow ((eK (eT D.int) D.int) a)) (fun (a : (List ((List Int) × Int))) => [.tok, .sh (D.int x_wires_1), .sh ((eT D.int) x_one_2), .sh ((eT D.int) x_other_3), .sh ((eK (eT D.int) D.int) p6.1), .sh ((eT D.int) p6.2), .sh ((eT D.int) x_row_10), .no, .no, .ow ((eL D.int) x_falls_28), .no, .ow ((eL D.int) x_used_33), .ow ((eL D.int) x_rows_40), .no]) (u_call (a_p rfl (a_nil (z_call (e2 := [.tok, .sh (D.int x_wires_1), .sh ((eT D.int) x_one_2), .sh ((eT D.int) x_other_3), .sh ((eK (eT D.int) D.int) p6.1), .sh ((eT D.int) p6.2), .sh ((eT D.int) x_row_10), .no, .no, .ow ((eL D.int) x_falls_28), .no, .ow ((eL D.int) x_used_33), .ow ((eL D.int) x_rows_40), .no]) rfl rfl rfl (fun _ => rfl) (y_sum_of (x_other_3)))))) fun v41 => (k_p rfl (z_ok (eqK v41 p6.1) (o_eqK0 (ev := D.int) EncK.ints Enc.int (Nat.le_of_ble_eq_true rfl) v41 p6.1) rfl)))) fun v42 => (k_p (q_2 rfl rfl (Enc.opEq (e := (eT D.int)) (Enc.tup Enc.int) (Nat.le_of_ble_eq_true rfl) x_one_2 x_other_3)) (z_ok (decide (v42 = (decide (x_one_2 = x_other_3)))) (Enc.opEq (e := D.bl) Enc.bl (Nat.le_of_ble_eq_true rfl) v42 (decide (x_one_2 = x_other_3))) rfl))))) (fun _ => rfl) (fun _ => rfl)))))))))))))
def r_law (x_script : (List Int)) : R Bool :=
  (R.bind (if x_script.length ≤ 1000 then R.ok () else R.bad) fun (_u : Unit) => (R.onT (R.bind (R.rng 0 ((3 : Int) + (if (7 : Int) < (x_script.length : Int) then (7 : Int) else (x_script.length : Int)))) fun l => R.forL (fun (s1 : ((Option Int))) (c2 : Int) => (R.bind (R.bind r__law_right fun b3 => .ok (!b3)) fun b4 => if b4 = true then (R.jmp (R.bind (R.ok false) fun a => .ok (J.rt a))) else (R.ok (O.nx (some c2))))) l (none : Option Int)) fun (s5 : ((Option Int))) => (R.ok true)))
theorem y_law (x_script : (List Int)) : Fs (fun (a : Bool) => .sh (D.bl a)) (f_law [D.fz x_script]) (r_law x_script) := by
  unfold r_law
  exact f_tl [.sh (D.fz x_script), .no, .no] rfl (fun _ => .inl ⟨_, rfl⟩) (l_seq (E1 := fun (_u : Unit) => [.sh (D.fz x_script), .tok, .no]) (n_begun x_script rfl rfl) fun _u => (l_on (Ea := fun (s1 : ((Option Int))) => [.sh (D.fz x_script), .tok, (oS (fun a => .sh (D.int a)) s1)]) (b_for (E := fun (s1 : ((Option Int))) => [.sh (D.fz x_script), .tok, (oS (fun a => .sh (D.int a)) s1)]) D.int (fun (s1 : ((Option Int))) (c2 : Int) => [.sh (D.fz x_script), .tok, .sh (D.int c2)]) (none : Option Int) (u_rng (a_p (q_2 rfl (q_N (q_cons (q_N (q_cons rfl q_nil) (o_lenF x_script)) (q_cons rfl q_nil)) rfl) rfl) (a_nil (g_rng1 rfl)))) rfl (fun _ _ => rfl) fun s1 c2 => (b_if (t_not (t_TB (u_call (a_p rfl (a_nil (z_callD (e2 := [.sh (D.fz x_script), .tok, .sh (D.int c2)]) rfl rfl rfl rfl (fun _ => rfl) y__law_right)))))) (b_jmp (j_l (l_retP false rfl rfl rfl))) (b_skip (some c2) rfl))) fun s5 => (l_retP true rfl rfl rfl)))
end Kk54

namespace Kk54
open PySem PySem.Spec PyProof.Rows L2 T
--  [('x_wires_1', 'Int'), ('x_one_2', '(List Int)'), ('x_other_3', '(List Int)')]
def chk (x_wires_1 : Int) (x_one_2 : List Int) : Bool :=
  (R.thru (R.bind (r_sum_of (x_one_2)) fun (v4 : (List ((List Int) × Int))) => (R.bind (r_code (x_one_2)) fun (v5 : (List Int)) => (R.ok (v4, v5)))) fun (p6 : ((List ((List Int) × Int)) × (List Int))) => (R.thru (R.bind (R.bind (R.bind (R.rep [(0 : Int)] (5 : Int)) fun (v7 : (List Int)) => (R.app p6.2 v7)) fun (v8 : (List Int)) => (R.ok (cutG v8 none (some (5 : Int))))) fun (v9 : (List Int)) => (R.ok v9)) fun (x_row_10 : (List Int)) => (R.thru (R.bind (R.bind (r__law_sum (x_one_2)) fun (v11 : (List ((List Int) × Int))) => (R.ok (!eqK p6.1 v11))) fun b21 => if b21 = true then .ok true else (R.bind (R.bind (r__law_last (p6.1)) fun (v12 : (List Int)) => (R.ok (!decide (v12 = x_row_10)))) fun b20 => if b20 = true then .ok true else (R.bind (R.bind (R.get (getK p6.1 x_row_10)) fun (v13 : Int) => (R.ok (!decide (v13 = (1 : Int))))) fun b19 => if b19 = true then .ok true else (R.bind (R.bind (R.ok (List.map (fun p => p.1) p6.1)) (R.lc (fun (c14 : (List Int)) => (R.bind (R.bind (r_many_crossings (x_one_2)) fun (v15 : Int) => (R.ok (!decide ((List.sum c14) = v15)))) fun b17 => if b17 = true then .ok true else (R.bind (R.get (getK p6.1 c14)) fun (v16 : Int) => (R.ok (decide (v16 < (1 : Int))))))) (fun (c14 : (List Int)) => (R.ok c14)))) fun (v18 : (List (List Int))) => (R.ok (!decide (v18 = ([] : List (List Int))))))))) fun b45 => (if b45 = true then false else (R.thru (R.bind (R.bind (R.bind (R.bind (r_told_by_corners (x_one_2)) fun (v22 : (List ((Int × Int) × Int))) => .ok (List.map (fun p => p.2) v22)) (R.lcp (fun (c23 : Int) => (!decide (c23 = (0 : Int)))) (fun (c23 : Int) => c23))) fun (v24 : (List Int)) => (R.ok (decide (v24 = ([] : List Int))))) fun (v25 : Bool) => (R.ok (!decide ((decide ((p6.1.length : Int) = (1 : Int))) = v25)))) fun b44 => (if b44 = true then false else (R.thru (R.bind (R.rng (1 : Int) x_wires_1) (R.lc (fun (c26 : Int) => (R.bind (r_doubles (x_one_2)) fun (v27 : (List (Int × Int))) => (R.ok (memB (c26, (c26 + (1 : Int))) v27)))) (fun (c26 : Int) => (R.ok c26)))) fun (x_falls_28 : (List Int)) => (R.thru (R.bind (R.rng (1 : Int) (6 : Int)) (R.lc (fun (c29 : Int) => (R.bind (R.bind (R.ok (List.map (fun p => p.1) p6.1)) (R.lc (fun (c30 : (List Int)) => (R.bind (R.get (atI c30 (c29 - (1 : Int)))) fun (v31 : Int) => (R.ok (decide ((0 : Int) < v31))))) (fun (c30 : (List Int)) => (R.ok c30)))) fun (v32 : (List (List Int))) => (R.ok (!decide (v32 = ([] : List (List Int))))))) (fun (c29 : Int) => (R.ok c29)))) fun (x_used_33 : (List Int)) => (R.thru (R.bind (R.bind (R.bind (if (!decide (x_falls_28 = ([] : List Int))) = true then (R.get (atI x_falls_28 (-(1 : Int)))) else (R.ok (0 : Int))) fun (v34 : Int) => (R.ok (v34 + (1 : Int)))) fun (v35 : Int) => (R.rgl (1 : Int) v35)) fun (v36 : (List Int)) => (R.ok (!decide (x_used_33 = v36)))) fun b43 => (if b43 = true then false else (R.thru (R.bind (R.rng (1 : Int) (x_wires_1 + (1 : Int))) (R.lc (fun (c37 : Int) => (R.ok true)) (fun (c37 : Int) => (R.bind (R.bind (r_diagram (x_one_2)) (R.lcp (fun (c38 : (Int × Int)) => (decide (c38.1 = c37))) (fun (c38 : (Int × Int)) => c38))) fun (v39 : (List (Int × Int))) => (R.ok (v39.length : Int)))))) fun (x_rows_40 : (List Int)) => (decide (x_rows_40 = p6.2)))))))))))))
def fin (p6 : (List ((List Int) × Int)) × (List Int)) (x_rows_40 x_one_2 x_other_3 : List Int) : R Bool :=
  (if (decide (x_rows_40 = p6.2)) = true then (R.bind (R.bind (r_sum_of (x_other_3)) fun (v41 : (List ((List Int) × Int))) => (R.ok (eqK v41 p6.1))) fun (v42 : Bool) => (R.ok (decide (v42 = (decide (x_one_2 = x_other_3)))))) else .ok false)
def bod (x_wires_1 : Int) (x_one_2 x_other_3 : List Int) : R Bool :=
  (R.bind (R.bind (r_sum_of (x_one_2)) fun (v4 : (List ((List Int) × Int))) => (R.bind (r_code (x_one_2)) fun (v5 : (List Int)) => (R.ok (v4, v5)))) fun (p6 : ((List ((List Int) × Int)) × (List Int))) => (R.bind (R.bind (R.bind (R.bind (R.rep [(0 : Int)] (5 : Int)) fun (v7 : (List Int)) => (R.app p6.2 v7)) fun (v8 : (List Int)) => (R.ok (cutG v8 none (some (5 : Int))))) fun (v9 : (List Int)) => (R.ok v9)) fun (x_row_10 : (List Int)) => (R.bind (R.bind (R.bind (r__law_sum (x_one_2)) fun (v11 : (List ((List Int) × Int))) => (R.ok (!eqK p6.1 v11))) fun b21 => if b21 = true then .ok true else (R.bind (R.bind (r__law_last (p6.1)) fun (v12 : (List Int)) => (R.ok (!decide (v12 = x_row_10)))) fun b20 => if b20 = true then .ok true else (R.bind (R.bind (R.get (getK p6.1 x_row_10)) fun (v13 : Int) => (R.ok (!decide (v13 = (1 : Int))))) fun b19 => if b19 = true then .ok true else (R.bind (R.bind (R.ok (List.map (fun p => p.1) p6.1)) (R.lc (fun (c14 : (List Int)) => (R.bind (R.bind (r_many_crossings (x_one_2)) fun (v15 : Int) => (R.ok (!decide ((List.sum c14) = v15)))) fun b17 => if b17 = true then .ok true else (R.bind (R.get (getK p6.1 c14)) fun (v16 : Int) => (R.ok (decide (v16 < (1 : Int))))))) (fun (c14 : (List Int)) => (R.ok c14)))) fun (v18 : (List (List Int))) => (R.ok (!decide (v18 = ([] : List (List Int))))))))) fun b45 => if b45 = true then (R.ok false) else (R.bind (R.bind (R.bind (R.bind (R.bind (r_told_by_corners (x_one_2)) fun (v22 : (List ((Int × Int) × Int))) => .ok (List.map (fun p => p.2) v22)) (R.lcp (fun (c23 : Int) => (!decide (c23 = (0 : Int)))) (fun (c23 : Int) => c23))) fun (v24 : (List Int)) => (R.ok (decide (v24 = ([] : List Int))))) fun (v25 : Bool) => (R.ok (!decide ((decide ((p6.1.length : Int) = (1 : Int))) = v25)))) fun b44 => if b44 = true then (R.ok false) else (R.bind (R.bind (R.rng (1 : Int) x_wires_1) (R.lc (fun (c26 : Int) => (R.bind (r_doubles (x_one_2)) fun (v27 : (List (Int × Int))) => (R.ok (memB (c26, (c26 + (1 : Int))) v27)))) (fun (c26 : Int) => (R.ok c26)))) fun (x_falls_28 : (List Int)) => (R.bind (R.bind (R.rng (1 : Int) (6 : Int)) (R.lc (fun (c29 : Int) => (R.bind (R.bind (R.ok (List.map (fun p => p.1) p6.1)) (R.lc (fun (c30 : (List Int)) => (R.bind (R.get (atI c30 (c29 - (1 : Int)))) fun (v31 : Int) => (R.ok (decide ((0 : Int) < v31))))) (fun (c30 : (List Int)) => (R.ok c30)))) fun (v32 : (List (List Int))) => (R.ok (!decide (v32 = ([] : List (List Int))))))) (fun (c29 : Int) => (R.ok c29)))) fun (x_used_33 : (List Int)) => (R.bind (R.bind (R.bind (R.bind (if (!decide (x_falls_28 = ([] : List Int))) = true then (R.get (atI x_falls_28 (-(1 : Int)))) else (R.ok (0 : Int))) fun (v34 : Int) => (R.ok (v34 + (1 : Int)))) fun (v35 : Int) => (R.rgl (1 : Int) v35)) fun (v36 : (List Int)) => (R.ok (!decide (x_used_33 = v36)))) fun b43 => if b43 = true then (R.ok false) else (R.bind (R.bind (R.rng (1 : Int) (x_wires_1 + (1 : Int))) (R.lc (fun (c37 : Int) => (R.ok true)) (fun (c37 : Int) => (R.bind (R.bind (r_diagram (x_one_2)) (R.lcp (fun (c38 : (Int × Int)) => (decide (c38.1 = c37))) (fun (c38 : (Int × Int)) => c38))) fun (v39 : (List (Int × Int))) => (R.ok (v39.length : Int)))))) fun (x_rows_40 : (List Int)) => (if (decide (x_rows_40 = p6.2)) = true then (R.bind (R.bind (r_sum_of (x_other_3)) fun (v41 : (List ((List Int) × Int))) => (R.ok (eqK v41 p6.1))) fun (v42 : Bool) => (R.ok (decide (v42 = (decide (x_one_2 = x_other_3)))))) else .ok false)))))))))
theorem chk_ok {x_wires_1 : Int} {x_one_2 x_other_3 : List Int} (hK : ∀ p6, (R.bind (r_sum_of (x_one_2)) fun (v4 : (List ((List Int) × Int))) => (R.bind (r_code (x_one_2)) fun (v5 : (List Int)) => (R.ok (v4, v5)))) = .ok p6 → ∀ x_rows_40, Fi (decide (x_rows_40 = p6.2)) (fin p6 x_rows_40 x_one_2 x_other_3) fun x => x = true) : Fi (chk x_wires_1 x_one_2) (bod x_wires_1 x_one_2 x_other_3) fun x => x = true :=
  (fi_thru fun p6 e_p6 => (fi_thru fun x_row_10 e_x_row_10 => (fi_thru fun b45 e_b45 => (fi_if (fun _ => fi_no) (fun _ => (fi_thru fun b44 e_b44 => (fi_if (fun _ => fi_no) (fun _ => (fi_thru fun x_falls_28 e_x_falls_28 => (fi_thru fun x_used_33 e_x_used_33 => (fi_thru fun b43 e_b43 => (fi_if (fun _ => fi_no) (fun _ => (fi_thru fun x_rows_40 e_x_rows_40 => (hK p6 e_p6 x_rows_40)))))))))))))))
end Kk54

namespace Kk54
open PySem PySem.Spec PyProof.Rows L2 T
set_option maxHeartbeats 0
/-! ### dicts with the same entries -/
abbrev ltI (a b : Int) : Bool := decide (a < b)
theorem sub_back {α : Type} [DecidableEq α] : ∀ {L M : List α}, L.Nodup → (∀ x, x ∈ L → x ∈ M) → M.length ≤ L.length → ∀ x, x ∈ M → x ∈ L
  | [], M, _, _, h => fun x hx => by
    have : M = [] := List.length_eq_zero_iff.mp (by simpa using h)
    rw [this] at hx
    exact hx
  | a :: L, M, hn, hs, h => fun x hx => by
    rw [List.nodup_cons] at hn
    have ha := hs a List.mem_cons_self
    by_cases e : x = a
    · rw [e]; exact List.mem_cons_self
    · refine List.mem_cons_of_mem _ (sub_back (M := M.erase a) hn.2 (fun y hy => ?_) ?_ x ((List.mem_erase_of_ne e).mpr hx))
      · exact (List.mem_erase_of_ne (fun z : y = a => hn.1 (z ▸ hy))).mpr (hs y (List.mem_cons_of_mem _ hy))
      · rw [List.length_erase_of_mem ha]
        rw [List.length_cons] at h
        omega
theorem lex_tri : ∀ {a b : List Int}, lexB ltI a b = false → lexB ltI b a = false → a = b
  | [], [], _, _ => rfl
  | [], _ :: _, h, _ => by cases h
  | _ :: _, [], _, h => by cases h
  | a :: r, b :: s, h1, h2 => by
    rw [lexB] at h1 h2
    by_cases e : a = b
    · subst e
      rw [if_pos rfl] at h1 h2
      rw [lex_tri h1 h2]
    · rw [if_neg e] at h1
      rw [if_neg (Ne.symm e)] at h2
      have := of_decide_eq_false h1
      have := of_decide_eq_false h2
      omega
abbrev Tb := List ((List Int) × Int)
def rw_ (c : List Int) : List Int := (c ++ [0, 0, 0, 0, 0]).take 5
def okT (r : List Int) (t : Tb) : Bool := eqK t t && decide (t.map fun x => x.1).Nodup && (t.map fun x => x.1).all (fun k => !lexB ltI r.reverse k.reverse) && (t.map fun x => x.1).any fun k => decide (k = r)
def okS (p : List Int) : Bool := (r_code p).thru fun c => (r_sum_of p).thru fun t => okT (rw_ c) t
def row (p : List Int) : List Int := match r_code p with
  | .ok c => rw_ c
  | _ => []
structure Tab (p : List Int) (t : Tb) : Prop where
  same : eqK t t = true
  nd : (t.map fun x => x.1).Nodup
  top : ∀ k, k ∈ (t.map fun x => x.1) → lexB ltI (row p).reverse k.reverse = false
  has : row p ∈ (t.map fun x => x.1)
theorem tab {p : List Int} (h : okS p = true) : ∃ t, r_sum_of p = .ok t ∧ Tab p t := by
  obtain ⟨c, e1, h1⟩ := R.thru_ok h
  obtain ⟨t, e2, h2⟩ := R.thru_ok h1
  have er : row p = rw_ c := by unfold row; rw [e1]
  unfold okT at h2
  rw [Bool.and_eq_true, Bool.and_eq_true, Bool.and_eq_true, List.all_eq_true, List.any_eq_true] at h2
  obtain ⟨⟨⟨a, b⟩, d⟩, k, hk, ek⟩ := h2
  refine ⟨t, e2, a, of_decide_eq_true b, fun k hk => ?_, ?_⟩
  · rw [er]
    have := d k hk
    rwa [Bool.not_eq_true'] at this
  · rw [er, ← of_decide_eq_true ek]
    exact hk
theorem getK_mem : ∀ {t : Tb} {k : List Int} {v : Int}, getK t k = some v → k ∈ (t.map fun x => x.1)
  | [], _, _, h => by cases h
  | (a, b) :: t, k, v, h => by
    rw [getK] at h
    rw [List.map_cons]
    by_cases e : a = k
    · rw [← e]; exact List.mem_cons_self
    · rw [if_neg e] at h
      exact List.mem_cons_of_mem _ (getK_mem h)
theorem eqK_sub {l m : Tb} (h : eqK l m = true) : l.length = m.length ∧ ∀ k, k ∈ (l.map fun x => x.1) → k ∈ (m.map fun x => x.1) := by
  unfold eqK at h
  rw [Bool.and_eq_true, List.all_eq_true] at h
  refine ⟨by simpa using h.1, fun k hk => ?_⟩
  obtain ⟨x, hx, rfl⟩ := List.mem_map.mp hk
  have h2 := h.2 x hx
  unfold hasK at h2
  cases e : getK m x.1 with
  | none => rw [e] at h2; cases h2
  | some v => exact getK_mem e
theorem tab_eq {p q : List Int} {t u : Tb} (hp : Tab p t) (hq : Tab q u) (h : eqK u t = true) : row q = row p := by
  obtain ⟨a, b⟩ := eqK_sub h
  have c := sub_back hq.nd b (by rw [List.length_map, List.length_map, a]; exact Nat.le_refl _)
  have := lex_tri (hp.top _ (b _ hq.has)) (hq.top _ (c _ hp.has))
  have h2 := congrArg List.reverse this
  rw [List.reverse_reverse, List.reverse_reverse] at h2
  exact h2.symm
end Kk54

namespace Kk54
open PySem PySem.Spec PyProof.Rows L2 T
set_option maxHeartbeats 0
def good (n : Nat) (p : List Int) : Bool := chk (n : Int) p && okS p
theorem g1 : ((Pm 1).drop 0).all (good 1) = true := by decide +kernel
theorem g2 : ((Pm 2).drop 0).all (good 2) = true := by decide +kernel
theorem g3 : ((Pm 3).drop 0).all (good 3) = true := by decide +kernel
theorem g4 : ((Pm 4).drop 0).all (good 4) = true := by decide +kernel
theorem g5_0 : (((Pm 5).drop (0 + 15 * 0)).take 15).all (good 5) = true := by decide +kernel
theorem g5_1 : (((Pm 5).drop (0 + 15 * 1)).take 15).all (good 5) = true := by decide +kernel
theorem g5_2 : (((Pm 5).drop (0 + 15 * 2)).take 15).all (good 5) = true := by decide +kernel
theorem g5_3 : (((Pm 5).drop (0 + 15 * 3)).take 15).all (good 5) = true := by decide +kernel
theorem g5_4 : (((Pm 5).drop (0 + 15 * 4)).take 15).all (good 5) = true := by decide +kernel
theorem g5_5 : (((Pm 5).drop (0 + 15 * 5)).take 15).all (good 5) = true := by decide +kernel
theorem g5_6 : (((Pm 5).drop (0 + 15 * 6)).take 15).all (good 5) = true := by decide +kernel
theorem g5_7 : (((Pm 5).drop (0 + 15 * 7)).take 15).all (good 5) = true := by decide +kernel
theorem g5 : ((Pm 5).drop 0).all (good 5) = true := by
  refine chunk 15 8 0 (fun i hi => ?_) (by decide +kernel)
  match i, hi with
  | 0, _ => exact g5_0
  | 1, _ => exact g5_1
  | 2, _ => exact g5_2
  | 3, _ => exact g5_3
  | 4, _ => exact g5_4
  | 5, _ => exact g5_5
  | 6, _ => exact g5_6
  | 7, _ => exact g5_7
theorem u_rows : [1, 2, 3, 4, 5].all (fun n => decide ((Pm n).map row).Nodup) = true := by decide +kernel
theorem all_good {n : Nat} (hn : n ∈ [1, 2, 3, 4, 5]) {p : List Int} (hp : p ∈ Pm n) : good n p = true := by
  simp only [List.mem_cons, List.not_mem_nil, or_false] at hn
  rcases hn with rfl | rfl | rfl | rfl | rfl
  · exact List.all_eq_true.mp g1 p hp
  · exact List.all_eq_true.mp g2 p hp
  · exact List.all_eq_true.mp g3 p hp
  · exact List.all_eq_true.mp g4 p hp
  · exact List.all_eq_true.mp g5 p hp
theorem nodup_map {α β : Type} {f : α → β} : ∀ {l : List α}, (l.map f).Nodup → ∀ {a b : α}, a ∈ l → b ∈ l → f a = f b → a = b
  | [], _, _, _, h, _, _ => by cases h
  | c :: l, hn, a, b, ha, hb, e => by
    rw [List.map_cons, List.nodup_cons] at hn
    cases ha with
    | head =>
      cases hb with
      | head => rfl
      | tail _ hb => exact (hn.1 (e ▸ List.mem_map_of_mem hb)).elim
    | tail _ ha =>
      cases hb with
      | head => exact (hn.1 (e ▸ List.mem_map_of_mem ha)).elim
      | tail _ hb => exact nodup_map hn.2 ha hb e
theorem rows_one {n : Nat} (hn : n ∈ [1, 2, 3, 4, 5]) {p q : List Int} (hp : p ∈ Pm n) (hq : q ∈ Pm n) (e : row p = row q) : p = q :=
  nodup_map (of_decide_eq_true (List.all_eq_true.mp u_rows n hn)) hp hq e
/-! ### the law -/
theorem fin_ok {n : Nat} (hn : n ∈ [1, 2, 3, 4, 5]) {p q : List Int} (hp : p ∈ Pm n) (hq : q ∈ Pm n) : Fi (chk (n : Int) p) (bod (n : Int) p q) fun x => x = true := by
  refine chk_ok fun p6 e6 rows => ?_
  have g1 := all_good hn hp
  have g2 := all_good hn hq
  unfold good at g1 g2
  rw [Bool.and_eq_true] at g1 g2
  obtain ⟨t, et, ht⟩ := tab g1.2
  obtain ⟨u, eu, hu⟩ := tab g2.2
  have e61 : p6.1 = t := by
    rw [et, R.bind_ok] at e6
    cases hc : r_code p with
    | ok c =>
      rw [hc] at e6
      have : R.ok (t, c) = R.ok p6 := e6
      injection this with this
      rw [← this]
    | exc x => rw [hc] at e6; cases e6
    | bad => rw [hc] at e6; cases e6
    | ask a b => rw [hc] at e6; cases e6
  have key : eqK u t = decide (p = q) := by
    by_cases e : p = q
    · subst e
      rw [et] at eu
      injection eu with eu
      rw [← eu, ht.same, decide_eq_true rfl]
    · rw [decide_eq_false e]
      cases h : eqK u t with
      | false => rfl
      | true => exact (e (rows_one hn hp hq (tab_eq ht hu h).symm)).elim
  refine ⟨fun hr => ?_⟩
  unfold fin
  rw [if_pos hr, eu, R.bind_ok, R.bind_ok, e61, key]
  exact Wp.ok (decide_eq_true rfl)
theorem near_wp {n : Nat} (hn : n ∈ [1, 2, 3, 4, 5]) {p : List Int} (hp : p ∈ Pm n) : Wp (r__law_near_sequence p) fun q => q ∈ Pm n := by
  simp only [List.mem_cons, List.not_mem_nil, or_false] at hn
  have hlen : ∀ q : List Int, q ∈ Pm n → q.length = n := fun q hq => (perms_perm hq).length_eq.trans (rngI_len n)
  unfold r__law_near_sequence
  refine Wp.seq (P := fun p2 : (List Int) × Int => p2.1 ∈ Pm n ∧ 0 ≤ p2.2 ∧ p2.2 < 5) (Wp.seq (Wp.draw (by omega) (by omega)) fun v hv => Wp.ok ⟨hp, hv⟩) ?_
  rintro ⟨l0, w⟩ ⟨h0, w0, w5⟩
  refine Wp.seq (P := fun s : (List Int) × (Option Int) × (Option Int) × (Option Int) => s.1 ∈ Pm n) ?_ fun s hs => ?_
  · show Wp (R.bind (R.rng 0 (1 + w / 2)) _) _
    rw [rng_ok ⟨by omega, by omega, by omega, by omega⟩, R.bind_ok]
    refine Wp.fold (I := fun _ (s : (List Int) × (Option Int) × (Option Int) × (Option Int)) => s.1 ∈ Pm n) ?_ h0
    rintro ⟨s, o⟩ c r hs
    have hs : s ∈ Pm n := hs
    have hl := hlen s hs
    refine Wp.seq (P := fun p7 : Int × Int => ∃ a b : Nat, p7 = ((a : Int), (b : Int)) ∧ a < s.length ∧ b < s.length) ?_ ?_
    · refine Wp.seq (Wp.draw (n := (s.length : Int)) (by omega) (by omega)) fun a ⟨a0, a1⟩ => Wp.seq (Wp.draw (n := (s.length : Int)) (by omega) (by omega)) fun b ⟨b0, b1⟩ => Wp.ok ⟨a.toNat, b.toNat, ?_, by omega, by omega⟩
      rw [Int.toNat_of_nonneg a0, Int.toNat_of_nonneg b0]
    · rintro _ ⟨a, b, rfl, ha, hb⟩
      show Wp (R.bind (R.bind (R.bind (R.get (atI s (b : Int))) fun v8 => R.bind (R.get (atI s (a : Int))) fun v9 => R.ok (v8, v9)) fun w10 => R.bind (R.get (setL s (a : Int) w10.1)) fun l => R.get (setL l (b : Int) w10.2)) fun l11 => R.ok (l11, (some c), (some (a : Int)), (some (b : Int)))) _
      rw [T.atI_nat, T.atI_nat, List.getElem?_eq_getElem ha, List.getElem?_eq_getElem hb]
      show Wp (R.bind (R.bind (R.get (setL s (a : Int) s[b])) fun l => R.get (setL l (b : Int) s[a])) _) _
      rw [setL_nat _ ha]
      show Wp (R.bind (R.get (setL (s.set a s[b]) (b : Int) s[a])) _) _
      rw [setL_nat _ (by rw [List.length_set]; exact hb)]
      exact Wp.ok (mem_perms ((swap_perm ha hb).trans (perms_perm hs)))
  · by_cases hw : w < 4
    · rw [if_pos (show decide (((l0, w) : (List Int) × Int).2 < 4) = true from decide_eq_true hw)]
      exact Wp.ok hs
    · rw [if_neg (show ¬ decide (((l0, w) : (List Int) × Int).2 < 4) = true from fun z => hw (of_decide_eq_true z)), hlen _ hs]
      exact Wp.seq (shuf_wp (n := n) (by omega) (by omega)) fun q hq => Wp.ok hq
theorem right_ok : Wp r__law_right fun b => b = true := by
  unfold r__law_right
  refine Wp.seq (P := fun w => ∃ n : Nat, n ∈ [1, 2, 3, 4, 5] ∧ w = (n : Int)) (Wp.mono (pick_wp (by decide) (by decide)) fun x hx => ?_) ?_
  · simp only [List.mem_cons, List.not_mem_nil, or_false] at hx
    rcases hx with rfl | rfl | rfl | rfl | rfl | rfl
    · exact ⟨1, by decide, rfl⟩
    · exact ⟨2, by decide, rfl⟩
    · exact ⟨3, by decide, rfl⟩
    · exact ⟨4, by decide, rfl⟩
    · exact ⟨4, by decide, rfl⟩
    · exact ⟨5, by decide, rfl⟩
  · rintro w ⟨n, hn, rfl⟩
    have h := hn
    simp only [List.mem_cons, List.not_mem_nil, or_false] at h
    refine Wp.seq (P := fun p => p ∈ Pm n) (Wp.seq (shuf_wp (n := n) (by omega) (by omega)) fun q hq => Wp.ok hq) fun p hp => ?_
    refine Wp.seq (near_wp hn hp) fun q hq => ?_
    have g := all_good hn hp
    unfold good at g
    rw [Bool.and_eq_true] at g
    exact (fin_ok hn hp hq).out g.1
theorem law_wp (ns : List Int) (h : ns.length ≤ 63) : Wp (r_law ns) fun b => b = true := by
  unfold r_law
  rw [if_pos (by omega), R.bind_ok]
  rw [rng_ok (a := 0) ⟨by decide, by decide, by split <;> omega, by split <;> omega⟩, R.bind_ok]
  refine Wp.onT (P := fun _ => True) (Wp.forL (I := fun _ => True) (fun s c _ _ => ?_) True.intro) fun s _ => Wp.ok rfl
  refine Wp.seq (P := fun b => b = false) ?_ ?_
  · exact Wp.seq right_ok fun b e => Wp.ok (by rw [e]; rfl)
  · rintro b rfl
    rw [if_neg Bool.false_ne_true]
    exact Wp.ok ⟨_, rfl, True.intro⟩
theorem law_ok (ns : List Int) (h : ns.length ≤ 63) : (f_law [.fz ns]).wp (fun s _ => s = .sh (.bl true)) fun _ _ => False :=
  Sm.wp (Qr := fun b => b = true) (fun a b e h1 h2 => by rw [h1, h2]) (y_law ns) (law_wp ns h).out
end Kk54

theorem PySem.Challenge.cw_crosswires_k54_across_codes_telling_corn_holds : PySem.Challenge.rw_crosswires_k54_across_codes_telling_corn.Holds :=
  Kk54.holds_of Kk54.law_ok
