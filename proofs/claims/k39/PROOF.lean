import PyProof.Rows.All
import HandS.ForMost
import HandS.ForExc
import KE.KDictKeyed
import HandS.Flow
import HandS.IsInst
import HandS.TupAny
import HandS.TupLe
import HandS.Deep
import HandS.SortInts
import KE.KTupSum
import HandS.Wide
import HandS.WordsDict
import HandS.More
import HandS.Conv
import HandS.Dict
import HandS.Defaults
import HandS.Iter
import HandS.TryOnly
import HandS.ExcIs
import KE.RegKIsAll
import KE.RegKTryMore
import HandS.TryMany
import HandS.SetFor
import HandS.TupSets
import PyProof.EqKinds
import PyProof.FactsAll.dict_2
import PyProof.FactsAll.int_3
import PyProof.FactsAll.subtypes_1
import KE.KDictWalk
import KE.KDictDisplayH
import HandS.DictComp
import KE.KDictCopyH
import KE.KRevSl
import HandS.Style
import HandS.Strs
import HandS.Zip
import KE.SortData
import HandS.Flt
import HandS.Rev
import HandS.NoneIn
import PySem.Challenge.RW_openhands_k39_whole_power_lots_are_usefu
set_option Elab.async false
set_option linter.all false
/-! OHSem: data, stores, and the meaning of expressions and statements as plain functions of them. -/
namespace OH
open PySem

/-- data: tuples are trees; lists, dicts and objects stand in a store, by their places -/
inductive D where
  | non | bl (b : Bool) | int (i : Int) | str (s : Str) | tup (ds : List D) | ref (i : Nat) | fn (f : Nat)
  /-- a list that is read alone: the script -/
  | scr (ds : List D)
  deriving Inhabited

/-- a test that the kernel does not unfold -/
noncomputable def tst : Bool → Bool := Classical.choose (⟨id, fun _ => rfl⟩ : ∃ f : Bool → Bool, ∀ b, f b = b)
theorem tst_eq (b : Bool) : tst b = b := Classical.choose_spec (⟨id, fun _ => rfl⟩ : ∃ f : Bool → Bool, ∀ b, f b = b) b
noncomputable def tsd (p : Prop) [Decidable p] : Bool := tst (decide p)
theorem tsd_of {p : Prop} [Decidable p] (h : tsd p = true) : p := by unfold tsd at h; rw [tst_eq] at h; exact of_decide_eq_true h
theorem of_tsd {p : Prop} [Decidable p] (h : p) : tsd p = true := by unfold tsd; rw [tst_eq]; exact decide_eq_true h

inductive Cell where
  /-- a list; a dict; a dict whose keys are tuples, nested or not; such a dict while it is walked -/
  | lst (ds : List D) | dct (kvs : List (D × D)) | dcn (kvs : List (D × D)) | lck (kvs : List (D × D))

abbrev Sto := List Cell
abbrev Env := List (Option D)

inductive Res (α : Type) where
  | ok (a : α) (st : Sto) | exc (c : Nat) (x : D) (st : Sto) | stuck
/-- a statement's end -/
inductive RS where
  | nx (env : Env) (st : Sto) | ret (d : D) (st : Sto) | brk (env : Env) (st : Sto) | cnt (env : Env) (st : Sto) | exc (c : Nat) (x : D) (env : Env) (st : Sto) | stuck

def Res.bind {α β : Type} : Res α → (α → Sto → Res β) → Res β
  | .ok a st, f => f a st
  | .exc c x st, _ => .exc c x st
  | .stuck, _ => .stuck
/-- an expression's value handed to what follows in a statement -/
def Res.thenS {α : Type} (env : Env) : Res α → (α → Sto → RS) → RS
  | .ok a st, f => f a st
  | .exc c x st, _ => .exc c x env st
  | .stuck, _ => .stuck
def RS.thenS : RS → (Env → Sto → RS) → RS
  | .nx env st, f => f env st
  | .ret d st, _ => .ret d st
  | .brk e st, _ => .brk e st
  | .cnt e st, _ => .cnt e st
  | .exc c x e st, _ => .exc c x e st
  | .stuck, _ => .stuck
def Res.of {α : Type} (o : Option α) (st : Sto) : Res α := match o with | some a => .ok a st | none => .stuck
@[simp] theorem Res.bind_ok {α β : Type} (a : α) (st : Sto) (f : α → Sto → Res β) : (Res.ok a st).bind f = f a st := rfl
@[simp] theorem Res.bind_exc {α β : Type} (c : Nat) (x : D) (st : Sto) (f : α → Sto → Res β) : (Res.exc c x st : Res α).bind f = .exc c x st := rfl
@[simp] theorem Res.bind_stuck {α β : Type} (f : α → Sto → Res β) : (Res.stuck : Res α).bind f = .stuck := rfl
@[simp] theorem Res.thenS_ok {α : Type} (env : Env) (a : α) (st : Sto) (f : α → Sto → RS) : (Res.ok a st).thenS env f = f a st := rfl
@[simp] theorem Res.thenS_exc {α : Type} (env : Env) (c : Nat) (x : D) (st : Sto) (f : α → Sto → RS) : (Res.exc c x st : Res α).thenS env f = .exc c x env st := rfl
@[simp] theorem RS.thenS_nx (env : Env) (st : Sto) (f : Env → Sto → RS) : (RS.nx env st).thenS f = f env st := rfl
@[simp] theorem RS.thenS_ret (d : D) (st : Sto) (f : Env → Sto → RS) : (RS.ret d st).thenS f = .ret d st := rfl
@[simp] theorem RS.thenS_exc (c : Nat) (x : D) (env : Env) (st : Sto) (f : Env → Sto → RS) : (RS.exc c x env st).thenS f = .exc c x env st := rfl
@[simp] theorem Res.of_some {α : Type} (a : α) (st : Sto) : Res.of (some a) st = .ok a st := rfl

/-- a call of a def, by its number -/
abbrev Call := Nat → List D → Sto → Res D
/-- an expression; a test; a row of arguments or the items of a list that nobody else has -/
abbrev SE := Call → Env → Sto → Res D
abbrev SB := Call → Env → Sto → Res Bool
abbrev SL := Call → Env → Sto → Res (List D)
abbrev SS := Call → Env → Sto → RS

/-! ### equality of data -/
mutual
def D.beq : D → D → Bool
  | .non, .non => true
  | .bl a, .bl b => a == b
  | .int a, .int b => a == b
  | .str a, .str b => a == b
  | .tup a, .tup b => D.beqL a b
  | .ref a, .ref b => a == b
  | .fn a, .fn b => a == b
  | .scr a, .scr b => D.beqL a b
  | _, _ => false
def D.beqL : List D → List D → Bool
  | [], [] => true
  | a :: as, b :: bs => D.beq a b && D.beqL as bs
  | _, _ => false
end
mutual
theorem D.beq_eq : ∀ (a b : D), D.beq a b = true → a = b
  | .non, b, h => by cases b <;> simp [D.beq] at h; rfl
  | .bl a, b, h => by cases b <;> simp [D.beq] at h; rw [h]
  | .int a, b, h => by cases b <;> simp [D.beq] at h; rw [h]
  | .str a, b, h => by cases b <;> simp [D.beq] at h; rw [h]
  | .tup a, b, h => by
    cases b <;> simp [D.beq] at h
    rw [D.beqL_eq _ _ h]
  | .ref a, b, h => by cases b <;> simp [D.beq] at h; rw [h]
  | .fn a, b, h => by cases b <;> simp [D.beq] at h; rw [h]
  | .scr a, b, h => by
    cases b <;> simp [D.beq] at h
    rw [D.beqL_eq _ _ h]
theorem D.beqL_eq : ∀ (a b : List D), D.beqL a b = true → a = b
  | [], b, h => by cases b <;> simp [D.beqL] at h; rfl
  | a :: as, b, h => by
    cases b with
    | nil => simp [D.beqL] at h
    | cons b bs =>
      simp [D.beqL] at h
      rw [D.beq_eq _ _ h.1, D.beqL_eq _ _ h.2]
end
mutual
theorem D.beq_refl : ∀ (a : D), D.beq a a = true
  | .non => rfl
  | .bl a => by simp [D.beq]
  | .int a => by simp [D.beq]
  | .str a => by simp [D.beq]
  | .tup a => by simp [D.beq, D.beqL_refl a]
  | .ref a => by simp [D.beq]
  | .fn a => by simp [D.beq]
  | .scr a => by simp [D.beq, D.beqL_refl a]
theorem D.beqL_refl : ∀ (a : List D), D.beqL a a = true
  | [] => rfl
  | a :: as => by simp [D.beqL, D.beq_refl a, D.beqL_refl as]
end
instance : DecidableEq D := fun a b => if h : D.beq a b = true then isTrue (D.beq_eq a b h) else isFalse fun e => h (e ▸ D.beq_refl a)

/-! ### what is read of the store -/
def lstAt (st : Sto) (i : Nat) : Option (List D) := match st[i]? with | some (.lst ds) => some ds | _ => none
/-- the items of a tuple or list -/
def items (st : Sto) : D → Option (List D)
  | .tup ds => some ds
  | .ref i => lstAt st i
  | .scr ds => some ds
  | _ => none
def truth (st : Sto) : D → Option Bool
  | .non => some false
  | .bl b => some b
  | .int i => some (i != 0)
  | .str s => if s.length ≤ sizeLine then some ((s.length : Int) != 0) else none
  | .tup ds => some (!ds.isEmpty)
  | .ref i => (lstAt st i).map fun ds => !ds.isEmpty
  | .fn _ => none
  | .scr ds => some (!ds.isEmpty)

/-! ### expressions -/
def eV (i : Nat) : SE := fun _ env st => match env[i]? with | some (some d) => .ok d st | _ => .stuck
def eC (d : D) : SE := fun _ _ st => .ok d st
def eU (f : Sto → D → Option D) (a : SE) : SE := fun C env st => (a C env st).bind fun x st => Res.of (f st x) st
def eB (f : Sto → D → D → Option D) (a b : SE) : SE := fun C env st => (a C env st).bind fun x st => (b C env st).bind fun y st => Res.of (f st x y) st
def eIf (c : SB) (a b : SE) : SE := fun C env st => (c C env st).bind fun t st => if t then a C env st else b C env st
def eAnd (a b : SE) : SE := fun C env st => (a C env st).bind fun x st => (Res.of (truth st x) st).bind fun t st => if t then b C env st else .ok x st
def eOr (a b : SE) : SE := fun C env st => (a C env st).bind fun x st => (Res.of (truth st x) st).bind fun t st => if t then .ok x st else b C env st
def eNot (a : SE) : SE := fun C env st => (a C env st).bind fun x st => (Res.of (truth st x) st).bind fun t st => .ok (.bl (!t)) st
/-- a op b op' c -/
def eChain (f f' : Sto → D → D → Option D) (a b c : SE) : SE := fun C env st => (a C env st).bind fun x st => (b C env st).bind fun y st => (Res.of (f st x y) st).bind fun z st =>
  match z with | .bl true => (c C env st).bind fun w st => Res.of (f' st y w) st | .bl false => .ok (.bl false) st | _ => .stuck

/-! ### tests -/
def bOf (a : SE) : SB := fun C env st => (a C env st).bind fun x st => Res.of (truth st x) st
def bAnd (a b : SB) : SB := fun C env st => (a C env st).bind fun t st => if t then b C env st else .ok false st
def bOr (a b : SB) : SB := fun C env st => (a C env st).bind fun t st => if t then .ok true st else b C env st
def bNot (a : SB) : SB := fun C env st => (a C env st).bind fun t st => .ok (!t) st

/-! ### rows of values -/
def lNil : SL := fun _ _ st => .ok [] st
def lCons (a : SE) (l : SL) : SL := fun C env st => (a C env st).bind fun x st => (l C env st).bind fun xs st => .ok (x :: xs) st
def lSeq (a : SE) : SL := fun C env st => (a C env st).bind fun x st => Res.of (items st x) st
def lMap (f : Sto → List D → Option (List D)) (l : SL) : SL := fun C env st => (l C env st).bind fun xs st => Res.of (f st xs) st
def eL (f : Sto → List D → Option D) (l : SL) : SE := fun C env st => (l C env st).bind fun xs st => Res.of (f st xs) st
/-- a list laid into the store -/
def eNew (l : SL) : SE := fun C env st => (l C env st).bind fun xs st => .ok (.ref st.length) (st ++ [.lst xs])
def eCall (f : Nat) (l : SL) : SE := fun C env st => (l C env st).bind fun xs st => C f xs st

/-! ### iterables: their items, and the lists in the store that must stay -/
structure Wlk where
  ds : List D
  src : List (Nat × List D) := []
abbrev SI := Call → Env → Sto → Res Wlk
def good (src : List (Nat × List D)) (st : Sto) : Bool := src.all fun p => decide (lstAt st p.1 = some p.2)
/-- a target: a name; names in a row -/
abbrev SG := D → Env → Option Env
def gN (i : Nat) : SG := fun d env => some (env.set i (some d))
def gT : List SG → List D → Env → Option Env
  | [], [], env => some env
  | g :: gs, d :: ds, env => (g d env).bind fun env => gT gs ds env
  | _, _, _ => none
def gTup (gs : List SG) : SG := fun d env => match d with | .tup ds => gT gs ds env | _ => none
end OH

set_option Elab.async false
set_option linter.all false
set_option maxRecDepth 100000
/-! OHRep: how data and stores lie in the layer's heap; what a meaning promises (post). -/
namespace OH
open PySem PySem.Spec PyProof.Rows L2

/-- the written part; where the defs and the classes of errors stand -/
structure Gx where
  K : PySem.W.Frag
  fa : Nat → Addr
  ca : Nat → Addr
  w : World

/-- a list that nobody may change -/
def SqF (K : PySem.W.Frag) (H : Hp) (a : Addr) (xs : List V) : Prop := (∃ o, H a = some (.frz o (.lst xs))) ∨
    ∃ (o : Obj) (its : Array Value) (n : Nat), K.lookup a = some o ∧ o.cls = .type "list" ∧ o.dict = none ∧ o.data = .seq its n ∧ its.size ≤ sizeLine ∧ Vals xs its.toList
theorem SqF.sq {K : PySem.W.Frag} {H : Hp} {a : Addr} {xs : List V} (h : SqF K H a xs) : SqL K H a xs := by
  rcases h with ⟨o, h⟩ | h
  · exact .inl (.inr ⟨o, h⟩)
  · exact .inr h
theorem SqF.of {K : PySem.W.Frag} {H : Hp} {a : Addr} {xs : List V} (h : SqL K H a xs) (o : Only H) : SqF K H a xs := by
  rcases h with (h | h) | h
  · rcases o a with e | ⟨o, ys, e⟩ <;> rw [h] at e <;> cases e
  · exact .inl h
  · exact .inr h
mutual
def Rep (G : Gx) (H : Hp) (ι : List Addr) : D → V → Prop
  | .non, v => v = .non
  | .bl b, v => v = .bl b
  | .int i, v => v = .int i
  | .str s, v => v = .str s
  | .tup ds, v => ∃ a xs, v = .ref a ∧ SqT G.K H a xs ∧ RepL G H ι ds xs
  | .ref i, v => ∃ a, ι[i]? = some a ∧ v = .ref a
  | .fn f, v => v = .ref (G.fa f)
  | .scr ds, v => ∃ a xs, v = .ref a ∧ SqF G.K H a xs ∧ RepL G H ι ds xs
def RepL (G : Gx) (H : Hp) (ι : List Addr) : List D → List V → Prop
  | [], vs => vs = []
  | d :: ds, vs => ∃ v r, vs = v :: r ∧ Rep G H ι d v ∧ RepL G H ι ds r
end

/-- a dict's key -/
def keyD : Key → D
  | .inl i => .int i
  | .inr x => .str x
mutual
/-- a part of a key -/
def keyN : D → Option NestedKey
  | .non => some .none
  | .int i => some (.num i)
  | .str s => some (.text s)
  | .tup ds => (keyNL ds).map NestedKey.tup
  | _ => none
def keyNL : List D → Option (List NestedKey)
  | [] => some []
  | d :: ds => (keyN d).bind fun k => (keyNL ds).map (k :: ·)
end
/-- a tuple that is a key -/
def keyT : D → Option NestedKey
  | .tup ds => (keyNL ds).bind fun ks => if (NestedKey.tup ks).depth ≤ 8 then some (.tup ks) else none
  | _ => none
/-- a dict whose keys are tuples, by its object -/
def dNφ (w : World) (a : Addr) (xs : List (NestedKey × Addr × V)) : Heap → Prop := fun h => xs.length ≤ sizeLine ∧ (a == sysModules) = false ∧ ∃ ys : List (NestedKey × Addr × Value),
  Paired (fun (p : NestedKey × Addr × V) (q : NestedKey × Addr × Value) => p.1 = q.1 ∧ p.2.1 = q.2.1 ∧ RelV p.2.2 q.2.2) xs ys ∧
  ∃ o es ep, h.get? a = some o ∧ o.ExactDict ∧ o.data = .dict es ep ∧ es.toList = ys.map (fun y => (⟨y.1.hash w, .ref y.2.1, y.2.2⟩ : DictEntry)) ∧ (ys.map (·.1)).Nodup
/-- a dict that is walked now -/
def Lkd (o : Option HO) : Prop := ∃ od φ, o = some (.frz od (.ext φ))
def CellRep (G : Gx) (H : Hp) (ι : List Addr) : Cell → Addr → Prop
  | .lck kvs, a => ∃ (od : Obj) (xs : List (NestedKey × Addr × V)), H a = some (.frz od (.ext (dNφ G.w a xs))) ∧ kvs.map (fun p => keyT p.1) = xs.map (fun x => some x.1) ∧ RepL G H ι (kvs.map (·.1)) (xs.map fun x => V.ref x.2.1) ∧ RepL G H ι (kvs.map (·.2)) (xs.map (·.2.2))
  | .dcn kvs, a => ∃ xs : List (NestedKey × Addr × V), H a = some (.ext (dNφ G.w a xs)) ∧ kvs.map (fun p => keyT p.1) = xs.map (fun x => some x.1) ∧ RepL G H ι (kvs.map (·.1)) (xs.map fun x => V.ref x.2.1) ∧ RepL G H ι (kvs.map (·.2)) (xs.map (·.2.2))
  | .lst ds, a => ∃ xs, H a = some (.lst xs) ∧ RepL G H ι ds xs
  | .dct kvs, a => ∃ (ks : List Key) (vs : List V), H a = some (.dK (ks.zip vs)) ∧ ks.length = vs.length ∧ kvs.map (·.1) = ks.map keyD ∧ RepL G H ι (kvs.map (·.2)) vs

structure StoRep (G : Gx) (H : Hp) (ι : List Addr) (st : Sto) : Prop where
  len : ι.length = st.length
  nd : ι.Nodup
  cell : ∀ (i : Nat) (c : Cell) (a : Addr), st[i]? = some c → ι[i]? = some a → CellRep G H ι c a

/-- what is not of the store stays, what comes to it is new -/
structure Ext (H : Hp) (ι : List Addr) (H' : Hp) (ι' : List Addr) : Prop where
  keep : ∀ a o, H a = some o → a ∉ ι → H' a = some o
  more : ∃ r, ι' = ι ++ r
  new : ∀ a, a ∈ ι' → a ∉ ι → H a = none
  lkd : ∀ a, Lkd (H a) → H' a = H a
theorem Lkd.some {o : Option HO} (h : Lkd o) : o ≠ none := by
  obtain ⟨_, _, rfl⟩ := h
  exact fun z => nomatch z
abbrev MuL (o : Option HO) : Prop := Mut o ∨ Lkd o
theorem nlk_lst {o : Option HO} {xs : List V} (h : o = some (.lst xs)) : ¬ Lkd o := by
  rintro ⟨_, _, e⟩
  rw [h] at e; cases e
theorem nlk_ext {o : Option HO} {φ : Heap → Prop} (h : o = some (.ext φ)) : ¬ Lkd o := by
  rintro ⟨_, _, e⟩
  rw [h] at e; cases e

theorem Ext.refl (H : Hp) (ι : List Addr) : Ext H ι H ι := ⟨fun _ _ h _ => h, ⟨[], by simp⟩, fun _ h n => absurd h n, fun _ _ => rfl⟩
theorem Ext.trans {H H1 H2 : Hp} {ι ι1 ι2 : List Addr} (a : Ext H ι H1 ι1) (b : Ext H1 ι1 H2 ι2) : Ext H ι H2 ι2 := by
  obtain ⟨r, rfl⟩ := a.more
  obtain ⟨r2, rfl⟩ := b.more
  refine ⟨fun x o h n => ?_, ⟨r ++ r2, by simp⟩, fun x h n => ?_, fun x h => by
    have q := a.lkd x h
    rw [b.lkd x (by rw [q]; exact h), q]⟩
  · refine b.keep x o (a.keep x o h n) fun hx => ?_
    have q := a.new x hx n
    rw [h] at q; cases q
  · by_cases hx : x ∈ ι ++ r
    · exact a.new x hx n
    · have q := b.new x h hx
      cases e : H x with
      | none => rfl
      | some o =>
        rw [a.keep x o e n] at q; cases q
theorem Ext.get {H H' : Hp} {ι ι' : List Addr} (e : Ext H ι H' ι') {i : Nat} {a : Addr} (h : ι[i]? = some a) : ι'[i]? = some a := by
  obtain ⟨r, rfl⟩ := e.more
  rw [List.getElem?_append_left (List.getElem?_eq_some_iff.mp h).1]
  exact h
theorem SqT.ext {K : PySem.W.Frag} {H H' : Hp} {ι ι' : List Addr} (e : Ext H ι H' ι') (n : ∀ a ∈ ι, MuL (H a)) {a : Addr} {xs : List V} (h : SqT K H a xs) : SqT K H' a xs := by
  rcases h with h | h
  · have na : a ∉ ι := fun ha => by
      have q := n a ha
      rcases h with h | ⟨o, h⟩ <;> rw [h] at q <;> rcases q with q | ⟨_, _, q⟩ <;> first | exact q | cases q
    rcases h with h | ⟨o, h⟩
    · exact .inl (.inl (e.keep a _ h na))
    · exact .inl (.inr ⟨o, e.keep a _ h na⟩)
  · exact .inr h
theorem SqF.ext {K : PySem.W.Frag} {H H' : Hp} {ι ι' : List Addr} (e : Ext H ι H' ι') (n : ∀ a ∈ ι, MuL (H a)) {a : Addr} {xs : List V} (h : SqF K H a xs) : SqF K H' a xs := by
  rcases h with ⟨o, h⟩ | h
  · refine .inl ⟨o, e.keep a _ h fun ha => ?_⟩
    have q := n a ha
    rw [h] at q
    rcases q with q | ⟨_, _, q⟩
    · exact q
    · cases q
  · exact .inr h
section
variable {G : Gx} {H H' : Hp} {ι ι' : List Addr} {st : Sto}
mutual
theorem Rep.mono (hT : ∀ a xs, SqT G.K H a xs → SqT G.K H' a xs) (hF : ∀ a xs, SqF G.K H a xs → SqF G.K H' a xs) (hI : ∀ (i : Nat) (a : Addr), ι[i]? = some a → ι'[i]? = some a) : ∀ {d : D} {v : V}, Rep G H ι d v → Rep G H' ι' d v
  | .non, _, h => h
  | .bl _, _, h => h
  | .int _, _, h => h
  | .str _, _, h => h
  | .tup ds, _, ⟨a, xs, e1, e2, e3⟩ => ⟨a, xs, e1, hT _ _ e2, RepL.mono hT hF hI e3⟩
  | .ref i, _, ⟨a, e1, e2⟩ => ⟨a, hI _ _ e1, e2⟩
  | .fn _, _, h => h
  | .scr ds, _, ⟨a, xs, e1, e2, e3⟩ => ⟨a, xs, e1, hF _ _ e2, RepL.mono hT hF hI e3⟩
theorem RepL.mono (hT : ∀ a xs, SqT G.K H a xs → SqT G.K H' a xs) (hF : ∀ a xs, SqF G.K H a xs → SqF G.K H' a xs) (hI : ∀ (i : Nat) (a : Addr), ι[i]? = some a → ι'[i]? = some a) : ∀ {ds : List D} {vs : List V}, RepL G H ι ds vs → RepL G H' ι' ds vs
  | [], _, h => h
  | d :: ds, _, ⟨v, r, e1, e2, e3⟩ => ⟨v, r, e1, Rep.mono hT hF hI e2, RepL.mono hT hF hI e3⟩
end
theorem Rep.ext (e : Ext H ι H' ι') (n : ∀ a ∈ ι, MuL (H a)) {d : D} {v : V} (h : Rep G H ι d v) : Rep G H' ι' d v := h.mono (fun _ _ => SqT.ext e n) (fun _ _ => SqF.ext e n) fun _ _ => e.get
theorem RepL.ext (e : Ext H ι H' ι') (n : ∀ a ∈ ι, MuL (H a)) {d : List D} {v : List V} (h : RepL G H ι d v) : RepL G H' ι' d v := h.mono (fun _ _ => SqT.ext e n) (fun _ _ => SqF.ext e n) fun _ _ => e.get
theorem Rep.grow {d : D} {v : V} (h : Rep G H ι d v) (r : List Addr) : Rep G H (ι ++ r) d v := h.mono (fun _ _ h => h) (fun _ _ h => h) fun i a e => by
  rw [List.getElem?_append_left (List.getElem?_eq_some_iff.mp e).1]; exact e
theorem RepL.grow {d : List D} {v : List V} (h : RepL G H ι d v) (r : List Addr) : RepL G H (ι ++ r) d v := h.mono (fun _ _ h => h) (fun _ _ h => h) fun i a e => by
  rw [List.getElem?_append_left (List.getElem?_eq_some_iff.mp e).1]; exact e
theorem RepL.length : ∀ {ds : List D} {vs : List V}, RepL G H ι ds vs → vs.length = ds.length
  | [], _, h => by cases h; rfl
  | d :: ds, _, ⟨v, r, e1, e2, e3⟩ => by subst e1; simp [RepL.length e3]
theorem RepL.get : ∀ {ds : List D} {vs : List V} {i : Nat} {d : D}, RepL G H ι ds vs → ds[i]? = some d → ∃ v, vs[i]? = some v ∧ Rep G H ι d v
  | [], _, i, d, h, e => by simp at e
  | d :: ds, _, 0, d', ⟨v, r, e1, e2, e3⟩, e => by
    simp at e
    subst e; subst e1
    exact ⟨v, rfl, e2⟩
  | d :: ds, _, i + 1, d', ⟨v, r, e1, e2, e3⟩, e => by
    subst e1
    simp at e
    simpa using RepL.get e3 e
theorem RepL.get' : ∀ {ds : List D} {vs : List V} {i : Nat} {v : V}, RepL G H ι ds vs → vs[i]? = some v → ∃ d, ds[i]? = some d ∧ Rep G H ι d v
  | [], _, i, d, h, e => by cases h; simp at e
  | d :: ds, _, 0, d', ⟨v, r, e1, e2, e3⟩, e => by
    subst e1
    simp at e
    subst e
    exact ⟨d, rfl, e2⟩
  | d :: ds, _, i + 1, d', ⟨v, r, e1, e2, e3⟩, e => by
    subst e1
    simp at e
    simpa using RepL.get' e3 e
theorem RepL.app : ∀ {ds es : List D} {vs us : List V}, RepL G H ι ds vs → RepL G H ι es us → RepL G H ι (ds ++ es) (vs ++ us)
  | [], _, _, _, h, h' => by cases h; exact h'
  | d :: ds, _, _, _, ⟨v, r, e1, e2, e3⟩, h' => by subst e1; exact ⟨v, _, rfl, e2, RepL.app e3 h'⟩
theorem RepL.one {d : D} {v : V} (h : Rep G H ι d v) : RepL G H ι [d] [v] := ⟨v, [], rfl, h, rfl⟩
theorem RepL.set : ∀ {ds : List D} {vs : List V} {d : D} {v : V} (i : Nat), RepL G H ι ds vs → Rep G H ι d v → RepL G H ι (ds.set i d) (vs.set i v)
  | [], _, _, _, i, h, h' => by cases h; simp [RepL]
  | d :: ds, _, _, _, 0, ⟨v, r, e1, e2, e3⟩, h' => by subst e1; exact ⟨_, _, rfl, h', e3⟩
  | d :: ds, _, _, _, i + 1, ⟨v, r, e1, e2, e3⟩, h' => by subst e1; exact ⟨_, _, rfl, e2, RepL.set i e3 h'⟩
theorem RepL.take : ∀ {ds : List D} {vs : List V} (n : Nat), RepL G H ι ds vs → RepL G H ι (ds.take n) (vs.take n)
  | _, _, 0, _ => by simp [RepL]
  | [], _, n + 1, h => by cases h; simp [RepL]
  | d :: ds, _, n + 1, ⟨v, r, e1, e2, e3⟩ => by subst e1; exact ⟨_, _, rfl, e2, RepL.take n e3⟩
theorem RepL.drop : ∀ {ds : List D} {vs : List V} (n : Nat), RepL G H ι ds vs → RepL G H ι (ds.drop n) (vs.drop n)
  | _, _, 0, h => by simpa using h
  | [], _, n + 1, h => by cases h; simp [RepL]
  | d :: ds, _, n + 1, ⟨v, r, e1, e2, e3⟩ => by subst e1; simpa using RepL.drop n e3
theorem RepL.ints : ∀ {ds : List D} {vs : List V} {ns : List Int}, RepL G H ι ds vs → ds = ns.map D.int → vs = ns.map V.int
  | [], _, [], h, _ => by cases h; rfl
  | [], _, n :: ns, h, e => by simp at e
  | d :: ds, _, [], _, e => by simp at e
  | d :: ds, _, n :: ns, ⟨v, r, e1, e2, e3⟩, e => by
    subst e1
    simp at e
    obtain ⟨rfl, e⟩ := e
    cases e2
    simp [RepL.ints e3 e]
theorem repL_ints : ∀ (ns : List Int), RepL G H ι (ns.map D.int) (ns.map V.int)
  | [] => rfl
  | n :: ns => ⟨_, _, rfl, rfl, repL_ints ns⟩

theorem StoRep.at (s : StoRep G H ι st) {i : Nat} {c : Cell} (h : st[i]? = some c) : ∃ a, ι[i]? = some a ∧ CellRep G H ι c a := by
  have hi : i < ι.length := by rw [s.len]; exact (List.getElem?_eq_some_iff.mp h).1
  exact ⟨ι[i], by simp [hi], s.cell i c _ h (by simp [hi])⟩
theorem CellRep.mut {c : Cell} {a : Addr} (h : CellRep G H ι c a) : MuL (H a) := by
  cases c with
  | lst ds =>
    obtain ⟨xs, h1, _⟩ := h
    rw [h1]; exact .inl trivial
  | dct kvs =>
    obtain ⟨ks, vs, h1, _⟩ := h
    rw [h1]; exact .inl trivial
  | dcn kvs =>
    obtain ⟨xs, h1, _⟩ := h
    rw [h1]; exact .inl trivial
  | lck kvs =>
    obtain ⟨od, xs, h1, _⟩ := h
    exact .inr ⟨od, _, h1⟩
theorem StoRep.mut (s : StoRep G H ι st) : ∀ a ∈ ι, MuL (H a) := fun a ha => by
  obtain ⟨i, hi, e⟩ := List.mem_iff_getElem.mp ha
  have hs : i < st.length := by rw [← s.len]; exact hi
  exact (s.cell i st[i] a (by simp [hs]) (by simp [hi, e])).mut
theorem StoRep.ne (s : StoRep G H ι st) {a p : Addr} (ha : a ∈ ι) (hp : H p = none) : a ≠ p := fun e => by
  have q := s.mut a ha
  rw [e, hp] at q
  rcases q with q | ⟨_, _, q⟩
  · exact q
  · cases q
theorem StoRep.notin (s : StoRep G H ι st) {p : Addr} (hp : H p = none) : p ∉ ι := fun h => s.ne h hp rfl
/-- a list that may be read -/
theorem StoRep.lst (s : StoRep G H ι st) {i : Nat} {ds : List D} (h : lstAt st i = some ds) : ∃ a xs, ι[i]? = some a ∧ H a = some (.lst xs) ∧ RepL G H ι ds xs := by
  unfold lstAt at h
  split at h
  · rename_i ds' e
    cases h
    obtain ⟨a, ha, xs, h1, h2⟩ := s.at e
    exact ⟨a, xs, ha, h1, h2⟩
  · cases h
/-- a tuple or list -/
theorem StoRep.items (s : StoRep G H ι st) {d : D} {v : V} {ds : List D} (h : OH.items st d = some ds) (r : Rep G H ι d v) : ∃ a xs, v = .ref a ∧ (SqL G.K H a xs ∨ SqT G.K H a xs) ∧ RepL G H ι ds xs := by
  cases d with
  | tup ds' =>
    cases h
    obtain ⟨a, xs, e1, e2, e3⟩ := r
    exact ⟨a, xs, e1, .inr e2, e3⟩
  | scr ds' =>
    cases h
    obtain ⟨a, xs, e1, e2, e3⟩ := r
    exact ⟨a, xs, e1, .inl e2.sq, e3⟩
  | ref i =>
    obtain ⟨a, xs, h1, h2, h3⟩ := s.lst h
    obtain ⟨a', e1, e2⟩ := r
    rw [h1] at e1; cases e1
    exact ⟨a, xs, e2, .inl (SqL.of h2), h3⟩
  | _ => cases h
/-- a new object that is not of the store -/
theorem ext_new {p : Addr} {o : HO} (hp : H p = none) : Ext H ι (upd H p o) ι := by
  refine ⟨fun a u h n => ?_, ⟨[], by simp⟩, fun _ h n => absurd h n, fun a h => upd_ne fun z => h.some (by rw [z]; exact hp)⟩
  rw [upd_ne (ne_of_none h hp)]; exact h
theorem CellRep.ext (e : Ext H ι H' ι') (n : ∀ a ∈ ι, MuL (H a)) {c : Cell} {a : Addr} (ha : ∀ o, H a = some o → H' a = some o) (h : CellRep G H ι c a) : CellRep G H' ι' c a := by
  cases c with
  | lst ds =>
    obtain ⟨xs, h1, h2⟩ := h
    exact ⟨xs, ha _ h1, RepL.ext e n h2⟩
  | dct kvs =>
    obtain ⟨ks, vs, h1, h2, h3, h4⟩ := h
    exact ⟨ks, vs, ha _ h1, h2, h3, RepL.ext e n h4⟩
  | dcn kvs =>
    obtain ⟨xs, h1, h2, h3, h4⟩ := h
    exact ⟨xs, ha _ h1, h2, RepL.ext e n h3, RepL.ext e n h4⟩
  | lck kvs =>
    obtain ⟨od, xs, h1, h2, h3, h4⟩ := h
    exact ⟨od, xs, ha _ h1, h2, RepL.ext e n h3, RepL.ext e n h4⟩
theorem StoRep.fresh {p : Addr} {o : HO} (s : StoRep G H ι st) (hp : H p = none) : StoRep G (upd H p o) ι st :=
  ⟨s.len, s.nd, fun i c a h1 h2 => (s.cell i c a h1 h2).ext (ext_new hp) s.mut fun u hu => by rw [upd_ne (ne_of_none hu hp)]; exact hu⟩
/-- a list comes into the store: p is tracked already, but not of the store -/
theorem ext_take {p : Addr} {o : HO} (hp : H p = none) : Ext H ι (upd H p o) (ι ++ [p]) := by
  refine ⟨fun a u h n => ?_, ⟨[p], rfl⟩, fun a h n => ?_, fun a h => upd_ne fun z => h.some (by rw [z]; exact hp)⟩
  · rw [upd_ne (ne_of_none h hp)]; exact h
  · rcases List.mem_append.mp h with h | h
    · exact absurd h n
    · rw [List.mem_singleton.mp h]; exact hp
/-- .. from H, where p was free, by H1, where p stands, to the store with p -/
theorem Ext.take {p : Addr} {H1 : Hp} {ι1 : List Addr} (e : Ext H ι H1 ι1) (hp : H p = none) : Ext H ι H1 (ι1 ++ [p]) := by
  obtain ⟨r, rfl⟩ := e.more
  refine ⟨e.keep, ⟨r ++ [p], by simp⟩, fun a h n => ?_, e.lkd⟩
  rcases List.mem_append.mp h with h | h
  · exact e.new a h n
  · rw [List.mem_singleton.mp h]; exact hp
theorem CellRep.grow {c : Cell} {a : Addr} (h : CellRep G H ι c a) (r : List Addr) : CellRep G H (ι ++ r) c a := by
  cases c with
  | lst ds =>
    obtain ⟨xs, h1, h2⟩ := h
    exact ⟨xs, h1, h2.grow r⟩
  | dct kvs =>
    obtain ⟨ks, vs, h1, h2, h3, h4⟩ := h
    exact ⟨ks, vs, h1, h2, h3, h4.grow r⟩
  | dcn kvs =>
    obtain ⟨xs, h1, h2, h3, h4⟩ := h
    exact ⟨xs, h1, h2, h3.grow r, h4.grow r⟩
  | lck kvs =>
    obtain ⟨od, xs, h1, h2, h3, h4⟩ := h
    exact ⟨od, xs, h1, h2, h3.grow r, h4.grow r⟩
/-- a tracked object comes into the store -/
theorem StoRep.push {p : Addr} {c : Cell} (s : StoRep G H ι st) (np : p ∉ ι) (hc : CellRep G H (ι ++ [p]) c p) : StoRep G H (ι ++ [p]) (st ++ [c]) := by
  refine ⟨by simp [s.len], List.nodup_append.mpr ⟨s.nd, by simp, fun a ha b hb e => np (by rw [List.mem_singleton.mp hb] at e; rw [← e]; exact ha)⟩, fun i c' a h1 h2 => ?_⟩
  by_cases hi : i < st.length
  · have hi' : i < ι.length := by rw [s.len]; exact hi
    rw [List.getElem?_append_left hi] at h1
    rw [List.getElem?_append_left hi'] at h2
    exact (s.cell i c' a h1 h2).grow _
  · have hl := (List.getElem?_eq_some_iff.mp h1).1
    simp at hl
    have e : i = st.length := by omega
    subst e
    rw [List.getElem?_append_right (Nat.le_refl _)] at h1
    rw [← s.len, List.getElem?_append_right (Nat.le_refl _)] at h2
    simp at h1 h2
    subst h1; subst h2
    exact hc
/-- a cell is written -/
theorem StoRep.write {p : Addr} {c : Cell} {o : HO} {i : Nat} (s : StoRep G H ι st) (hi : ι[i]? = some p) (hc : CellRep G (upd H p o) ι c p) : StoRep G (upd H p o) ι (st.set i c) := by
  have hp : p ∈ ι := List.mem_of_getElem? hi
  have mp := s.mut p hp
  have hT : ∀ a xs, SqT G.K H a xs → SqT G.K (upd H p o) a xs := fun a xs h => by
    rcases h with (h | ⟨b, h⟩) | h
    · refine .inl (.inl ?_)
      rw [upd_ne]; exact h
      rintro rfl; rw [h] at mp; rcases mp with mp | ⟨_, _, mp⟩ <;> first | exact mp | cases mp
    · refine .inl (.inr ⟨b, ?_⟩)
      rw [upd_ne]; exact h
      rintro rfl; rw [h] at mp; rcases mp with mp | ⟨_, _, mp⟩ <;> first | exact mp | cases mp
    · exact .inr h
  have hF : ∀ a xs, SqF G.K H a xs → SqF G.K (upd H p o) a xs := fun a xs h => by
    rcases h with ⟨b, h⟩ | h
    · refine .inl ⟨b, ?_⟩
      rw [upd_ne]; exact h
      rintro rfl; rw [h] at mp; rcases mp with mp | ⟨_, _, mp⟩ <;> first | exact mp | cases mp
    · exact .inr h
  refine ⟨by simpa using s.len, s.nd, fun j c' a h1 h2 => ?_⟩
  by_cases e : j = i
  · subst e
    rw [hi] at h2; cases h2
    have hl := (List.getElem?_eq_some_iff.mp h1).1
    simp at hl
    rw [List.getElem?_set_self hl] at h1
    cases h1
    exact hc
  · rw [List.getElem?_set_ne (Ne.symm e)] at h1
    have ne : a ≠ p := fun z => by
      subst z
      exact e ((List.getElem?_inj (List.getElem?_eq_some_iff.mp h2).1 s.nd).mp (h2.trans hi.symm))
    have q := s.cell j c' a h1 h2
    cases c' with
    | lst ds =>
      obtain ⟨xs, h1, h2⟩ := q
      exact ⟨xs, by rw [upd_ne ne]; exact h1, h2.mono hT hF fun _ _ z => z⟩
    | dct kvs =>
      obtain ⟨ks, vs, h1, h2, h3, h4⟩ := q
      exact ⟨ks, vs, by rw [upd_ne ne]; exact h1, h2, h3, h4.mono hT hF fun _ _ z => z⟩
    | dcn kvs =>
      obtain ⟨xs, h1, h2, h3, h4⟩ := q
      exact ⟨xs, by rw [upd_ne ne]; exact h1, h2, h3.mono hT hF fun _ _ z => z, h4.mono hT hF fun _ _ z => z⟩
    | lck kvs =>
      obtain ⟨od, xs, h1, h2, h3, h4⟩ := q
      exact ⟨od, xs, by rw [upd_ne ne]; exact h1, h2, h3.mono hT hF fun _ _ z => z, h4.mono hT hF fun _ _ z => z⟩
theorem ext_write {p : Addr} {o : HO} (hp : p ∈ ι) (hn : ¬ Lkd (H p)) : Ext H ι (upd H p o) ι := by
  refine ⟨fun a u h n => ?_, ⟨[], by simp⟩, fun _ h n => absurd h n, fun a h => upd_ne fun z => hn (by rw [← z]; exact h)⟩
  rw [upd_ne]; exact h
  rintro rfl; exact n hp
/-- as the heap changes at an address of the store alone, values stay -/
theorem RepL.write {p : Addr} {o : HO} (s : StoRep G H ι st) (hp : p ∈ ι) (hn : ¬ Lkd (H p)) {ds : List D} {vs : List V} (h : RepL G H ι ds vs) : RepL G (upd H p o) ι ds vs := h.ext (ext_write hp hn) s.mut
end

/-! ### what a meaning promises -/
/-- an error, as it lies in the heap -/
def ExcRep (G : Gx) (c : Nat) (x : D) (H : Hp) (ι : List Addr) (cls : Value) (ad : Option Addr) : Prop :=
  cls = .ref (G.ca c) ∧ match x with
    | .non => ad = none
    | x => ∃ d v, ad = some d ∧ H d = some (.xd [("place", v)]) ∧ Rep G H ι x v
/-- W: what is wanted of an error -/
def post (G : Gx) {α υ : Type} (rep : Hp → List Addr → α → υ → Prop) (W : Value → Option Addr → Hp → Prop) (H : Hp) (ι : List Addr) (Q : υ → Hp → Prop) : Res α → Prop
  | .ok a st => ∀ v H' ι', Ext H ι H' ι' → StoRep G H' ι' st → rep H' ι' a v → Q v H'
  | .exc c x st => ∀ cls ad H' ι', Ext H ι H' ι' → StoRep G H' ι' st → ExcRep G c x H' ι' cls ad → W cls ad H'
  | .stuck => False
section
variable {G : Gx} {α β υ υ' : Type} {rep : Hp → List Addr → α → υ → Prop} {rep' : Hp → List Addr → β → υ' → Prop} {W : Value → Option Addr → Hp → Prop} {H H1 : Hp} {ι ι1 : List Addr} {Q : υ → Hp → Prop} {Q' : υ' → Hp → Prop}
theorem post.ext {r : Res α} (h : post G rep W H ι Q r) (e : Ext H ι H1 ι1) : post G rep W H1 ι1 Q r := by
  cases r with
  | ok a st => exact fun v H' ι' e' => h v H' ι' (e.trans e')
  | exc c x st => exact fun cls ad H' ι' e' => h cls ad H' ι' (e.trans e')
  | stuck => exact h
theorem post.bind {m : Res α} {f : α → Sto → Res β} (h : post G rep' W H ι Q' (m.bind f))
    (k : ∀ a st v H1 ι1, m = .ok a st → Ext H ι H1 ι1 → StoRep G H1 ι1 st → rep H1 ι1 a v → post G rep' W H1 ι1 Q' (f a st) → Q v H1) : post G rep W H ι Q m := by
  cases m with
  | ok a st => exact fun v H1 ι1 e s r => k a st v H1 ι1 rfl e s r (post.ext h e)
  | exc c x st => exact h
  | stuck => exact h
theorem post.mono {Q2 : υ → Hp → Prop} {r : Res α} (h : post G rep W H ι Q r) (k : ∀ v H, Q v H → Q2 v H) : post G rep W H ι Q2 r := by
  cases r with
  | ok a st => exact fun v H' ι' e s q => k _ _ (h v H' ι' e s q)
  | exc c x st => exact h
  | stuck => exact h
end

/-- the slots, the heap and what they mean -/
structure R (G : Gx) (σ : L2.St) (H : Hp) (env : Env) (ι : List Addr) (st : Sto) : Prop where
  len : σ.length = env.length
  var : ∀ (i : Nat) (d : D), env[i]? = some (some d) → ∃ v, σ[i]? = some (some v) ∧ Rep G H ι d v
  sto : StoRep G H ι st
theorem R.ext {G : Gx} {σ : L2.St} {H H' : Hp} {env : Env} {ι ι' : List Addr} {st st' : Sto} (r : R G σ H env ι st) (e : Ext H ι H' ι') (s : StoRep G H' ι' st') : R G σ H' env ι' st' :=
  ⟨r.len, fun i d h => let ⟨v, h1, h2⟩ := r.var i d h; ⟨v, h1, h2.ext e r.sto.mut⟩, s⟩
end OH

set_option Elab.async false
set_option linter.all false
set_option maxRecDepth 100000
set_option maxHeartbeats 1000000
/-! OHRules: each construct of the text has its meaning as a plain function. -/
namespace OH
open PySem PySem.Spec PyProof.Rows L2

theorem pe_imp {X : Cx} {e : Expr} {t t' : TE} (h : PE X e t) (k : ∀ σ H Q, t' σ H Q → t σ H Q) : PE X e t' := ⟨fun pins s σ H Q I q => h.run pins s σ H Q I (k σ H Q q)⟩
theorem pt_imp {X : Cx} {e : Expr} {t t' : TT} (h : PT X e t) (k : ∀ σ H Q, t' σ H Q → t σ H Q) : PT X e t' := ⟨fun pins s σ H Q I q => h.run pins s σ H Q I (k σ H Q q)⟩
theorem pw_imp {X : Cx} {e : Expr} {t t' : TT} (h : PW X e t) (k : ∀ σ H Q, t' σ H Q → t σ H Q) : PW X e t' := ⟨fun wh pins s σ H Q I q => h.run wh pins s σ H Q I (k σ H Q q)⟩
theorem pa_imp {X : Cx} {e : List Expr} {t t' : TA} (h : PA X e t) (k : ∀ σ H Q, t' σ H Q → t σ H Q) : PA X e t' := ⟨fun pos pins s σ H Q I q => h.run pos pins s σ H Q I (k σ H Q q)⟩
theorem ps_imp {X : Cx} {e : Stmt} {t t' : TS} (h : PS X e t) (k : ∀ D σ H, t' D σ H → t D σ H) : PS X e t' := ⟨fun pins s σ H D I q => h.run pins s σ H D I (k D σ H q)⟩
theorem pss_imp {X : Cx} {e : List Stmt} {t t' : TS} (h : PSs X e t) (k : ∀ D σ H, t' D σ H → t D σ H) : PSs X e t' := ⟨fun pins s σ H D I q => h.run pins s σ H D I (k D σ H q)⟩
theorem pi_imp {X : Cx} {tg e : Expr} {t t' : TI} (h : PI X tg e t) (k : ∀ σ H Q, t' σ H Q → t σ H Q) : PI X tg e t' := ⟨fun pins s σ H Q I q => h.run pins s σ H Q I (k σ H Q q)⟩

/-- the readings of a meaning -/
def rG (G : Gx) (W : WX) (C : Call) {α υ : Type} (rep : Hp → Hp → List Addr → α → υ → Prop) (m : Call → Env → Sto → Res α) : L2.St → Hp → (υ → Hp → Prop) → Prop := fun σ H Q =>
  ∃ env ι st, R G σ H env ι st ∧ post G (rep H) (fun cls ad H' => W cls ad σ H') H ι Q (m C env st)
def repB : Hp → Hp → List Addr → Bool → Bool → Prop := fun _ _ _ b c => c = b
def repS (G : Gx) : Hp → Hp → List Addr → List D → V → Prop := fun _ H ι ds v => ∃ a xs, v = .ref a ∧ (SqL G.K H a xs ∨ SqT G.K H a xs) ∧ RepL G H ι ds xs
/-- a list that nobody else has, made behind H0 -/
def repT (G : Gx) : Hp → Hp → List Addr → List D → V → Prop := fun H0 H ι ds v => ∃ a xs, v = .ref a ∧ H a = some (.lst xs) ∧ a ∉ ι ∧ H0 a = none ∧ RepL G H ι ds xs
abbrev tE (G : Gx) (W : WX) (C : Call) (m : SE) : TE := rG G W C (fun _ => Rep G) m
abbrev tB (G : Gx) (W : WX) (C : Call) (m : SB) : TT := rG G W C repB m
abbrev tA (G : Gx) (W : WX) (C : Call) (m : SL) : TA := rG G W C (fun _ => RepL G) m
abbrev tS (G : Gx) (W : WX) (C : Call) (m : SL) : TE := rG G W C (repS G) m
abbrev tT (G : Gx) (W : WX) (C : Call) (m : SL) : TE := rG G W C (repT G) m

def DE (G : Gx) (X : Cx) (W : WX) (C : Call) (e : Expr) (m : SE) : Prop := PE X e (tE G W C m)
def DB (G : Gx) (X : Cx) (W : WX) (C : Call) (e : Expr) (m : SB) : Prop := PT X e (tB G W C m)
/-- .. whatever its whole is: and, or -/
def DW (G : Gx) (X : Cx) (W : WX) (C : Call) (e : Expr) (m : SB) : Prop := PW X e (tB G W C m)
def DA (G : Gx) (X : Cx) (W : WX) (C : Call) (e : List Expr) (m : SL) : Prop := PA X e (tA G W C m)
/-- a tuple or list that is read; a list of one's own -/
def DQ (G : Gx) (X : Cx) (W : WX) (C : Call) (e : Expr) (m : SL) : Prop := PE X e (tS G W C m)
def DT (G : Gx) (X : Cx) (W : WX) (C : Call) (e : Expr) (m : SL) : Prop := PE X e (tT G W C m)

/-- the first part of a meaning, then what follows -/
theorem rG.seq {G : Gx} {W : WX} {C : Call} {α β υ υ' : Type} {rep : Hp → Hp → List Addr → α → υ → Prop} {rep' : Hp → List Addr → β → υ' → Prop} {m : Call → Env → Sto → Res α} {f : α → Sto → Res β}
    {σ : L2.St} {H : Hp} {ι : List Addr} {env : Env} {st : Sto} {Q : υ → Hp → Prop} {Q' : υ' → Hp → Prop}
    (hR : R G σ H env ι st) (h : post G rep' (fun cls ad H' => W cls ad σ H') H ι Q' ((m C env st).bind f))
    (k : ∀ a st1 v H1 ι1, Ext H ι H1 ι1 → R G σ H1 env ι1 st1 → rep H H1 ι1 a v → post G rep' (fun cls ad H' => W cls ad σ H') H1 ι1 Q' (f a st1) → Q v H1) : rG G W C rep m σ H Q :=
  ⟨env, ι, st, hR, post.bind h fun a st1 v H1 ι1 _ e s r hp => k a st1 v H1 ι1 e (hR.ext e s) r hp⟩
section
variable {G : Gx} {W : WX} {C : Call} {β υ υ' : Type} {rep' : Hp → List Addr → β → υ' → Prop} {σ : L2.St} {H : Hp} {ι : List Addr} {env : Env} {st : Sto} {Q' : υ' → Hp → Prop}
theorem sqE {m : SE} {f : D → Sto → Res β} {Q : V → Hp → Prop} (hR : R G σ H env ι st) (h : post G rep' (fun cls ad H' => W cls ad σ H') H ι Q' ((m C env st).bind f))
    (k : ∀ a st1 v H1 ι1, Ext H ι H1 ι1 → R G σ H1 env ι1 st1 → Rep G H1 ι1 a v → post G rep' (fun cls ad H' => W cls ad σ H') H1 ι1 Q' (f a st1) → Q v H1) : rG G W C (fun _ => Rep G) m σ H Q := rG.seq hR h k
theorem sqB {m : SB} {f : Bool → Sto → Res β} {Q : Bool → Hp → Prop} (hR : R G σ H env ι st) (h : post G rep' (fun cls ad H' => W cls ad σ H') H ι Q' ((m C env st).bind f))
    (k : ∀ a st1 H1 ι1, Ext H ι H1 ι1 → R G σ H1 env ι1 st1 → post G rep' (fun cls ad H' => W cls ad σ H') H1 ι1 Q' (f a st1) → Q a H1) : rG G W C repB m σ H Q := rG.seq hR h fun a st1 v H1 ι1 e1 hR1 r1 hp => by
  cases r1
  exact k a st1 H1 ι1 e1 hR1 hp
theorem sqA {m : SL} {f : List D → Sto → Res β} {Q : List V → Hp → Prop} (hR : R G σ H env ι st) (h : post G rep' (fun cls ad H' => W cls ad σ H') H ι Q' ((m C env st).bind f))
    (k : ∀ a st1 v H1 ι1, Ext H ι H1 ι1 → R G σ H1 env ι1 st1 → RepL G H1 ι1 a v → post G rep' (fun cls ad H' => W cls ad σ H') H1 ι1 Q' (f a st1) → Q v H1) : rG G W C (fun _ => RepL G) m σ H Q := rG.seq hR h k
theorem sqS {m : SL} {f : List D → Sto → Res β} {Q : V → Hp → Prop} (hR : R G σ H env ι st) (h : post G rep' (fun cls ad H' => W cls ad σ H') H ι Q' ((m C env st).bind f))
    (k : ∀ ds st1 a xs H1 ι1, Ext H ι H1 ι1 → R G σ H1 env ι1 st1 → (SqL G.K H1 a xs ∨ SqT G.K H1 a xs) → RepL G H1 ι1 ds xs → post G rep' (fun cls ad H' => W cls ad σ H') H1 ι1 Q' (f ds st1) → Q (.ref a) H1) : rG G W C (repS G) m σ H Q :=
  rG.seq hR h fun ds st1 v H1 ι1 e1 hR1 ⟨a, xs, ev, h1, h2⟩ hp => by
    subst ev
    exact k ds st1 a xs H1 ι1 e1 hR1 h1 h2 hp
theorem sqT {m : SL} {f : List D → Sto → Res β} {Q : V → Hp → Prop} (hR : R G σ H env ι st) (h : post G rep' (fun cls ad H' => W cls ad σ H') H ι Q' ((m C env st).bind f))
    (k : ∀ ds st1 a xs H1 ι1, Ext H ι H1 ι1 → R G σ H1 env ι1 st1 → H1 a = some (.lst xs) → a ∉ ι1 → H a = none → RepL G H1 ι1 ds xs → post G rep' (fun cls ad H' => W cls ad σ H') H ι Q' (f ds st1) → Q (.ref a) H1) : rG G W C (repT G) m σ H Q := by
  refine ⟨env, ι, st, hR, ?_⟩
  generalize m C env st = r at h
  cases r with
  | ok ds st1 =>
    intro v H1 ι1 e s ⟨a, xs, ev, h1, h2, h3, h4⟩
    subst ev
    exact k ds st1 a xs H1 ι1 e (hR.ext e s) h1 h2 h3 h4 h
  | exc c x st1 => exact h
  | stuck => exact h
end
/-- the last step: a value -/
theorem post.here {G : Gx} {α υ : Type} {rep : Hp → List Addr → α → υ → Prop} {W : Value → Option Addr → Hp → Prop} {H : Hp} {ι : List Addr} {Q : υ → Hp → Prop} {a : α} {st : Sto} (h : post G rep W H ι Q (.ok a st)) {v : υ} (s : StoRep G H ι st) (r : rep H ι a v) : Q v H :=
  h v H ι (Ext.refl _ _) s r
theorem post.opt {G : Gx} {α υ : Type} {rep : Hp → List Addr → α → υ → Prop} {W : Value → Option Addr → Hp → Prop} {H : Hp} {ι : List Addr} {Q : υ → Hp → Prop} {o : Option α} {st : Sto} (h : post G rep W H ι Q (Res.of o st)) : ∃ a, o = some a ∧ post G rep W H ι Q (.ok a st) := by
  cases o with
  | none => exact h.elim
  | some a => exact ⟨a, rfl, h⟩

section
variable {G : Gx} {X : Cx} {W : WX} {C : Call}

/-! ### names, constants -/
theorem de_var {i : Nat} {e : Expr} (h : PE X e (tVar i)) : DE G X W C e (eV i) := pe_imp h fun σ H Q ⟨env, ι, st, hR, hp⟩ => by
  unfold eV at hp
  split at hp
  · rename_i d hd
    obtain ⟨v, h1, h2⟩ := hR.var i d hd
    exact ⟨v, h1, hp.here hR.sto h2⟩
  · exact hp.elim
theorem de_int {i : Int} {j : Nat} {pos : Pos} : DE G X W C (.Constant (.int i) j pos) (eC (.int i)) := pe_imp pe_int fun σ H Q ⟨env, ι, st, hR, hp⟩ => hp.here hR.sto (v := .int i) rfl
theorem de_str {x : Str} {j : Nat} {pos : Pos} : DE G X W C (.Constant (.str x) j pos) (eC (.str x)) := pe_imp pe_str fun σ H Q ⟨env, ι, st, hR, hp⟩ => hp.here hR.sto (v := .str x) rfl
theorem de_bl {b : Bool} {j : Nat} {pos : Pos} : DE G X W C (.Constant (.bool b) j pos) (eC (.bl b)) := pe_imp pe_bl fun σ H Q ⟨env, ι, st, hR, hp⟩ => hp.here hR.sto (v := .bl b) rfl
theorem de_non {j : Nat} {pos : Pos} : DE G X W C (.Constant .none j pos) (eC .non) := pe_imp pe_non fun σ H Q ⟨env, ι, st, hR, hp⟩ => hp.here hR.sto (v := .non) rfl
/-- a module's constant -/
theorem de_glob {x : Str} {d : D} {v : V} {pos : Pos} (h : PE X (.Name x pos) (tC v)) (r : ∀ H ι, Rep G H ι d v) : DE G X W C (.Name x pos) (eC d) :=
  pe_imp h fun σ H Q ⟨env, ι, st, hR, hp⟩ => hp.here hR.sto (r H ι)

/-! ### operators -/
/-- r's wants follow from the meaning g -/
def Br2 (G : Gx) (r : R2) (g : Sto → D → D → Res D) : Prop := ∀ (W : Value → Option Addr → Hp → Prop) (H : Hp) (ι : List Addr) (st : Sto) (x y : D) (v u : V) (Q : VK), StoRep G H ι st → Rep G H ι x v → Rep G H ι y u → post G (Rep G) W H ι Q (g st x y) → r v u H Q
def Br1 (G : Gx) (r : V → Hp → VK → Prop) (g : Sto → D → Res D) : Prop := ∀ (W : Value → Option Addr → Hp → Prop) (H : Hp) (ι : List Addr) (st : Sto) (x : D) (v : V) (Q : VK), StoRep G H ι st → Rep G H ι x v → post G (Rep G) W H ι Q (g st x) → r v H Q
def BrA (G : Gx) (r : List V → Hp → VK → Prop) (g : Sto → List D → Res D) : Prop := ∀ (W : Value → Option Addr → Hp → Prop) (H : Hp) (ι : List Addr) (st : Sto) (x : List D) (v : List V) (Q : VK), StoRep G H ι st → RepL G H ι x v → post G (Rep G) W H ι Q (g st x) → r v H Q
def eB2 (g : Sto → D → D → Res D) (a b : SE) : SE := fun C env st => (a C env st).bind fun x st => (b C env st).bind fun y st => g st x y
def eU1 (g : Sto → D → Res D) (a : SE) : SE := fun C env st => (a C env st).bind fun x st => g st x
def eA (g : Sto → List D → Res D) (l : SL) : SE := fun C env st => (l C env st).bind fun xs st => g st xs
theorem de_tOp {e : Expr} {r : R2} {g : Sto → D → D → Res D} {a b : Expr} {ma mb : SE} (h : PE X e (tOp r (tE G W C ma) (tE G W C mb))) (br : Br2 G r g) : DE G X W C e (eB2 g ma mb) :=
  pe_imp h fun σ H Q ⟨env, ι, st, hR, hp⟩ => sqE hR hp fun x st1 v H1 ι1 e1 hR1 r1 hp1 => sqE hR1 hp1 fun y st2 u H2 ι2 e2 hR2 r2 hp2 =>
    br _ H2 ι2 st2 x y v u Q hR2.sto (r1.ext e2 hR1.sto.mut) r2 hp2
theorem de_tUn {e : Expr} {r : V → Hp → VK → Prop} {g : Sto → D → Res D} {ma : SE} (h : PE X e (tUn r (tE G W C ma))) (br : Br1 G r g) : DE G X W C e (eU1 g ma) :=
  pe_imp h fun σ H Q ⟨env, ι, st, hR, hp⟩ => sqE hR hp fun x st1 v H1 ι1 e1 hR1 r1 hp1 => br _ H1 ι1 st1 x v Q hR1.sto r1 hp1
theorem de_op {op : Operator} {r : R2} {g : Sto → D → D → Res D} {a b : Expr} {ma mb : SE} {pos : Pos} (ho : OpR X (binaryOp op) r) (br : Br2 G r g) (ha : DE G X W C a ma) (hb : DE G X W C b mb) : DE G X W C (.BinOp a op b pos) (eB2 g ma mb) := de_tOp (a := a) (b := b) (pe_op ho ha hb) br
theorem de_un {op : UnaryOp} {r : V → Hp → VK → Prop} {g : Sto → D → Res D} {a : Expr} {ma : SE} {pos : Pos} (ho : UnR X (unaryOp op) r) (br : Br1 G r g) (ha : DE G X W C a ma) : DE G X W C (.UnaryOp op a pos) (eU1 g ma) := de_tUn (pe_un ho ha) br
theorem de_cmp {op : CmpOp} {r : R2} {g : Sto → D → D → Res D} {a b : Expr} {ma mb : SE} {pos : Pos} (ho : OpR X (compareOp op) r) (br : Br2 G r g) (ha : DE G X W C a ma) (hb : DE G X W C b mb) (hm : behindInMarks op b = false) : DE G X W C (.Compare a [op] [b] pos) (eB2 g ma mb) := de_tOp (a := a) (b := b) (pe_cmpR ho ha hb hm) br

/-! ### tests -/
theorem truth_V {H : Hp} {ι : List Addr} {st : Sto} {d : D} {v : V} {k : Bool} (s : StoRep G H ι st) (r : Rep G H ι d v) (h : truth st d = some k) : TruV G.K v H k := by
  cases d with
  | non => cases r; cases h; rfl
  | bl b => cases r; cases h; rfl
  | int i => cases r; cases h; rfl
  | str x =>
    cases r
    simp only [truth] at h
    split at h
    · cases h
      exact ⟨by assumption, rfl⟩
    · cases h
  | tup ds =>
    obtain ⟨a, xs, e1, e2, e3⟩ := r
    subst e1
    cases h
    refine .inr (.inl ⟨xs, e2, ?_⟩)
    have := e3.length
    cases ds <;> cases xs <;> simp at this <;> rfl
  | scr ds =>
    obtain ⟨a, xs, e1, e2, e3⟩ := r
    subst e1
    cases h
    refine .inl ⟨xs, e2.sq, ?_⟩
    have := e3.length
    cases ds <;> cases xs <;> simp at this <;> rfl
  | ref i =>
    simp only [truth] at h
    obtain ⟨ds, h1, h2⟩ := Option.map_eq_some_iff.mp h
    subst h2
    obtain ⟨a, xs, q1, q2, q3⟩ := s.lst h1
    obtain ⟨a', r1, r2⟩ := r
    rw [q1] at r1; cases r1
    subst r2
    refine .inl ⟨xs, SqL.of q2, ?_⟩
    have := q3.length
    cases ds <;> cases xs <;> simp at this <;> rfl
  | fn f => cases h
/-- any expression as a test -/
theorem db_of {a : Expr} {ma : SE} (hK : X.K = G.K) (ha : DE G X W C a ma) (he : ∀ whole, isTrue a X.env whole = (do let v ← whole; standAt a.pos; holding [v] (truthy v)) := by intro _; rfl) : DB G X W C a (bOf ma) :=
  pt_imp (pt_truth ha he) fun σ H Q ⟨env, ι, st, hR, hp⟩ => sqE hR hp fun x st1 v H1 ι1 e1 hR1 r1 hp1 => by
    obtain ⟨k, e, hp2⟩ := hp1.opt
    exact ⟨k, by rw [hK]; exact truth_V hR1.sto r1 e, hp2.here hR1.sto rfl⟩
/-- a comparison as a test, g gives truth values alone -/
def cB (g : Sto → D → D → Option Bool) : Sto → D → D → Res D := fun st x y => Res.of ((g st x y).map D.bl) st
def bCmp (g : Sto → D → D → Option Bool) (a b : SE) : SB := fun C env st => (a C env st).bind fun x st => (b C env st).bind fun y st => Res.of (g st x y) st
theorem db_cmp {op : CmpOp} {r : R2} {g : Sto → D → D → Option Bool} {a b : Expr} {ma mb : SE} {pos : Pos} (ho : OpR X (compareOp op) r) (br : Br2 G r (cB g)) (ha : DE G X W C a ma) (hb : DE G X W C b mb) (hm : behindInMarks op b = false) : DB G X W C (.Compare a [op] [b] pos) (bCmp g ma mb) :=
  pt_imp (pt_cmpR ho ha hb hm) fun σ H Q ⟨env, ι, st, hR, hp⟩ => sqE hR hp fun x st1 v H1 ι1 e1 hR1 r1 hp1 => sqE hR1 hp1 fun y st2 u H2 ι2 e2 hR2 r2 hp2 => by
    obtain ⟨k, e, hp3⟩ := hp2.opt
    refine br (fun _ _ _ => False) H2 ι2 st2 x y v u _ hR2.sto (r1.ext e2 hR1.sto.mut) r2 ?_
    unfold cB
    rw [e]
    intro v' H3 ι3 e3 s3 r3
    exact ⟨k, r3, hp3 k H3 ι3 e3 s3 rfl⟩
theorem db_not {a : Expr} {m : SB} {pos : Pos} (ha : DB G X W C a m) : DB G X W C (.UnaryOp .Not a pos) (bNot m) :=
  pt_imp (pt_not ha) fun σ H Q ⟨env, ι, st, hR, hp⟩ => sqB hR hp fun x st1 H1 ι1 e1 hR1 hp1 => by
    exact hp1.here hR1.sto rfl
theorem dw_and1 {a : Expr} {m : SB} {pos : Pos} (ha : DB G X W C a m) : DW G X W C (.BoolOp .And [a] pos) m := pw_and1 ha
theorem dw_or1 {a : Expr} {m : SB} {pos : Pos} (ha : DB G X W C a m) : DW G X W C (.BoolOp .Or [a] pos) m := pw_or1 ha
theorem dw_and {a b : Expr} {r : List Expr} {ma mb : SB} {pos : Pos} (ha : DB G X W C a ma) (hb : DW G X W C (.BoolOp .And (b :: r) pos) mb) : DW G X W C (.BoolOp .And (a :: b :: r) pos) (bAnd ma mb) :=
  pw_imp (pw_and ha hb) fun σ H Q ⟨env, ι, st, hR, hp⟩ => sqB hR hp fun x st1 H1 ι1 e1 hR1 hp1 => by
    cases x with
    | true => exact iteT ⟨env, ι1, st1, hR1, hp1⟩
    | false => exact iteF (hp1.here hR1.sto rfl)
theorem dw_or {a b : Expr} {r : List Expr} {ma mb : SB} {pos : Pos} (ha : DB G X W C a ma) (hb : DW G X W C (.BoolOp .Or (b :: r) pos) mb) : DW G X W C (.BoolOp .Or (a :: b :: r) pos) (bOr ma mb) :=
  pw_imp (pw_or ha hb) fun σ H Q ⟨env, ι, st, hR, hp⟩ => sqB hR hp fun x st1 H1 ι1 e1 hR1 hp1 => by
    cases x with
    | true => exact iteT (hp1.here hR1.sto rfl)
    | false => exact iteF ⟨env, ι1, st1, hR1, hp1⟩
theorem db_w {e : Expr} {m : SB} (h : DW G X W C e m) : DB G X W C e m := PW.pt h

/-! ### and, or, not, if as values -/
theorem de_one {op : BoolOp} {a : Expr} {m : SE} {pos : Pos} (h : DE G X W C a m) : DE G X W C (.BoolOp op [a] pos) m := pe_one h
theorem de_and {a b : Expr} {r : List Expr} {ma mb : SE} {pos : Pos} (hK : X.K = G.K) (ha : DE G X W C a ma) (hb : DE G X W C (.BoolOp .And (b :: r) pos) mb) : DE G X W C (.BoolOp .And (a :: b :: r) pos) (eAnd ma mb) :=
  pe_imp (pe_andT ha hb) fun σ H Q ⟨env, ι, st, hR, hp⟩ => sqE hR hp fun x st1 v H1 ι1 e1 hR1 r1 hp1 => by
    cases e : truth st1 x with
    | none => rw [e] at hp1; exact hp1.elim
    | some k =>
      rw [e] at hp1
      refine ⟨k, by rw [hK]; exact truth_V hR1.sto r1 e, ?_⟩
      cases k with
      | true => exact iteT ⟨env, ι1, st1, hR1, hp1⟩
      | false => exact iteF (hp1.here hR1.sto r1)
theorem de_or {a b : Expr} {r : List Expr} {ma mb : SE} {pos : Pos} (hK : X.K = G.K) (ha : DE G X W C a ma) (hb : DE G X W C (.BoolOp .Or (b :: r) pos) mb) : DE G X W C (.BoolOp .Or (a :: b :: r) pos) (eOr ma mb) :=
  pe_imp (pe_orT ha hb) fun σ H Q ⟨env, ι, st, hR, hp⟩ => sqE hR hp fun x st1 v H1 ι1 e1 hR1 r1 hp1 => by
    cases e : truth st1 x with
    | none => rw [e] at hp1; exact hp1.elim
    | some k =>
      rw [e] at hp1
      refine ⟨k, by rw [hK]; exact truth_V hR1.sto r1 e, ?_⟩
      cases k with
      | true => exact iteT (hp1.here hR1.sto r1)
      | false => exact iteF ⟨env, ι1, st1, hR1, hp1⟩
theorem de_not {a : Expr} {m : SE} {pos : Pos} (hK : X.K = G.K) (ha : DE G X W C a m) : DE G X W C (.UnaryOp .Not a pos) (eNot m) :=
  pe_imp (pe_notT ha) fun σ H Q ⟨env, ι, st, hR, hp⟩ => sqE hR hp fun x st1 v H1 ι1 e1 hR1 r1 hp1 => by
    cases e : truth st1 x with
    | none => rw [e] at hp1; exact hp1.elim
    | some k =>
      rw [e] at hp1
      exact ⟨k, by rw [hK]; exact truth_V hR1.sto r1 e, hp1.here hR1.sto (v := .bl (!k)) rfl⟩
theorem de_if {c a b : Expr} {mc : SB} {ma mb : SE} {pos : Pos} (hc : DB G X W C c mc) (ha : DE G X W C a ma) (hb : DE G X W C b mb) : DE G X W C (.IfExp c a b pos) (eIf mc ma mb) :=
  pe_imp (pe_ifExp hc ha hb) fun σ H Q ⟨env, ι, st, hR, hp⟩ => sqB hR hp fun x st1 H1 ι1 e1 hR1 hp1 => by
    cases x with
    | true => exact iteT ⟨env, ι1, st1, hR1, hp1⟩
    | false => exact iteF ⟨env, ι1, st1, hR1, hp1⟩

/-! ### rows of arguments, displays -/
theorem da_nil : DA G X W C [] lNil := pa_imp pa_nil fun σ H Q ⟨env, ι, st, hR, hp⟩ => hp.here hR.sto (v := []) rfl
theorem da_cons {e : Expr} {es : List Expr} {m : SE} {l : SL} (ha : DE G X W C e m) (hr : DA G X W C es l) (hs : starEach (e :: es) X.env = (false, eval e X.env) :: starEach es X.env := by rfl) : DA G X W C (e :: es) (lCons m l) :=
  pa_imp (pa_cons ha hr hs) fun σ H Q ⟨env, ι, st, hR, hp⟩ => sqE hR hp fun x st1 v H1 ι1 e1 hR1 r1 hp1 => sqA hR1 hp1 fun xs st2 vs H2 ι2 e2 hR2 r2 hp2 =>
    hp2.here hR2.sto ⟨v, vs, rfl, r1.ext e2 hR1.sto.mut, r2⟩
def eTup (l : SL) : SE := eA (fun st ds => if ds.length ≤ sizeLine then .ok (.tup ds) st else .stuck) l
theorem de_tup {es : List Expr} {l : SL} {k : Nat} {pos : Pos} (h : DA G X W C es l) : DE G X W C (.Tuple es k pos) (eTup l) :=
  pe_imp (pe_tup h) fun σ H Q ⟨env, ι, st, hR, hp⟩ => sqA hR hp fun ds st1 vs H1 ι1 e1 hR1 r1 hp1 => by
    dsimp only at hp1
    split at hp1
    · rename_i hz
      refine ⟨by rw [r1.length]; exact hz, fun p hp => ?_⟩
      refine hp1 _ _ ι1 (ext_new hp) (hR1.sto.fresh hp) ⟨p, vs, rfl, SqT.of upd_same, r1.ext (ext_new hp) hR1.sto.mut⟩
    · exact hp1.elim
/-- the written list, of one's own -/
def lLst (l : SL) : SL := lMap (fun _ ds => if ds.length ≤ sizeLine then some ds else none) l
theorem dt_lst {es : List Expr} {l : SL} {pos : Pos} (h : DA G X W C es l) : DT G X W C (.List es pos) (lLst l) :=
  pe_imp (pe_lst h) fun σ H Q ⟨env, ι, st, hR, hp⟩ => sqA hR hp fun ds st1 vs H1 ι1 e1 hR1 r1 hp1 => by
    obtain ⟨ds', e, hp2⟩ := hp1.opt
    dsimp only at e
    split at e
    · rename_i hz
      cases e
      refine ⟨by rw [r1.length]; exact hz, fun p hp => ?_⟩
      refine hp2 _ _ ι1 (ext_new hp) (hR1.sto.fresh hp) ⟨p, vs, rfl, upd_same, hR1.sto.notin hp, ?_, r1.ext (ext_new hp) hR1.sto.mut⟩
      cases q : H p with
      | none => rfl
      | some o =>
        by_cases hm : p ∈ ι
        · exact absurd hp (fun z => hR1.sto.ne (by obtain ⟨r, rfl⟩ := e1.more; exact List.mem_append_left _ hm) z rfl)
        · rw [e1.keep p o q hm] at hp; cases hp
    · cases e
/-- a list of one's own goes into the store -/
theorem de_new {e : Expr} {l : SL} (h : DT G X W C e l) : DE G X W C e (eNew l) :=
  pe_imp h fun σ H Q ⟨env, ι, st, hR, hp⟩ => sqT hR hp fun ds st1 a xs H1 ι1 e1 hR1 h1 h2 h3 h4 hp1 =>
    hp1 (.ref a) H1 (ι1 ++ [a]) (e1.take h3) (hR1.sto.push h2 ⟨xs, h1, h4.grow _⟩) ⟨a, by rw [← hR1.sto.len]; simp, rfl⟩
/-- .. or is read -/
theorem dq_tmp {e : Expr} {l : SL} (h : DT G X W C e l) : DQ G X W C e l :=
  pe_imp h fun σ H Q ⟨env, ι, st, hR, hp⟩ => ⟨env, ι, st, hR, by
    generalize l C env st = r at hp
    cases r with
    | ok ds st1 => exact fun v H1 ι1 e s ⟨a, xs, ev, h1, h2, h3, h4⟩ => hp v H1 ι1 e s ⟨a, xs, ev, .inl (SqL.of h1), h4⟩
    | exc c x st1 => exact hp
    | stuck => exact hp⟩
theorem dq_of {e : Expr} {m : SE} (h : DE G X W C e m) : DQ G X W C e (lSeq m) :=
  pe_imp h fun σ H Q ⟨env, ι, st, hR, hp⟩ => sqE hR hp fun x st1 v H1 ι1 e1 hR1 r1 hp1 => by
    obtain ⟨ds, e, hp2⟩ := hp1.opt
    exact hp2.here hR1.sto (hR1.sto.items e r1)
end
end OH

set_option Elab.async false
set_option linter.all false
set_option maxRecDepth 100000
set_option maxHeartbeats 1000000
/-! OHStmt: statements, loops, comprehensions, defs. -/
namespace OH
open PySem PySem.Spec PyProof.Rows L2

/-! ### meanings of statements -/
def sNx : SS := fun _ env st => .nx env st
def sSeq (a b : SS) : SS := fun C env st => (a C env st).thenS fun env st => b C env st
def sRet (e : SE) : SS := fun C env st => (e C env st).thenS env fun d st => .ret d st
def sRetN : SS := fun _ _ st => .ret .non st
def sExp (e : SE) : SS := fun C env st => (e C env st).thenS env fun _ st => .nx env st
def sSet (i : Nat) (e : SE) : SS := fun C env st => (e C env st).thenS env fun d st => .nx (env.set i (some d)) st
/-- a target's store -/
def sAsg (g : SG) (e : SE) : SS := fun C env st => (e C env st).thenS env fun d st => match g d env with | some env' => .nx env' st | none => .stuck
/-- o[i] = e -/
def sPut (f : Sto → D → D → D → Option Sto) (o i e : SE) : SS := fun C env st => (e C env st).thenS env fun v st => (o C env st).thenS env fun x st => (i C env st).thenS env fun y st =>
  match f st x y v with | some st' => .nx env st' | none => .stuck
/-- name op= e -/
def sAug (i : Nat) (f : Sto → D → D → Res D) (e : SE) : SS := fun C env st => (eV i C env st).thenS env fun x st => (e C env st).thenS env fun y st => (f st x y).thenS env fun z st => .nx (env.set i (some z)) st
def sIf (c : SB) (a b : SS) : SS := fun C env st => (c C env st).thenS env fun t st => if t then a C env st else b C env st
def sBrk : SS := fun _ env st => .brk env st
def sCnt : SS := fun _ env st => .cnt env st
/-- the loop over what is left -/
def forGo (src : List (Nat × List D)) (g : SG) (body : SS) (C : Call) : List D → Env → Sto → RS
  | [], env, st => if good src st then .nx env st else .stuck
  | d :: ds, env, st => if good src st then
      match g d env with
      | none => .stuck
      | some env' => match body C env' st with
        | .nx env st => forGo src g body C ds env st
        | .cnt env st => forGo src g body C ds env st
        | .brk env st => .nx env st
        | r => r
    else .stuck
def sFor (it : SI) (g : SG) (body : SS) : SS := fun C env st => (it C env st).thenS env fun w st => forGo w.src g body C w.ds env st
def whileGo (c : SB) (body : SS) (C : Call) : Nat → Env → Sto → RS
  | 0, _, _ => .stuck
  | n + 1, env, st => (c C env st).thenS env fun t st => if t then
      match body C env st with
      | .nx env st => whileGo c body C n env st
      | .cnt env st => whileGo c body C n env st
      | .brk env st => .nx env st
      | r => r
    else .nx env st
def wFuel : Nat := 1000000
def sWhile (c : SB) (body : SS) : SS := fun C env st => whileGo c body C wFuel env st

/-! ### comprehensions -/
def Res.noX {α : Type} : Res α → Res α
  | .exc _ _ _ => .stuck
  | r => r
@[simp] theorem Res.noX_ok {α : Type} (a : α) (st : Sto) : (Res.ok a st).noX = .ok a st := rfl
def wipeE (env : Env) : List Nat → Env
  | [] => env
  | v :: vs => (wipeE env vs).set v none
def bTrue : SB := fun _ _ st => .ok true st
def lcGo (src : List (Nat × List D)) (g : SG) (c : SB) (elt : SE) (C : Call) (env : Env) : List D → List D → Sto → Res (List D)
  | [], acc, st => if good src st then .ok acc st else .stuck
  | d :: ds, acc, st => if good src st then
      match g d env with
      | none => .stuck
      | some env' => (c C env' st).noX.bind fun t st => if t then (elt C env' st).noX.bind fun x st => lcGo src g c elt C env ds (acc ++ [x]) st else lcGo src g c elt C env ds acc st
    else .stuck
def lLc (it : SI) (g : SG) (vs : List Nat) (c : SB) (elt : SE) : SL := fun C env st => (it C env st).bind fun w st => if w.ds.length ≤ sizeLine then lcGo w.src g c elt C (wipeE env vs) w.ds [] st else .stuck

/-! ### what a statement's meaning promises -/
def postS (G : Gx) (W : WX) (K : Ends) (H : Hp) (ι : List Addr) : RS → Prop
  | .nx env st => ∀ σ' H' ι', Ext H ι H' ι' → R G σ' H' env ι' st → K.nx σ' H'
  | .brk env st => ∀ σ' H' ι', Ext H ι H' ι' → R G σ' H' env ι' st → K.bk σ' H'
  | .cnt env st => ∀ σ' H' ι', Ext H ι H' ι' → R G σ' H' env ι' st → K.ct σ' H'
  | .ret d st => ∀ v H' ι', Ext H ι H' ι' → StoRep G H' ι' st → Rep G H' ι' d v → K.rt v H'
  | .exc c x env st => ∀ cls ad σ' H' ι', Ext H ι H' ι' → R G σ' H' env ι' st → ExcRep G c x H' ι' cls ad → W cls ad σ' H'
  | .stuck => False
theorem postS.ext {G : Gx} {W : WX} {K : Ends} {H H1 : Hp} {ι ι1 : List Addr} {r : RS} (h : postS G W K H ι r) (e : Ext H ι H1 ι1) : postS G W K H1 ι1 r := by
  cases r with
  | nx env st => exact fun σ' H' ι' e' => h σ' H' ι' (e.trans e')
  | brk env st => exact fun σ' H' ι' e' => h σ' H' ι' (e.trans e')
  | cnt env st => exact fun σ' H' ι' e' => h σ' H' ι' (e.trans e')
  | ret d st => exact fun v H' ι' e' => h v H' ι' (e.trans e')
  | exc c x env st => exact fun cls ad σ' H' ι' e' => h cls ad σ' H' ι' (e.trans e')
  | stuck => exact h
abbrev tSt (G : Gx) (W : WX) (C : Call) (m : SS) : TS := fun K σ H => ∃ env ι st, R G σ H env ι st ∧ postS G W K H ι (m C env st)
def DS (G : Gx) (X : Cx) (W : WX) (C : Call) (s : Stmt) (m : SS) : Prop := PS X s (tSt G W C m)
def DSs (G : Gx) (X : Cx) (W : WX) (C : Call) (s : List Stmt) (m : SS) : Prop := PSs X s (tSt G W C m)

section
variable {G : Gx} {W : WX} {C : Call} {σ : L2.St} {H : Hp} {ι : List Addr} {env : Env} {st : Sto} {K : Ends}
theorem ssG {α υ : Type} {rep : Hp → Hp → List Addr → α → υ → Prop} {m : Call → Env → Sto → Res α} {f : α → Sto → RS} {Q : υ → Hp → Prop} (hR : R G σ H env ι st) (h : postS G W K H ι ((m C env st).thenS env f))
    (k : ∀ a st1 v H1 ι1, Ext H ι H1 ι1 → R G σ H1 env ι1 st1 → rep H H1 ι1 a v → postS G W K H1 ι1 (f a st1) → Q v H1) : rG G W C rep m σ H Q := by
  refine ⟨env, ι, st, hR, ?_⟩
  generalize m C env st = r at h
  cases r with
  | ok a st1 => exact fun v H1 ι1 e s r1 => k a st1 v H1 ι1 e (hR.ext e s) r1 (h.ext e)
  | exc c x st1 => exact fun cls ad H1 ι1 e s r1 => h cls ad σ H1 ι1 e (hR.ext e s) r1
  | stuck => exact h
theorem ssE {m : SE} {f : D → Sto → RS} {Q : V → Hp → Prop} (hR : R G σ H env ι st) (h : postS G W K H ι ((m C env st).thenS env f))
    (k : ∀ a st1 v H1 ι1, Ext H ι H1 ι1 → R G σ H1 env ι1 st1 → Rep G H1 ι1 a v → postS G W K H1 ι1 (f a st1) → Q v H1) : rG G W C (fun _ => Rep G) m σ H Q := ssG hR h k
theorem ssB {m : SB} {f : Bool → Sto → RS} {Q : Bool → Hp → Prop} (hR : R G σ H env ι st) (h : postS G W K H ι ((m C env st).thenS env f))
    (k : ∀ a st1 H1 ι1, Ext H ι H1 ι1 → R G σ H1 env ι1 st1 → postS G W K H1 ι1 (f a st1) → Q a H1) : rG G W C repB m σ H Q := ssG hR h fun a st1 v H1 ι1 e1 hR1 r1 hp => by
  cases r1
  exact k a st1 H1 ι1 e1 hR1 hp
theorem R.set (hR : R G σ H env ι st) {d : D} {v : V} (r : Rep G H ι d v) (i : Nat) : R G (σ.set i (some v)) H (env.set i (some d)) ι st := by
  refine ⟨by simpa using hR.len, fun j d' h => ?_, hR.sto⟩
  by_cases e : i = j
  · subst e
    have hl := (List.getElem?_eq_some_iff.mp h).1
    simp at hl
    rw [List.getElem?_set_self hl] at h
    cases h
    exact ⟨v, List.getElem?_set_self (by rw [hR.len]; exact hl), r⟩
  · rw [List.getElem?_set_ne e] at h
    rw [List.getElem?_set_ne e]
    exact hR.var j d' h
theorem R.wipe (hR : R G σ H env ι st) : ∀ vs : List Nat, R G (wipe σ vs) H (wipeE env vs) ι st
  | [] => hR
  | i :: vs => by
    have ih := hR.wipe vs
    unfold L2.wipe wipeE
    refine ⟨by simpa using ih.len, fun j d' h => ?_, hR.sto⟩
    by_cases e : i = j
    · subst e
      have hl := (List.getElem?_eq_some_iff.mp h).1
      simp at hl
      rw [List.getElem?_set_self hl] at h
      cases h
    · rw [List.getElem?_set_ne e] at h
      rw [List.getElem?_set_ne e]
      exact ih.var j d' h
end

section
variable {G : Gx} {X : Cx} {W : WX} {C : Call}
theorem dss_nil : DSs G X W C [] sNx := pss_imp pss_nil fun K σ H ⟨env, ι, st, hR, hp⟩ => hp σ H ι (Ext.refl _ _) hR
theorem dss_cons {s : Stmt} {r : List Stmt} {a b : SS} (h1 : DS G X W C s a) (h2 : DSs G X W C r b) : DSs G X W C (s :: r) (sSeq a b) := pss_imp (pss_cons h1 h2) fun K σ H ⟨env, ι, st, hR, hp⟩ => by
  refine ⟨env, ι, st, hR, ?_⟩
  have hp : postS G W K H ι ((a C env st).thenS fun env st => b C env st) := hp
  generalize a C env st = r at hp
  cases r with
  | nx env' st' => exact fun σ' H' ι' e r' => ⟨env', ι', st', r', hp.ext e⟩
  | brk env' st' => exact hp
  | cnt env' st' => exact hp
  | ret d st' => exact hp
  | exc c x env' st' => exact hp
  | stuck => exact hp
theorem dss_one {s : Stmt} {a : SS} (h1 : DS G X W C s a) : DSs G X W C [s] a := pss_one h1
theorem ds_pass {pos : Pos} : DS G X W C (.Pass pos) sNx := ps_imp ps_pass fun K σ H ⟨env, ι, st, hR, hp⟩ => hp σ H ι (Ext.refl _ _) hR
theorem ds_break {pos : Pos} : DS G X W C (.Break pos) sBrk := ps_imp ps_break fun K σ H ⟨env, ι, st, hR, hp⟩ => hp σ H ι (Ext.refl _ _) hR
theorem ds_continue {pos : Pos} : DS G X W C (.Continue pos) sCnt := ps_imp ps_continue fun K σ H ⟨env, ι, st, hR, hp⟩ => hp σ H ι (Ext.refl _ _) hR
theorem ds_ret {e : Expr} {m : SE} {pos : Pos} (h : DE G X W C e m) : DS G X W C (.Return (some e) pos) (sRet m) := ps_imp (ps_ret h) fun K σ H ⟨env, ι, st, hR, hp⟩ => ssE hR hp fun d st1 v H1 ι1 e1 hR1 r1 hp1 => hp1 v H1 ι1 (Ext.refl _ _) hR1.sto r1
theorem ds_retN {pos : Pos} : DS G X W C (.Return none pos) sRetN := ps_imp ps_retN fun K σ H ⟨env, ι, st, hR, hp⟩ => hp .non H ι (Ext.refl _ _) hR.sto rfl
theorem ds_exp {e : Expr} {m : SE} {pos : Pos} (h : DE G X W C e m) (hs : swapsWith e none pos.line X.env = pure false := by rfl) : DS G X W C (.Expr e pos) (sExp m) := ps_imp (ps_expr h hs) fun K σ H ⟨env, ι, st, hR, hp⟩ => ssE hR hp fun d st1 v H1 ι1 e1 hR1 r1 hp1 => hp1 σ H1 ι1 (Ext.refl _ _) hR1
theorem ds_set {s : Stmt} {i : Nat} {m : SE} (h : PS X s (tAsg (tE G W C m) (gName i))) : DS G X W C s (sSet i m) := ps_imp h fun K σ H ⟨env, ι, st, hR, hp⟩ => ssE hR hp fun d st1 v H1 ι1 e1 hR1 r1 hp1 => hp1 _ H1 ι1 (Ext.refl _ _) (hR1.set r1 i)
theorem ds_if {c : Expr} {a b : List Stmt} {mc : SB} {ma mb : SS} {pos : Pos} (hc : DB G X W C c mc) (ha : DSs G X W C a ma) (hb : DSs G X W C b mb) : DS G X W C (.If c a b pos) (sIf mc ma mb) := ps_imp (ps_if hc ha hb) fun K σ H ⟨env, ι, st, hR, hp⟩ => ssB hR hp fun t st1 H1 ι1 e1 hR1 hp1 => by
  cases t with
  | true => exact iteT ⟨env, ι1, st1, hR1, hp1⟩
  | false => exact iteF ⟨env, ι1, st1, hR1, hp1⟩
theorem ds_while {c : Expr} {body : List Stmt} {mc : SB} {mb : SS} {pos : Pos} (hpo : PassesOwn (model X.prog X.w) X.A X.env X.xe) (hc : DB G X W C c mc) (hb : DSs G X W C body mb) : DS G X W C (.While c body [] pos) (sWhile mc mb) := ps_imp (ps_while hpo hc hb) fun K σ H ⟨env, ι, st, hR, hp⟩ => by
  refine ⟨fun n σ' H' => ∃ env' ι' st', R G σ' H' env' ι' st' ∧ postS G W K H' ι' (whileGo mc mb C n env' st'), ⟨wFuel, env, ι, st, hR, hp⟩, fun n σ1 H1 ⟨env1, ι1, st1, hR1, hp1⟩ => ?_⟩
  cases n with
  | zero => exact hp1.elim
  | succ n =>
    unfold whileGo at hp1
    refine ssB hR1 hp1 fun t st2 H2 ι2 e2 hR2 hp2 => ?_
    cases t with
    | false => exact iteF (hp2 σ1 H2 ι2 (Ext.refl _ _) hR2)
    | true =>
      refine iteT ⟨fun σ' H' => ∃ env' ι' st', R G σ' H' env' ι' st' ∧ postS G W K H' ι' (whileGo mc mb C n env' st'), fun σ' H' q => ⟨n, Nat.lt_succ_self n, q⟩, env1, ι2, st2, hR2, ?_⟩
      simp only [if_true] at hp2
      generalize mb C env1 st2 = r at hp2
      cases r with
      | nx env' st' => exact fun σ' H' ι' e r' => ⟨env', ι', st', r', hp2.ext e⟩
      | cnt env' st' => exact fun σ' H' ι' e r' => ⟨env', ι', st', r', hp2.ext e⟩
      | brk env' st' => exact hp2
      | ret d st' => exact hp2
      | exc c x env' st' => exact hp2
      | stuck => exact hp2

/-! ### targets -/
def tGt (G : Gx) (g : SG) (vs : List Nat) : TG := fun v σ H Q => ∃ d env ι st env', Rep G H ι d v ∧ R G σ H env ι st ∧ g d env = some env' ∧ ∀ σ', R G σ' H env' ι st → (∀ i, i ∉ vs → σ'[i]? = σ[i]?) → σ'.length = σ.length → Q σ' H
def DG (G : Gx) (X : Cx) (tg : Expr) (g : SG) (vs : List Nat) : Prop := PG X tg (tGt G g vs)
theorem pg_imp {e : Expr} {t t' : TG} (h : PG X e t) (k : ∀ v σ H Q, t' v σ H Q → t v σ H Q) : PG X e t' := ⟨fun pins s σ H v u Q I r q => h.run pins s σ H v u Q I r (k v σ H Q q)⟩
theorem dg_name {i : Nat} {e : Expr} (h : PG X e (gName i)) : DG G X e (gN i) [i] := pg_imp h fun v σ H Q ⟨d, env, ι, st, env', r, hR, e, k⟩ => by
  cases e
  refine k _ (hR.set r i) (fun j hj => ?_) (by simp)
  rw [List.getElem?_set_ne]
  intro z; subst z; simp at hj
def tGs (G : Gx) (gs : List SG) (vs : List Nat) : TGs := fun v σ H Q => ∃ d env ι st env', RepL G H ι d v ∧ R G σ H env ι st ∧ gT gs d env = some env' ∧ ∀ σ', R G σ' H env' ι st → (∀ i, i ∉ vs → σ'[i]? = σ[i]?) → σ'.length = σ.length → Q σ' H
def DGs (G : Gx) (X : Cx) (tg : List Expr) (gs : List SG) (vs : List Nat) : Prop := PGs X tg (tGs G gs vs)
theorem pgs_imp {e : List Expr} {t t' : TGs} (h : PGs X e t) (k : ∀ v σ H Q, t' v σ H Q → t v σ H Q) : PGs X e t' := ⟨fun pins s σ H v u Q I r q => h.run pins s σ H v u Q I r (k v σ H Q q)⟩
theorem dgs_nil : DGs G X [] [] [] := pgs_imp pgs_nil fun v σ H Q ⟨d, env, ι, st, env', r, hR, e, k⟩ => by
  cases d with
  | nil =>
    cases r
    cases e
    exact ⟨rfl, k σ hR (fun _ _ => rfl) rfl⟩
  | cons d ds => cases e
theorem dgs_cons {e : Expr} {es : List Expr} {g : SG} {gs : List SG} {vs us : List Nat} (h1 : DG G X e g vs) (h2 : DGs G X es gs us) (hs : (assignEach (e :: es) X.env).map (·.2) = assign e X.env :: (assignEach es X.env).map (·.2) := by rfl) : DGs G X (e :: es) (g :: gs) (vs ++ us) :=
  pgs_imp (pgs_cons h1 h2 hs) fun v σ H Q ⟨d, env, ι, st, env', r, hR, e, k⟩ => by
    cases d with
    | nil => cases e
    | cons d ds =>
      obtain ⟨v1, vr, ev, r1, r2⟩ := r
      subst ev
      simp only [gT] at e
      obtain ⟨env1, e1, e2⟩ := Option.bind_eq_some_iff.mp e
      refine ⟨v1, vr, rfl, d, env, ι, st, env1, r1, hR, e1, fun σ1 hR1 ag1 l1 => ⟨ds, env1, ι, st, env', r2, hR1, e2, fun σ2 hR2 ag2 l2 => k σ2 hR2 (fun i hi => ?_) (l2.trans l1)⟩⟩
      simp at hi
      rw [ag2 i hi.2, ag1 i hi.1]
theorem dg_tup {es : List Expr} {gs : List SG} {vs : List Nat} {k n : Nat} {pos : Pos} (hK : X.K = G.K) (hc : X.calm = true) (h : DGs G X es gs vs) (hl : gs.length = n := by rfl)
    (hn : (assignEach es X.env).length = n := by rfl) (hst : (assignEach es X.env).findIdx? (·.1) = none := by rfl) : DG G X (.Tuple es k pos) (gTup gs) vs :=
  pg_imp (pg_tup hc h hn hst) fun v σ H Q ⟨d, env, ι, st, env', r, hR, e, k⟩ => by
    cases d with
    | tup ds =>
      obtain ⟨a, xs, ev, r1, r2⟩ := r
      refine ⟨a, xs, ev, by rw [hK]; exact r1, ?_, ds, env, ι, st, env', r2, hR, e, k⟩
      rw [r2.length, ← hl]
      have : ∀ (gs : List SG) (ds : List D) (env : Env) (env' : Env), gT gs ds env = some env' → ds.length = gs.length := by
        intro gs
        induction gs with
        | nil => intro ds env env' e; cases ds <;> simp [gT] at e; rfl
        | cons g gs ih =>
          intro ds env env' e
          cases ds with
          | nil => simp [gT] at e
          | cons d ds =>
            simp only [gT] at e
            obtain ⟨env1, e1, e2⟩ := Option.bind_eq_some_iff.mp e
            simp [ih _ _ _ e2]
      exact this _ _ _ _ e
    | _ => cases e
theorem ds_asg {s : Stmt} {g : SG} {vs : List Nat} {m : SE} (h : PS X s (tAsg (tE G W C m) (tGt G g vs))) : DS G X W C s (sAsg g m) := ps_imp h fun K σ H ⟨env, ι, st, hR, hp⟩ => ssE hR hp fun d st1 v H1 ι1 e1 hR1 r1 hp1 => by
  cases e : g d env with
  | none => rw [e] at hp1; exact hp1.elim
  | some env' =>
    rw [e] at hp1
    exact ⟨d, env, ι1, st1, env', r1, hR1, e, fun σ' hR2 _ _ => hp1 σ' H1 ι1 (Ext.refl _ _) hR2⟩
def BrSet (G : Gx) (t : TSet) (f : Sto → D → D → D → Option Sto) : Prop := ∀ (H : Hp) (ι : List Addr) (st st' : Sto) (o i v : D) (ov iv vv : V) (Q : Hp → Prop), StoRep G H ι st → Rep G H ι o ov → Rep G H ι i iv → Rep G H ι v vv → f st o i v = some st' →
  (∀ H' ι', Ext H ι H' ι' → StoRep G H' ι' st' → Q H') → t ov iv vv H Q
theorem ds_put {s : Stmt} {t : TSet} {f : Sto → D → D → D → Option Sto} {mo mi me : SE} (h : PS X s (tAsg (tE G W C me) (gSub (tE G W C mo) (tE G W C mi) t))) (br : BrSet G t f) : DS G X W C s (sPut f mo mi me) :=
  ps_imp h fun K σ H ⟨env, ι, st, hR, hp⟩ => ssE hR hp fun v st1 vv H1 ι1 e1 hR1 r1 hp1 => ssE hR1 hp1 fun o st2 ov H2 ι2 e2 hR2 r2 hp2 => ssE hR2 hp2 fun i st3 iv H3 ι3 e3 hR3 r3 hp3 => by
    cases e : f st3 o i v with
    | none => rw [e] at hp3; exact hp3.elim
    | some st4 =>
      rw [e] at hp3
      exact br H3 ι3 st3 st4 o i v ov iv vv _ hR3.sto (r2.ext e3 hR2.sto.mut) r3 ((r1.ext e2 hR1.sto.mut).ext e3 hR2.sto.mut) e fun H' ι' e' s' => hp3 σ H' ι' e' (hR3.ext e' s')
theorem ds_aug {s : Stmt} {i : Nat} {ti : TIp} {f : Sto → D → D → Res D} {m : SE} (h : PS X s (tAug i (tE G W C m) ti)) (br : Br2 G ti f) : DS G X W C s (sAug i f m) :=
  ps_imp h fun K σ H ⟨env, ι, st, hR, hp⟩ => by
    unfold sAug eV at hp
    cases hd : env[i]? with
    | none => simp only [hd] at hp; exact hp.elim
    | some od =>
      cases od with
      | none => simp only [hd] at hp; exact hp.elim
      | some d =>
        simp only [hd] at hp
        obtain ⟨v, hv, rv⟩ := hR.var i d hd
        refine ⟨v, hv, ssE hR hp fun y st1 u H1 ι1 e1 hR1 r1 hp1 => ?_⟩
        have hp1 : postS G W K H1 ι1 ((f st1 d y).thenS env fun z st => .nx (env.set i (some z)) st) := hp1
        refine br (fun cls ad H' => W cls ad σ H') H1 ι1 st1 d y v u _ hR1.sto (rv.ext e1 hR.sto.mut) r1 ?_
        generalize f st1 d y = r at hp1
        cases r with
        | ok z st2 => exact fun w H2 ι2 e2 s2 r2 => hp1 _ H2 ι2 e2 ((hR1.ext e2 s2).set r2 i)
        | exc c x st2 => exact fun cls ad H2 ι2 e2 s2 r2 => hp1 cls ad σ H2 ι2 e2 (hR1.ext e2 s2) r2
        | stuck => exact hp1
end
end OH

set_option Elab.async false
set_option linter.all false
set_option maxRecDepth 100000
set_option maxHeartbeats 1000000
/-! OHLoop: for, comprehensions, calls, defs. -/
namespace OH
open PySem PySem.Spec PyProof.Rows L2

/-- an iterator gives the items, one after another, while its lists stay -/
def repW (G : Gx) : Hp → Hp → List Addr → Wlk → L2.It → Prop := fun _ H ι w J => ∀ H2 ι2 st2, Ext H ι H2 ι2 → StoRep G H2 ι2 st2 → good w.src st2 = true →
  (∀ (i : Nat) (d : D), w.ds[i]? = some d → J.go i H2 ∧ ∀ x H3, J.yld i H2 x H3 → Ext H2 ι2 H3 ι2 ∧ StoRep G H3 ι2 st2 ∧ Rep G H3 ι2 d x) ∧ ∀ i, w.ds.length ≤ i → J.stop i H2
abbrev tI (G : Gx) (W : WX) (C : Call) (m : SI) : TI := rG G W C (repW G) m
def DI (G : Gx) (X : Cx) (W : WX) (C : Call) (tg e : Expr) (m : SI) : Prop := PI X tg e (tI G W C m)

section
variable {G : Gx} {X : Cx} {W : WX} {C : Call}
theorem ds_for {tg it : Expr} {body : List Stmt} {si : SI} {g : SG} {vs : List Nat} {mb : SS} {pos : Pos} (hpo : PassesOwn (model X.prog X.w) X.A X.env X.xe) (hc : X.calm = true) (hi : DI G X W C tg it si) (hg : DG G X tg g vs) (hb : DSs G X W C body mb)
    (hs : ∀ x, foldedSetIterable it X.env x = pure x := by intro _; rfl) : DS G X W C (.For tg it body [] pos) (sFor si g mb) := ps_imp (ps_for hpo hc hi hg hb hs) fun K σ H ⟨env, ι, st, hR, hp⟩ => by
  refine ssG hR hp fun w st1 J H1 ι1 e1 hR1 rJ hp1 => ?_
  refine ⟨fun i m σ' H' => ∃ env' ι' st', Ext H1 ι1 H' ι' ∧ R G σ' H' env' ι' st' ∧ m = w.ds.length - i ∧ postS G W K H' ι' (forGo w.src g mb C (w.ds.drop i) env' st'), ⟨_, env, ι1, st1, Ext.refl _ _, hR1, rfl, hp1⟩, fun i m σ2 H2 ⟨env2, ι2, st2, e2, hR2, em, hp2⟩ => ?_⟩
  by_cases hi : i < w.ds.length
  · have ed : w.ds.drop i = w.ds[i] :: w.ds.drop (i + 1) := List.drop_eq_getElem_cons hi
    rw [ed] at hp2
    unfold forGo at hp2
    split at hp2
    · rename_i hgd
      obtain ⟨go, _⟩ := rJ H2 ι2 st2 e2 hR2.sto hgd
      obtain ⟨g1, g2⟩ := go i w.ds[i] (by simp [hi])
      refine .inr ⟨g1, fun σ' H' => ∃ env' ι' st', Ext H1 ι1 H' ι' ∧ R G σ' H' env' ι' st' ∧ postS G W K H' ι' (forGo w.src g mb C (w.ds.drop (i + 1)) env' st'), fun σ' H' ⟨env', ι', st', q1, q2, q3⟩ => ⟨w.ds.length - (i + 1), by omega, env', ι', st', q1, q2, rfl, q3⟩, fun x H3 hy => ?_⟩
      obtain ⟨e3, s3, r3⟩ := g2 x H3 hy
      have hR3 := hR2.ext e3 s3
      cases eg : g w.ds[i] env2 with
      | none => rw [eg] at hp2; exact hp2.elim
      | some env3 =>
        rw [eg] at hp2
        dsimp only at hp2
        refine ⟨w.ds[i], env2, ι2, st2, env3, r3, hR3, eg, fun σ4 hR4 _ _ => ⟨env3, ι2, st2, hR4, ?_⟩⟩
        generalize mb C env3 st2 = r at hp2
        cases r with
        | nx env' st' => exact fun σ' H' ι' e r' => ⟨env', ι', st', (e2.trans e3).trans e, r', (hp2.ext e3).ext e⟩
        | cnt env' st' => exact fun σ' H' ι' e r' => ⟨env', ι', st', (e2.trans e3).trans e, r', (hp2.ext e3).ext e⟩
        | brk env' st' => exact hp2.ext e3
        | ret d st' => exact hp2.ext e3
        | exc c x env' st' => exact hp2.ext e3
        | stuck => exact hp2
    · exact hp2.elim
  · have ed : w.ds.drop i = [] := List.drop_of_length_le (by omega)
    rw [ed] at hp2
    unfold forGo at hp2
    split at hp2
    · rename_i hgd
      obtain ⟨_, go⟩ := rJ H2 ι2 st2 e2 hR2.sto hgd
      exact .inl ⟨go i (by omega), hp2 σ2 H2 ι2 (Ext.refl _ _) hR2⟩
    · exact hp2.elim

/-! ### comprehensions -/
def WF : WX := fun _ _ _ _ => False
def DTs (G : Gx) (X : Cx) (W : WX) (C : Call) (ifs : List Expr) (m : SB) : Prop := PTs X ifs (tB G W C m)
theorem pts_imp {e : List Expr} {t t' : TT} (h : PTs X e t) (k : ∀ σ H Q, t' σ H Q → t σ H Q) : PTs X e t' := ⟨fun pins s σ H Q I q => h.run pins s σ H Q I (k σ H Q q)⟩
theorem dts_nil : DTs G X W C [] bTrue := pts_imp pts_nil fun σ H Q ⟨env, ι, st, hR, hp⟩ => hp.here hR.sto rfl
theorem dts_one {c : Expr} {m : SB} (h : DB G X W C c m) : DTs G X W C [c] m := pts_one h
/-- a meaning that must not raise -/
theorem rG.nox {α υ : Type} {rep : Hp → Hp → List Addr → α → υ → Prop} {σ : L2.St} {H : Hp} {ι : List Addr} {env : Env} {st : Sto} {Q : υ → Hp → Prop} {β υ' : Type} {rep' : Hp → List Addr → β → υ' → Prop} {Q' : υ' → Hp → Prop} {W' : Value → Option Addr → Hp → Prop} {m : Call → Env → Sto → Res α} {f : α → Sto → Res β} {Hb : Hp} {ιb : List Addr}
    (hR : R G σ H env ι st) (h : post G rep' W' Hb ιb Q' ((m C env st).noX.bind f)) (k : ∀ a st1 v H1 ι1, Ext H ι H1 ι1 → R G σ H1 env ι1 st1 → rep H H1 ι1 a v → post G rep' W' Hb ιb Q' (f a st1) → Q v H1) : rG G WF C rep m σ H Q := by
  refine ⟨env, ι, st, hR, ?_⟩
  generalize m C env st = r at h
  cases r with
  | ok a st1 => exact fun v H1 ι1 e s r1 => k a st1 v H1 ι1 e (hR.ext e s) r1 h
  | exc c x st1 => exact h.elim
  | stuck => exact h
theorem wipe_get {σ : L2.St} {i : Nat} : ∀ {vs : List Nat}, (wipe σ vs)[i]? = if i ∈ vs ∧ i < σ.length then some none else σ[i]?
  | [] => by simp [wipe]
  | v :: vs => by
    unfold wipe
    by_cases e : v = i
    · subst e
      by_cases hl : v < σ.length
      · rw [List.getElem?_set_self (by rw [wipe_length]; exact hl)]
        simp [hl]
      · rw [List.getElem?_eq_none (by rw [List.length_set, wipe_length]; omega)]
        simp [hl]
    · rw [List.getElem?_set_ne e, wipe_get]
      have : i ≠ v := fun z => e z.symm
      simp [this]
theorem wipe_eq {σ σ' : L2.St} {vs : List Nat} (h : ∀ i, i ∉ vs → σ'[i]? = σ[i]?) (hl : σ'.length = σ.length) : wipe σ' vs = wipe σ vs := by
  refine List.ext_getElem? fun i => ?_
  rw [wipe_get, wipe_get, hl]
  by_cases hi : i ∈ vs
  · by_cases h2 : i < σ.length
    · simp [hi, h2]
    · rw [if_neg (by omega), if_neg (by omega), List.getElem?_eq_none (by omega), List.getElem?_eq_none (by omega)]
  · simp [hi, h i hi]
theorem wipe_wipe {σ : L2.St} {vs : List Nat} : wipe (wipe σ vs) vs = wipe σ vs := by
  refine List.ext_getElem? fun i => ?_
  rw [wipe_get, wipe_get, wipe_length]
  split <;> simp
/-- a list that is not of the store is written -/
theorem ext_own {H H' : Hp} {ι ι' : List Addr} {p : Addr} {o : HO} (e : Ext H ι H' ι') (hp : H p = none) : Ext H ι (upd H' p o) ι' := by
  refine ⟨fun a u h n => ?_, e.more, e.new, fun a h => by
    rw [upd_ne fun z => h.some (by rw [z]; exact hp)]
    exact e.lkd a h⟩
  rw [upd_ne (ne_of_none h hp)]
  exact e.keep a u h n
theorem sqT_own {K : PySem.W.Frag} {H : Hp} {p a : Addr} {o : HO} {xs ys : List V} (hp : H p = some (.lst xs)) (h : SqT K H a ys) : SqT K (upd H p o) a ys := by
  rcases h with (h | ⟨b, h⟩) | h
  · refine .inl (.inl ?_)
    rw [upd_ne]; exact h
    rintro rfl; rw [h] at hp; cases hp
  · refine .inl (.inr ⟨b, ?_⟩)
    rw [upd_ne]; exact h
    rintro rfl; rw [h] at hp; cases hp
  · exact .inr h
theorem sqF_own {K : PySem.W.Frag} {H : Hp} {p a : Addr} {o : HO} {xs ys : List V} (hp : H p = some (.lst xs)) (h : SqF K H a ys) : SqF K (upd H p o) a ys := by
  rcases h with ⟨b, h⟩ | h
  · refine .inl ⟨b, ?_⟩
    rw [upd_ne]; exact h
    rintro rfl; rw [h] at hp; cases hp
  · exact .inr h
theorem repL_own {G : Gx} {H : Hp} {ι : List Addr} {p : Addr} {o : HO} {xs : List V} {ds : List D} {vs : List V} (h : RepL G H ι ds vs) (hp : H p = some (.lst xs)) : RepL G (upd H p o) ι ds vs := h.mono (fun _ _ => sqT_own hp) (fun _ _ => sqF_own hp) fun _ _ z => z
theorem sto_own {G : Gx} {H : Hp} {ι : List Addr} {st : Sto} {p : Addr} {o : HO} {xs : List V} (s : StoRep G H ι st) (np : p ∉ ι) (hp : H p = some (.lst xs)) : StoRep G (upd H p o) ι st := by
  refine ⟨s.len, s.nd, fun i c a h1 h2 => ?_⟩
  have ne : a ≠ p := fun e => np (e ▸ List.mem_of_getElem? h2)
  have q := s.cell i c a h1 h2
  cases c with
  | lst ds =>
    obtain ⟨xs, h1, h2⟩ := q
    exact ⟨xs, by rw [upd_ne ne]; exact h1, repL_own h2 hp⟩
  | dct kvs =>
    obtain ⟨ks, vs, h1, h2, h3, h4⟩ := q
    exact ⟨ks, vs, by rw [upd_ne ne]; exact h1, h2, h3, repL_own h4 hp⟩
  | dcn kvs =>
    obtain ⟨xs, h1, h2, h3, h4⟩ := q
    exact ⟨xs, by rw [upd_ne ne]; exact h1, h2, repL_own h3 hp, repL_own h4 hp⟩
  | lck kvs =>
    obtain ⟨od, xs, h1, h2, h3, h4⟩ := q
    exact ⟨od, xs, by rw [upd_ne ne]; exact h1, h2, repL_own h3 hp, repL_own h4 hp⟩
/-- the reading of a comprehension from its meaning -/
theorem lc_read {si : SI} {g : SG} {vs us : List Nat} {mc : SB} {me : SE} {σ : L2.St} {H : Hp} {Q : V → Hp → Prop} (hus : ∀ i ∈ us, i ∈ vs) (h : tT G W C (lLc si g vs mc me) σ H Q) :
    tLc (tI G W C si) (tGt G g us) (tB G WF C mc) (tE G WF C me) vs σ H Q := by
  obtain ⟨env, ι, st, hR, hp⟩ := h
  -- keep the post at its base
  refine ⟨env, ι, st, hR, ?_⟩
  unfold lLc at hp
  generalize si C env st = rs at hp
  cases rs with
  | exc c x st1 => exact hp
  | stuck => exact hp
  | ok w st1 =>
    intro J H1 ι1 e1 s1 rJ Dl hDl
    dsimp only [Res.bind] at hp
    by_cases hz : w.ds.length ≤ sizeLine
    case neg => rw [if_neg hz] at hp; exact hp.elim
    rw [if_pos hz] at hp
    have hR1 := (hR.ext e1 s1)
    have hHD : H Dl = none := by
      cases q : H Dl with
      | none => rfl
      | some o =>
        by_cases hm : Dl ∈ ι
        · exact absurd hDl (fun z => s1.ne (by obtain ⟨r, rfl⟩ := e1.more; exact List.mem_append_left _ hm) z rfl)
        · rw [e1.keep Dl o q hm] at hDl; cases hDl
    -- the walk
    refine ⟨fun i m H' => ∃ acc xs ι' st', Ext H ι H' ι' ∧ Ext H1 ι1 H' ι' ∧ StoRep G H' ι' st' ∧ Dl ∉ ι' ∧ H' Dl = some (.lst xs) ∧ RepL G H' ι' acc xs ∧ xs.length ≤ i ∧ m = w.ds.length - i ∧
      post G (repT G H) (fun cls ad H' => W cls ad σ H') H ι Q (lcGo w.src g mc me C (wipeE env vs) (w.ds.drop i) acc st'),
      ⟨w.ds.length, [], [], ι1, st1, e1.trans (ext_new hDl), ext_new hDl, s1.fresh hDl, s1.notin hDl, upd_same, rfl, Nat.le_refl _, rfl, hp⟩, fun i m H2 ⟨acc, xs, ι2, st2, e2, e12, s2, nD, hD, rA, hl, em, hp2⟩ => ?_⟩
    have hR2 : R G σ H2 env ι2 st2 := hR1.ext e12 s2
    by_cases hi : i < w.ds.length
    · have ed : w.ds.drop i = w.ds[i] :: w.ds.drop (i + 1) := List.drop_eq_getElem_cons hi
      rw [ed] at hp2
      unfold lcGo at hp2
      by_cases hgd : good w.src st2 = true
      case neg => rw [if_neg hgd] at hp2; exact hp2.elim
      rw [if_pos hgd] at hp2
      obtain ⟨go, _⟩ := rJ H2 ι2 st2 e12 s2 hgd
      obtain ⟨g1, g2⟩ := go i w.ds[i] (by simp [hi])
      refine .inr ⟨g1, fun H' => ∃ acc xs ι' st', Ext H ι H' ι' ∧ Ext H1 ι1 H' ι' ∧ StoRep G H' ι' st' ∧ Dl ∉ ι' ∧ H' Dl = some (.lst xs) ∧ RepL G H' ι' acc xs ∧ xs.length ≤ i + 1 ∧
        post G (repT G H) (fun cls ad H' => W cls ad σ H') H ι Q (lcGo w.src g mc me C (wipeE env vs) (w.ds.drop (i + 1)) acc st'),
        fun H' ⟨acc', xs', ι', st', q1, q2, q3, q4, q5, q6, q7, q8⟩ => ⟨w.ds.length - (i + 1), by omega, acc', xs', ι', st', q1, q2, q3, q4, q5, q6, q7, rfl, q8⟩, fun x H3 hy => ?_⟩
      obtain ⟨e3, s3, r3⟩ := g2 x H3 hy
      have hR3 := (hR2.ext e3 s3).wipe vs
      have hD3 := e3.keep Dl _ hD nD
      have rA3 := rA.ext e3 s2.mut
      cases eg : g w.ds[i] (wipeE env vs) with
      | none => rw [eg] at hp2; exact hp2.elim
      | some env3 =>
        rw [eg] at hp2
        dsimp only at hp2
        refine ⟨w.ds[i], wipeE env vs, ι2, st2, env3, r3, hR3, eg, fun σ4 hR4 ag hl4 => ⟨(wipe_eq (fun i hi => ag i fun z => hi (hus i z)) hl4).trans wipe_wipe, ?_⟩⟩
        refine rG.nox hR4 hp2 fun t st5 t' H5 ι5 e5 hR5 rt hp5 => ?_
        cases rt
        have nD5 : Dl ∉ ι5 := fun hm => by
          by_cases hm3 : Dl ∈ ι2
          · exact nD hm3
          · rw [e5.new Dl hm hm3] at hD3; cases hD3
        have hD5 := e5.keep Dl _ hD3 nD
        cases t with
        | false => exact iteF ⟨acc, xs, ι5, st5, (e2.trans e3).trans e5, (e12.trans e3).trans e5, hR5.sto, nD5, hD5, rA3.ext e5 s3.mut, Nat.le_succ_of_le hl, hp5⟩
        | true =>
          refine iteT (rG.nox hR5 hp5 fun y st6 v H6 ι6 e6 hR6 ry hp6 => ?_)
          have nD6 : Dl ∉ ι6 := fun hm => by
            by_cases hm3 : Dl ∈ ι5
            · exact nD5 hm3
            · rw [e6.new Dl hm hm3] at hD5; cases hD5
          have hD6 := e6.keep Dl _ hD5 nD5
          have rA6 := (rA3.ext e5 s3.mut).ext e6 hR5.sto.mut
          have eW : Ext H6 ι6 (upd H6 Dl (.lst (xs ++ [v]))) ι6 → True := fun _ => trivial
          -- the new list is written: it is none of the store's
          have k1 : ∀ (H0 : Hp) (ι0 : List Addr), H0 Dl = none ∨ Dl ∉ ι0 → True := fun _ _ _ => trivial
          refine ⟨xs, hD6, by omega, acc ++ [y], xs ++ [v], ι6, st6, ?_, ?_, ?_, nD6, upd_same, ?_, by simp; omega, hp6⟩
          · exact ext_own ((e2.trans e3).trans (e5.trans e6)) hHD
          · exact ext_own ((e12.trans e3).trans (e5.trans e6)) hDl
          · exact sto_own hR6.sto nD6 hD6
          · exact repL_own (RepL.app rA6 (RepL.one ry)) hD6
    · have ed : w.ds.drop i = [] := List.drop_of_length_le (by omega)
      rw [ed] at hp2
      unfold lcGo at hp2
      split at hp2
      · rename_i hgd
        obtain ⟨_, go⟩ := rJ H2 ι2 st2 e12 s2 hgd
        refine .inl ⟨go i (by omega), hp2 (.ref Dl) H2 ι2 e2 s2 ⟨Dl, xs, rfl, hD, nD, hHD, rA⟩⟩
      · exact hp2.elim
end
end OH

set_option Elab.async false
set_option linter.all false
set_option maxRecDepth 100000
set_option maxHeartbeats 1000000
/-! OHFn: comprehensions as rules, calls, what a def leaves of the store (gc), defs. -/
namespace OH
open PySem PySem.Spec PyProof.Rows L2

section
variable {G : Gx} {X : Cx} {W : WX} {C : Call}
theorem dt_lc {elt tg iter : Expr} {ifs : List Expr} {scope : Scope} {own : List (Str × Nat)} {pos : Pos} {si : SI} {g : SG} {us : List Nat} {mc : SB} {me : SE} (hc : X.calm = true) (hN : X.N.Nodup) (hi : DI G X W C tg iter si) (ok : BlkOk X.N X.env.scope scope own)
    (hus : ∀ i ∈ us, i ∈ own.map (·.2))
    (hg : ∀ (s : Shared) (H : Hp) (B : Addr) (cl : List (Str × Addr)) (fp : List Addr), DG G (X.blk s H scope (compEnvC scope cl B X.env) fp) tg g us)
    (ht : ∀ (s : Shared) (H : Hp) (B : Addr) (cl : List (Str × Addr)) (fp : List Addr), DTs G (X.blk s H scope (compEnvC scope cl B X.env) fp) WF C ifs mc)
    (he : ∀ (s : Shared) (H : Hp) (B : Addr) (cl : List (Str × Addr)) (fp : List Addr), DE G (X.blk s H scope (compEnvC scope cl B X.env) fp) WF C elt me) (hs : ∀ x, foldedSetIterable iter X.env x = pure x := by intro _; rfl) :
    DT G X W C (.ListComp elt [⟨tg, iter, ifs, 0⟩] scope pos) (lLc si g (own.map (·.2)) mc me) :=
  pe_imp (pe_lc hc hN hi ok hg ht he hs) fun σ H Q h => lc_read hus h
theorem ds_setLc {i : Nat} {y : Str} {py : Pos} {elt tg iter : Expr} {ifs : List Expr} {scope : Scope} {own : List (Str × Nat)} {pos spos : Pos} {si : SI} {g : SG} {us : List Nat} {mc : SB} {me : SE} (hc : X.calm = true) (hN : X.N.Nodup) (hy : X.N[i]? = some y) (hyl : X.env.scope.names.lookup y = some .local)
    (hsw : swapsWith (.ListComp elt [⟨tg, iter, ifs, 0⟩] scope pos) (some (.Name y py)) spos.line X.env = pure true) (hi : DI G X W C tg iter si) (ok : BlkOk X.N X.env.scope scope own)
    (hus : ∀ i ∈ us, i ∈ own.map (·.2))
    (hg : ∀ (s : Shared) (H : Hp) (B : Addr) (cl : List (Str × Addr)) (fp : List Addr), DG G (X.blk s H scope (compEnvC scope cl B X.env) fp) tg g us)
    (ht : ∀ (s : Shared) (H : Hp) (B : Addr) (cl : List (Str × Addr)) (fp : List Addr), DTs G (X.blk s H scope (compEnvC scope cl B X.env) fp) WF C ifs mc)
    (he : ∀ (s : Shared) (H : Hp) (B : Addr) (cl : List (Str × Addr)) (fp : List Addr), DE G (X.blk s H scope (compEnvC scope cl B X.env) fp) WF C elt me) (hs : ∀ x, foldedSetIterable iter X.env x = pure x := by intro _; rfl) :
    DS G X W C (.Assign [.Name y py] (.ListComp elt [⟨tg, iter, ifs, 0⟩] scope pos) spos) (sSet i (eNew (lLc si g (own.map (·.2)) mc me))) := by
  refine ps_imp (ps_setLc hc hN hy hyl hsw hi ok hg ht he hs) fun K σ H ⟨env, ι, st, hR, hp⟩ => ?_
  refine lc_read (Q := fun x H1 => gName i x σ H1 K.nx) hus ?_
  refine ⟨env, ι, st, hR, ?_⟩
  unfold sSet eNew at hp
  generalize lLc si g (own.map (·.2)) mc me C env st = r at hp
  cases r with
  | ok ds st1 =>
    intro v H1 ι1 e s ⟨a, xs, ev, h1, h2, h3, h4⟩
    subst ev
    have hR1 := hR.ext (e.take h3) (s.push (c := .lst ds) h2 ⟨xs, h1, h4.grow _⟩)
    exact hp _ H1 (ι1 ++ [a]) (e.take h3) (hR1.set (d := .ref st1.length) (v := .ref a) ⟨a, by rw [← s.len]; simp, rfl⟩ i)
  | exc c x st1 => exact fun cls ad H1 ι1 e s r1 => hp cls ad σ H1 ι1 e (hR.ext e s) r1
  | stuck => exact hp
end

/-! ### what a def leaves of the store -/
mutual
def D.lo (n : Nat) : D → Bool
  | .ref i => decide (i < n)
  | .tup ds => D.loL n ds
  | .scr ds => D.loL n ds
  | _ => true
def D.loL (n : Nat) : List D → Bool
  | [] => true
  | d :: ds => D.lo n d && D.loL n ds
end
def Cell.lo (n : Nat) : Cell → Bool
  | .lst ds => D.loL n ds
  | .dct kvs => D.loL n (kvs.map (·.2)) && D.loL n (kvs.map (·.1))
  | .dcn kvs => D.loL n (kvs.map (·.2)) && D.loL n (kvs.map (·.1))
  | .lck kvs => D.loL n (kvs.map (·.2)) && D.loL n (kvs.map (·.1))
mutual
theorem Rep.below {G : Gx} {H : Hp} {ι : List Addr} : ∀ {d : D} {v : V}, Rep G H ι d v → D.lo ι.length d = true
  | .non, _, _ => rfl
  | .bl _, _, _ => rfl
  | .int _, _, _ => rfl
  | .str _, _, _ => rfl
  | .fn _, _, _ => rfl
  | .ref i, _, ⟨a, h, _⟩ => by simp only [D.lo, decide_eq_true_eq]; exact (List.getElem?_eq_some_iff.mp h).1
  | .tup ds, _, ⟨_, _, _, _, h⟩ => by simp only [D.lo]; exact RepL.below h
  | .scr ds, _, ⟨_, _, _, _, h⟩ => by simp only [D.lo]; exact RepL.below h
theorem RepL.below {G : Gx} {H : Hp} {ι : List Addr} : ∀ {ds : List D} {vs : List V}, RepL G H ι ds vs → D.loL ι.length ds = true
  | [], _, _ => rfl
  | d :: ds, _, ⟨v, r, _, h1, h2⟩ => by simp [D.loL, Rep.below h1, RepL.below h2]
end
mutual
theorem Rep.cut {G : Gx} {H : Hp} {ι r : List Addr} : ∀ {d : D} {v : V}, D.lo ι.length d = true → Rep G H (ι ++ r) d v → Rep G H ι d v
  | .non, _, _, h => h
  | .bl _, _, _, h => h
  | .int _, _, _, h => h
  | .str _, _, _, h => h
  | .fn _, _, _, h => h
  | .ref i, _, b, ⟨a, h, e⟩ => by
    simp only [D.lo, decide_eq_true_eq] at b
    rw [List.getElem?_append_left b] at h
    exact ⟨a, h, e⟩
  | .tup ds, _, b, ⟨a, xs, e, q, h⟩ => ⟨a, xs, e, q, RepL.cut (by simpa only [D.lo] using b) h⟩
  | .scr ds, _, b, ⟨a, xs, e, q, h⟩ => ⟨a, xs, e, q, RepL.cut (by simpa only [D.lo] using b) h⟩
theorem RepL.cut {G : Gx} {H : Hp} {ι r : List Addr} : ∀ {ds : List D} {vs : List V}, D.loL ι.length ds = true → RepL G H (ι ++ r) ds vs → RepL G H ι ds vs
  | [], _, _, h => h
  | d :: ds, _, b, ⟨v, x, e, h1, h2⟩ => by
    simp only [D.loL, Bool.and_eq_true] at b
    exact ⟨v, x, e, Rep.cut b.1 h1, RepL.cut b.2 h2⟩
end
theorem keysK_below (n : Nat) : ∀ ks : List Key, D.loL n (ks.map keyD) = true
  | [] => rfl
  | .inl _ :: ks => by simp [D.loL, keyD, D.lo, keysK_below n ks]
  | .inr _ :: ks => by simp [D.loL, keyD, D.lo, keysK_below n ks]
theorem keysT_below (n : Nat) : ∀ ks : List (List Key), D.loL n (ks.map fun k => D.tup (k.map keyD)) = true
  | [] => rfl
  | k :: ks => by
    simp only [List.map_cons, D.loL, D.lo, keysK_below, Bool.true_and]
    exact keysT_below n ks
theorem CellRep.below {G : Gx} {H : Hp} {ι : List Addr} {c : Cell} {a : Addr} (h : CellRep G H ι c a) : c.lo ι.length = true := by
  cases c with
  | lst ds => obtain ⟨xs, _, h⟩ := h; exact h.below
  | dct kvs =>
    obtain ⟨ks, vs, h1, h2, h3, h4⟩ := h
    simp only [Cell.lo, h3, keysK_below, h4.below]; rfl
  | dcn kvs =>
    obtain ⟨xs, h1, h2, h3, h4⟩ := h
    simp only [Cell.lo, h3.below, h4.below]; rfl
  | lck kvs =>
    obtain ⟨od, xs, h1, h2, h3, h4⟩ := h
    simp only [Cell.lo, h3.below, h4.below]; rfl
theorem CellRep.cut {G : Gx} {H : Hp} {ι r : List Addr} {c : Cell} {a : Addr} (b : c.lo ι.length = true) (h : CellRep G H (ι ++ r) c a) : CellRep G H ι c a := by
  cases c with
  | lst ds => obtain ⟨xs, h1, h⟩ := h; exact ⟨xs, h1, h.cut b⟩
  | dct kvs =>
    simp only [Cell.lo, Bool.and_eq_true] at b
    obtain ⟨ks, vs, h1, h2, h3, h4⟩ := h
    exact ⟨ks, vs, h1, h2, h3, h4.cut b.1⟩
  | dcn kvs =>
    simp only [Cell.lo, Bool.and_eq_true] at b
    obtain ⟨xs, h1, h2, h3, h4⟩ := h
    exact ⟨xs, h1, h2, h3.cut b.2, h4.cut b.1⟩
  | lck kvs =>
    simp only [Cell.lo, Bool.and_eq_true] at b
    obtain ⟨od, xs, h1, h2, h3, h4⟩ := h
    exact ⟨od, xs, h1, h2, h3.cut b.2, h4.cut b.1⟩
def OldOk (st st' : Sto) : Prop := ∀ (i : Nat) (c : Cell), i < st.length → st'[i]? = some c → st[i]? = some c ∨ c.lo st.length = true
open Classical in
/-- the answer of a def: what is not asked for any more goes; one new list stands next to the old ones -/
noncomputable def gc (st : Sto) (d : D) (st' : Sto) : Res D :=
  if OldOk st st' then
    if d.lo st.length then .ok d (st'.take st.length)
    else match d with
      | .ref k => match st'[k]? with
        | some c => if c.lo st.length then .ok (.ref st.length) (st'.take st.length ++ [c]) else .ok d st'
        | none => .ok d st'
      | _ => .ok d st'
  else .ok d st'
open Classical in
noncomputable def gcX (st : Sto) (c : Nat) (x : D) (st' : Sto) : Res D := if OldOk st st' ∧ x.lo st.length then .exc c x (st'.take st.length) else .exc c x st'

section
variable {G : Gx} {H H' : Hp} {ι ι' : List Addr} {st st' : Sto}
theorem Ext.take_len (e : Ext H ι H' ι') : Ext H ι H' ι := ⟨e.keep, ⟨[], by simp⟩, fun _ h n => absurd h n, e.lkd⟩
theorem sto_cut (s : StoRep G H ι st) (e : Ext H ι H' ι') (s' : StoRep G H' ι' st') (o : OldOk st st') : StoRep G H' ι (st'.take st.length) := by
  obtain ⟨r, rfl⟩ := e.more
  have hl : st.length ≤ st'.length := by
    have := s'.len
    rw [List.length_append, s.len] at this
    omega
  refine ⟨by rw [List.length_take, s.len]; omega, s.nd, fun i c a h1 h2 => ?_⟩
  have hi : i < ι.length := (List.getElem?_eq_some_iff.mp h2).1
  have hi' : i < st.length := by rw [← s.len]; exact hi
  rw [List.getElem?_take_of_lt hi'] at h1
  have q := s'.cell i c a h1 (by rw [List.getElem?_append_left hi]; exact h2)
  rcases o i c hi' h1 with z | z
  · exact q.cut (s.cell i c a z h2).below
  · exact q.cut (by rw [s.len]; exact z)
theorem gc_sound {W : Value → Option Addr → Hp → Prop} {Q : V → Hp → Prop} {d : D} (s : StoRep G H ι st) (h : post G (Rep G) W H ι Q (gc st d st')) {v : V} (e : Ext H ι H' ι') (s' : StoRep G H' ι' st') (r : Rep G H' ι' d v) : Q v H' := by
  unfold gc at h
  split at h
  · rename_i o
    split at h
    · rename_i b
      obtain ⟨r', rfl⟩ := e.more
      exact h v H' ι e.take_len (sto_cut s e s' o) (r.cut (by rw [s.len]; exact b))
    · rename_i nb
      cases d with
      | ref k =>
        cases hk : st'[k]? with
        | none => simp only [hk] at h; exact h v H' ι' e s' r
        | some c =>
          simp only [hk] at h
          split at h
          · rename_i b
            obtain ⟨a, ha, rfl⟩ := r
            obtain ⟨r', rfl⟩ := e.more
            have hk2 : ¬ k < st.length := by simpa [D.lo] using nb
            have na : a ∉ ι := fun hm => by
              obtain ⟨j, hj, ej⟩ := List.mem_iff_getElem.mp hm
              have h2 : (ι ++ r')[j]? = some a := by rw [List.getElem?_append_left hj]; simp [hj, ej]
              have := (List.getElem?_inj (List.getElem?_eq_some_iff.mp h2).1 s'.nd).mp (h2.trans ha.symm)
              rw [s.len] at hj
              omega
            have sc := sto_cut s e s' o
            have hb : CellRep G H' ι c a := (s'.cell k c a hk ha).cut (by rw [s.len]; exact b)
            refine h (.ref a) H' (ι ++ [a]) ⟨e.keep, ⟨[a], rfl⟩, fun x hx nx => ?_, e.lkd⟩ (sc.push na (hb.grow _)) ⟨a, by rw [← s.len]; simp, rfl⟩
            rcases List.mem_append.mp hx with hx | hx
            · exact absurd hx nx
            · rw [List.mem_singleton.mp hx]
              exact e.new a (List.mem_of_getElem? ha) na
          · exact h _ H' ι' e s' r
      | _ => exact h v H' ι' e s' r
  · exact h v H' ι' e s' r
theorem gcX_sound {W : Value → Option Addr → Hp → Prop} {Q : V → Hp → Prop} {c : Nat} {x : D} (s : StoRep G H ι st) (h : post G (Rep G) W H ι Q (gcX st c x st')) {cls : Value} {ad : Option Addr} (e : Ext H ι H' ι') (s' : StoRep G H' ι' st') (r : ExcRep G c x H' ι' cls ad) : W cls ad H' := by
  unfold gcX at h
  split at h
  · rename_i o
    obtain ⟨r', rfl⟩ := e.more
    refine h cls ad H' ι e.take_len (sto_cut s e s' o.1) ⟨r.1, ?_⟩
    have q := r.2
    cases x with
    | non => exact q
    | _ =>
      obtain ⟨d, v, h1, h2, h3⟩ := q
      exact ⟨d, v, h1, h2, h3.cut (by rw [s.len]; exact o.2)⟩
  · exact h cls ad H' ι' e s' r
end
/-- what is easily said of it -/
theorem oldOk_app (st g : Sto) : OldOk st (st ++ g) := fun i c hi h => .inl (by rw [List.getElem?_append_left hi] at h; exact h)
theorem oldOk_set {st g : Sto} {i : Nat} {c : Cell} (h : c.lo st.length = true) : OldOk st (st.set i c ++ g) := fun j c' hj h' => by
  rw [List.getElem?_append_left (by simpa using hj)] at h'
  by_cases e : i = j
  · subst e
    rw [List.getElem?_set_self hj] at h'
    cases h'
    exact .inr h
  · rw [List.getElem?_set_ne e] at h'
    exact .inl h'
theorem gc_app {st g : Sto} {d : D} (h : d.lo st.length = true) : gc st d (st ++ g) = .ok d st := by
  unfold gc
  rw [if_pos (oldOk_app st g), if_pos h]
  simp
theorem gc_self {st : Sto} {d : D} : gc st d st = .ok d st := by
  have o : OldOk st st := fun i c _ h => .inl h
  unfold gc
  rw [if_pos o]
  split
  · simp
  · rename_i h
    cases d with
    | ref k =>
      have : ¬ k < st.length := by simpa [D.lo] using h
      simp [List.getElem?_eq_none (show st.length ≤ k by omega)]
    | _ => rfl
theorem gc_new {st g : Sto} {k : Nat} {c : Cell} (hk : st.length ≤ k) (h : (st ++ g)[k]? = some c) (b : c.lo st.length = true) : gc st (.ref k) (st ++ g) = .ok (.ref st.length) (st ++ [c]) := by
  unfold gc
  rw [if_pos (oldOk_app st g), if_neg (by simp [D.lo]; omega)]
  simp only [h, b, if_true]
  simp
theorem gc_set {st g : Sto} {i : Nat} {c : Cell} {d : D} (hc : c.lo st.length = true) (h : d.lo st.length = true) : gc st d (st.set i c ++ g) = .ok d (st.set i c) := by
  unfold gc
  rw [if_pos (oldOk_set hc), if_pos h]
  have : st.length = (st.set i c).length := by simp
  rw [this, List.take_left]

/-! ### defs -/
structure FD where
  np : Nat
  nl : Nat
  body : SS
noncomputable def endF (st : Sto) : RS → Res D
  | .ret d st' => gc st d st'
  | .nx _ st' => gc st .non st'
  | .exc c x _ st' => gcX st c x st'
  | _ => .stuck
noncomputable def runFn (φ : FD) (C : Call) (ds : List D) (st : Sto) : Res D :=
  if ds.length = φ.np then endF st (φ.body C (ds.map some ++ List.replicate (φ.nl - φ.np) none) st) else .stuck
noncomputable def callN (Tbl : Nat → FD) : Nat → Call
  | 0 => fun _ _ _ => .stuck
  | k + 1 => fun f ds st => runFn (Tbl f) (callN Tbl k) ds st
/-- a def's promise: its meaning -/
def spC (G : Gx) (C : Call) (f : Nat) : Sp := fun vs H Q E => ∃ ds ι st, RepL G H ι ds vs ∧ StoRep G H ι st ∧ post G (Rep G) E H ι Q (C f ds st)
structure FnAt (P : Program) (w : World) (G : Gx) (mg : Str → Option Value) (base : Heap) (C : Call) (k : Nat) (f : Nat) (x : Str) : Prop where
  g : mg x = some (.ref (G.fa f))
  kp : PySem.W.keepIn G.K (.ref (G.fa f)) = true
  ok : ∃ fd ps, FnOk P w G.K mg base (L2.CX P w) k (G.fa f) fd ps (spC G C f) ∧ Binds G.K fd ps []
theorem de_call {G : Gx} {X : Cx} {W : WX} {C : Call} {k f : Nat} {x : Str} {e : Expr} {es : List Expr} {l : SL} {p pos : Pos} (hF : FnAt X.prog X.w G X.mg X.base C k f x) (hK : X.K = G.K) (hr : Room k X.A) (tk : Takes X W) (hg : Gl X x) (ha : DA G X W C (e :: es) l)
    (hdb : (x == ("__debug__" : Str)) = false := by decide) (he : starEach (e :: es) X.env = (false, eval e X.env) :: starEach es X.env := by rfl) (hpl : (backTo pos (starEach es X.env)).any (·.1) = false := by rfl) :
    DE G X W C (.Call (.Name x p) (e :: es) [] pos) (eCall f l) := by
  obtain ⟨hm, hk, fd, ps, hok, hb⟩ := hF
  rw [← hK] at hk hok hb
  exact pe_imp (pe_callS hok hr hg hm hk hb (fun σ => passAt tk σ) ha hdb he hpl) fun σ H Q ⟨env, ι, st, hR, hp⟩ => sqA hR hp fun ds st1 vs H1 ι1 e1 hR1 r1 hp1 => ⟨ds, ι1, st1, r1, hR1.sto, hp1⟩
theorem R.start {G : Gx} {H : Hp} {ι : List Addr} {st : Sto} {ds : List D} {vs : List V} {N : List Str} (r : RepL G H ι ds vs) (s : StoRep G H ι st) : R G (L2.start N vs) H (ds.map some ++ List.replicate (N.length - ds.length) none) ι st := by
  have hl := r.length
  refine ⟨?_, fun i d h => ?_, s⟩
  · unfold L2.start
    simp [hl]
  · by_cases hi : i < ds.length
    · rw [List.getElem?_append_left (by simpa using hi), List.getElem?_map] at h
      cases e : ds[i]? with
      | none => rw [e] at h; cases h
      | some d' =>
        rw [e] at h
        cases h
        obtain ⟨v, h1, h2⟩ := r.get e
        refine ⟨v, ?_, h2⟩
        unfold L2.start
        rw [List.getElem?_append_left (by simpa [hl] using hi), List.getElem?_map, h1]
        rfl
    · rw [List.getElem?_append_right (by simpa using hi), List.getElem?_replicate] at h
      split at h <;> cases h
/-- THE RULE for a def -/
theorem fn_ok {P : Program} {w : World} {G : Gx} {mg : Str → Option Value} {base : Heap} {C C' : Call} {x qual : Str} {st : Stmt} {f : Nat} {fd : FuncData} {N ps : List Str} {k : Nat} (φ : FD) (F : Fun G.K x qual st (G.fa f) fd) (S : FnScope N ps (defScope st)) (hp : ps.length = φ.np) (hl : N.length = φ.nl)
    (hC : ∀ ds st, C' f ds st = runFn φ C ds st)
    (hbody : ∀ (cdv : Value) (A : Around) (outer : List PySem.Env) (s : Shared) (H : Hp) (E : XK), Room k (A.deeper (envOfC qual (defScope st) s.heap.objs.size (G.fa f) cdv)) →
      Takes (cxOf (L2.CX P w) P w G.K mg base N qual (defScope st) (G.fa f) cdv A outer s H E) (fun cls d _ H => E cls d H) →
      PassesOwn (model P w) (A.deeper (envOfC qual (defScope st) s.heap.objs.size (G.fa f) cdv)) (cxOf (L2.CX P w) P w G.K mg base N qual (defScope st) (G.fa f) cdv A outer s H E).env (cxOf (L2.CX P w) P w G.K mg base N qual (defScope st) (G.fa f) cdv A outer s H E).xe →
      DSs G (cxOf (L2.CX P w) P w G.K mg base N qual (defScope st) (G.fa f) cdv A outer s H E) (fun cls d _ H => E cls d H) C (defBody st) φ.body) :
    FnOk P w G.K mg base (L2.CX P w) (k + 1) (G.fa f) fd ps (spC G C' f) := by
  refine F.okX S (fun vs H Q E ⟨ds, ι, sto, r, s, h⟩ => ?_) (fun cdv A outer s H vs Q E hr ⟨ds, ι, sto, r, hs, h⟩ => ?_)
  · rw [hC] at h
    unfold runFn at h
    split at h
    · rename_i e
      rw [r.length, e, hp]
    · exact h.elim
  · have tk : Takes (cxOf (L2.CX P w) P w G.K mg base N qual (defScope st) (G.fa f) cdv A outer s H E) (fun cls d _ H => E cls d H) := takes_of rfl rfl rfl rfl
    refine ⟨_, hbody cdv A outer s H E hr tk (passes_of (X := cxOf (L2.CX P w) P w G.K mg base N qual (defScope st) (G.fa f) cdv A outer s H E) rfl), ?_⟩
    rw [hC] at h
    unfold runFn at h
    by_cases hn : ds.length = φ.np
    case neg => rw [if_neg hn] at h; exact h.elim
    rw [if_pos hn] at h
    refine ⟨_, ι, sto, R.start (N := N) r hs, ?_⟩
    rw [hl, hn]
    generalize φ.body C (List.map some ds ++ List.replicate (φ.nl - φ.np) none) sto = res at h ⊢
    cases res with
    | ret d st' => exact fun v H' ι' e s' r' => gc_sound hs h e s' r'
    | nx env st' => exact fun σ' H' ι' e r' => gc_sound hs h (v := .non) e r'.sto rfl
    | exc c x env st' => exact fun cls ad σ' H' ι' e r' q => gcX_sound hs h e r'.sto q
    | brk env st' => exact h.elim
    | cnt env st' => exact h.elim
    | stuck => exact h.elim
end OH

set_option Elab.async false
set_option linter.all false
set_option maxRecDepth 100000
set_option maxHeartbeats 1000000
/-! OHOps: the operators, comparisons and built-ins, as functions of data. -/
namespace OH
open PySem PySem.Spec PyProof.Rows L2

/-! ### arithmetic -/
def newL (xs : List D) (st : Sto) : Res D := .ok (.ref st.length) (st ++ [.lst xs])
def addR : Sto → D → D → Res D := fun st x y => match x, y with
  | .int i, .int j => .ok (.int (i + j)) st
  | .str a, .str b => if a.length + b.length ≤ sizeLine then .ok (.str (a ++ b)) st else .stuck
  | .tup a, .tup b => if a.length + b.length ≤ sizeLine then .ok (.tup (a ++ b)) st else .stuck
  | .ref i, .ref j => match lstAt st i, lstAt st j with
    | some a, some b => if a.length + b.length ≤ sizeLine then newL (a ++ b) st else .stuck
    | _, _ => .stuck
  | _, _ => .stuck
def subR : Sto → D → D → Res D := fun st x y => match x, y with
  | .int i, .int j => .ok (.int (i - j)) st
  | _, _ => .stuck
noncomputable def mulOk (i j : Int) : Bool := tsd ((-(2 ^ 64) < i ∧ i < 2 ^ 64) ∨ (-(2 ^ 64) < j ∧ j < 2 ^ 64))
noncomputable def divOk (j : Int) : Bool := tsd (0 < j ∧ j.natAbs.log2 < 9000)
noncomputable def powOk (i j : Int) : Bool := tsd (0 ≤ j ∧ j ≤ 1000000 ∧ i.natAbs < 2 ^ 64)
noncomputable def repOk (k : Int) (n : Nat) : Bool := tsd (-(2 ^ 63) ≤ k ∧ k < 2 ^ 63 ∧ n * k.toNat ≤ sizeLine)
theorem repOk_iff {k : Int} {n : Nat} (h : repOk k n = true) : -(2 ^ 63) ≤ k ∧ k < 2 ^ 63 ∧ n * k.toNat ≤ sizeLine := tsd_of h
theorem mulOk_iff {i j : Int} (h : mulOk i j = true) : (-(2 ^ 64) < i ∧ i < 2 ^ 64) ∨ (-(2 ^ 64) < j ∧ j < 2 ^ 64) := tsd_of h
theorem divOk_iff {j : Int} (h : divOk j = true) : 0 < j ∧ j.natAbs.log2 < 9000 := tsd_of (p := 0 < j ∧ j.natAbs.log2 < 9000) h
theorem powOk_iff {i j : Int} (h : powOk i j = true) : 0 ≤ j ∧ j ≤ 1000000 ∧ i.natAbs < 2 ^ 64 := tsd_of h
noncomputable def mulR : Sto → D → D → Res D := fun st x y => match x, y with
  | .int i, .int j => if mulOk i j then .ok (.int (i * j)) st else .stuck
  | .ref i, .int k => match lstAt st i with
    | some xs => if repOk k xs.length then newL (List.replicate k.toNat xs).flatten st else .stuck
    | none => .stuck
  | _, _ => .stuck
noncomputable def divR : Sto → D → D → Res D := fun st x y => match x, y with
  | .int i, .int j => if divOk j then .ok (.int (i / j)) st else .stuck
  | _, _ => .stuck
def modR : Sto → D → D → Res D := fun st x y => match x, y with
  | .int i, .int j => if 0 < j then .ok (.int (i % j)) st else .stuck
  | _, _ => .stuck
noncomputable def powR : Sto → D → D → Res D := fun st x y => match x, y with
  | .int i, .int j => if powOk i j then .ok (.int (i ^ j.toNat)) st else .stuck
  | _, _ => .stuck
def xorR : Sto → D → D → Res D := fun st x y => match x, y with
  | .int i, .int j => .ok (.int (Builtin.bitXor i j)) st
  | _, _ => .stuck
def negR : Sto → D → Res D := fun st x => match x with
  | .int i => .ok (.int (-i)) st
  | _ => .stuck

section
variable {G : Gx} {X : Cx} {W : WX} {C : Call}
/-- a new tracked object that goes into the store -/
theorem new_take {H : Hp} {ι : List Addr} {st : Sto} {p : Addr} {xs : List V} {ds : List D} (s : StoRep G H ι st) (hp : H p = none) (r : RepL G H ι ds xs) :
    Ext H ι (upd H p (.lst xs)) (ι ++ [p]) ∧ StoRep G (upd H p (.lst xs)) (ι ++ [p]) (st ++ [.lst ds]) ∧ Rep G (upd H p (.lst xs)) (ι ++ [p]) (.ref st.length) (.ref p) :=
  ⟨ext_take hp, (s.fresh hp).push (s.notin hp) ⟨xs, upd_same, (r.ext (ext_new hp) s.mut).grow _⟩, p, by rw [← s.len]; simp, rfl⟩
theorem br_add (K : PySem.W.Frag) (hK : K = G.K) : Br2 G (fun x y H Q => (rI0 fun i j => .int (i + j)) x y H Q ∨ (∃ i j, x = .str i ∧ y = .str j ∧ i.length + j.length ≤ sizeLine ∧ Q (.str (i ++ j)) H) ∨ rCatA K x y H Q ∨ rCat x y H Q) addR := by
  subst hK
  intro W H ι st x y v u Q s rx ry h
  unfold addR at h
  split at h
  · cases rx; cases ry
    exact .inl ⟨_, _, rfl, rfl, h.here s (v := .int _) rfl⟩
  · cases rx; cases ry
    split at h
    · rename_i hz
      exact .inr (.inl ⟨_, _, rfl, rfl, hz, h.here s (v := .str _) rfl⟩)
    · exact h.elim
  · rename_i a b
    obtain ⟨pa, xs, rfl, qa, ra⟩ := rx
    obtain ⟨pb, ys, rfl, qb, rb⟩ := ry
    split at h
    · rename_i hz
      refine .inr (.inr (.inl ⟨pa, pb, xs, ys, rfl, rfl, qa, qb, by rw [ra.length, rb.length]; exact hz, fun e => ?_, fun _ e => ?_, fun _ _ p hp => ?_⟩))
      · subst e
        have : a = [] := by have := ra.length; simpa using this.symm
        subst this
        exact h.here s ⟨pb, ys, rfl, qb, rb⟩
      · subst e
        have : b = [] := by have := rb.length; simpa using this.symm
        subst this
        exact h.here s ⟨pa, xs, rfl, qa, by simpa using ra⟩
      · exact h _ _ ι (ext_new hp) (s.fresh hp) ⟨p, _, rfl, SqT.of upd_same, (ra.app rb).ext (ext_new hp) s.mut⟩
    · exact h.elim
  · rename_i i j
    split at h
    · rename_i a b ha hb
      obtain ⟨pa, xs, e1, q1, r1⟩ := s.lst ha
      obtain ⟨pb, ys, e2, q2, r2⟩ := s.lst hb
      obtain ⟨_, e1', rfl⟩ := rx
      obtain ⟨_, e2', rfl⟩ := ry
      rw [e1] at e1'; cases e1'
      rw [e2] at e2'; cases e2'
      split at h
      · rename_i hz
        refine .inr (.inr (.inr ⟨pa, pb, xs, ys, rfl, rfl, q1, q2, by rw [r1.length, r2.length]; exact hz, fun p hp => ?_⟩))
        obtain ⟨n1, n2, n3⟩ := new_take s hp (r1.app r2)
        exact h _ _ _ n1 n2 n3
      · exact h.elim
    · exact h.elim
  · exact h.elim
theorem op_addD : OpR X (binaryOp .Add) (fun x y H Q => (rI0 fun i j => .int (i + j)) x y H Q ∨ (∃ i j, x = .str i ∧ y = .str j ∧ i.length + j.length ≤ sizeLine ∧ Q (.str (i ++ j)) H) ∨ rCatA X.K x y H Q ∨ rCat x y H Q) := op_add.or (op_add_str.or (op_catA.or op_cat))
theorem de_add (hK : X.K = G.K) {a b : Expr} {ma mb : SE} {pos : Pos} (ha : DE G X W C a ma) (hb : DE G X W C b mb) : DE G X W C (.BinOp a .Add b pos) (eB2 addR ma mb) := de_op op_addD (br_add X.K hK) ha hb
theorem br_sub : Br2 G (rI0 fun i j => .int (i - j)) subR := by
  intro W H ι st x y v u Q s rx ry h
  unfold subR at h
  split at h
  · cases rx; cases ry
    exact ⟨_, _, rfl, rfl, h.here s (v := .int _) rfl⟩
  · exact h.elim
theorem de_sub {a b : Expr} {ma mb : SE} {pos : Pos} (ha : DE G X W C a ma) (hb : DE G X W C b mb) : DE G X W C (.BinOp a .Sub b pos) (eB2 subR ma mb) := de_op op_sub br_sub ha hb
theorem br_mul : Br2 G (fun x y H Q => (rI CMul fun i j => .int (i * j)) x y H Q ∨ rRep x y H Q) mulR := by
  intro W H ι st x y v u Q s rx ry h
  unfold mulR at h
  split at h
  · cases rx; cases ry
    split at h
    · rename_i hz
      refine .inl ⟨_, _, rfl, rfl, ?_, h.here s (v := .int _) rfl⟩
      exact mulOk_iff hz
    · exact h.elim
  · split at h
    · rename_i i k _ xs ha
      obtain ⟨pa, ys, e1, q1, r1⟩ := s.lst ha
      obtain ⟨_, e1', rfl⟩ := rx
      rw [e1] at e1'; cases e1'
      cases ry
      split at h
      · rename_i hz
        have hz := repOk_iff hz
        refine .inr ⟨pa, k, ys, rfl, rfl, q1, hz.1, hz.2.1, by rw [r1.length]; exact hz.2.2, fun p hp => ?_⟩
        have rr : RepL G H ι (List.replicate k.toNat xs).flatten (List.replicate k.toNat ys).flatten := by
          generalize k.toNat = n
          induction n with
          | zero => exact rfl
          | succ n ih => simp only [List.replicate_succ, List.flatten_cons]; exact r1.app ih
        obtain ⟨n1, n2, n3⟩ := new_take s hp rr
        exact h _ _ _ n1 n2 n3
      · exact h.elim
    · exact h.elim
  · exact h.elim
theorem de_mul {a b : Expr} {ma mb : SE} {pos : Pos} (ha : DE G X W C a ma) (hb : DE G X W C b mb) : DE G X W C (.BinOp a .Mult b pos) (eB2 mulR ma mb) := de_op (op_mul.or op_rep) br_mul ha hb
theorem br_div : Br2 G (rI CDivW fun i j => .int (i / j)) divR := by
  intro W H ι st x y v u Q s rx ry h
  unfold divR at h
  split at h
  · cases rx; cases ry
    split at h
    · rename_i hz
      exact ⟨_, _, rfl, rfl, divOk_iff hz, h.here s (v := .int _) rfl⟩
    · exact h.elim
  · exact h.elim
theorem de_div {a b : Expr} {ma mb : SE} {pos : Pos} (ha : DE G X W C a ma) (hb : DE G X W C b mb) : DE G X W C (.BinOp a .FloorDiv b pos) (eB2 divR ma mb) := de_op op_fdivW br_div ha hb
theorem br_mod : Br2 G (rI (fun _ j => 0 < j) fun i j => .int (i % j)) modR := by
  intro W H ι st x y v u Q s rx ry h
  unfold modR at h
  split at h
  · cases rx; cases ry
    split at h
    · rename_i hz
      exact ⟨_, _, rfl, rfl, hz, h.here s (v := .int _) rfl⟩
    · exact h.elim
  · exact h.elim
theorem de_mod {a b : Expr} {ma mb : SE} {pos : Pos} (ha : DE G X W C a ma) (hb : DE G X W C b mb) : DE G X W C (.BinOp a .Mod b pos) (eB2 modR ma mb) := de_op op_mod br_mod ha hb
theorem br_pow : Br2 G (rI CPow fun i j => .int (i ^ j.toNat)) powR := by
  intro W H ι st x y v u Q s rx ry h
  unfold powR at h
  split at h
  · cases rx; cases ry
    split at h
    · rename_i hz
      exact ⟨_, _, rfl, rfl, powOk_iff hz, h.here s (v := .int _) rfl⟩
    · exact h.elim
  · exact h.elim
theorem de_pow {a b : Expr} {ma mb : SE} {pos : Pos} (ha : DE G X W C a ma) (hb : DE G X W C b mb) : DE G X W C (.BinOp a .Pow b pos) (eB2 powR ma mb) := de_op op_pow br_pow ha hb
theorem br_xor : Br2 G (rI0 fun i j => .int (Builtin.bitXor i j)) xorR := by
  intro W H ι st x y v u Q s rx ry h
  unfold xorR at h
  split at h
  · cases rx; cases ry
    exact ⟨_, _, rfl, rfl, h.here s (v := .int _) rfl⟩
  · exact h.elim
theorem de_xor {a b : Expr} {ma mb : SE} {pos : Pos} (ha : DE G X W C a ma) (hb : DE G X W C b mb) : DE G X W C (.BinOp a .BitXor b pos) (eB2 xorR ma mb) := de_op op_xor br_xor ha hb
theorem br_neg : Br1 G (rU fun i => .int (-i)) negR := by
  intro W H ι st x v Q s rx h
  unfold negR at h
  split at h
  · cases rx
    exact ⟨_, rfl, h.here s (v := .int _) rfl⟩
  · exact h.elim
theorem de_neg {a : Expr} {ma : SE} {pos : Pos} (ha : DE G X W C a ma) : DE G X W C (.UnaryOp .USub a pos) (eU1 negR ma) := de_un un_neg br_neg ha
def iaddR : Sto → D → D → Res D := fun st x y => match x, y with
  | .int i, .int j => .ok (.int (i + j)) st
  | _, _ => .stuck
theorem br_ipadd : Br2 G (ipI fun i j => i + j) iaddR := by
  intro W H ι st x y v u Q s rx ry h
  unfold iaddR at h
  split at h
  · cases rx; cases ry
    exact ⟨_, _, rfl, rfl, h.here s (v := .int _) rfl⟩
  · exact h.elim
theorem br_ipsub : Br2 G (ipI fun i j => i - j) subR := by
  intro W H ι st x y v u Q s rx ry h
  unfold subR at h
  split at h
  · cases rx; cases ry
    exact ⟨_, _, rfl, rfl, h.here s (v := .int _) rfl⟩
  · exact h.elim
end

/-! ### order -/
def ltI : Sto → D → D → Option Bool := fun _ x y => match x, y with | .int i, .int j => some (decide (i < j)) | _, _ => none
def leI : Sto → D → D → Option Bool := fun _ x y => match x, y with | .int i, .int j => some (decide (i ≤ j)) | _, _ => none
def gtI : Sto → D → D → Option Bool := fun _ x y => match x, y with | .int i, .int j => some (decide (j < i)) | _, _ => none
def geI : Sto → D → D → Option Bool := fun _ x y => match x, y with | .int i, .int j => some (decide (j ≤ i)) | _, _ => none
section
variable {G : Gx} {X : Cx} {W : WX} {C : Call}
theorem br_cI {g : Int → Int → Bool} {f : Sto → D → D → Option Bool} (hf : ∀ st x y k, f st x y = some k → ∃ i j, x = .int i ∧ y = .int j ∧ k = g i j) : Br2 G (rI0 fun i j => .bl (g i j)) (cB f) := by
  intro W H ι st x y v u Q s rx ry h
  unfold cB at h
  obtain ⟨d, e, h⟩ := h.opt
  obtain ⟨k, e1, rfl⟩ := Option.map_eq_some_iff.mp e
  obtain ⟨i, j, rfl, rfl, rfl⟩ := hf st x y k e1
  cases rx; cases ry
  exact ⟨i, j, rfl, rfl, h.here s (v := .bl _) rfl⟩
theorem cI_of {g : Int → Int → Bool} {f : Sto → D → D → Option Bool} (h : f = fun _ x y => match x, y with | .int i, .int j => some (g i j) | _, _ => none) : ∀ st x y k, f st x y = some k → ∃ i j, x = .int i ∧ y = .int j ∧ k = g i j := by
  intro st x y k e
  subst h
  dsimp only at e
  split at e
  · cases e; exact ⟨_, _, rfl, rfl, rfl⟩
  · cases e
theorem db_ltI {a b : Expr} {ma mb : SE} {pos : Pos} (ha : DE G X W C a ma) (hb : DE G X W C b mb) : DB G X W C (.Compare a [.Lt] [b] pos) (bCmp ltI ma mb) := db_cmp op_lt (br_cI (cI_of rfl)) ha hb (nomark _)
theorem db_leI {a b : Expr} {ma mb : SE} {pos : Pos} (ha : DE G X W C a ma) (hb : DE G X W C b mb) : DB G X W C (.Compare a [.LtE] [b] pos) (bCmp leI ma mb) := db_cmp op_le (br_cI (cI_of rfl)) ha hb (nomark _)
theorem db_gtI {a b : Expr} {ma mb : SE} {pos : Pos} (ha : DE G X W C a ma) (hb : DE G X W C b mb) : DB G X W C (.Compare a [.Gt] [b] pos) (bCmp gtI ma mb) := db_cmp op_gt (br_cI (cI_of rfl)) ha hb (nomark _)
theorem db_geI {a b : Expr} {ma mb : SE} {pos : Pos} (ha : DE G X W C a ma) (hb : DE G X W C b mb) : DB G X W C (.Compare a [.GtE] [b] pos) (bCmp geI ma mb) := db_cmp op_ge (br_cI (cI_of rfl)) ha hb (nomark _)
theorem de_ltI {a b : Expr} {ma mb : SE} {pos : Pos} (ha : DE G X W C a ma) (hb : DE G X W C b mb) : DE G X W C (.Compare a [.Lt] [b] pos) (eB2 (cB ltI) ma mb) := de_cmp op_lt (br_cI (cI_of rfl)) ha hb (nomark _)
theorem de_leI {a b : Expr} {ma mb : SE} {pos : Pos} (ha : DE G X W C a ma) (hb : DE G X W C b mb) : DE G X W C (.Compare a [.LtE] [b] pos) (eB2 (cB leI) ma mb) := de_cmp op_le (br_cI (cI_of rfl)) ha hb (nomark _)
theorem de_gtI {a b : Expr} {ma mb : SE} {pos : Pos} (ha : DE G X W C a ma) (hb : DE G X W C b mb) : DE G X W C (.Compare a [.Gt] [b] pos) (eB2 (cB gtI) ma mb) := de_cmp op_gt (br_cI (cI_of rfl)) ha hb (nomark _)
theorem de_geI {a b : Expr} {ma mb : SE} {pos : Pos} (ha : DE G X W C a ma) (hb : DE G X W C b mb) : DE G X W C (.Compare a [.GtE] [b] pos) (eB2 (cB geI) ma mb) := de_cmp op_ge (br_cI (cI_of rfl)) ha hb (nomark _)
end

/-! ### data, equality -/
mutual
def datP (r : Nat → Option PyData) : D → Option PyData
  | .non => some .none
  | .bl b => some (.bool b)
  | .int i => some (.int i)
  | .str x => some (.str x)
  | .tup ds => (datPL r ds).map .tuple
  | .scr ds => (datPL r ds).map .list
  | .ref i => r i
  | .fn _ => none
def datPL (r : Nat → Option PyData) : List D → Option (List PyData)
  | [] => some []
  | d :: ds => (datP r d).bind fun x => (datPL r ds).map fun xs => x :: xs
end
def dat (st : Sto) : Nat → D → Option PyData
  | 0 => datP fun _ => none
  | n + 1 => datP fun i => (lstAt st i).bind fun ds => (ds.mapM (dat st n)).map .list
def eqB : Sto → D → D → Option Bool := fun st x y => (dat st 4 x).bind fun d => (dat st 4 y).bind fun e => if SeqAt.shaped d = true ∧ SeqAt.shaped e = true then some (PyData.eqv d e) else none
def neB : Sto → D → D → Option Bool := fun st x y => (eqB st x y).map (!·)
section
variable {G : Gx} {X : Cx} {W : WX} {C : Call} {H : Hp} {ι : List Addr} {st : Sto}
mutual
theorem datP_rep {r : Nat → Option PyData} (hr : ∀ i p a, r i = some p → ι[i]? = some a → Dp G.K H (.ref a) p) : ∀ {d : D} {v : V} {p : PyData}, Rep G H ι d v → datP r d = some p → Dp G.K H v p
  | .non, _, _, h, e => by cases h; cases e; exact .non
  | .bl b, _, _, h, e => by cases h; cases e; exact .bl b
  | .int b, _, _, h, e => by cases h; cases e; exact .int b
  | .str b, _, _, h, e => by cases h; cases e; exact .str b
  | .tup ds, _, _, ⟨a, xs, e1, e2, e3⟩, e => by
    subst e1
    simp only [datP] at e
    obtain ⟨ps, q, rfl⟩ := Option.map_eq_some_iff.mp e
    exact .tup e2 (datPL_rep hr e3 q)
  | .scr ds, _, _, ⟨a, xs, e1, e2, e3⟩, e => by
    subst e1
    simp only [datP] at e
    obtain ⟨ps, q, rfl⟩ := Option.map_eq_some_iff.mp e
    exact .lst e2.sq (datPL_rep hr e3 q)
  | .ref i, _, _, ⟨a, e1, e2⟩, e => by
    subst e2
    exact hr i _ a e e1
  | .fn _, _, _, _, e => by cases e
theorem datPL_rep {r : Nat → Option PyData} (hr : ∀ i p a, r i = some p → ι[i]? = some a → Dp G.K H (.ref a) p) : ∀ {ds : List D} {vs : List V} {ps : List PyData}, RepL G H ι ds vs → datPL r ds = some ps → DpAll G.K H vs ps
  | [], _, _, h, e => by cases h; cases e; exact .nil
  | d :: ds, _, _, ⟨v, x, e1, e2, e3⟩, e => by
    subst e1
    simp only [datPL] at e
    obtain ⟨p, q1, q2⟩ := Option.bind_eq_some_iff.mp e
    obtain ⟨ps, q3, rfl⟩ := Option.map_eq_some_iff.mp q2
    exact .cons (datP_rep hr e2 q1) (datPL_rep hr e3 q3)
end
theorem mapM_rep {f : D → Option PyData} (hf : ∀ d v p, Rep G H ι d v → f d = some p → Dp G.K H v p) : ∀ {ds : List D} {vs : List V} {ps : List PyData}, RepL G H ι ds vs → ds.mapM f = some ps → DpAll G.K H vs ps
  | [], _, _, h, e => by cases h; simp at e; subst e; exact .nil
  | d :: ds, _, _, ⟨v, x, e1, e2, e3⟩, e => by
    subst e1
    rw [List.mapM_cons] at e
    simp only [Option.bind_eq_bind, Option.pure_def] at e
    obtain ⟨p, q1, q2⟩ := Option.bind_eq_some_iff.mp e
    obtain ⟨ps, q3, q4⟩ := Option.bind_eq_some_iff.mp q2
    cases q4
    exact .cons (hf _ _ _ e2 q1) (mapM_rep hf e3 q3)
theorem dat_rep (s : StoRep G H ι st) : ∀ (n : Nat) (d : D) (v : V) (p : PyData), Rep G H ι d v → dat st n d = some p → Dp G.K H v p
  | 0, d, v, p, r, e => datP_rep (fun i p a h => by cases h) r e
  | n + 1, d, v, p, r, e => datP_rep (fun i p a h hi => by
      obtain ⟨ds, q1, q2⟩ := Option.bind_eq_some_iff.mp h
      obtain ⟨ps, q3, rfl⟩ := Option.map_eq_some_iff.mp q2
      obtain ⟨a', xs, k1, k2, k3⟩ := s.lst q1
      rw [hi] at k1; cases k1
      exact .lst (SqL.of k2) (mapM_rep (dat_rep s n) k3 q3)) r e
theorem br_eq : Br2 G (rEqD G.K) (cB eqB) := by
  intro W H ι st x y v u Q s rx ry h
  unfold cB at h
  obtain ⟨d, e, h⟩ := h.opt
  obtain ⟨k, e1, rfl⟩ := Option.map_eq_some_iff.mp e
  unfold eqB at e1
  obtain ⟨p, q1, e2⟩ := Option.bind_eq_some_iff.mp e1
  obtain ⟨p', q2, e3⟩ := Option.bind_eq_some_iff.mp e2
  split at e3
  · rename_i hs
    cases e3
    exact ⟨p, p', dat_rep s _ _ _ _ rx q1, dat_rep s _ _ _ _ ry q2, hs.1, hs.2, h.here s (v := .bl _) rfl⟩
  · cases e3
theorem br_ne : Br2 G (rNeD G.K) (cB neB) := by
  intro W H ι st x y v u Q s rx ry h
  unfold cB neB at h
  obtain ⟨d, e, h⟩ := h.opt
  obtain ⟨k, e0, rfl⟩ := Option.map_eq_some_iff.mp e
  obtain ⟨k', e1, rfl⟩ := Option.map_eq_some_iff.mp e0
  unfold eqB at e1
  obtain ⟨p, q1, e2⟩ := Option.bind_eq_some_iff.mp e1
  obtain ⟨p', q2, e3⟩ := Option.bind_eq_some_iff.mp e2
  split at e3
  · rename_i hs
    cases e3
    exact ⟨p, p', dat_rep s _ _ _ _ rx q1, dat_rep s _ _ _ _ ry q2, hs.1, hs.2, h.here s (v := .bl _) rfl⟩
  · cases e3
theorem db_eq {a b : Expr} {ma mb : SE} {pos : Pos} (hK : X.K = G.K) (hu : X.A.units + 64 < cLine) (ha : DE G X W C a ma) (hb : DE G X W C b mb) : DB G X W C (.Compare a [.Eq] [b] pos) (bCmp eqB ma mb) := db_cmp (op_eqD hu) (by rw [hK]; exact br_eq) ha hb (nomark _)
theorem de_eq {a b : Expr} {ma mb : SE} {pos : Pos} (hK : X.K = G.K) (hu : X.A.units + 64 < cLine) (ha : DE G X W C a ma) (hb : DE G X W C b mb) : DE G X W C (.Compare a [.Eq] [b] pos) (eB2 (cB eqB) ma mb) := de_cmp (op_eqD hu) (by rw [hK]; exact br_eq) ha hb (nomark _)
theorem db_ne {a b : Expr} {ma mb : SE} {pos : Pos} (hK : X.K = G.K) (hu : X.A.units + 64 < cLine) (ha : DE G X W C a ma) (hb : DE G X W C b mb) : DB G X W C (.Compare a [.NotEq] [b] pos) (bCmp neB ma mb) := db_cmp (op_neD hu) (by rw [hK]; exact br_ne) ha hb (nomark _)
theorem de_ne {a b : Expr} {ma mb : SE} {pos : Pos} (hK : X.K = G.K) (hu : X.A.units + 64 < cLine) (ha : DE G X W C a ma) (hb : DE G X W C b mb) : DE G X W C (.Compare a [.NotEq] [b] pos) (eB2 (cB neB) ma mb) := de_cmp (op_neD hu) (by rw [hK]; exact br_ne) ha hb (nomark _)
end

/-! ### is -/
def isB : Sto → D → D → Option Bool := fun _ x y => match y with
  | .non => some (match x with | .non => true | _ => false)
  | .bl b => some (match x with | .bl c => c == b | _ => false)
  | _ => none
def isnB : Sto → D → D → Option Bool := fun st x y => (isB st x y).map (!·)
section
variable {G : Gx} {X : Cx} {W : WX} {C : Call}
def rIs (neg : Bool) : R2 := fun x y H Q => ((y = .non ∨ ∃ b, y = .bl b) ∧ Q (.bl (if neg then !decide (x = y) else decide (x = y))) H)
theorem op_isD : OpR X (compareOp .Is) (rIs false) := by
  intro pins s σ H x y v u Q I rx ry h
  obtain ⟨hy, q⟩ := h
  rcases hy with rfl | ⟨b, rfl⟩
  · exact op_isN pins s σ H x .non v u Q I rx ry ⟨rfl, q⟩
  · cases ry
    have hp : plainIs v (.bool b) = true := by
      cases x with
      | non => cases rx; rfl
      | bl _ => cases rx; rfl
      | int _ => obtain ⟨t, rfl⟩ := rx; rfl
      | str _ => obtain ⟨t, rfl⟩ := rx; rfl
      | byt _ => obtain ⟨t, rfl⟩ := rx; rfl
      | flt _ => obtain ⟨t, rfl⟩ := rx; rfl
      | ref _ => cases rx; rfl
      | ty _ => cases rx; rfl
    by_cases e : x = .bl b
    · subst e
      cases rx
      exact wpAny_is_self rfl ⟨.bl true, H, I, rfl, by simpa using q⟩
    · refine wpAny_is_other hp (fun z => ?_) ⟨.bl false, H, I, rfl, by simpa [e] using q⟩
      subst z
      exact e (RelV.inj rx (show RelV (.bl b) _ from rfl))
theorem op_isnD : OpR X (compareOp .IsNot) (rIs true) := by
  intro pins s σ H x y v u Q I rx ry h
  obtain ⟨hy, q⟩ := h
  rcases hy with rfl | ⟨b, rfl⟩
  · exact op_notN pins s σ H x .non v u Q I rx ry ⟨rfl, q⟩
  · cases ry
    have hp : plainIs v (.bool b) = true := by
      cases x with
      | non => cases rx; rfl
      | bl _ => cases rx; rfl
      | int _ => obtain ⟨t, rfl⟩ := rx; rfl
      | str _ => obtain ⟨t, rfl⟩ := rx; rfl
      | byt _ => obtain ⟨t, rfl⟩ := rx; rfl
      | flt _ => obtain ⟨t, rfl⟩ := rx; rfl
      | ref _ => cases rx; rfl
      | ty _ => cases rx; rfl
    by_cases e : x = .bl b
    · subst e
      cases rx
      exact wpAny_isNot_self rfl ⟨.bl false, H, I, rfl, by simpa using q⟩
    · refine wpAny_isNot_other hp (fun z => ?_) ⟨.bl true, H, I, rfl, by simpa [e] using q⟩
      subst z
      exact e (RelV.inj rx (show RelV (.bl b) _ from rfl))
theorem isB_rep {G : Gx} {H : Hp} {ι : List Addr} {st : Sto} {x y : D} {v u : V} {k : Bool} (rx : Rep G H ι x v) (ry : Rep G H ι y u) (h : isB st x y = some k) : (u = .non ∨ ∃ b, u = .bl b) ∧ decide (v = u) = k := by
  unfold isB at h
  split at h
  · cases ry
    cases h
    refine ⟨.inl rfl, ?_⟩
    cases x with
    | non => cases rx; rfl
    | bl _ => cases rx; rfl
    | int _ => cases rx; rfl
    | str _ => cases rx; rfl
    | tup _ => obtain ⟨_, _, rfl, _⟩ := rx; rfl
    | scr _ => obtain ⟨_, _, rfl, _⟩ := rx; rfl
    | ref _ => obtain ⟨_, _, rfl⟩ := rx; rfl
    | fn _ => cases rx; rfl
  · rename_i b
    cases ry
    cases h
    refine ⟨.inr ⟨b, rfl⟩, ?_⟩
    cases x with
    | non => cases rx; rfl
    | bl c => cases rx; cases c <;> cases b <;> rfl
    | int _ => cases rx; rfl
    | str _ => cases rx; rfl
    | tup _ => obtain ⟨_, _, rfl, _⟩ := rx; rfl
    | scr _ => obtain ⟨_, _, rfl, _⟩ := rx; rfl
    | ref _ => obtain ⟨_, _, rfl⟩ := rx; rfl
    | fn _ => cases rx; rfl
  · cases h
theorem br_is : Br2 G (rIs false) (cB isB) := by
  intro W H ι st x y v u Q s rx ry h
  unfold cB at h
  obtain ⟨d, e, h⟩ := h.opt
  obtain ⟨k, e1, rfl⟩ := Option.map_eq_some_iff.mp e
  obtain ⟨h1, h2⟩ := isB_rep rx ry e1
  exact ⟨h1, by rw [h2]; exact h.here s (v := .bl _) rfl⟩
theorem br_isn : Br2 G (rIs true) (cB isnB) := by
  intro W H ι st x y v u Q s rx ry h
  unfold cB isnB at h
  obtain ⟨d, e, h⟩ := h.opt
  obtain ⟨k, e0, rfl⟩ := Option.map_eq_some_iff.mp e
  obtain ⟨k', e1, rfl⟩ := Option.map_eq_some_iff.mp e0
  obtain ⟨h1, h2⟩ := isB_rep rx ry e1
  exact ⟨h1, by rw [h2]; exact h.here s (v := .bl _) rfl⟩
theorem db_is {a b : Expr} {ma mb : SE} {pos : Pos} (ha : DE G X W C a ma) (hb : DE G X W C b mb) : DB G X W C (.Compare a [.Is] [b] pos) (bCmp isB ma mb) := db_cmp op_isD br_is ha hb (nomark _)
theorem de_is {a b : Expr} {ma mb : SE} {pos : Pos} (ha : DE G X W C a ma) (hb : DE G X W C b mb) : DE G X W C (.Compare a [.Is] [b] pos) (eB2 (cB isB) ma mb) := de_cmp op_isD br_is ha hb (nomark _)
theorem db_isn {a b : Expr} {ma mb : SE} {pos : Pos} (ha : DE G X W C a ma) (hb : DE G X W C b mb) : DB G X W C (.Compare a [.IsNot] [b] pos) (bCmp isnB ma mb) := db_cmp op_isnD br_isn ha hb (nomark _)
theorem de_isn {a b : Expr} {ma mb : SE} {pos : Pos} (ha : DE G X W C a ma) (hb : DE G X W C b mb) : DE G X W C (.Compare a [.IsNot] [b] pos) (eB2 (cB isnB) ma mb) := de_cmp op_isnD br_isn ha hb (nomark _)
end
end OH

set_option Elab.async false
set_option linter.all false
set_option maxRecDepth 100000
set_option maxHeartbeats 1000000
/-! OHBlt: built-ins, items, slices, methods of lists, iterables. -/
namespace OH
open PySem PySem.Spec PyProof.Rows L2

theorem CallR.or {X : Cx} {f : Value} {r r' : List V → Hp → VK → Prop} (h : CallR X f r) (h' : CallR X f r') : CallR X f (fun xs H Q => r xs H Q ∨ r' xs H Q) := by
  intro pins s σ H xs us Q I rx q
  rcases q with q | q
  · exact h pins s σ H xs us Q I rx q
  · exact h' pins s σ H xs us Q I rx q

section
variable {G : Gx} {X : Cx} {W : WX} {C : Call}
def BrQ (G : Gx) (r : List V → Hp → VK → Prop) (g : Sto → List D → Res D) : Prop := ∀ (W : Value → Option Addr → Hp → Prop) (H : Hp) (ι : List Addr) (st : Sto) (ds : List D) (a : Addr) (xs : List V) (Q : VK), StoRep G H ι st → (SqL G.K H a xs ∨ SqT G.K H a xs) → RepL G H ι ds xs → post G (Rep G) W H ι Q (g st ds) → r [.ref a] H Q
def Br1L (G : Gx) (r : List V → Hp → VK → Prop) (g : Sto → D → Res D) : Prop := ∀ (W : Value → Option Addr → Hp → Prop) (H : Hp) (ι : List Addr) (st : Sto) (x : D) (v : V) (Q : VK), StoRep G H ι st → Rep G H ι x v → post G (Rep G) W H ι Q (g st x) → r [v] H Q
theorem de_c1 {e : Expr} {r : List V → Hp → VK → Prop} {g : Sto → D → Res D} {m : SE} (h : PE X e (tCB r (tCons (tE G W C m) tNil))) (br : Br1L G r g) : DE G X W C e (eU1 g m) :=
  pe_imp h fun σ H Q ⟨env, ι, st, hR, hp⟩ => sqE hR hp fun x st1 v H1 ι1 e1 hR1 r1 hp1 => br _ H1 ι1 st1 x v Q hR1.sto r1 hp1
theorem de_cA {e : Expr} {r : List V → Hp → VK → Prop} {g : Sto → List D → Res D} {l : SL} (h : PE X e (tCB r (tA G W C l))) (br : BrA G r g) : DE G X W C e (eA g l) :=
  pe_imp h fun σ H Q ⟨env, ι, st, hR, hp⟩ => sqA hR hp fun x st1 v H1 ι1 e1 hR1 r1 hp1 => br _ H1 ι1 st1 x v Q hR1.sto r1 hp1
theorem de_cQ {e : Expr} {r : List V → Hp → VK → Prop} {g : Sto → List D → Res D} {l : SL} (h : PE X e (tCB r (tCons (tS G W C l) tNil))) (br : BrQ G r g) : DE G X W C e (eA g l) :=
  pe_imp h fun σ H Q ⟨env, ι, st, hR, hp⟩ => sqS hR hp fun ds st1 a xs H1 ι1 e1 hR1 q1 r1 hp1 => br _ H1 ι1 st1 ds a xs Q hR1.sto q1 r1 hp1
/-- what is free later was free before -/
theorem fresh_back {H H1 : Hp} {ι ι1 : List Addr} {st : Sto} (e : Ext H ι H1 ι1) (s : StoRep G H1 ι1 st) {p : Addr} (hp : H1 p = none) : H p = none := by
  cases q : H p with
  | none => rfl
  | some o =>
    by_cases hm : p ∈ ι
    · exact absurd hp (fun z => s.ne (by obtain ⟨r, rfl⟩ := e.more; exact List.mem_append_left _ hm) z rfl)
    · rw [e.keep p o q hm] at hp; cases hp
/-- a list of one's own, made of a list that is read -/
def BrQT (G : Gx) (r : List V → Hp → VK → Prop) (f : Sto → List D → Option (List D)) : Prop := ∀ (H : Hp) (ι : List Addr) (st : Sto) (ds es : List D) (a : Addr) (xs : List V) (Q : VK), StoRep G H ι st → (SqL G.K H a xs ∨ SqT G.K H a xs) → RepL G H ι ds xs → f st ds = some es →
  (∀ ys p, RepL G H ι es ys → H p = none → Q (.ref p) (upd H p (.lst ys))) → r [.ref a] H Q
theorem dt_cQ {e : Expr} {r : List V → Hp → VK → Prop} {f : Sto → List D → Option (List D)} {l : SL} (h : PE X e (tCB r (tCons (tS G W C l) tNil))) (br : BrQT G r f) : DT G X W C e (lMap f l) :=
  pe_imp h fun σ H Q ⟨env, ι, st, hR, hp⟩ => sqS hR hp fun ds st1 a xs H1 ι1 e1 hR1 q1 r1 hp1 => by
    obtain ⟨es, e, hp2⟩ := hp1.opt
    exact br H1 ι1 st1 ds es a xs Q hR1.sto q1 r1 e fun ys p r2 hp => hp2 _ _ ι1 (ext_new hp) (hR1.sto.fresh hp) ⟨p, ys, rfl, upd_same, hR1.sto.notin hp, fresh_back e1 hR1.sto hp, r2.ext (ext_new hp) hR1.sto.mut⟩

/-! ### len -/
def lenR : Sto → D → Res D := fun st x => match x with
  | .str z => if z.length ≤ sizeLine then .ok (.int z.length) st else .stuck
  | x => match items st x with
    | some ds => .ok (.int ds.length) st
    | none => .stuck
def rLen (K : PySem.W.Frag) : List V → Hp → VK → Prop := fun xs H Q => (∃ p ys, xs = [.ref p] ∧ (SqL K H p ys ∨ SqT K H p ys) ∧ Q (.int ys.length) H) ∨ ∃ z, xs = [.str z] ∧ z.length ≤ sizeLine ∧ Q (.int z.length) H
theorem call_lenA : CallR X (.builtin "len") (rLen X.K) := CallR.or call_len_seq call_len_str
theorem br_len : Br1L G (rLen G.K) lenR := by
  intro W H ι st x v Q s rx h
  unfold lenR at h
  split at h
  · cases rx
    split at h
    · rename_i hz
      exact .inr ⟨_, rfl, hz, h.here s (v := .int _) rfl⟩
    · exact h.elim
  · split at h
    · rename_i ds e
      obtain ⟨a, xs, rfl, q, r⟩ := s.items e rx
      refine .inl ⟨a, xs, rfl, q, ?_⟩
      rw [r.length]
      exact h.here s (v := .int _) rfl
    · exact h.elim
theorem brq_len : BrQ G (rLen G.K) (fun st ds => .ok (.int ds.length) st) := by
  intro W H ι st ds a xs Q s q r h
  refine .inl ⟨a, xs, rfl, q, ?_⟩
  rw [r.length]
  exact h.here s (v := .int _) rfl

/-! ### isinstance -/
inductive Ty where
  | non | bool | int | str | tup | lst | dict
  deriving DecidableEq
def Ty.name : Ty → String
  | .non => "NoneType" | .bool => "bool" | .int => "int" | .str => "str" | .tup => "tuple" | .lst => "list" | .dict => "dict"
def subT : Ty → Ty → Bool
  | .bool, .int => true
  | a, b => a == b
theorem kit_sub (a b : Ty) : kitB a.name b.name = some (subT a b) := by cases a <;> cases b <;> decide +kernel
def tyOf (st : Sto) : D → Option Ty
  | .non => some .non | .bl _ => some .bool | .int _ => some .int | .str _ => some .str | .tup _ => some .tup | .scr _ => some .lst
  | .ref i => match st[i]? with | some (.lst _) => some .lst | some (.dct _) => some .dict | some (.dcn _) => some .dict | some (.lck _) => some .dict | none => none
  | .fn _ => none
def isiR (T : Ty) : Sto → D → Res D := fun st x => match tyOf st x with | some t => .ok (.bl (subT t T)) st | none => .stuck
/-- a value's type, nested dicts too -/
def TyN (w : World) (K : PySem.W.Frag) (H : Hp) (x : V) (t : Value) : Prop := TyX K H x t ∨ ∃ a xs, x = .ref a ∧ (H a = some (.ext (dNφ w a xs)) ∨ ∃ od, H a = some (.frz od (.ext (dNφ w a xs)))) ∧ t = .type "dict"
def rIsiN (w : World) (K : PySem.W.Frag) : List V → Hp → VK → Prop := fun xs H Q => ∃ (x c : V) (t u : Value) (b : Bool), xs = [x, c] ∧ ClsV c u ∧ TyN w K H x t ∧ PySem.W.kitOne K t u = some b ∧ Q (.bl b) H
theorem call_isiN {w : World} : CallR X (.builtin "isinstance") (rIsiN w X.K) := by
  intro pins s σ H xs us Q I r h
  obtain ⟨x, c, t, u, b, rfl, k, ty, e, q⟩ := h
  obtain ⟨u1, u2, rfl, r1, r2⟩ := vals2 r
  have e2 := k.eq r2
  subst e2
  rcases ty with ty | ⟨a, xs, rfl, ha, rfl⟩
  · obtain ⟨P, Z, p, hx⟩ := kit_of I r1 ty
    exact PySem.W.kia_one Z I.kIn p e hx fun tk => ⟨.bl b, H, I.tok tk, rfl, q⟩
  · cases (show u1 = Value.ref a from r1)
    have ok : ObjOk X.prog X.w H s.heap a (.ext (dNφ w a xs)) := by
      rcases ha with ha | ⟨od, ha⟩
      · exact I.hok a _ ha
      · exact (I.hok a _ ha).2
    obtain ⟨⟨_, _, ys, _, o, es, ep, h1, h2, _⟩, _, _⟩ := ok
    exact PySem.W.kia_one PySem.W.kitx_dict I.kIn ⟨o, h1, h2.1⟩ e (fun z => nomatch z) fun tk => ⟨.bl b, H, I.tok tk, rfl, q⟩
theorem tyX_of {H : Hp} {ι : List Addr} {st : Sto} {x : D} {v : V} {t : Ty} (s : StoRep G H ι st) (r : Rep G H ι x v) (h : tyOf st x = some t) : TyN G.w G.K H v (.type t.name) := by
  cases x with
  | non => cases r; cases h; exact .inl (.base .non)
  | bl b => cases r; cases h; exact .inl (.base (.bl b))
  | int i => cases r; cases h; exact .inl (.base (.int i))
  | str x => cases r; cases h; exact .inl (.base (.str x))
  | tup ds =>
    obtain ⟨a, xs, rfl, q, _⟩ := r
    cases h
    rcases q with (q | ⟨o, q⟩) | ⟨o, its, n, q, c, _⟩
    · exact .inl (.base (.tup q))
    · exact .inl (.fTuple q)
    · exact .inl (.kTuple q c)
  | scr ds =>
    obtain ⟨a, xs, rfl, q, _⟩ := r
    cases h
    rcases q with ⟨o, q⟩ | ⟨o, its, n, q, c, _⟩
    · exact .inl (.base (.frz q))
    · exact .inl (.kList q c)
  | ref i =>
    obtain ⟨a, e, rfl⟩ := r
    simp only [tyOf] at h
    cases hc : st[i]? with
    | none => simp only [hc] at h; cases h
    | some c =>
      have q := s.cell i c a hc e
      simp only [hc] at h
      cases c with
      | lst ds =>
        cases h
        obtain ⟨xs, q, _⟩ := q
        exact .inl (.base (.lst q))
      | dct kvs =>
        cases h
        obtain ⟨ks, vs, q, _⟩ := q
        exact .inl (.base (.dK q))
      | dcn kvs =>
        cases h
        obtain ⟨xs, q, _⟩ := q
        exact .inr ⟨a, xs, rfl, .inl q, rfl⟩
      | lck kvs =>
        cases h
        obtain ⟨od, xs, q, _⟩ := q
        exact .inr ⟨a, xs, rfl, .inr ⟨od, q⟩, rfl⟩
  | fn f => cases h
theorem de_isi {T : Ty} {e : Expr} {m : SE} (hK : X.K = G.K) (h : PE X e (tCB (rIsiN G.w X.K) (tCons (tE G W C m) (tCons (tC (.ty T.name)) tNil)))) : DE G X W C e (eU1 (isiR T) m) :=
  pe_imp h fun σ H Q ⟨env, ι, st, hR, hp⟩ => sqE hR hp fun x st1 v H1 ι1 e1 hR1 r1 hp1 => by
    unfold isiR at hp1
    split at hp1
    · rename_i t et
      exact ⟨v, .ty T.name, .type t.name, .type T.name, subT t T, rfl, .ty _, by rw [hK]; exact tyX_of hR1.sto r1 et, kit_ty (kit_sub t T), hp1.here hR1.sto (v := .bl _) rfl⟩
    · exact hp1.elim

/-! ### int, sum, min, max, abs -/
def intR : Sto → D → Res D := fun st x => match x with
  | .int i => .ok (.int i) st
  | .bl k => .ok (.int (if k then 1 else 0)) st
  | _ => .stuck
theorem br_int : Br1L G (fun xs H Q => (∃ i, xs = [.int i] ∧ Q (.int i) H) ∨ ∃ k, xs = [.bl k] ∧ Q (.int (if k then 1 else 0)) H) intR := by
  intro W H ι st x v Q s rx h
  unfold intR at h
  split at h
  · cases rx; exact .inl ⟨_, rfl, h.here s (v := .int _) rfl⟩
  · cases rx; exact .inr ⟨_, rfl, h.here s (v := .int _) rfl⟩
  · exact h.elim
def intsOf : List D → Option (List Int)
  | [] => some []
  | .int i :: ds => (intsOf ds).map fun is => i :: is
  | _ :: _ => none
theorem intsOf_eq : ∀ {ds : List D} {ns : List Int}, intsOf ds = some ns → ds = ns.map D.int
  | [], _, h => by cases h; rfl
  | .int i :: ds, ns, h => by
    simp only [intsOf] at h
    obtain ⟨is, e, rfl⟩ := Option.map_eq_some_iff.mp h
    rw [intsOf_eq e]; rfl
  | .non :: _, _, h => by cases h
  | .bl _ :: _, _, h => by cases h
  | .str _ :: _, _, h => by cases h
  | .tup _ :: _, _, h => by cases h
  | .ref _ :: _, _, h => by cases h
  | .fn _ :: _, _, h => by cases h
  | .scr _ :: _, _, h => by cases h
@[simp] theorem intsOf_map (ns : List Int) : intsOf (ns.map D.int) = some ns := by
  induction ns with
  | nil => rfl
  | cons n ns ih => simp [intsOf, ih]
def rSumA (K : PySem.W.Frag) : List V → Hp → VK → Prop := fun vs H Q => ∃ (a : Addr) (ns : List Int), vs = [V.ref a] ∧ (SqL K H a (ns.map V.int) ∨ SqT K H a (ns.map V.int)) ∧ Q (.int ns.sum) H
theorem cr_sumA (hc : X.calm = true) : CallR X (.builtin "sum") (rSumA X.K) := by
  intro pins s σ H vs us Q I r h
  obtain ⟨a, ns, rfl, hs, q⟩ := h
  rcases hs with hs | hs
  · exact cr_sum hc pins s σ H _ us Q I r ⟨a, ns, rfl, hs, q⟩
  · obtain ⟨its, rv, ht, _⟩ := I.tuple hs
    rw [Vals.ref1 r]
    have hi := rv.ints
    obtain ⟨xs, e⟩ := hi.allInts.items
    have hn : numsOf (intItems xs).toList = ns := by rw [← e]; exact hi.numsOf
    rw [nums_intItems] at hn
    rw [e] at ht
    refine PySem.W.ktm_sumG (I.ok.hd hc) ht fun h' tk t' hk => ⟨.int ns.sum, H, I.kept hk, ⟨t', ?_⟩, q⟩
    rw [preSum_eq, List.take_of_length_le (by simp), hn]
def sumQ : Sto → List D → Res D := fun st ds => match intsOf ds with | some ns => .ok (.int ns.sum) st | none => .stuck
theorem brq_sum : BrQ G (rSumA G.K) sumQ := by
  intro W H ι st ds a xs Q s q r h
  unfold sumQ at h
  split at h
  · rename_i ns e
    have e2 := r.ints (intsOf_eq e)
    subst e2
    exact ⟨a, ns, rfl, q, h.here s (v := .int _) rfl⟩
  · exact h.elim
def min2 : Sto → List D → Res D := fun st ds => match ds with | [.int i, .int j] => .ok (.int (if j < i then j else i)) st | _ => .stuck
def max2 : Sto → List D → Res D := fun st ds => match ds with | [.int i, .int j] => .ok (.int (if j > i then j else i)) st | _ => .stuck
theorem bra_min2 : BrA G (fun xs H Q => ∃ i j, xs = [.int i, .int j] ∧ Q (.int (if j < i then j else i)) H) min2 := by
  intro W H ι st ds vs Q s r h
  unfold min2 at h
  split at h
  · obtain ⟨_, _, rfl, rfl, _, _, rfl, rfl, rfl⟩ := r
    exact ⟨_, _, rfl, h.here s (v := .int _) rfl⟩
  · exact h.elim
theorem bra_max2 : BrA G (fun xs H Q => ∃ i j, xs = [.int i, .int j] ∧ Q (.int (if j > i then j else i)) H) max2 := by
  intro W H ι st ds vs Q s r h
  unfold max2 at h
  split at h
  · obtain ⟨_, _, rfl, rfl, _, _, rfl, rfl, rfl⟩ := r
    exact ⟨_, _, rfl, h.here s (v := .int _) rfl⟩
  · exact h.elim
def maxL : List Int → Int
  | [] => 0
  | [a] => a
  | a :: l => max a (maxL l)
def minL : List Int → Int
  | [] => 0
  | [a] => a
  | a :: l => min a (minL l)
theorem maxL_spec : ∀ {l : List Int}, l ≠ [] → maxL l ∈ l ∧ ∀ y ∈ l, y ≤ maxL l
  | [], h => absurd rfl h
  | [a], _ => by simp [maxL]
  | a :: b :: l, _ => by
    obtain ⟨h1, h2⟩ := maxL_spec (l := b :: l) (by simp)
    simp only [maxL]
    refine ⟨?_, fun y hy => ?_⟩
    · by_cases h : a ≤ maxL (b :: l)
      · rw [show max a (maxL (b :: l)) = maxL (b :: l) by omega]; exact List.mem_cons_of_mem _ h1
      · rw [show max a (maxL (b :: l)) = a by omega]; exact List.mem_cons_self
    · rcases List.mem_cons.mp hy with rfl | hy
      · omega
      · have := h2 y hy; omega
theorem minL_spec : ∀ {l : List Int}, l ≠ [] → minL l ∈ l ∧ ∀ y ∈ l, minL l ≤ y
  | [], h => absurd rfl h
  | [a], _ => by simp [minL]
  | a :: b :: l, _ => by
    obtain ⟨h1, h2⟩ := minL_spec (l := b :: l) (by simp)
    simp only [minL]
    refine ⟨?_, fun y hy => ?_⟩
    · by_cases h : a ≤ minL (b :: l)
      · rw [show min a (minL (b :: l)) = a by omega]; exact List.mem_cons_self
      · rw [show min a (minL (b :: l)) = minL (b :: l) by omega]; exact List.mem_cons_of_mem _ h1
    · rcases List.mem_cons.mp hy with rfl | hy
      · omega
      · have := h2 y hy; omega
def absR : Sto → D → Res D := fun st x => match x with
  | .int i => .ok (.int (if i < 0 then -i else i)) st
  | _ => .stuck
theorem br_abs : Br1L G (fun xs H Q => ∃ i, xs = [.int i] ∧ Q (.int (if i < 0 then -i else i)) H) absR := by
  intro W H ι st x v Q s rx h
  unfold absR at h
  split at h
  · cases rx; exact ⟨_, rfl, h.here s (v := .int _) rfl⟩
  · exact h.elim

/-! ### tuple(x), list(x), sorted of ints -/
def tupQ : Sto → List D → Res D := fun st ds => if ds.length ≤ sizeLine then .ok (.tup ds) st else .stuck
theorem brq_tup : BrQ G (fun xs H Q => ∃ p ys, xs = [.ref p] ∧ ((SqL G.K H p ys ∧ ∀ l, H l = none → Q (.ref l) (upd H l (.tup ys))) ∨ (SqT G.K H p ys ∧ Q (.ref p) H))) tupQ := by
  intro W H ι st ds a xs Q s q r h
  unfold tupQ at h
  split at h
  · refine ⟨a, xs, rfl, ?_⟩
    rcases q with q | q
    · exact .inl ⟨q, fun p hp => h _ _ ι (ext_new hp) (s.fresh hp) ⟨p, _, rfl, SqT.of upd_same, r.ext (ext_new hp) s.mut⟩⟩
    · exact .inr ⟨q, h.here s ⟨a, xs, rfl, q, r⟩⟩
  · exact h.elim
theorem brqt_list : BrQT G (fun xs H Q => ∃ p ys, xs = [.ref p] ∧ (SqL G.K H p ys ∨ SqT G.K H p ys) ∧ ∀ l, H l = none → Q (.ref l) (upd H l (.lst ys))) (fun _ ds => some ds) := by
  intro H ι st ds es a xs Q s q r e h
  cases e
  exact ⟨a, xs, rfl, q, fun p hp => h xs p r hp⟩
end
end OH

set_option Elab.async false
set_option linter.all false
set_option maxRecDepth 100000
set_option maxHeartbeats 1000000
/-! OHSeq: items, slices, stores, methods of lists, iterables. -/
namespace OH
open PySem PySem.Spec PyProof.Rows L2

section
variable {G : Gx} {X : Cx} {W : WX} {C : Call}
theorem RepL.len_eq {H : Hp} {ι : List Addr} {ds : List D} {xs : List V} (r : RepL G H ι ds xs) : xs.length = ds.length := r.length
theorem RepL.atI {H : Hp} {ι : List Addr} {ds : List D} {xs : List V} {k : Int} {d : D} (r : RepL G H ι ds xs) (h : L2.atI ds k = some d) : ∃ v, L2.atI xs k = some v ∧ Rep G H ι d v := by
  unfold L2.atI at h ⊢
  obtain ⟨j, h1, h2⟩ := Option.bind_eq_some_iff.mp h
  obtain ⟨v, q1, q2⟩ := r.get h2
  exact ⟨v, by rw [r.length, h1]; exact q1, q2⟩
/-! ### items -/
def ixR : Sto → D → D → Res D := fun st x y => match y with
  | .int k => match x with
    | .str z => if z.length ≤ sizeLine then (match L2.atI z.cps.toList k with | some c => .ok (.str ⟨#[c]⟩) st | none => .stuck) else .stuck
    | x => match items st x with
      | some ds => Res.of (L2.atI ds k) st
      | none => .stuck
  | _ => .stuck
theorem br_ix : Br2 G (rIx G.K) ixR := by
  intro W H ι st x y v u Q s rx ry h
  unfold ixR at h
  split at h
  · cases ry
    split at h
    · cases rx
      split at h
      · rename_i hz
        split at h
        · rename_i c e
          exact .inr (.inr ⟨_, _, c, rfl, rfl, hz, e, h.here s (v := .str _) rfl⟩)
        · exact h.elim
      · exact h.elim
    · split at h
      · rename_i ds e
        obtain ⟨a, xs, rfl, q, r⟩ := s.items e rx
        obtain ⟨d, e2, h⟩ := h.opt
        obtain ⟨w, e3, r2⟩ := r.atI e2
        rcases q with q | q
        · exact .inl ⟨a, xs, _, w, rfl, rfl, q, e3, h.here s r2⟩
        · exact .inr (.inl ⟨a, xs, _, w, rfl, rfl, q, e3, h.here s r2⟩)
      · exact h.elim
  · exact h.elim
theorem de_ix {a b : Expr} {ma mb : SE} {pos : Pos} (hK : X.K = G.K) (ha : DE G X W C a ma) (hb : DE G X W C b mb) (hs : PlainIx b := by exact fun _ _ => rfl) : DE G X W C (.Subscript a b pos) (eB2 ixR ma mb) := de_tOp (a := a) (b := b) (pe_ix ix_seq ha hb hs) (by rw [hK]; exact br_ix)
/-- the item of a list of one's own -/
def ixQ : Sto → List D → D → Res D := fun st ds y => match y with | .int k => Res.of (L2.atI ds k) st | _ => .stuck
def eIxQ (l : SL) (b : SE) : SE := fun C env st => (l C env st).bind fun ds st => (b C env st).bind fun y st => ixQ st ds y

/-! ### slices -/
theorem RepL.cut_ {H : Hp} {ι : List Addr} {ds : List D} {xs : List V} (r : RepL G H ι ds xs) (lo hi : Option Int) : RepL G H ι ((ds.drop (HT.sIx ds.length 0 lo)).take (HT.sIx ds.length ds.length hi - HT.sIx ds.length 0 lo)) (cutV xs lo hi) := by
  unfold cutV
  rw [r.length]
  exact (r.drop _).take _
def cutD (ds : List D) (lo hi : Option Int) : List D := (ds.drop (HT.sIx ds.length 0 lo)).take (HT.sIx ds.length ds.length hi - HT.sIx ds.length 0 lo)
/-- an end of a slice -/
abbrev SO := Call → Env → Sto → Res (Option Int)
def oNone : SO := fun _ _ st => .ok none st
def oSome (e : SE) : SO := fun C env st => (e C env st).bind fun x st => match x with | .int i => .ok (some i) st | _ => .stuck
def repO : Hp → Hp → List Addr → Option Int → Option Int → Prop := fun _ _ _ a b => b = a
def DO (G : Gx) (X : Cx) (W : WX) (C : Call) (e : Option Expr) (m : SO) : Prop := PO X e (rG G W C repO m)
theorem po_imp {e : Option Expr} {t t' : TO} (h : PO X e t) (k : ∀ σ H Q, t' σ H Q → t σ H Q) : PO X e t' := ⟨fun pins s σ H Q I q => h.run pins s σ H Q I (k σ H Q q)⟩
theorem do_none : DO G X W C none oNone := po_imp po_none fun σ H Q ⟨env, ι, st, hR, hp⟩ => hp.here hR.sto rfl
theorem do_some {e : Expr} {m : SE} (h : DE G X W C e m) : DO G X W C (some e) (oSome m) := po_imp (po_some h) fun σ H Q ⟨env, ι, st, hR, hp⟩ => sqE hR hp fun x st1 v H1 ι1 e1 hR1 r1 hp1 => by
  cases x with
  | int i => cases r1; exact ⟨i, rfl, hp1.here hR1.sto rfl⟩
  | _ => exact hp1.elim
def eSl (a : SE) (lo hi : SO) : SE := fun C env st => (a C env st).bind fun x st => (lo C env st).bind fun l st => (hi C env st).bind fun u st => match x with
  | .tup ds => .ok (.tup (cutD ds l u)) st
  | .ref i => match lstAt st i with | some ds => newL (cutD ds l u) st | none => .stuck
  | .scr ds => newL (cutD ds l u) st
  | _ => .stuck
theorem de_sl {e : Expr} {lo hi : Option Expr} {m : SE} {ml mu : SO} {pos p2 : Pos} (hK : X.K = G.K) (h : DE G X W C e m) (hl : DO G X W C lo ml) (hu : DO G X W C hi mu) : DE G X W C (.Subscript e (.Slice lo hi none p2) pos) (eSl m ml mu) :=
  pe_imp (pe_slice (sl_tupA.or sl_list) h hl hu) fun σ H Q ⟨env, ι, st, hR, hp⟩ => sqE hR hp fun x st1 v H1 ι1 e1 hR1 r1 hp1 => by
    refine rG.seq (rep := repO) hR1 hp1 fun l st2 l' H2 ι2 e2 hR2 rl hp2 => ?_
    cases rl
    refine rG.seq (rep := repO) hR2 hp2 fun u st3 u' H3 ι3 e3 hR3 ru hp3 => ?_
    cases ru
    have r3 := (r1.ext e2 hR1.sto.mut).ext e3 hR2.sto.mut
    cases x with
    | tup ds =>
      obtain ⟨a, xs, rfl, q, r⟩ := r3
      refine .inl ⟨a, xs, rfl, by rw [hK]; exact q, fun hw => ?_, fun hw p hp => ?_⟩
      · have hw' : cutD ds l u = ds := by
          unfold cutD
          rw [← r.length, hw.1, hw.2]
          simp [r.length]
        dsimp only at hp3
        rw [hw'] at hp3
        exact hp3.here hR3.sto ⟨a, xs, rfl, q, r⟩
      · exact hp3 _ _ ι3 (ext_new hp) (hR3.sto.fresh hp) ⟨p, _, rfl, SqT.of upd_same, (r.cut_ l u).ext (ext_new hp) hR3.sto.mut⟩
    | ref i =>
      dsimp only at hp3
      split at hp3
      · rename_i ds e
        obtain ⟨a, xs, k1, k2, k3⟩ := hR3.sto.lst e
        obtain ⟨_, k1', rfl⟩ := r3
        rw [k1] at k1'; cases k1'
        refine .inr ⟨a, xs, rfl, SqL.of k2, fun p hp => ?_⟩
        obtain ⟨n1, n2, n3⟩ := new_take hR3.sto hp (k3.cut_ l u)
        exact hp3 _ _ _ n1 n2 n3
      · exact hp3.elim
    | scr ds =>
      obtain ⟨a, xs, rfl, q, r⟩ := r3
      refine .inr ⟨a, xs, rfl, by rw [hK]; exact q.sq, fun p hp => ?_⟩
      obtain ⟨n1, n2, n3⟩ := new_take hR3.sto hp (r.cut_ l u)
      exact hp3 _ _ _ n1 n2 n3
    | _ => exact hp3.elim

/-! ### stores into lists -/
def putL : Sto → D → D → D → Option Sto := fun st o i v => match o, i with
  | .ref a, .int k => match lstAt st a with
    | some ds => (L2.ixN ds.length k).map fun j => st.set a (.lst (ds.set j v))
    | none => none
  | _, _ => none
theorem br_putL : BrSet G rSetL putL := by
  intro H ι st st' o i v ov iv vv Q s ro ri rv e h
  unfold putL at e
  split at e
  · rename_i a k
    split at e
    · rename_i ds ea
      obtain ⟨j, ej, rfl⟩ := Option.map_eq_some_iff.mp e
      obtain ⟨p, xs, k1, k2, k3⟩ := s.lst ea
      obtain ⟨_, k1', rfl⟩ := ro
      rw [k1] at k1'; cases k1'
      cases ri
      refine ⟨p, xs, k, j, rfl, rfl, k2, by rw [k3.length]; exact ej, ?_⟩
      have hp := List.mem_of_getElem? k1
      exact h _ ι (ext_write hp (nlk_lst k2)) (s.write k1 ⟨_, upd_same, (k3.set j rv).write s hp (nlk_lst k2)⟩)
    · cases e
  · cases e
/-- a method that changes its list -/
def BrM (G : Gx) (r : V → List V → Hp → VK → Prop) (g : Sto → D → List D → Res D) : Prop := ∀ (W : Value → Option Addr → Hp → Prop) (H : Hp) (ι : List Addr) (st : Sto) (x : D) (ds : List D) (v : V) (vs : List V) (Q : VK), StoRep G H ι st → Rep G H ι x v → RepL G H ι ds vs → post G (Rep G) W H ι Q (g st x ds) → r v vs H Q
def isLst (st : Sto) : D → Bool
  | .ref i => (lstAt st i).isSome
  | _ => false
def eM (g : Sto → D → List D → Res D) (o : SE) (l : SL) : SE := fun C env st => (o C env st).bind fun x st => if isLst st x then (l C env st).bind fun ds st => g st x ds else .stuck
theorem tyV_lst {H : Hp} {ι : List Addr} {st : Sto} {x : D} {v : V} (s : StoRep G H ι st) (r : Rep G H ι x v) (h : isLst st x = true) : tyV G.K "list" v H := by
  cases x with
  | ref i =>
    simp only [isLst] at h
    obtain ⟨ds, e⟩ := Option.isSome_iff_exists.mp h
    obtain ⟨a, xs, k1, k2, k3⟩ := s.lst e
    obtain ⟨_, k1', rfl⟩ := r
    rw [k1] at k1'; cases k1'
    exact .inl ⟨rfl, xs, SqL.of k2⟩
  | _ => cases h
theorem de_m {e : Expr} {r : V → List V → Hp → VK → Prop} {g : Sto → D → List D → Res D} {m : SE} {l : SL} (hK : X.K = G.K) (h : PE X e (tBM X.K "list" r (tE G W C m) (tA G W C l))) (br : BrM G r g) : DE G X W C e (eM g m l) :=
  pe_imp h fun σ H Q ⟨env, ι, st, hR, hp⟩ => sqE hR hp fun x st1 v H1 ι1 e1 hR1 r1 hp1 => by
    split at hp1
    · rename_i hl
      refine ⟨by rw [hK]; exact tyV_lst hR1.sto r1 hl, sqA hR1 hp1 fun ds st2 vs H2 ι2 e2 hR2 r2 hp2 => br _ H2 ι2 st2 x ds v vs Q hR2.sto (r1.ext e2 hR1.sto.mut) r2 hp2⟩
    · exact hp1.elim
def eM0 (g : Sto → D → List D → Res D) (o : SE) : SE := fun C env st => (o C env st).bind fun x st => if isLst st x then g st x [] else .stuck
theorem de_m0 {e : Expr} {r : V → List V → Hp → VK → Prop} {g : Sto → D → List D → Res D} {m : SE} (hK : X.K = G.K) (h : PE X e (tBM0 X.K "list" r (tE G W C m))) (br : BrM G r g) : DE G X W C e (eM0 g m) :=
  pe_imp h fun σ H Q ⟨env, ι, st, hR, hp⟩ => sqE hR hp fun x st1 v H1 ι1 e1 hR1 r1 hp1 => by
    split at hp1
    · rename_i hl
      exact ⟨by rw [hK]; exact tyV_lst hR1.sto r1 hl, br _ H1 ι1 st1 x [] v [] Q hR1.sto r1 rfl hp1⟩
    · exact hp1.elim
/-- the list changes to f of it, the answer beside -/
def mutL (f : List D → Option (List D × D)) (st : Sto) (x : D) : Res D := match x with
  | .ref i => match lstAt st i with
    | some ds => match f ds with
      | some (es, d) => .ok d (st.set i (.lst es))
      | none => .stuck
    | none => .stuck
  | _ => .stuck
theorem mutL_rep {W : Value → Option Addr → Hp → Prop} {H : Hp} {ι : List Addr} {st : Sto} {f : List D → Option (List D × D)} {x : D} {v : V} {Q : VK} (s : StoRep G H ι st) (r : Rep G H ι x v) (h : post G (Rep G) W H ι Q (mutL f st x)) :
    ∃ a ds xs es d, v = .ref a ∧ H a = some (.lst xs) ∧ RepL G H ι ds xs ∧ f ds = some (es, d) ∧ ∀ ys w, RepL G H ι es ys → Rep G H ι d w → Q w (upd H a (.lst ys)) := by
  unfold mutL at h
  split at h
  · rename_i i
    split at h
    · rename_i ds e
      split at h
      · rename_i es d ef
        obtain ⟨a, xs, k1, k2, k3⟩ := s.lst e
        obtain ⟨_, k1', rfl⟩ := r
        rw [k1] at k1'; cases k1'
        have hp := List.mem_of_getElem? k1
        exact ⟨a, ds, xs, es, d, rfl, k2, k3, ef, fun ys w ry rw_ => h w _ ι (ext_write hp (nlk_lst k2)) (s.write k1 ⟨ys, upd_same, ry.write s hp (nlk_lst k2)⟩) (rw_.ext (ext_write hp (nlk_lst k2)) s.mut)⟩
      · exact h.elim
    · exact h.elim
  · exact h.elim
def appendR : Sto → D → List D → Res D := fun st x ds => match ds with
  | [y] => mutL (fun xs => if xs.length < sizeLine then some (xs ++ [y], .non) else none) st x
  | _ => .stuck
theorem brm_append : BrM G rAppend appendR := by
  intro W H ι st x ds v vs Q s rx rv h
  unfold appendR at h
  split at h
  · obtain ⟨y, _, rfl, ry, rfl⟩ := rv
    obtain ⟨a, ds, xs, es, d, rfl, h1, h2, h3, h4⟩ := mutL_rep s rx h
    split at h3
    · rename_i hz
      cases h3
      exact ⟨a, xs, y, rfl, rfl, h1, by rw [h2.length]; exact hz, h4 _ .non (h2.app (RepL.one ry)) rfl⟩
    · cases h3
  · exact h.elim
noncomputable def insOk (i : Int) (n : Nat) : Bool := tsd (n < sizeLine ∧ 0 ≤ i ∧ i < 2 ^ 63)
noncomputable def popOk (i : Int) : Bool := tsd (-(2 ^ 63) ≤ i ∧ i < 2 ^ 63)
theorem insOk_iff {i : Int} {n : Nat} (h : insOk i n = true) : n < sizeLine ∧ 0 ≤ i ∧ i < 2 ^ 63 := tsd_of h
theorem popOk_iff {i : Int} (h : popOk i = true) : -(2 ^ 63) ≤ i ∧ i < 2 ^ 63 := tsd_of h
noncomputable def insertR : Sto → D → List D → Res D := fun st x ds => match ds with
  | [.int i, y] => mutL (fun xs => if insOk i xs.length then some (xs.take i.toNat ++ [y] ++ xs.drop i.toNat, .non) else none) st x
  | _ => .stuck
theorem brm_insert : BrM G (fun x vs H Q => ∃ (l : Addr) (xs : List V) (i : Int) (y : V), x = .ref l ∧ vs = [.int i, y] ∧ H l = some (.lst xs) ∧ xs.length < sizeLine ∧ 0 ≤ i ∧ i < 2 ^ 63 ∧ Q .non (upd H l (.lst (xs.take i.toNat ++ [y] ++ xs.drop i.toNat)))) insertR := by
  intro W H ι st x ds v vs Q s rx rv h
  unfold insertR at h
  split at h
  · obtain ⟨_, _, rfl, rfl, y, _, rfl, ry, rfl⟩ := rv
    obtain ⟨a, ds, xs, es, d, rfl, h1, h2, h3, h4⟩ := mutL_rep s rx h
    split at h3
    · rename_i hz
      have hz := insOk_iff hz
      cases h3
      exact ⟨a, xs, _, y, rfl, rfl, h1, by rw [h2.length]; exact hz.1, hz.2.1, hz.2.2, h4 _ .non (((h2.take _).app (RepL.one ry)).app (h2.drop _)) rfl⟩
    · cases h3
  · exact h.elim
def pop0R : Sto → D → List D → Res D := fun st x ds => match ds with
  | [] => mutL (fun xs => (xs[xs.length - 1]?).map fun y => (xs.dropLast, y)) st x
  | _ => .stuck
noncomputable def popAtR : Sto → D → List D → Res D := fun st x ds => match ds with
  | [.int i] => mutL (fun xs => if popOk i then (L2.ixN xs.length i).bind fun k => (xs[k]?).map fun y => (xs.eraseIdx k, y) else none) st x
  | _ => .stuck
theorem RepL.dropLast {H : Hp} {ι : List Addr} {ds : List D} {xs : List V} (r : RepL G H ι ds xs) : RepL G H ι ds.dropLast xs.dropLast := by
  rw [List.dropLast_eq_take, List.dropLast_eq_take, r.length]; exact r.take _
theorem RepL.erase {H : Hp} {ι : List Addr} {ds : List D} {xs : List V} (r : RepL G H ι ds xs) (k : Nat) : RepL G H ι (ds.eraseIdx k) (xs.eraseIdx k) := by
  rw [List.eraseIdx_eq_take_drop_succ, List.eraseIdx_eq_take_drop_succ]
  exact (r.take k).app (r.drop (k + 1))
theorem brm_pop0 : BrM G rPop pop0R := by
  intro W H ι st x ds v vs Q s rx rv h
  unfold pop0R at h
  split at h
  · cases rv
    obtain ⟨a, ds, xs, es, d, rfl, h1, h2, h3, h4⟩ := mutL_rep s rx h
    obtain ⟨y, e, z⟩ := Option.map_eq_some_iff.mp h3
    cases z
    obtain ⟨w, e2, rw_⟩ := h2.get e
    exact ⟨a, xs, w, rfl, rfl, h1, by rw [h2.length]; exact e2, h4 _ w h2.dropLast rw_⟩
  · exact h.elim
theorem brm_popAt : BrM G rPopAt popAtR := by
  intro W H ι st x ds v vs Q s rx rv h
  unfold popAtR at h
  split at h
  · obtain ⟨_, _, rfl, rfl, rfl⟩ := rv
    obtain ⟨a, ds, xs, es, d, rfl, h1, h2, h3, h4⟩ := mutL_rep s rx h
    split at h3
    · rename_i hz
      have hz := popOk_iff hz
      obtain ⟨k, ek, e3⟩ := Option.bind_eq_some_iff.mp h3
      obtain ⟨y, e, z⟩ := Option.map_eq_some_iff.mp e3
      cases z
      obtain ⟨w, e2, rw_⟩ := h2.get e
      exact ⟨a, xs, _, k, w, rfl, rfl, h1, hz.1, hz.2, by rw [h2.length]; exact (ixN_seq ek).1, e2, h4 _ w (h2.erase k) rw_⟩
    · cases h3
  · exact h.elim
def extendR : Sto → D → List D → Res D := fun st x ds => match ds with
  | [.ref j] => match lstAt st j with
    | some zs => mutL (fun xs => if xs.length + zs.length ≤ sizeLine then some (xs ++ zs, .non) else none) st x
    | none => .stuck
  | _ => .stuck
theorem brm_extend : BrM G rExtend extendR := by
  intro W H ι st x ds v vs Q s rx rv h
  unfold extendR at h
  split at h
  · obtain ⟨y, _, rfl, ⟨b, eb, rfl⟩, rfl⟩ := rv
    split at h
    · rename_i zs ez
      obtain ⟨b', us, k1, k2, k3⟩ := s.lst ez
      rw [eb] at k1; cases k1
      obtain ⟨a, ds, xs, es, d, rfl, h1, h2, h3, h4⟩ := mutL_rep s rx h
      split at h3
      · rename_i hz
        cases h3
        exact ⟨a, b, xs, us, rfl, rfl, h1, k2, by rw [h2.length, k3.length]; exact hz, h4 _ .non (h2.app k3) rfl⟩
      · cases h3
    · exact h.elim
  · exact h.elim

/-! ### iterables -/
noncomputable def rngI (j : Int) : Bool := tsd (-(2 ^ 62) ≤ j ∧ j < 2 ^ 62)
noncomputable def siR1 (l : SL) : SI := fun C env st => (l C env st).bind fun ds st => match ds with
  | [.int j] => if rngI j then .ok ⟨(List.range j.toNat).map fun (i : Nat) => D.int (i : Int), []⟩ st else .stuck
  | _ => .stuck
noncomputable def siR2 (l : SL) : SI := fun C env st => (l C env st).bind fun ds st => match ds with
  | [.int i, .int j] => if rngI i && rngI j then .ok ⟨(List.range (j - i).toNat).map fun (k : Nat) => D.int (i + (k : Int)), []⟩ st else .stuck
  | _ => .stuck
theorem range_rep {H0 H : Hp} {ι : List Addr} (lo : Int) (n : Nat) : repW G H0 H ι ⟨(List.range n).map fun (k : Nat) => D.int (lo + (k : Int)), []⟩ (Itr lo n) := by
  intro H2 ι2 st2 e2 s2 _
  refine ⟨fun i d h => ?_, fun i h => ?_⟩
  · rw [List.getElem?_map] at h
    obtain ⟨k, hk, rfl⟩ := Option.map_eq_some_iff.mp h
    obtain ⟨hi, e⟩ := List.getElem?_eq_some_iff.mp hk
    simp at e hi
    subst e
    refine ⟨hi, fun x H3 hy => ?_⟩
    obtain ⟨rfl, rfl⟩ := hy
    exact ⟨Ext.refl _ _, s2, rfl⟩
  · have : n ≤ i := by simpa using h
    exact this
theorem di_r1 {tg e : Expr} {l : SL} (h : PI X tg e (iRng1 (tA G W C l))) : DI G X W C tg e (siR1 l) := pi_imp h fun σ H Q ⟨env, ι, st, hR, hp⟩ => sqA hR hp fun ds st1 vs H1 ι1 e1 hR1 r1 hp1 => by
  split at hp1
  · obtain ⟨_, _, rfl, rfl, rfl⟩ := r1
    split at hp1
    · rename_i j hz
      refine ⟨j, rfl, (tsd_of hz).1, (tsd_of hz).2, ?_⟩
      have q := range_rep (G := G) (H0 := H) (H := H1) (ι := ι1) 0 j.toNat
      simp only [Int.zero_add] at q
      exact hp1.here hR1.sto q
    · exact hp1.elim
  · exact hp1.elim
theorem di_r2 {tg e : Expr} {l : SL} (h : PI X tg e (iRng2 (tA G W C l))) : DI G X W C tg e (siR2 l) := pi_imp h fun σ H Q ⟨env, ι, st, hR, hp⟩ => sqA hR hp fun ds st1 vs H1 ι1 e1 hR1 r1 hp1 => by
  split at hp1
  · obtain ⟨_, _, rfl, rfl, _, _, rfl, rfl, rfl⟩ := r1
    split at hp1
    · rename_i i j hz
      have hz1 := tsd_of (Bool.and_eq_true_iff.mp hz).1
      have hz2 := tsd_of (Bool.and_eq_true_iff.mp hz).2
      exact ⟨i, j, rfl, ⟨hz1.1, hz1.2, hz2.1, hz2.2⟩, hp1.here hR1.sto (range_rep i (j - i).toNat)⟩
    · exact hp1.elim
  · exact hp1.elim
/-- over a tuple or list -/
theorem pi_seqG {tg l : Expr} {tl : TE} (hl : PE X l tl) : PI X tg l (fun σ H R => tl σ H fun x H1 => ∃ a, x = .ref a ∧ (((∃ xs, SqL X.K H1 a xs) ∧ R (Itl X.K a) H1) ∨ ((∃ xs, SqT X.K H1 a xs) ∧ R (Itt X.K a) H1))) := by
  refine ⟨fun pins s σ H R I h => ?_⟩
  refine thn (hl.run pins s σ H _ I h) fun v s1 ⟨x, H1, I1, r1, q1⟩ => ?_
  obtain ⟨a, e, q⟩ := q1
  subst e
  rcases q with ⟨⟨xs, hq⟩, q⟩ | ⟨⟨xs, hq⟩, q⟩
  · cases r1
    obtain ⟨its, rv, p, hz⟩ := I1.list hq
    refine wpAny_pyIter_list p.isList ?_
    refine ⟨s1.heap.objs.size, [s1.heap.objs.size], _, _, H1, rfl, I1.kept (t' := s1.toks) fun b o e => Heap.get?_push_of_some _ e, turn_list a _, ⟨_, Heap.get?_push_size _ rfl, rfl, rfl⟩, fun b hb => ?_, q⟩
    have e : b = s1.heap.objs.size := by simpa using hb
    subst e
    exact I1.fpOk (Nat.le_refl _) (I1.hok.fresh (Nat.le_refl _))
  · cases r1
    obtain ⟨its, rv, p, hz⟩ := I1.tuple hq
    refine wpAny_pyIter_tuple (show s1.heap.IsTuple a its.toArray from p) ?_
    refine ⟨s1.heap.objs.size, [s1.heap.objs.size], _, _, H1, rfl, I1.kept (t' := s1.toks) fun b o e => Heap.get?_push_of_some _ e, turn_tuple a _, ⟨_, Heap.get?_push_size _ rfl, rfl, rfl⟩, fun b hb => ?_, q⟩
    have e : b = s1.heap.objs.size := by simpa using hb
    subst e
    exact I1.fpOk (Nat.le_refl _) (I1.hok.fresh (Nat.le_refl _))
def siOf (m : SE) : SI := fun C env st => (m C env st).bind fun x st => match x with
  | .tup ds => .ok ⟨ds, []⟩ st
  | .scr ds => .ok ⟨ds, []⟩ st
  | .ref i => match lstAt st i with | some ds => .ok ⟨ds, [(i, ds)]⟩ st | none => .stuck
  | _ => .stuck
/-- an iterator over a list that is surely there -/
theorem itl_rep {K : PySem.W.Frag} {H : Hp} {ι : List Addr} {st : Sto} {a : Addr} {ds : List D} {xs : List V} (s : StoRep G H ι st) (hq : SqL K H a xs) (r : RepL G H ι ds xs) : (∀ (i : Nat) (d : D), ds[i]? = some d → (Itl K a).go i H ∧ ∀ x H3, (Itl K a).yld i H x H3 → Ext H ι H3 ι ∧ StoRep G H3 ι st ∧ Rep G H3 ι d x) ∧ ∀ i, ds.length ≤ i → (Itl K a).stop i H := by
  refine ⟨fun i d h => ?_, fun i h => ⟨xs, hq, by rw [r.length]; exact h⟩⟩
  obtain ⟨v, h1, h2⟩ := r.get h
  refine ⟨⟨xs, v, hq, h1⟩, fun x H3 ⟨e, hy⟩ => ?_⟩
  subst e
  have := hy xs hq
  rw [h1] at this; cases this
  exact ⟨Ext.refl _ _, s, h2⟩
theorem itt_rep {K : PySem.W.Frag} {H : Hp} {ι : List Addr} {st : Sto} {a : Addr} {ds : List D} {xs : List V} (s : StoRep G H ι st) (hq : SqT K H a xs) (r : RepL G H ι ds xs) : (∀ (i : Nat) (d : D), ds[i]? = some d → (Itt K a).go i H ∧ ∀ x H3, (Itt K a).yld i H x H3 → Ext H ι H3 ι ∧ StoRep G H3 ι st ∧ Rep G H3 ι d x) ∧ ∀ i, ds.length ≤ i → (Itt K a).stop i H := by
  refine ⟨fun i d h => ?_, fun i h => ⟨xs, hq, by rw [r.length]; exact h⟩⟩
  obtain ⟨v, h1, h2⟩ := r.get h
  refine ⟨⟨xs, v, hq, h1⟩, fun x H3 ⟨e, hy⟩ => ?_⟩
  subst e
  have := hy xs hq
  rw [h1] at this; cases this
  exact ⟨Ext.refl _ _, s, h2⟩
theorem di_of {tg e : Expr} {m : SE} (hK : X.K = G.K) (h : DE G X W C e m) : DI G X W C tg e (siOf m) := pi_imp (pi_seqG h) fun σ H Q ⟨env, ι, st, hR, hp⟩ => sqE hR hp fun x st1 v H1 ι1 e1 hR1 r1 hp1 => by
  rw [hK]
  cases x with
  | tup ds =>
    obtain ⟨a, xs, rfl, q, r⟩ := r1
    refine ⟨a, rfl, .inr ⟨⟨xs, q⟩, hp1.here hR1.sto ?_⟩⟩
    exact fun H2 ι2 st2 e2 s2 _ => itt_rep s2 (SqT.ext e2 hR1.sto.mut q) (r.ext e2 hR1.sto.mut)
  | scr ds =>
    obtain ⟨a, xs, rfl, q, r⟩ := r1
    refine ⟨a, rfl, .inl ⟨⟨xs, q.sq⟩, hp1.here hR1.sto ?_⟩⟩
    exact fun H2 ι2 st2 e2 s2 _ => itl_rep s2 (SqF.ext e2 hR1.sto.mut q).sq (r.ext e2 hR1.sto.mut)
  | ref i =>
    dsimp only at hp1
    split at hp1
    · rename_i ds e
      obtain ⟨a, xs, k1, k2, k3⟩ := hR1.sto.lst e
      obtain ⟨_, k1', rfl⟩ := r1
      rw [k1] at k1'; cases k1'
      refine ⟨a, rfl, .inl ⟨⟨xs, SqL.of k2⟩, hp1.here hR1.sto ?_⟩⟩
      intro H2 ι2 st2 e2 s2 hg
      have hl : lstAt st2 i = some ds := by
        unfold good at hg
        simp only [List.all_cons, List.all_nil, Bool.and_true, decide_eq_true_eq] at hg
        exact hg
      obtain ⟨a2, xs2, j1, j2, j3⟩ := s2.lst hl
      rw [e2.get k1] at j1; cases j1
      exact itl_rep s2 (SqL.of j2) j3
    · exact hp1.elim
  | _ => exact hp1.elim
/-- over a list of one's own -/
def siT (l : SL) : SI := fun C env st => (l C env st).bind fun ds st => .ok ⟨ds, []⟩ st
theorem di_tmp {tg e : Expr} {l : SL} (hK : X.K = G.K) (h : DT G X W C e l) : DI G X W C tg e (siT l) := pi_imp (pi_seqG h) fun σ H Q ⟨env, ι, st, hR, hp⟩ => by
  refine rG.seq (rep := repT G) hR hp fun ds st1 v H1 ι1 e1 hR1 ⟨a, xs, ev, h1, h2, h3, h4⟩ hp1 => ?_
  subst ev
  rw [hK]
  refine ⟨a, rfl, .inl ⟨⟨xs, SqL.of h1⟩, hp1.here hR1.sto ?_⟩⟩
  exact fun H2 ι2 st2 e2 s2 _ => itl_rep s2 (SqL.of (e2.keep a _ h1 h2)) (h4.ext e2 hR1.sto.mut)
end
end OH

set_option Elab.async false
set_option linter.all false
set_option maxRecDepth 100000
set_option maxHeartbeats 1000000
/-! OHLast: small rules in the form in which they are printed. -/
namespace OH
open PySem PySem.Spec PyProof.Rows L2
section
variable {G : Gx} {X : Cx} {W : WX} {C : Call}
theorem takesF {X : Cx} : Takes X WF := fun u s' ⟨_, _, _, _, _, _, _, _, _, _, _, _, _, _, _, _, w⟩ => w.elim
theorem de_globI {x : Str} {n : Int} {t : Tok} {pos : Pos} (hg : Gl X x) (hm : X.mg x = some (.int n t)) (hd : (x == ("__debug__" : Str)) = false := by decide) : DE G X W C (.Name x pos) (eC (.int n)) :=
  de_glob (pe_glob (v := .int n) hg hm ⟨t, rfl⟩ hd) fun _ _ => rfl
/-- the names of built-ins that the text has not bound -/
def Bl (mg : Str → Option Value) (x : Str) : Prop := mg x = none
theorem de_len {e : Expr} {m : SE} (hK : X.K = G.K) (h : PE X e (tCB (rLen X.K) (tCons (tE G W C m) tNil))) : DE G X W C e (eU1 lenR m) := de_c1 h (by rw [hK]; exact br_len)
theorem de_lenQ {e : Expr} {l : SL} (hK : X.K = G.K) (h : PE X e (tCB (rLen X.K) (tCons (tS G W C l) tNil))) : DE G X W C e (eA (fun st ds => .ok (.int ds.length) st) l) := de_cQ h (by rw [hK]; exact brq_len)
theorem de_sum {e : Expr} {l : SL} (hK : X.K = G.K) (h : PE X e (tCB (rSumA X.K) (tCons (tS G W C l) tNil))) : DE G X W C e (eA sumQ l) := de_cQ h (by rw [hK]; exact brq_sum)
theorem de_tupQ {e : Expr} {l : SL} (hK : X.K = G.K) (h : PE X e (tCB (fun xs H Q => ∃ p ys, xs = [.ref p] ∧ ((SqL X.K H p ys ∧ ∀ l, H l = none → Q (.ref l) (upd H l (.tup ys))) ∨ (SqT X.K H p ys ∧ Q (.ref p) H))) (tCons (tS G W C l) tNil))) : DE G X W C e (eA tupQ l) := de_cQ h (by rw [hK]; exact brq_tup)
theorem dt_list {e : Expr} {l : SL} (hK : X.K = G.K) (h : PE X e (tCB (fun xs H Q => ∃ p ys, xs = [.ref p] ∧ (SqL X.K H p ys ∨ SqT X.K H p ys) ∧ ∀ l, H l = none → Q (.ref l) (upd H l (.lst ys))) (tCons (tS G W C l) tNil))) : DT G X W C e (lMap (fun _ ds => some ds) l) := dt_cQ h (by rw [hK]; exact brqt_list)
theorem hu64 {k : Nat} {A : Around} (hr : Room k A) : A.units + 64 < cLine := hr.units
end
end OH

set_option Elab.async false
set_option linter.all false
set_option maxRecDepth 100000
set_option maxHeartbeats 1000000
/-! OHMore: order of data, membership, errors raised, more built-ins. -/
namespace OH
open PySem PySem.Spec PyProof.Rows L2

/-! ### order -/
inductive O4 where | lt | le | gt | ge
  deriving DecidableEq
def O4.op : O4 → CmpOp
  | .lt => .Lt | .le => .LtE | .gt => .Gt | .ge => .GtE
def O4.i : O4 → Int → Int → Bool
  | .lt, a, b => decide (a < b) | .le, a, b => decide (a ≤ b) | .gt, a, b => decide (b < a) | .ge, a, b => decide (b ≤ a)
def O4.n : O4 → Nat → Nat → Bool
  | .lt, a, b => decide (a < b) | .le, a, b => decide (a ≤ b) | .gt, a, b => decide (a > b) | .ge, a, b => decide (a ≥ b)
def O4.s : O4 → Str → Str → Bool
  | .lt, a, b => decide (a.cps.toList < b.cps.toList) | .le, a, b => !decide (b.cps.toList < a.cps.toList) | .gt, a, b => decide (b.cps.toList < a.cps.toList) | .ge, a, b => !decide (a.cps.toList < b.cps.toList)
/-- equal as data, both without lists -/
def eqP (x y : D) : Option Bool := (datP (fun _ => none) x).bind fun d => (datP (fun _ => none) y).bind fun e => if SeqAt.shaped d = true ∧ SeqAt.shaped e = true then some (PyData.eqv d e) else none
def lexD (eq ord : D → D → Option Bool) (z : Nat → Nat → Bool) : List D → List D → Option Bool
  | a :: as, b :: bs => (eq a b).bind fun e => (if e then some true else ord a b).bind fun r => (lexD eq ord z as bs).map fun t => if e then t else r
  | as, bs => some (z as.length bs.length)
def ordN (o : O4) : Nat → D → D → Option Bool
  | _, .int i, .int j => some (o.i i j)
  | _, .str x, .str y => some (o.s x y)
  | n + 1, .tup as, .tup bs => lexD eqP (ordN o n) o.n as bs
  | _, _, _ => none
def ltD : Sto → D → D → Option Bool := fun _ => ordN .lt 4
def leD : Sto → D → D → Option Bool := fun _ => ordN .le 4
def gtD : Sto → D → D → Option Bool := fun _ => ordN .gt 4
def geD : Sto → D → D → Option Bool := fun _ => ordN .ge 4
theorem lexAt_shift (e r : Nat → Bool) (z : Bool) : ∀ (k i : Nat), Ob.lexAt e r z (i + 1) k = Ob.lexAt (fun j => e (j + 1)) (fun j => r (j + 1)) z i k
  | 0, i => rfl
  | k + 1, i => by
    rw [Ob.lexAt_succ, Ob.lexAt_succ]
    rw [lexAt_shift e r z k (i + 1)]
theorem rc_tup {A : Around} {s : Shared} (o : O4) {l b : Addr} {items items2 : Array Value} {e r : Nat → Bool} (hl : s.heap.IsTuple l items) (hb : s.heap.IsTuple b items2) (hu : A.units < cLine)
    (he : ∀ j (h1 : j < items.size) (h2 : j < items2.size), SeqAt.EqAt A.in1 s items[j] items2[j] (e j))
    (hr : ∀ j (h1 : j < items.size) (h2 : j < items2.size), e j = false → Ob.RcOp o.op A.in1 s items[j] items2[j] (r j)) :
    Ob.RcOp o.op A s (.ref l) (.ref b) (Ob.lexAt e r (o.n items.size items2.size) 0 (min items.size items2.size)) := by
  cases o with
  | lt => exact Ob.RcOp.tuples_lt hl hb hu he hr
  | le => exact Ob.RcOp.tuples_le hl hb hu he hr
  | gt => exact Ob.RcOp.tuples_gt hl hb hu he hr
  | ge => exact Ob.RcOp.tuples_ge hl hb hu he hr
theorem rc_int {A : Around} {s : Shared} (o : O4) (a b : Int) (t u : Tok) : Ob.RcOp o.op A s (.int a t) (.int b u) (o.i a b) := by
  cases o with
  | lt => exact Ob.RcOp.lt_int a b t u
  | le => exact Ob.RcOp.le_int a b t u
  | gt => exact Ob.RcOp.gt_int a b t u
  | ge => exact Ob.RcOp.ge_int a b t u
theorem rc_str {A : Around} {s : Shared} (o : O4) (a b : Str) (t u : Tok) : Ob.RcOp o.op A s (.str a t) (.str b u) (o.s a b) := fun prog w E Q h => by
  cases o with
  | lt => exact PyProof.Rows.lt_str h
  | le => exact PySem.P.le_str h
  | gt => exact PySem.P.gt_str h
  | ge => exact PySem.P.ge_str h
theorem lexD_at {eq ord : D → D → Option Bool} {z : Nat → Nat → Bool} (hz : ∀ a b, z (a + 1) (b + 1) = z a b) : ∀ {as bs : List D} {k : Bool}, lexD eq ord z as bs = some k →
    ∃ e r : Nat → Bool, (∀ (j : Nat) (x y : D), as[j]? = some x → bs[j]? = some y → eq x y = some (e j) ∧ (e j = false → ord x y = some (r j))) ∧ Ob.lexAt e r (z as.length bs.length) 0 (min as.length bs.length) = k
  | [], bs, k, h => by
    simp only [lexD] at h
    cases h
    exact ⟨fun _ => true, fun _ => true, fun j x y h => by simp at h, by simp [Ob.lexAt]⟩
  | a :: as, [], k, h => by
    simp only [lexD] at h
    cases h
    exact ⟨fun _ => true, fun _ => true, fun j x y h h' => by simp at h', by simp [Ob.lexAt]⟩
  | a :: as, b :: bs, k, h => by
    simp only [lexD] at h
    obtain ⟨e0, h1, h2⟩ := Option.bind_eq_some_iff.mp h
    obtain ⟨r0, h3, h4⟩ := Option.bind_eq_some_iff.mp h2
    obtain ⟨t, h5, rfl⟩ := Option.map_eq_some_iff.mp h4
    obtain ⟨e, r, q1, q2⟩ := lexD_at hz h5
    refine ⟨fun j => match j with | 0 => e0 | j + 1 => e j, fun j => match j with | 0 => r0 | j + 1 => r j, fun j x y hx hy => ?_, ?_⟩
    · cases j with
      | zero =>
        simp at hx hy
        subst hx; subst hy
        refine ⟨h1, fun z => ?_⟩
        have z : e0 = false := z
        rw [z] at h3
        simpa using h3
      | succ j =>
        simp at hx hy
        exact q1 j x y hx hy
    · have hm : min (a :: as).length (b :: bs).length = min as.length bs.length + 1 := by simp [Nat.succ_min_succ]
      rw [hm, Ob.lexAt_succ, lexAt_shift]
      simp only [List.length_cons, hz]
      rw [q2]
theorem eqP_at {G : Gx} {X : Cx} {pins : List (Addr × Obj)} {σ : L2.St} {H : Hp} {s : Shared} {ι : List Addr} {st : Sto} (hK : X.K = G.K) (I : L2.Inv X pins σ H s) (sr : StoRep G H ι st) {A : Around} (hu : A.units + 64 < cLine) {x y : D} {v u : V} {v' u' : Value} {k : Bool}
    (rx : Rep G H ι x v) (ry : Rep G H ι y u) (rv : RelV v v') (ru : RelV u u') (h : eqP x y = some k) : SeqAt.EqAt A s v' u' k := by
  unfold eqP at h
  obtain ⟨d, h1, h2⟩ := Option.bind_eq_some_iff.mp h
  obtain ⟨e, h3, h4⟩ := Option.bind_eq_some_iff.mp h2
  split at h4
  · rename_i hs
    cases h4
    have d1 : Dp X.K H v d := by rw [hK]; exact datP_rep (fun _ _ _ z => by cases z) rx h1
    have d2 : Dp X.K H u e := by rw [hK]; exact datP_rep (fun _ _ _ z => by cases z) ry h3
    obtain ⟨as, r1⟩ := Dp.reads I d v v' d1 rv
    obtain ⟨bs, r2⟩ := Dp.reads I e u u' d2 ru
    exact SeqAt.eqAt_reads d e A s v' u' as bs r1 r2 (SeqAt.canLay_of_shaped hs.1) (SeqAt.canLay_of_shaped hs.2) (SeqAt.room_of_shaped hs.1 hu)
  · cases h4
theorem ordN_rc {G : Gx} {X : Cx} {pins : List (Addr × Obj)} {σ : L2.St} {H : Hp} {s : Shared} {ι : List Addr} {st : Sto} (hK : X.K = G.K) (I : L2.Inv X pins σ H s) (sr : StoRep G H ι st) (o : O4) : ∀ (n : Nat) {A : Around}, A.units + n + 65 < cLine → ∀ {x y : D} {v u : V} {v' u' : Value} {k : Bool},
    Rep G H ι x v → Rep G H ι y u → RelV v v' → RelV u u' → ordN o n x y = some k → Ob.RcOp o.op A s v' u' k := by
  intro n
  induction n with
  | zero =>
    intro A hu x y v u v' u' k rx ry rv ru h
    unfold ordN at h
    split at h
    · cases h; cases rx; cases ry
      obtain ⟨t, rfl⟩ := rv
      obtain ⟨t', rfl⟩ := ru
      exact rc_int o _ _ _ _
    · cases h; cases rx; cases ry
      obtain ⟨t, rfl⟩ := rv
      obtain ⟨t', rfl⟩ := ru
      exact rc_str o _ _ _ _
    · rename_i e; exact absurd e (by simp)
    · cases h
  | succ n ih =>
    intro A hu x y v u v' u' k rx ry rv ru h
    unfold ordN at h
    split at h
    · cases h; cases rx; cases ry
      obtain ⟨t, rfl⟩ := rv
      obtain ⟨t', rfl⟩ := ru
      exact rc_int o _ _ _ _
    · cases h; cases rx; cases ry
      obtain ⟨t, rfl⟩ := rv
      obtain ⟨t', rfl⟩ := ru
      exact rc_str o _ _ _ _
    · rename_i m as bs e
      have em : m = n := by injection e with e; exact e.symm
      subst em
      obtain ⟨a, xs, rfl, q1, r1⟩ := rx
      obtain ⟨b, ys, rfl, q2, r2⟩ := ry
      cases rv; cases ru
      rw [← hK] at q1 q2
      obtain ⟨its, k1, p1, _⟩ := I.tuple q1
      obtain ⟨its2, k2, p2, _⟩ := I.tuple q2
      have hz : ∀ a b, o.n (a + 1) (b + 1) = o.n a b := by intro a b; cases o <;> simp [O4.n]
      obtain ⟨e, r, h1, h2⟩ := lexD_at hz h
      have l1 : its.toArray.size = as.length := by rw [List.size_toArray, ← k1.length, r1.length]
      have l2 : its2.toArray.size = bs.length := by rw [List.size_toArray, ← k2.length, r2.length]
      have hu1 : A.in1.units + m + 65 < cLine := by show A.units + 1 + m + 65 < cLine; omega
      have key : ∀ j (g1 : j < its.toArray.size) (g2 : j < its2.toArray.size), ∃ x y vx vy, as[j]? = some x ∧ bs[j]? = some y ∧ Rep G H ι x vx ∧ Rep G H ι y vy ∧ RelV vx its.toArray[j] ∧ RelV vy its2.toArray[j] := by
        intro j g1 g2
        have j1 : j < as.length := by omega
        have j2 : j < bs.length := by omega
        obtain ⟨vx, a1, a2⟩ := r1.get (i := j) (d := as[j]) (by simp [j1])
        obtain ⟨vy, b1, b2⟩ := r2.get (i := j) (d := bs[j]) (by simp [j2])
        obtain ⟨ux, c1, c2⟩ := k1.get a1
        obtain ⟨uy, d1, d2⟩ := k2.get b1
        refine ⟨as[j], bs[j], vx, vy, by simp [j1], by simp [j2], a2, b2, ?_, ?_⟩
        · have : its.toArray[j] = ux := by
            simp at g1
            rw [List.getElem?_eq_getElem g1] at c1
            simpa using c1
          rw [this]; exact c2
        · have : its2.toArray[j] = uy := by
            simp at g2
            rw [List.getElem?_eq_getElem g2] at d1
            simpa using d1
          rw [this]; exact d2
      have R := rc_tup (A := A) (s := s) o (e := e) (r := r) p1 p2 (by omega) (fun j g1 g2 => by
        obtain ⟨x, y, vx, vy, e1, e2, q1, q2, q3, q4⟩ := key j g1 g2
        exact eqP_at hK I sr (by show A.units + 1 + 64 < cLine; omega) q1 q2 q3 q4 (h1 j x y e1 e2).1) (fun j g1 g2 hf => by
        obtain ⟨x, y, vx, vy, e1, e2, q1, q2, q3, q4⟩ := key j g1 g2
        exact ih hu1 q1 q2 q3 q4 ((h1 j x y e1 e2).2 hf))
      rw [l1, l2, h2] at R
      exact R
    · cases h
/-- the comparison of data by o -/
def rOrd (G : Gx) (o : O4) : R2 := fun v u H Q => ∃ x y ι st k, StoRep G H ι st ∧ Rep G H ι x v ∧ Rep G H ι y u ∧ ordN o 4 x y = some k ∧ Q (.bl k) H
theorem op_ord {G : Gx} {X : Cx} {k : Nat} (hK : X.K = G.K) (hr : Room k X.A) (o : O4) : OpR X (compareOp o.op) (rOrd G o) := by
  intro pins s σ H v u v' u' Q I rv ru ⟨x, y, ι, st, k, sr, rx, ry, e, q⟩
  have R := ordN_rc hK I sr o 4 (A := X.A) (by have := hr.un; omega) rx ry rv ru e
  have fin : EP X pins σ Q (.bool k) s := ⟨.bl k, H, I, rfl, q⟩
  cases o with
  | lt => exact R X.prog X.w X.xe _ fin
  | le => exact R X.prog X.w X.xe _ fin
  | gt => exact R X.prog X.w X.xe _ fin
  | ge => exact R X.prog X.w X.xe _ fin
theorem br_ord {G : Gx} (o : O4) : Br2 G (rOrd G o) (cB fun _ => ordN o 4) := by
  intro W H ι st x y v u Q s rx ry h
  unfold cB at h
  obtain ⟨d, e, h⟩ := h.opt
  obtain ⟨k, e1, rfl⟩ := Option.map_eq_some_iff.mp e
  exact ⟨x, y, ι, st, k, s, rx, ry, e1, h.here s (v := .bl _) rfl⟩
section
variable {G : Gx} {X : Cx} {W : WX} {C : Call} {k : Nat}
theorem db_lt (hK : X.K = G.K) (hr : Room k X.A) {a b : Expr} {ma mb : SE} {pos : Pos} (ha : DE G X W C a ma) (hb : DE G X W C b mb) : DB G X W C (.Compare a [.Lt] [b] pos) (bCmp ltD ma mb) := db_cmp (op_ord hK hr .lt) (br_ord .lt) ha hb (nomark _)
theorem db_le (hK : X.K = G.K) (hr : Room k X.A) {a b : Expr} {ma mb : SE} {pos : Pos} (ha : DE G X W C a ma) (hb : DE G X W C b mb) : DB G X W C (.Compare a [.LtE] [b] pos) (bCmp leD ma mb) := db_cmp (op_ord hK hr .le) (br_ord .le) ha hb (nomark _)
theorem db_gt (hK : X.K = G.K) (hr : Room k X.A) {a b : Expr} {ma mb : SE} {pos : Pos} (ha : DE G X W C a ma) (hb : DE G X W C b mb) : DB G X W C (.Compare a [.Gt] [b] pos) (bCmp gtD ma mb) := db_cmp (op_ord hK hr .gt) (br_ord .gt) ha hb (nomark _)
theorem db_ge (hK : X.K = G.K) (hr : Room k X.A) {a b : Expr} {ma mb : SE} {pos : Pos} (ha : DE G X W C a ma) (hb : DE G X W C b mb) : DB G X W C (.Compare a [.GtE] [b] pos) (bCmp geD ma mb) := db_cmp (op_ord hK hr .ge) (br_ord .ge) ha hb (nomark _)
theorem de_lt (hK : X.K = G.K) (hr : Room k X.A) {a b : Expr} {ma mb : SE} {pos : Pos} (ha : DE G X W C a ma) (hb : DE G X W C b mb) : DE G X W C (.Compare a [.Lt] [b] pos) (eB2 (cB ltD) ma mb) := de_cmp (op_ord hK hr .lt) (br_ord .lt) ha hb (nomark _)
theorem de_le (hK : X.K = G.K) (hr : Room k X.A) {a b : Expr} {ma mb : SE} {pos : Pos} (ha : DE G X W C a ma) (hb : DE G X W C b mb) : DE G X W C (.Compare a [.LtE] [b] pos) (eB2 (cB leD) ma mb) := de_cmp (op_ord hK hr .le) (br_ord .le) ha hb (nomark _)
theorem de_gt (hK : X.K = G.K) (hr : Room k X.A) {a b : Expr} {ma mb : SE} {pos : Pos} (ha : DE G X W C a ma) (hb : DE G X W C b mb) : DE G X W C (.Compare a [.Gt] [b] pos) (eB2 (cB gtD) ma mb) := de_cmp (op_ord hK hr .gt) (br_ord .gt) ha hb (nomark _)
theorem de_ge (hK : X.K = G.K) (hr : Room k X.A) {a b : Expr} {ma mb : SE} {pos : Pos} (ha : DE G X W C a ma) (hb : DE G X W C b mb) : DE G X W C (.Compare a [.GtE] [b] pos) (eB2 (cB geD) ma mb) := de_cmp (op_ord hK hr .ge) (br_ord .ge) ha hb (nomark _)
end

/-! ### in -/
def inB : Sto → D → D → Option Bool := fun st x y => match x, y with
  | .str a, .str b => some (!(Builtin.Str.occurrences b a 0 b.length 1).isEmpty)
  | x, y => (dat st 4 x).bind fun d => (dat st 4 y).bind fun e => match e with
    | .list ds => if SeqAt.shaped d = true ∧ SeqAt.shaped (.list ds) = true then some (ds.any fun z => PyData.eqv z d) else none
    | .tuple ds => if SeqAt.shaped d = true ∧ SeqAt.shaped (.tuple ds) = true then some (ds.any fun z => PyData.eqv z d) else none
    | _ => none
def ninB : Sto → D → D → Option Bool := fun st x y => (inB st x y).map (!·)
def rInT (K : PySem.W.Frag) (neg : Bool) : R2 := fun x y H Q => ∃ d ds, Dp K H x d ∧ Dp K H y (.tuple ds) ∧ SeqAt.shaped d = true ∧ SeqAt.shaped (.tuple ds) = true ∧ Q (.bl (if neg then !ds.any fun z => PyData.eqv z d else ds.any fun z => PyData.eqv z d)) H
section
variable {G : Gx} {X : Cx} {W : WX} {C : Call} {k : Nat}
theorem canAll_of {ds : List PyData} (h : SeqAt.shaped (.tuple ds) = true) : PyData.canLayAll0 ds = true := by
  have := SeqAt.canLay_of_shaped h
  simpa [PyData.canLay0] using this
theorem op_inT (hu : X.A.units + 65 < cLine) : OpR X (compareOp .In) (rInT X.K false) := by
  intro pins s σ H x y v u Q I rx ry h
  obtain ⟨d, ds, hd, he, sd, se, q⟩ := h
  obtain ⟨as, r1⟩ := Dp.reads I d x v hd rx
  obtain ⟨bs, r2⟩ := Dp.reads I (.tuple ds) y u he ry
  exact SeqAt.in_tuple_reads r2 r1 (canAll_of se) (SeqAt.canLay_of_shaped sd) (room_in_shaped sd hu) ⟨.bl _, H, I, rfl, q⟩
theorem op_ninT (hu : X.A.units + 65 < cLine) : OpR X (compareOp .NotIn) (rInT X.K true) := by
  intro pins s σ H x y v u Q I rx ry h
  obtain ⟨d, ds, hd, he, sd, se, q⟩ := h
  obtain ⟨as, r1⟩ := Dp.reads I d x v hd rx
  obtain ⟨bs, r2⟩ := Dp.reads I (.tuple ds) y u he ry
  exact SeqAt.notIn_tuple_reads r2 r1 (canAll_of se) (SeqAt.canLay_of_shaped sd) (room_in_shaped sd hu) ⟨.bl _, H, I, rfl, q⟩
def rInA (K : PySem.W.Frag) : R2 := fun x y H Q => (∃ i j, x = .str i ∧ y = .str j ∧ Q (.bl (!(Builtin.Str.occurrences j i 0 j.length 1).isEmpty)) H) ∨ rInD K x y H Q ∨ rInT K false x y H Q
def rNinA (K : PySem.W.Frag) : R2 := fun x y H Q => (∃ i j, x = .str i ∧ y = .str j ∧ Q (.bl (!(!(Builtin.Str.occurrences j i 0 j.length 1).isEmpty))) H) ∨ rNotInD K x y H Q ∨ rInT K true x y H Q
theorem op_inA (hu : X.A.units + 65 < cLine) : OpR X (compareOp .In) (rInA X.K) := op_in_str.or ((op_inD hu).or (op_inT hu))
theorem op_ninA (hu : X.A.units + 65 < cLine) : OpR X (compareOp .NotIn) (rNinA X.K) := op_notin_str.or ((op_notInD hu).or (op_ninT hu))
theorem br_in : Br2 G (rInA G.K) (cB inB) := by
  intro W H ι st x y v u Q s rx ry h
  unfold cB at h
  obtain ⟨d, e, h⟩ := h.opt
  obtain ⟨k, e1, rfl⟩ := Option.map_eq_some_iff.mp e
  unfold inB at e1
  split at e1
  · cases rx; cases ry; cases e1
    exact .inl ⟨_, _, rfl, rfl, h.here s (v := .bl _) rfl⟩
  · obtain ⟨p, q1, e2⟩ := Option.bind_eq_some_iff.mp e1
    obtain ⟨p', q2, e3⟩ := Option.bind_eq_some_iff.mp e2
    split at e3
    · split at e3
      · rename_i hs
        cases e3
        exact .inr (.inl ⟨p, _, dat_rep s _ _ _ _ rx q1, dat_rep s _ _ _ _ ry q2, hs.1, hs.2, h.here s (v := .bl _) rfl⟩)
      · cases e3
    · split at e3
      · rename_i hs
        cases e3
        exact .inr (.inr ⟨p, _, dat_rep s _ _ _ _ rx q1, dat_rep s _ _ _ _ ry q2, hs.1, hs.2, h.here s (v := .bl _) rfl⟩)
      · cases e3
    · cases e3
theorem br_nin : Br2 G (rNinA G.K) (cB ninB) := by
  intro W H ι st x y v u Q s rx ry h
  unfold cB ninB at h
  obtain ⟨d, e, h⟩ := h.opt
  obtain ⟨k, e0, rfl⟩ := Option.map_eq_some_iff.mp e
  obtain ⟨k', e1, rfl⟩ := Option.map_eq_some_iff.mp e0
  unfold inB at e1
  split at e1
  · cases rx; cases ry; cases e1
    exact .inl ⟨_, _, rfl, rfl, h.here s (v := .bl _) rfl⟩
  · obtain ⟨p, q1, e2⟩ := Option.bind_eq_some_iff.mp e1
    obtain ⟨p', q2, e3⟩ := Option.bind_eq_some_iff.mp e2
    split at e3
    · split at e3
      · rename_i hs
        cases e3
        exact .inr (.inl ⟨p, _, dat_rep s _ _ _ _ rx q1, dat_rep s _ _ _ _ ry q2, hs.1, hs.2, h.here s (v := .bl _) rfl⟩)
      · cases e3
    · split at e3
      · rename_i hs
        cases e3
        exact .inr (.inr ⟨p, _, dat_rep s _ _ _ _ rx q1, dat_rep s _ _ _ _ ry q2, hs.1, hs.2, h.here s (v := .bl _) rfl⟩)
      · cases e3
    · cases e3
theorem hu65 {A : Around} (hr : Room k A) : A.units + 65 < cLine := by have := hr.un; omega
theorem db_in (hK : X.K = G.K) (hr : Room k X.A) {a b : Expr} {ma mb : SE} {pos : Pos} (ha : DE G X W C a ma) (hb : DE G X W C b mb) (hm : behindInMarks .In b = false := by rfl) : DB G X W C (.Compare a [.In] [b] pos) (bCmp inB ma mb) := db_cmp (op_inA (hu65 hr)) (by rw [hK]; exact br_in) ha hb hm
theorem de_in (hK : X.K = G.K) (hr : Room k X.A) {a b : Expr} {ma mb : SE} {pos : Pos} (ha : DE G X W C a ma) (hb : DE G X W C b mb) (hm : behindInMarks .In b = false := by rfl) : DE G X W C (.Compare a [.In] [b] pos) (eB2 (cB inB) ma mb) := de_cmp (op_inA (hu65 hr)) (by rw [hK]; exact br_in) ha hb hm
theorem db_nin (hK : X.K = G.K) (hr : Room k X.A) {a b : Expr} {ma mb : SE} {pos : Pos} (ha : DE G X W C a ma) (hb : DE G X W C b mb) (hm : behindInMarks .NotIn b = false := by rfl) : DB G X W C (.Compare a [.NotIn] [b] pos) (bCmp ninB ma mb) := db_cmp (op_ninA (hu65 hr)) (by rw [hK]; exact br_nin) ha hb hm
theorem de_nin (hK : X.K = G.K) (hr : Room k X.A) {a b : Expr} {ma mb : SE} {pos : Pos} (ha : DE G X W C a ma) (hb : DE G X W C b mb) (hm : behindInMarks .NotIn b = false := by rfl) : DE G X W C (.Compare a [.NotIn] [b] pos) (eB2 (cB ninB) ma mb) := de_cmp (op_ninA (hu65 hr)) (by rw [hK]; exact br_nin) ha hb hm

/-! ### raise X('..') -/
def sRaise (c : Nat) : SS := fun _ env st => .exc c .non env st
structure ExAt (K : PySem.W.Frag) (mg : Str → Option Value) (G : Gx) (c : Nat) (x : Str) : Prop where
  ex : PySem.W.excIn K (G.ca c) [.type "ValueError", .type "Exception", .type "BaseException", .type "object"] "ValueError.__new__" = true
  g : mg x = some (.ref (G.ca c))
  kp : PySem.W.keepIn K (.ref (G.ca c)) = true
  sb : PySem.W.subIn K (.ref (G.ca c)) (.type "BaseException") = some true
  ty : PySem.W.typeIn K (.ref (G.ca c)) = some (.type "type")
theorem ds_raise {c : Nat} {x m : Str} {j : Nat} {p p2 pos pos2 : Pos} (hc : X.calm = true) (tk : Takes X W) (hE : ExAt X.K X.mg G c x) (hg : Gl X x) (hdb : (x == ("__debug__" : Str)) = false := by decide) :
    DS G X W C (.Raise (some (.Call (.Name x p) [.Constant (.str m) j p2] [] pos)) none pos2) (sRaise c) :=
  ps_imp (ps_raise hc tk (pmk_own PySem.F.excBase_ValueError hE.ex hE.g hE.kp (raises_own hE.sb hE.ty) hg hdb)) fun K σ H ⟨env, ι, st, hR, hp⟩ => hp _ none σ H ι (Ext.refl _ _) hR ⟨rfl, rfl⟩

/-! ### {} -/
def eDct0 : SE := fun _ _ st => .ok (.ref st.length) (st ++ [.dct []])
theorem de_dct0 {pos : Pos} : DE G X W C (.Dict [] [] pos) eDct0 := pe_imp pe_dnewK fun σ H Q ⟨env, ι, st, hR, hp⟩ => fun p hp' => by
  refine hp (.ref p) (upd H p (.dK [])) (ι ++ [p]) (ext_take hp') ?_ ⟨p, by rw [← hR.sto.len]; simp, rfl⟩
  exact (hR.sto.fresh hp').push (hR.sto.notin hp') ⟨[], [], upd_same, rfl, rfl, rfl⟩

/-! ### lists alone that are read: all, any, min, max -/
def repL1 (G : Gx) : Hp → Hp → List Addr → List D → V → Prop := fun _ H ι ds v => ∃ a xs, v = .ref a ∧ SqL G.K H a xs ∧ RepL G H ι ds xs
def DL (G : Gx) (X : Cx) (W : WX) (C : Call) (e : Expr) (m : SL) : Prop := PE X e (rG G W C (repL1 G) m)
def itemsL (st : Sto) : D → Option (List D)
  | .ref i => lstAt st i
  | .scr ds => some ds
  | _ => none
def lSeqL (a : SE) : SL := fun C env st => (a C env st).bind fun x st => Res.of (itemsL st x) st
theorem dl_tmp {e : Expr} {l : SL} (h : DT G X W C e l) : DL G X W C e l :=
  pe_imp h fun σ H Q ⟨env, ι, st, hR, hp⟩ => ⟨env, ι, st, hR, by
    generalize l C env st = r at hp
    cases r with
    | ok ds st1 => exact fun v H1 ι1 e s ⟨a, xs, ev, h1, h2, h3, h4⟩ => hp v H1 ι1 e s ⟨a, xs, ev, SqL.of h1, h4⟩
    | exc c x st1 => exact hp
    | stuck => exact hp⟩
theorem dl_of {e : Expr} {m : SE} (h : DE G X W C e m) : DL G X W C e (lSeqL m) :=
  pe_imp h fun σ H Q ⟨env, ι, st, hR, hp⟩ => sqE hR hp fun x st1 v H1 ι1 e1 hR1 r1 hp1 => by
    obtain ⟨ds, e, hp2⟩ := hp1.opt
    cases x with
    | ref i =>
      obtain ⟨a, xs, k1, k2, k3⟩ := hR1.sto.lst e
      obtain ⟨_, k1', rfl⟩ := r1
      rw [k1] at k1'; cases k1'
      exact hp2.here hR1.sto ⟨a, xs, rfl, SqL.of k2, k3⟩
    | scr ds' =>
      cases e
      obtain ⟨a, xs, rfl, q, r⟩ := r1
      exact hp2.here hR1.sto ⟨a, xs, rfl, q.sq, r⟩
    | _ => cases e
def BrL (G : Gx) (r : List V → Hp → VK → Prop) (g : Sto → List D → Res D) : Prop := ∀ (W : Value → Option Addr → Hp → Prop) (H : Hp) (ι : List Addr) (st : Sto) (ds : List D) (a : Addr) (xs : List V) (Q : VK), StoRep G H ι st → SqL G.K H a xs → RepL G H ι ds xs → post G (Rep G) W H ι Q (g st ds) → r [.ref a] H Q
theorem de_cL {e : Expr} {r : List V → Hp → VK → Prop} {g : Sto → List D → Res D} {l : SL} (h : PE X e (tCB r (tCons (rG G W C (repL1 G) l) tNil))) (br : BrL G r g) : DE G X W C e (eA g l) :=
  pe_imp h fun σ H Q ⟨env, ι, st, hR, hp⟩ => rG.seq (rep := repL1 G) hR hp fun ds st1 v H1 ι1 e1 hR1 ⟨a, xs, ev, q1, r1⟩ hp1 => by
    subst ev
    exact br _ H1 ι1 st1 ds a xs Q hR1.sto q1 r1 hp1
def boolsOf : List D → Option (List Bool)
  | [] => some []
  | .bl i :: ds => (boolsOf ds).map fun is => i :: is
  | _ :: _ => none
theorem boolsOf_eq : ∀ {ds : List D} {ns : List Bool}, boolsOf ds = some ns → ds = ns.map D.bl
  | [], _, h => by cases h; rfl
  | .bl i :: ds, ns, h => by
    simp only [boolsOf] at h
    obtain ⟨is, e, rfl⟩ := Option.map_eq_some_iff.mp h
    rw [boolsOf_eq e]; rfl
  | .non :: _, _, h => by cases h
  | .int _ :: _, _, h => by cases h
  | .str _ :: _, _, h => by cases h
  | .tup _ :: _, _, h => by cases h
  | .ref _ :: _, _, h => by cases h
  | .fn _ :: _, _, h => by cases h
  | .scr _ :: _, _, h => by cases h
@[simp] theorem boolsOf_map (ns : List Bool) : boolsOf (ns.map D.bl) = some ns := by
  induction ns with
  | nil => rfl
  | cons n ns ih => simp [boolsOf, ih]
theorem RepL.bools {H : Hp} {ι : List Addr} : ∀ {ds : List D} {vs : List V} {ns : List Bool}, RepL G H ι ds vs → ds = ns.map D.bl → vs = ns.map V.bl
  | [], _, [], h, _ => by cases h; rfl
  | [], _, n :: ns, h, e => by simp at e
  | d :: ds, _, [], _, e => by simp at e
  | d :: ds, _, n :: ns, ⟨v, r, e1, e2, e3⟩, e => by
    subst e1
    simp at e
    obtain ⟨rfl, e⟩ := e
    cases e2
    simp [RepL.bools e3 e]
def allQ : Sto → List D → Res D := fun st ds => match boolsOf ds with | some bs => .ok (.bl (bs.all id)) st | none => .stuck
def anyQ : Sto → List D → Res D := fun st ds => match boolsOf ds with | some bs => .ok (.bl (bs.any id)) st | none => .stuck
def maxQ : Sto → List D → Res D := fun st ds => match intsOf ds with | some ns => if ns ≠ [] then .ok (.int (maxL ns)) st else .stuck | none => .stuck
def minQ : Sto → List D → Res D := fun st ds => match intsOf ds with | some ns => if ns ≠ [] then .ok (.int (minL ns)) st else .stuck | none => .stuck
theorem brl_all : BrL G (rAll G.K) allQ := by
  intro W H ι st ds a xs Q s q r h
  unfold allQ at h
  split at h
  · rename_i bs e
    have e2 := r.bools (boolsOf_eq e)
    subst e2
    exact ⟨a, bs, rfl, q, h.here s (v := .bl _) rfl⟩
  · exact h.elim
theorem brl_any : BrL G (rAny G.K) anyQ := by
  intro W H ι st ds a xs Q s q r h
  unfold anyQ at h
  split at h
  · rename_i bs e
    have e2 := r.bools (boolsOf_eq e)
    subst e2
    exact ⟨a, bs, rfl, q, h.here s (v := .bl _) rfl⟩
  · exact h.elim
theorem brl_max : BrL G (rMax G.K) maxQ := by
  intro W H ι st ds a xs Q s q r h
  unfold maxQ at h
  split at h
  · rename_i ns e
    have e2 := r.ints (intsOf_eq e)
    subst e2
    split at h
    · rename_i hne
      refine ⟨a, ns, rfl, q, List.length_pos_iff.mpr hne, fun m hm hle => ?_⟩
      obtain ⟨h1, h2⟩ := maxL_spec hne
      have : m = maxL ns := Int.le_antisymm (h2 m hm) (hle _ h1)
      subst this
      exact h.here s (v := .int _) rfl
    · exact h.elim
  · exact h.elim
theorem brl_min : BrL G (rMin G.K) minQ := by
  intro W H ι st ds a xs Q s q r h
  unfold minQ at h
  split at h
  · rename_i ns e
    have e2 := r.ints (intsOf_eq e)
    subst e2
    split at h
    · rename_i hne
      refine ⟨a, ns, rfl, q, List.length_pos_iff.mpr hne, fun m hm hle => ?_⟩
      obtain ⟨h1, h2⟩ := minL_spec hne
      have : m = minL ns := Int.le_antisymm (hle _ h1) (h2 m hm)
      subst this
      exact h.here s (v := .int _) rfl
    · exact h.elim
  · exact h.elim
theorem de_allQ {e : Expr} {l : SL} (hK : X.K = G.K) (h : PE X e (tCB (rAll X.K) (tCons (rG G W C (repL1 G) l) tNil))) : DE G X W C e (eA allQ l) := de_cL h (by rw [hK]; exact brl_all)
theorem de_anyQ {e : Expr} {l : SL} (hK : X.K = G.K) (h : PE X e (tCB (rAny X.K) (tCons (rG G W C (repL1 G) l) tNil))) : DE G X W C e (eA anyQ l) := de_cL h (by rw [hK]; exact brl_any)
theorem de_maxQ {e : Expr} {l : SL} (hK : X.K = G.K) (h : PE X e (tCB (rMax X.K) (tCons (rG G W C (repL1 G) l) tNil))) : DE G X W C e (eA maxQ l) := de_cL h (by rw [hK]; exact brl_max)
theorem de_minQ {e : Expr} {l : SL} (hK : X.K = G.K) (h : PE X e (tCB (rMin X.K) (tCons (rG G W C (repL1 G) l) tNil))) : DE G X W C e (eA minQ l) := de_cL h (by rw [hK]; exact brl_min)

/-! ### list(range(n)), tuple(range(n)) -/
def rgD (n : Int) : List D := (List.range n.toNat).map fun (i : Nat) => D.int (i : Int)
theorem rg_rep {H : Hp} {ι : List Addr} (n : Int) : RepL G H ι (rgD n) (rgV 0 n) := by
  have h := repL_ints (G := G) (H := H) (ι := ι) ((List.range n.toNat).map fun (i : Nat) => (i : Int))
  unfold rgD rgV
  simp only [List.map_map, Function.comp_def, Int.sub_zero, Int.zero_add] at h ⊢
  exact h
noncomputable def rngT (j : Int) : Bool := tsd (0 ≤ j ∧ j ≤ 16777216)
noncomputable def lRng (a : SE) : SL := fun C env st => (a C env st).bind fun x st => match x with
  | .int n => if rngT n then .ok (rgD n) st else .stuck
  | _ => .stuck
theorem dt_rng {e : Expr} {m : SE} (h : PE X e (tLstRg (tRg1 (tE G W C m)))) : DT G X W C e (lRng m) :=
  pe_imp h fun σ H Q ⟨env, ι, st, hR, hp⟩ => sqE hR hp fun x st1 v H1 ι1 e1 hR1 r1 hp1 => by
    cases x with
    | int n =>
      cases r1
      dsimp only at hp1
      split at hp1
      · rename_i hz
        have hz := tsd_of hz
        exact ⟨n, rfl, RgOk.of_le (by omega) hz.2 (by omega) hz.1, fun p hp => hp1 _ _ ι1 (ext_new hp) (hR1.sto.fresh hp) ⟨p, _, rfl, upd_same, hR1.sto.notin hp, fresh_back e1 hR1.sto hp, rg_rep n⟩⟩
      · exact hp1.elim
    | _ => exact hp1.elim
noncomputable def eTupRng (a : SE) : SE := fun C env st => (a C env st).bind fun x st => match x with
  | .int n => if rngT n then .ok (.tup (rgD n)) st else .stuck
  | _ => .stuck
theorem de_tupRng {e : Expr} {m : SE} (h : PE X e (tTupRg (tRg1 (tE G W C m)))) : DE G X W C e (eTupRng m) :=
  pe_imp h fun σ H Q ⟨env, ι, st, hR, hp⟩ => sqE hR hp fun x st1 v H1 ι1 e1 hR1 r1 hp1 => by
    cases x with
    | int n =>
      cases r1
      dsimp only at hp1
      split at hp1
      · rename_i hz
        have hz := tsd_of hz
        exact ⟨n, rfl, RgOk.of_le (by omega) hz.2 (by omega) hz.1, fun p hp => hp1 _ _ ι1 (ext_new hp) (hR1.sto.fresh hp) ⟨p, _, rfl, SqT.of upd_same, rg_rep n⟩⟩
      · exact hp1.elim
    | _ => exact hp1.elim
/-! ### a, b = x, y -/
def sPar (i j : Nat) (l : SL) : SS := fun C env st => (l C env st).thenS env fun ds st => match ds with
  | [x, y] => .nx ((env.set i (some x)).set j (some y)) st
  | _ => .stuck
theorem ds_par {s : Stmt} {i j : Nat} {l : SL} (h : PS X s (tPar i j (tA G W C l))) : DS G X W C s (sPar i j l) :=
  ps_imp h fun K σ H ⟨env, ι, st, hR, hp⟩ => ssG (rep := fun _ => RepL G) hR hp fun ds st1 vs H1 ι1 e1 hR1 r1 hp1 => by
    split at hp1
    · obtain ⟨v, _, rfl, rv, w, _, rfl, rw_, rfl⟩ := r1
      exact ⟨v, w, rfl, hp1 _ H1 ι1 (Ext.refl _ _) ((hR1.set rv i).set rw_ j)⟩
    · exact hp1.elim
theorem boot_int_ : bootBuiltins "int" = some (.type "int") := PyProof.Rows.boot_int
theorem boot_bool_ : bootBuiltins "bool" = some (.type "bool") := PyProof.Rows.boot_bool
theorem boot_str_ : bootBuiltins "str" = some (.type "str") := PyProof.Rows.boot_str
theorem boot_tuple_ : bootBuiltins "tuple" = some (.type "tuple") := PyProof.Rows.boot_tuple
theorem boot_list_ : bootBuiltins "list" = some (.type "list") := PyProof.Rows.boot_list
theorem boot_dict_ : bootBuiltins "dict" = some (.type "dict") := by decide +kernel
end
end OH

set_option Elab.async false
set_option linter.all false
set_option maxRecDepth 100000
set_option maxHeartbeats 1000000
/-! OHEnd: from the meaning of the law's def to what the row asks. -/
namespace OH
open PySem PySem.Spec PyProof.Rows L2

theorem ok_zero {P : Program} {w : World} {G : Gx} {mg : Str → Option Value} {base : Heap} {Tbl : Nat → FD} {f : Nat} {fd : FuncData} {ps : List Str} : FnOk P w G.K mg base (L2.CX P w) 0 (G.fa f) fd ps (spC G (callN Tbl 0) f) :=
  ⟨fun vs H Q E ⟨ds, ι, st, _, _, h⟩ => h.elim, fun A outer s H args us vs Q E _ _ _ _ ⟨ds, ι, st, _, _, h⟩ => h.elim⟩
/-- what the law promises: True -/
def spLaw (K : PySem.W.Frag) : Sp := fun vs H Q _ => ∃ (a : Addr) (ns : List Int), vs = [.ref a] ∧ ns.length ≤ 63 ∧ SqF K H a (ns.map V.int) ∧ ∀ H', Q (.bl true) H'
theorem law_imp {P : Program} {w : World} {G : Gx} {mg : Str → Option Value} {base : Heap} {Tbl : Nat → FD} {k f : Nat} {fa : Addr} {fd : FuncData} {ps : List Str} (hl : ∀ ns : List Int, ns.length ≤ 63 → ∃ st, callN Tbl k f [.scr (ns.map D.int)] [] = .ok (.bl true) st)
    (F : FnOk P w G.K mg base (L2.CX P w) k fa fd ps (spC G (callN Tbl k) f)) : FnOk P w G.K mg base (L2.CX P w) k fa fd ps (spLaw G.K) :=
  F.imp fun vs H Q E ⟨a, ns, e, hn, hs, q⟩ => by
    subst e
    obtain ⟨st, h⟩ := hl ns hn
    refine ⟨[.scr (ns.map D.int)], [], [], RepL.one ⟨a, _, rfl, hs, repL_ints ns⟩, ⟨rfl, List.nodup_nil, fun i c a h _ => by simp at h⟩, ?_⟩
    rw [h]
    intro v H' ι' _ _ r
    cases r
    exact q H'
theorem spLaw_of {K : PySem.W.Frag} {H : Hp} {a : Addr} {ns : List Int} (hl : ns.length ≤ 63) (hO : Only H) (hS : SqL K H a (ns.map V.int)) : spLaw K [.ref a] H (fun v _ => v = .bl true) fun _ _ _ => False :=
  ⟨a, ns, rfl, hl, SqF.of hS hO, fun _ => rfl⟩
theorem cx_none {P : Program} {w : World} {H : Hp} {s s' : Shared} {e : Value} (h : L2.CX P w [] H s (fun _ _ _ => False) e s') : False := by
  obtain ⟨a, B, H', cls, d, _, _, _, _, _, _, _, h⟩ := h
  exact h
end OH

set_option Elab.async false
set_option linter.all false
set_option maxRecDepth 100000
set_option maxHeartbeats 1000000
/-! OHKw: defs with keyword-only parameters whose defaults are None. -/
namespace OH
open PySem PySem.Spec PyProof.Rows L2

structure FunKw (K : PySem.W.Frag) (x qual : Str) (st : Stmt) (f : Addr) (fd : FuncData) (ks : List Str) : Prop where
  ex : ∃ (oc : Value) (od : Option Addr) (D : Addr) (doc pm : Value) (an : Option Addr) (cdv ct : Value) (osl : Array (Option Value)),
    fd = PySem.W.fnOf x qual (defArgs st) (defBody st) (defScope st) .none (.ref D) doc pm an cdv ct ∧ K.lookup f = some ⟨oc, od, .func fd, osl⟩ ∧ PySem.W.codeIn K cdv qual = true ∧ ∀ q ∈ ks, PySem.W.nsIn K D q = some (some .none)
  kp : PySem.W.keepIn K (.ref f) = true
section
variable {K : PySem.W.Frag} {x qual : Str} {st : Stmt} {f : Addr} {fd : FuncData} {ks ps : List Str}
theorem FunKw.fn (F : FunKw K x qual st f fd ks) : Fun K x qual st f fd := by
  obtain ⟨oc, od, D, doc, pm, an, cdv, ct, osl, e, l, c, _⟩ := F.ex
  exact ⟨⟨oc, od, .ref D, doc, pm, an, cdv, ct, osl, e, l, c⟩, F.kp⟩
theorem FunKw.fund (F : FunKw K x qual st f fd ks) : FunD K x qual (defArgs st) (defBody st) (defScope st) [] (ks.map fun k => (k, V.non)) f fd := by
  obtain ⟨oc, od, D, doc, pm, an, cdv, ct, osl, e, l, c, h⟩ := F.ex
  refine ⟨⟨oc, od, .none, .ref D, doc, pm, an, cdv, ct, osl, e, l, c, .inl ⟨rfl, rfl⟩, .inr ⟨D, rfl, fun q hq => ?_⟩⟩, F.kp⟩
  obtain ⟨k, hk, rfl⟩ := List.mem_map.mp hq
  exact ⟨.none, h k hk, by constructor⟩
theorem funkw_mk {oc : Value} {od an : Option Addr} {osl : Array (Option Value)} {D : Addr} {doc pm cdv ct : Value} (l : K.lookup f = some ⟨oc, od, .func (PySem.W.fnOf x qual (defArgs st) (defBody st) (defScope st) .none (.ref D) doc pm an cdv ct), osl⟩)
    (c : PySem.W.codeIn K cdv qual = true) (k : PySem.W.keepIn K (.ref f) = true) (h : ∀ q ∈ ks, PySem.W.nsIn K D q = some (some .none)) : FunKw K x qual st f (PySem.W.fnOf x qual (defArgs st) (defBody st) (defScope st) .none (.ref D) doc pm an cdv ct) ks := ⟨⟨oc, od, D, doc, pm, an, cdv, ct, osl, rfl, l, c, h⟩, k⟩
theorem FunKw.bindsD (F : FunKw K x qual st f fd ks) (n : Nat) (hk : ks ≠ []) (hn : n + ks.length = ps.length)
    (h : ∀ (D : Addr) (doc pm : Value) (an : Option Addr) (cdv ct : Value) (us vs : List Value), us.length = n → vs.length = ks.length →
      KwChain D (ks.zip vs) (bindArgs (PySem.W.fnOf x qual (defArgs st) (defBody st) (defScope st) .none (.ref D) doc pm an cdv ct) ⟨us, []⟩) (ps.zip (us ++ vs))) : ∃ ds, Vals (ks.map fun _ => V.non) ds ∧ Binds K fd ps ds := by
  have := FunD.binds0 (ps := ps) F.fund n (by simpa using hk) (by simpa using hn) (fun D doc pm an cdv ct us vs h1 h2 => by
    have e : ((ks.map fun k => (k, V.non)).map (·.1)) = ks := by rw [List.map_map]; exact List.map_id ks
    rw [e]
    exact h D doc pm an cdv ct us vs h1 (by simpa using h2))
  have e : ((ks.map fun k => (k, V.non)).map (·.2)) = ks.map fun _ => V.non := by rw [List.map_map]; rfl
  rw [e] at this
  exact this
theorem FunKw.bindsK (F : FunKw K x qual st f fd ks) (n : Nat)
    (h : ∀ (D : Addr) (doc pm : Value) (an : Option Addr) (cdv ct : Value) (us vs : List Value), us.length = n → vs.length = ks.length →
      bindArgs (PySem.W.fnOf x qual (defArgs st) (defBody st) (defScope st) .none (.ref D) doc pm an cdv ct) ⟨us, ks.zip vs⟩ = pure (ps.zip (us ++ vs))) : KBn K fd ps n ks (fun us ws => us ++ ws) (fun us ws => us ++ ws) := by
  obtain ⟨oc, od, D, doc, pm, an, cdv, ct, osl, rfl, l, c, _⟩ := F.ex
  exact ⟨fun s us ws X h1 h2 => .of_eq (h D doc pm an cdv ct us ws h1 h2), fun r1 r2 => r1.append r2⟩
end
structure FnAtK (P : Program) (w : World) (G : Gx) (mg : Str → Option Value) (base : Heap) (C : Call) (k : Nat) (f : Nat) (x : Str) (n : Nat) (ks : List Str) : Prop where
  g : mg x = some (.ref (G.fa f))
  kp : PySem.W.keepIn G.K (.ref (G.fa f)) = true
  ok : ∃ fd ps, FnOk P w G.K mg base (L2.CX P w) k (G.fa f) fd ps (spC G C f) ∧ (∃ ds, Vals (ks.map fun _ => V.non) ds ∧ Binds G.K fd ps ds) ∧ KBn G.K fd ps n ks (fun us ws => us ++ ws) (fun us ws => us ++ ws)
section
variable {X : Cx} {CX : CXT} {k n : Nat} {f : Addr} {fd : FuncData} {ps ks : List Str} {sp : Sp} {E : L2.St → XK} {x : Str} {p pos : Pos} {e : Expr} {es : List Expr} {kws : List Keyword} {t tk : TA} {g : List Value → List Value → List Value} {gV : List V → List V → List V} {dv : List V} {ds : List Value}
theorem run_fnSD {pins : List (Addr × Obj)} {σ : L2.St} {H : Hp} {s : Shared} {Q : VK} {us : List Value} {vs : List V} (F : FnOk X.prog X.w X.K X.mg X.base CX k f fd ps sp) (hr : Room k X.A) (hb : Binds X.K fd ps ds) (hd : Vals dv ds) (hx : PassesAt CX X σ (E σ))
    (I : Inv X pins σ H s) (r : Vals vs us) (h : sp (vs ++ dv) H Q (E σ)) : wpAny (model X.prog X.w) X.A (call (.ref f) us) (EP X pins σ Q) X.xe s := by
  have hl : (us ++ ds).length = ps.length := by
    have := F.len _ _ _ _ h
    rw [List.length_append, ← r.length, ← hd.length, ← List.length_append]; exact this
  have b := hb s us I.kIn hl
  refine wpAny_call (codeAny_mono (F.run X.A X.stack s H ⟨us, []⟩ (us ++ ds) (vs ++ dv) Q (E σ) hr I.env0 b (r.append hd) h) fun r s' hq => ?_)
  cases r with
  | error e => exact hx pins H s e s' I hq
  | ok fl =>
    cases fl with
    | ret u => exact I.after hq
    | next => exact False.elim hq
    | brk => exact False.elim hq
    | cont => exact False.elim hq
def tCallSD (sp : Sp) (dv : List V) (E : L2.St → XK) (t : TA) : TE := fun σ H Q => t σ H fun vs H1 => sp (vs ++ dv) H1 Q (E σ)
theorem pe_callSD (F : FnOk X.prog X.w X.K X.mg X.base CX k f fd ps sp) (hr : Room k X.A) (hg : Gl X x) (hm : X.mg x = some (.ref f)) (hk : PySem.W.keepIn X.K (.ref f) = true) (hb : Binds X.K fd ps ds) (hd : Vals dv ds) (hx : ∀ σ, PassesAt CX X σ (E σ))
    (ha : PA X (e :: es) t) (hdb : (x == ("__debug__" : Str)) = false := by decide) (he : starEach (e :: es) X.env = (false, eval e X.env) :: starEach es X.env := by rfl) (hpl : (backTo pos (starEach es X.env)).any (·.1) = false := by rfl) :
    PE X (.Call (.Name x p) (e :: es) [] pos) (tCallSD sp dv E t) := by
  refine ⟨fun pins s σ H Q I h => ?_⟩
  refine wpAny_Call_Name_kw (ld_glob I hg hm ?_ hdb)
  refine PySem.W.callWith_K (h₀ := X.base) I.ok.mod.kin hk (thn (ha.run pos pins s σ H _ I h) fun us s1 ⟨vs, H1, I1, r, q⟩ => ⟨I1.kIn, ?_⟩) he hpl
  exact run_fnSD F hr hb hd (hx σ) I1 r q
theorem run_fnNS {pins : List (Addr × Obj)} {σ : L2.St} {H : Hp} {s : Shared} {Q : VK} {us ws : List Value} {vs zs : List V} (F : FnOk X.prog X.w X.K X.mg X.base CX k f fd ps sp) (hr : Room k X.A) (hb : KBn X.K fd ps n ks g gV) (hx : PassesAt CX X σ (E σ))
    (I : Inv X pins σ H s) (r : Vals vs us) (rz : Vals zs ws) (l1 : vs.length = n) (l2 : zs.length = ks.length) (h : sp (gV vs zs) H Q (E σ)) : wpAny (model X.prog X.w) X.A (call (.ref f) us (ks.zip ws)) (EP X pins σ Q) X.xe s := by
  have r2 := hb.rel r rz
  refine wpAny_call (codeAny_mono (F.run X.A X.stack s H ⟨us, ks.zip ws⟩ (g us ws) (gV vs zs) Q (E σ) hr I.env0 (hb.to s us ws I.kIn (r.length.symm.trans l1) (rz.length.symm.trans l2)) r2 h) fun r s' hq => ?_)
  cases r with
  | error e => exact hx pins H s e s' I hq
  | ok fl =>
    cases fl with
    | ret u => exact I.after hq
    | next => exact False.elim hq
    | brk => exact False.elim hq
    | cont => exact False.elim hq
def tCallNS (n m : Nat) (sp : Sp) (gV : List V → List V → List V) (E : L2.St → XK) (t tk : TA) : TE := fun σ H Q => t σ H fun vs H1 => tk σ H1 fun zs H2 => vs.length = n ∧ zs.length = m ∧ sp (gV vs zs) H2 Q (E σ)
theorem pe_callNS (F : FnOk X.prog X.w X.K X.mg X.base CX k f fd ps sp) (hr : Room k X.A) (hg : Gl X x) (hm : X.mg x = some (.ref f)) (hk : PySem.W.keepIn X.K (.ref f) = true) (hb : KBn X.K fd ps n ks g gV) (hx : ∀ σ, PassesAt CX X σ (E σ))
    (ha : PA X (e :: es) t) (hkw : PK X kws tk) (hall : (backToKw pos (keywordEach kws X.env)).all (·.1.isSome) = true := by rfl) (hks : (backToKw pos (keywordEach kws X.env)).filterMap (·.1) = ks := by rfl)
    (hdb : (x == ("__debug__" : Str)) = false := by decide) (he : starEach (e :: es) X.env = (false, eval e X.env) :: starEach es X.env := by rfl)
    (hpl : ((backTo pos (starEach (e :: es) X.env)).any (·.1) || (backToKw pos (keywordEach kws X.env)).any (·.1.isNone)) = false := by rfl) :
    PE X (.Call (.Name x p) (e :: es) kws pos) (tCallNS n ks.length sp gV E t tk) := by
  refine ⟨fun pins s σ H Q I h => ?_⟩
  refine wpAny_Call_Name_kw (ld_glob I hg hm ?_ hdb)
  refine PySem.W.callWith_KW (h₀ := X.base) I.ok.mod.kin hk hall (thn (ha.run pos pins s σ H _ I h) fun us s1 ⟨vs, H1, I1, r, q⟩ => ?_) hpl he
  refine thn (hkw.run pos pins s1 σ H1 _ I1 q) fun ws s2 ⟨zs, H2, I2, rz, l1, l2, q2⟩ => ⟨I2.kIn, ?_⟩
  rw [hks]
  exact run_fnNS F hr hb (hx σ) I2 r rz l1 l2 q2
end
/-- a row and what stands behind it -/
def lAdd (l : SL) (ds : List D) : SL := fun C env st => (l C env st).bind fun xs st => .ok (xs ++ ds) st
def lCat (n m : Nat) (l l2 : SL) : SL := fun C env st => (l C env st).bind fun xs st => (l2 C env st).bind fun ys st => if xs.length = n ∧ ys.length = m then .ok (xs ++ ys) st else .stuck
@[simp] theorem lAdd_ap (l : SL) (ds : List D) (C : Call) (env : Env) (st : Sto) : lAdd l ds C env st = (l C env st).bind fun xs st => .ok (xs ++ ds) st := rfl
@[simp] theorem lCat_ap (n m : Nat) (l l2 : SL) (C : Call) (env : Env) (st : Sto) : lCat n m l l2 C env st = (l C env st).bind fun xs st => (l2 C env st).bind fun ys st => if xs.length = n ∧ ys.length = m then .ok (xs ++ ys) st else .stuck := rfl
theorem repL_app {G : Gx} {H : Hp} {ι : List Addr} : ∀ {ds es : List D} {vs us : List V}, RepL G H ι ds vs → RepL G H ι es us → RepL G H ι (ds ++ es) (vs ++ us)
  | [], _, _, _, h, g => by cases h; exact g
  | d :: ds, _, _, _, ⟨v, r, e, h1, h2⟩, g => by subst e; exact ⟨v, _, rfl, h1, repL_app h2 g⟩
theorem repL_nons {G : Gx} {H : Hp} {ι : List Addr} {α : Type} : ∀ ks : List α, RepL G H ι (ks.map fun _ => D.non) (ks.map fun _ => V.non)
  | [] => rfl
  | _ :: ks => ⟨_, _, rfl, rfl, repL_nons ks⟩
theorem de_callD {G : Gx} {X : Cx} {W : WX} {C : Call} {k f n : Nat} {x : Str} {e : Expr} {es : List Expr} {l : SL} {p pos : Pos} {ks : List Str} (hF : FnAtK X.prog X.w G X.mg X.base C k f x n ks) (hK : X.K = G.K) (hr : Room k X.A) (tk : Takes X W) (hg : Gl X x) (ha : DA G X W C (e :: es) l)
    (hdb : (x == ("__debug__" : Str)) = false := by decide) (he : starEach (e :: es) X.env = (false, eval e X.env) :: starEach es X.env := by rfl) (hpl : (backTo pos (starEach es X.env)).any (·.1) = false := by rfl) :
    DE G X W C (.Call (.Name x p) (e :: es) [] pos) (eCall f (lAdd l (ks.map fun _ => D.non))) := by
  obtain ⟨hm, hk, fd, ps, hok, ⟨ds, hd, hb⟩, _⟩ := hF
  rw [← hK] at hk hok hb
  exact pe_imp (pe_callSD hok hr hg hm hk hb hd (fun σ => passAt tk σ) ha hdb he hpl) fun σ H Q ⟨env, ι, st, hR, hp⟩ => by
    have hp : post G (Rep G) _ H ι Q (((l C env st).bind fun xs st => .ok (xs ++ ks.map fun _ => D.non) st).bind fun ds st => C f ds st) := hp
    cases el : l C env st with
    | ok a st1 =>
      rw [el] at hp
      refine ⟨env, ι, st, hR, ?_⟩
      rw [el]
      exact fun vs H1 ι1 e1 s1 r1 => ⟨_, ι1, st1, repL_app r1 (repL_nons ks), s1, hp.ext e1⟩
    | exc c x st1 => rw [el] at hp; exact ⟨env, ι, st, hR, by rw [el]; exact hp⟩
    | stuck => rw [el] at hp; exact hp.elim
theorem pkw_imp {X : Cx} {e : List Keyword} {t t' : TA} (h : PK X e t) (k : ∀ σ H Q, t' σ H Q → t σ H Q) : PK X e t' := ⟨fun pos pins s σ H Q I q => h.run pos pins s σ H Q I (k σ H Q q)⟩
def DKw (G : Gx) (X : Cx) (W : WX) (C : Call) (e : List Keyword) (m : SL) : Prop := PK X e (tA G W C m)
theorem dkw_nil {G : Gx} {X : Cx} {W : WX} {C : Call} : DKw G X W C [] lNil := pkw_imp pk_nil fun σ H Q ⟨env, ι, st, hR, hp⟩ => hp.here hR.sto (v := []) rfl
theorem dkw_cons {G : Gx} {X : Cx} {W : WX} {C : Call} {nm : Option Str} {e : Expr} {kpos : Pos} {es : List Keyword} {m : SE} {l : SL} (ha : DE G X W C e m) (hr : DKw G X W C es l) : DKw G X W C (⟨nm, e, kpos⟩ :: es) (lCons m l) :=
  pkw_imp (pk_cons ha hr) fun σ H Q ⟨env, ι, st, hR, hp⟩ => sqE hR hp fun x st1 v H1 ι1 e1 hR1 r1 hp1 => sqA hR1 hp1 fun xs st2 vs H2 ι2 e2 hR2 r2 hp2 =>
    hp2.here hR2.sto ⟨v, vs, rfl, r1.ext e2 hR1.sto.mut, r2⟩
theorem de_callK {G : Gx} {X : Cx} {W : WX} {C : Call} {k f n m : Nat} {x : Str} {e : Expr} {es : List Expr} {kws : List Keyword} {l l2 : SL} {p pos : Pos} {ks : List Str} (hF : FnAtK X.prog X.w G X.mg X.base C k f x n ks) (hK : X.K = G.K) (hr : Room k X.A) (tk : Takes X W) (hg : Gl X x) (ha : DA G X W C (e :: es) l) (hkw : DKw G X W C kws l2) (hm : ks.length = m := by rfl)
    (hall : (backToKw pos (keywordEach kws X.env)).all (·.1.isSome) = true := by rfl) (hks : (backToKw pos (keywordEach kws X.env)).filterMap (·.1) = ks := by rfl)
    (hdb : (x == ("__debug__" : Str)) = false := by decide) (he : starEach (e :: es) X.env = (false, eval e X.env) :: starEach es X.env := by rfl)
    (hpl : ((backTo pos (starEach (e :: es) X.env)).any (·.1) || (backToKw pos (keywordEach kws X.env)).any (·.1.isNone)) = false := by rfl) :
    DE G X W C (.Call (.Name x p) (e :: es) kws pos) (eCall f (lCat n m l l2)) := by
  obtain ⟨hmg, hk, fd, ps, hok, _, hb⟩ := hF
  rw [← hK] at hk hok hb
  exact pe_imp (pe_callNS hok hr hg hmg hk hb (fun σ => passAt tk σ) ha hkw hall hks hdb he hpl) fun σ H Q ⟨env, ι, st, hR, hp⟩ => by
    have hp : post G (Rep G) _ H ι Q (((l C env st).bind fun xs st => (l2 C env st).bind fun ys st => if xs.length = n ∧ ys.length = m then .ok (xs ++ ys) st else .stuck).bind fun ds st => C f ds st) := hp
    cases el : l C env st with
    | ok a st1 =>
      rw [el] at hp
      refine ⟨env, ι, st, hR, ?_⟩
      rw [el]
      intro vs H1 ι1 e1 s1 r1
      have hR1 := hR.ext e1 s1
      have hp : post G (Rep G) _ H ι Q (((l2 C env st1).bind fun ys st => if a.length = n ∧ ys.length = m then .ok (a ++ ys) st else .stuck).bind fun ds st => C f ds st) := hp
      cases el2 : l2 C env st1 with
      | ok b st2 =>
        rw [el2] at hp
        refine ⟨env, ι1, st1, hR1, ?_⟩
        rw [el2]
        intro zs H2 ι2 e2 s2 r2
        by_cases hh : a.length = n ∧ b.length = m
        · have hp : post G (Rep G) _ H ι Q ((if a.length = n ∧ b.length = m then Res.ok (a ++ b) st2 else .stuck).bind fun ds st => C f ds st) := hp
          rw [if_pos hh] at hp
          exact ⟨r1.length.trans hh.1, r2.length.trans (hh.2.trans hm.symm), _, ι2, st2, repL_app (r1.ext e2 s1.mut) r2, s2, (hp.ext e1).ext e2⟩
        · have hp : post G (Rep G) _ H ι Q ((if a.length = n ∧ b.length = m then Res.ok (a ++ b) st2 else .stuck).bind fun ds st => C f ds st) := hp
          rw [if_neg hh] at hp
          exact hp.elim
      | exc c x st2 => rw [el2] at hp; exact ⟨env, ι1, st1, hR1, by rw [el2]; exact hp.ext e1⟩
      | stuck => rw [el2] at hp; exact hp.elim
    | exc c x st1 => rw [el] at hp; exact ⟨env, ι, st, hR, by rw [el]; exact hp⟩
    | stuck => rw [el] at hp; exact hp.elim
end OH

set_option Elab.async false
set_option linter.all false
set_option maxRecDepth 100000
set_option maxHeartbeats 1000000
/-! OHAug: o[i] op= e. -/
namespace OH
open PySem PySem.Spec PyProof.Rows L2
def getL : Sto → D → D → Res D := fun st x y => match x, y with
  | .ref i, .int k => match lstAt st i with
    | some ds => Res.of (L2.atI ds k) st
    | none => .stuck
  | _, _ => .stuck
@[simp] theorem getL_ref (st : Sto) (i : Nat) (k : Int) : getL st (.ref i) (.int k) = match lstAt st i with | some ds => Res.of (L2.atI ds k) st | none => .stuck := rfl
def sAugS (f : Sto → D → D → Res D) (o i e : SE) : SS := fun C env st => (o C env st).thenS env fun x st => (i C env st).thenS env fun y st => (getL st x y).thenS env fun v st => (e C env st).thenS env fun u st => (f st v u).thenS env fun z st =>
  match putL st x y z with | some st' => .nx env st' | none => .stuck
@[simp] theorem sAugS_ap (f : Sto → D → D → Res D) (o i e : SE) (C : Call) (env : Env) (st : Sto) : sAugS f o i e C env st = (o C env st).thenS env fun x st => (i C env st).thenS env fun y st => (getL st x y).thenS env fun v st => (e C env st).thenS env fun u st => (f st v u).thenS env fun z st =>
  match putL st x y z with | some st' => .nx env st' | none => .stuck := rfl
theorem br_getL {G : Gx} : Br2 G (rIxL G.K) getL := by
  intro W H ι st x y v u Q s rx ry h
  unfold getL at h
  split at h
  · rename_i i k
    cases ry
    split at h
    · rename_i ds e
      obtain ⟨a, xs, k1, k2, k3⟩ := s.lst e
      obtain ⟨d, e2, h⟩ := h.opt
      obtain ⟨w, e3, r2⟩ := k3.atI e2
      obtain ⟨a', ea, rfl⟩ := rx
      rw [k1] at ea
      cases ea
      exact ⟨a, xs, _, w, rfl, rfl, .inl (.inl k2), e3, h.here s r2⟩
    · exact h.elim
  · exact h.elim
theorem get_list {X : Cx} : PGet X (rIxL X.K) := by
  intro pins s σ H x y v u Q I rx ry h
  obtain ⟨p, xs, i, z, rfl, rfl, hq, he, q⟩ := h
  cases rx
  obtain ⟨t, rfl⟩ := ry
  obtain ⟨its, r, pl, hz⟩ := I.list hq
  obtain ⟨j, h1, h2, h3, h4, h5⟩ := atI_get he
  obtain ⟨w, ew, rw'⟩ := r.get h2
  have hl := r.length
  have hn := line63
  have fin : EP X pins σ Q w s := ⟨z, H, I, rw', q⟩
  by_cases h0 : 0 ≤ i
  · have hj : i.toNat = j := by
      rw [seqIndex_of h0 h5] at h1
      exact Option.some.inj h1
    exact wpAny_getItem_list pl.isList h0 (by omega) (by rw [hj]; simpa using ew) fin
  · have hj : (i + (its.toArray.size : Int)).toNat = j := by
      rw [seqIndex_neg (by omega) h4] at h1
      rw [List.size_toArray, ← hl]
      exact Option.some.inj h1
    exact wpAny_getItem_list_neg pl.isList (by omega) (by rw [List.size_toArray] <;> omega) (by omega) (by rw [hj]; simpa using ew) fin
theorem ds_augS {G : Gx} {X : Cx} {W : WX} {C : Call} {s : Stmt} {ti : TIp} {f : Sto → D → D → Res D} {mo mi me : SE} (hK : X.K = G.K) (h : PS X s (tAugS (tE G W C mo) (tE G W C mi) (tE G W C me) (rIxL X.K) ti rSetL)) (br : Br2 G ti f) : DS G X W C s (sAugS f mo mi me) := by
  rw [hK] at h
  exact ps_imp h fun K σ H ⟨env, ι, st, hR, hp⟩ => ssE hR hp fun o st1 ov H1 ι1 e1 hR1 r1 hp1 => ssE hR1 hp1 fun i st2 iv H2 ι2 e2 hR2 r2 hp2 => by
    have r1' := r1.ext e2 hR1.sto.mut
    refine br_getL (fun cls ad H' => W cls ad σ H') H2 ι2 st2 o i ov iv _ hR2.sto r1' r2 ?_
    have hp2 : postS G W K H2 ι2 ((getL st2 o i).thenS env fun v st => (me C env st).thenS env fun u st => (f st v u).thenS env fun z st => match putL st o i z with | some st' => .nx env st' | none => .stuck) := hp2
    generalize getL st2 o i = r at hp2
    cases r with
    | exc c x st3 => exact fun cls ad H3 ι3 e3 s3 r3 => hp2 cls ad σ H3 ι3 e3 (hR2.ext e3 s3) r3
    | stuck => exact hp2
    | ok v st3 =>
      intro vv H3 ι3 e3 s3 r3
      have hR3 := hR2.ext e3 s3
      have hp3 : postS G W K H2 ι2 ((me C env st3).thenS env fun u st => (f st v u).thenS env fun z st => match putL st o i z with | some st' => .nx env st' | none => .stuck) := hp2
      refine ssE hR3 (hp3.ext e3) fun u st4 uv H4 ι4 e4 hR4 r4 hp4 => ?_
      have hp4 : postS G W K H4 ι4 ((f st4 v u).thenS env fun z st => match putL st o i z with | some st' => .nx env st' | none => .stuck) := hp4
      refine br (fun cls ad H' => W cls ad σ H') H4 ι4 st4 v u vv uv _ hR4.sto (r3.ext e4 hR3.sto.mut) r4 ?_
      generalize f st4 v u = r at hp4
      cases r with
      | exc c x st5 => exact fun cls ad H5 ι5 e5 s5 r5 => hp4 cls ad σ H5 ι5 e5 (hR4.ext e5 s5) r5
      | stuck => exact hp4
      | ok z st5 =>
        intro zv H5 ι5 e5 s5 r5
        have hR5 := hR4.ext e5 s5
        have hp5 : postS G W K H4 ι4 (match putL st5 o i z with | some st' => .nx env st' | none => .stuck) := hp4
        cases e : putL st5 o i z with
        | none => rw [e] at hp5; exact hp5.elim
        | some st6 =>
          rw [e] at hp5
          have o5 := ((r1'.ext e3 hR2.sto.mut).ext e4 hR3.sto.mut).ext e5 hR4.sto.mut
          have i5 := ((r2.ext e3 hR2.sto.mut).ext e4 hR3.sto.mut).ext e5 hR4.sto.mut
          exact br_putL H5 ι5 st5 st6 o i z ov iv zv _ hR5.sto o5 i5 r5 e fun H' ι' e' s' => hp5 σ H' ι' (e5.trans e') (hR5.ext e' s')
end OH

set_option Elab.async false
set_option linter.all false
set_option maxRecDepth 100000
set_option maxHeartbeats 1000000
/-! OHRng: range with a step. -/
namespace OH
open PySem PySem.Spec PyProof.Rows L2
noncomputable def rngC (i j c : Int) : Bool := tsd (c ≠ 0 ∧ c.natAbs < 1073741824 ∧ Builtin.Range.small i j c = true)
def rngSz (i j c : Int) : Nat := (Builtin.Range.rangeSize i j c).toNat
noncomputable def siR3 (l : SL) : SI := fun C env st => (l C env st).bind fun ds st => match ds with
  | [.int i, .int j, .int c] => if rngC i j c then .ok ⟨(List.range (rngSz i j c)).map fun (k : Nat) => D.int (i + (k : Int) * c), []⟩ st else .stuck
  | _ => .stuck
@[simp] theorem siR3_ap (l : SL) (C : Call) (env : Env) (st : Sto) : siR3 l C env st = (l C env st).bind fun ds st => match ds with
  | [.int i, .int j, .int c] => if rngC i j c then .ok ⟨(List.range (rngSz i j c)).map fun (k : Nat) => D.int (i + (k : Int) * c), []⟩ st else .stuck
  | _ => .stuck := rfl
theorem range_repC {G : Gx} {H0 H : Hp} {ι : List Addr} (lo : Int) (c : Int) (n : Nat) : repW G H0 H ι ⟨(List.range n).map fun (k : Nat) => D.int (lo + (k : Int) * c), []⟩ (Itc lo c n) := by
  intro H2 ι2 st2 e2 s2 _
  refine ⟨fun i d h => ?_, fun i h => ?_⟩
  · rw [List.getElem?_map] at h
    obtain ⟨k, hk, rfl⟩ := Option.map_eq_some_iff.mp h
    obtain ⟨hi, e⟩ := List.getElem?_eq_some_iff.mp hk
    simp at e hi
    subst e
    refine ⟨hi, fun x H3 hy => ?_⟩
    obtain ⟨rfl, rfl⟩ := hy
    exact ⟨Ext.refl _ _, s2, rfl⟩
  · have : n ≤ i := by simpa using h
    exact this
theorem di_r3 {G : Gx} {X : Cx} {W : WX} {C : Call} {tg e : Expr} {l : SL} (h : PI X tg e (iRng3 (tA G W C l))) : DI G X W C tg e (siR3 l) := pi_imp h fun σ H Q ⟨env, ι, st, hR, hp⟩ => sqA hR hp fun ds st1 vs H1 ι1 e1 hR1 r1 hp1 => by
  split at hp1
  · obtain ⟨_, _, rfl, rfl, _, _, rfl, rfl, _, _, rfl, rfl, rfl⟩ := r1
    split at hp1
    · rename_i i j c hz
      have hz1 := tsd_of hz
      exact ⟨i, j, c, _, rfl, ⟨hz1.1, hz1.2.1, hz1.2.2, rangeSize_toNat i j c⟩, hp1.here hR1.sto (range_repC i c _)⟩
    · exact hp1.elim
  · exact hp1.elim
theorem rngC_down {i j : Int} (ha : -(2 ^ 62) ≤ i) (ha' : i < 2 ^ 62) (hb : -(2 ^ 62) ≤ j) (hb' : j < 2 ^ 62) : rngC i j (-1) = true := of_tsd ⟨by decide, by decide, PySem.W.small_down ha ha' hb hb'⟩
theorem rngSz_down (i j : Int) : rngSz i j (-1) = (i - j).toNat := by unfold rngSz; rw [PySem.W.rangeSize_downNat]; rfl
end OH

set_option Elab.async false
set_option linter.all false
set_option maxRecDepth 100000
set_option maxHeartbeats 1000000
/-! OHTry: try .. except X, try .. except X as e with isinstance(e, Y) in the suite. -/
namespace OH
open PySem PySem.Spec PyProof.Rows L2

/-- is it of the class, by a table of the classes that may come -/
def tbl (tb : List (Nat × Bool)) (c : Nat) : Option Bool := (tb.find? fun p => p.1 == c).map (·.2)
theorem tbl_mem {tb : List (Nat × Bool)} {c : Nat} {b : Bool} (h : tbl tb c = some b) : (c, b) ∈ tb := by
  unfold tbl at h
  obtain ⟨p, h1, h2⟩ := Option.map_eq_some_iff.mp h
  have := List.find?_some h1
  have e : p.1 = c := by simpa using this
  have := List.mem_of_find?_eq_some h1
  rw [← e, ← h2]; exact this
def eIs (tb : List (Nat × Bool)) (c : Nat) : SE := fun _ _ st => match tbl tb c with | some b => .ok (.bl b) st | none => .stuck
def wipeS (i : Nat) : RS → RS
  | .nx env st => .nx (env.set i none) st
  | .brk env st => .brk (env.set i none) st
  | .cnt env st => .cnt (env.set i none) st
  | .ret d st => .ret d st
  | _ => .stuck
def sTryAs (tb : List (Nat × Bool)) (i : Nat) (body : SS) (suite : Nat → SS) : SS := fun C env st => match body C env st with
  | .exc c x env' st' => match tbl tb c with
    | some true => if x = .non ∧ i < env'.length then wipeS i (suite c C (env'.set i none) st') else .stuck
    | some false => .exc c x env' st'
    | none => .stuck
  | r => r
def noXS : RS → RS
  | .exc _ _ _ _ => .stuck
  | r => r
def sTry (tb : List (Nat × Bool)) (body suite : SS) : SS := fun C env st => match body C env st with
  | .exc c x env' st' => match tbl tb c with
    | some true => if x = .non then noXS (suite C env' st') else .stuck
    | some false => .exc c x env' st'
    | none => .stuck
  | r => r
/-- what a suite's meaning promises: slot i holds the exception -/
def tSx (G : Gx) (W : WX) (C : Call) (a : Addr) (i : Nat) (m : SS) : TS := fun K σ H => σ[i]? = some (some (.ref a)) ∧ ∃ env ι st, R G σ H env ι st ∧ postS G W K H ι (m C env st)
def DSsX (G : Gx) (X : Cx) (W : WX) (C : Call) (a : Addr) (i : Nat) (s : List Stmt) (m : SS) : Prop := PSs X s (tSx G W C a i m)
def tEx (G : Gx) (W : WX) (C : Call) (a : Addr) (i : Nat) (m : SE) : TE := fun σ H Q => σ[i]? = some (some (.ref a)) ∧ tE G W C m σ H Q
def DEx (G : Gx) (X : Cx) (W : WX) (C : Call) (a : Addr) (i : Nat) (e : Expr) (m : SE) : Prop := PE X e (tEx G W C a i m)
def tAx (G : Gx) (W : WX) (C : Call) (a : Addr) (i : Nat) (m : SL) : TA := fun σ H Q => σ[i]? = some (some (.ref a)) ∧ tA G W C m σ H Q
def DAx (G : Gx) (X : Cx) (W : WX) (C : Call) (a : Addr) (i : Nat) (e : List Expr) (m : SL) : Prop := PA X e (tAx G W C a i m)
def tTx (G : Gx) (W : WX) (C : Call) (a : Addr) (i : Nat) (m : SL) : TE := fun σ H Q => σ[i]? = some (some (.ref a)) ∧ tT G W C m σ H Q
def DTx (G : Gx) (X : Cx) (W : WX) (C : Call) (a : Addr) (i : Nat) (e : Expr) (m : SL) : Prop := PE X e (tTx G W C a i m)
section
variable {G : Gx} {X : Cx} {W : WX} {C : Call} {a : Addr} {i : Nat}
theorem dex_of {e : Expr} {m : SE} (h : DE G X W C e m) : DEx G X W C a i e m := pe_imp h fun σ H Q ⟨_, h⟩ => h
theorem dax_nil : DAx G X W C a i [] lNil := pa_imp pa_nil fun σ H Q ⟨hσ, env, ι, st, hR, hp⟩ => hp.here hR.sto (v := []) rfl
theorem dax_cons {e : Expr} {es : List Expr} {m : SE} {l : SL} (ha : DEx G X W C a i e m) (hr : DAx G X W C a i es l) (hs : starEach (e :: es) X.env = (false, eval e X.env) :: starEach es X.env := by rfl) : DAx G X W C a i (e :: es) (lCons m l) :=
  pa_imp (pa_cons ha hr hs) fun σ H Q ⟨hσ, env, ι, st, hR, hp⟩ => ⟨hσ, sqE hR hp fun x st1 v H1 ι1 e1 hR1 r1 hp1 => ⟨hσ, sqA hR1 hp1 fun xs st2 vs H2 ι2 e2 hR2 r2 hp2 =>
    hp2.here hR2.sto ⟨v, vs, rfl, r1.ext e2 hR1.sto.mut, r2⟩⟩⟩
theorem dtx_lst {es : List Expr} {l : SL} {pos : Pos} (h : DAx G X W C a i es l) : DTx G X W C a i (.List es pos) (lLst l) :=
  pe_imp (pe_lst h) fun σ H Q ⟨hσ, env, ι, st, hR, hp⟩ => ⟨hσ, sqA hR hp fun ds st1 vs H1 ι1 e1 hR1 r1 hp1 => by
    obtain ⟨ds', e, hp2⟩ := hp1.opt
    dsimp only at e
    split at e
    · rename_i hz
      cases e
      refine ⟨by rw [r1.length]; exact hz, fun p hp => ?_⟩
      refine hp2 _ _ ι1 (ext_new hp) (hR1.sto.fresh hp) ⟨p, vs, rfl, upd_same, hR1.sto.notin hp, ?_, r1.ext (ext_new hp) hR1.sto.mut⟩
      cases q : H p with
      | none => rfl
      | some o =>
        by_cases hm : p ∈ ι
        · have := hR.sto.mut p hm
          obtain ⟨r, rfl⟩ := e1.more
          have m2 := hR1.sto.mut p (by simp [hm])
          rw [hp] at m2
          rcases m2 with m2 | ⟨_, _, m2⟩
          · exact m2.elim
          · cases m2
        · have := e1.keep p o q hm
          rw [hp] at this; cases this
    · cases e⟩
theorem dex_new {e : Expr} {l : SL} (h : DTx G X W C a i e l) : DEx G X W C a i e (eNew l) :=
  pe_imp h fun σ H Q ⟨hσ, env, ι, st, hR, hp⟩ => ⟨hσ, sqT hR hp fun ds st1 a xs H1 ι1 e1 hR1 h1 h2 h3 h4 hp1 =>
    hp1 (.ref a) H1 (ι1 ++ [a]) (e1.take h3) (hR1.sto.push h2 ⟨xs, h1, h4.grow _⟩) ⟨a, by rw [← hR1.sto.len]; simp, rfl⟩⟩
theorem dex_add (hK : X.K = G.K) {p q : Expr} {ma mb : SE} {pos : Pos} (ha : DEx G X W C a i p ma) (hb : DEx G X W C a i q mb) : DEx G X W C a i (.BinOp p .Add q pos) (eB2 addR ma mb) :=
  pe_imp (pe_op op_addD ha hb) fun σ H Q ⟨hσ, env, ι, st, hR, hp⟩ => ⟨hσ, sqE hR hp fun x st1 v H1 ι1 e1 hR1 r1 hp1 => ⟨hσ, sqE hR1 hp1 fun y st2 u H2 ι2 e2 hR2 r2 hp2 =>
    br_add X.K hK _ H2 ι2 st2 x y v u Q hR2.sto (r1.ext e2 hR1.sto.mut) r2 hp2⟩⟩
/-- isinstance(e, Y) -/
theorem dex_isi {c : Nat} {oe : Obj} {pn : List (Addr × Obj)} {tb : List (Nat × Bool)} {x y : Str} {ps : Pos} {p1 p2 : Pos} {cv : V} {u : Value} (hE : ExcC X.K (G.ca c)) (hz : Zc (.ref (G.ca c)) none oe) (hf : ∃ vs, oe.data = .fields vs)
    (hk : ∀ b, tbl tb c = some b → PySem.W.kitOne X.K (.ref (G.ca c)) u = some b) (hu : ∀ w, RelV cv w → w = u)
    (hv : PE (X.suite a ((a, oe) :: pn)) (.Name x p1) (tVar i)) (ht : PE (X.suite a ((a, oe) :: pn)) (.Name y p2) (tC cv)) (hg : Gl (X.suite a ((a, oe) :: pn)) "isinstance") (hm : X.mg "isinstance" = none)
    (he : starEach [.Name x p1, .Name y p2] (X.suite a ((a, oe) :: pn)).env = (false, eval (.Name x p1) (X.suite a ((a, oe) :: pn)).env) :: starEach [.Name y p2] (X.suite a ((a, oe) :: pn)).env := by rfl)
    (he2 : starEach [.Name y p2] (X.suite a ((a, oe) :: pn)).env = (false, eval (.Name y p2) (X.suite a ((a, oe) :: pn)).env) :: starEach [] (X.suite a ((a, oe) :: pn)).env := by rfl)
    (hpl : (backTo ps (starEach [.Name y p2] (X.suite a ((a, oe) :: pn)).env)).any (·.1) = false := by rfl) {np : Pos} :
    DEx G (X.suite a ((a, oe) :: pn)) W C a i (.Call (.Name "isinstance" np) [.Name x p1, .Name y p2] [] ps) (eIs tb c) := by
  refine pe_imp (pe_callB (call_isE hE hz hf) hg hm PyProof.Rows.boot_isinstance (pa_cons hv (pa_cons ht pa_nil he2) he) (by decide) (by decide) he hpl) fun σ H Q ⟨hσ, env, ι, st, hR, hp⟩ => ?_
  unfold eIs at hp
  cases e : tbl tb c with
  | none => rw [e] at hp; exact hp.elim
  | some b =>
    rw [e] at hp
    exact ⟨_, hσ, cv, u, b, rfl, hu, hk b e, hp.here hR.sto (v := .bl b) rfl⟩
theorem dssx_nil : DSsX G X W C a i [] sNx := pss_imp pss_nil fun K σ H ⟨hσ, env, ι, st, hR, hp⟩ => hp σ H ι (Ext.refl _ _) hR
theorem dssx_set {s : Stmt} {r : List Stmt} {j : Nat} {m : SE} {mr : SS} (ne : j ≠ i) (h : PS X s (tAsg (tEx G W C a i m) (gName j))) (hr : DSsX G X W C a i r mr) : DSsX G X W C a i (s :: r) (sSeq (sSet j m) mr) :=
  pss_imp (pss_cons h hr) fun K σ H ⟨hσ, env, ι, st, hR, hp⟩ => by
    refine ⟨hσ, env, ι, st, hR, ?_⟩
    have hp : postS G W K H ι (((m C env st).thenS env fun d st => .nx (env.set j (some d)) st).thenS fun env st => mr C env st) := hp
    generalize m C env st = r at hp
    cases r with
    | ok d st1 =>
      intro v H1 ι1 e1 s1 r1
      have hR1 := (hR.ext e1 s1).set r1 j
      refine ⟨by rw [List.getElem?_set_ne ne]; exact hσ, _, ι1, st1, hR1, ?_⟩
      exact hp.ext e1
    | exc c x st1 => exact fun cls ad H1 ι1 e1 s1 r1 => hp cls ad σ H1 ι1 e1 (hR.ext e1 s1) r1
    | stuck => exact hp
theorem R.unset {σ : L2.St} {H : Hp} {ι : List Addr} {env : Env} {st : Sto} (hR : R G σ H env ι st) (i : Nat) (o : Option V) : R G (σ.set i o) H (env.set i none) ι st := by
  refine ⟨by simpa using hR.len, fun j d' h => ?_, hR.sto⟩
  by_cases e : i = j
  · subst e
    have hl := (List.getElem?_eq_some_iff.mp h).1
    simp at hl
    rw [List.getElem?_set_self hl] at h
    cases h
  · rw [List.getElem?_set_ne e] at h
    rw [List.getElem?_set_ne e]
    exact hR.var j d' h
theorem ds_tryAs {x n : Str} {cv : Value} {i : Nat} {body suite : List Stmt} {b₀ : Stmt} {np pos pos' : Pos} {tb : List (Nat × Bool)} {mb : SS} {ms : Nat → SS} (hs : X.stack = X.env :: X.outer) (hf : X.env.frame = some X.env.locals) (hN : X.N.Nodup) (hi : X.N[i]? = some n) (hln : X.env.kindOf n = some .local) (hc : Names X x cv) (tk : Takes X W)
    (hex : ∀ c b, tbl tb c = some b → PySem.W.exmOne X.K (.ref (G.ca c)) cv = some b)
    (hb : ∀ (W : WX) (pn : List (Addr × Obj)) (xe : Value → Shared → Prop), Takes (X.tr pn xe) W → PassesOwn (model X.prog X.w) X.A X.env xe → DSs G (X.tr pn xe) W C body mb)
    (hsu : ∀ (a : Addr) (oe : Obj) (c : Nat) (pn : List (Addr × Obj)), Zc (.ref (G.ca c)) none oe → (∃ vs, oe.data = .fields vs) → tbl tb c = some true → DSsX G (X.suite a ((a, oe) :: pn)) WF C a i (b₀ :: suite) (ms c)) :
    DS G X W C (.Try body [.ExceptHandler (some (.Name x np)) (some n) (b₀ :: suite) pos'] [] [] pos) (sTryAs tb i mb ms) := by
  refine ps_imp (ps_try_as (tb := fun W => tSt G W C mb) (ts := fun a cls d K σ H => ∃ c, cls = .ref (G.ca c) ∧ d = none ∧ tbl tb c = some true ∧ tSx G WF C a i (ms c) K σ H) (Wout := W) hs hf hN hi hln hc tk (fun W pn xe t p => hb W pn xe t p)
    (fun a oe cls d pn hz hf => ⟨fun pins s σ H D I ⟨c, e, ed, hl, q⟩ => by subst e ed; exact (hsu a oe c pn hz hf hl).run pins s σ H D I q⟩)) fun K σ H ⟨env, ι, st, hR, hp⟩ => ?_
  refine ⟨env, ι, st, hR, ?_⟩
  have hp : postS G W K H ι (match mb C env st with
    | .exc c x env' st' => match tbl tb c with
      | some true => if x = .non ∧ i < env'.length then wipeS i (ms c C (env'.set i none) st') else .stuck
      | some false => .exc c x env' st'
      | none => .stuck
    | r => r) := hp
  generalize mb C env st = r at hp
  cases r with
  | nx env' st' => exact hp
  | brk env' st' => exact hp
  | cnt env' st' => exact hp
  | ret d st' => exact hp
  | stuck => exact hp
  | exc c xx env' st' =>
    dsimp only at hp
    intro cls ad σ' H' ι' e' hR' hE
    cases ht : tbl tb c with
    | none => rw [ht] at hp; exact hp.elim
    | some b =>
      rw [ht] at hp
      cases b with
      | false =>
        obtain ⟨e1, e2⟩ := hE
        exact ⟨false, by rw [e1]; exact hex c false ht, (fun z => by cases z), fun _ => hp cls ad σ' H' ι' e' hR' ⟨e1, e2⟩⟩
      | true =>
        dsimp only at hp
        by_cases hh : xx = .non ∧ i < env'.length
        · rw [if_pos hh] at hp
          obtain ⟨hx, hl⟩ := hh
          subst hx
          obtain ⟨e1, e2⟩ := hE
          refine ⟨true, by rw [e1]; exact hex c true ht, fun _ a ha => ⟨c, e1, e2, ht, List.getElem?_set_self (by rw [hR'.len]; exact hl), env'.set i none, ι', st', hR'.unset i _, ?_⟩, fun z => by cases z⟩
          generalize ms c C (env'.set i none) st' = r at hp
          cases r with
          | nx env2 st2 => exact fun σ2 H2 ι2 e2 r2 => hp (σ2.set i none) H2 ι2 (e'.trans e2) (r2.unset i none)
          | brk env2 st2 => exact fun σ2 H2 ι2 e2 r2 => hp (σ2.set i none) H2 ι2 (e'.trans e2) (r2.unset i none)
          | cnt env2 st2 => exact fun σ2 H2 ι2 e2 r2 => hp (σ2.set i none) H2 ι2 (e'.trans e2) (r2.unset i none)
          | ret d st2 => exact fun v H2 ι2 e2 s2 r2 => hp v H2 ι2 (e'.trans e2) s2 r2
          | exc c x env2 st2 => exact hp.elim
          | stuck => exact hp.elim
        · rw [if_neg hh] at hp; exact hp.elim
theorem ds_try {x : Str} {cv : Value} {body suite : List Stmt} {b₀ : Stmt} {np pos pos' : Pos} {tb : List (Nat × Bool)} {mb ms : SS} (hs : X.stack = X.env :: X.outer) (hf : X.env.frame = some X.env.locals) (hc : Names X x cv) (tk : Takes X W)
    (hex : ∀ c b, tbl tb c = some b → PySem.W.exmOne X.K (.ref (G.ca c)) cv = some b)
    (hb : ∀ (W : WX) (pn : List (Addr × Obj)) (xe : Value → Shared → Prop), Takes (X.tr pn xe) W → PassesOwn (model X.prog X.w) X.A X.env xe → DSs G (X.tr pn xe) W C body mb)
    (hsu : ∀ (a : Addr) (oe : Obj) (pn : List (Addr × Obj)), DSs G (X.suite a ((a, oe) :: pn)) WF C (b₀ :: suite) ms) :
    DS G X W C (.Try body [.ExceptHandler (some (.Name x np)) none (b₀ :: suite) pos'] [] [] pos) (sTry tb mb ms) := by
  refine ps_imp (ps_try_only (tb := fun W => tSt G W C mb) (ts := fun a cls d K σ H => tSt G WF C ms K σ H) (Wout := W) hs hf hc tk (fun W pn xe t p => hb W pn xe t p)
    (fun a oe cls d pn hz hf => hsu a oe pn)) fun K σ H ⟨env, ι, st, hR, hp⟩ => ?_
  refine ⟨env, ι, st, hR, ?_⟩
  have hp : postS G W K H ι (match mb C env st with
    | .exc c x env' st' => match tbl tb c with
      | some true => if x = .non then noXS (ms C env' st') else .stuck
      | some false => .exc c x env' st'
      | none => .stuck
    | r => r) := hp
  generalize mb C env st = r at hp
  cases r with
  | nx env' st' => exact hp
  | brk env' st' => exact hp
  | cnt env' st' => exact hp
  | ret d st' => exact hp
  | stuck => exact hp
  | exc c xx env' st' =>
    dsimp only at hp
    intro cls ad σ' H' ι' e' hR' hE
    cases ht : tbl tb c with
    | none => rw [ht] at hp; exact hp.elim
    | some b =>
      rw [ht] at hp
      cases b with
      | false =>
        obtain ⟨e1, e2⟩ := hE
        exact ⟨false, by rw [e1]; exact hex c false ht, (fun z => by cases z), fun _ => hp cls ad σ' H' ι' e' hR' ⟨e1, e2⟩⟩
      | true =>
        dsimp only at hp
        by_cases hh : xx = .non
        · rw [if_pos hh] at hp
          subst hh
          obtain ⟨e1, e2⟩ := hE
          refine ⟨true, by rw [e1]; exact hex c true ht, fun _ a ha => ⟨env', ι', st', hR', ?_⟩, fun z => by cases z⟩
          generalize ms C env' st' = r at hp
          cases r with
          | nx env2 st2 => exact fun σ2 H2 ι2 e2 r2 => hp σ2 H2 ι2 (e'.trans e2) r2
          | brk env2 st2 => exact fun σ2 H2 ι2 e2 r2 => hp σ2 H2 ι2 (e'.trans e2) r2
          | cnt env2 st2 => exact fun σ2 H2 ι2 e2 r2 => hp σ2 H2 ι2 (e'.trans e2) r2
          | ret d st2 => exact fun v H2 ι2 e2 s2 r2 => hp v H2 ι2 (e'.trans e2) s2 r2
          | exc c x env2 st2 => exact hp.elim
          | stuck => exact hp.elim
        · rw [if_neg hh] at hp; exact hp.elim
end
/-! ### str(i) -/
noncomputable def strR : Sto → D → Res D := fun st x => match x with
  | .int i => if tsd (i.natAbs.log2 < 1920) then .ok (.str (toString i)) st else .stuck
  | _ => .stuck
@[simp] theorem strR_int (st : Sto) (i : Int) : strR st (.int i) = if tsd (i.natAbs.log2 < 1920) then .ok (.str (toString i)) st else .stuck := rfl
theorem br_str {G : Gx} : Br1L G (fun xs H Q => ∃ i, xs = [.int i] ∧ i.natAbs.log2 < 1920 ∧ Q (.str (toString i)) H) strR := by
  intro W H ι st x v Q s rx h
  unfold strR at h
  split at h
  · cases rx
    split at h
    · rename_i hz
      exact ⟨_, rfl, tsd_of hz, h.here s (v := .str _) rfl⟩
    · exact h.elim
  · exact h.elim
/-! ### facts by the members of a table -/
theorem tb_nil {P : Nat → Bool → Prop} : ∀ c b, (c, b) ∈ ([] : List (Nat × Bool)) → P c b := fun c b h => by cases h
theorem tb_cons {P : Nat → Bool → Prop} {c0 : Nat} {b0 : Bool} {l : List (Nat × Bool)} (h : P c0 b0) (t : ∀ c b, (c, b) ∈ l → P c b) : ∀ c b, (c, b) ∈ (c0, b0) :: l → P c b := fun c b hm => by
  rcases List.mem_cons.mp hm with e | e
  · cases e; exact h
  · exact t c b e
end OH

set_option Elab.async false
set_option linter.all false
set_option maxRecDepth 100000
set_option maxHeartbeats 1000000
/-! OHHand: try with two handlers. -/
namespace OH
open PySem PySem.Spec PyProof.Rows L2
def sTry2 (t1 t2 : List (Nat × Bool)) (body s1 s2 : SS) : SS := fun C env st => match body C env st with
  | .exc c x env' st' => match tbl t1 c with
    | some true => if x = .non then noXS (s1 C env' st') else .stuck
    | some false => match tbl t2 c with
      | some true => if x = .non then noXS (s2 C env' st') else .stuck
      | some false => .exc c x env' st'
      | none => .stuck
    | none => .stuck
  | r => r
section
variable {G : Gx} {X : Cx} {W : WX} {C : Call} {a : Addr} {i : Nat}
theorem ds_try2 {x y : Str} {cv cv2 : Value} {body suite suite2 : List Stmt} {b₀ b₁ : Stmt} {np pos pos' np2 pos2 : Pos} {t1 t2 : List (Nat × Bool)} {mb m1 m2 : SS} (hs : X.stack = X.env :: X.outer) (hf : X.env.frame = some X.env.locals) (hc : Names X x cv) (hc2 : Names X y cv2) (tk : Takes X W)
    (hex : ∀ c b, tbl t1 c = some b → PySem.W.exmOne X.K (.ref (G.ca c)) cv = some b)
    (hex2 : ∀ c b, tbl t2 c = some b → PySem.W.exmOne X.K (.ref (G.ca c)) cv2 = some b)
    (hb : ∀ (W : WX) (pn : List (Addr × Obj)) (xe : Value → Shared → Prop), Takes (X.tr pn xe) W → PassesOwn (model X.prog X.w) X.A X.env xe → DSs G (X.tr pn xe) W C body mb)
    (hsu : ∀ (a : Addr) (oe : Obj) (pn : List (Addr × Obj)), DSs G (X.suite a ((a, oe) :: pn)) WF C (b₀ :: suite) m1)
    (hsu2 : ∀ (a : Addr) (oe : Obj) (pn : List (Addr × Obj)), DSs G (X.suite a ((a, oe) :: pn)) WF C (b₁ :: suite2) m2) :
    DS G X W C (.Try body [.ExceptHandler (some (.Name x np)) none (b₀ :: suite) pos', .ExceptHandler (some (.Name y np2)) none (b₁ :: suite2) pos2] [] [] pos) (sTry2 t1 t2 mb m1 m2) := by
  refine ps_imp (ps_try_many (tb := fun W => tSt G W C mb) (l := [(cv, fun a cls d K σ H => tSt G WF C m1 K σ H), (cv2, fun a cls d K σ H => tSt G WF C m2 K σ H)]) (Wout := W) hs hf tk (fun W pn xe t p => hb W pn xe t p)
    (.cons hc (fun a oe cls d pn hz hf => hsu a oe pn) (.cons hc2 (fun a oe cls d pn hz hf => hsu2 a oe pn) .nil))) fun K σ H ⟨env, ι, st, hR, hp⟩ => ?_
  refine ⟨env, ι, st, hR, ?_⟩
  have hp : postS G W K H ι (match mb C env st with
    | .exc c x env' st' => match tbl t1 c with
      | some true => if x = .non then noXS (m1 C env' st') else .stuck
      | some false => match tbl t2 c with
        | some true => if x = .non then noXS (m2 C env' st') else .stuck
        | some false => .exc c x env' st'
        | none => .stuck
      | none => .stuck
    | r => r) := hp
  generalize mb C env st = r at hp
  cases r with
  | nx env' st' => exact hp
  | brk env' st' => exact hp
  | cnt env' st' => exact hp
  | ret d st' => exact hp
  | stuck => exact hp
  | exc c xx env' st' =>
    dsimp only at hp
    intro cls ad σ' H' ι' e' hR' hE
    cases ht : tbl t1 c with
    | none => rw [ht] at hp; exact hp.elim
    | some b =>
      rw [ht] at hp
      cases b with
      | false =>
        dsimp only at hp
        obtain ⟨e1, e2⟩ := hE
        refine ⟨false, by rw [e1]; exact hex c false ht, (fun z => by cases z), fun _ => ?_⟩
        cases ht2 : tbl t2 c with
        | none => rw [ht2] at hp; exact hp.elim
        | some b2 =>
          rw [ht2] at hp
          cases b2 with
          | false => exact ⟨false, by rw [e1]; exact hex2 c false ht2, (fun z => by cases z), fun _ => hp cls ad σ' H' ι' e' hR' ⟨e1, e2⟩⟩
          | true =>
            dsimp only at hp
            by_cases hh : xx = .non
            · rw [if_pos hh] at hp
              subst hh
              refine ⟨true, by rw [e1]; exact hex2 c true ht2, fun _ a ha => ⟨env', ι', st', hR', ?_⟩, fun z => by cases z⟩
              generalize m2 C env' st' = r at hp
              cases r with
              | nx env2 st2 => exact fun σ2 H2 ι2 e2 r2 => hp σ2 H2 ι2 (e'.trans e2) r2
              | brk env2 st2 => exact fun σ2 H2 ι2 e2 r2 => hp σ2 H2 ι2 (e'.trans e2) r2
              | cnt env2 st2 => exact fun σ2 H2 ι2 e2 r2 => hp σ2 H2 ι2 (e'.trans e2) r2
              | ret d st2 => exact fun v H2 ι2 e2 s2 r2 => hp v H2 ι2 (e'.trans e2) s2 r2
              | exc c x env2 st2 => exact hp.elim
              | stuck => exact hp.elim
            · rw [if_neg hh] at hp; exact hp.elim
      | true =>
        dsimp only at hp
        by_cases hh : xx = .non
        · rw [if_pos hh] at hp
          subst hh
          obtain ⟨e1, e2⟩ := hE
          refine ⟨true, by rw [e1]; exact hex c true ht, fun _ a ha => ⟨env', ι', st', hR', ?_⟩, fun z => by cases z⟩
          generalize m1 C env' st' = r at hp
          cases r with
          | nx env2 st2 => exact fun σ2 H2 ι2 e2 r2 => hp σ2 H2 ι2 (e'.trans e2) r2
          | brk env2 st2 => exact fun σ2 H2 ι2 e2 r2 => hp σ2 H2 ι2 (e'.trans e2) r2
          | cnt env2 st2 => exact fun σ2 H2 ι2 e2 r2 => hp σ2 H2 ι2 (e'.trans e2) r2
          | ret d st2 => exact fun v H2 ι2 e2 s2 r2 => hp v H2 ι2 (e'.trans e2) s2 r2
          | exc c x env2 st2 => exact hp.elim
          | stuck => exact hp.elim
        · rw [if_neg hh] at hp; exact hp.elim
end
/-! ### list.index of flat items -/
def flV : D → Option V
  | .int i => some (.int i)
  | .str s => some (.str s)
  | _ => none
def flVs : List D → Option (List V)
  | [] => some []
  | d :: ds => (flV d).bind fun v => (flVs ds).map fun vs => v :: vs
section
variable {G : Gx}
theorem fl_rep {H : Hp} {ι : List Addr} {d : D} {v v' : V} (h : flV d = some v) (r : Rep G H ι d v') : v' = v ∧ flatV v = true := by
  cases d with
  | int i => cases h; cases r; exact ⟨rfl, rfl⟩
  | str i => cases h; cases r; exact ⟨rfl, rfl⟩
  | _ => cases h
theorem fls_rep {H : Hp} {ι : List Addr} : ∀ {ds : List D} {vs vs' : List V}, flVs ds = some vs → RepL G H ι ds vs' → vs' = vs ∧ vs.all flatV = true
  | [], vs, vs', h, r => by cases h; cases r; exact ⟨rfl, rfl⟩
  | d :: ds, vs, vs', h, r => by
    obtain ⟨v, w, rfl, r1, r2⟩ := r
    unfold flVs at h
    cases e1 : flV d with
    | none => rw [e1] at h; cases h
    | some u =>
      rw [e1] at h
      cases e2 : flVs ds with
      | none => rw [e2] at h; cases h
      | some us =>
        rw [e2] at h
        cases h
        obtain ⟨rfl, f1⟩ := fl_rep e1 r1
        obtain ⟨rfl, f2⟩ := fls_rep e2 r2
        exact ⟨rfl, by rw [List.all_cons, f1, f2]; rfl⟩
noncomputable def indexR : Sto → D → List D → Res D := fun st x ds => match x, ds with
  | .ref a, [y] => match lstAt st a, flV y with
    | some xs, some u => match flVs xs with
      | some vs => match vs.findIdx? (fun z => eqV z u) with
        | some k => .ok (.int (k : Nat)) st
        | none => .stuck
      | none => .stuck
    | _, _ => .stuck
  | _, _ => .stuck
theorem brm_index : BrM G (rIndex G.K) indexR := by
  intro W H ι st x ds v vs Q s rx rv h
  unfold indexR at h
  split at h
  · split at h
    · rename_i e1 e2
      split at h
      · rename_i ws e3
        split at h
        · rename_i k e4
          obtain ⟨y, _, rfl, ry, rfl⟩ := rv
          obtain ⟨a, xs, k1, k2, k3⟩ := s.lst e1
          obtain ⟨_, k1', rfl⟩ := rx
          rw [k1] at k1'; cases k1'
          obtain ⟨rfl, f1⟩ := fl_rep e2 ry
          obtain ⟨rfl, f2⟩ := fls_rep e3 k3
          obtain ⟨hk, e5, e6⟩ := List.findIdx?_eq_some_iff_getElem.mp e4
          refine ⟨a, _, _, k, _, rfl, rfl, SqL.of k2, f1, f2, List.getElem?_eq_getElem hk, e5, fun m z' hm hz => ?_, h.here s (v := .int _) rfl⟩
          obtain ⟨hm2, rfl⟩ := List.getElem?_eq_some_iff.mp hz
          have := e6 m hm
          simpa using this
        · exact h.elim
      · exact h.elim
    · exact h.elim
  · exact h.elim
end
theorem flVs_ints : ∀ os : List Int, flVs (os.map D.int) = some (os.map V.int)
  | [] => rfl
  | o :: os => by
    show (flV (D.int o)).bind _ = _
    rw [flVs_ints os]; rfl
theorem indexR_ints {st : Sto} {a : Nat} {os : List Int} {i : Int} {k : Nat} (h : lstAt st a = some (os.map D.int)) (hk : os.findIdx? (fun x => x == i) = some k) : indexR st (.ref a) [.int i] = .ok (.int (k : Nat)) st := by
  have e : (os.map V.int).findIdx? (fun z => eqV z (.int i)) = some k := by
    rw [List.findIdx?_map]
    exact hk
  unfold indexR
  simp only [h, flV, flVs_ints, e]
end OH

set_option Elab.async false
set_option linter.all false
set_option maxRecDepth 100000
set_option maxHeartbeats 1000000
/-! OHDct: a dict is never an integer. -/
namespace OH
open PySem PySem.Spec PyProof.Rows L2
section
variable {prog : Program} {w : World} {A : Around} {E : Value → Shared → Prop} {s : Shared}
theorem int_ne_no (b : Int) (u : Tok) (l : Addr) (c : Value) (es : Array DictEntry) (ep : Nat) (dd : Option Addr) (sl : Array (Option Value)) :
    Meets (Builtin.«int.__ne__» ⟨[.int b u, .ref l], []⟩) (fun _ R s => s.heap.get? l = some { cls := c, dict := dd, data := .dict es ep, slots := sl } ∧ R (.ok (.ret .notImplemented)) s) :=
  .of_wp fun prog w A R s h => by
    obtain ⟨hp, g, d, tk, os⟩ := s
    obtain ⟨hl, h⟩ := h
    wp_walk using wpAny_load hl
    exact ⟨_, rfl, h⟩
theorem dict_ne_no {l : Addr} (b : Int) (u : Tok) {Q : Value → Shared → Prop} (hd : s.TypeIs (.ref l) "dict") (h : Q .notImplemented s) :
    wpAny (model prog w) A (call (.builtin "dict.__ne__") [.ref l, .int b u]) Q E s := by
  refine wpAny_call_entry PySem.F.slot_dict_ne hd PySem.F.entry_dict_ne ?_ (PySem.F.args_dict_ne_2 _ _)
  show wpAny _ _ (Builtin.Dict.dictSlotArgs "__ne__" ⟨[.ref l, .int b u], []⟩ >>= _) _ _ s
  refine wpAny_bind ?_
  unfold Builtin.Dict.dictSlotArgs
  refine wpAny_bind (wpAny_notOrdered_dict hd ?_)
  show wpAny _ _ (pure (Value.ref l, Value.int b u)) _ _ s
  refine wpAny_pure ?_
  refine wpAny_bind (wpAny_isInstance (T := "int") (typeIs_int s b u) PySem.F.sub_int_dict ?_)
  simp only [Bool.not_false, if_true]
  exact wpAny_bind (wpAny_rule (wpAny_bind (wpAny_pure (wpAny_pure ⟨_, rfl, h⟩))))
theorem ne_dict_int {l : Addr} {o : Obj} {es : Array DictEntry} {ep : Nat} (b : Int) (u : Tok) {Q : Value → Shared → Prop} (ho : s.heap.get? l = some o) (hc : o.cls = .type "dict") (hda : o.data = .dict es ep) (hu : A.units < cLine) (h : Q (.bool true) s) :
    wpAny (model prog w) A (richCompare .NotEq (.ref l) (.int b u)) Q E s := by
  obtain ⟨cls, dd, data, sl⟩ := o
  simp only at hc hda
  subst hc hda
  have ha : s.TypeIs (.ref l) "dict" := ⟨_, ho, rfl⟩
  have hb : s.TypeIs (.int b u) "int" := typeIs_int s b u
  have h1 := PySem.F.slot_dict_ne
  have h2 := PySem.F.slot_int_ne_refl
  have hne : (Value.type "dict" != Value.type "int") = true := by decide
  rcases hi : cmpInfo CmpOp.NotEq with ⟨sym, f, r⟩
  rw [hi] at h1 h2
  simp only [richCompare, hi, ha.oneThing_none]
  try with_reducible refine wpAny_holding ?_
  refine wpAny_bind (wpAny_cRoomFor_or (.inr hu) ?_)
  refine wpAny_bind (wpAny_typeOf ha (wpAny_bind (wpAny_typeOf hb ?_)))
  simp only [hne, if_true]
  refine wpAny_bind (wpAny_of_eq PySem.F.sub_int_dict ?_)
  simp only [Bool.false_eq_true, if_false, Bool.not_false, if_true]
  refine wpAny_bind (m := tryCompare (.ref l) _ (.int b u)) (wpAny_tryCompare_declines ha h1 (dict_ne_no b u ha ⟨rfl, ?_⟩))
  refine wpAny_bind (m := tryCompare (.int b u) _ (.ref l)) (wpAny_tryCompare_declines hb h2 (call_meets PySem.F.slot_int_ne_refl (typeIs_int s b u) PySem.F.entry_int_ne (PySem.F.args_int_ne_2 _ _) (int_ne_no b u l (.type "dict") es ep dd sl) ⟨ho, ?_⟩))
  refine ⟨rfl, ?_⟩
  exact wpAny_bind (wpAny_rule (wpAny_bind (wpAny_of_eq (rfl : isSame (.ref l) (.int b u) = pure false) (wpAny_pure h))))
end
/-- a dict is not an integer -/
def neX : Sto → D → D → Option Bool := fun st x y => match x, y with
  | .ref i, .int _ => match st[i]? with | some (.dct _) => some true | _ => neB st x y
  | _, _ => neB st x y
section
variable {G : Gx} {X : Cx} {W : WX} {C : Call}
def rNeX : R2 := fun x y H Q => ∃ a i, x = .ref a ∧ y = .int i ∧ ((∃ ks, H a = some (.dK ks)) ∨ ∃ ks, H a = some (.dT ks)) ∧ Q (.bl true) H
theorem op_neX (hu : X.A.units < cLine) : OpR X (compareOp .NotEq) rNeX := by
  intro pins s σ H x y v u Q I rx ry h
  obtain ⟨a, i, rfl, rfl, hd, q⟩ := h
  cases rx
  obtain ⟨t, rfl⟩ := ry
  rcases hd with ⟨ks, e⟩ | ⟨ks, e⟩
  · obtain ⟨_, _, vs, _, o, es, ep, h1, h2, h3, _⟩ := dk_of I.hok e
    exact ne_dict_int i t h1 h2.1 h3 hu ⟨.bl true, H, I, rfl, q⟩
  · obtain ⟨_, _, vs, _, o, es, ep, h1, h2, h3, _⟩ := dt_of I.hok e
    exact ne_dict_int i t h1 h2.1 h3 hu ⟨.bl true, H, I, rfl, q⟩
theorem br_neX : Br2 G (fun x y H Q => rNeD G.K x y H Q ∨ rNeX x y H Q) (cB neX) := by
  intro W H ι st x y v u Q s rx ry h
  have old : ∀ {x y : D}, Rep G H ι x v → Rep G H ι y u → post G (Rep G) W H ι Q (cB neB st x y) → rNeD G.K v u H Q ∨ rNeX v u H Q := fun rx ry h => .inl (br_ne W H ι st _ _ v u Q s rx ry h)
  unfold cB neX at h
  split at h
  · rename_i i j
    split at h
    · rename_i kvs e
      obtain ⟨d, e', h⟩ := h.opt
      cases e'
      obtain ⟨a, ha, hc⟩ := s.at e
      obtain ⟨a', e1, e2⟩ := rx
      rw [ha] at e1
      cases e1
      cases ry
      refine .inr ⟨a, j, e2, rfl, ?_, h.here s (v := .bl _) rfl⟩
      obtain ⟨ks, vs, k, _⟩ := hc
      exact .inl ⟨_, k⟩
    · exact old rx ry h
  · exact old rx ry h
theorem db_neX {a b : Expr} {ma mb : SE} {pos : Pos} (hK : X.K = G.K) (hu : X.A.units + 64 < cLine) (ha : DE G X W C a ma) (hb : DE G X W C b mb) : DB G X W C (.Compare a [.NotEq] [b] pos) (bCmp neX ma mb) := db_cmp ((op_neD hu).or (op_neX (by omega))) (by rw [hK]; exact br_neX) ha hb (nomark _)
end
/-! ### len(set(t)), t a tuple of integers -/
def intL : List D → Option (List Int)
  | [] => some []
  | .int i :: ds => (intL ds).map (i :: ·)
  | _ => none
def setLen (ns : List Int) : Nat := ns.eraseDups.length
noncomputable def lenSetR : Sto → D → Res D := fun st x => match x with
  | .tup ds => match intL ds with
    | some ns => if ns.length < 60 then .ok (.int (setLen ns : Nat)) st else .stuck
    | none => .stuck
  | _ => .stuck
theorem eraseDups_nodup : ∀ (n : Nat) (ns : List Int), ns.length ≤ n → ns.eraseDups.Nodup
  | _, [], _ => by simp
  | 0, a :: l, h => by simp at h
  | n + 1, a :: l, h => by
    rw [List.eraseDups_cons]
    have h2 : (l.filter fun b => !b == a).length ≤ n := Nat.le_trans (List.length_filter_le _ _) (by simpa using h)
    refine List.nodup_cons.mpr ⟨fun hm => ?_, eraseDups_nodup n _ h2⟩
    have := List.mem_eraseDups.mp hm
    simp at this
theorem setLen_of {ns ks : List Int} (nd : ks.Nodup) (h : ∀ k, k ∈ ns ↔ k ∈ ks) : ks.length = setLen ns := by
  have p : List.Perm ks ns.eraseDups := (List.perm_ext_iff_of_nodup nd (eraseDups_nodup _ ns (Nat.le_refl _))).mpr fun a => by rw [List.mem_eraseDups, h]
  exact p.length_eq
section
variable {X : Cx}
def rLenSet (K : PySem.W.Frag) : V → Hp → VK → Prop := fun x H Q => ∃ (l : Addr) (ns : List Int), x = V.ref l ∧ SqT K H l (ns.map V.int) ∧ ns.length < 60 ∧ Q (.int (setLen ns : Nat)) H
theorem pe_lenSetT {a : Expr} {ta : TE} {p p2 q pos : Pos} (hc : X.calm = true) (hg : Gl X "len") (hm : X.mg "len" = none) (hg2 : Gl X "set") (hm2 : X.mg "set" = none) (ha : PE X a ta)
    (na : starEach [a] X.env = (false, eval a X.env) :: starEach [] X.env := by rfl) : PE X (.Call (.Name "len" p) [.Call (.Name "set" p2) [a] [] q] [] pos) (tUn (rLenSet X.K) ta) := by
  refine ⟨fun pins s σ H Q I h => ?_⟩
  refine Call_ (ld_blt I hg hm PySem.boot_len ?_)
  refine PyProof.Rows.callWith_builtin1 (PyProof.Rows.args_cons ?_ rfl) rfl rfl
  refine Call_ (ld_blt I hg2 hm2 PyProof.Rows.boot_set ?_)
  refine PyProof.Rows.callWith_type1 (PyProof.Rows.args_cons (thn (ha.run pins s σ H _ I h) fun v s1 ⟨x, H1, I1, r1, q1⟩ => PyProof.Rows.args_nil ?_) na) na rfl
  obtain ⟨l, ns, rfl, hq, h1, q1⟩ := q1
  cases r1
  obtain ⟨its, r, pl, hz⟩ := I1.tuple hq
  refine call_set_tupI ns (I1.ok.hd hc) pl (by simpa using r.ints) (by unfold scanBound; omega) fun h' tk c hS hc2 hk => ?_
  refine PyProof.Rows.args_nil ?_
  obtain ⟨o, es, ep, t, ho, hex, hd, hg, hnd, hm, hb, hf, hn, _⟩ := hS
  have hl : (es.toList.map keyOf).length = setLen ns := setLen_of hnd fun k => by
    rw [← hm k]
    simp
  have hl2 : es.size = setLen ns := by rw [← hl, List.length_map, Array.length_toList]
  have I2 : Inv X pins σ H1 { s1 with heap := h', toks := tk } := I1.kept fun b o e => hk b o e
  exact call_len_set ho hex hd hf (by omega) ⟨.int (setLen ns : Nat), H1, I2.tok _, ⟨_, by rw [hl2]⟩, q1⟩
end
section
variable {G : Gx} {X : Cx} {W : WX} {C : Call}
theorem intL_rep {H : Hp} {ι : List Addr} : ∀ {ds : List D} {ns : List Int} {vs : List V}, intL ds = some ns → RepL G H ι ds vs → vs = ns.map V.int
  | [], ns, vs, h, r => by cases h; cases r; rfl
  | d :: ds, ns, vs, h, r => by
    obtain ⟨v, w, rfl, r1, r2⟩ := r
    cases d with
    | int i =>
      unfold intL at h
      obtain ⟨ms, h1, rfl⟩ := Option.map_eq_some_iff.mp h
      cases r1
      rw [intL_rep h1 r2] <;> rfl
    | _ => cases h
theorem br_lenSet : Br1 G (rLenSet G.K) lenSetR := by
  intro W H ι st x v Q s rx h
  unfold lenSetR at h
  split at h
  · rename_i ds
    split at h
    · rename_i ns e
      split at h
      · rename_i hl
        obtain ⟨a, xs, e1, e2, e3⟩ := rx
        refine ⟨a, ns, e1, ?_, hl, h.here s (v := .int _) rfl⟩
        rw [← intL_rep e e3]
        exact e2
      · exact h.elim
    · exact h.elim
  · exact h.elim
theorem de_lenSet {a : Expr} {ma : SE} {p p2 q pos : Pos} (hK : X.K = G.K) (hc : X.calm = true) (hg : Gl X "len") (hm : X.mg "len" = none) (hg2 : Gl X "set") (hm2 : X.mg "set" = none) (ha : DE G X W C a ma)
    (na : starEach [a] X.env = (false, eval a X.env) :: starEach [] X.env := by rfl) : DE G X W C (.Call (.Name "len" p) [.Call (.Name "set" p2) [a] [] q] [] pos) (eU1 lenSetR ma) :=
  de_tUn (ma := ma) (pe_lenSetT hc hg hm hg2 hm2 ha na) (by rw [hK]; exact br_lenSet)
end
/-! ### a call of a def that a subscript gives -/
def eCallX (fs : List Nat) (me : SE) (l : SL) : SE := fun C env st => (me C env st).bind fun x st => match x with
  | .fn f => if f ∈ fs then (l C env st).bind fun xs st => C f xs st else .stuck
  | _ => .stuck
@[simp] theorem eCallX_ap (fs : List Nat) (me : SE) (l : SL) (C : Call) (env : Env) (st : Sto) : eCallX fs me l C env st = (me C env st).bind fun x st => match x with
  | .fn f => if f ∈ fs then (l C env st).bind fun xs st => C f xs st else .stuck
  | _ => .stuck := rfl
section
variable {G : Gx} {X : Cx} {W : WX} {C : Call}
def tCallX (G : Gx) (C : Call) (fs : List Nat) (E : L2.St → XK) (tf : TE) (t : TA) : TE := fun σ H Q => tf σ H fun v H1 => ∃ f, v = .ref (G.fa f) ∧ f ∈ fs ∧ t σ H1 fun vs H2 => spC G C f vs H2 Q (E σ)
theorem pe_callX {k : Nat} {fs : List Nat} {a i e : Expr} {es : List Expr} {tf : TE} {t : TA} {p pos : Pos} (hF : ∀ f ∈ fs, ∃ x, FnAt X.prog X.w G X.mg X.base C k f x) (hK : X.K = G.K) (hr : Room k X.A) (tk : Takes X W) (hf : PE X (.Subscript a i p) tf) (ha : PA X (e :: es) t)
    (he : starEach (e :: es) X.env = (false, eval e X.env) :: starEach es X.env := by rfl) (hpl : (backTo pos (starEach es X.env)).any (·.1) = false := by rfl) :
    PE X (.Call (.Subscript a i p) (e :: es) [] pos) (tCallX G C fs (WE W) tf t) := by
  refine ⟨fun pins s σ H Q I h => ?_⟩
  have ev : eval (.Call (.Subscript a i p) (e :: es) [] pos) X.env = (do
      callWith pos (← eval (.Subscript a i p) X.env) [] (backTo pos (starEach (e :: es) X.env)) (backToKw pos (keywordEach [] X.env))) := rfl
  rw [ev]
  refine wpAny_bind (thn (hf.run pins s σ H _ I h) fun u s1 ⟨v, H1, I1, r1, f, e1, hm, q1⟩ => ?_)
  subst e1
  obtain rfl : u = Value.ref (G.fa f) := r1
  obtain ⟨x, hm, hk, fd, ps, hok, hb⟩ := hF f hm
  rw [← hK] at hk hok hb
  refine PySem.W.callWith_K (h₀ := X.base) I1.ok.mod.kin hk (thn (ha.run pos pins s1 σ H1 _ I1 q1) fun us s2 ⟨vs, H2, I2, r, q⟩ => ⟨I2.kIn, ?_⟩) he hpl
  exact run_fnS hok hr hb (E := WE W) (passAt tk σ) I2 r q
theorem de_callX {k : Nat} {fs : List Nat} {a i e : Expr} {es : List Expr} {me : SE} {l : SL} {p pos : Pos} (hF : ∀ f ∈ fs, ∃ x, FnAt X.prog X.w G X.mg X.base C k f x) (hK : X.K = G.K) (hr : Room k X.A) (tk : Takes X W) (hf : DE G X W C (.Subscript a i p) me) (ha : DA G X W C (e :: es) l)
    (he : starEach (e :: es) X.env = (false, eval e X.env) :: starEach es X.env := by rfl) (hpl : (backTo pos (starEach es X.env)).any (·.1) = false := by rfl) :
    DE G X W C (.Call (.Subscript a i p) (e :: es) [] pos) (eCallX fs me l) :=
  pe_imp (pe_callX hF hK hr tk hf ha he hpl) fun σ H Q ⟨env, ι, st, hR, hp⟩ => sqE hR hp fun x st1 v H1 ι1 e1 hR1 r1 hp1 => by
    cases x with
    | fn f =>
      dsimp only at hp1
      by_cases hm : f ∈ fs
      · rw [if_pos hm] at hp1
        refine ⟨f, r1, hm, ?_⟩
        exact sqA hR1 hp1 fun ds st2 vs H2 ι2 e2 hR2 r2 hp2 => ⟨ds, ι2, st2, r2, hR2.sto, hp2⟩
      · rw [if_neg hm] at hp1; exact hp1.elim
    | _ => exact hp1.elim
theorem de_fn {k f : Nat} {x : Str} {pos : Pos} (hF : FnAt X.prog X.w G X.mg X.base C k f x) (hg : Gl X x) (hd : (x == ("__debug__" : Str)) = false := by decide) : DE G X W C (.Name x pos) (eC (.fn f)) :=
  de_glob (pe_glob hg hF.g (v := .ref (G.fa f)) rfl hd) fun _ _ => rfl
end
theorem fnx_nil {P : Program} {w : World} {G : Gx} {mg : Str → Option Value} {base : Heap} {C : Call} {k : Nat} : ∀ f ∈ ([] : List Nat), ∃ x, FnAt P w G mg base C k f x := fun f h => by cases h
theorem fnx_cons {P : Program} {w : World} {G : Gx} {mg : Str → Option Value} {base : Heap} {C : Call} {k g : Nat} {y : Str} {fs : List Nat} (h : FnAt P w G mg base C k g y) (r : ∀ f ∈ fs, ∃ x, FnAt P w G mg base C k f x) : ∀ f ∈ g :: fs, ∃ x, FnAt P w G mg base C k f x := fun f hf => by
  rcases List.mem_cons.mp hf with e | e
  · rw [e]; exact ⟨y, h⟩
  · exact r f e
end OH

set_option Elab.async false
set_option linter.all false
set_option maxRecDepth 100000
set_option maxHeartbeats 1000000
/-! OHDcn: dicts whose keys are tuples, nested or not: what a dict is, reading and writing it. -/
namespace OH
open PySem PySem.Spec PyProof.Rows L2

/-! ### tables of data -/
def dGet (kvs : List (D × D)) (k : D) : Option D := (kvs.find? fun p => decide (p.1 = k)).map (·.2)
def dPut (kvs : List (D × D)) (k v : D) : List (D × D) := if (dGet kvs k).isSome = true then kvs.map (fun p => if p.1 = k then (p.1, v) else p) else kvs ++ [(k, v)]
def dDel (kvs : List (D × D)) (k : D) : List (D × D) := kvs.filter fun p => decide (p.1 ≠ k)
theorem dGet_nil (k : D) : dGet [] k = none := rfl
theorem dGet_pos {p : D × D} {r : List (D × D)} {k : D} (e : p.1 = k) : dGet (p :: r) k = some p.2 := by simp [dGet, List.find?_cons, e]
theorem dGet_neg {p : D × D} {r : List (D × D)} {k : D} (e : ¬ p.1 = k) : dGet (p :: r) k = dGet r k := by simp [dGet, List.find?_cons, e]
/-! ### keys -/
mutual
theorem keyN_inj : ∀ (a b : D) (k : NestedKey), keyN a = some k → keyN b = some k → a = b
  | .non, b, k, h, g => by cases h; cases b with
    | non => rfl
    | tup ds => simp only [keyN] at g; obtain ⟨_, _, e⟩ := Option.map_eq_some_iff.mp g; cases e
    | _ => cases g
  | .int i, b, k, h, g => by cases h; cases b with
    | int j => cases g; rfl
    | tup ds => simp only [keyN] at g; obtain ⟨_, _, e⟩ := Option.map_eq_some_iff.mp g; cases e
    | _ => cases g
  | .str x, b, k, h, g => by cases h; cases b with
    | str y => cases g; rfl
    | tup ds => simp only [keyN] at g; obtain ⟨_, _, e⟩ := Option.map_eq_some_iff.mp g; cases e
    | _ => cases g
  | .tup ds, b, k, h, g => by
    simp only [keyN] at h
    obtain ⟨ks, e1, rfl⟩ := Option.map_eq_some_iff.mp h
    cases b with
    | tup es =>
      simp only [keyN] at g
      obtain ⟨ks', e2, e⟩ := Option.map_eq_some_iff.mp g
      cases e
      rw [keyNL_inj ds es ks e1 e2]
    | _ => cases g
  | .bl _, b, k, h, g => by cases h
  | .ref _, b, k, h, g => by cases h
  | .fn _, b, k, h, g => by cases h
  | .scr _, b, k, h, g => by cases h
theorem keyNL_inj : ∀ (a b : List D) (k : List NestedKey), keyNL a = some k → keyNL b = some k → a = b
  | [], [], k, h, g => rfl
  | [], b :: bs, k, h, g => by
    cases h
    simp only [keyNL] at g
    obtain ⟨x, e1, e2⟩ := Option.bind_eq_some_iff.mp g
    obtain ⟨y, e3, e4⟩ := Option.map_eq_some_iff.mp e2
    cases e4
  | a :: as, [], k, h, g => by
    cases g
    simp only [keyNL] at h
    obtain ⟨x, e1, e2⟩ := Option.bind_eq_some_iff.mp h
    obtain ⟨y, e3, e4⟩ := Option.map_eq_some_iff.mp e2
    cases e4
  | a :: as, b :: bs, k, h, g => by
    simp only [keyNL] at h g
    obtain ⟨x, e1, e2⟩ := Option.bind_eq_some_iff.mp h
    obtain ⟨y, e3, rfl⟩ := Option.map_eq_some_iff.mp e2
    obtain ⟨x', e1', e2'⟩ := Option.bind_eq_some_iff.mp g
    obtain ⟨y', e3', e4⟩ := Option.map_eq_some_iff.mp e2'
    cases e4
    rw [keyN_inj a b _ e1 e1', keyNL_inj as bs _ e3 e3']
end
theorem keyT_of {d : D} {k : NestedKey} (h : keyT d = some k) : keyN d = some k ∧ k.depth ≤ 8 := by
  cases d with
  | tup ds =>
    simp only [keyT] at h
    obtain ⟨ks, e1, e2⟩ := Option.bind_eq_some_iff.mp h
    split at e2
    · rename_i hd
      cases e2
      exact ⟨by simp only [keyN]; rw [e1]; rfl, hd⟩
    · cases e2
  | _ => cases h
theorem keyT_inj {a b : D} {k : NestedKey} (h : keyT a = some k) (g : keyT b = some k) : a = b := keyN_inj a b k (keyT_of h).1 (keyT_of g).1
theorem keyT_eq {a b : D} {k l : NestedKey} (h : keyT a = some k) (g : keyT b = some l) : (a = b) ↔ (k = l) := by
  constructor
  · rintro rfl
    rw [h] at g; cases g; rfl
  · rintro rfl
    exact keyT_inj h g
section
variable {G : Gx} {X : Cx} {pins : List (Addr × Obj)} {σ : L2.St} {H : Hp} {s : Shared} {ι : List Addr} {st : Sto}
mutual
theorem keyN_is (hK : X.K = G.K) (I : L2.Inv X pins σ H s) : ∀ (d : D) (v : V) (u : Value) (k : NestedKey), Rep G H ι d v → RelV v u → keyN d = some k → NestedIs s.heap k u
  | .non, v, u, k, r, rv, h => by cases r; cases h; cases (show u = Value.none from rv); exact .none
  | .int i, v, u, k, r, rv, h => by cases r; cases h; obtain ⟨t, rfl⟩ := (show ∃ t, u = Value.int i t from rv); exact .int i t
  | .str x, v, u, k, r, rv, h => by cases r; cases h; obtain ⟨t, rfl⟩ := (show ∃ t, u = Value.str x t from rv); exact .text x t
  | .tup ds, v, u, k, ⟨a, xs, e1, e2, e3⟩, rv, h => by
    subst e1
    obtain rfl : u = Value.ref a := rv
    simp only [keyN] at h
    obtain ⟨ks, h1, rfl⟩ := Option.map_eq_some_iff.mp h
    obtain ⟨its, r, ⟨o, g1, g2, n, g3⟩, _⟩ := I.tuple (by rw [hK]; exact e2)
    exact .tup g1 g2 g3 (by simpa using keyNL_is hK I ds xs its ks e3 r h1)
  | .bl _, v, u, k, r, rv, h => by cases h
  | .ref _, v, u, k, r, rv, h => by cases h
  | .fn _, v, u, k, r, rv, h => by cases h
  | .scr _, v, u, k, r, rv, h => by cases h
theorem keyNL_is (hK : X.K = G.K) (I : L2.Inv X pins σ H s) : ∀ (ds : List D) (vs : List V) (us : List Value) (ks : List NestedKey), RepL G H ι ds vs → Vals vs us → keyNL ds = some ks → NestedAll s.heap ks us
  | [], vs, us, ks, r, rv, h => by cases r; cases rv; cases h; exact .nil
  | d :: ds, vs, us, ks, ⟨v, w, e, r1, r2⟩, rv, h => by
    subst e
    cases rv with
    | cons q1 q2 =>
      simp only [keyNL] at h
      obtain ⟨x, e1, e2⟩ := Option.bind_eq_some_iff.mp h
      obtain ⟨y, e3, rfl⟩ := Option.map_eq_some_iff.mp e2
      exact .cons (keyN_is hK I d v _ x r1 q1 e1) (keyNL_is hK I ds w _ y r2 q2 e3)
end
theorem keyT_is (hK : X.K = G.K) (I : L2.Inv X pins σ H s) {d : D} {b : Addr} {k : NestedKey} (r : Rep G H ι d (.ref b)) (h : keyT d = some k) : (nestedKind X.prog X.w).is s.heap k b :=
  ⟨keyN_is hK I d _ _ k r rfl (keyT_of h).1, (keyT_of h).2⟩
theorem keyT_ref {d : D} {v : V} {k : NestedKey} (r : Rep G H ι d v) (h : keyT d = some k) : ∃ b, v = .ref b := by
  cases d with
  | tup ds => obtain ⟨a, xs, e, _⟩ := r; exact ⟨a, e⟩
  | _ => cases h
/-! ### rows -/
/-- a row of data, and the row of the heap -/
def RwY (G : Gx) (H : Hp) (ι : List Addr) (p : D × D) (y : NestedKey × Addr × Value) : Prop := keyT p.1 = some y.1 ∧ Rep G H ι p.1 (.ref y.2.1) ∧ ∃ v, Rep G H ι p.2 v ∧ RelV v y.2.2
theorem rw_of : ∀ {kvs : List (D × D)} {xs : List (NestedKey × Addr × V)} {ys : List (NestedKey × Addr × Value)}, kvs.map (fun p => keyT p.1) = xs.map (fun x => some x.1) → RepL G H ι (kvs.map (·.1)) (xs.map fun x => V.ref x.2.1) → RepL G H ι (kvs.map (·.2)) (xs.map (·.2.2)) →
    Paired (fun (p : NestedKey × Addr × V) (q : NestedKey × Addr × Value) => p.1 = q.1 ∧ p.2.1 = q.2.1 ∧ RelV p.2.2 q.2.2) xs ys → Paired (RwY G H ι) kvs ys
  | [], [], _, _, _, _, .nil => .nil
  | [], x :: xs, _, h, _, _, _ => by simp at h
  | p :: kvs, [], _, h, _, _, _ => by simp at h
  | p :: kvs, x :: xs, _, h, r1, r2, .cons q1 q2 => by
    simp only [List.map_cons, List.cons.injEq] at h
    obtain ⟨v, w, e, a1, a2⟩ := r1
    simp only [List.map_cons, List.cons.injEq] at e
    obtain ⟨rfl, rfl⟩ := e
    obtain ⟨v, w, e, b1, b2⟩ := r2
    simp only [List.map_cons, List.cons.injEq] at e
    obtain ⟨rfl, rfl⟩ := e
    refine .cons ⟨by rw [h.1, q1.1], by rw [← q1.2.1]; exact a1, _, b1, q1.2.2⟩ (rw_of h.2 a2 b2 q2)
theorem of_rw : ∀ {kvs : List (D × D)} {ys : List (NestedKey × Addr × Value)}, Paired (RwY G H ι) kvs ys → ∃ xs : List (NestedKey × Addr × V), kvs.map (fun p => keyT p.1) = xs.map (fun x => some x.1) ∧ RepL G H ι (kvs.map (·.1)) (xs.map fun x => V.ref x.2.1) ∧ RepL G H ι (kvs.map (·.2)) (xs.map (·.2.2)) ∧
    Paired (fun (p : NestedKey × Addr × V) (q : NestedKey × Addr × Value) => p.1 = q.1 ∧ p.2.1 = q.2.1 ∧ RelV p.2.2 q.2.2) xs ys
  | _, _, .nil => ⟨[], rfl, rfl, rfl, .nil⟩
  | _, _, .cons (a := p) (b := y) ⟨h1, h2, v, h3, h4⟩ t => by
    obtain ⟨xs, a1, a2, a3, a4⟩ := of_rw t
    refine ⟨(y.1, y.2.1, v) :: xs, by simp [h1, a1], ⟨_, _, rfl, h2, a2⟩, ⟨_, _, rfl, h3, a3⟩, .cons ⟨rfl, rfl, h4⟩ a4⟩
theorem rw_get {kvs : List (D × D)} {ys : List (NestedKey × Addr × Value)} {k : D} {nk : NestedKey} (hk : keyT k = some nk) (r : Paired (RwY G H ι) kvs ys) :
    (dGet kvs k = none ∧ atKey ys nk = none) ∨ ∃ d y v, dGet kvs k = some d ∧ atKey ys nk = some y ∧ Rep G H ι d v ∧ RelV v y.2 := by
  induction r with
  | nil => exact .inl ⟨rfl, rfl⟩
  | @cons p y ps zs h t ih =>
    obtain ⟨h1, h2, v, h3, h4⟩ := h
    have iff := keyT_eq h1 hk
    by_cases e : p.1 = k
    · have e' : y.1 = nk := iff.mp e
      exact .inr ⟨p.2, y.2, v, dGet_pos e, by simp [atKey, List.find?_cons, e'], h3, h4⟩
    · have e' : ¬ y.1 = nk := fun z => e (iff.mpr z)
      have b : atKey (y :: zs) nk = atKey zs nk := by simp [atKey, List.find?_cons, e']
      rw [dGet_neg e, b]
      exact ih
theorem rw_some {kvs : List (D × D)} {ys : List (NestedKey × Addr × Value)} {k : D} {nk : NestedKey} (hk : keyT k = some nk) (r : Paired (RwY G H ι) kvs ys) : (dGet kvs k).isSome = (atKey ys nk).isSome := by
  rcases rw_get hk r with ⟨h1, h2⟩ | ⟨d, y, v, h1, h2, _⟩ <;> rw [h1, h2] <;> rfl
theorem rw_put {kvs : List (D × D)} {ys : List (NestedKey × Addr × Value)} {k d : D} {nk : NestedKey} {b : Addr} {v : V} {u : Value} (hk : keyT k = some nk) (rk : Rep G H ι k (.ref b)) (rd : Rep G H ι d v) (ru : RelV v u) (r : Paired (RwY G H ι) kvs ys) :
    Paired (RwY G H ι) (dPut kvs k d) (storedH ys nk b u) := by
  unfold dPut storedH
  rw [rw_some hk r]
  by_cases q : (atKey ys nk).isSome = true
  · rw [if_pos q, if_pos q]
    clear q
    induction r with
    | nil => exact .nil
    | @cons p y ps zs h t ih =>
      rw [List.map_cons, List.map_cons]
      refine .cons ?_ ih
      obtain ⟨h1, h2, v', h3, h4⟩ := h
      have iff := keyT_eq h1 hk
      unfold putAt
      by_cases e : p.1 = k
      · rw [if_pos e, if_pos (iff.mp e)]; exact ⟨h1, h2, v, rd, ru⟩
      · rw [if_neg e, if_neg (fun z => e (iff.mpr z))]; exact ⟨h1, h2, v', h3, h4⟩
  · rw [if_neg q, if_neg q]
    exact Paired.snoc r ⟨hk, rk, v, rd, ru⟩
theorem rw_del {kvs : List (D × D)} {ys : List (NestedKey × Addr × Value)} {k : D} {nk : NestedKey} (hk : keyT k = some nk) (r : Paired (RwY G H ι) kvs ys) : Paired (RwY G H ι) (dDel kvs k) (withoutH ys nk) := by
  unfold dDel withoutH
  induction r with
  | nil => exact .nil
  | @cons p y ps zs h t ih =>
    have iff := keyT_eq h.1 hk
    rw [List.filter_cons, List.filter_cons]
    by_cases e : p.1 = k
    · rw [if_neg (by simp [e]), if_neg (by simp [iff.mp e])]; exact ih
    · have e' : ¬ y.1 = nk := fun z => e (iff.mpr z)
      rw [if_pos (by simp [e]), if_pos (by simp [e'])]; exact .cons h ih
theorem rw_ext {H' : Hp} {ι' : List Addr} (hr : ∀ {d v}, Rep G H ι d v → Rep G H' ι' d v) {kvs : List (D × D)} {ys : List (NestedKey × Addr × Value)} (r : Paired (RwY G H ι) kvs ys) : Paired (RwY G H' ι') kvs ys :=
  Paired.mapP r fun _ _ ⟨h1, h2, v, h3, h4⟩ => ⟨h1, hr h2, v, hr h3, h4⟩
/-! ### the dict in the heap -/
theorem dcn_of (hK : X.K = G.K) (hw : X.w = G.w) (I : L2.Inv X pins σ H s) {kvs : List (D × D)} {a : Addr} (c : CellRep G H ι (.dcn kvs) a) :
    kvs.length ≤ sizeLine ∧ (a == sysModules) = false ∧ ∃ ys, Paired (RwY G H ι) kvs ys ∧ s.heap.DictOfH (nestedKind X.prog X.w) a ys := by
  obtain ⟨xs, h1, h2, h3, h4⟩ := c
  obtain ⟨⟨z, hd, ys, rel, o, es, ep, g1, g2, g3, g4, g5⟩, _, _⟩ := (show ObjOk X.prog X.w H s.heap a (.ext (dNφ G.w a xs)) from I.hok a _ h1)
  have r := rw_of h2 h3 h4 rel
  have hl : kvs.length = xs.length := by simpa using congrArg List.length h2
  refine ⟨by rw [hl]; exact z, hd, ys, r, o, es, ep, g1, g2, g3, by rw [g4, ← hw]; rfl, ?_, g5⟩
  have all : ∀ {l : List (D × D)} {m : List (NestedKey × Addr × Value)}, Paired (RwY G H ι) l m → ∀ y ∈ m, (nestedKind X.prog X.w).is s.heap y.1 y.2.1 := by
    intro l m q
    induction q with
    | nil => intro y hy; exact nomatch hy
    | @cons p y ps zs hq t ih =>
      intro x hx
      rcases List.mem_cons.mp hx with e | hx
      · subst e
        exact keyT_is hK I hq.2.1 hq.1
      · exact ih x hx
  exact all r
/-- .. a dict that is read, walked or not -/
theorem dcr_of (hK : X.K = G.K) (hw : X.w = G.w) (I : L2.Inv X pins σ H s) {kvs : List (D × D)} {a : Addr} (c : CellRep G H ι (.dcn kvs) a ∨ CellRep G H ι (.lck kvs) a) :
    kvs.length ≤ sizeLine ∧ (a == sysModules) = false ∧ ∃ ys, Paired (RwY G H ι) kvs ys ∧ s.heap.DictOfH (nestedKind X.prog X.w) a ys := by
  rcases c with c | ⟨od, xs, h1, h2, h3, h4⟩
  · exact dcn_of hK hw I c
  · obtain ⟨_, ⟨z, hd, ys, rel, o, es, ep, g1, g2, g3, g4, g5⟩, _, _⟩ := (show ObjOk X.prog X.w H s.heap a (.frz od (.ext (dNφ G.w a xs))) from I.hok a _ h1)
    have r := rw_of h2 h3 h4 rel
    have hl : kvs.length = xs.length := by simpa using congrArg List.length h2
    refine ⟨by rw [hl]; exact z, hd, ys, r, o, es, ep, g1, g2, g3, by rw [g4, ← hw]; rfl, ?_, g5⟩
    have all : ∀ {l : List (D × D)} {m : List (NestedKey × Addr × Value)}, Paired (RwY G H ι) l m → ∀ y ∈ m, (nestedKind X.prog X.w).is s.heap y.1 y.2.1 := by
      intro l m q
      induction q with
      | nil => intro y hy; exact nomatch hy
      | @cons p y ps zs hq t ih =>
        intro x hx
        rcases List.mem_cons.mp hx with e | hx
        · subst e
          exact keyT_is hK I hq.2.1 hq.1
        · exact ih x hx
    exact all r
/-- a changed dict -/
theorem dcn_write (hw : X.w = G.w) (I : L2.Inv X pins σ H s) (sr : StoRep G H ι st) {i : Nat} {kvs kvs' : List (D × D)} {a : Addr} {h' : Heap} {t' : Nat} {ys' : List (NestedKey × Addr × Value)} (hi : st[i]? = some (.dcn kvs)) (ha : ι[i]? = some a) (hz : kvs'.length ≤ sizeLine)
    (r : Paired (RwY G H ι) kvs' ys') (dd : h'.DictOfH (nestedKind X.prog X.w) a ys') (hs : Heap.SameBut a s.heap h') :
    ∃ H', L2.Inv X pins σ H' { s with heap := h', toks := t' } ∧ Ext H ι H' ι ∧ StoRep G H' ι (st.set i (.dcn kvs')) := by
  obtain ⟨xs0, k1, k2, k3, k4⟩ := sr.cell i _ a hi ha
  obtain ⟨⟨z, hd, _⟩, _, _⟩ := (show ObjOk X.prog X.w H s.heap a (.ext (dNφ G.w a xs0)) from I.hok a _ k1)
  obtain ⟨xs, e1, e2, e3, e4⟩ := of_rw r
  have hp : a ∈ ι := List.mem_of_getElem? ha
  have hl : kvs'.length = xs.length := by simpa using congrArg List.length e1
  obtain ⟨o, es, ep, g1, g2, g3, g4, _, g5⟩ := dd
  have new : ObjOk X.prog X.w (upd H a (.ext (dNφ G.w a xs))) h' a (.ext (dNφ G.w a xs)) := by
    refine ⟨⟨by rw [← hl]; exact hz, hd, ys', e4, o, es, ep, g1, g2, g3, by rw [g4, ← hw]; rfl, g5⟩, ⟨o, g1⟩, fun h1 h2 ⟨w1, w2, ys, w3, o, es, ep, w4, w5⟩ k => ⟨w1, w2, ys, w3, o, es, ep, k _ w4, w5⟩⟩
  refine ⟨upd H a (.ext (dNφ G.w a xs)), d_write I (by rw [k1]; exact True.intro) hs ⟨o, g1⟩ new, ext_write hp (nlk_ext k1), sr.write ha ⟨xs, upd_same, e1, e2.write sr hp (nlk_ext k1), e3.write sr hp (nlk_ext k1)⟩⟩
/-- a new dict -/
theorem dcn_new (I : L2.Inv X pins σ H s) (sr : StoRep G H ι st) :
    ∃ H', L2.Inv X pins σ H' { s with heap := s.heap.push { cls := .type "dict", data := .dict #[] } } ∧ Ext H ι H' (ι ++ [s.heap.objs.size]) ∧ StoRep G H' (ι ++ [s.heap.objs.size]) (st ++ [.dcn []]) := by
  have hp := I.hok.fresh (Nat.le_refl s.heap.objs.size)
  refine ⟨upd H s.heap.objs.size (.ext (dNφ G.w s.heap.objs.size [])), I.laid (t' := s.toks) (fun _ _ q => Heap.get?_push_of_some _ q) (Nat.le_refl _) ?_, ext_take hp, (sr.fresh hp).push (sr.notin hp) ⟨[], upd_same, rfl, rfl, rfl⟩⟩
  refine ⟨⟨Nat.zero_le _, beq_eq_false_iff_ne.mpr (Ne.symm (Nat.ne_of_lt I.big)), [], .nil, _, #[], 0, Heap.get?_push_size _ rfl, ⟨rfl, rfl, rfl⟩, rfl, rfl, List.nodup_nil⟩, ⟨_, Heap.get?_push_size _ rfl⟩, fun h1 h2 ⟨w1, w2, ys, w3, o, es, ep, w4, w5⟩ k => ⟨w1, w2, ys, w3, o, es, ep, k _ w4, w5⟩⟩
theorem dcn_at (sr : StoRep G H ι st) {i : Nat} {kvs : List (D × D)} (hi : st[i]? = some (.dcn kvs)) {v : V} (r : Rep G H ι (.ref i) v) : ∃ a, v = .ref a ∧ ι[i]? = some a ∧ CellRep G H ι (.dcn kvs) a := by
  obtain ⟨a, ha, e⟩ := r
  exact ⟨a, e, ha, sr.cell i _ a hi ha⟩
theorem dcr_at (sr : StoRep G H ι st) {i : Nat} {kvs : List (D × D)} (hi : st[i]? = some (.dcn kvs) ∨ st[i]? = some (.lck kvs)) {v : V} (r : Rep G H ι (.ref i) v) : ∃ a, v = .ref a ∧ ι[i]? = some a ∧ (CellRep G H ι (.dcn kvs) a ∨ CellRep G H ι (.lck kvs) a) := by
  obtain ⟨a, ha, e⟩ := r
  exact ⟨a, e, ha, hi.imp (fun h => sr.cell i _ a h ha) fun h => sr.cell i _ a h ha⟩
end
end OH

set_option Elab.async false
set_option linter.all false
set_option maxRecDepth 100000
set_option maxHeartbeats 1000000
/-! OHDcr: what is written with dicts of tuple keys: {}, in, d[k], d[k] = v, d[k] += e, del d[k], get, setdefault. -/
namespace OH
open PySem PySem.Spec PyProof.Rows L2

def dcnAt (st : Sto) (d : D) : Option (Nat × List (D × D)) := match d with
  | .ref i => match st[i]? with | some (.dcn kvs) => some (i, kvs) | _ => none
  | _ => none
theorem dcnAt_of {st : Sto} {d : D} {i : Nat} {kvs : List (D × D)} (h : dcnAt st d = some (i, kvs)) : d = .ref i ∧ st[i]? = some (.dcn kvs) := by
  unfold dcnAt at h
  split at h
  · split at h
    · rename_i e
      cases h
      exact ⟨rfl, e⟩
    · cases h
  · cases h
@[simp] theorem dcnAt_ref {st : Sto} {i : Nat} {kvs : List (D × D)} (h : st[i]? = some (.dcn kvs)) : dcnAt st (.ref i) = some (i, kvs) := by simp [dcnAt, h]
/-- a dict that is read, walked or not -/
def dcrAt (st : Sto) (d : D) : Option (Nat × List (D × D)) := match d with
  | .ref i => match st[i]? with | some (.dcn kvs) => some (i, kvs) | some (.lck kvs) => some (i, kvs) | _ => none
  | _ => none
theorem dcrAt_of {st : Sto} {d : D} {i : Nat} {kvs : List (D × D)} (h : dcrAt st d = some (i, kvs)) : d = .ref i ∧ (st[i]? = some (.dcn kvs) ∨ st[i]? = some (.lck kvs)) := by
  unfold dcrAt at h
  split at h
  · split at h
    · rename_i e
      cases h
      exact ⟨rfl, .inl e⟩
    · rename_i e
      cases h
      exact ⟨rfl, .inr e⟩
    · cases h
  · cases h
@[simp] theorem dcrAt_ref {st : Sto} {i : Nat} {kvs : List (D × D)} (h : st[i]? = some (.dcn kvs)) : dcrAt st (.ref i) = some (i, kvs) := by simp [dcrAt, h]
theorem dcrAt_lck {st : Sto} {i : Nat} {kvs : List (D × D)} (h : st[i]? = some (.lck kvs)) : dcrAt st (.ref i) = some (i, kvs) := by simp [dcrAt, h]
section
variable {G : Gx} {X : Cx} {W : WX} {C : Call}
theorem nroom {A : Around} {P : Program} {w : World} (hu : A.units + 64 < cLine) : (nestedKind P w).room A.in1 := by
  show A.units + 1 + 8 < cLine
  omega
/-! ### {} -/
def eDcn0 : SE := fun _ _ st => .ok (.ref st.length) (st ++ [.dcn []])
theorem de_dcn0 {pos : Pos} : DE G X W C (.Dict [] [] pos) eDcn0 := ⟨fun pins s σ H Q I ⟨env, ι, st, hR, hp⟩ => by
  obtain ⟨H', I', e, s'⟩ := dcn_new I hR.sto
  exact wpAny_Dict_empty ⟨.ref s.heap.objs.size, H', I', rfl, hp _ H' _ e s' ⟨_, by rw [← hR.sto.len]; simp, rfl⟩⟩⟩
/-! ### in -/
def inN (neg : Bool) : Sto → D → D → Option Bool := fun st x y => match dcrAt st y with
  | some (_, kvs) => if (keyT x).isSome then some (if neg then !(dGet kvs x).isSome else (dGet kvs x).isSome) else none
  | none => none
def rInN (G : Gx) (neg : Bool) : R2 := fun v u H Q => ∃ x y ι st b, StoRep G H ι st ∧ Rep G H ι x v ∧ Rep G H ι y u ∧ inN neg st x y = some b ∧ Q (.bl b) H
theorem op_inN (hK : X.K = G.K) (hw : X.w = G.w) (hu : X.A.units + 64 < cLine) : OpR X (compareOp .In) (rInN G false) := by
  intro pins s σ H v u v' u' Q I rv ru h
  obtain ⟨x, y, ι, st, b, sr, rx, ry, e, q⟩ := h
  unfold inN at e
  split at e
  · rename_i i kvs hy
    obtain ⟨rfl, hi⟩ := dcrAt_of hy
    obtain ⟨a, rfl, ha, c⟩ := dcr_at sr hi ry
    split at e
    · rename_i hk
      obtain ⟨nk, hk⟩ := Option.isSome_iff_exists.mp hk
      cases e
      obtain ⟨kb, rfl⟩ := keyT_ref rx hk
      obtain ⟨z, hd, ys, r, dd⟩ := dcr_of hK hw I c
      cases (show u' = Value.ref a from ru)
      cases (show v' = Value.ref kb from rv)
      refine wpAny_in_heap (nroom hu) (keyT_is hK I rx hk) hd dd ?_
      rw [← rw_some hk r]
      exact ⟨.bl _, H, I.tok _, rfl, q⟩
    · cases e
  · cases e
theorem op_ninN (hK : X.K = G.K) (hw : X.w = G.w) (hu : X.A.units + 64 < cLine) : OpR X (compareOp .NotIn) (rInN G true) := by
  intro pins s σ H v u v' u' Q I rv ru h
  obtain ⟨x, y, ι, st, b, sr, rx, ry, e, q⟩ := h
  unfold inN at e
  split at e
  · rename_i i kvs hy
    obtain ⟨rfl, hi⟩ := dcrAt_of hy
    obtain ⟨a, rfl, ha, c⟩ := dcr_at sr hi ry
    split at e
    · rename_i hk
      obtain ⟨nk, hk⟩ := Option.isSome_iff_exists.mp hk
      cases e
      obtain ⟨kb, rfl⟩ := keyT_ref rx hk
      obtain ⟨z, hd, ys, r, dd⟩ := dcr_of hK hw I c
      cases (show u' = Value.ref a from ru)
      cases (show v' = Value.ref kb from rv)
      refine wpAny_notIn_heap (nroom hu) (keyT_is hK I rx hk) hd dd ?_
      rw [← rw_some hk r]
      exact ⟨.bl _, H, I.tok _, rfl, q⟩
    · cases e
  · cases e
theorem br_inN (neg : Bool) : Br2 G (rInN G neg) (cB (inN neg)) := by
  intro W H ι st x y v u Q s rx ry h
  unfold cB at h
  obtain ⟨b, e, h⟩ := h.opt
  obtain ⟨b', e', rfl⟩ := Option.map_eq_some_iff.mp e
  exact ⟨x, y, ι, st, b', s, rx, ry, e', h.here s (v := .bl b') rfl⟩
theorem db_inN (hK : X.K = G.K) (hw : X.w = G.w) (hu : X.A.units + 64 < cLine) {a b : Expr} {ma mb : SE} {pos : Pos} (ha : DE G X W C a ma) (hb : DE G X W C b mb) (hm : behindInMarks .In b = false := by rfl) : DB G X W C (.Compare a [.In] [b] pos) (bCmp (inN false) ma mb) := db_cmp (op_inN hK hw hu) (br_inN false) ha hb hm
theorem de_inN (hK : X.K = G.K) (hw : X.w = G.w) (hu : X.A.units + 64 < cLine) {a b : Expr} {ma mb : SE} {pos : Pos} (ha : DE G X W C a ma) (hb : DE G X W C b mb) (hm : behindInMarks .In b = false := by rfl) : DE G X W C (.Compare a [.In] [b] pos) (eB2 (cB (inN false)) ma mb) := de_cmp (op_inN hK hw hu) (br_inN false) ha hb hm
theorem db_ninN (hK : X.K = G.K) (hw : X.w = G.w) (hu : X.A.units + 64 < cLine) {a b : Expr} {ma mb : SE} {pos : Pos} (ha : DE G X W C a ma) (hb : DE G X W C b mb) (hm : behindInMarks .NotIn b = false := by rfl) : DB G X W C (.Compare a [.NotIn] [b] pos) (bCmp (inN true) ma mb) := db_cmp (op_ninN hK hw hu) (br_inN true) ha hb hm
theorem de_ninN (hK : X.K = G.K) (hw : X.w = G.w) (hu : X.A.units + 64 < cLine) {a b : Expr} {ma mb : SE} {pos : Pos} (ha : DE G X W C a ma) (hb : DE G X W C b mb) (hm : behindInMarks .NotIn b = false := by rfl) : DE G X W C (.Compare a [.NotIn] [b] pos) (eB2 (cB (inN true)) ma mb) := de_cmp (op_ninN hK hw hu) (br_inN true) ha hb hm
/-! ### d[k] -/
def ixN : Sto → D → D → Res D := fun st x y => match dcrAt st x with
  | some (_, kvs) => match dGet kvs y with | some d => if (keyT y).isSome then .ok d st else .stuck | none => .stuck
  | none => .stuck
/-- what the dict holds, in the heap -/
theorem getN {pins : List (Addr × Obj)} {σ : L2.St} {H : Hp} {s : Shared} {ι : List Addr} {st : Sto} {A : Around} {E : Value → Shared → Prop} (hK : X.K = G.K) (hw : X.w = G.w) (hu : A.units + 64 < cLine) (I : L2.Inv X pins σ H s) (sr : StoRep G H ι st) {i : Nat} {kvs : List (D × D)} {k d : D} {vk : V} {uk : Value} {a : Addr} {Q : Value → Shared → Prop}
    (hi : st[i]? = some (.dcn kvs) ∨ st[i]? = some (.lck kvs)) (rx : Rep G H ι (.ref i) (.ref a)) (rk : Rep G H ι k vk) (ru : RelV vk uk) (hg : dGet kvs k = some d) (hk : (keyT k).isSome = true) (h : ∀ v u s', L2.Inv X pins σ H s' → Rep G H ι d v → RelV v u → Q u s') : wpAny (model X.prog X.w) A (getItem (.ref a) uk) Q E s := by
  obtain ⟨_, e, ha, c⟩ := dcr_at sr hi rx
  cases e
  obtain ⟨nk, hk⟩ := Option.isSome_iff_exists.mp hk
  obtain ⟨kb, rfl⟩ := keyT_ref rk hk
  cases (show uk = Value.ref kb from ru)
  obtain ⟨z, hd, ys, r, dd⟩ := dcr_of hK hw I c
  rcases rw_get hk r with ⟨h1, _⟩ | ⟨d', y, v', h1, h2, h3, h4⟩
  · rw [hg] at h1; cases h1
  · rw [hg] at h1; cases h1
    exact wpAny_getItem_heap (nroom hu) (keyT_is hK I rk hk) dd h2 (h v' _ _ (I.tok _) h3 h4)
theorem dcn_typeIs {pins : List (Addr × Obj)} {σ : L2.St} {H : Hp} {s : Shared} {ι : List Addr} {st : Sto} (hK : X.K = G.K) (hw : X.w = G.w) (I : L2.Inv X pins σ H s) (sr : StoRep G H ι st) {i : Nat} {kvs : List (D × D)} {a : Addr} (hi : st[i]? = some (.dcn kvs) ∨ st[i]? = some (.lck kvs)) (rx : Rep G H ι (.ref i) (.ref a)) :
    s.TypeIs (.ref a) "dict" ∧ (∀ b, Value.ref a = .ref b → ∃ ob, s.heap.get? b = some ob ∧ ob.dict = none) := by
  obtain ⟨_, e, ha, c⟩ := dcr_at sr hi rx
  cases e
  obtain ⟨z, hd, ys, r, dd⟩ := dcr_of hK hw I c
  refine ⟨dd.typeIs, fun b q => ?_⟩
  cases q
  obtain ⟨o, es, ep, h1, h2, _⟩ := dd
  exact ⟨o, h1, h2.2.1⟩
theorem de_ixN {a i : Expr} {ma mi : SE} {pos : Pos} (hK : X.K = G.K) (hw : X.w = G.w) (hu : X.A.units + 64 < cLine) (ha : DE G X W C a ma) (hi : DE G X W C i mi) (hs : NoSl i := by exact fun _ _ => rfl) : DE G X W C (.Subscript a i pos) (eB2 ixN ma mi) := ⟨fun pins s σ H Q I ⟨env, ι, st, hR, hp⟩ => by
  refine subD_of PySem.F.slot_dict_getitem.lookup hs (thn (ha.run pins s σ H _ I (sqE hR hp fun x st1 v H1 ι1 e1 hR1 r1 hp1 => (sqE (Q := fun y H2 => ∃ x y' ι2 st2 env2, R G σ H2 env2 ι2 st2 ∧ Rep G H2 ι2 x v ∧ Rep G H2 ι2 y' y ∧ post G (Rep G) (fun cls ad H' => W cls ad σ H') H2 ι2 Q (ixN st2 x y')) hR1 hp1 fun y st2 vy H2 ι2 e2 hR2 r2 hp2 => ⟨x, y, ι2, st2, env, hR2, r1.ext e2 hR1.sto.mut, r2, hp2⟩))) fun u s1 ⟨v, H1, I1, rv, q1⟩ => thn (hi.run pins s1 σ H1 _ I1 q1) fun iv s2 ⟨vy, H2, I2, ry, x, y, ι2, st2, env2, hR2, rx, ry', hp2⟩ => ?_)
  unfold ixN at hp2
  split at hp2
  · rename_i i kvs hx
    obtain ⟨rfl, hi⟩ := dcrAt_of hx
    split at hp2
    · rename_i d hd
      split at hp2
      · rename_i hk
        obtain ⟨a, rfl, ha, c⟩ := dcr_at hR2.sto hi rx
        cases (show u = Value.ref a from rv)
        exact ⟨(dcn_typeIs hK hw I2 hR2.sto hi rx).1, getN hK hw hu I2 hR2.sto hi rx ry' ry hd hk fun v' u' s' I' r1 r2 => ⟨v', H2, I', r2, hp2.here hR2.sto r1⟩⟩
      · exact hp2.elim
    · exact hp2.elim
  · exact hp2.elim⟩
/-! ### d[k] = v -/
def putN : Sto → D → D → D → Option Sto := fun st x y v => match dcnAt st x with
  | some (i, kvs) => if (keyT y).isSome ∧ kvs.length < sizeLine then some (st.set i (.dcn (dPut kvs y v))) else none
  | none => none
theorem dPut_len (kvs : List (D × D)) (k v : D) : (dPut kvs k v).length ≤ kvs.length + 1 := by
  unfold dPut
  split
  · rw [List.length_map]; omega
  · simp
theorem setN {pins : List (Addr × Obj)} {σ : L2.St} {H : Hp} {s : Shared} {ι : List Addr} {st st' : Sto} {A : Around} {E : Value → Shared → Prop} (hK : X.K = G.K) (hw : X.w = G.w) (hu : A.units + 64 < cLine) (I : L2.Inv X pins σ H s) (sr : StoRep G H ι st) {x k d : D} {vd vk vx : V} {ux uk ud : Value} {Q : Unit → Shared → Prop}
    (rx : Rep G H ι x vx) (rxu : RelV vx ux) (rk : Rep G H ι k vk) (ru : RelV vk uk) (rd : Rep G H ι d vd) (rdu : RelV vd ud) (hp : putN st x k d = some st') (h : ∀ H' s', L2.Inv X pins σ H' s' → Ext H ι H' ι → StoRep G H' ι st' → Q () s') : wpAny (model X.prog X.w) A (setItem ux uk ud) Q E s := by
  unfold putN at hp
  split at hp
  · rename_i i kvs hx
    obtain ⟨rfl, hi⟩ := dcnAt_of hx
    split at hp
    · rename_i hc
      cases hp
      obtain ⟨a, rfl, ha, c⟩ := dcn_at sr hi rx
      cases (show ux = Value.ref a from rxu)
      obtain ⟨nk, hk⟩ := Option.isSome_iff_exists.mp hc.1
      obtain ⟨kb, rfl⟩ := keyT_ref rk hk
      cases (show uk = Value.ref kb from ru)
      obtain ⟨z, hd, ys, r, dd⟩ := dcn_of hK hw I c
      have hz : ys.length ≤ sizeLine := by rw [← Paired.length r]; exact z
      refine wpAny_setItem_heap (hsz := hz) (nroom hu) (keyT_is hK I rk hk) dd fun h' dd' hs => ?_
      obtain ⟨H', I', e, s'⟩ := dcn_write (t' := s.toks + (nestedKind X.prog X.w).draws nk) hw I sr hi ha (by have := dPut_len kvs k d; omega) (rw_put hk rk rd rdu r) dd' hs
      exact h H' _ I' e s'
    · cases hp
  · cases hp
theorem ds_putN {o i v : Expr} {mo mi mv : SE} {pos pos' : Pos} (hK : X.K = G.K) (hw : X.w = G.w) (hu : X.A.units + 64 < cLine) (hv : DE G X W C v mv) (ho : DE G X W C o mo) (hi : DE G X W C i mi) (hs : swapsWith v (some (.Subscript o i pos')) pos.line X.env = pure false := by rfl) :
    DS G X W C (.Assign [.Subscript o i pos'] v pos) (sPut putN mo mi mv) := ⟨fun pins s σ H K I ⟨env, ι, st, hR, hp⟩ => by
  refine wpAny_Assign_Subscript (thn (hv.run pins s σ H _ I (ssE (Q := fun v H1 => ∃ env ι st d, R G σ H1 env ι st ∧ Rep G H1 ι d v ∧ postS G W K H1 ι ((mo C env st).thenS env fun x st => (mi C env st).thenS env fun y st => match putN st x y d with | some st' => .nx env st' | none => .stuck)) hR hp fun d st1 vd H1 ι1 e1 hR1 r1 hp1 => ⟨env, ι1, st1, d, hR1, r1, hp1⟩)) fun r s1 ⟨vd, H1, I1, rv, env, ι, st, d, hR, rd, hp⟩ => ?_) hs
  refine thn (ho.run pins s1 σ H1 _ I1 (ssE (Q := fun v H2 => ∃ env ι st d x, R G σ H2 env ι st ∧ Rep G H2 ι d vd ∧ Rep G H2 ι x v ∧ postS G W K H2 ι ((mi C env st).thenS env fun y st => match putN st x y d with | some st' => .nx env st' | none => .stuck)) hR hp fun x st1 vx H2 ι1 e1 hR1 r1 hp1 => ⟨env, ι1, st1, d, x, hR1, rd.ext e1 hR.sto.mut, r1, hp1⟩)) fun u s2 ⟨vx, H2, I2, rx, env, ι, st, d, x, hR, rd, rx', hp⟩ => ?_
  refine thn (hi.run pins s2 σ H2 _ I2 (ssE (Q := fun v H3 => ∃ env ι st st' d x y, R G σ H3 env ι st ∧ Rep G H3 ι d vd ∧ Rep G H3 ι x vx ∧ Rep G H3 ι y v ∧ putN st x y d = some st' ∧ postS G W K H3 ι (.nx env st')) hR hp fun y st1 vy H3 ι1 e1 hR1 r1 hp1 => by
    cases hq : putN st1 x y d with
    | none => rw [hq] at hp1; exact hp1.elim
    | some st' =>
      rw [hq] at hp1
      exact ⟨env, ι1, st1, st', d, x, y, hR1, rd.ext e1 hR.sto.mut, rx'.ext e1 hR.sto.mut, r1, hq, hp1⟩)) fun iv s3 ⟨vy, H3, I3, ry, env, ι, st, st', d, x, y, hR, rd, rx', ry', hq, hp⟩ => ?_
  exact setN hK hw hu I3 hR.sto rx' rx ry' ry rd rv hq fun H' s' I' e sr => ⟨σ, H', I', hp σ H' ι e (hR.ext e sr)⟩⟩
/-! ### d[k] += e -/
theorem ds_augN {op : Operator} {rd : V → V → Hp → VK → Prop} {f : Sto → D → D → Res D} {o i v : Expr} {mo mi mv : SE} {pos pos' : Pos} (hK : X.K = G.K) (hw : X.w = G.w) (hu : X.A.units + 64 < cLine) (ho : DE G X W C o mo) (hi : DE G X W C i mi) (hv : DE G X W C v mv) (hop : InOp X op rd) (br : Br2 G rd f)
    (ha : ∀ ov iv new, augStore i ov iv new = (do holding [new, ov, iv] (setItem ov iv new); release [new, ov, iv] []; pure .next) := by exact fun _ _ _ => rfl) :
    DS G X W C (.AugAssign (.Subscript o i pos') op v pos) (fun C env st => (mo C env st).thenS env fun x st => (mi C env st).thenS env fun y st => (ixN st x y).thenS env fun c st => (mv C env st).thenS env fun e st => (f st c e).thenS env fun z st => match putN st x y z with | some st' => .nx env st' | none => .stuck) := ⟨fun pins s σ H K I ⟨env, ι, st, hR, hp⟩ => by
  refine wpAny_AugAssign_SubscriptAny (thn (ho.run pins s σ H _ I (ssE (Q := fun v H1 => ∃ ι st x, R G σ H1 env ι st ∧ Rep G H1 ι x v ∧ postS G W K H1 ι ((mi C env st).thenS env fun y st => (ixN st x y).thenS env fun c st => (mv C env st).thenS env fun e st => (f st c e).thenS env fun z st => match putN st x y z with | some st' => .nx env st' | none => .stuck)) hR hp fun x st1 vx H1 ι1 e1 hR1 r1 hp1 => ⟨ι1, st1, x, hR1, r1, hp1⟩)) fun u s1 ⟨vx, H1, I1, rx, ι, st, x, hR, rx', hp⟩ => ?_) ha
  refine thn (hi.run pins s1 σ H1 _ I1 (ssE (Q := fun v H2 => ∃ ι st x y c i kvs, R G σ H2 env ι st ∧ Rep G H2 ι x vx ∧ Rep G H2 ι y v ∧ x = .ref i ∧ (st[i]? = some (.dcn kvs) ∨ st[i]? = some (.lck kvs)) ∧ dGet kvs y = some c ∧ (keyT y).isSome = true ∧ postS G W K H2 ι ((mv C env st).thenS env fun e st => (f st c e).thenS env fun z st => match putN st x y z with | some st' => .nx env st' | none => .stuck)) hR hp fun y st1 vy H2 ι1 e1 hR1 r1 hp1 => by
    unfold ixN at hp1
    split at hp1
    · rename_i i kvs hx
      obtain ⟨rfl, hi⟩ := dcrAt_of hx
      split at hp1
      · rename_i c hc
        split at hp1
        · rename_i hk
          exact ⟨ι1, st1, .ref i, y, c, i, kvs, hR1, rx'.ext e1 hR.sto.mut, r1, rfl, hi, hc, hk, hp1⟩
        · exact hp1.elim
      · exact hp1.elim
    · exact hp1.elim)) fun iv s2 ⟨vy, H2, I2, ry, ι, st, x, y, c, i, kvs, hR, rx', ry', ex, hi, hc, hk, hp⟩ => ?_
  subst ex
  obtain ⟨a, rfl, _, _⟩ := dcr_at hR.sto hi rx'
  cases (show u = Value.ref a from rx)
  refine getN hK hw hu I2 hR.sto hi rx' ry' ry hc hk fun vc uc s3 I3 rc rcu => ?_
  refine thn (hv.run pins s3 σ H2 _ I3 (ssE (Q := fun v H3 => ∃ ι st y c e, R G σ H3 env ι st ∧ Rep G H3 ι (.ref i) (.ref a) ∧ Rep G H3 ι y vy ∧ Rep G H3 ι c vc ∧ Rep G H3 ι e v ∧ postS G W K H3 ι ((f st c e).thenS env fun z st => match putN st (.ref i) y z with | some st' => .nx env st' | none => .stuck)) hR hp fun e st1 ve H3 ι1 e1 hR1 r1 hp1 => ⟨ι1, st1, y, c, e, hR1, rx'.ext e1 hR.sto.mut, ry'.ext e1 hR.sto.mut, rc.ext e1 hR.sto.mut, r1, hp1⟩)) fun w2 s4 ⟨ve, H3, I4, rve, ι, st, y, c, e, hR, rx', ry', rc, re, hp⟩ => ?_
  refine thn (hop pins s4 σ H3 vc ve uc w2 (fun v H4 => ∃ ι st st' y z, R G σ H4 env ι st ∧ Rep G H4 ι (.ref i) (.ref a) ∧ Rep G H4 ι y vy ∧ Rep G H4 ι z v ∧ putN st (.ref i) y z = some st' ∧ postS G W K H4 ι (.nx env st')) I4 rcu rve (br (fun cls ad H' => W cls ad σ H') H3 ι st c e vc ve _ hR.sto rc re ?_)) fun w3 s5 ⟨z, H4, I5, rz, ι, st, st', y, z', hR, rx', ry', rz', hq, hp⟩ => ?_
  · generalize f st c e = r at hp
    cases r with
    | ok z st1 =>
      intro v H1 ι1 e1 sr r1
      have hp : postS G W K H3 ι (match putN st1 (.ref i) y z with | some st' => .nx env st' | none => .stuck) := hp
      cases hq : putN st1 (.ref i) y z with
      | none => rw [hq] at hp; exact hp.elim
      | some st' =>
        rw [hq] at hp
        exact ⟨ι1, st1, st', y, z, hR.ext e1 sr, rx'.ext e1 hR.sto.mut, ry'.ext e1 hR.sto.mut, r1, hq, hp.ext e1⟩
    | exc c x st1 => exact fun cls ad H1 ι1 e sr r1 => hp cls ad σ H1 ι1 e (hR.ext e sr) r1
    | stuck => exact hp.elim
  · exact setN hK hw hu I5 hR.sto rx' rfl ry' ry rz' rz hq fun H' s' I' e sr => ⟨σ, H', I', hp σ H' ι e (hR.ext e sr)⟩⟩
end
end OH

set_option Elab.async false
set_option linter.all false
set_option maxRecDepth 100000
set_option maxHeartbeats 1000000
/-! OHDcm: methods of dicts of tuple keys (get, setdefault), del d[k]. -/
namespace OH
open PySem PySem.Spec PyProof.Rows L2
section
variable {G : Gx} {X : Cx} {W : WX} {C : Call}
/-- o.m(a, b), o a dict -/
def eDm2 (g : Sto → D → D → D → Res D) (o a b : SE) : SE := fun C env st => (o C env st).bind fun x st => if (dcnAt st x).isSome then (a C env st).bind fun y st => (b C env st).bind fun z st => g st x y z else .stuck
/-- a built-in method with two arguments answers as g -/
def CallD2 (G : Gx) (X : Cx) (id : String) (g : Sto → D → D → D → Res D) : Prop := ∀ (pins : List (Addr × Obj)) (σ : L2.St) (H : Hp) (s : Shared) (ι : List Addr) (st : Sto) (x y z : D) (vx vy vz : V) (ux uy uz : Value) (Q : VK) (W : Value → Option Addr → Hp → Prop) (E : Value → Shared → Prop), L2.Inv X pins σ H s → StoRep G H ι st →
  Rep G H ι x vx → RelV vx ux → Rep G H ι y vy → RelV vy uy → Rep G H ι z vz → RelV vz uz → post G (Rep G) W H ι Q (g st x y z) → wpAny (model X.prog X.w) X.A (call (.builtin id) [ux, uy, uz]) (EP X pins σ Q) E s
theorem de_dm2 {m id : String} {g : Sto → D → D → D → Res D} {o a b : Expr} {mo ma mb : SE} {apos cpos : Pos} (hK : X.K = G.K) (hw : X.w = G.w) (hc : CallD2 G X id g) (slot : Slot "dict" (Str.ofString m) id) (hty : typeOf (.builtin id) = pure (.type "method_descriptor")) (hid : Value.builtin id ≠ .builtin "__main__.__loader__#opaque" := by decide)
    (ho : DE G X W C o mo) (ha : DE G X W C a ma) (hb : DE G X W C b mb) (M : M2 X o (Str.ofString m) apos a b cpos) : DE G X W C (.Call (.Attribute o (Str.ofString m) apos) [a, b] [] cpos) (eDm2 g mo ma mb) := ⟨fun pins s σ H Q I ⟨env, ι, st, hR, hp⟩ => by
  refine wpAny_Call_method M.base M.few M.line PySem.F.plainAttrs_dict slot hty (thn (ho.run pins s σ H _ I (sqE (Q := fun v H1 => ∃ ι st x i kvs, R G σ H1 env ι st ∧ Rep G H1 ι x v ∧ x = .ref i ∧ st[i]? = some (.dcn kvs) ∧ post G (Rep G) (fun cls ad H' => W cls ad σ H') H1 ι Q ((ma C env st).bind fun y st => (mb C env st).bind fun z st => g st x y z)) hR hp fun x st1 vx H1 ι1 e1 hR1 r1 hp1 => by
    split at hp1
    · rename_i hs
      obtain ⟨⟨i, kvs⟩, hs⟩ := Option.isSome_iff_exists.mp hs
      obtain ⟨rfl, hi⟩ := dcnAt_of hs
      exact ⟨ι1, st1, .ref i, i, kvs, hR1, r1, rfl, hi, hp1⟩
    · exact hp1.elim)) fun ux s1 ⟨vx, H1, I1, rxu, ι, st, x, i, kvs, hR, rx, ex, hi, hp⟩ => ?_)
  subst ex
  obtain ⟨ad, rfl, _, _⟩ := dcn_at hR.sto hi rx
  cases (show ux = Value.ref ad from rxu)
  obtain ⟨t1, t2⟩ := dcn_typeIs hK hw I1 hR.sto (.inl hi) rx
  refine ⟨t1, t2, ?_⟩
  rw [M.trees]
  refine Calls.callWith_builtin rfl (Calls.evalArgs_plain (Calls.spliced_cons (thn (ha.run pins s1 σ H1 _ I1 (sqE (Q := fun v H2 => ∃ ι st y, R G σ H2 env ι st ∧ Rep G H2 ι (.ref i) (.ref ad) ∧ Rep G H2 ι y v ∧ post G (Rep G) (fun cls ad H' => W cls ad σ H') H2 ι Q ((mb C env st).bind fun z st => g st (.ref i) y z)) hR hp fun y st1 vy H2 ι1 e1 hR1 r1 hp1 => ⟨ι1, st1, y, hR1, rx.ext e1 hR.sto.mut, r1, hp1⟩)) fun uy s2 ⟨vy, H2, I2, ryu, ι, st, y, hR, rx, ry, hp⟩ =>
    Calls.spliced_cons (thn (hb.run pins s2 σ H2 _ I2 (sqE (Q := fun v H3 => ∃ ι st y z, R G σ H3 env ι st ∧ Rep G H3 ι (.ref i) (.ref ad) ∧ Rep G H3 ι y vy ∧ Rep G H3 ι z v ∧ post G (Rep G) (fun cls ad H' => W cls ad σ H') H3 ι Q (g st (.ref i) y z)) hR hp fun z st1 vz H3 ι1 e1 hR1 r1 hp1 => ⟨ι1, st1, y, z, hR1, rx.ext e1 hR.sto.mut, ry.ext e1 hR.sto.mut, r1, hp1⟩)) fun uz s3 ⟨vz, H3, I3, rzu, ι, st, y, z, hR, rx, ry, rz, hp⟩ => Calls.spliced_nil ?_))))
  exact hc pins σ H3 s3 ι st (.ref i) y z (.ref ad) vy vz _ uy uz Q _ _ I3 hR.sto rx rfl ry ryu rz rzu hp⟩
/-! ### get, setdefault -/
def getR : Sto → D → D → D → Res D := fun st x y z => match dcnAt st x with
  | some (_, kvs) => if (keyT y).isSome then .ok ((dGet kvs y).getD z) st else .stuck
  | none => .stuck
def setdefR : Sto → D → D → D → Res D := fun st x y z => match dcnAt st x with
  | some (i, kvs) => if (keyT y).isSome ∧ kvs.length < sizeLine then match dGet kvs y with
      | some d => .ok d st
      | none => .ok z (st.set i (.dcn (kvs ++ [(y, z)])))
    else .stuck
  | none => .stuck
theorem call_getN (hK : X.K = G.K) (hw : X.w = G.w) (hu : X.A.units + 64 < cLine) : CallD2 G X "dict.get" getR := by
  intro pins σ H s ι st x y z vx vy vz ux uy uz Q W E I sr rx rxu ry ryu rz rzu h
  unfold getR at h
  split at h
  · rename_i i kvs hx
    obtain ⟨rfl, hi⟩ := dcnAt_of hx
    split at h
    · rename_i hk
      obtain ⟨nk, hk⟩ := Option.isSome_iff_exists.mp hk
      obtain ⟨a, rfl, ha, c⟩ := dcn_at sr hi rx
      obtain ⟨kb, rfl⟩ := keyT_ref ry hk
      cases (show ux = Value.ref a from rxu)
      cases (show uy = Value.ref kb from ryu)
      obtain ⟨zl, hd, ys, r, dd⟩ := dcn_of hK hw I c
      refine call_meetsIn PySem.F.slot_dict_get dd.typeIs PySem.F.entry_dict_get (PySem.F.args_dict_get_3 _ _ _) (meetsH_dict_get_default (nestedKind X.prog X.w) a kb hd uz) ⟨nroom hu, nk, ys, keyT_is hK I ry hk, dd, ?_⟩
      rcases rw_get hk r with ⟨h1, h2⟩ | ⟨d, y', v, h1, h2, h3, h4⟩
      · rw [h1] at h
        rw [h2]
        exact ⟨vz, H, I.tok _, rzu, h.here sr rz⟩
      · rw [h1] at h
        rw [h2]
        exact ⟨v, H, I.tok _, h4, h.here sr h3⟩
    · exact h.elim
  · exact h.elim
theorem dPut_new {kvs : List (D × D)} {k v : D} (h : dGet kvs k = none) : dPut kvs k v = kvs ++ [(k, v)] := by
  unfold dPut
  rw [h]; rfl
theorem call_setdefN (hK : X.K = G.K) (hw : X.w = G.w) (hu : X.A.units + 64 < cLine) : CallD2 G X "dict.setdefault" setdefR := by
  intro pins σ H s ι st x y z vx vy vz ux uy uz Q W E I sr rx rxu ry ryu rz rzu h
  unfold setdefR at h
  split at h
  · rename_i i kvs hx
    obtain ⟨rfl, hi⟩ := dcnAt_of hx
    split at h
    · rename_i hc
      obtain ⟨nk, hk⟩ := Option.isSome_iff_exists.mp hc.1
      obtain ⟨a, rfl, ha, c⟩ := dcn_at sr hi rx
      obtain ⟨kb, rfl⟩ := keyT_ref ry hk
      cases (show ux = Value.ref a from rxu)
      cases (show uy = Value.ref kb from ryu)
      obtain ⟨zl, hd, ys, r, dd⟩ := dcn_of hK hw I c
      have hz : ys.length ≤ sizeLine := by rw [← Paired.length r]; exact zl
      refine call_setdefault_heap (hsz := hz) (nroom hu) (keyT_is hK I ry hk) hd dd (fun p hp => ?_) fun hn h' dd' hs => ?_
      · rcases rw_get hk r with ⟨h1, h2⟩ | ⟨d, y', v, h1, h2, h3, h4⟩
        · rw [h2] at hp; cases hp
        · rw [h2] at hp; cases hp
          rw [h1] at h
          exact ⟨v, H, I.tok _, h4, h.here sr h3⟩
      · have hg : dGet kvs y = none := by
          rcases rw_get hk r with ⟨h1, h2⟩ | ⟨d, y', v, h1, h2, h3, h4⟩
          · exact h1
          · rw [h2] at hn; cases hn
        rw [hg] at h
        have rr := rw_put hk ry rz rzu r
        rw [dPut_new hg] at rr
        obtain ⟨H', I', e, s'⟩ := dcn_write (t' := s.toks + (nestedKind X.prog X.w).draws nk) hw I sr hi ha (by rw [List.length_append]; simp; omega) rr dd' hs
        exact ⟨vz, H', I', rzu, h _ H' ι e s' (rz.ext e sr.mut)⟩
    · exact h.elim
  · exact h.elim
theorem de_getN {o a b : Expr} {mo ma mb : SE} {apos cpos : Pos} (hK : X.K = G.K) (hw : X.w = G.w) (hu : X.A.units + 64 < cLine) (ho : DE G X W C o mo) (ha : DE G X W C a ma) (hb : DE G X W C b mb)
    (M : M2 X o (Str.ofString "get") apos a b cpos := by exact ⟨rfl, rfl, rfl, rfl⟩) : DE G X W C (.Call (.Attribute o (Str.ofString "get") apos) [a, b] [] cpos) (eDm2 getR mo ma mb) := de_dm2 hK hw (call_getN hK hw hu) PySem.F.slot_dict_get PySem.F.type_dict_get (by decide) ho ha hb M
theorem de_setdefN {o a b : Expr} {mo ma mb : SE} {apos cpos : Pos} (hK : X.K = G.K) (hw : X.w = G.w) (hu : X.A.units + 64 < cLine) (ho : DE G X W C o mo) (ha : DE G X W C a ma) (hb : DE G X W C b mb)
    (M : M2 X o (Str.ofString "setdefault") apos a b cpos := by exact ⟨rfl, rfl, rfl, rfl⟩) : DE G X W C (.Call (.Attribute o (Str.ofString "setdefault") apos) [a, b] [] cpos) (eDm2 setdefR mo ma mb) := de_dm2 hK hw (call_setdefN hK hw hu) PySem.F.slot_dict_setdefault PySem.F.type_dict_setdefault (by decide) ho ha hb M
/-! ### del d[k] -/
def delN : Sto → D → D → Option Sto := fun st x y => match dcnAt st x with
  | some (i, kvs) => if (keyT y).isSome ∧ (dGet kvs y).isSome then some (st.set i (.dcn (dDel kvs y))) else none
  | none => none
def sDel (o i : SE) : SS := fun C env st => (o C env st).thenS env fun x st => (i C env st).thenS env fun y st => match delN st x y with | some st' => .nx env st' | none => .stuck
theorem ds_delN {o i : Expr} {mo mi : SE} {pos tpos : Pos} (hK : X.K = G.K) (hw : X.w = G.w) (hu : X.A.units + 64 < cLine) (ho : DE G X W C o mo) (hi : DE G X W C i mi) : DS G X W C (.Delete [.Subscript o i tpos] pos) (sDel mo mi) := ⟨fun pins s σ H K I ⟨env, ι, st, hR, hp⟩ => by
  refine wpAny_Delete (wpAny_deleteEach_cons (wpAny_delete_Subscript (thn (ho.run pins s σ H _ I (ssE (Q := fun v H1 => ∃ ι st x, R G σ H1 env ι st ∧ Rep G H1 ι x v ∧ postS G W K H1 ι ((mi C env st).thenS env fun y st => match delN st x y with | some st' => .nx env st' | none => .stuck)) hR hp fun x st1 vx H1 ι1 e1 hR1 r1 hp1 => ⟨ι1, st1, x, hR1, r1, hp1⟩)) fun u s1 ⟨vx, H1, I1, rxu, ι, st, x, hR, rx, hp⟩ =>
    thn (hi.run pins s1 σ H1 _ I1 (ssE (Q := fun v H2 => ∃ ι st st' x y, R G σ H2 env ι st ∧ Rep G H2 ι x vx ∧ Rep G H2 ι y v ∧ delN st x y = some st' ∧ postS G W K H2 ι (.nx env st')) hR hp fun y st1 vy H2 ι1 e1 hR1 r1 hp1 => by
      cases hq : delN st1 x y with
      | none => rw [hq] at hp1; exact hp1.elim
      | some st' =>
        rw [hq] at hp1
        exact ⟨ι1, st1, st', x, y, hR1, rx.ext e1 hR.sto.mut, r1, hq, hp1⟩)) fun iv s2 ⟨vy, H2, I2, ryu, ι, st, st', x, y, hR, rx, ry, hq, hp⟩ => ?_)))
  unfold delN at hq
  split at hq
  · rename_i i kvs hx
    obtain ⟨rfl, hi⟩ := dcnAt_of hx
    split at hq
    · rename_i hc
      cases hq
      obtain ⟨nk, hk⟩ := Option.isSome_iff_exists.mp hc.1
      obtain ⟨d, hg⟩ := Option.isSome_iff_exists.mp hc.2
      obtain ⟨a, rfl, ha, c⟩ := dcn_at hR.sto hi rx
      obtain ⟨kb, rfl⟩ := keyT_ref ry hk
      cases (show u = Value.ref a from rxu)
      cases (show iv = Value.ref kb from ryu)
      obtain ⟨zl, hd, ys, r, dd⟩ := dcn_of hK hw I2 c
      have hz : ys.length ≤ sizeLine := by rw [← Paired.length r]; exact zl
      rcases rw_get hk r with ⟨h1, h2⟩ | ⟨d', y', v, h1, h2, h3, h4⟩
      · rw [hg] at h1; cases h1
      refine wpAny_delItem_heap (hsz := hz) (nroom hu) (keyT_is hK I2 ry hk) hd dd h2 fun h' dd' hs => ?_
      have hl : (dDel kvs y).length ≤ kvs.length := List.length_filter_le _ _
      obtain ⟨H', I', e, s'⟩ := dcn_write (t' := s2.toks + (nestedKind X.prog X.w).draws nk) hw I2 hR.sto hi ha (by omega) (rw_del hk r) dd' hs
      exact wpAny_deleteEach_nil ⟨σ, H', I', hp σ H' ι e (hR.ext e s')⟩
    · cases hq
  · cases hq⟩
end
end OH

set_option Elab.async false
set_option linter.all false
set_option maxRecDepth 100000
set_option maxHeartbeats 1000000
/-! OHDci: comprehensions over the values or the items of a dict of tuple keys: the dict is locked while it is walked. -/
namespace OH
open PySem PySem.Spec PyProof.Rows L2

section
variable {P : Program} {w : World}
/-- a walked dict as it lies in the heap -/
theorem lck_raw {H : Hp} {h : Heap} {d : Addr} {od : Obj} {xs : List (NestedKey × Addr × V)} (ok : HOk P w H h) (e : H d = some (.frz od (.ext (dNφ w d xs)))) :
    (d == sysModules) = false ∧ h.get? d = some od ∧ ∃ es ep, od.data = .dict es ep ∧ h.DictRaw d es ep ∧ es.size = xs.length ∧ ∀ (i : Nat) r, xs[i]? = some r → ∃ hi : i < es.size, es[i].key = .ref r.2.1 ∧ RelV r.2.2 es[i].val := by
  obtain ⟨g0, ⟨z, hd, ys, rel, o, es, ep, g1, g2, g3, g4, g5⟩, _, _⟩ := (show ObjOk P w H h d (.frz od (.ext (dNφ w d xs))) from ok d _ e)
  rw [g0] at g1
  cases g1
  have hl : xs.length = ys.length := Paired.length rel
  have hs : es.size = xs.length := by
    have := congrArg List.length g4
    rw [Array.length_toList, List.length_map] at this
    omega
  refine ⟨hd, g0, es, ep, g3, ⟨od, g0, g2, g3⟩, hs, fun i r hr => ?_⟩
  obtain ⟨hi, rfl⟩ := List.getElem?_eq_some_iff.mp hr
  have all : ∀ {l : List (NestedKey × Addr × V)} {m : List (NestedKey × Addr × Value)}, Paired (fun (p : NestedKey × Addr × V) (q : NestedKey × Addr × Value) => p.1 = q.1 ∧ p.2.1 = q.2.1 ∧ RelV p.2.2 q.2.2) l m → ∀ (i : Nat) r, l[i]? = some r → ∃ y, m[i]? = some y ∧ r.2.1 = y.2.1 ∧ RelV r.2.2 y.2.2 := by
    intro l m q
    induction q with
    | nil => intro i r h; simp at h
    | @cons p y ps zs hq t ih =>
      intro i r h
      cases i with
      | zero => simp at h; subst h; exact ⟨y, rfl, hq.2⟩
      | succ i => simpa using ih i r (by simpa using h)
  obtain ⟨y, hy, h1, h2⟩ := all rel i _ hr
  have hi2 : i < es.size := by omega
  have he : es[i] = (⟨y.1.hash w, .ref y.2.1, y.2.2⟩ : DictEntry) := by
    have : es.toList[i]? = some (⟨y.1.hash w, .ref y.2.1, y.2.2⟩ : DictEntry) := by rw [g4, List.getElem?_map, hy]; rfl
    rw [Array.getElem?_toList] at this
    rw [Array.getElem?_eq_getElem hi2] at this
    exact Option.some.inj this
  exact ⟨hi2, by rw [he, h1], by rw [he]; exact h2⟩
abbrev LkH (w : World) (d : Addr) (od : Obj) (xs : List (NestedKey × Addr × V)) (H : Hp) : Prop := H d = some (.frz od (.ext (dNφ w d xs)))
def ItvN (w : World) (d : Addr) (od : Obj) (xs : List (NestedKey × Addr × V)) : L2.It :=
  ⟨fun i H => LkH w d od xs H ∧ i < xs.length, fun i H x H' => H' = H ∧ ∃ r, xs[i]? = some r ∧ x = r.2.2, fun i H => LkH w d od xs H ∧ xs.length ≤ i⟩
def ItiN (w : World) (d : Addr) (od : Obj) (xs : List (NestedKey × Addr × V)) : L2.It :=
  ⟨fun i H => LkH w d od xs H ∧ i < xs.length, fun i H x H' => ∃ T r, xs[i]? = some r ∧ x = .ref T ∧ H T = none ∧ H' = upd H T (.tup [.ref r.2.1, r.2.2]), fun i H => LkH w d od xs H ∧ xs.length ≤ i⟩
variable {K : PySem.W.Frag} {tg : Expr} {d : Addr} {od : Obj} {xs : List (NestedKey × Addr × V)} {es : Array DictEntry} {ep : Nat}
theorem dict_same {o : Obj} {es es' : Array DictEntry} {ep ep' : Nat} (a : o.data = .dict es ep) (b : o.data = .dict es' ep') : es = es' ∧ ep = ep' := by
  rw [a] at b
  cases b
  exact ⟨rfl, rfl⟩
theorem turn_vN (it : Addr) (hod : od.data = .dict es ep) : Turn P w K tg (ItvN w d od xs) [it] it (fun i h => h.IsValIter it d i es.size ep) where
  mem := by simp
  obj := fun i h st b hb => by
    obtain rfl : b = it := by simpa using hb
    obtain ⟨oi, e, c, dd⟩ := st
    exact ⟨oi, e, fun v z => by rw [dd] at z; cases z⟩
  keep := fun i h h' st k => st.at fun oi e => k it (by simp) oi e
  item := by
    intro X hP hw hK hc i pins s σ H E I hf st ⟨hd, hi⟩
    subst hP hw hK
    have hfi := hf it (by simp)
    obtain ⟨q1, q2, es2, ep2, q3, q4, q5, q6⟩ := lck_raw I.hok hd
    obtain ⟨rfl, rfl⟩ := dict_same hod q3
    obtain ⟨hi2, k1, k2⟩ := q6 i _ (List.getElem?_eq_getElem hi)
    refine wpAny_pyNext_values_item_raw st q4 hi2 fun h2 st2 sb2 => ?_
    have I1 : Inv X pins σ H { s with heap := h2 } := I.turned (t' := s.toks) (fun b ob hb e => (sb2.2 b hb).trans e) hfi.1 hfi.2.1 hfi.2.2.2.1 hfi.2.2.2.2.1 hfi.2.2.2.2.2
    obtain ⟨oi, e, c, dd⟩ := id st2
    exact ⟨_, rfl, go_of (s := { s with heap := h2 }) e c dd (by decide) ⟨xs[i].2.2, H, I1, k2, ⟨rfl, _, List.getElem?_eq_getElem hi, rfl⟩, st2, fun b hb => (hf b hb).1⟩⟩
  done := by
    intro X hP hw hK hc i pins s σ H E I hf st ⟨hd, hi⟩
    subst hP hw hK
    have hfi := hf it (by simp)
    obtain ⟨q1, q2, es2, ep2, q3, q4, q5, q6⟩ := lck_raw I.hok hd
    obtain ⟨rfl, rfl⟩ := dict_same hod q3
    exact wpAny_pyNext_values_end_raw (I.ok.hd hc) st q4 (by omega) fun h2 eb => ⟨rfl, I.turned (t' := s.toks) (fun b ob hb e => eb b ob hb e) hfi.1 hfi.2.1 hfi.2.2.2.1 hfi.2.2.2.2.1 hfi.2.2.2.2.2⟩
  self := fun A i s Q E st h => wpAny_pyIter_valiter st h
theorem turn_iN {elts : List Expr} {kk : Nat} {tpos : Pos} (it : Addr) (hod : od.data = .dict es ep) : Turn P w K (.Tuple elts kk tpos) (ItiN w d od xs) [it] it (fun i h => ∃ ok ov, IsItemIter h it d i es.size ep ok ov) where
  mem := by simp
  obj := fun i h st b hb => by
    obtain rfl : b = it := by simpa using hb
    obtain ⟨ok, ov, e⟩ := st
    exact ⟨_, e, fun v z => nomatch z⟩
  keep := fun i h h' st k => let ⟨ok, ov, e⟩ := st; ⟨ok, ov, k it (by simp) _ e⟩
  item := by
    intro X hP hw hK hc i pins s σ H E I hf st ⟨hd, hi⟩
    subst hP hw hK
    obtain ⟨q1, q2, es2, ep2, q3, q4, q5, q6⟩ := lck_raw I.hok hd
    obtain ⟨rfl, rfl⟩ := dict_same hod q3
    obtain ⟨hi2, k1, k2⟩ := q6 i _ (List.getElem?_eq_getElem hi)
    obtain ⟨ok, ov, he⟩ := st
    have hlt : it < s.heap.objs.size := Heap.lt_size he
    refine wpAny_pyNext_items_item_raw he q4 hi2 fun h2 ho hT hz hk => ?_
    refine ⟨_, rfl, wpAny_letOwnedTupleGo_items (s := { s with heap := h2 }) ho fun h3 he3 sb => ?_⟩
    have hT2 : h3.get? s.heap.objs.size = some { cls := .type "tuple", data := .seq #[es[i].key, es[i].val] } := (sb.2 _ (Nat.ne_of_gt hlt)).trans hT
    have new : ObjOk X.prog X.w (upd H s.heap.objs.size (.tup [.ref xs[i].2.1, xs[i].2.2])) h3 s.heap.objs.size (.tup [.ref xs[i].2.1, xs[i].2.2]) :=
      ⟨by show 2 ≤ sizeLine; decide, [es[i].key, es[i].val], .cons k1 (.cons k2 .nil), ⟨_, hT2, rfl, _, rfl⟩⟩
    have I1 : Inv X pins σ (upd H s.heap.objs.size (.tup [.ref xs[i].2.1, xs[i].2.2])) { s with heap := h3 } :=
      I.turnedNew (t' := s.toks) (ch := [it]) (fun b ob hb e => (sb.2 b (by simpa using hb)).trans (hk b ob (by simpa using hb) e)) hf (Nat.le_refl _) new
    refine ⟨.ref s.heap.objs.size, _, I1, rfl, ⟨_, xs[i], List.getElem?_eq_getElem hi, rfl, I.hok.fresh (Nat.le_refl _), rfl⟩, ⟨_, _, he3⟩, fun b hb => ?_⟩
    obtain rfl : b = it := by simpa using hb
    rw [upd_ne (Nat.ne_of_lt hlt)]
    exact (hf b (by simp)).1
  done := by
    intro X hP hw hK hc i pins s σ H E I hf st ⟨hd, hi⟩
    subst hP hw hK
    have hfi := hf it (by simp)
    obtain ⟨q1, q2, es2, ep2, q3, q4, q5, q6⟩ := lck_raw I.hok hd
    obtain ⟨rfl, rfl⟩ := dict_same hod q3
    obtain ⟨ok, ov, he⟩ := st
    exact wpAny_pyNext_items_end_raw (I.ok.hd hc) he q4 (by omega) fun h2 eb => ⟨rfl, I.turned (t' := s.toks) (fun b ob hb e => eb b ob hb e) hfi.1 hfi.2.1 hfi.2.2.2.1 hfi.2.2.2.2.1 hfi.2.2.2.2.2⟩
  self := fun A i s Q E st h => let ⟨_, _, e⟩ := st; PySem.W.kcp_self e h
end
/-! ### the iterator as a meaning -/
def lockable (st : Sto) (i : Nat) : Bool := match st[i]? with | some (.lck _) => false | _ => true
def prV : D × D → D := fun p => p.2
def prI : D × D → D := fun p => .tup [p.1, p.2]
def siN (pr : D × D → D) (m : SE) : SI := fun C env st => (m C env st).bind fun x st1 => match dcnAt st1 x with
  | some (i, kvs) => if lockable st i then .ok ⟨kvs.map pr, []⟩ (st1.set i (.lck kvs)) else .stuck
  | none => .stuck
section
variable {G : Gx} {X : Cx} {W : WX} {C : Call}
/-- from the dict's value to the iterator over the locked dict -/
theorem sqN {pr : D × D → D} {m : SE} {σ : L2.St} {H : Hp} {R0 : L2.It → Hp → Prop} (hw : X.w = G.w) (h : tI G W C (siN pr m) σ H R0) : tE G W C m σ H fun v H1 => ∃ (ι1 : List Addr) (st1 : Sto) (i : Nat) (kvs : List (D × D)) (a : Addr) (xs : List (NestedKey × Addr × V)), v = .ref a ∧ StoRep G H1 ι1 st1 ∧ H1 a = some (.ext (dNφ X.w a xs)) ∧ kvs.length = xs.length ∧
    ∀ od, ∀ J, (∀ H2 ι2 st2, Ext (upd H1 a (.frz od (.ext (dNφ X.w a xs)))) ι1 H2 ι2 → StoRep G H2 ι2 st2 → (∀ (j : Nat) (d : D), (kvs.map pr)[j]? = some d → J.go j H2 ∧ ∀ x H3, J.yld j H2 x H3 → Ext H2 ι2 H3 ι2 ∧ StoRep G H3 ι2 st2 ∧ ∃ p, kvs[j]? = some p ∧ ∃ r, xs[j]? = some r ∧ (Rep G H3 ι2 p.1 (.ref r.2.1) → Rep G H3 ι2 p.2 r.2.2 → Rep G H3 ι2 d x)) ∧ ∀ j, kvs.length ≤ j → J.stop j H2) →
      R0 J (upd H1 a (.frz od (.ext (dNφ X.w a xs)))) := by
  obtain ⟨env, ι, st, hR, hp⟩ := h
  refine sqE hR hp fun x st1 v H1 ι1 e1 hR1 r1 hp1 => ?_
  split at hp1
  · rename_i i kvs hx
    obtain ⟨rfl, hi⟩ := dcnAt_of hx
    split at hp1
    · rename_i hl
      obtain ⟨a, rfl, ha, xs, k1, k2, k3, k4⟩ := dcn_at hR1.sto hi r1
      rw [← hw] at k1
      refine ⟨ι1, st1, i, kvs, a, xs, rfl, hR1.sto, k1, by simpa using congrArg List.length k2, fun od J hJ => ?_⟩
      have hm : a ∈ ι1 := List.mem_of_getElem? ha
      have e2 : Ext H1 ι1 (upd H1 a (.frz od (.ext (dNφ X.w a xs)))) ι1 := ext_write hm (nlk_ext k1)
      have s2 : StoRep G (upd H1 a (.frz od (.ext (dNφ X.w a xs)))) ι1 (st1.set i (.lck kvs)) := hR1.sto.write ha ⟨od, xs, by rw [← hw]; exact upd_same, k2, k3.ext e2 hR1.sto.mut, k4.ext e2 hR1.sto.mut⟩
      refine hp1 J _ ι1 e2 s2 fun H2 ι2 st2 e3 s3 _ => ?_
      obtain ⟨j1, j2⟩ := hJ H2 ι2 st2 e3 s3
      refine ⟨fun j d hd => ?_, fun j hj => j2 j (by simpa using hj)⟩
      obtain ⟨g1, g2⟩ := j1 j d hd
      refine ⟨g1, fun x H3 hy => ?_⟩
      obtain ⟨e4, s4, p, hp, r, hr, k⟩ := g2 x H3 hy
      have f3 := ((k3.ext e2 hR1.sto.mut).ext e3 s2.mut).ext e4 s3.mut
      have f4 := ((k4.ext e2 hR1.sto.mut).ext e3 s2.mut).ext e4 s3.mut
      refine ⟨e4, s4, k ?_ ?_⟩
      · obtain ⟨v, h1, h2⟩ := f3.get (i := j) (d := p.1) (by rw [List.getElem?_map, hp]; rfl)
        rw [List.getElem?_map, hr] at h1
        cases h1
        exact h2
      · obtain ⟨v, h1, h2⟩ := f4.get (i := j) (d := p.2) (by rw [List.getElem?_map, hp]; rfl)
        rw [List.getElem?_map, hr] at h1
        cases h1
        exact h2
    · exact hp1.elim
  · exact hp1.elim
theorem di_valuesN {tg e : Expr} {m : SE} {apos cpos : Pos} (hw : X.w = G.w) (he : DE G X W C e m) (hbase : attributeBase e "values" X.env (eval e X.env) = eval e X.env := by rfl) (hline : (apos.endLine == cpos.line) = true := by rfl) :
    DI G X W C tg (.Call (.Attribute e "values" apos) [] [] cpos) (siN prV m) := ⟨fun pins s σ H R0 I h => by
  refine wpAny_Call_method (T := "dict") (id := "dict.values") hbase rfl hline PySem.F.plainAttrs_dict PySem.F.slot_dict_values PySem.F.type_dict_values (thn (he.run pins s σ H _ I (sqN hw h)) fun u s1 ⟨v, H1, I1, rv, ι1, st1, i, kvs, a, xs, ev, sr, k1, hl, q⟩ => ?_)
  subst ev
  cases (show u = Value.ref a from rv)
  obtain ⟨od, I2⟩ := I1.lock k1 True.intro
  obtain ⟨q1, q2, es, ep, q3, q4, q5, q6⟩ := lck_raw I2.hok upd_same
  refine ⟨q4.typeIs, fun b z => ?_, ?_⟩
  · cases z
    obtain ⟨o, h1, h2, _⟩ := q4
    exact ⟨o, h1, h2.2.1⟩
  have I3 : Inv X pins σ (upd H1 a (.frz od (.ext (dNφ X.w a xs)))) { s1 with heap := s1.heap.push { cls := .type "dict_values", data := .fields #[.ref a] } } := I2.kept (t' := s1.toks) fun b ob q => Heap.get?_push_of_some _ q
  have q4' : (s1.heap.push { cls := .type "dict_values", data := .fields #[.ref a] }).DictRaw a es ep := q4.at fun o e => Heap.get?_push_of_some _ e
  have hR0 : R0 (ItvN X.w a od xs) (upd H1 a (.frz od (.ext (dNφ X.w a xs)))) := q od _ fun H2 ι2 st2 e2 s2 => by
    have hH : H2 a = some (.frz od (.ext (dNφ X.w a xs))) := (e2.lkd a ⟨_, _, upd_same⟩).trans upd_same
    refine ⟨fun j d hd => ?_, fun j hj => ⟨hH, by omega⟩⟩
    have hj : j < kvs.length := by simpa using (List.getElem?_eq_some_iff.mp hd).1
    refine ⟨⟨hH, by omega⟩, fun x H3 ⟨e, r, hr, ex⟩ => ?_⟩
    subst e ex
    refine ⟨Ext.refl _ _, s2, kvs[j], by simp [hj], r, hr, fun _ h2 => ?_⟩
    rw [List.getElem?_map] at hd
    simp [hj] at hd
    rw [← hd]
    exact h2
  have fin : wpAny (model X.prog X.w) X.A (pyIter (.ref s1.heap.objs.size)) (PIE X pins σ tg R0) X.xe { s1 with heap := s1.heap.push { cls := .type "dict_values", data := .fields #[.ref a] } } :=
    wpAny_pyIter_values_raw (d := a) (es := es) (ep := ep) ⟨_, Heap.get?_push_size _ rfl, rfl, rfl⟩ q4' (pi_one (tk := s1.toks) I3 _ (turn_vN _ q3) ⟨_, Heap.get?_push_size _ rfl, rfl, rfl⟩ hR0)
  show wpAny _ _ (callWith cpos (.builtin "dict.values") [.ref a] [] []) _ X.xe s1
  exact method_meetsIn PySem.F.slot_dict_values PySem.F.entry_dict_values rfl (PySem.evalArgs_none ⟨rfl, q4.typeIs, PySem.F.args_dict_values_1 _, _, meets_dict_values_raw a q1, ⟨es, ep, q4⟩, fin⟩)⟩
theorem di_itemsN {elts : List Expr} {kk : Nat} {tpos : Pos} {e : Expr} {m : SE} {apos cpos : Pos} (hw : X.w = G.w) (he : DE G X W C e m) (hbase : attributeBase e "items" X.env (eval e X.env) = eval e X.env := by rfl) (hline : (apos.endLine == cpos.line) = true := by rfl) :
    DI G X W C (.Tuple elts kk tpos) (.Call (.Attribute e "items" apos) [] [] cpos) (siN prI m) := ⟨fun pins s σ H R0 I h => by
  refine wpAny_Call_method (T := "dict") (id := "dict.items") hbase rfl hline PySem.F.plainAttrs_dict PySem.F.slot_dict_items PySem.F.type_dict_items (thn (he.run pins s σ H _ I (sqN hw h)) fun u s1 ⟨v, H1, I1, rv, ι1, st1, i, kvs, a, xs, ev, sr, k1, hl, q⟩ => ?_)
  subst ev
  cases (show u = Value.ref a from rv)
  obtain ⟨od, I2⟩ := I1.lock k1 True.intro
  obtain ⟨q1, q2, es, ep, q3, q4, q5, q6⟩ := lck_raw I2.hok upd_same
  refine ⟨q4.typeIs, fun b z => ?_, ?_⟩
  · cases z
    obtain ⟨o, h1, h2, _⟩ := q4
    exact ⟨o, h1, h2.2.1⟩
  have I3 : Inv X pins σ (upd H1 a (.frz od (.ext (dNφ X.w a xs)))) { s1 with heap := s1.heap.push { cls := .type "dict_items", data := .fields #[.ref a] } } := I2.kept (t' := s1.toks) fun b ob q => Heap.get?_push_of_some _ q
  have q4' : (s1.heap.push { cls := .type "dict_items", data := .fields #[.ref a] }).DictRaw a es ep := q4.at fun o e => Heap.get?_push_of_some _ e
  have hR0 : R0 (ItiN X.w a od xs) (upd H1 a (.frz od (.ext (dNφ X.w a xs)))) := q od _ fun H2 ι2 st2 e2 s2 => by
    have hH : H2 a = some (.frz od (.ext (dNφ X.w a xs))) := (e2.lkd a ⟨_, _, upd_same⟩).trans upd_same
    refine ⟨fun j d hd => ?_, fun j hj => ⟨hH, by omega⟩⟩
    have hj : j < kvs.length := by simpa using (List.getElem?_eq_some_iff.mp hd).1
    refine ⟨⟨hH, by omega⟩, fun x H3 ⟨T, r, hr, ex, hT, eH⟩ => ?_⟩
    subst eH ex
    refine ⟨ext_new hT, s2.fresh hT, kvs[j], by simp [hj], r, hr, fun h1 h2 => ?_⟩
    rw [List.getElem?_map] at hd
    simp [hj, prI] at hd
    rw [← hd]
    exact ⟨T, _, rfl, .inl (.inl upd_same), _, _, rfl, h1, _, _, rfl, h2, rfl⟩
  have fin : wpAny (model X.prog X.w) X.A (pyIter (.ref s1.heap.objs.size)) (PIE X pins σ (.Tuple elts kk tpos) R0) X.xe { s1 with heap := s1.heap.push { cls := .type "dict_items", data := .fields #[.ref a] } } :=
    wpAny_pyIter_items_raw (d := a) (es := es) (ep := ep) ⟨_, Heap.get?_push_size _ rfl, rfl, rfl⟩ q4' (pi_one (tk := s1.toks) I3 _ (turn_iN _ q3) ⟨.none, .none, Heap.get?_push_size _ rfl⟩ hR0)
  show wpAny _ _ (callWith cpos (.builtin "dict.items") [.ref a] [] []) _ X.xe s1
  exact method_meetsIn PySem.F.slot_dict_items PySem.F.entry_dict_items rfl (PySem.evalArgs_none ⟨rfl, q4.typeIs, PySem.F.args_dict_items_1 _, _, meets_dict_items_raw a q1, ⟨es, ep, q4⟩, fin⟩)⟩
end
end OH

set_option Elab.async false
set_option linter.all false
set_option maxRecDepth 100000
set_option maxHeartbeats 1000000
/-! OHDcl: list comprehensions over a dict: behind the walk the dict is free again. -/
namespace OH
open PySem PySem.Spec PyProof.Rows L2

/-- the walked dict is free again -/
def unl {α : Type} (i : Nat) (x : α) (st : Sto) : Res α := match st[i]? with | some (.lck kvs) => .ok x (st.set i (.dcn kvs)) | _ => .stuck
def lLcN (pr : D × D → D) (m : SE) (g : SG) (vs : List Nat) (c : SB) (elt : SE) : SL := fun C env st => (m C env st).bind fun x st1 => match dcnAt st1 x with
  | some (i, kvs) => if lockable st i then (if kvs.length ≤ sizeLine then lcGo [] g c elt C (wipeE env vs) (kvs.map pr) [] (st1.set i (.lck kvs)) else .stuck).bind fun ds st2 => unl i ds st2 else .stuck
  | none => .stuck
section
variable {G : Gx} {X : Cx} {W : WX} {C : Call}
/-- an address of the store that was not locked -/
theorem nofrz_of {pins : List (Addr × Obj)} {σ : L2.St} {H H' : Hp} {s : Shared} {ι ι' : List Addr} {st : Sto} {i : Nat} {a : Addr} (I : L2.Inv X pins σ H s) (sr : StoRep G H ι st) (e : Ext H ι H' ι') (nd : ι'.Nodup) (ha : ι'[i]? = some a) (hl : lockable st i = true) : (∀ o u, H a ≠ some (.frz o u)) ∧ ∀ o u, X.H_0 a ≠ some (.frz o u) := by
  have k : ∀ o u, H a ≠ some (.frz o u) := fun o u z => by
    by_cases hm : a ∈ ι
    · obtain ⟨j, hj, ej⟩ := List.mem_iff_getElem.mp hm
      obtain ⟨r, rfl⟩ := e.more
      have h2 : (ι ++ r)[j]? = some a := by rw [List.getElem?_append_left hj]; simp [hj, ej]
      obtain rfl := (List.getElem?_inj (List.getElem?_eq_some_iff.mp h2).1 nd).mp (h2.trans ha.symm)
      have hs : j < st.length := by rw [← sr.len]; exact hj
      have c := sr.cell j st[j] a (by simp [hs]) (by simp [hj, ej])
      have hl' : lockable st j = match (some st[j] : Option Cell) with | some (.lck _) => false | _ => true := by
        unfold lockable
        rw [List.getElem?_eq_getElem hs]
        try rfl
      rw [hl'] at hl
      cases hc : st[j] with
      | lst ds => rw [hc] at c; obtain ⟨xs, q, _⟩ := c; rw [z] at q; cases q
      | dct kvs => rw [hc] at c; obtain ⟨ks, vs, q, _⟩ := c; rw [z] at q; cases q
      | dcn kvs => rw [hc] at c; obtain ⟨xs, q, _⟩ := c; rw [z] at q; cases q
      | lck kvs => rw [hc] at hl; cases hl
    · rw [e.new a (List.mem_of_getElem? ha) hm] at z; cases z
  exact ⟨k, fun o u z => k o u (I.base.frzs a o u z)⟩
/-- what is wanted of a value behind the walk -/
def QUn (X : Cx) (Q : VK) : VK := fun v H => ∃ a od φ, H a = some (.frz od (.ext φ)) ∧ (∀ o u, X.H_0 a ≠ some (.frz o u)) ∧ Q v (upd H a (.ext φ))
theorem ep_un {pins : List (Addr × Obj)} {σ : L2.St} {Q : VK} {v : Value} {s : Shared} (h : EP X pins σ (QUn X Q) v s) : EP X pins σ Q v s := by
  obtain ⟨x, H, I, r, a, od, φ, e, hn, q⟩ := h
  exact ⟨x, _, I.unlock e hn, r, q⟩
theorem sto_unl {H : Hp} {ι : List Addr} {st : Sto} {i : Nat} {kvs : List (D × D)} (sr : StoRep G H ι st) (h : st[i]? = some (.lck kvs)) : ∃ a od φ, ι[i]? = some a ∧ H a = some (.frz od (.ext φ)) ∧ StoRep G (upd H a (.ext φ)) ι (st.set i (.dcn kvs)) ∧
    (∀ {d : D} {v : V}, Rep G H ι d v → Rep G (upd H a (.ext φ)) ι d v) ∧ ∀ {ds : List D} {vs : List V}, RepL G H ι ds vs → RepL G (upd H a (.ext φ)) ι ds vs := by
  obtain ⟨a, ha, od, xs, k1, k2, k3, k4⟩ := sr.at h
  have hT : ∀ b ys, SqT G.K H b ys → SqT G.K (upd H a (.ext (dNφ G.w a xs))) b ys := fun b ys q => by
    rcases q with (q | ⟨o, q⟩) | q
    · exact .inl (.inl (by rw [upd_ne (fun z => by rw [z, k1] at q; cases q)]; exact q))
    · exact .inl (.inr ⟨o, by rw [upd_ne (fun z => by rw [z, k1] at q; cases q)]; exact q⟩)
    · exact .inr q
  have hF : ∀ b ys, SqF G.K H b ys → SqF G.K (upd H a (.ext (dNφ G.w a xs))) b ys := fun b ys q => by
    rcases q with ⟨o, q⟩ | q
    · exact .inl ⟨o, by rw [upd_ne (fun z => by rw [z, k1] at q; cases q)]; exact q⟩
    · exact .inr q
  refine ⟨a, od, _, ha, k1, sr.write ha ⟨xs, upd_same, k2, k3.mono hT hF fun _ _ z => z, k4.mono hT hF fun _ _ z => z⟩, fun r => r.mono hT hF fun _ _ z => z, fun r => r.mono hT hF fun _ _ z => z⟩
theorem ext_unl {H H' : Hp} {ι ι' : List Addr} {a : Addr} {o : HO} (e : Ext H ι H' ι') (hm : a ∈ ι') (hn : ∀ o u, H a ≠ some (.frz o u)) : Ext H ι (upd H' a o) ι' := by
  refine ⟨fun b u h n => ?_, e.more, e.new, fun b hb => ?_⟩
  · have ne : b ≠ a := fun z => by
      subst z
      rw [e.new b hm n] at h; cases h
    rw [upd_ne ne]
    exact e.keep b u h n
  · have ne : b ≠ a := fun z => by
      subst z
      obtain ⟨od, φ, q⟩ := hb
      exact hn _ _ q
    rw [upd_ne ne]
    exact e.lkd b hb
theorem dt_lcN {pr : D × D → D} {m : SE} {elt tg iter : Expr} {ifs : List Expr} {scope : Scope} {own : List (Str × Nat)} {pos : Pos} {g : SG} {us : List Nat} {mc : SB} {me : SE} (hc : X.calm = true) (hN : X.N.Nodup) (hi : DI G X W C tg iter (siN pr m)) (ok : BlkOk X.N X.env.scope scope own)
    (hus : ∀ i ∈ us, i ∈ own.map (·.2))
    (hg : ∀ (s : Shared) (H : Hp) (B : Addr) (cl : List (Str × Addr)) (fp : List Addr), DG G (X.blk s H scope (compEnvC scope cl B X.env) fp) tg g us)
    (ht : ∀ (s : Shared) (H : Hp) (B : Addr) (cl : List (Str × Addr)) (fp : List Addr), DTs G (X.blk s H scope (compEnvC scope cl B X.env) fp) WF C ifs mc)
    (he : ∀ (s : Shared) (H : Hp) (B : Addr) (cl : List (Str × Addr)) (fp : List Addr), DE G (X.blk s H scope (compEnvC scope cl B X.env) fp) WF C elt me) (hs : ∀ x, foldedSetIterable iter X.env x = pure x := by intro _; rfl) :
    DT G X W C (.ListComp elt [⟨tg, iter, ifs, 0⟩] scope pos) (lLcN pr m g (own.map (·.2)) mc me) := ⟨fun pins s σ H Q I ⟨env, ι, st, hR, hp⟩ => by
  refine thn ((pe_lc hc hN hi ok hg ht he hs).run pins s σ H (QUn X Q) I (lc_read hus ⟨env, ι, st, hR, ?_⟩)) fun v s' q => ep_un q
  unfold lLcN at hp
  unfold lLc siN
  generalize m C env st = rm at hp ⊢
  cases rm with
  | exc c x st1 => exact hp
  | stuck => exact hp
  | ok x st1 =>
    dsimp only [Res.bind] at hp ⊢
    cases hx : dcnAt st1 x with
    | none => rw [hx] at hp; exact hp.elim
    | some p =>
      obtain ⟨i, kvs⟩ := p
      rw [hx] at hp
      dsimp only at hp ⊢
      by_cases hl : lockable st i = true
      case neg => rw [if_neg hl] at hp; exact hp.elim
      rw [if_pos hl] at hp ⊢
      dsimp only
      rw [List.length_map]
      generalize (if kvs.length ≤ sizeLine then lcGo [] g mc me C (wipeE env (own.map (·.2))) (kvs.map pr) [] (st1.set i (.lck kvs)) else .stuck) = rl at hp ⊢
      cases rl with
      | exc c x st2 => exact hp
      | stuck => exact hp
      | ok ds st2 =>
        intro v H' ι' e' s' ⟨b, xs, ev, h1, h2, h3, h4⟩
        have hp : post G (repT G H) (fun cls ad H' => W cls ad σ H') H ι Q (unl i ds st2) := hp
        unfold unl at hp
        split at hp
        · rename_i kvs2 hk
          obtain ⟨a, od, φ, ha, hH, s2, _, hrl⟩ := sto_unl s' hk
          obtain ⟨n1, n2⟩ := nofrz_of I hR.sto e' s'.nd ha hl
          have hm : a ∈ ι' := List.mem_of_getElem? ha
          refine ⟨a, od, φ, hH, n2, hp v _ ι' (ext_unl e' hm n1) s2 ⟨b, xs, ev, ?_, h2, h3, hrl h4⟩⟩
          rw [upd_ne (fun z => h2 (by rw [z]; exact hm))]
          exact h1
        · exact hp.elim⟩
end
end OH

set_option Elab.async false
set_option linter.all false
set_option maxRecDepth 100000
set_option maxHeartbeats 1000000
/-! OHDcf: for k in d, d a dict of tuple keys. -/
namespace OH
open PySem PySem.Spec PyProof.Rows L2
section
variable {P : Program} {w : World}
def ItkN (w : World) (d : Addr) (od : Obj) (xs : List (NestedKey × Addr × V)) : L2.It :=
  ⟨fun i H => LkH w d od xs H ∧ i < xs.length, fun i H x H' => H' = H ∧ ∃ r, xs[i]? = some r ∧ x = .ref r.2.1, fun i H => LkH w d od xs H ∧ xs.length ≤ i⟩
variable {K : PySem.W.Frag} {tg : Expr} {d : Addr} {od : Obj} {xs : List (NestedKey × Addr × V)} {es : Array DictEntry} {ep : Nat}
theorem turn_kN (it : Addr) (hod : od.data = .dict es ep) : Turn P w K tg (ItkN w d od xs) [it] it (fun i h => h.IsKeyIter it d i es.size ep) where
  mem := by simp
  obj := fun i h st b hb => by
    obtain rfl : b = it := by simpa using hb
    obtain ⟨oi, e, c, dd⟩ := st
    exact ⟨oi, e, fun v z => by rw [dd] at z; cases z⟩
  keep := fun i h h' st k => st.at fun oi e => k it (by simp) oi e
  item := by
    intro X hP hw hK hc i pins s σ H E I hf st ⟨hd, hi⟩
    subst hP hw hK
    have hfi := hf it (by simp)
    obtain ⟨q1, q2, es2, ep2, q3, q4, q5, q6⟩ := lck_raw I.hok hd
    obtain ⟨rfl, rfl⟩ := dict_same hod q3
    obtain ⟨hi2, k1, k2⟩ := q6 i _ (List.getElem?_eq_getElem hi)
    refine wpAny_pyNext_keys_item_raw st q4 hi2 fun h2 st2 sb2 => ?_
    have I1 : Inv X pins σ H { s with heap := h2 } := I.turned (t' := s.toks) (fun b ob hb e => (sb2.2 b hb).trans e) hfi.1 hfi.2.1 hfi.2.2.2.1 hfi.2.2.2.2.1 hfi.2.2.2.2.2
    obtain ⟨oi, e, c, dd⟩ := id st2
    exact ⟨_, rfl, go_of (s := { s with heap := h2 }) e c dd (by decide) ⟨.ref xs[i].2.1, H, I1, k1, ⟨rfl, _, List.getElem?_eq_getElem hi, rfl⟩, st2, fun b hb => (hf b hb).1⟩⟩
  done := by
    intro X hP hw hK hc i pins s σ H E I hf st ⟨hd, hi⟩
    subst hP hw hK
    have hfi := hf it (by simp)
    obtain ⟨q1, q2, es2, ep2, q3, q4, q5, q6⟩ := lck_raw I.hok hd
    obtain ⟨rfl, rfl⟩ := dict_same hod q3
    exact wpAny_pyNext_keys_end_raw (I.ok.hd hc) st q4 (by omega) fun h2 eb => ⟨rfl, I.turned (t' := s.toks) (fun b ob hb e => eb b ob hb e) hfi.1 hfi.2.1 hfi.2.2.2.1 hfi.2.2.2.2.1 hfi.2.2.2.2.2⟩
  self := fun A i s Q E st h => wpAny_pyIter_keyiter st h
end
def prK : D × D → D := fun p => p.1
/-- the walked dict is free again -/
def unlS (i : Nat) : RS → RS
  | .nx env st => match st[i]? with | some (.lck kvs) => .nx env (st.set i (.dcn kvs)) | _ => .stuck
  | .ret d st => match st[i]? with | some (.lck kvs) => .ret d (st.set i (.dcn kvs)) | _ => .stuck
  | _ => .stuck
def sForN (m : SE) (g : SG) (b : SS) : SS := fun C env st => (m C env st).thenS env fun x st1 => match dcnAt st1 x with
  | some (i, kvs) => if lockable st i then unlS i (forGo [] g b C (kvs.map prK) env (st1.set i (.lck kvs))) else .stuck
  | none => .stuck
section
variable {G : Gx} {X : Cx} {W : WX} {C : Call}
theorem di_keysN {tg e : Expr} {m : SE} (hw : X.w = G.w) (he : DE G X W C e m) : DI G X W C tg e (siN prK m) := ⟨fun pins s σ H R0 I h => by
  refine thn (he.run pins s σ H _ I (sqN hw h)) fun u s1 ⟨v, H1, I1, rv, ι1, st1, i, kvs, a, xs, ev, sr, k1, hl, q⟩ => ?_
  subst ev
  cases (show u = Value.ref a from rv)
  obtain ⟨od, I2⟩ := I1.lock k1 True.intro
  obtain ⟨q1, q2, es, ep, q3, q4, q5, q6⟩ := lck_raw I2.hok upd_same
  have hR0 : R0 (ItkN X.w a od xs) (upd H1 a (.frz od (.ext (dNφ X.w a xs)))) := q od _ fun H2 ι2 st2 e2 s2 => by
    have hH : H2 a = some (.frz od (.ext (dNφ X.w a xs))) := (e2.lkd a ⟨_, _, upd_same⟩).trans upd_same
    refine ⟨fun j d hd => ?_, fun j hj => ⟨hH, by omega⟩⟩
    have hj : j < kvs.length := by simpa using (List.getElem?_eq_some_iff.mp hd).1
    refine ⟨⟨hH, by omega⟩, fun x H3 ⟨e, r, hr, ex⟩ => ?_⟩
    subst e ex
    refine ⟨Ext.refl _ _, s2, kvs[j], by simp [hj], r, hr, fun h1 _ => ?_⟩
    rw [List.getElem?_map] at hd
    simp [hj, prK] at hd
    rw [← hd]
    exact h1
  exact wpAny_pyIter_dict_raw (d := a) (es := es) (ep := ep) q1 q4 (pi_one (tk := s1.toks) I2 _ (turn_kN _ q3) ⟨_, Heap.get?_push_size _ rfl, rfl, rfl⟩ hR0)⟩
/-- what is wanted behind a walk that has locked a dict -/
def EUn (X : Cx) (K : Ends) : Ends := ⟨fun σ H => ∃ a od φ, H a = some (.frz od (.ext φ)) ∧ (∀ o u, X.H_0 a ≠ some (.frz o u)) ∧ K.nx σ (upd H a (.ext φ)), fun v H => ∃ a od φ, H a = some (.frz od (.ext φ)) ∧ (∀ o u, X.H_0 a ≠ some (.frz o u)) ∧ K.rt v (upd H a (.ext φ)), fun _ _ => False, fun _ _ => False⟩
theorem sp_un {pins : List (Addr × Obj)} {K : Ends} {f : Flow} {s : Shared} (h : SP X pins (EUn X K) f s) : SP X pins K f s := by
  cases f with
  | next => obtain ⟨σ, H, I, a, od, φ, e, hn, q⟩ := h; exact ⟨σ, _, I.unlock e hn, q⟩
  | brk => obtain ⟨σ, H, I, q⟩ := h; exact q.elim
  | cont => obtain ⟨σ, H, I, q⟩ := h; exact q.elim
  | ret v => obtain ⟨x, σ, H, I, r, a, od, φ, e, hn, q⟩ := h; exact ⟨x, σ, _, I.unlock e hn, r, q⟩
theorem ds_forN {tg e : Expr} {body : List Stmt} {m : SE} {g : SG} {vs : List Nat} {mb : SS} {pos : Pos} (hw : X.w = G.w) (hpo : PassesOwn (model X.prog X.w) X.A X.env X.xe) (hc : X.calm = true) (he : DE G X W C e m) (hg : DG G X tg g vs) (hb : DSs G X W C body mb)
    (hs : ∀ x, foldedSetIterable e X.env x = pure x := by intro _; rfl) : DS G X W C (.For tg e body [] pos) (sForN m g mb) := ⟨fun pins s σ H K I ⟨env, ι, st, hR, hp⟩ => by
  refine thn ((ds_for hpo hc (di_keysN hw he) hg hb hs).run pins s σ H (EUn X K) I ⟨env, ι, st, hR, ?_⟩) fun f s' q => sp_un q
  unfold sForN at hp
  unfold sFor siN
  generalize m C env st = rm at hp ⊢
  cases rm with
  | exc c x st1 => exact hp
  | stuck => exact hp
  | ok x st1 =>
    dsimp only [Res.bind, Res.thenS] at hp ⊢
    cases hx : dcnAt st1 x with
    | none => rw [hx] at hp; exact hp.elim
    | some p =>
      obtain ⟨i, kvs⟩ := p
      rw [hx] at hp
      dsimp only at hp ⊢
      by_cases hl : lockable st i = true
      case neg => rw [if_neg hl] at hp; exact hp.elim
      rw [if_pos hl] at hp ⊢
      dsimp only [Res.thenS]
      generalize forGo [] g mb C (kvs.map prK) env (st1.set i (.lck kvs)) = rl at hp ⊢
      have fin : ∀ {H' : Hp} {ι' : List Addr} {st2 : Sto} {kvs2 : List (D × D)}, st2[i]? = some (.lck kvs2) → Ext H ι H' ι' → StoRep G H' ι' st2 → ∃ a od φ, H' a = some (.frz od (.ext φ)) ∧ (∀ o u, X.H_0 a ≠ some (.frz o u)) ∧ Ext H ι (upd H' a (.ext φ)) ι' ∧ StoRep G (upd H' a (.ext φ)) ι' (st2.set i (.dcn kvs2)) ∧ ∀ {d : D} {v : V}, Rep G H' ι' d v → Rep G (upd H' a (.ext φ)) ι' d v := fun {H' ι' st2 kvs2} hk e' s' => by
        obtain ⟨a, od, φ, ha, hH, s2, hr1, _⟩ := sto_unl s' hk
        obtain ⟨n1, n2⟩ := nofrz_of I hR.sto e' s'.nd ha hl
        exact ⟨a, od, φ, hH, n2, ext_unl e' (List.mem_of_getElem? ha) n1, s2, hr1⟩
      cases rl with
      | nx env' st2 =>
        intro σ' H' ι' e' r'
        have hp : postS G W K H ι (match st2[i]? with | some (.lck kvs) => .nx env' (st2.set i (.dcn kvs)) | _ => .stuck) := hp
        split at hp
        · rename_i kvs2 hk
          obtain ⟨a, od, φ, hH, n2, e2, s2, hr⟩ := fin hk e' r'.sto
          exact ⟨a, od, φ, hH, n2, hp σ' _ ι' e2 ⟨r'.len, fun j d hd => let ⟨v, h1, h2⟩ := r'.var j d hd; ⟨v, h1, hr h2⟩, s2⟩⟩
        · exact hp.elim
      | ret d st2 =>
        intro v H' ι' e' s' rv
        have hp : postS G W K H ι (match st2[i]? with | some (.lck kvs) => .ret d (st2.set i (.dcn kvs)) | _ => .stuck) := hp
        split at hp
        · rename_i kvs2 hk
          obtain ⟨a, od, φ, hH, n2, e2, s2, hr⟩ := fin hk e' s'
          exact ⟨a, od, φ, hH, n2, hp v _ ι' e2 s2 (hr rv)⟩
        · exact hp.elim
      | brk env' st2 => exact hp.elim
      | cnt env' st2 => exact hp.elim
      | exc c x env' st2 => exact hp.elim
      | stuck => exact hp.elim⟩
end
end OH

set_option Elab.async false
set_option linter.all false
set_option maxRecDepth 100000
set_option maxHeartbeats 1000000
/-! OHDcp: dict comprehensions whose keys are tuples. -/
namespace OH
open PySem PySem.Spec PyProof.Rows L2

/-- the new dict of a comprehension, its rows in data -/
def RwD (G : Gx) (H : Hp) (ι : List Addr) (kvs : List (D × D)) (xs : List (NestedKey × Addr × V)) : Prop :=
  kvs.map (fun p => keyT p.1) = xs.map (fun x => some x.1) ∧ RepL G H ι (kvs.map (·.1)) (xs.map fun x => V.ref x.2.1) ∧ RepL G H ι (kvs.map (·.2)) (xs.map (·.2.2))
abbrev nD (w : World) (a : Addr) (xs : List (NestedKey × Addr × V)) : HO := .ext (dNφ w a xs)
/-- D[y] = z, D the new dict; what follows is N -/
def SetN (G : Gx) (d : Addr) (y z : V) (H : Hp) (N : Hp → Prop) : Prop := ∃ (ι : List Addr) (st : Sto) (kvs : List (D × D)) (xs : List (NestedKey × Addr × V)) (k e : D), H d = some (nD G.w d xs) ∧ d ∉ ι ∧ StoRep G H ι st ∧ RwD G H ι kvs xs ∧ Rep G H ι k y ∧ Rep G H ι e z ∧ (keyT k).isSome = true ∧
  kvs.length < sizeLine ∧ ∀ xs', RwD G (upd H d (nD G.w d xs')) ι (dPut kvs k e) xs' → StoRep G (upd H d (nD G.w d xs')) ι st → N (upd H d (nD G.w d xs'))
def tDcN (G : Gx) (wi : TI) (g : TG) (tt : TT) (tk tv : TE) (vs : List Nat) : TE := fun σ H Q => wi σ H fun J H1 => ∀ d, H1 d = none → ∃ M : Nat → Nat → Hp → Prop, (∃ m, M 0 m (upd H1 d (nD G.w d []))) ∧ ∀ i m H, M i m H →
  (J.stop i H ∧ Q (.ref d) H) ∨ (J.go i H ∧ ∃ N : Hp → Prop, (∀ H', N H' → ∃ m', m' < m ∧ M (i + 1) m' H') ∧ ∀ x H', J.yld i H x H' → g x (wipe σ vs) H' fun σ2 H2 => wipe σ2 vs = wipe σ vs ∧ tt σ2 H2 fun b H3 =>
    if b = true then tk σ2 H3 fun y H4 => tv σ2 H4 fun z H5 => SetN G d y z H5 N else N H3)
theorem objN_keep {w : World} {a : Addr} {xs : List (NestedKey × Addr × V)} : ∀ h1 h2 : Heap, dNφ w a xs h1 → (∀ o, h1.get? a = some o → h2.get? a = some o) → dNφ w a xs h2 :=
  fun h1 h2 ⟨w1, w2, ys, w3, o, es, ep, w4, w5⟩ k => ⟨w1, w2, ys, w3, o, es, ep, k _ w4, w5⟩
theorem objN_new {P : Program} {w w' : World} {H : Hp} (h : Heap) (hb : sysModules < h.objs.size) : ObjOk P w H (h.push { cls := .type "dict", data := .dict #[] }) h.objs.size (nD w' h.objs.size []) :=
  ⟨⟨Nat.zero_le _, beq_eq_false_iff_ne.mpr (Ne.symm (Nat.ne_of_lt hb)), [], .nil, _, #[], 0, Heap.get?_push_size _ rfl, ⟨rfl, rfl, rfl⟩, rfl, rfl, List.nodup_nil⟩, ⟨_, Heap.get?_push_size _ rfl⟩, objN_keep⟩
section
variable {G : Gx} {X : Cx}
/-- a dict that is not of the store is written -/
theorem nD_own {H : Hp} {ι : List Addr} {st : Sto} {d : Addr} {xs xs' : List (NestedKey × Addr × V)} (e : H d = some (nD G.w d xs)) (hn : d ∉ ι) : Ext H ι H ι ∧ (∀ {a : D} {v : V}, Rep G H ι a v → Rep G (upd H d (nD G.w d xs')) ι a v) ∧
    (∀ {a : List D} {v : List V}, RepL G H ι a v → RepL G (upd H d (nD G.w d xs')) ι a v) ∧ (StoRep G H ι st → StoRep G (upd H d (nD G.w d xs')) ι st) := by
  have hT : ∀ b ys, SqT G.K H b ys → SqT G.K (upd H d (nD G.w d xs')) b ys := fun b ys q => by
    rcases q with (q | ⟨o, q⟩) | q
    · exact .inl (.inl (by rw [upd_ne (fun z => by rw [z, e] at q; cases q)]; exact q))
    · exact .inl (.inr ⟨o, by rw [upd_ne (fun z => by rw [z, e] at q; cases q)]; exact q⟩)
    · exact .inr q
  have hF : ∀ b ys, SqF G.K H b ys → SqF G.K (upd H d (nD G.w d xs')) b ys := fun b ys q => by
    rcases q with ⟨o, q⟩ | q
    · exact .inl ⟨o, by rw [upd_ne (fun z => by rw [z, e] at q; cases q)]; exact q⟩
    · exact .inr q
  have hL : ∀ {a : List D} {v : List V}, RepL G H ι a v → RepL G (upd H d (nD G.w d xs')) ι a v := fun r => r.mono hT hF fun _ _ z => z
  refine ⟨Ext.refl _ _, fun r => r.mono hT hF fun _ _ z => z, hL, fun s => ⟨s.len, s.nd, fun i c a h1 h2 => ?_⟩⟩
  have ne : a ≠ d := fun z => hn (z ▸ List.mem_of_getElem? h2)
  have q := s.cell i c a h1 h2
  cases c with
  | lst ds => obtain ⟨us, h1, h2⟩ := q; exact ⟨us, by rw [upd_ne ne]; exact h1, hL h2⟩
  | dct kvs =>
    obtain ⟨ks, vs, h1, h2, h3, h4⟩ := q
    exact ⟨ks, vs, by rw [upd_ne ne]; exact h1, h2, h3, hL h4⟩
  | dcn kvs => obtain ⟨us, h1, h2, h3, h4⟩ := q; exact ⟨us, by rw [upd_ne ne]; exact h1, h2, hL h3, hL h4⟩
  | lck kvs => obtain ⟨od, us, h1, h2, h3, h4⟩ := q; exact ⟨od, us, by rw [upd_ne ne]; exact h1, h2, hL h3, hL h4⟩
theorem set_dcN {pins : List (Addr × Obj)} {σ : L2.St} {H : Hp} {s : Shared} {E : Value → Shared → Prop} {d : Addr} {y z : V} {u r : Value} {Q : Unit → Shared → Prop} {N : Hp → Prop} (hK : X.K = G.K) (hw : X.w = G.w) (hu : X.A.units + 64 < cLine) (I : L2.Inv X pins σ H s) (h : SetN G d y z H N) (ry : RelV y u) (rz : RelV z r)
    (k : ∀ s' H', N H' → L2.Inv X pins σ H' s' → Q () s') : wpAny (model X.prog X.w) X.A (dictSet d u r) Q E s := by
  obtain ⟨ι, st, kvs, xs, key, e, hd, hn, sr, ⟨r1, r2, r3⟩, ry', rz', hk, hz, hN⟩ := h
  obtain ⟨nk, hk⟩ := Option.isSome_iff_exists.mp hk
  obtain ⟨kb, rfl⟩ := keyT_ref ry' hk
  cases (show u = Value.ref kb from ry)
  obtain ⟨zl, hsys, ys, rr, dd⟩ := dcn_of hK hw I (kvs := kvs) (a := d) (ι := ι) ⟨xs, hd, r1, r2, r3⟩
  have hl : ys.length ≤ sizeLine := by rw [← Paired.length rr]; exact zl
  refine wpAny_dictSet_heap (hsz := hl) (by show X.A.units + 8 < cLine; omega) (keyT_is hK I ry' hk) dd fun h' dd' hs => ?_
  have rr2 := rw_put hk ry' rz' rz rr
  obtain ⟨xs', e1, e2, e3, e4⟩ := of_rw rr2
  obtain ⟨o, es, ep, g1, g2, g3, g4, _, g5⟩ := dd'
  have hl2 : (dPut kvs key e).length = xs'.length := by simpa using congrArg List.length e1
  have new : ObjOk X.prog X.w (upd H d (nD G.w d xs')) h' d (nD G.w d xs') :=
    ⟨⟨by rw [← hl2]; have := dPut_len kvs key e; omega, hsys, _, e4, o, es, ep, g1, g2, g3, by rw [g4, ← hw]; rfl, g5⟩, ⟨o, g1⟩, objN_keep⟩
  obtain ⟨_, _, hL, hS⟩ := nD_own (ι := ι) (st := st) (xs' := xs') hd hn
  exact k _ _ (hN xs' ⟨e1, hL e2, hL e3⟩ (hS sr)) (d_write I (by rw [hd]; exact True.intro) hs ⟨o, g1⟩ new)
end
end OH

set_option Elab.async false
set_option linter.all false
set_option maxRecDepth 100000
set_option maxHeartbeats 1000000
/-! OHDcq: the rule for a dict comprehension whose keys are tuples. -/
namespace OH
open PySem PySem.Spec PyProof.Rows L2
section
variable {G : Gx} {X : Cx}
theorem pe_dcN {kx vx tg iter : Expr} {ifs : List Expr} {scope : Scope} {own : List (Str × Nat)} {pos : Pos} {wi : TI} {g : TG} {tt : TT} {tk tv : TE} (hK : X.K = G.K) (hw : X.w = G.w) (hu : X.A.units + 64 < cLine) (hc : X.calm = true) (hN : X.N.Nodup) (hi : PI X tg iter wi) (ok : BlkOk X.N X.env.scope scope own)
    (hg : ∀ (s : Shared) (H : Hp) (B : Addr) (cl : List (Str × Addr)) (fp : List Addr), PG (X.blk s H scope (compEnvC scope cl B X.env) fp) tg g)
    (ht : ∀ (s : Shared) (H : Hp) (B : Addr) (cl : List (Str × Addr)) (fp : List Addr), PTs (X.blk s H scope (compEnvC scope cl B X.env) fp) ifs tt)
    (hk : ∀ (s : Shared) (H : Hp) (B : Addr) (cl : List (Str × Addr)) (fp : List Addr), PE (X.blk s H scope (compEnvC scope cl B X.env) fp) kx tk)
    (hv : ∀ (s : Shared) (H : Hp) (B : Addr) (cl : List (Str × Addr)) (fp : List Addr), PE (X.blk s H scope (compEnvC scope cl B X.env) fp) vx tv) (hs : ∀ x, foldedSetIterable iter X.env x = pure x := by intro _; rfl) :
    PE X (.DictComp kx vx [⟨tg, iter, ifs, 0⟩] scope pos) (tDcN G wi g tt tk tv (own.map (·.2))) := ⟨fun pins s σ H Q I h => by
  rw [arm_eval_DictComp]
  have free : ∀ y ∈ scope.names, y.2 = .free → ∃ c, X.env.cells.lookup y.1 = some c := fun y hy e => (ok.free y hy e).elim (fun k => I.ok.has _ (.inl k)) fun k => I.ok.has _ (.inr k)
  refine wpAny_comprehension_free (use := none) rfl hs (closure_ok free) ok.kind (fun y hy e => by rw [ok.uniq y hy, e]) (thn (hi.run pins s σ H _ I h) fun xv s1 r1 => thn r1 fun iv s2 r2 => ?_)
  obtain ⟨it, fp, tn, J, H2, rfl, I2, T, n2, f2, q⟩ := r2
  refine wpAny_newObj_type (newEnv_comp ?_)
  obtain ⟨d, hd⟩ : ∃ d, d = s2.heap.objs.size := ⟨_, rfl⟩
  have dn : H2 d = none := I2.hok.fresh (Nat.le_of_eq hd.symm)
  obtain ⟨M, ⟨m0, w0⟩, turn⟩ := q d dn
  rw [← hd]
  generalize hs3 : ({ s2 with heap := s2.heap.push { cls := .type "dict", data := .dict #[] } } : Shared) = s3
  have p3 : s3.heap = s2.heap.push { cls := .type "dict", data := .dict #[] } := by rw [← hs3]
  have I3 : Inv X pins σ (upd H2 d (nD G.w d [])) s3 := by
    rw [← hs3]
    refine I2.laid (t' := s2.toks) (fun b o e => Heap.get?_push_of_some _ e) (Nat.le_of_eq hd.symm) ?_
    rw [hd]
    exact objN_new s2.heap I2.big
  have sz : ∀ b ∈ fp, b < s2.heap.objs.size := fun b hb => let ⟨_, e, _⟩ := T.obj _ _ n2 b hb; Heap.lt_size e
  have f3 : ∀ b ∈ fp, FpOk X pins (upd H2 d (nD G.w d [])) b ∧ b < s3.heap.objs.size := fun b hb => by
    have l := sz b hb
    refine ⟨⟨?_, (f2 b hb).2⟩, by rw [p3, Heap.size_push]; exact Nat.lt_succ_of_lt l⟩
    rw [upd_ne (by rw [hd]; exact Nat.ne_of_lt l)]
    exact (f2 b hb).1
  have t3 : tn 0 s3.heap := T.keep _ _ _ n2 fun b _ o e => by rw [p3]; exact Heap.get?_push_of_some _ e
  have I4 := block_start I3 ok hN f3
  obtain ⟨cs, hcs⟩ : ∃ cs, cs = cellsFrom (s3.heap.objs.size + 1) scope.names (cloFrom X.env.cells scope.names []) := ⟨_, rfl⟩
  rw [← hcs] at I4
  have pg := hg s3 (upd H2 d (nD G.w d [])) s3.heap.objs.size cs fp
  have pt := ht s3 (upd H2 d (nD G.w d [])) s3.heap.objs.size cs fp
  have pk := hk s3 (upd H2 d (nD G.w d [])) s3.heap.objs.size cs fp
  have pv := hv s3 (upd H2 d (nD G.w d [])) s3.heap.objs.size cs fp
  show codeAny _ _ (.compStart (.DictComp kx vx [⟨tg, iter, ifs, 0⟩] scope pos) 0 (.ref it) (.ref d) (compEnvC scope (cellsFrom (s3.heap.objs.size + 1) scope.names (cloFrom X.env.cells scope.names [])) s3.heap.objs.size X.env)) (compPost (model X.prog X.w) X.A X.xe none (EP X pins σ Q) (.ref d) s3.heap.objs.size) { s3 with heap := pushCells (s3.heap.push { cls := .type "dict", data := .dict #[] }) scope.names }
  rw [← hcs]
  have none3 : ∀ b ∈ fp, (upd H2 d (nD G.w d [])) b = none := fun b hb => (f3 b hb).1.1
  generalize hH3 : upd H2 d (nD G.w d []) = H3 at I3 I4 pg pt pk pv w0 none3 f3
  generalize hce : compEnvC scope cs s3.heap.objs.size X.env = ce at I4 pg pt pk pv ⊢
  have loc : ce.locals = s3.heap.objs.size := by rw [← hce]; rfl
  generalize hs4 : ({ s3 with heap := pushCells (s3.heap.push { cls := .type "dict", data := .dict #[] }) scope.names } : Shared) = s4 at I4 ⊢
  have t4 : tn 0 s4.heap := T.keep _ _ _ t3 fun b _ o e => by rw [← hs4]; exact pushCells_keeps _ _ _ _ (Heap.get?_push_of_some _ e)
  have stat : ∀ {σ' : L2.St} {H' : Hp} {s' : Shared}, Inv (X.blk s3 H3 scope ce fp) [] σ' H' s' → (∀ b ∈ fp, H' b = none) → ∀ b ∈ fp, FpOk (X.blk s3 H3 scope ce fp) [] H' b := fun {σ' H' s'} I' hn b hb =>
    ⟨hn b hb, (I'.ok.exf b hb).1, I'.ok.exfs b hb, .inl hb, fun x c e => (I'.ok.exf b hb).2 x c e, fun p hp => absurd (show p ∈ ([] : List (Addr × Obj)) ++ [] from hp) (by simp)⟩
  have walk : codeAny (model X.prog X.w) X.A (.compLoop (.DictComp kx vx [⟨tg, iter, ifs, 0⟩] scope pos) 0 (.ref it) (.ref d) ce) (compPost (model X.prog X.w) X.A X.xe none (EP X pins σ Q) (.ref d) s3.heap.objs.size) s4 := by
    refine compLoop_anyD (fun n s' => ∃ i H', Inv (X.blk s3 H3 scope ce fp) [] (wipe σ (own.map (·.2))) H' s' ∧ tn i s'.heap ∧ (∀ b ∈ fp, H' b = none) ∧ M i n H') ?_ m0 ⟨0, H3, I4, t4, none3, w0⟩
    rintro n s5 ⟨i, H5, I5, t5, n5, w5⟩
    rcases turn i n H5 w5 with ⟨stop, qq⟩ | ⟨go, N, hNx, step⟩
    · refine thnF (T.done (X.blk s3 H3 scope ce fp) rfl rfl rfl hc i [] s5 _ H5 (fun _ _ => False) I5 (stat I5 n5) t5 stop) fun r s6 ⟨hr, I6⟩ => ?_
      subst hr
      have I7 : Inv X pins σ H5 s6 := I3.call' (ch := fp) I6.os I6.base I6.hok I6.bare fun b hb => ⟨(f3 b hb).1.2.2.2.1, (f3 b hb).1.2.1, (f3 b hb).1.2.2.2.2.1, (f3 b hb).1.2.2.2.2.2⟩
      have nC : H5 s3.heap.objs.size = none := by
        have z : H5 ce.locals = none := I6.free
        rwa [loc] at z
      obtain ⟨mm, hn, _⟩ := I6.loc
      have hn : s6.heap.Ns ce.locals mm := hn
      rw [loc] at hn
      have fC := I3.fpOk (Nat.le_refl _) nC
      exact ⟨mm, hn, fun h2 sb => ⟨.ref d, H5, I7.turned (t' := s6.toks) (fun b o hb e => (sb.2 b hb).trans e) fC.1 fC.2.1 fC.2.2.2.1 fC.2.2.2.2.1 fC.2.2.2.2.2, rfl, qq⟩⟩
    · refine thnF (T.item (X.blk s3 H3 scope ce fp) rfl rfl rfl hc i [] s5 _ H5 (fun _ _ => False) I5 (stat I5 n5) t5 go) fun r s6 ⟨u, hr, h6⟩ => ?_
      subst hr
      refine thnF h6 fun _ s7 ⟨x, H7, I7, r7, y7, t7, n7⟩ => ?_
      refine thnF (pg.run _ s7 _ H7 x u _ (I7.pinned (stat I7 n7) (T.obj _ _ t7)) r7 (step x H7 y7)) fun _ s8 ⟨σ8, H8, I8, hw8, q8⟩ => ?_
      refine thnF (pt.run _ s8 σ8 H8 _ I8 q8) fun b s9 ⟨H9, I9, q9⟩ => ?_
      have fin : ∀ {s' : Shared} {H' : Hp}, Inv (X.blk s3 H3 scope ce fp) ([] ++ pinsAt fp s7.heap) σ8 H' s' → N H' → ∃ m, m < n ∧ ∃ i H', Inv (X.blk s3 H3 scope ce fp) [] (wipe σ (own.map (·.2))) H' s' ∧ tn i s'.heap ∧ (∀ b ∈ fp, H' b = none) ∧ M i m H' := fun {s' H'} I' nx => by
        obtain ⟨m', hm, w'⟩ := hNx H' nx
        have pin' : ∀ b ∈ fp, ∀ o, s7.heap.get? b = some o → s'.heap.get? b = some o ∧ H' b = none := fun b hb o e =>
          have z := I'.pin (b, o) (List.mem_append_right _ (List.mem_append_right _ (mem_pinsAt hb e)))
          ⟨z.1, z.2.1⟩
        refine ⟨m', hm, i + 1, H', (I'.unpinned (pins := [])).weak (by rw [← hw8, wipe_length]) (fun j v e => ?_), T.keep _ _ _ t7 fun b hb o e => (pin' b hb o e).1, fun b hb => ?_, w'⟩
        · rw [← hw8] at e
          exact (wipe_some e).1
        · obtain ⟨o, e, _⟩ := T.obj _ _ t7 b hb
          exact (pin' b hb o e).2
      cases b with
      | false =>
        simp only [Bool.false_eq_true, if_false] at q9 ⊢
        exact fin I9 q9
      | true =>
        simp only [if_true] at q9 ⊢
        refine thnF (pk.run _ s9 σ8 H9 _ I9 q9) fun z s10 ⟨yk, H10, I10, r10, q10⟩ => ?_
        refine thnF (pv.run _ s10 σ8 H10 _ I10 q10) fun z2 s11 ⟨yv, H11, I11, r11, sn⟩ => ?_
        exact set_dcN (X := X.blk s3 H3 scope ce fp) hK hw hu I11 sn r10 r11 fun s12 H12 nx I12 => fin I12 nx
  exact codeAny_compStart_dict walk (T.self X.A 0 _ _ _ t4 walk)⟩
end
end OH

set_option Elab.async false
set_option linter.all false
set_option maxRecDepth 100000
set_option maxHeartbeats 1000000
/-! OHDcs: dict comprehensions by their meaning. -/
namespace OH
open PySem PySem.Spec PyProof.Rows L2

abbrev SKV := Call → Env → Sto → Res (List (D × D))
def dcGo (src : List (Nat × List D)) (g : SG) (c : SB) (mk mv : SE) (C : Call) (env : Env) : List D → List (D × D) → Sto → Res (List (D × D))
  | [], acc, st => if good src st then .ok acc st else .stuck
  | d :: ds, acc, st => if good src st then
      match g d env with
      | none => .stuck
      | some env' => (c C env' st).noX.bind fun t st => if t then (mk C env' st).noX.bind fun k st => (mv C env' st).noX.bind fun v st => if (keyT k).isSome ∧ acc.length < sizeLine then dcGo src g c mk mv C env ds (dPut acc k v) st else .stuck
          else dcGo src g c mk mv C env ds acc st
    else .stuck
def lDc (it : SI) (g : SG) (vs : List Nat) (c : SB) (mk mv : SE) : SKV := fun C env st => (it C env st).bind fun w st => dcGo w.src g c mk mv C (wipeE env vs) w.ds [] st
/-- a new dict, not yet of the store -/
def repD (G : Gx) : Hp → Hp → List Addr → List (D × D) → V → Prop := fun H0 H ι kvs v => ∃ a xs, v = .ref a ∧ H a = some (nD G.w a xs) ∧ a ∉ ι ∧ H0 a = none ∧ RwD G H ι kvs xs
abbrev tD (G : Gx) (W : WX) (C : Call) (m : SKV) : TE := rG G W C (repD G) m
def eNewD (l : SKV) : SE := fun C env st => (l C env st).bind fun kvs st => .ok (.ref st.length) (st ++ [.dcn kvs])
section
variable {G : Gx} {X : Cx} {W : WX} {C : Call}
theorem RwD.ext {H H' : Hp} {ι ι' : List Addr} {kvs : List (D × D)} {xs : List (NestedKey × Addr × V)} (h : RwD G H ι kvs xs) (e : Ext H ι H' ι') (n : ∀ a ∈ ι, MuL (H a)) : RwD G H' ι' kvs xs := ⟨h.1, h.2.1.ext e n, h.2.2.ext e n⟩
theorem dc_read {si : SI} {g : SG} {vs us : List Nat} {mc : SB} {mk mv : SE} {σ : L2.St} {H : Hp} {Q : VK} (hus : ∀ i ∈ us, i ∈ vs) (h : tD G W C (lDc si g vs mc mk mv) σ H Q) :
    tDcN G (tI G W C si) (tGt G g us) (tB G WF C mc) (tE G WF C mk) (tE G WF C mv) vs σ H Q := by
  obtain ⟨env, ι, st, hR, hp⟩ := h
  refine ⟨env, ι, st, hR, ?_⟩
  unfold lDc at hp
  generalize si C env st = rs at hp
  cases rs with
  | exc c x st1 => exact hp
  | stuck => exact hp
  | ok w st1 =>
    intro J H1 ι1 e1 s1 rJ d hd
    dsimp only [Res.bind] at hp
    have hR1 := hR.ext e1 s1
    have hHd : H d = none := by
      cases q : H d with
      | none => rfl
      | some o =>
        by_cases hm : d ∈ ι
        · exact absurd hd (fun z => s1.ne (by obtain ⟨r, rfl⟩ := e1.more; exact List.mem_append_left _ hm) z rfl)
        · rw [e1.keep d o q hm] at hd; cases hd
    refine ⟨fun i m H' => ∃ acc xs ι' st', Ext H ι H' ι' ∧ Ext H1 ι1 H' ι' ∧ StoRep G H' ι' st' ∧ d ∉ ι' ∧ H' d = some (nD G.w d xs) ∧ RwD G H' ι' acc xs ∧ m = w.ds.length - i ∧
      post G (repD G H) (fun cls ad H' => W cls ad σ H') H ι Q (dcGo w.src g mc mk mv C (wipeE env vs) (w.ds.drop i) acc st'),
      ⟨w.ds.length, [], [], ι1, st1, e1.trans (ext_new hd), ext_new hd, s1.fresh hd, s1.notin hd, upd_same, ⟨rfl, rfl, rfl⟩, rfl, hp⟩, fun i m H2 ⟨acc, xs, ι2, st2, e2, e12, s2, nD2, hD, rA, em, hp2⟩ => ?_⟩
    have hR2 : R G σ H2 env ι2 st2 := hR1.ext e12 s2
    by_cases hi : i < w.ds.length
    · have ed : w.ds.drop i = w.ds[i] :: w.ds.drop (i + 1) := List.drop_eq_getElem_cons hi
      rw [ed] at hp2
      unfold dcGo at hp2
      by_cases hgd : good w.src st2 = true
      case neg => rw [if_neg hgd] at hp2; exact hp2.elim
      rw [if_pos hgd] at hp2
      obtain ⟨go, _⟩ := rJ H2 ι2 st2 e12 s2 hgd
      obtain ⟨g1, g2⟩ := go i w.ds[i] (by simp [hi])
      refine .inr ⟨g1, fun H' => ∃ acc xs ι' st', Ext H ι H' ι' ∧ Ext H1 ι1 H' ι' ∧ StoRep G H' ι' st' ∧ d ∉ ι' ∧ H' d = some (nD G.w d xs) ∧ RwD G H' ι' acc xs ∧
        post G (repD G H) (fun cls ad H' => W cls ad σ H') H ι Q (dcGo w.src g mc mk mv C (wipeE env vs) (w.ds.drop (i + 1)) acc st'),
        fun H' ⟨acc', xs', ι', st', q1, q2, q3, q4, q5, q6, q7⟩ => ⟨w.ds.length - (i + 1), by omega, acc', xs', ι', st', q1, q2, q3, q4, q5, q6, rfl, q7⟩, fun x H3 hy => ?_⟩
      obtain ⟨e3, s3, r3⟩ := g2 x H3 hy
      have hR3 := (hR2.ext e3 s3).wipe vs
      have hD3 := e3.keep d _ hD nD2
      have rA3 := rA.ext e3 s2.mut
      cases eg : g w.ds[i] (wipeE env vs) with
      | none => rw [eg] at hp2; exact hp2.elim
      | some env3 =>
        rw [eg] at hp2
        dsimp only at hp2
        refine ⟨w.ds[i], wipeE env vs, ι2, st2, env3, r3, hR3, eg, fun σ4 hR4 ag hl4 => ⟨(wipe_eq (fun i hi => ag i fun z => hi (hus i z)) hl4).trans wipe_wipe, ?_⟩⟩
        refine rG.nox hR4 hp2 fun t st5 t' H5 ι5 e5 hR5 rt hp5 => ?_
        cases rt
        have stay : ∀ {H' : Hp} {ιa ιb : List Addr} {Ha : Hp}, Ext Ha ιa H' ιb → d ∉ ιa → Ha d = some (nD G.w d xs) → d ∉ ιb := fun {H' ιa ιb Ha} e hn h hm => by rw [e.new d hm hn] at h; cases h
        have nD5 := stay e5 nD2 hD3
        have hD5 := e5.keep d _ hD3 nD2
        cases t with
        | false => exact iteF ⟨acc, xs, ι5, st5, (e2.trans e3).trans e5, (e12.trans e3).trans e5, hR5.sto, nD5, hD5, rA3.ext e5 s3.mut, hp5⟩
        | true =>
          refine iteT (rG.nox hR5 hp5 fun y st6 v H6 ι6 e6 hR6 ry hp6 => ?_)
          have nD6 := stay e6 nD5 hD5
          have hD6 := e6.keep d _ hD5 nD5
          have rA6 := (rA3.ext e5 s3.mut).ext e6 hR5.sto.mut
          refine rG.nox hR6 hp6 fun z st7 u H7 ι7 e7 hR7 rz hp7 => ?_
          have nD7 := stay e7 nD6 hD6
          have hD7 := e7.keep d _ hD6 nD6
          have rA7 := rA6.ext e7 hR6.sto.mut
          split at hp7
          · rename_i hc
            refine ⟨ι7, st7, acc, xs, y, z, hD7, nD7, hR7.sto, rA7, ry.ext e7 hR6.sto.mut, rz, hc.1, hc.2, fun xs' r' s' => ⟨_, xs', ι7, st7, ?_, ?_, s', nD7, upd_same, r', hp7⟩⟩
            · exact ext_own ((e2.trans e3).trans (e5.trans (e6.trans e7))) hHd
            · exact ext_own ((e12.trans e3).trans (e5.trans (e6.trans e7))) hd
          · exact hp7.elim
    · have ed : w.ds.drop i = [] := List.drop_of_length_le (by omega)
      rw [ed] at hp2
      unfold dcGo at hp2
      split at hp2
      · rename_i hgd
        obtain ⟨_, go⟩ := rJ H2 ι2 st2 e12 s2 hgd
        refine .inl ⟨go i (by omega), hp2 (.ref d) H2 ι2 e2 s2 ⟨d, xs, rfl, hD, nD2, hHd, rA⟩⟩
      · exact hp2.elim
def DD (G : Gx) (X : Cx) (W : WX) (C : Call) (e : Expr) (m : SKV) : Prop := PE X e (tD G W C m)
theorem de_newD {e : Expr} {l : SKV} (h : DD G X W C e l) : DE G X W C e (eNewD l) := pe_imp h fun σ H Q ⟨env, ι, st, hR, hp⟩ => by
  refine ⟨env, ι, st, hR, ?_⟩
  unfold eNewD at hp
  generalize l C env st = r at hp
  cases r with
  | ok kvs st1 =>
    intro v H1 ι1 e s ⟨a, xs, ev, h1, h2, h3, h4⟩
    subst ev
    exact hp (.ref a) H1 (ι1 ++ [a]) (e.take h3) (s.push h2 ⟨xs, h1, h4.1, h4.2.1.grow _, h4.2.2.grow _⟩) ⟨a, by rw [← s.len]; simp, rfl⟩
  | exc c x st1 => exact hp
  | stuck => exact hp
theorem dd_dc {kx vx tg iter : Expr} {ifs : List Expr} {scope : Scope} {own : List (Str × Nat)} {pos : Pos} {si : SI} {g : SG} {us : List Nat} {mc : SB} {mk mv : SE} (hK : X.K = G.K) (hw : X.w = G.w) (hu : X.A.units + 64 < cLine) (hc : X.calm = true) (hN : X.N.Nodup) (hi : DI G X W C tg iter si) (ok : BlkOk X.N X.env.scope scope own)
    (hus : ∀ i ∈ us, i ∈ own.map (·.2))
    (hg : ∀ (s : Shared) (H : Hp) (B : Addr) (cl : List (Str × Addr)) (fp : List Addr), DG G (X.blk s H scope (compEnvC scope cl B X.env) fp) tg g us)
    (ht : ∀ (s : Shared) (H : Hp) (B : Addr) (cl : List (Str × Addr)) (fp : List Addr), DTs G (X.blk s H scope (compEnvC scope cl B X.env) fp) WF C ifs mc)
    (hk : ∀ (s : Shared) (H : Hp) (B : Addr) (cl : List (Str × Addr)) (fp : List Addr), DE G (X.blk s H scope (compEnvC scope cl B X.env) fp) WF C kx mk)
    (hv : ∀ (s : Shared) (H : Hp) (B : Addr) (cl : List (Str × Addr)) (fp : List Addr), DE G (X.blk s H scope (compEnvC scope cl B X.env) fp) WF C vx mv) (hs : ∀ x, foldedSetIterable iter X.env x = pure x := by intro _; rfl) :
    DD G X W C (.DictComp kx vx [⟨tg, iter, ifs, 0⟩] scope pos) (lDc si g (own.map (·.2)) mc mk mv) :=
  pe_imp (pe_dcN hK hw hu hc hN hi ok hg ht hk hv hs) fun σ H Q h => dc_read hus h
/-! ### over the items of a dict -/
def lDcN (pr : D × D → D) (m : SE) (g : SG) (vs : List Nat) (c : SB) (mk mv : SE) : SKV := fun C env st => (m C env st).bind fun x st1 => match dcnAt st1 x with
  | some (i, kvs) => if lockable st i then (dcGo [] g c mk mv C (wipeE env vs) (kvs.map pr) [] (st1.set i (.lck kvs))).bind fun ds st2 => unl i ds st2 else .stuck
  | none => .stuck
theorem dd_dcN {pr : D × D → D} {m : SE} {kx vx tg iter : Expr} {ifs : List Expr} {scope : Scope} {own : List (Str × Nat)} {pos : Pos} {g : SG} {us : List Nat} {mc : SB} {mk mv : SE} (hK : X.K = G.K) (hw : X.w = G.w) (hu : X.A.units + 64 < cLine) (hc : X.calm = true) (hN : X.N.Nodup) (hi : DI G X W C tg iter (siN pr m)) (ok : BlkOk X.N X.env.scope scope own)
    (hus : ∀ i ∈ us, i ∈ own.map (·.2))
    (hg : ∀ (s : Shared) (H : Hp) (B : Addr) (cl : List (Str × Addr)) (fp : List Addr), DG G (X.blk s H scope (compEnvC scope cl B X.env) fp) tg g us)
    (ht : ∀ (s : Shared) (H : Hp) (B : Addr) (cl : List (Str × Addr)) (fp : List Addr), DTs G (X.blk s H scope (compEnvC scope cl B X.env) fp) WF C ifs mc)
    (hk : ∀ (s : Shared) (H : Hp) (B : Addr) (cl : List (Str × Addr)) (fp : List Addr), DE G (X.blk s H scope (compEnvC scope cl B X.env) fp) WF C kx mk)
    (hv : ∀ (s : Shared) (H : Hp) (B : Addr) (cl : List (Str × Addr)) (fp : List Addr), DE G (X.blk s H scope (compEnvC scope cl B X.env) fp) WF C vx mv) (hs : ∀ x, foldedSetIterable iter X.env x = pure x := by intro _; rfl) :
    DD G X W C (.DictComp kx vx [⟨tg, iter, ifs, 0⟩] scope pos) (lDcN pr m g (own.map (·.2)) mc mk mv) := ⟨fun pins s σ H Q I ⟨env, ι, st, hR, hp⟩ => by
  refine thn ((pe_dcN hK hw hu hc hN hi ok hg ht hk hv hs).run pins s σ H (QUn X Q) I (dc_read hus ⟨env, ι, st, hR, ?_⟩)) fun v s' q => ep_un q
  unfold lDcN at hp
  unfold lDc siN
  generalize m C env st = rm at hp ⊢
  cases rm with
  | exc c x st1 => exact hp
  | stuck => exact hp
  | ok x st1 =>
    dsimp only [Res.bind] at hp ⊢
    cases hx : dcnAt st1 x with
    | none => rw [hx] at hp; exact hp.elim
    | some p =>
      obtain ⟨i, kvs⟩ := p
      rw [hx] at hp
      dsimp only at hp ⊢
      by_cases hl : lockable st i = true
      case neg => rw [if_neg hl] at hp; exact hp.elim
      rw [if_pos hl] at hp ⊢
      dsimp only
      generalize dcGo [] g mc mk mv C (wipeE env (own.map (·.2))) (kvs.map pr) [] (st1.set i (.lck kvs)) = rl at hp ⊢
      cases rl with
      | exc c x st2 => exact hp
      | stuck => exact hp
      | ok ds st2 =>
        intro v H' ι' e' s' ⟨b, xs, ev, h1, h2, h3, h4⟩
        have hp : post G (repD G H) (fun cls ad H' => W cls ad σ H') H ι Q (unl i ds st2) := hp
        unfold unl at hp
        split at hp
        · rename_i kvs2 hk
          obtain ⟨a, od, φ, ha, hH, s2, _, hrl⟩ := sto_unl s' hk
          obtain ⟨n1, n2⟩ := nofrz_of I hR.sto e' s'.nd ha hl
          have hm : a ∈ ι' := List.mem_of_getElem? ha
          refine ⟨a, od, φ, hH, n2, hp v _ ι' (ext_unl e' hm n1) s2 ⟨b, xs, ev, ?_, h2, h3, h4.1, hrl h4.2.1, hrl h4.2.2⟩⟩
          rw [upd_ne (fun z => h2 (by rw [z]; exact hm))]
          exact h1
        · exact hp.elim⟩
end
end OH

set_option Elab.async false
set_option linter.all false
set_option maxRecDepth 100000
set_option maxHeartbeats 1000000
/-! OHDcd: a display of one pair, the list of a dict's keys. -/
namespace OH
open PySem PySem.Spec PyProof.Rows L2
section
variable {G : Gx} {X : Cx} {W : WX} {C : Call}
/-! ### {k: v} -/
def eDisp1 (mk mv : SE) : SE := fun C env st => (mk C env st).bind fun k st => (mv C env st).bind fun v st => if (keyT k).isSome then .ok (.ref st.length) (st ++ [.dcn [(k, v)]]) else .stuck
/-- the first part of a meaning, the base stays -/
theorem sqB0 {α υ β υ' : Type} {rep : Hp → Hp → List Addr → α → υ → Prop} {rep' : Hp → List Addr → β → υ' → Prop} {m : Call → Env → Sto → Res α} {f : α → Sto → Res β} {σ : L2.St} {H H0 : Hp} {ι ι0 : List Addr} {env : Env} {st : Sto} {Q : υ → Hp → Prop} {Q' : υ' → Hp → Prop}
    (hR : R G σ H env ι st) (e0 : Ext H0 ι0 H ι) (h : post G rep' (fun cls ad H' => W cls ad σ H') H0 ι0 Q' ((m C env st).bind f))
    (k : ∀ a st1 v H1 ι1, Ext H ι H1 ι1 → R G σ H1 env ι1 st1 → rep H H1 ι1 a v → post G rep' (fun cls ad H' => W cls ad σ H') H0 ι0 Q' (f a st1) → Q v H1) : rG G W C rep m σ H Q := by
  refine ⟨env, ι, st, hR, ?_⟩
  generalize m C env st = r at h
  cases r with
  | ok a st1 => exact fun v H1 ι1 e s r1 => k a st1 v H1 ι1 e (hR.ext e s) r1 h
  | exc c x st1 => exact fun cls ad H1 ι1 e s r1 => h cls ad H1 ι1 (e0.trans e) s r1
  | stuck => exact h
theorem dict_pairsA {K : Type} [DecidableEq K] {prog : Program} {w : World} {knd : HeapKind prog w K} {A : Around} {E : Value → Shared → Prop} {s : Shared} {env : PySem.Env} {keys : List (Option Expr)} {values : List Expr} {pos : Pos} {pairs : List (Sem Value × Sem Value)} {Q : Value → Shared → Prop} (hu : knd.room A)
    (hz : (evalEachOpt keys env).zip ((evalEach values env).map fun v => do let x ← v; standAt pos; pure x) = pairs.map fun p => (some p.1, p.2)) (h0 : pairs ≠ []) (hl : pairs.length ≤ 15)
    (h : wpAny (model prog w) A (evalPairs pairs) (fun vs s1 => ∃ ps, CarriesH knd s1.heap vs ps ∧ s1.heap.DictOfH knd s.heap.objs.size [] ∧ ∀ h2 tk, h2.DictOfH knd s.heap.objs.size (storedAllH [] ps) → Heap.SameBut s.heap.objs.size s1.heap h2 → Q (.ref s.heap.objs.size) { s1 with heap := h2, toks := tk }) E
      { s with heap := s.heap.push { cls := .type "dict", data := .dict #[] } }) : wpAny (model prog w) A (eval (.Dict keys values pos) env) Q E s := by
  rw [arm_eval_Dict, hz, dictDisplay_pairs pairs h0 (by omega)]
  refine wpAny_bind (wpAny_standAt (wpAny_bind (wpAny_subDictH (knd := knd) (Q := fun d s' => wpAny (model prog w) A (pure (Value.ref d)) Q E s') hu hl ?_)))
  exact wpAny_mono h (fun vs s1 ⟨ps, c, m, q⟩ => ⟨ps, c, m, fun h2 tk a b => wpAny_pure (q h2 tk a b)⟩) fun _ _ e => e
theorem de_disp1 {k v : Expr} {mk mv : SE} {pos : Pos} (hK : X.K = G.K) (hw : X.w = G.w) (hu : X.A.units + 64 < cLine) (hk : DE G X W C k mk) (hv : DE G X W C v mv) : DE G X W C (.Dict [some k] [v] pos) (eDisp1 mk mv) := ⟨fun pins s σ H Q I ⟨env, ι, st, hR, hp⟩ => by
  refine dict_pairsA (knd := nestedKind X.prog X.w) (pairs := pairTrees [some k] [v] X.env pos) (by show X.A.units + 8 < cLine; omega) (zip_pairTrees [some k] [v] X.env pos rfl rfl) (fun z => by cases z) (by show 1 ≤ 15; decide) ?_
  have hn : H s.heap.objs.size = none := I.hok.fresh (Nat.le_refl _)
  obtain ⟨d, hd⟩ : ∃ d, d = s.heap.objs.size := ⟨_, rfl⟩
  rw [← hd] at hn ⊢
  have I1 : L2.Inv X pins σ (upd H d (nD X.w d [])) { s with heap := s.heap.push { cls := .type "dict", data := .dict #[] } } := by
    refine I.laid (t' := s.toks) (fun b o e => Heap.get?_push_of_some _ e) (Nat.le_of_eq hd.symm) ?_
    rw [hd]
    exact objN_new s.heap I.big
  have nd : d ∉ ι := hR.sto.notin hn
  have e0 : Ext H ι (upd H d (nD X.w d [])) ι := ext_new hn
  have hR0 : R G σ (upd H d (nD X.w d [])) env ι st := hR.ext e0 (hR.sto.fresh hn)
  have stay : ∀ {H' : Hp} {ιa ιb : List Addr} {Ha : Hp}, Ext Ha ιa H' ιb → d ∉ ιa → Ha d = some (nD X.w d []) → d ∉ ιb ∧ H' d = some (nD X.w d []) := fun {H' ιa ιb Ha} e hn h => ⟨fun hm => (by rw [e.new d hm hn] at h; cases h), e.keep d _ h hn⟩
  refine pairTrees_cons_walk (thn (hk.run pins _ σ _ (fun u H1 => ∃ ι1 st1 x, Ext H ι H1 ι1 ∧ d ∉ ι1 ∧ H1 d = some (nD X.w d []) ∧ R G σ H1 env ι1 st1 ∧ Rep G H1 ι1 x u ∧ post G (Rep G) (fun cls ad H' => W cls ad σ H') H ι Q ((mv C env st1).bind fun v st => if (keyT x).isSome then .ok (.ref st.length) (st ++ [.dcn [(x, v)]]) else .stuck)) I1
    (sqB0 hR0 e0 hp fun x st1 u H1 ι1 e1 hR1 r1 hp1 => ⟨ι1, st1, x, e0.trans e1, (stay e1 nd upd_same).1, (stay e1 nd upd_same).2, hR1, r1, hp1⟩)) fun uk s1 ⟨vk, H1, I2, rku, ι1, st1, x, e1, nd1, hd1, hR1, rk, hp1⟩ =>
    thn (hv.run pins s1 σ H1 (fun u H2 => ∃ ι2 st2 y nk, Ext H ι H2 ι2 ∧ d ∉ ι2 ∧ H2 d = some (nD X.w d []) ∧ R G σ H2 env ι2 st2 ∧ Rep G H2 ι2 x vk ∧ Rep G H2 ι2 y u ∧ keyT x = some nk ∧ post G (Rep G) (fun cls ad H' => W cls ad σ H') H ι Q (.ok (.ref st2.length) (st2 ++ [.dcn [(x, y)]]))) I2
    (sqB0 hR1 e1 hp1 fun y st2 u H2 ι2 e2 hR2 r2 hp2 => by
      split at hp2
      · rename_i hk
        obtain ⟨nk, hk⟩ := Option.isSome_iff_exists.mp hk
        exact ⟨ι2, st2, y, nk, e1.trans e2, (stay e2 nd1 hd1).1, (stay e2 nd1 hd1).2, hR2, rk.ext e2 hR1.sto.mut, r2, hk, hp2⟩
      · exact hp2.elim)) fun uv s2 ⟨vv, H2, I3, rvu, ι2, st2, y, nk, e2, nd2, hd2, hR2, rk2, rv2, hk, hp2⟩ => pairTrees_nil_walk ?_)
  obtain ⟨kb, rfl⟩ := keyT_ref rk2 hk
  cases (show uk = Value.ref kb from rku)
  obtain ⟨zl, hsys, ys, rr, dd⟩ := dcn_of hK hw I3 (kvs := []) (a := d) (ι := ι2) ⟨[], by rw [← hw]; exact hd2, rfl, rfl, rfl⟩
  cases rr
  refine ⟨[(nk, kb, uv)], ⟨rfl, rfl, keyT_is hK I3 rk2 hk, trivial⟩, dd, fun h' tk dd' hs => ?_⟩
  obtain ⟨xs', g1, g2, g3, g4⟩ := of_rw (rw_put (kvs := []) (ys := []) hk rk2 rv2 rvu .nil)
  obtain ⟨o, es, ep, k1, k2, k3, k4, _, k5⟩ := dd'
  have new : ObjOk X.prog X.w (upd H2 d (nD X.w d xs')) h' d (nD X.w d xs') :=
    ⟨⟨by
      have hl : xs'.length = 1 := by simpa [dPut, dGet] using (congrArg List.length g1).symm
      rw [hl, sizeLine_eq]; omega, hsys, _, g4, o, es, ep, k1, k2, k3, k4, k5⟩, ⟨o, k1⟩, objN_keep⟩
  obtain ⟨_, hr, hL, hS⟩ := nD_own (G := G) (ι := ι2) (st := st2) (xs' := xs') (by rw [← hw]; exact hd2) nd2
  rw [← hw] at hr hL hS
  have e3 : Ext H ι (upd H2 d (nD X.w d xs')) (ι2 ++ [d]) := (ext_own e2 hn).take hn
  have s3 : StoRep G (upd H2 d (nD X.w d xs')) (ι2 ++ [d]) (st2 ++ [.dcn [(x, y)]]) := (hS hR2.sto).push nd2 ⟨xs', by rw [← hw]; exact upd_same, g1, (hL g2).grow _, (hL g3).grow _⟩
  exact ⟨.ref d, _, d_write I3 (by rw [hd2]; exact True.intro) hs ⟨o, k1⟩ new, rfl, hp2 _ _ _ e3 s3 ⟨d, by rw [← hR2.sto.len]; simp, rfl⟩⟩⟩
/-! ### list(d) -/
def lKeysN (m : SE) : SL := fun C env st => (m C env st).bind fun x st => match dcnAt st x with | some (_, kvs) => .ok (kvs.map (·.1)) st | none => .stuck
def rListN (G : Gx) : List V → Hp → VK → Prop := fun xs H Q => ∃ ι st x v i kvs, xs = [v] ∧ StoRep G H ι st ∧ Rep G H ι x v ∧ dcnAt st x = some (i, kvs) ∧ ∀ l ks, H l = none → RepL G H ι (kvs.map (·.1)) ks → Q (.ref l) (upd H l (.lst ks))
theorem call_listN (hK : X.K = G.K) (hw : X.w = G.w) (hc : X.calm = true) : CallR X (.type "list") (rListN G) := by
  intro pins s σ H xs us Q I r h
  obtain ⟨ι, st, x, v, i, kvs, rfl, sr, rx, hx, q⟩ := h
  obtain ⟨rfl, hi⟩ := dcnAt_of hx
  obtain ⟨a, rfl, ha, c⟩ := dcn_at sr hi rx
  obtain rfl := Vals.ref1 r
  obtain ⟨zl, hsys, ys, rr, dd⟩ := dcn_of hK hw I c
  obtain ⟨xs, k1, k2, k3, k4⟩ := c
  obtain ⟨od, I2⟩ := I.lock k1 True.intro
  rw [← hw] at I2
  obtain ⟨q1, q2, es, ep, q3, q4, q5, q6⟩ := lck_raw I2.hok upd_same
  have hl : kvs.length = xs.length := by simpa using congrArg List.length k2
  refine PySem.W.kdl_call (KdlSrc.rawDict (es := es) (ep := ep) q1) (I.ok.hd hc) q4 (by omega) fun h' tk acc c' hk ho hit => ?_
  have hn : H s.heap.objs.size = none := I.hok.fresh (Nat.le_refl _)
  have hv : Vals (xs.map fun x => V.ref x.2.1) acc.toList := by
    have hsz : acc.toList.length = xs.length := by rw [Array.length_toList, hit.1, q5]
    have all : ∀ (xs : List (NestedKey × Addr × V)) (l : List Value), l.length = xs.length → (∀ (j : Nat) (x : NestedKey × Addr × V) (v : Value), xs[j]? = some x → l[j]? = some v → v = .ref x.2.1) → Vals (xs.map fun x => V.ref x.2.1) l := by
      intro xs
      induction xs with
      | nil => intro l h _; cases l with
        | nil => exact .nil
        | cons => simp at h
      | cons x xs ih =>
        intro l h k
        cases l with
        | nil => simp at h
        | cons v l => exact .cons (k 0 x v rfl rfl) (ih l (by simpa using h) fun j x' v' h1 h2 => k (j + 1) x' v' (by simpa using h1) (by simpa using h2))
    refine all xs acc.toList hsz fun j x v h1 h2 => ?_
    obtain ⟨hj, e1, _⟩ := q6 j x h1
    obtain ⟨_, e2⟩ := hit.2 j v (by rw [← Array.getElem?_toList]; exact h2)
    rw [e2, e1]
  have new : ObjOk X.prog X.w (upd H s.heap.objs.size (.lst (xs.map fun x => V.ref x.2.1))) h' s.heap.objs.size (.lst (xs.map fun x => V.ref x.2.1)) := ⟨by rw [List.length_map]; omega, acc.toList, c', hv, by simpa using ho⟩
  exact ⟨.ref s.heap.objs.size, _, I.laid (t' := tk) hk (Nat.le_refl _) new, rfl, q _ _ hn k3⟩
theorem dt_listN {e : Expr} {m : SE} (h : PE X e (tCB (rListN G) (tCons (tE G W C m) tNil))) : DT G X W C e (lKeysN m) :=
  pe_imp h fun σ H Q ⟨env, ι, st, hR, hp⟩ => by
    show tE G W C m σ H fun v H1 => rListN G [v] H1 Q
    refine sqB0 (Q := fun v H1 => rListN G [v] H1 Q) hR (Ext.refl _ _) hp fun x st1 v H1 ι1 e1 hR1 r1 hp1 => ?_
    split at hp1
    · rename_i i kvs hx
      exact ⟨ι1, st1, x, v, i, kvs, rfl, hR1.sto, r1, hx, fun l ks hl rk => hp1 _ _ ι1 (e1.trans (ext_new hl)) (hR1.sto.fresh hl) ⟨l, ks, rfl, upd_same, hR1.sto.notin hl, fresh_back e1 hR1.sto hl, rk.ext (ext_new hl) hR1.sto.mut⟩⟩
    · exact hp1.elim
end
end OH

set_option Elab.async false
set_option linter.all false
set_option maxRecDepth 100000
set_option maxHeartbeats 1000000
/-! OHRev: a tuple turned about. -/
namespace OH
open PySem PySem.Spec PyProof.Rows L2
section
variable {prog : Program} {w : World} {A : Around} {E : Value → Shared → Prop} {s : Shared}
theorem rev_pick (xs : Array Value) : ((List.range xs.size).filterMap fun (k : Nat) => xs[((xs.size : Int) - 1 + (k : Int) * (-1)).toNat]?) = xs.toList.reverse := by
  have e : (fun (k : Nat) => xs[((xs.size : Int) - 1 + (k : Int) * (-1)).toNat]?) = fun k => xs[xs.size - 1 - k]? := by
    funext k
    have : ((xs.size : Int) - 1 + (k : Int) * (-1)).toNat = xs.size - 1 - k := by omega
    rw [this]
  rw [e]
  have e2 : (List.range xs.size).filterMap (fun k => xs[xs.size - 1 - k]?) = ((List.range xs.size).map fun k => xs.size - 1 - k).filterMap (xs[·]?) := by rw [List.filterMap_map]; rfl
  rw [e2, PySem.W.krv_range, List.filterMap_reverse, PySem.W.krv_all]
theorem rev_adjust (n : Nat) : Builtin.Slice.sliceAdjust none none (-1) (n : Int) = ((n : Int) - 1, -1) := rfl
theorem rev_places (n : Nat) : Builtin.Slice.slicePlaces ((n : Int) - 1) (-1) (-1) = n := by
  unfold Builtin.Slice.slicePlaces
  have h1 : ¬ ((-1 : Int) > 0) := by omega
  rw [if_neg h1]
  by_cases h : (n : Int) - 1 > -1
  · rw [if_pos h]
    have : ((n : Int) - 1 - -1 - 1) / (- -1) = (n : Int) - 1 := by
      rw [show (- -1 : Int) = 1 by decide, Int.ediv_one]; omega
    rw [this]; omega
  · rw [if_neg h]; omega
theorem rev_applied {sl : Addr} {u : Tok} {n : Nat} {Q : Int × Int × Nat → Shared → Prop} (hs : s.heap.IsSliceOf sl .none .none (.int (-1) u)) (h : Q ((n : Int) - 1, -1, n) s) : wpAny (model prog w) A (Builtin.Slice.sliceApplied (.ref sl) (pure (n : Int))) Q E s := by
  obtain ⟨os, hos, hcs, hds⟩ := id hs
  unfold Builtin.Slice.sliceApplied Builtin.Slice.sliceFields
  refine wpAny_bind (wpAny_bind (wpAny_field hos hds (x := .none) rfl (wpAny_bind (wpAny_field hos hds (x := .none) rfl (wpAny_bind (wpAny_field hos hds (x := .int (-1) u) rfl (wpAny_pure ?_)))))))
  refine wpAny_bind (HT.slicePart_ (.int (-1) u) ?_)
  show wpAny _ _ (if ((-1 : Int) == 0) = true then _ else _) _ _ s
  rw [if_neg (by decide)]
  refine wpAny_bind (HT.slicePart_ .none (wpAny_bind (HT.slicePart_ .none (wpAny_bind (wpAny_pure ?_)))))
  show wpAny _ _ (match Builtin.Slice.sliceAdjust none none (-1) (n : Int) with | (lo, hi) => pure (lo, (-1 : Int), Builtin.Slice.slicePlaces lo hi (-1))) _ _ s
  rw [rev_adjust n]
  show wpAny _ _ (pure ((n : Int) - 1, (-1 : Int), Builtin.Slice.slicePlaces ((n : Int) - 1) (-1) (-1))) _ _ s
  rw [rev_places]
  exact wpAny_pure h
theorem rev_item {t sl : Addr} {items : Array Value} {u : Tok} {Q : Value → Shared → Prop} (ht : IsTup s.heap t items) (hs : s.heap.IsSliceOf sl .none .none (.int (-1) u)) (hz : items.size ≤ sizeLine)
    (h : Q (.ref s.heap.objs.size) { s with heap := s.heap.push { cls := .type "tuple", data := .seq items.toList.reverse.toArray } }) : wpAny (model prog w) A (getItem (.ref t) (.ref sl)) Q E s := by
  obtain ⟨os, hos, hcs, hds⟩ := id hs
  have hT : s.TypeIs (.ref sl) "slice" := ⟨os, hos, hcs⟩
  have hn : sizeOk (.seq items.toList.reverse.toArray) := by
    show items.toList.reverse.toArray.size ≤ sizeLine
    rw [List.size_toArray, List.length_reverse, Array.length_toList]
    exact hz
  unfold getItem
  try with_reducible refine wpAny_holding ?_
  first | refine wpAny_bind (wpAny_pure ?_) | skip
  refine wpAny_bind (wpAny_sequenceKey ht.typeIs (by decide) ?_)
  refine wpAny_bind (wpAny_callSpecial?_slot (name := Str.ofString "__getitem__") ht.typeIs PyProof.Rows.slot_tuple_getitem
    (wpAny_call_entry PyProof.Rows.slot_tuple_getitem ht.typeIs entry_tuple_getitem ?_ (args_tuple_getitem _ _)))
  show wpAny _ _ (Builtin.Tuple.tupleItemsOf (.ref t) >>= _) _ _ s
  refine wpAny_bind (tupleItemsOf_ ht ?_)
  refine wpAny_bind (wpAny_typeOf hT ?_)
  rw [if_pos (by decide)]
  refine wpAny_bind (rev_applied hs ?_)
  have no : ¬ (((items.size : Int) - 1 == 0 && (-1 : Int) == 1 && items.size == items.size) = true) := by
    rw [show ((-1 : Int) == 1) = false from rfl, Bool.and_false, Bool.false_and]
    exact Bool.false_ne_true
  show wpAny _ _ (if ((items.size : Int) - 1 == 0 && (-1 : Int) == 1 && items.size == items.size) = true then _ else _) _ _ s
  rw [if_neg no, rev_pick]
  exact wpAny_bind (m := Builtin.Tuple.tupleExact _) (wpAny_newObj_type (wpAny_pure ⟨_, rfl, wpAny_pure h⟩) hn)
end
section
variable {X : Cx}
/-- what a slice of three parts asks: the type's own getitem, and what it does -/
def Sl3 (X : Cx) (r : V → Option Int → Option Int → Option Int → Hp → VK → Prop) : Prop := ∀ (pins : List (Addr × Obj)) (s : Shared) (σ : L2.St) (H : Hp) (x : V) (v : Value) (ps : Value × Value × Value) (a b c : Option Int) (sl : Addr) (Q : VK),
  Inv X pins σ H s → RelV x v → s.heap.IsSliceOf sl ps.1 ps.2.1 ps.2.2 → IsPart ps.1 a → IsPart ps.2.1 b → IsPart ps.2.2 c → r x a b c H Q →
    ∃ T id, typeLookup (.type T) "__getitem__" = pure (some (.builtin id)) ∧ s.TypeIs v T ∧ wpAny (model X.prog X.w) X.A (getItem v (.ref sl)) (EP X pins σ Q) X.xe s
def tSl3 (r : V → Option Int → Option Int → Option Int → Hp → VK → Prop) (te : TE) (ta tb tc : TO) : TE := fun σ H Q => te σ H fun x H1 => ta σ H1 fun a H2 => tb σ H2 fun b H3 => tc σ H3 fun c H4 => r x a b c H4 Q
theorem pe_sl3 {r : V → Option Int → Option Int → Option Int → Hp → VK → Prop} {e ec : Expr} {ea eb : Option Expr} {te : TE} {ta tb tc : TO} {p pos : Pos} (hr : Sl3 X r) (he : PE X e te) (ha : PO X ea ta) (hb : PO X eb tb) (hc : PO X (some ec) tc) : PE X (.Subscript e (.Slice ea eb (some ec) p) pos) (tSl3 r te ta tb tc) := by
  refine ⟨fun pins s0 σ H0 Q I0 h => Subscript_ (thn (he.run pins s0 σ H0 _ I0 h) fun v s1 ⟨x, H1, I1, rx, h1⟩ => wpAny_Slice (thn (ha.run pins s1 σ H1 _ I1 h1) fun va s2 ⟨a, H2, I2, pa, h2⟩ =>
    thn (hb.run pins s2 σ H2 _ I2 h2) fun vb s3 ⟨b, H3, I3, pb, h3⟩ => thn (hc.run pins s3 σ H3 _ I3 h3) fun vc s4 ⟨c, H4, I4, pc, h4⟩ => ?_))⟩
  have J : Inv X pins σ H4 { s4 with heap := s4.heap.push { cls := .type "slice", data := .fields #[va, vb, vc] } } := I4.kept (t' := s4.toks) fun _ _ q => Heap.get?_push_of_some _ q
  obtain ⟨T, id, k1, k2, k3⟩ := hr pins _ σ H4 x v (va, vb, vc) a b c s4.heap.objs.size Q J rx (Heap.IsSliceOf.new ..) pa pb pc h4
  exact tail_any (ops := [v, .ref s4.heap.objs.size]) k2 k1 k3 (by with_unfolding_all rfl)
/-- all of a tuple, by the step -1 -/
def rRevT (K : PySem.W.Frag) : V → Option Int → Option Int → Option Int → Hp → VK → Prop := fun x a b c H Q => a = none ∧ b = none ∧ c = some (-1) ∧ ∃ t xs, x = .ref t ∧ SqT K H t xs ∧ ∀ p, H p = none → Q (.ref p) (upd H p (.tup xs.reverse))
theorem sl3_rev : Sl3 X (rRevT X.K) := by
  intro pins s σ H x v ps a b c sl Q I rx hs pa pb pc ⟨ea, eb, ec, t, xs, ex, hx, q⟩
  subst ea eb ec ex
  obtain ⟨v1, v2, v3⟩ := ps
  cases rx
  cases pa
  cases pb
  cases pc
  obtain ⟨its, r, ht, hz⟩ := I.tuple hx
  have hl := r.length
  exact ⟨"tuple", _, PyProof.Rows.slot_tuple_getitem.lookup, ht.typeIs, rev_item ht hs (by rw [List.size_toArray]; omega)
    ⟨.ref _, _, I.laid (t' := s.toks) (o := .tup xs.reverse) (fun _ _ q => Heap.get?_push_of_some _ q) (Nat.le_refl _) ⟨by rw [List.length_reverse]; exact hz, _, r.reverse, IsTup.new _ _⟩, rfl, q _ (I.hok.fresh (Nat.le_refl _))⟩⟩
end
def revR : Sto → D → Res D := fun st x => match x with
  | .tup ds => .ok (.tup ds.reverse) st
  | _ => .stuck
@[simp] theorem revR_tup (st : Sto) (ds : List D) : revR st (.tup ds) = .ok (.tup ds.reverse) st := rfl
section
variable {G : Gx} {X : Cx} {W : WX} {C : Call}
theorem repL_rev {H : Hp} {ι : List Addr} {ds : List D} {vs : List V} (r : RepL G H ι ds vs) : RepL G H ι ds.reverse vs.reverse := by
  induction ds generalizing vs with
  | nil => cases r; exact rfl
  | cons d ds ih =>
    obtain ⟨v, w, rfl, r1, r2⟩ := r
    rw [List.reverse_cons, List.reverse_cons]
    exact (ih r2).app (.one r1)
theorem de_rev {e : Expr} {m : SE} {k : Nat} {p1 p2 p3 pos : Pos} (hK : X.K = G.K) (h : DE G X W C e m) : DE G X W C (.Subscript e (.Slice none none (some (.UnaryOp .USub (.Constant (.int 1) k p1) p2)) p3) pos) (eU1 revR m) :=
  pe_imp (pe_sl3 sl3_rev h po_none po_none (po_some (pe_un un_neg pe_int))) fun σ H Q ⟨env, ι, st, hR, hp⟩ => sqE hR hp fun x st1 v H1 ι1 e1 hR1 r1 hp1 => by
    refine ⟨1, rfl, -1, rfl, rfl, rfl, rfl, ?_⟩
    cases x with
    | tup ds =>
      obtain ⟨a, xs, rfl, q, r⟩ := r1
      refine ⟨a, xs, rfl, by rw [hK]; exact q, fun p hp2 => ?_⟩
      exact hp1 _ _ ι1 (ext_new hp2) (hR1.sto.fresh hp2) ⟨p, _, rfl, SqT.of upd_same, (repL_rev r).ext (ext_new hp2) hR1.sto.mut⟩
    | _ => exact hp1.elim
end
end OH

set_option Elab.async false
set_option linter.all false
set_option maxRecDepth 100000
set_option maxHeartbeats 1000000
/-! OHRvl: a list turned about, [::-1]. -/
namespace OH
open PySem PySem.Spec PyProof.Rows L2
section
variable {X : Cx}
def rRevL (K : PySem.W.Frag) : V → Option Int → Option Int → Option Int → Hp → VK → Prop := fun x a b c H Q => a = none ∧ b = none ∧ c = some (-1) ∧ ∃ t xs, x = .ref t ∧ SqL K H t xs ∧ ∀ p, H p = none → Q (.ref p) (upd H p (.lst xs.reverse))
theorem sl3_revL : Sl3 X (rRevL X.K) := by
  intro pins s σ H x v ps a b c sl Q I rx hs pa pb pc ⟨ea, eb, ec, t, xs, ex, hx, q⟩
  subst ea eb ec ex
  obtain ⟨v1, v2, v3⟩ := ps
  cases rx
  obtain ⟨its, r, ht, hz⟩ := I.list hx
  have hlen := r.length
  refine ⟨"list", _, slot_list_getitem.lookup, ht.isList.typeIs, ?_⟩
  refine wpAny_getItem_list_slice ht.isList hs pa pb pc (by decide) ?_ (by rw [List.size_toArray] <;> omega)
  rw [PySem.W.krv_pick]
  refine ⟨.ref s.heap.objs.size, _, I.laid (t' := s.toks) (o := .lst xs.reverse) (fun b ob q => Heap.get?_push_of_some _ q) (Nat.le_refl _) ?_, rfl, q _ (I.hok.fresh (Nat.le_refl _))⟩
  exact ⟨by rw [List.length_reverse]; exact hz, _, 0, r.reverse, Heap.get?_push_size _ rfl⟩
theorem sl3_or {r r' : V → Option Int → Option Int → Option Int → Hp → VK → Prop} (h : Sl3 X r) (h' : Sl3 X r') : Sl3 X (fun x a b c H Q => r x a b c H Q ∨ r' x a b c H Q) := by
  intro pins s σ H x v ps a b c sl Q I rx hs pa pb pc q
  rcases q with q | q
  · exact h pins s σ H x v ps a b c sl Q I rx hs pa pb pc q
  · exact h' pins s σ H x v ps a b c sl Q I rx hs pa pb pc q
end
def revL : Sto → D → Res D := fun st x => match x with
  | .tup ds => .ok (.tup ds.reverse) st
  | .ref i => match lstAt st i with | some ds => newL ds.reverse st | none => .stuck
  | _ => .stuck
section
variable {G : Gx} {X : Cx} {W : WX} {C : Call}
theorem de_revL {e : Expr} {m : SE} {k : Nat} {p1 p2 p3 pos : Pos} (hK : X.K = G.K) (h : DE G X W C e m) : DE G X W C (.Subscript e (.Slice none none (some (.UnaryOp .USub (.Constant (.int 1) k p1) p2)) p3) pos) (eU1 revL m) :=
  pe_imp (pe_sl3 (sl3_or sl3_rev sl3_revL) h po_none po_none (po_some (pe_un un_neg pe_int))) fun σ H Q ⟨env, ι, st, hR, hp⟩ => sqE hR hp fun x st1 v H1 ι1 e1 hR1 r1 hp1 => by
    refine ⟨1, rfl, -1, rfl, ?_⟩
    cases x with
    | tup ds =>
      obtain ⟨a, xs, rfl, q, r⟩ := r1
      refine .inl ⟨rfl, rfl, rfl, a, xs, rfl, by rw [hK]; exact q, fun p hp2 => ?_⟩
      exact hp1 _ _ ι1 (ext_new hp2) (hR1.sto.fresh hp2) ⟨p, _, rfl, SqT.of upd_same, (repL_rev r).ext (ext_new hp2) hR1.sto.mut⟩
    | ref i =>
      unfold revL at hp1
      dsimp only at hp1
      split at hp1
      · rename_i ds e
        obtain ⟨a, xs, k1, k2, k3⟩ := hR1.sto.lst e
        obtain ⟨_, k1', rfl⟩ := r1
        rw [k1] at k1'; cases k1'
        refine .inr ⟨rfl, rfl, rfl, a, xs, rfl, SqL.of k2, fun p hp => ?_⟩
        obtain ⟨n1, n2, n3⟩ := new_take hR1.sto hp (repL_rev k3)
        exact hp1 _ _ _ n1 n2 n3
      · exact hp1.elim
    | _ => exact hp1.elim
end
end OH

set_option Elab.async false
set_option linter.all false
set_option maxRecDepth 100000
set_option maxHeartbeats 1000000
/-! OHDcx: len of a dict; a module's text, a module's tuple of texts; its index. -/
namespace OH
open PySem PySem.Spec PyProof.Rows L2
/-- o[i] op= e, o a dict -/
def sAugN (f : Sto → D → D → Res D) (mo mi mv : SE) : SS := fun C env st => (mo C env st).thenS env fun x st => (mi C env st).thenS env fun y st => (ixN st x y).thenS env fun c st => (mv C env st).thenS env fun e st => (f st c e).thenS env fun z st => match putN st x y z with | some st' => .nx env st' | none => .stuck
section
variable {G : Gx} {X : Cx} {W : WX} {C : Call}
/-! ### len(d) -/
def lenN : Sto → D → Res D := fun st x => match dcrAt st x with | some (_, kvs) => .ok (.int kvs.length) st | none => .stuck
def rLenN (G : Gx) : List V → Hp → VK → Prop := fun xs H Q => ∃ ι st x v i kvs, xs = [v] ∧ StoRep G H ι st ∧ Rep G H ι x v ∧ dcrAt st x = some (i, kvs) ∧ Q (.int kvs.length) H
theorem call_lenN (hK : X.K = G.K) (hw : X.w = G.w) : CallR X (.builtin "len") (rLenN G) := by
  intro pins s σ H xs us Q I r h
  obtain ⟨ι, st, x, v, i, kvs, rfl, sr, rx, hx, q⟩ := h
  obtain ⟨rfl, hi⟩ := dcrAt_of hx
  obtain ⟨a, rfl, ha, c⟩ := dcr_at sr hi rx
  obtain rfl := Vals.ref1 r
  obtain ⟨zl, hsys, ys, rr, dd⟩ := dcr_of hK hw I c
  have hl : kvs.length = (pairsH ys).length := by rw [pairsH_length]; exact Paired.length rr
  rw [sizeLine_eq] at zl
  refine PyProof.Rows.call_len_slot (n := (kvs.length : Nat)) dd.typeIs PySem.F.slot_dict_len (fun Q' hq => len_keyed hsys ⟨ys, dd, rfl⟩ (by rw [← hl]; exact hq)) (by omega) (by omega) ?_
  exact ⟨.int kvs.length, H, I.tok _, ⟨_, rfl⟩, q⟩
theorem de_lenN {e : Expr} {m : SE} (h : PE X e (tCB (rLenN G) (tCons (tE G W C m) tNil))) : DE G X W C e (eU1 lenN m) :=
  pe_imp h fun σ H Q ⟨env, ι, st, hR, hp⟩ => by
    show tE G W C m σ H fun v H1 => rLenN G [v] H1 Q
    refine sqE (Q := fun v H1 => rLenN G [v] H1 Q) hR hp fun x st1 v H1 ι1 e1 hR1 r1 hp1 => ?_
    unfold lenN at hp1
    split at hp1
    · rename_i i kvs hx
      exact ⟨ι1, st1, x, v, i, kvs, rfl, hR1.sto, r1, hx, hp1.here hR1.sto (v := .int _) rfl⟩
    · exact hp1.elim
/-! ### constants of the module -/
/-- a module's tuple of texts -/
def TupAt (K : PySem.W.Frag) (p : Addr) (ss : List Str) : Prop := ∃ (o : Obj) (its : Array Value) (n : Nat), K.lookup p = some o ∧ o.cls = .type "tuple" ∧ o.dict = none ∧ o.data = .seq its n ∧ its.size ≤ sizeLine ∧ Vals (ss.map V.str) its.toList
theorem tupAt_of {K : PySem.W.Frag} {p : Addr} {ss : List Str} {its : Array Value} {n : Nat} {sl : Array (Option Value)} (h : K.lookup p = some ⟨.type "tuple", none, .seq its n, sl⟩) (hz : its.size ≤ sizeLine) (hv : Vals (ss.map V.str) its.toList) : TupAt K p ss := ⟨_, its, n, h, rfl, rfl, rfl, hz, hv⟩
theorem repL_strs {H : Hp} {ι : List Addr} : ∀ ss : List Str, RepL G H ι (ss.map D.str) (ss.map V.str)
  | [] => rfl
  | s :: ss => ⟨_, _, rfl, rfl, repL_strs ss⟩
theorem de_globS {x : Str} {n : Str} {t : Tok} {pos : Pos} (hg : Gl X x) (hm : X.mg x = some (.str n t)) (hd : (x == ("__debug__" : Str)) = false := by decide) : DE G X W C (.Name x pos) (eC (.str n)) :=
  de_glob (pe_glob (v := .str n) hg hm ⟨t, rfl⟩ hd) fun _ _ => rfl
theorem de_globT {x : Str} {p : Addr} {ss : List Str} {ds : List D} {pos : Pos} (hg : Gl X x) (hds : ds = ss.map D.str) (hm : X.mg x = some (.ref p) ∧ TupAt G.K p ss) (hd : (x == ("__debug__" : Str)) = false := by decide) : DE G X W C (.Name x pos) (eC (.tup ds)) :=
  de_glob (pe_glob (v := .ref p) hg hm.1 rfl hd) fun H ι => by
    obtain ⟨o, its, n, h1, h2, _, h3, h4, h5⟩ := hm.2
    rw [hds]
    exact ⟨p, _, rfl, .inr ⟨o, its, n, h1, h2, h3, h4, h5⟩, repL_strs ss⟩
/-! ### T.index(x), T a module's tuple of texts -/
def eIdxT (ss : List Str) (a : SE) : SE := fun C env st => (a C env st).bind fun x st => match x with
  | .str z => match ss.findIdx? (fun y => decide (y = z)) with | some j => .ok (.int (j : Nat)) st | none => .stuck
  | _ => .stuck
theorem de_idxT {x : Str} {p : Addr} {ss : List Str} {a : Expr} {ma : SE} {xpos apos cpos : Pos} (hg : Gl X x) (hK : X.K = G.K) (hm : X.mg x = some (.ref p) ∧ TupAt G.K p ss) (ha : DE G X W C a ma) (hd : (x == ("__debug__" : Str)) = false := by decide)
    (hbase : attributeBase (.Name x xpos) "index" X.env (eval (.Name x xpos) X.env) = eval (.Name x xpos) X.env := by rfl)
    (hfew : ((backTo cpos (starEach [a] X.env)).all (fun x => !x.1) && (backToKw cpos (keywordEach [] X.env)).all (fun x => x.1.isSome) && decide ([a].length + ([] : List Keyword).length + (if ([] : List Keyword).isEmpty then 0 else 1) < 30)) = true := by rfl)
    (hline : (apos.endLine == cpos.line) = true := by rfl) (hs : starEach [a] X.env = (false, eval a X.env) :: starEach [] X.env := by rfl) (hplain : (backTo cpos (starEach [] X.env)).any (·.1) = false := by rfl) :
    DE G X W C (.Call (.Attribute (.Name x xpos) "index" apos) [a] [] cpos) (eIdxT ss ma) :=
  pe_imp (pe_bm PySem.F.plainAttrs_tuple PySem.F.slot_tuple_index PySem.F.type_tuple_index mt_tup_index (pe_glob (v := .ref p) hg hm.1 rfl hd) (pa_cons ha pa_nil hs) hbase hfew hline hs hplain) fun σ H Q ⟨env, ι, st, hR, hp⟩ => by
    obtain ⟨o, its, n, h1, h2, h6, h3, h4, h5⟩ := hm.2
    rw [← hK] at h1
    refine ⟨.inr (.inl ⟨rfl, o, h1, h2, h6⟩), ?_⟩
    show tE G W C ma σ H fun v H1 => _
    refine sqE hR hp fun y st1 v H1 ι1 e1 hR1 r1 hp1 => ?_
    split at hp1
    · rename_i z
      cases r1
      split at hp1
      · rename_i j hj
        obtain ⟨hlt, e2, e3⟩ := List.findIdx?_eq_some_iff_getElem.mp hj
        refine ⟨p, ss, z, j, rfl, rfl, .inr ⟨o, its, n, h1, h2, h3, h4, h5⟩, ?_, fun m hm2 e => ?_, hp1.here hR1.sto (v := .int _) rfl⟩
        · rw [List.getElem?_eq_getElem hlt]
          simpa using e2
        · obtain ⟨hl2, e4⟩ := List.getElem?_eq_some_iff.mp e
          have := e3 m hm2
          simp [e4] at this
      · exact hp1.elim
    · exact hp1.elim
end
end OH

set_option Elab.async false
set_option linter.all false
set_option maxRecDepth 100000
set_option maxHeartbeats 1000000
/-! OHLc2: list comprehensions with two for. -/
namespace OH
open PySem PySem.Spec PyProof.Rows L2

/-- as Ext, but the list at D may change -/
structure Ext2 (dl : Addr) (H : Hp) (ι : List Addr) (H' : Hp) (ι' : List Addr) : Prop where
  keep : ∀ a o, H a = some o → a ∉ ι → a ≠ dl → H' a = some o
  more : ∃ r, ι' = ι ++ r
theorem Ext.two {dl : Addr} {H H' : Hp} {ι ι' : List Addr} (e : Ext H ι H' ι') : Ext2 dl H ι H' ι' := ⟨fun a o h n _ => e.keep a o h n, e.more⟩
theorem Ext2.get {dl : Addr} {H H' : Hp} {ι ι' : List Addr} (e : Ext2 dl H ι H' ι') {i : Nat} {a : Addr} (h : ι[i]? = some a) : ι'[i]? = some a := by
  obtain ⟨r, rfl⟩ := e.more
  rw [List.getElem?_append_left (List.getElem?_eq_some_iff.mp h).1]
  exact h
theorem Ext2.step {dl : Addr} {H H' H2 : Hp} {ι ι' ι2 : List Addr} (e : Ext2 dl H ι H' ι') (e2 : Ext H' ι' H2 ι2) (new : ∀ a, a ∈ ι' → a ∉ ι → H a = none) : Ext2 dl H ι H2 ι2 := by
  obtain ⟨r, rfl⟩ := e.more
  obtain ⟨r2, rfl⟩ := e2.more
  refine ⟨fun a o h n l => e2.keep a o (e.keep a o h n l) fun hm => ?_, ⟨r ++ r2, by simp⟩⟩
  rw [new a hm n] at h; cases h
theorem Ext2.own {H H' : Hp} {ι ι' : List Addr} {p : Addr} {o : HO} (e : Ext2 p H ι H' ι') : Ext2 p H ι (upd H' p o) ι' := by
  refine ⟨fun a u h n l => ?_, e.more⟩
  rw [upd_ne l]
  exact e.keep a u h n l
section
variable {G : Gx} {dl : Addr} {xs0 : List V} {H H' : Hp} {ι ι' : List Addr} {st : Sto}
theorem SqT.ext2 {K : PySem.W.Frag} (hD : H dl = some (.lst xs0)) (e : Ext2 dl H ι H' ι') (n : ∀ a ∈ ι, MuL (H a)) {a : Addr} {xs : List V} (h : SqT K H a xs) : SqT K H' a xs := by
  rcases h with h | h
  · have na : a ∉ ι := fun ha => by
      have q := n a ha
      rcases h with h | ⟨o, h⟩ <;> rw [h] at q <;> rcases q with q | ⟨_, _, q⟩ <;> first | exact q | cases q
    rcases h with h | ⟨o, h⟩
    · exact .inl (.inl (e.keep a _ h na fun z => by rw [z, hD] at h; cases h))
    · exact .inl (.inr ⟨o, e.keep a _ h na fun z => by rw [z, hD] at h; cases h⟩)
  · exact .inr h
theorem SqF.ext2 {K : PySem.W.Frag} (hD : H dl = some (.lst xs0)) (e : Ext2 dl H ι H' ι') (n : ∀ a ∈ ι, MuL (H a)) {a : Addr} {xs : List V} (h : SqF K H a xs) : SqF K H' a xs := by
  rcases h with ⟨o, h⟩ | h
  · refine .inl ⟨o, e.keep a _ h (fun ha => ?_) fun z => by rw [z, hD] at h; cases h⟩
    have q := n a ha
    rw [h] at q
    rcases q with q | ⟨_, _, q⟩
    · exact q
    · cases q
  · exact .inr h
theorem Rep.ext2 (hD : H dl = some (.lst xs0)) (e : Ext2 dl H ι H' ι') (n : ∀ a ∈ ι, MuL (H a)) {d : D} {v : V} (h : Rep G H ι d v) : Rep G H' ι' d v := h.mono (fun _ _ => SqT.ext2 hD e n) (fun _ _ => SqF.ext2 hD e n) fun _ _ => e.get
theorem RepL.ext2 (hD : H dl = some (.lst xs0)) (e : Ext2 dl H ι H' ι') (n : ∀ a ∈ ι, MuL (H a)) {d : List D} {v : List V} (h : RepL G H ι d v) : RepL G H' ι' d v := h.mono (fun _ _ => SqT.ext2 hD e n) (fun _ _ => SqF.ext2 hD e n) fun _ _ => e.get
theorem R.ext2 {σ : L2.St} {env : Env} {st' : Sto} (r : R G σ H env ι st) (hD : H dl = some (.lst xs0)) (e : Ext2 dl H ι H' ι') (s : StoRep G H' ι' st') : R G σ H' env ι' st' :=
  ⟨r.len, fun i d h => let ⟨v, h1, h2⟩ := r.var i d h; ⟨v, h1, h2.ext2 hD e r.sto.mut⟩, s⟩
end
/-- an iterator within a comprehension: it goes on while the new list grows -/
def repW2 (G : Gx) : Hp → Hp → List Addr → Wlk → L2.It → Prop := fun _ H ι w J => ∀ dl xs0, H dl = some (.lst xs0) → ∀ H2 ι2 st2, Ext2 dl H ι H2 ι2 → StoRep G H2 ι2 st2 → good w.src st2 = true →
  (∀ (i : Nat) (d : D), w.ds[i]? = some d → J.go i H2 ∧ ∀ x H3, J.yld i H2 x H3 → H3 = H2 ∧ Rep G H2 ι2 d x) ∧ ∀ i, w.ds.length ≤ i → J.stop i H2
def DI2 (G : Gx) (X : Cx) (W : WX) (C : Call) (tg e : Expr) (m : SI) : Prop := PI X tg e (rG G W C (repW2 G) m)
section
variable {G : Gx} {X : Cx} {W : WX} {C : Call}
theorem itl2 {K : PySem.W.Frag} {H : Hp} {ι : List Addr} {a : Addr} {ds : List D} {xs : List V} (hq : SqL K H a xs) (r : RepL G H ι ds xs) : (∀ (i : Nat) (d : D), ds[i]? = some d → (Itl K a).go i H ∧ ∀ x H3, (Itl K a).yld i H x H3 → H3 = H ∧ Rep G H ι d x) ∧ ∀ i, ds.length ≤ i → (Itl K a).stop i H := by
  refine ⟨fun i d h => ?_, fun i h => ⟨xs, hq, by rw [r.length]; exact h⟩⟩
  obtain ⟨v, h1, h2⟩ := r.get h
  refine ⟨⟨xs, v, hq, h1⟩, fun x H3 ⟨e, hy⟩ => ⟨e, ?_⟩⟩
  have := hy xs hq
  rw [h1] at this; cases this
  exact h2
theorem itt2 {K : PySem.W.Frag} {H : Hp} {ι : List Addr} {a : Addr} {ds : List D} {xs : List V} (hq : SqT K H a xs) (r : RepL G H ι ds xs) : (∀ (i : Nat) (d : D), ds[i]? = some d → (Itt K a).go i H ∧ ∀ x H3, (Itt K a).yld i H x H3 → H3 = H ∧ Rep G H ι d x) ∧ ∀ i, ds.length ≤ i → (Itt K a).stop i H := by
  refine ⟨fun i d h => ?_, fun i h => ⟨xs, hq, by rw [r.length]; exact h⟩⟩
  obtain ⟨v, h1, h2⟩ := r.get h
  refine ⟨⟨xs, v, hq, h1⟩, fun x H3 ⟨e, hy⟩ => ⟨e, ?_⟩⟩
  have := hy xs hq
  rw [h1] at this; cases this
  exact h2
theorem di2_of {tg e : Expr} {m : SE} (hK : X.K = G.K) (h : DE G X W C e m) : DI2 G X W C tg e (siOf m) := pi_imp (pi_seqG h) fun σ H Q ⟨env, ι, st, hR, hp⟩ => sqE hR hp fun x st1 v H1 ι1 e1 hR1 r1 hp1 => by
  rw [hK]
  cases x with
  | tup ds =>
    obtain ⟨a, xs, rfl, q, r⟩ := r1
    exact ⟨a, rfl, .inr ⟨⟨xs, q⟩, hp1.here hR1.sto fun dl xs0 hD H2 ι2 st2 e2 s2 _ => itt2 (SqT.ext2 hD e2 hR1.sto.mut q) (r.ext2 hD e2 hR1.sto.mut)⟩⟩
  | scr ds =>
    obtain ⟨a, xs, rfl, q, r⟩ := r1
    exact ⟨a, rfl, .inl ⟨⟨xs, q.sq⟩, hp1.here hR1.sto fun dl xs0 hD H2 ι2 st2 e2 s2 _ => itl2 (SqF.ext2 hD e2 hR1.sto.mut q).sq (r.ext2 hD e2 hR1.sto.mut)⟩⟩
  | ref i =>
    dsimp only at hp1
    split at hp1
    · rename_i ds e
      obtain ⟨a, xs, k1, k2, k3⟩ := hR1.sto.lst e
      obtain ⟨_, k1', rfl⟩ := r1
      rw [k1] at k1'; cases k1'
      refine ⟨a, rfl, .inl ⟨⟨xs, SqL.of k2⟩, hp1.here hR1.sto fun dl xs0 hD H2 ι2 st2 e2 s2 hg => ?_⟩⟩
      have hl : lstAt st2 i = some ds := by
        unfold good at hg
        simp only [List.all_cons, List.all_nil, Bool.and_true, decide_eq_true_eq] at hg
        exact hg
      obtain ⟨a2, xs2, j1, j2, j3⟩ := s2.lst hl
      rw [e2.get k1] at j1; cases j1
      exact itl2 (SqL.of j2) j3
    · exact hp1.elim
  | _ => exact hp1.elim
theorem range2 {H0 H : Hp} {ι : List Addr} (lo : Int) (n : Nat) : repW2 G H0 H ι ⟨(List.range n).map fun (k : Nat) => D.int (lo + (k : Int)), []⟩ (Itr lo n) := by
  intro dl xs0 _ H2 ι2 st2 e2 s2 _
  refine ⟨fun i d h => ?_, fun i h => by
    show n ≤ i
    simpa using h⟩
  rw [List.getElem?_map] at h
  have hi : i < n := by
    cases q : (List.range n)[i]? with
    | none => rw [q] at h; cases h
    | some z => have := (List.getElem?_eq_some_iff.mp q).1; simpa using this
  rw [List.getElem?_range hi] at h
  simp at h
  subst h
  refine ⟨hi, fun x H3 ⟨e, ex⟩ => ?_⟩
  subst e ex
  exact ⟨rfl, rfl⟩
theorem di2_r1 {tg e : Expr} {l : SL} (h : PI X tg e (iRng1 (tA G W C l))) : DI2 G X W C tg e (siR1 l) := pi_imp h fun σ H Q ⟨env, ι, st, hR, hp⟩ => sqA hR hp fun ds st1 vs H1 ι1 e1 hR1 r1 hp1 => by
  split at hp1
  · obtain ⟨_, _, rfl, rfl, rfl⟩ := r1
    split at hp1
    · rename_i j hz
      refine ⟨j, rfl, (tsd_of hz).1, (tsd_of hz).2, ?_⟩
      have q := range2 (G := G) (H0 := H) (H := H1) (ι := ι1) 0 j.toNat
      simp only [Int.zero_add] at q
      exact hp1.here hR1.sto q
    · exact hp1.elim
  · exact hp1.elim
/-! ### the walk -/
def lc2Go (src : List (Nat × List D)) (g : SG) (c : SB) (si1 : SI) (g1 : SG) (vs1 : List Nat) (c1 : SB) (elt : SE) (C : Call) (env : Env) : List D → List D → Sto → Res (List D)
  | [], acc, st => if good src st then .ok acc st else .stuck
  | d :: ds, acc, st => if good src st then
      match g d env with
      | none => .stuck
      | some env' => (c C env' st).noX.bind fun t st => if t then (si1 C env' st).noX.bind fun w st => (lcGo w.src g1 c1 elt C (wipeE env' vs1) w.ds acc st).bind fun acc st => if acc.length ≤ sizeLine then lc2Go src g c si1 g1 vs1 c1 elt C env ds acc st else .stuck
          else lc2Go src g c si1 g1 vs1 c1 elt C env ds acc st
    else .stuck
def lLc2 (it : SI) (g : SG) (vs : List Nat) (c : SB) (si1 : SI) (g1 : SG) (vs1 : List Nat) (c1 : SB) (elt : SE) : SL := fun C env st => (it C env st).bind fun w st => lc2Go w.src g c si1 g1 vs1 c1 elt C (wipeE env vs) w.ds [] st
/-- the walk's end: no error, and the new list has only grown -/
theorem lcGo_end {src : List (Nat × List D)} {g : SG} {c : SB} {elt : SE} {C : Call} {env : Env} : ∀ (ds acc : List D) (st : Sto), lcGo src g c elt C env ds acc st = .stuck ∨ ∃ acc' st', lcGo src g c elt C env ds acc st = .ok acc' st' ∧ acc.length ≤ acc'.length
  | [], acc, st => by
    unfold lcGo
    split
    · exact .inr ⟨acc, st, rfl, Nat.le_refl _⟩
    · exact .inl rfl
  | d :: ds, acc, st => by
    unfold lcGo
    split
    · cases g d env with
      | none => exact .inl rfl
      | some env' =>
        dsimp only
        cases c C env' st with
        | exc c x st1 => exact .inl rfl
        | stuck => exact .inl rfl
        | ok t st1 =>
          simp only [Res.noX_ok, Res.bind_ok]
          cases t with
          | false => exact lcGo_end ds acc st1
          | true =>
            simp only [if_true]
            cases elt C env' st1 with
            | exc c x st1 => exact .inl rfl
            | stuck => exact .inl rfl
            | ok x st2 =>
              simp only [Res.noX_ok, Res.bind_ok]
              rcases lcGo_end ds (acc ++ [x]) st2 with h | ⟨a, s, h, l⟩
              · exact .inl h
              · exact .inr ⟨a, s, h, by rw [List.length_append] at l; simp at l; omega⟩
    · exact .inl rfl
theorem lc2_read {si si1 : SI} {g g1 : SG} {vs us vs1 us1 : List Nat} {mc mc1 : SB} {me : SE} {σ : L2.St} {H : Hp} {Q : V → Hp → Prop} (hus : ∀ i ∈ us, i ∈ vs) (hus1 : ∀ i ∈ us1, i ∈ vs1) (h : tT G W C (lLc2 si g vs mc si1 g1 vs1 mc1 me) σ H Q) :
    tLc2 (tI G W C si) (tGt G g us) (tB G WF C mc) (rG G WF C (repW2 G) si1) (tGt G g1 us1) (tB G WF C mc1) (tE G WF C me) vs vs1 σ H Q := by
  obtain ⟨env, ι, st, hR, hp⟩ := h
  refine ⟨env, ι, st, hR, ?_⟩
  unfold lLc2 at hp
  generalize si C env st = rs at hp
  cases rs with
  | exc c x st1 => exact hp
  | stuck => exact hp
  | ok w st1 =>
    intro J H1 ι1 e1 s1 rJ Dl hDl
    dsimp only [Res.bind] at hp
    have hR1 := hR.ext e1 s1
    have hHD : H Dl = none := by
      cases q : H Dl with
      | none => rfl
      | some o =>
        by_cases hm : Dl ∈ ι
        · exact absurd hDl (fun z => s1.ne (by obtain ⟨r, rfl⟩ := e1.more; exact List.mem_append_left _ hm) z rfl)
        · rw [e1.keep Dl o q hm] at hDl; cases hDl
    have stay : ∀ {H' : Hp} {ιa ιb : List Addr} {Ha : Hp} {xs : List V}, Ext Ha ιa H' ιb → Dl ∉ ιa → Ha Dl = some (.lst xs) → Dl ∉ ιb ∧ H' Dl = some (.lst xs) := fun {H' ιa ιb Ha xs} e hn h => ⟨fun hm => (by rw [e.new Dl hm hn] at h; cases h), e.keep Dl _ h hn⟩
    refine ⟨fun i m H' => ∃ acc xs ι' st', Ext H ι H' ι' ∧ Ext H1 ι1 H' ι' ∧ StoRep G H' ι' st' ∧ Dl ∉ ι' ∧ H' Dl = some (.lst xs) ∧ RepL G H' ι' acc xs ∧ m = w.ds.length - i ∧
      post G (repT G H) (fun cls ad H' => W cls ad σ H') H ι Q (lc2Go w.src g mc si1 g1 vs1 mc1 me C (wipeE env vs) (w.ds.drop i) acc st'),
      ⟨w.ds.length, [], [], ι1, st1, e1.trans (ext_new hDl), ext_new hDl, s1.fresh hDl, s1.notin hDl, upd_same, rfl, rfl, hp⟩, fun i m H2 ⟨acc, xs, ι2, st2, e2, e12, s2, nD, hD, rA, em, hp2⟩ => ?_⟩
    have hR2 : R G σ H2 env ι2 st2 := hR1.ext e12 s2
    by_cases hi : i < w.ds.length
    · rw [List.drop_eq_getElem_cons hi] at hp2
      unfold lc2Go at hp2
      by_cases hgd : good w.src st2 = true
      case neg => rw [if_neg hgd] at hp2; exact hp2.elim
      rw [if_pos hgd] at hp2
      obtain ⟨go, _⟩ := rJ H2 ι2 st2 e12 s2 hgd
      obtain ⟨g1', g2⟩ := go i w.ds[i] (by simp [hi])
      refine .inr ⟨g1', fun H' => ∃ acc xs ι' st', Ext H ι H' ι' ∧ Ext H1 ι1 H' ι' ∧ StoRep G H' ι' st' ∧ Dl ∉ ι' ∧ H' Dl = some (.lst xs) ∧ RepL G H' ι' acc xs ∧
        post G (repT G H) (fun cls ad H' => W cls ad σ H') H ι Q (lc2Go w.src g mc si1 g1 vs1 mc1 me C (wipeE env vs) (w.ds.drop (i + 1)) acc st'),
        fun H' ⟨acc', xs', ι', st', q1, q2, q3, q4, q5, q6, q7⟩ => ⟨w.ds.length - (i + 1), by omega, acc', xs', ι', st', q1, q2, q3, q4, q5, q6, rfl, q7⟩, fun x H3 hy => ?_⟩
      obtain ⟨e3, s3, r3⟩ := g2 x H3 hy
      have hR3 := (hR2.ext e3 s3).wipe vs
      obtain ⟨nD3, hD3⟩ := stay e3 nD hD
      have rA3 := rA.ext e3 s2.mut
      cases eg : g w.ds[i] (wipeE env vs) with
      | none => rw [eg] at hp2; exact hp2.elim
      | some env3 =>
        rw [eg] at hp2
        dsimp only at hp2
        refine ⟨w.ds[i], wipeE env vs, ι2, st2, env3, r3, hR3, eg, fun σ4 hR4 ag hl4 => ⟨(wipe_eq (fun i hi => ag i fun z => hi (hus i z)) hl4).trans wipe_wipe, ?_⟩⟩
        refine rG.nox hR4 hp2 fun t st5 t' H5 ι5 e5 hR5 rt hp5 => ?_
        cases rt
        obtain ⟨nD5, hD5⟩ := stay e5 nD3 hD3
        have rA5 := rA3.ext e5 s3.mut
        have f5 := (e2.trans e3).trans e5
        have f15 := (e12.trans e3).trans e5
        cases t with
        | false => exact iteF ⟨acc, xs, ι5, st5, f5, f15, hR5.sto, nD5, hD5, rA5, hp5⟩
        | true =>
          refine iteT (rG.nox (rep := repW2 G) hR5 hp5 fun w1 st6 J1 H6 ι6 e6 hR6 rJ1 hp6 => ?_)
          obtain ⟨nD6, hD6⟩ := stay e6 nD5 hD5
          have rA6 := rA5.ext e6 hR5.sto.mut
          have f6 := f5.trans e6
          have f16 := f15.trans e6
          -- the inner walk
          refine ⟨fun j k H' => ∃ acc xs ι' st', Ext H ι H' ι' ∧ Ext H1 ι1 H' ι' ∧ Ext2 Dl H6 ι6 H' ι' ∧ StoRep G H' ι' st' ∧ (∀ a, a ∈ ι' → a ∉ ι6 → H6 a = none) ∧ Dl ∉ ι' ∧ H' Dl = some (.lst xs) ∧ RepL G H' ι' acc xs ∧ k = w1.ds.length - j ∧
            post G (repT G H) (fun cls ad H' => W cls ad σ H') H ι Q ((lcGo w1.src g1 mc1 me C (wipeE env3 vs1) (w1.ds.drop j) acc st').bind fun acc st => if acc.length ≤ sizeLine then lc2Go w.src g mc si1 g1 vs1 mc1 me C (wipeE env vs) (w.ds.drop (i + 1)) acc st else .stuck),
            ⟨_, acc, xs, ι6, st6, f6, f16, (Ext.refl _ _).two, hR6.sto, fun a h n => absurd h n, nD6, hD6, rA6, rfl, hp6⟩, fun j k H7 ⟨acc7, xs7, ι7, st7, f7, f17, f67, s7, nw7, nD7, hD7, rA7, ek, hp7⟩ => ?_⟩
          have hR7 : R G σ4 H7 env3 ι7 st7 := hR6.ext2 hD6 f67 s7
          by_cases hj : j < w1.ds.length
          · rw [List.drop_eq_getElem_cons hj] at hp7
            unfold lcGo at hp7
            by_cases hg1 : good w1.src st7 = true
            case neg => rw [if_neg hg1] at hp7; exact hp7.elim
            rw [if_pos hg1] at hp7
            obtain ⟨goj, _⟩ := rJ1 Dl _ hD6 H7 ι7 st7 f67 s7 hg1
            obtain ⟨g3, g4⟩ := goj j w1.ds[j] (by simp [hj])
            refine .inr ⟨g3, fun H' => ∃ acc xs ι' st', Ext H ι H' ι' ∧ Ext H1 ι1 H' ι' ∧ Ext2 Dl H6 ι6 H' ι' ∧ StoRep G H' ι' st' ∧ (∀ a, a ∈ ι' → a ∉ ι6 → H6 a = none) ∧ Dl ∉ ι' ∧ H' Dl = some (.lst xs) ∧ RepL G H' ι' acc xs ∧
              post G (repT G H) (fun cls ad H' => W cls ad σ H') H ι Q ((lcGo w1.src g1 mc1 me C (wipeE env3 vs1) (w1.ds.drop (j + 1)) acc st').bind fun acc st => if acc.length ≤ sizeLine then lc2Go w.src g mc si1 g1 vs1 mc1 me C (wipeE env vs) (w.ds.drop (i + 1)) acc st else .stuck),
              fun H' ⟨acc', xs', ι', st', q1, q2, q3, q4, q5, q6, q7, q8, q9⟩ => ⟨w1.ds.length - (j + 1), by omega, acc', xs', ι', st', q1, q2, q3, q4, q5, q6, q7, q8, rfl, q9⟩, fun x H8 hy8 => ?_⟩
            obtain ⟨eH, r8⟩ := g4 x H8 hy8
            subst eH
            cases eg1 : g1 w1.ds[j] (wipeE env3 vs1) with
            | none => rw [eg1] at hp7; exact hp7.elim
            | some env8 =>
              rw [eg1] at hp7
              dsimp only at hp7
              have hR8 := hR7.wipe vs1
              refine ⟨w1.ds[j], wipeE env3 vs1, ι7, st7, env8, r8, hR8, eg1, fun σ9 hR9 ag9 hl9 => ⟨(wipe_eq (fun i hi => ag9 i fun z => hi (hus1 i z)) hl9).trans wipe_wipe, ?_⟩⟩
              have asc : ∀ {α : Type} (m : Res α) (f : α → Sto → Res (List D)) (k : List D → Sto → Res (List D)), (m.bind f).bind k = m.bind fun a st => (f a st).bind k := fun m f k => by cases m <;> rfl
              rw [asc] at hp7
              refine rG.nox hR9 hp7 fun t st9 t' H9 ι9 e9 hR9' rt hp9 => ?_
              cases rt
              obtain ⟨nD9, hD9⟩ := stay e9 nD7 hD7
              have nw : ∀ {Hb : Hp} {ιb : List Addr}, Ext H8 ι7 Hb ιb → ∀ a, a ∈ ιb → a ∉ ι6 → H6 a = none := fun {Hb ιb} e a ha hn => by
                by_cases hm : a ∈ ι7
                · exact nw7 a hm hn
                · have q := e.new a ha hm
                  cases q6 : H6 a with
                  | none => rfl
                  | some o =>
                    have hda : a ≠ Dl := fun z => by rw [z, hD7] at q; cases q
                    rw [f67.keep a o q6 hn hda] at q; cases q
              cases t with
              | false =>
                simp only [Bool.false_eq_true, if_false] at hp9
                exact iteF ⟨acc7, xs7, ι9, st9, f7.trans e9, f17.trans e9, f67.step e9 nw7, hR9'.sto, nw e9, nD9, hD9, rA7.ext e9 s7.mut, hp9⟩
              | true =>
                simp only [if_true] at hp9
                rw [asc] at hp9
                refine iteT (rG.nox hR9' hp9 fun y st10 v H10 ι10 e10 hR10 ry hp10 => ?_)
                obtain ⟨nD10, hD10⟩ := stay e10 nD9 hD9
                have rA10 := (rA7.ext e9 s7.mut).ext e10 hR9'.sto.mut
                have hlen : (acc7 ++ [y]).length ≤ sizeLine := by
                  rcases lcGo_end (src := w1.src) (g := g1) (c := mc1) (elt := me) (C := C) (env := wipeE env3 vs1) (w1.ds.drop (j + 1)) (acc7 ++ [y]) st10 with h | ⟨a, s, h, l⟩
                  · rw [h] at hp10; exact hp10.elim
                  · rw [h] at hp10
                    simp only [Res.bind_ok] at hp10
                    split at hp10
                    · omega
                    · exact hp10.elim
                rw [List.length_append] at hlen
                simp at hlen
                refine ⟨xs7, hD10, by rw [rA10.length]; omega, acc7 ++ [y], xs7 ++ [v], ι10, st10, ext_own (f7.trans (e9.trans e10)) hHD, ext_own (f17.trans (e9.trans e10)) hDl, ?_, sto_own hR10.sto nD10 hD10, ?_, nD10, upd_same, repL_own (RepL.app rA10 (RepL.one ry)) hD10, hp10⟩
                · exact (f67.step (e9.trans e10) nw7).own
                · exact nw (e9.trans e10)
          · have ed : w1.ds.drop j = [] := List.drop_of_length_le (by omega)
            rw [ed] at hp7
            unfold lcGo at hp7
            split at hp7
            · rename_i hg1
              obtain ⟨_, goj⟩ := rJ1 Dl _ hD6 H7 ι7 st7 f67 s7 hg1
              simp only [Res.bind_ok] at hp7
              split at hp7
              · exact .inl ⟨goj j (by omega), acc7, xs7, ι7, st7, f7, f17, s7, nD7, hD7, rA7, hp7⟩
              · exact hp7.elim
            · exact hp7.elim
    · have ed : w.ds.drop i = [] := List.drop_of_length_le (by omega)
      rw [ed] at hp2
      unfold lc2Go at hp2
      split at hp2
      · rename_i hgd
        obtain ⟨_, go⟩ := rJ H2 ι2 st2 e12 s2 hgd
        refine .inl ⟨go i (by omega), hp2 (.ref Dl) H2 ι2 e2 s2 ⟨Dl, xs, rfl, hD, nD, hHD, rA⟩⟩
      · exact hp2.elim
end
end OH

set_option Elab.async false
set_option linter.all false
set_option maxRecDepth 100000
set_option maxHeartbeats 1000000
/-! OHChn: comprehensions with two for as rules; a op b op c; dicts of texts. -/
namespace OH
open PySem PySem.Spec PyProof.Rows L2
section
variable {G : Gx} {X : Cx} {W : WX} {C : Call}
theorem dt_lc2 {elt tg iter tg1 iter1 : Expr} {ifs ifs1 : List Expr} {scope : Scope} {own : List (Str × Nat)} {pos : Pos} {si si1 : SI} {g g1 : SG} {us us1 vs1 : List Nat} {mc mc1 : SB} {me : SE} (hc : X.calm = true) (hN : X.N.Nodup) (hi : DI G X W C tg iter si) (ok : BlkOk X.N X.env.scope scope own) (hv : ∀ i ∈ vs1, i ∈ own.map (·.2))
    (hus : ∀ i ∈ us, i ∈ own.map (·.2)) (hus1 : ∀ i ∈ us1, i ∈ vs1)
    (hg : ∀ (s : Shared) (H : Hp) (B : Addr) (cl : List (Str × Addr)) (fp : List Addr), DG G (X.blk s H scope (compEnvC scope cl B X.env) fp) tg g us)
    (ht : ∀ (s : Shared) (H : Hp) (B : Addr) (cl : List (Str × Addr)) (fp : List Addr), DTs G (X.blk s H scope (compEnvC scope cl B X.env) fp) WF C ifs mc)
    (hi1 : ∀ (s : Shared) (H : Hp) (B : Addr) (cl : List (Str × Addr)) (fp : List Addr), DI2 G (X.blk s H scope (compEnvC scope cl B X.env) fp) WF C tg1 iter1 si1)
    (hg1 : ∀ (s : Shared) (H : Hp) (B : Addr) (cl : List (Str × Addr)) (fp : List Addr), DG G (X.blk s H scope (compEnvC scope cl B X.env) fp) tg1 g1 us1)
    (ht1 : ∀ (s : Shared) (H : Hp) (B : Addr) (cl : List (Str × Addr)) (fp : List Addr), DTs G (X.blk s H scope (compEnvC scope cl B X.env) fp) WF C ifs1 mc1)
    (he : ∀ (s : Shared) (H : Hp) (B : Addr) (cl : List (Str × Addr)) (fp : List Addr), DE G (X.blk s H scope (compEnvC scope cl B X.env) fp) WF C elt me)
    (hs : ∀ x, foldedSetIterable iter X.env x = pure x := by intro _; rfl) (hs1 : ∀ env x, foldedSetIterable iter1 env x = pure x := by intro _ _; rfl) :
    DT G X W C (.ListComp elt [⟨tg, iter, ifs, 0⟩, ⟨tg1, iter1, ifs1, 0⟩] scope pos) (lLc2 si g (own.map (·.2)) mc si1 g1 vs1 mc1 me) :=
  pe_imp (pe_lc2 hc hN hi ok hv hg ht hi1 hg1 ht1 he hs hs1) fun σ H Q h => lc2_read hus hus1 h
theorem ds_setLc2 {i : Nat} {y : Str} {py : Pos} {elt tg iter tg1 iter1 : Expr} {ifs ifs1 : List Expr} {scope : Scope} {own : List (Str × Nat)} {pos spos : Pos} {si si1 : SI} {g g1 : SG} {us us1 vs1 : List Nat} {mc mc1 : SB} {me : SE} (hc : X.calm = true) (hN : X.N.Nodup) (hy : X.N[i]? = some y) (hyl : X.env.scope.names.lookup y = some .local)
    (hsw : swapsWith (.ListComp elt [⟨tg, iter, ifs, 0⟩, ⟨tg1, iter1, ifs1, 0⟩] scope pos) (some (.Name y py)) spos.line X.env = pure true) (hi : DI G X W C tg iter si) (ok : BlkOk X.N X.env.scope scope own) (hv : ∀ i ∈ vs1, i ∈ own.map (·.2))
    (hus : ∀ i ∈ us, i ∈ own.map (·.2)) (hus1 : ∀ i ∈ us1, i ∈ vs1)
    (hg : ∀ (s : Shared) (H : Hp) (B : Addr) (cl : List (Str × Addr)) (fp : List Addr), DG G (X.blk s H scope (compEnvC scope cl B X.env) fp) tg g us)
    (ht : ∀ (s : Shared) (H : Hp) (B : Addr) (cl : List (Str × Addr)) (fp : List Addr), DTs G (X.blk s H scope (compEnvC scope cl B X.env) fp) WF C ifs mc)
    (hi1 : ∀ (s : Shared) (H : Hp) (B : Addr) (cl : List (Str × Addr)) (fp : List Addr), DI2 G (X.blk s H scope (compEnvC scope cl B X.env) fp) WF C tg1 iter1 si1)
    (hg1 : ∀ (s : Shared) (H : Hp) (B : Addr) (cl : List (Str × Addr)) (fp : List Addr), DG G (X.blk s H scope (compEnvC scope cl B X.env) fp) tg1 g1 us1)
    (ht1 : ∀ (s : Shared) (H : Hp) (B : Addr) (cl : List (Str × Addr)) (fp : List Addr), DTs G (X.blk s H scope (compEnvC scope cl B X.env) fp) WF C ifs1 mc1)
    (he : ∀ (s : Shared) (H : Hp) (B : Addr) (cl : List (Str × Addr)) (fp : List Addr), DE G (X.blk s H scope (compEnvC scope cl B X.env) fp) WF C elt me)
    (hs : ∀ x, foldedSetIterable iter X.env x = pure x := by intro _; rfl) (hs1 : ∀ env x, foldedSetIterable iter1 env x = pure x := by intro _ _; rfl) :
    DS G X W C (.Assign [.Name y py] (.ListComp elt [⟨tg, iter, ifs, 0⟩, ⟨tg1, iter1, ifs1, 0⟩] scope pos) spos) (sSet i (eNew (lLc2 si g (own.map (·.2)) mc si1 g1 vs1 mc1 me))) := by
  refine ps_imp (ps_setLc2 hc hN hy hyl hsw hi ok hv hg ht hi1 hg1 ht1 he hs hs1) fun K σ H ⟨env, ι, st, hR, hp⟩ => ?_
  refine lc2_read (Q := fun x H1 => gName i x σ H1 K.nx) hus hus1 ?_
  refine ⟨env, ι, st, hR, ?_⟩
  unfold sSet eNew at hp
  generalize lLc2 si g (own.map (·.2)) mc si1 g1 vs1 mc1 me C env st = r at hp
  cases r with
  | ok ds st1 =>
    intro v H1 ι1 e s ⟨a, xs, ev, h1, h2, h3, h4⟩
    subst ev
    have hR1 := hR.ext (e.take h3) (s.push (c := .lst ds) h2 ⟨xs, h1, h4.grow _⟩)
    exact hp _ H1 (ι1 ++ [a]) (e.take h3) (hR1.set (d := .ref st1.length) (v := .ref a) ⟨a, by rw [← s.len]; simp, rfl⟩ i)
  | exc c x st1 => exact fun cls ad H1 ι1 e s r1 => hp cls ad σ H1 ι1 e (hR.ext e s) r1
  | stuck => exact hp
/-! ### a op b op c -/
def eChn (f f' : Sto → D → D → Option Bool) (a b c : SE) : SE := fun C env st => (a C env st).bind fun x st => (b C env st).bind fun y st => (Res.of (f st x y) st).bind fun t st =>
  if t then (c C env st).bind fun w st => (Res.of (f' st y w) st).bind fun t st => .ok (.bl t) st else .ok (.bl false) st
theorem de_chn {op op' : CmpOp} {r r' : R2} {f f' : Sto → D → D → Option Bool} {a b c : Expr} {ma mb mc : SE} {pos : Pos} (ho : OpR X (compareOp op) r) (br : Br2 G r (cB f)) (ho' : OpR X (compareOp op') r') (br' : Br2 G r' (cB f')) (ha : DE G X W C a ma) (hb : DE G X W C b mb) (hc : DE G X W C c mc)
    (hm : lastMarks [op, op'] [b, c] = false := by with_unfolding_all rfl) : DE G X W C (.Compare a [op, op'] [b, c] pos) (eChn f f' ma mb mc) :=
  pe_imp (pe_chain ho ho' ha hb hc hm) fun σ H Q ⟨env, ι, st, hR, hp⟩ => sqE hR hp fun x st1 v H1 ι1 e1 hR1 r1 hp1 => sqE hR1 hp1 fun y st2 u H2 ι2 e2 hR2 r2 hp2 => by
    obtain ⟨t, et, hp2⟩ : ∃ t, f st2 x y = some t ∧ post G (Rep G) (fun cls ad H' => W cls ad σ H') H2 ι2 Q (if t then (mc C env st2).bind fun w st => (Res.of (f' st y w) st).bind fun t st => .ok (.bl t) st else .ok (.bl false) st2) := by
      cases h : f st2 x y with
      | none => rw [h] at hp2; exact hp2.elim
      | some t => rw [h] at hp2; exact ⟨t, rfl, hp2⟩
    refine br (fun cls ad H' => W cls ad σ H') H2 ι2 st2 x y v u _ hR2.sto (r1.ext e2 hR1.sto.mut) r2 ?_
    unfold cB
    rw [et]
    intro z H3 ι3 e3 s3 rz
    cases rz
    have hR3 := hR2.ext e3 s3
    refine ⟨t, rfl, ?_⟩
    cases t with
    | false => exact iteF (hp2 (.bl false) H3 ι3 e3 s3 rfl)
    | true =>
      simp only [if_true] at hp2
      refine iteT (sqE (Q := fun w' H4 => r' u w' H4 Q) hR3 (hp2.ext e3) fun w st4 w' H4 ι4 e4 hR4 r4 hp4 => ?_)
      refine br' (fun cls ad H' => W cls ad σ H') H4 ι4 st4 y w u w' Q hR4.sto ((r2.ext e3 hR2.sto.mut).ext e4 s3.mut) r4 ?_
      unfold cB
      cases h : f' st4 y w with
      | none => rw [h] at hp4; exact hp4.elim
      | some b => rw [h] at hp4; exact hp4
end
end OH

set_option Elab.async false
set_option linter.all false
set_option maxRecDepth 100000
set_option maxHeartbeats 1000000
/-! OHDkk: dicts whose keys are numbers and texts. -/
namespace OH
open PySem PySem.Spec PyProof.Rows L2
section
variable {G : Gx} {X : Cx} {W : WX} {C : Call}
theorem mergeK_new : ∀ (kvs acc : List (Key × V)), ((acc ++ kvs).map (·.1)).Nodup → mergeK acc kvs = acc ++ kvs
  | [], acc, _ => by simp [mergeK]
  | p :: kvs, acc, h => by
    have hn : valV acc p.1 = none := by
      cases e : valV acc p.1 with
      | none => rfl
      | some v =>
        unfold valV at e
        obtain ⟨q, h1, _⟩ := Option.map_eq_some_iff.mp e
        have h2 := List.mem_of_find?_eq_some h1
        have h3 : q.1 = p.1 := by simpa using List.find?_some h1
        simp only [List.map_append, List.map_cons] at h
        rw [List.nodup_append] at h
        exact absurd rfl (h.2.2 p.1 (List.mem_map.mpr ⟨q, h2, h3⟩) p.1 (by simp))
    show mergeK (putK acc p.1 p.2) kvs = _
    rw [putK_new p.2 hn, mergeK_new kvs (acc ++ [(p.1, p.2)]) (by simpa using h)]
    simp
/-! ### {"a": "b", ..} -/
def eDispS (ps : List (Str × Str)) : SE := fun _ _ st => .ok (.ref st.length) (st ++ [.dct (ps.map fun p => (.str p.1, .str p.2))])
theorem tPairs_str {σ : L2.St} {H : Hp} {Q : List (V × V) → Hp → Prop} : ∀ (ps : List (Str × Str)), Q (ps.map fun p => (V.str p.1, V.str p.2)) H → tPairs (ps.map fun p => (tC (V.str p.1), tC (V.str p.2))) σ H Q
  | [], h => h
  | p :: ps, h => tPairs_str (Q := fun r H => Q ((V.str p.1, V.str p.2) :: r) H) ps h
theorem zip_map {α β γ : Type} (f : α → β) (g : α → γ) : ∀ l : List α, (l.map f).zip (l.map g) = l.map fun x => (f x, g x)
  | [] => rfl
  | x :: l => by simp [zip_map f g l]
theorem de_dispS {ps : List (Str × Str)} {keys : List (Option Expr)} {values : List Expr} {pos : Pos} (h : PPs X pos keys values (ps.map fun p => (tC (V.str p.1), tC (V.str p.2)))) (hn : (ps.map (·.1)).Nodup) (h15 : ps.length ≤ 15) (hall : keys.all (·.isSome) = true) (hl : keys.length = values.length) (h0 : keys ≠ []) (hk : keys.length ≤ 15) :
    DE G X W C (.Dict keys values pos) (eDispS ps) := pe_imp (pe_disp h hall hl h0 hk) fun σ H Q ⟨env, ι, st, hR, hp⟩ => fun p hp' => by
  refine tPairs_str ps ⟨upd_same, ps.map fun p => (Sum.inr p.1, V.str p.2), by rw [List.map_map]; rfl, by simpa using h15, ?_⟩
  rw [upd_upd, mergeK_new _ [] (by
    rw [List.nil_append, List.map_map]
    have : ((fun x : Key × V => x.1) ∘ fun p : Str × Str => ((Sum.inr p.1, V.str p.2) : Key × V)) = fun p => Sum.inr p.1 := rfl
    rw [this]
    have e : (ps.map fun p => (Sum.inr p.1 : Key)) = (ps.map (·.1)).map Sum.inr := by rw [List.map_map]; rfl
    rw [e]
    exact List.Pairwise.map _ (fun a b hab z => hab (Sum.inr.inj z)) hn), List.nil_append]
  refine hp (.ref p) _ (ι ++ [p]) (ext_take hp') ((hR.sto.fresh hp').push (hR.sto.notin hp') ⟨ps.map fun p => Sum.inr p.1, ps.map fun p => V.str p.2, ?_, by simp, ?_, ?_⟩) ⟨p, by rw [← hR.sto.len]; simp, rfl⟩
  · rw [zip_map]; exact upd_same
  · rw [List.map_map, List.map_map]; rfl
  · rw [List.map_map]
    have : ∀ l : List (Str × Str), RepL G (upd H p (.dK (ps.map fun p => (Sum.inr p.1, V.str p.2)))) (ι ++ [p]) (l.map ((fun x : D × D => x.2) ∘ fun p => (D.str p.1, D.str p.2))) (l.map fun p => V.str p.2) := fun l => by
      induction l with
      | nil => rfl
      | cons x l ih => exact ⟨_, _, rfl, rfl, ih⟩
    exact this ps
/-! ### d[k] -/
def dctAt (st : Sto) (d : D) : Option (Nat × List (D × D)) := match d with
  | .ref i => match st[i]? with | some (.dct kvs) => some (i, kvs) | _ => none
  | _ => none
theorem dctAt_of {st : Sto} {d : D} {i : Nat} {kvs : List (D × D)} (h : dctAt st d = some (i, kvs)) : d = .ref i ∧ st[i]? = some (.dct kvs) := by
  unfold dctAt at h
  split at h
  · split at h
    · rename_i e
      cases h
      exact ⟨rfl, e⟩
    · cases h
  · cases h
@[simp] theorem dctAt_ref {st : Sto} {i : Nat} {kvs : List (D × D)} (h : st[i]? = some (.dct kvs)) : dctAt st (.ref i) = some (i, kvs) := by simp [dctAt, h]
def keyK : D → Option Key
  | .int i => some (.inl i)
  | .str x => some (.inr x)
  | _ => none
theorem keyK_D {d : D} {k : Key} (h : keyK d = some k) : d = keyD k := by
  cases d <;> cases h <;> rfl
theorem keyK_rep {H : Hp} {ι : List Addr} {d : D} {v : V} {k : Key} (h : keyK d = some k) (r : Rep G H ι d v) : v = kV k := by
  cases d <;> cases h <;> cases r <;> rfl
theorem keyD_inj {a b : Key} (h : keyD a = keyD b) : a = b := by
  cases a <;> cases b <;> simp [keyD] at h <;> rw [h]
/-- reading a dict of numbers and texts -/
theorem dct_get {H : Hp} {ι : List Addr} {kvs : List (D × D)} {a : Addr} (c : CellRep G H ι (.dct kvs) a) {d : D} {k : Key} (hk : keyK d = some k) : ∃ (ks : List Key) (vs : List V), H a = some (.dK (ks.zip vs)) ∧ ks.length = vs.length ∧ kvs.map (·.1) = ks.map keyD ∧ RepL G H ι (kvs.map (·.2)) vs ∧
    ((dGet kvs d = none ∧ valV (ks.zip vs) k = none) ∨ ∃ e v, dGet kvs d = some e ∧ valV (ks.zip vs) k = some v ∧ Rep G H ι e v) := by
  obtain ⟨ks, vs, h1, h2, h3, h4⟩ := c
  refine ⟨ks, vs, h1, h2, h3, h4, ?_⟩
  have := keyK_D hk
  subst this
  clear h1 hk
  induction kvs generalizing ks vs with
  | nil =>
    cases ks with
    | nil => exact .inl ⟨rfl, rfl⟩
    | cons => simp at h3
  | cons p kvs ih =>
    cases ks with
    | nil => simp at h3
    | cons x ks =>
      cases vs with
      | nil => simp at h2
      | cons v vs =>
        simp only [List.map_cons, List.cons.injEq] at h3
        obtain ⟨v', w', e, r1, r2⟩ := h4
        cases e
        by_cases hx : x = k
        · subst hx
          exact .inr ⟨p.2, v, dGet_pos h3.1, valV_pos (p := (x, v)) rfl, r1⟩
        · have hx' : ¬ p.1 = keyD k := fun z => hx (keyD_inj (h3.1.symm.trans z))
          rw [dGet_neg hx', List.zip_cons_cons, valV_neg (p := (x, v)) hx]
          exact ih ks vs (by simpa using h2) h3.2 r2
def ixK : Sto → D → D → Res D := fun st x y => match dctAt st x with
  | some (_, kvs) => match dGet kvs y with | some d => if (keyK y).isSome then .ok d st else .stuck | none => .stuck
  | none => .stuck
theorem de_ixK {a i : Expr} {ma mi : SE} {pos : Pos} (hu : X.A.units + 64 < cLine) (ha : DE G X W C a ma) (hi : DE G X W C i mi) (hs : NoSl i := by exact fun _ _ => rfl) : DE G X W C (.Subscript a i pos) (eB2 ixK ma mi) :=
  pe_imp (pe_dget (by omega) ha hi hs) fun σ H Q ⟨env, ι, st, hR, hp⟩ => sqE hR hp fun x st1 v H1 ι1 e1 hR1 r1 hp1 => sqE hR1 hp1 fun y st2 u H2 ι2 e2 hR2 r2 hp2 => by
    unfold ixK at hp2
    split at hp2
    · rename_i j kvs hx
      obtain ⟨rfl, hj⟩ := dctAt_of hx
      split at hp2
      · rename_i d hd
        split at hp2
        · rename_i hk
          obtain ⟨k, hk⟩ := Option.isSome_iff_exists.mp hk
          obtain ⟨a, ha, ev⟩ := r1.ext e2 hR1.sto.mut
          subst ev
          obtain ⟨ks, vs, h1, h2, h3, h4, h5⟩ := dct_get (hR2.sto.cell j _ a hj ha) hk
          rcases h5 with ⟨h5, _⟩ | ⟨e, w, h5, h6, h7⟩
          · rw [hd] at h5; cases h5
          · rw [hd] at h5; cases h5
            refine ⟨a, w, rfl, ?_, hp2.here hR2.sto h7⟩
            rw [← h6, keyK_rep hk r2]
            exact DGet.k h1
        · exact hp2.elim
      · exact hp2.elim
    · exact hp2.elim
/-! ### d.get(k, x) -/
def isDct (st : Sto) (x : D) : Bool := (dctAt st x).isSome
def getK (mo ma mb : SE) : SE := fun C env st => (mo C env st).bind fun x st => if isDct st x then (ma C env st).bind fun y st => (mb C env st).bind fun z st => match dctAt st x with
    | some (_, kvs) => if (keyK y).isSome then .ok ((dGet kvs y).getD z) st else .stuck
    | none => .stuck
  else .stuck
theorem dct_isD {H : Hp} {ι : List Addr} {kvs : List (D × D)} {a : Addr} (c : CellRep G H ι (.dct kvs) a) : IsD H a := by
  obtain ⟨ks, vs, h1, _⟩ := c
  exact .inl ⟨_, .inl h1⟩
theorem de_getK {o a b : Expr} {mo ma mb : SE} {apos cpos : Pos} (hu : X.A.units + 64 < cLine) (ho : DE G X W C o mo) (ha : DE G X W C a ma) (hb : DE G X W C b mb) (M : M2 X o "get" apos a b cpos := by exact ⟨rfl, rfl, rfl, rfl⟩) : DE G X W C (.Call (.Attribute o "get" apos) [a, b] [] cpos) (getK mo ma mb) :=
  pe_imp (pe_dget2 (by omega) ho ha hb M) fun σ H Q ⟨env, ι, st, hR, hp⟩ => sqE hR hp fun x st1 v H1 ι1 e1 hR1 r1 hp1 => by
    split at hp1
    · rename_i hs
      obtain ⟨⟨j, kvs⟩, hs⟩ := Option.isSome_iff_exists.mp hs
      obtain ⟨rfl, hj⟩ := dctAt_of hs
      obtain ⟨p, hpa, ev⟩ := r1
      subst ev
      refine ⟨p, rfl, dct_isD (hR1.sto.cell j _ p hj hpa), sqE hR1 hp1 fun y st2 u H2 ι2 e2 hR2 r2 hp2 => sqE hR2 hp2 fun z st3 w H3 ι3 e3 hR3 r3 hp3 => ?_⟩
      split at hp3
      · rename_i j2 kvs2 hx
        obtain ⟨ej, hj2⟩ := dctAt_of hx
        cases ej
        split at hp3
        · rename_i hk
          obtain ⟨k, hk⟩ := Option.isSome_iff_exists.mp hk
          obtain ⟨ks, vs, h1, h2, h3, h4, h5⟩ := dct_get (hR3.sto.cell j _ p hj2 (e3.get (e2.get hpa))) hk
          have dg := DGet.k (k := k) h1
          rw [← keyK_rep hk r2] at dg
          rcases h5 with ⟨h5, h6⟩ | ⟨e, w', h5, h6, h7⟩
          · rw [h5] at hp3
            exact ⟨_, dg, by rw [h6]; exact hp3.here hR3.sto r3⟩
          · rw [h5] at hp3
            exact ⟨_, dg, by rw [h6]; exact hp3.here hR3.sto h7⟩
        · exact hp3.elim
      · exact hp3.elim
    · exact hp1.elim
end
end OH

set_option Elab.async false
set_option linter.all false
set_option maxRecDepth 100000
set_option maxHeartbeats 1000000
/-! OHWid: a product of two great powers. -/
namespace OH
open PySem PySem.Spec PyProof.Rows L2
section
variable {G : Gx} {X : Cx} {W : WX} {C : Call}
noncomputable def mulWOk (i j : Int) : Bool := tsd (i.natAbs.log2 + j.natAbs.log2 < 1000000)
theorem mulWOk_iff {i j : Int} (h : mulWOk i j = true) : CMulW i j := tsd_of (p := i.natAbs.log2 + j.natAbs.log2 < 1000000) h
noncomputable def mulWR : Sto → D → D → Res D := fun st x y => match x, y with
  | .int i, .int j => if mulWOk i j then .ok (.int (i * j)) st else .stuck
  | _, _ => .stuck
theorem br_mulW : Br2 G (rI CMulW fun i j => .int (i * j)) mulWR := by
  intro W H ι st x y v u Q s rx ry h
  unfold mulWR at h
  split at h
  · cases rx; cases ry
    split at h
    · rename_i hz
      exact ⟨_, _, rfl, rfl, mulWOk_iff hz, h.here s (v := .int _) rfl⟩
    · exact h.elim
  · exact h.elim
theorem de_mulW {a b : Expr} {ma mb : SE} {pos : Pos} (ha : DE G X W C a ma) (hb : DE G X W C b mb) : DE G X W C (.BinOp a .Mult b pos) (eB2 mulWR ma mb) := de_op op_mulW br_mulW ha hb
@[simp] theorem mulWR_int {st : Sto} (i j : Int) : mulWR st (.int i) (.int j) = if mulWOk i j then .ok (.int (i * j)) st else .stuck := rfl
theorem pow45 : powOk 10 45 = true := of_tsd (by decide)
theorem mulW45 : mulWOk (10 ^ 45) (10 ^ 45) = true := of_tsd (wide_mul (i := 10 ^ 45) (j := 10 ^ 45) (a := 150) (b := 150) (by decide +kernel) (by decide +kernel) (by decide) (by decide) (by decide))
end
end OH

set_option Elab.async false
set_option linter.all false
set_option maxRecDepth 100000
set_option maxHeartbeats 1000000
/-! OHExt: o.extend([..]) with the list's meaning given by its text. -/
namespace OH
open PySem PySem.Spec PyProof.Rows L2
section
variable {G : Gx} {X : Cx} {W : WX} {C : Call}
theorem de_extL {o x : Expr} {mo : SE} {l : SL} {apos cpos : Pos} (hK : X.K = G.K) (ho : DE G X W C o mo) (ha : DT G X W C x l)
    (hbase : attributeBase o "extend" X.env (eval o X.env) = eval o X.env := by rfl)
    (hfew : ((backTo cpos (starEach [x] X.env)).all (fun x => !x.1) && (backToKw cpos (keywordEach [] X.env)).all (fun x => x.1.isSome)
      && decide (([x] : List Expr).length + ([] : List Keyword).length + (if ([] : List Keyword).isEmpty then 0 else 1) < 30)) = true := by rfl)
    (hline : (apos.endLine == cpos.line) = true := by rfl) (hs : starEach [x] X.env = (false, eval x X.env) :: starEach [] X.env := by rfl) (hplain : (backTo cpos (starEach [] X.env)).any (·.1) = false := by rfl) :
    DE G X W C (.Call (.Attribute o "extend" apos) [x] [] cpos) (eM extendR mo (lCons (eNew l) lNil)) :=
  de_m hK (pe_bm PySem.F.plainAttrs_list PySem.F.slot_list_extend PySem.F.type_list_extend mt_extend ho (da_cons (de_new ha) da_nil hs) hbase hfew hline hs hplain) brm_extend
theorem de_call0 {k f : Nat} {x : Str} {p pos : Pos} (hF : FnAt X.prog X.w G X.mg X.base C k f x) (hK : X.K = G.K) (hr : Room k X.A) (tk : Takes X W) (hg : Gl X x)
    (hdb : (x == ("__debug__" : Str)) = false := by decide) : DE G X W C (.Call (.Name x p) [] [] pos) (eCall f lNil) := by
  obtain ⟨hm, hk, fd, ps, hok, hb⟩ := hF
  rw [← hK] at hk hok hb
  refine ⟨fun pins s σ H Q I h => ?_⟩
  obtain ⟨env, ι, st, hR, hp⟩ := h
  refine wpAny_Call_Name_kw (ld_glob I hg hm ?_ hdb)
  refine PySem.W.callWith_K0 I.kIn hk ?_
  exact run_fnS hok hr hb (E := WE W) (passAt tk σ) I .nil ⟨[], ι, st, rfl, hR.sto, hp⟩
end
end OH

set_option Elab.async false
set_option linter.all false
set_option maxRecDepth 100000
set_option maxHeartbeats 1000000
/-! OHIter: enumerate and zip over tuples and lists. -/
namespace OH
open PySem PySem.Spec PyProof.Rows L2
section
open AutoSeq1 (wpAny_loadPart')
open Sem (wp)
theorem meets_enumerate_newT (l : Addr) (items : Array Value) (n : Nat) (dct : Option Addr) (sl : Array (Option Value)) :
    Meets (Builtin.«enumerate.__new__» ⟨[.type "enumerate", .ref l], []⟩) (fun _ R s => s.heap.get? l = some { cls := .type "tuple", dict := dct, data := .seq items n, slots := sl } ∧
      R (.ok (.ret (.ref (s.heap.push { cls := .type "tuple_iterator", data := .fields #[.ref l, .int 0 0] }).objs.size)))
        { s with heap := (s.heap.push { cls := .type "tuple_iterator", data := .fields #[.ref l, .int 0 0] }).push { cls := .type "enumerate", data := .fields #[.none, .bool false, .ref s.heap.objs.size, rawInt 0, .none, .none] } }) :=
  .of_wp fun prog w A R s h => by
    obtain ⟨hp, g, d, tk, os⟩ := s; obtain ⟨hl, h⟩ := h
    have hsub := sub_enumerate
    have hL : Heap.IsTuple (Shared.heap ⟨hp, g, d, tk, os⟩) l items := ⟨_, hl, rfl, n, rfl⟩
    wp_walk using wpAny_loadPart' hl
    refine wpAny_stack_any fun st => wpAny_pure ?_
    split
    · rename_i c _ _ _ _ _
      cases (c == Value.type "enumerate")
      · wp_walk using wpAny_loadPart' hl, wpAny_pyIter_tuple hL
        exact ⟨_, rfl, h⟩
      · wp_walk using wpAny_loadPart' hl, wpAny_pyIter_tuple hL
        exact ⟨_, rfl, h⟩
    · wp_walk using wpAny_loadPart' hl, wpAny_pyIter_tuple hL
      exact ⟨_, rfl, h⟩
end
theorem call_enumerate_tuple {prog : Program} {w : World} {A : Around} {E : Value → Shared → Prop} {s : Shared} {l : Addr} {items : Array Value} {Q : Value → Shared → Prop} (hL : s.heap.IsTuple l items)
    (h : ∀ h', IsEnum h' (s.heap.objs.size + 1) s.heap.objs.size 0 .none → h'.IsTupleIter s.heap.objs.size l 0 → h'.objs.size = s.heap.objs.size + 2 →
      (∀ b o, s.heap.get? b = some o → h'.get? b = some o) → Q (.ref (s.heap.objs.size + 1)) { s with heap := h' }) :
    wpAny (model prog w) A (call (.type "enumerate") [.ref l]) Q E s := by
  obtain ⟨⟨c, dct, dt, sl⟩, hl, hc, n, hd⟩ := hL
  replace hc : c = .type "tuple" := hc
  replace hd : dt = .seq items n := hd
  subst hc hd
  refine callType_new F.called_enumerate (by decide) (F.typeCall_enumerate_1 _) (F.newCall_enumerate_1 _) (fun obj => F.args_object_init_2 obj _) F.entry_enumerate_new
    (meets_enumerate_newT l items n dct sl) ⟨hl, ?_⟩
  have hz : (s.heap.push { cls := .type "tuple_iterator", data := .fields #[.ref l, .int 0 0] }).objs.size = s.heap.objs.size + 1 := Heap.size_push ..
  show _ ∧ _
  rw [hz]
  have he : IsEnum ((s.heap.push { cls := .type "tuple_iterator", data := .fields #[.ref l, .int 0 0] }).push
      { cls := .type "enumerate", data := .fields #[.none, .bool false, .ref s.heap.objs.size, rawInt 0, .none, .none] }) (s.heap.objs.size + 1) s.heap.objs.size 0 .none := by
    have := Heap.get?_push_size (s.heap.push { cls := .type "tuple_iterator", data := .fields #[.ref l, .int 0 0] })
      (o := { cls := .type "enumerate", data := .fields #[.none, .bool false, .ref s.heap.objs.size, rawInt 0, .none, .none] }) rfl
    rw [hz] at this; exact this
  refine ⟨⟨_, he, rfl⟩, h _ he ⟨_, Heap.get?_push_of_some _ (Heap.get?_push_size _ rfl), rfl, rfl⟩ (by rw [Heap.size_push, hz]) fun b o x => Heap.get?_push_of_some _ (Heap.get?_push_of_some _ x)⟩
/-- the items of a tuple, drawn -/
theorem draws_tuple {prog : Program} {w : World} {A : Around} (hh : A.handled = none) (it l : Addr) (hne : l ≠ it) (items : Array Value) :
    Draws prog w A it [it, l] items.size (fun i x => items[i]? = some x) (fun i h => h.IsTupleIter it l i ∧ h.IsTuple l items) where
  live := fun i h st => let ⟨⟨o, e, _⟩, _⟩ := st; ⟨o, e⟩
  frame := fun i h h' st k => ⟨st.1.at fun o q => k it (by simp) o q, let ⟨o, e, c⟩ := st.2; ⟨o, k l (by simp) o e, c⟩⟩
  item := fun i s Q E hi st hQ => by
    refine RZ.nextOf_tuple_item st.1 st.2 (x := items[i]) (by simp [hi]) fun h' hit sb => ?_
    exact hQ items[i] h' s.toks (by simp [hi]) ⟨hit, let ⟨o, e, c⟩ := st.2; ⟨o, (sb.2 l hne).trans e, c⟩⟩ sb
  done := fun s Q E st hE => RZ.nextOf_tuple_end hh st.1 st.2 (by simp) fun h' e eb ho => hE h' e eb ho
end OH
namespace OH
open PySem PySem.Spec PyProof.Rows L2
theorem pyNext_enumT_end {prog : Program} {w : World} {A : Around} {E : Value → Shared → Prop} {s : Shared} {e it l : Addr} {i : Nat} {k : Int} {items : Array Value} {old : Value} {Q : Option Value → Shared → Prop} (hh : A.handled = none)
    (he : IsEnum s.heap e it k old) (hit : s.heap.IsTupleIter it l i) (hl : s.heap.IsTuple l items) (hx : items[i]? = none)
    (hQ : ∀ h', Heap.ExtBut it s.heap h' → Q none { s with heap := h' }) : wpAny (model prog w) A (pyNext (.ref e)) Q E s := by
  have hT : s.TypeIs (.ref e) "enumerate" := ⟨_, he, rfl⟩
  unfold pyNext
  refine wpAny_bind (wpAny_attempt (wpAny_callSpecial?_slot (name := Str.ofString "__next__") hT F.slot_enumerate_next
    (wpAny_call_entry F.slot_enumerate_next hT F.entry_enumerate_next ?_ (F.args_enumerate_next_1 _))))
  show wpAny _ _ (field (.ref e) 2 >>= _) _ _ _
  refine wpAny_bind (wpAny_field he rfl (x := .ref it) rfl ?_)
  refine wpAny_bind (RZ.nextOf_tuple_end hh hit hl hx fun h' x he' hx' => ?_)
  obtain ⟨o, ho, hc⟩ := hx'
  refine wpAny_bind (wpAny_isInstance (T := "StopIteration") (b := true) ⟨o, ho, hc⟩ isSubtype_stop ?_)
  exact wpAny_pure (hQ _ he')
/-- the tuple at a, each item in a new pair -/
def IteT (K : PySem.W.Frag) (a : Addr) : L2.It :=
  ⟨fun i H => ∃ (xs : List V) (x : V), SqT K H a xs ∧ xs[i]? = some x, fun i H v H' => ∃ T x, v = .ref T ∧ H T = none ∧ H' = upd H T (.tup [.int (i : Nat), x]) ∧ ∀ xs, SqT K H a xs → xs[i]? = some x, fun i H => ∃ xs : List V, SqT K H a xs ∧ xs.length ≤ i⟩
theorem turn_enumT {P : Program} {w : World} {K : PySem.W.Frag} {elts : List Expr} {kk : Nat} {tpos : Pos} (a e it : Addr) (hai : a ≠ it) (hae : a ≠ e) :
    Turn P w K (.Tuple elts kk tpos) (IteT K a) [e, it] e (fun i h => (∃ old, IsEnum h e it ((i : Nat) : Int) old) ∧ h.IsTupleIter it a i ∧ e ≠ it) where
  mem := by simp
  obj := fun i h st b hb => by
    obtain ⟨⟨old, he⟩, ⟨o, ho, hc, hd⟩, _⟩ := st
    have e' : b = e ∨ b = it := by simpa using hb
    rcases e' with z | z
    · rw [z]; exact ⟨_, he, fun v q => nomatch q⟩
    · rw [z]; exact ⟨o, ho, fun v q => by rw [hd] at q; cases q⟩
  keep := fun i h h' st k => let ⟨⟨old, he⟩, hi, hne⟩ := st; ⟨⟨old, k e (by simp) _ he⟩, hi.at fun o q => k it (by simp) o q, hne⟩
  item := by
    intro X hP hw hK hc i pins s σ H E I hf st hg
    subst hP hw hK
    obtain ⟨⟨old, he⟩, hit, hne⟩ := st
    obtain ⟨xs, x, hq, hx⟩ := hg
    obtain ⟨its, rv, p, hz⟩ := I.tuple hq
    obtain ⟨u, hu, ru⟩ := rv.get hx
    have hel : e < s.heap.objs.size := Heap.lt_size he
    have hil : it < s.heap.objs.size := by obtain ⟨_, q, _⟩ := hit; exact Heap.lt_size q
    have hilt : i < its.toArray.size := by
      have := (List.getElem?_eq_some_iff.mp hu).1
      simpa using this
    refine wpAny_pyNext_enum_itemD (draws_tuple (prog := X.prog) (w := X.w) (A := X.A.in1) (I.ok.hd hc) it a hai its.toArray) he ⟨hit, p⟩ hilt hne (by simp; exact ⟨hne, hae.symm⟩) fun x' h' tk hx' ho hst hT hsz hk => ?_
    have ex : x' = u := by
      have : its.toArray[i]? = some u := by simpa using hu
      rw [this] at hx'; exact (Option.some.inj hx').symm
    subst ex
    refine ⟨_, rfl, wpAny_letOwnedTupleGo_enum (s := { s with heap := h', toks := tk + 1 }) ho fun h'' he' sb => ?_⟩
    have hT2 : h''.get? s.heap.objs.size = some { cls := .type "tuple", data := .seq #[.int i tk, x'] } := (sb.2 _ (Nat.ne_of_gt hel)).trans hT
    have new : ObjOk X.prog X.w (upd H s.heap.objs.size (.tup [.int (i : Nat), x])) h'' s.heap.objs.size (.tup [.int (i : Nat), x]) :=
      ⟨by show 2 ≤ sizeLine; decide, [.int i tk, x'], .cons ⟨_, rfl⟩ (.cons ru .nil), ⟨_, hT2, rfl, _, rfl⟩⟩
    have I1 : L2.Inv X pins σ (upd H s.heap.objs.size (.tup [.int (i : Nat), x])) { s with heap := h'', toks := tk + 1 } :=
      I.turnedNew (ch := [e, it]) (fun b ob hb q => (sb.2 b (fun z => hb (by simp [z]))).trans (hk b ob (fun z => hb (by simp [z])) (fun z => hb (by simp [z])) q)) hf (Nat.le_refl _) new
    refine ⟨.ref s.heap.objs.size, _, I1, rfl, ⟨_, x, rfl, I.hok.fresh (Nat.le_refl _), rfl, fun ys hy => by rw [I.tuple_inj hy hq]; exact hx⟩, ⟨⟨x', ?_⟩, hst.1.at fun o q => (sb.2 it (Ne.symm hne)).trans q, hne⟩, fun b hb => ?_⟩
    · have e1 : ((i + 1 : Nat) : Int) = (i : Int) + 1 := by omega
      rw [e1]; exact he'
    · have hb' : b < s.heap.objs.size := by
        have e' : b = e ∨ b = it := by simpa using hb
        rcases e' with z | z
        · rw [z]; exact hel
        · rw [z]; exact hil
      rw [upd_ne (Nat.ne_of_lt hb')]
      exact (hf b hb).1
  done := by
    intro X hP hw hK hc i pins s σ H E I hf st hg
    subst hP hw hK
    obtain ⟨⟨old, he⟩, hit, hne⟩ := st
    obtain ⟨xs, hq, hx⟩ := hg
    obtain ⟨its, rv, p, hz⟩ := I.tuple hq
    obtain ⟨f0, f1, f2, f3, f4, f5⟩ := hf it (by simp)
    have hl := rv.length
    exact pyNext_enumT_end (I.ok.hd hc) he hit p (by simp; omega) fun h' eb => ⟨rfl, I.turned (t' := s.toks) (fun b o hb q => eb b o hb q) f0 f1 f3 f4 f5⟩
  self := fun A i s Q E st h => let ⟨⟨_, he⟩, _⟩ := st; wpAny_pyIter_enum he h
/-! ### enumerate, zip as iterables -/
section
variable {G : Gx} {X : Cx} {W : WX} {C : Call}
def tEnumA (K : PySem.W.Frag) (ta : TA) : TI := fun σ H R => ta σ H fun vs H1 => ∃ a, vs = [.ref a] ∧ (((∃ xs, SqL K H1 a xs) ∧ R (Ite K a) H1) ∨ ((∃ xs, SqT K H1 a xs) ∧ R (IteT K a) H1))
theorem two_le {n b : Addr} (h : b = n + 1 ∨ b = n) : n ≤ b := by
  rcases h with z | z
  · rw [z]; exact Nat.le_add_right _ _
  · rw [z]; exact Nat.le_refl _
theorem pi_enumA {e : Expr} {ta : TA} {p pos tpos : Pos} {elts : List Expr} {kk : Nat} (hg : Gl X "enumerate") (hm : X.mg "enumerate" = none) (ha : PA X [e] ta) (hs : starEach [e] X.env = [(false, eval e X.env)] := by rfl) :
    PI X (.Tuple elts kk tpos) (.Call (.Name "enumerate" p) [e] [] pos) (tEnumA X.K ta) := by
  refine ⟨fun pins s σ H R I h => ?_⟩
  refine Call_ (ld_blt I hg hm boot_enumerate (PyProof.Rows.callWith_type1 (thn (ha.run pos pins s σ H _ I h) fun us s1 ⟨vs, H1, I1, r1, q1⟩ => ?_) hs rfl))
  obtain ⟨a, ex, q⟩ := q1
  subst ex
  cases r1 with
  | cons r rr =>
    cases rr
    cases r
    rcases q with ⟨⟨xs, hq⟩, q⟩ | ⟨⟨xs, hq⟩, q⟩
    · obtain ⟨its, rv, p', hz⟩ := I1.list hq
      refine call_enumerate_list p'.isList fun h' he hit hsz hk => wpAny_pyIter_enum he ?_
      have I2 : L2.Inv X pins σ H1 { s1 with heap := h' } := I1.kept (t' := s1.toks) hk
      refine ⟨s1.heap.objs.size + 1, [s1.heap.objs.size + 1, s1.heap.objs.size], _, _, H1, rfl, I2, turn_enum a (s1.heap.objs.size + 1) s1.heap.objs.size, ⟨⟨.none, he⟩, hit, Nat.succ_ne_self _⟩, fun b hb => ?_, q⟩
      have hle : s1.heap.objs.size ≤ b := two_le (by simpa using hb)
      exact I1.fpOk hle (I1.hok.fresh hle)
    · obtain ⟨its, rv, p', hz⟩ := I1.tuple hq
      have hlt : a < s1.heap.objs.size := by obtain ⟨o, e, _⟩ := p'; exact Heap.lt_size e
      refine call_enumerate_tuple p' fun h' he hit hsz hk => wpAny_pyIter_enum he ?_
      have I2 : L2.Inv X pins σ H1 { s1 with heap := h' } := I1.kept (t' := s1.toks) hk
      refine ⟨s1.heap.objs.size + 1, [s1.heap.objs.size + 1, s1.heap.objs.size], _, _, H1, rfl, I2, turn_enumT a (s1.heap.objs.size + 1) s1.heap.objs.size (Nat.ne_of_lt hlt) (Nat.ne_of_lt (Nat.lt_succ_of_lt hlt)), ⟨⟨.none, he⟩, hit, Nat.succ_ne_self _⟩, fun b hb => ?_, q⟩
      have hle : s1.heap.objs.size ≤ b := two_le (by simpa using hb)
      exact I1.fpOk hle (I1.hok.fresh hle)
/-- what is walked: the value itself -/
def repWS (G : Gx) : Hp → Hp → List Addr → Wlk → V → Prop := fun _ H ι w v => ∃ a, v = .ref a ∧ (((∃ xs, SqL G.K H a xs) ∧ ∀ H2 ι2 st2, Ext H ι H2 ι2 → StoRep G H2 ι2 st2 → good w.src st2 = true → ∃ xs, SqL G.K H2 a xs ∧ RepL G H2 ι2 w.ds xs) ∨
  ((∃ xs, SqT G.K H a xs) ∧ ∀ H2 ι2 st2, Ext H ι H2 ι2 → StoRep G H2 ι2 st2 → good w.src st2 = true → ∃ xs, SqT G.K H2 a xs ∧ RepL G H2 ι2 w.ds xs))
def DWk (G : Gx) (X : Cx) (W : WX) (C : Call) (e : Expr) (m : SI) : Prop := PE X e (rG G W C (repWS G) m)
theorem dk_of {e : Expr} {m : SE} (h : DE G X W C e m) : DWk G X W C e (siOf m) := pe_imp h fun σ H Q ⟨env, ι, st, hR, hp⟩ => sqE hR hp fun x st1 v H1 ι1 e1 hR1 r1 hp1 => by
  cases x with
  | tup ds =>
    obtain ⟨a, xs, rfl, q, r⟩ := r1
    exact hp1.here hR1.sto ⟨a, rfl, .inr ⟨⟨xs, q⟩, fun H2 ι2 st2 e2 s2 _ => ⟨xs, SqT.ext e2 hR1.sto.mut q, r.ext e2 hR1.sto.mut⟩⟩⟩
  | scr ds =>
    obtain ⟨a, xs, rfl, q, r⟩ := r1
    exact hp1.here hR1.sto ⟨a, rfl, .inl ⟨⟨xs, q.sq⟩, fun H2 ι2 st2 e2 s2 _ => ⟨xs, (SqF.ext e2 hR1.sto.mut q).sq, r.ext e2 hR1.sto.mut⟩⟩⟩
  | ref i =>
    dsimp only at hp1
    split at hp1
    · rename_i ds e
      obtain ⟨a, xs, k1, k2, k3⟩ := hR1.sto.lst e
      obtain ⟨_, k1', rfl⟩ := r1
      rw [k1] at k1'; cases k1'
      refine hp1.here hR1.sto ⟨a, rfl, .inl ⟨⟨xs, SqL.of k2⟩, ?_⟩⟩
      intro H2 ι2 st2 e2 s2 hg
      have hl : lstAt st2 i = some ds := by
        unfold good at hg
        simp only [List.all_cons, List.all_nil, Bool.and_true, decide_eq_true_eq] at hg
        exact hg
      obtain ⟨a2, xs2, j1, j2, j3⟩ := s2.lst hl
      rw [e2.get k1] at j1; cases j1
      exact ⟨xs2, SqL.of j2, j3⟩
    · exact hp1.elim
  | _ => exact hp1.elim
theorem dk_tmp {e : Expr} {l : SL} (h : DT G X W C e l) : DWk G X W C e (siT l) := pe_imp h fun σ H Q ⟨env, ι, st, hR, hp⟩ => by
  refine rG.seq (rep := repT G) hR hp fun ds st1 v H1 ι1 e1 hR1 ⟨a, xs, ev, h1, h2, h3, h4⟩ hp1 => ?_
  subst ev
  exact hp1.here hR1.sto ⟨a, rfl, .inl ⟨⟨xs, SqL.of h1⟩, fun H2 ι2 st2 e2 s2 _ => ⟨xs, SqL.of (e2.keep a _ h1 h2), h4.ext e2 hR1.sto.mut⟩⟩⟩
def enumD (n : Nat) : List D → List D
  | [] => []
  | d :: ds => .tup [.int n, d] :: enumD (n + 1) ds
theorem enumD_get : ∀ {ds : List D} {n i : Nat} {d : D}, (enumD n ds)[i]? = some d → ∃ x, ds[i]? = some x ∧ d = .tup [.int ((n + i : Nat) : Int), x]
  | [], n, i, d, h => by simp [enumD] at h
  | x :: ds, n, 0, d, h => by simp [enumD] at h; exact ⟨x, rfl, by simp [h]⟩
  | x :: ds, n, i + 1, d, h => by
    simp only [enumD, List.getElem?_cons_succ] at h
    obtain ⟨y, h1, h2⟩ := enumD_get h
    exact ⟨y, by simpa using h1, by rw [h2, show n + 1 + i = n + (i + 1) by omega]⟩
theorem enumD_length : ∀ (ds : List D) (n : Nat), (enumD n ds).length = ds.length
  | [], _ => rfl
  | _ :: ds, n => by simp [enumD, enumD_length ds]
def siEnum (a : SI) : SI := fun C env st => (a C env st).bind fun w st => .ok ⟨enumD 0 w.ds, w.src⟩ st
theorem pair_rep {H : Hp} {ι : List Addr} {st : Sto} {T : Addr} {x y : D} {v u : V} (s : StoRep G H ι st) (hT : H T = none) (rx : Rep G H ι x v) (ry : Rep G H ι y u) :
    Ext H ι (upd H T (.tup [v, u])) ι ∧ StoRep G (upd H T (.tup [v, u])) ι st ∧ Rep G (upd H T (.tup [v, u])) ι (.tup [x, y]) (.ref T) :=
  ⟨ext_new hT, s.fresh hT, T, _, rfl, SqT.of upd_same, _, _, rfl, rx.ext (ext_new hT) s.mut, _, _, rfl, ry.ext (ext_new hT) s.mut, rfl⟩
theorem di_enum {e : Expr} {m : SI} {p pos tpos : Pos} {elts : List Expr} {kk : Nat} (hK : X.K = G.K) (hm : X.mg "enumerate" = none) (he : DWk G X W C e m) (hg : Gl X "enumerate" := by rfl) (hs : starEach [e] X.env = [(false, eval e X.env)] := by rfl) (hs2 : starEach [e] X.env = (false, eval e X.env) :: starEach [] X.env := by rfl) :
    DI G X W C (.Tuple elts kk tpos) (.Call (.Name "enumerate" p) [e] [] pos) (siEnum m) := pi_imp (pi_enumA hg hm (pa_cons he pa_nil hs2) hs) fun σ H Q ⟨env, ι, st, hR, hp⟩ => by
  refine rG.seq (rep := repWS G) hR hp fun w st1 v H1 ι1 e1 hR1 ⟨a, ev, q⟩ hp1 => ?_
  subst ev
  rw [hK]
  rcases q with ⟨⟨xs, hq⟩, q⟩ | ⟨⟨xs, hq⟩, q⟩
  · refine ⟨a, rfl, .inl ⟨⟨xs, hq⟩, hp1.here hR1.sto ?_⟩⟩
    intro H2 ι2 st2 e2 s2 hg
    obtain ⟨ys, h1, h2⟩ := q H2 ι2 st2 e2 s2 hg
    refine ⟨fun i d hd => ?_, fun i hi => ⟨ys, h1, by rw [h2.length]; simpa [enumD_length] using hi⟩⟩
    obtain ⟨x, hx, rfl⟩ := enumD_get hd
    obtain ⟨vx, g1, g2⟩ := h2.get hx
    refine ⟨⟨ys, vx, h1, g1⟩, fun z H3 ⟨T, y, ez, hT, eH, hy⟩ => ?_⟩
    subst ez; subst eH
    have := hy ys h1
    rw [g1] at this; cases this
    rw [Nat.zero_add]
    exact pair_rep s2 hT (x := .int i) (v := .int i) rfl g2
  · refine ⟨a, rfl, .inr ⟨⟨xs, hq⟩, hp1.here hR1.sto ?_⟩⟩
    intro H2 ι2 st2 e2 s2 hg
    obtain ⟨ys, h1, h2⟩ := q H2 ι2 st2 e2 s2 hg
    refine ⟨fun i d hd => ?_, fun i hi => ⟨ys, h1, by rw [h2.length]; simpa [enumD_length] using hi⟩⟩
    obtain ⟨x, hx, rfl⟩ := enumD_get hd
    obtain ⟨vx, g1, g2⟩ := h2.get hx
    refine ⟨⟨ys, vx, h1, g1⟩, fun z H3 ⟨T, y, ez, hT, eH, hy⟩ => ?_⟩
    subst ez; subst eH
    have := hy ys h1
    rw [g1] at this; cases this
    rw [Nat.zero_add]
    exact pair_rep s2 hT (x := .int i) (v := .int i) rfl g2
def zipD : List D → List D → List D
  | a :: as, b :: bs => .tup [a, b] :: zipD as bs
  | _, _ => []
theorem zipD_get : ∀ {as bs : List D} {i : Nat} {d : D}, (zipD as bs)[i]? = some d → ∃ x y, as[i]? = some x ∧ bs[i]? = some y ∧ d = .tup [x, y]
  | [], bs, i, d, h => by simp [zipD] at h
  | a :: as, [], i, d, h => by simp [zipD] at h
  | a :: as, b :: bs, 0, d, h => by simp [zipD] at h; exact ⟨a, b, rfl, rfl, h.symm⟩
  | a :: as, b :: bs, i + 1, d, h => by
    simp only [zipD, List.getElem?_cons_succ] at h
    simpa using zipD_get h
theorem zipD_length : ∀ (as bs : List D), (zipD as bs).length = min as.length bs.length
  | [], bs => by simp [zipD]
  | a :: as, [] => by simp [zipD]
  | a :: as, b :: bs => by simp [zipD, zipD_length as bs, Nat.succ_min_succ]
end
end OH

set_option Elab.async false
set_option linter.all false
set_option maxRecDepth 100000
set_option maxHeartbeats 1000000
/-! OHSort: sorted, of a list or a tuple of data. -/
namespace OH
open PySem PySem.Spec PyProof.Rows L2
section
variable {prog : Program} {w : World} {A : Around} {E : Value → Shared → Prop} {s : Shared}
/-- the items of a list or tuple, gathered -/
theorem collect_seq {l : Addr} {T : String} {vs : List Value} {n : Nat} {o : Obj} {Q : List Value → Shared → Prop} (hT : T = "list" ∨ T = "tuple") (ho : s.heap.get? l = some o) (hc : o.cls = .type T) (hd : o.data = .seq vs.toArray n) (hz : vs.length ≤ sizeLine)
    (h : Q vs { s with heap := (s.heap.push (seqObj "list" #[] 0)).update s.heap.objs.size (Obj.mapSeq (· ++ vs.toArray)) }) : wpAny (model prog w) A (collect (.ref l)) Q E s := by
  have at0 : (s.heap.push (seqObj "list" #[] 0)).get? s.heap.objs.size = some (seqObj "list" #[] 0) := Heap.get?_push_size _ rfl
  have at1 : (s.heap.push (seqObj "list" #[] 0)).get? l = some o := Heap.get?_push_of_some _ ho
  have ht : ((Value.type T == Value.type "list") || (Value.type T == Value.type "tuple")) = true := by rcases hT with rfl | rfl <;> rfl
  unfold collect
  apply wpAny_bind
  apply wpAny_runValue
  refine codeAny_builtin entry_proto_collect' (wpAny_bind (wpAny_newList (wpAny_pure ⟨Code.quiet_builtin _ (by decide +kernel), codeAny_builtin entry_list_iadd' ?_⟩)))
  show wpAny _ _ (Builtin.List.listExtendWith (.ref s.heap.objs.size) (.ref l) (.ref s.heap.objs.size)) _ _ { s with heap := s.heap.push (seqObj "list" #[] 0) }
  unfold Builtin.List.listExtendWith
  refine wpAny_bind (wpAny_typeOf (T := T) ⟨o, at1, hc⟩ ?_)
  rw [if_pos (by rw [Bool.or_assoc, ht, Bool.or_true])]
  refine wpAny_bind (listItems_at at1 hd (wpAny_bind (listItems_at at0 rfl ?_)))
  rw [if_neg (by simp)]
  have hz2 : ((#[] : Array Value) ++ vs.toArray).size ≤ sizeLine + 1 := by simp; omega
  refine wpAny_bind (listUpdate_at at0 rfl (wpAny_pure ?_) (Nat.zero_le _) hz2)
  refine wpAny_bind (wpAny_load (get?_update_seq at0 _) ?_)
  have e : ((#[] : Array Value) ++ vs.toArray).toList = vs := by simp
  show wpAny _ _ (pure (((#[] : Array Value) ++ vs.toArray).toList)) Q E _
  rw [e]
  exact wpAny_pure h
open PySem.W in
/-- sorted of a list or tuple of data -/
theorem sorted_seq {β : Type} {l : Addr} {T : String} {vs : List Value} {bs : List β} {enc : β → PyData} {R : Value → β → Prop} {n : Nat} {o : Obj} {Q : Value → Shared → Prop} (hT : T = "list" ∨ T = "tuple") (ho : s.heap.get? l = some o) (hc : o.cls = .type T) (hd : o.data = .seq vs.toArray n)
    (e : EachIs R vs bs) (er : EachIs (fun v b => ∃ as, Reads s.heap v (enc b) as) vs bs) (hal : AllAlike (bs.map enc)) (hk : Sortable (bs.map enc)) (hL : bs.length ≤ sizeLine) (hu : ∀ b, b ∈ bs → A.units + 2 + (enc b).depth < cLine)
    (h : ∀ out, out.length = bs.length → EachIs R out (bs.mergeSort (dataLe false enc)) → Q (.ref (s.heap.objs.size + 1)) { s with heap := sortedAll s.heap vs (List.toArray out) }) : wpAny (model prog w) A (call (.builtin "sorted") [.ref l]) Q E s := by
  have hz : vs.length ≤ sizeLine := by rw [e.length]; exact hL
  have er2 : EachIs (fun v b => ∃ as, Reads (sortingHeap (copyHeap s.heap vs) (s.heap.objs.size + 1) vs) v (enc b) as) vs bs := er.mono fun _ _ ⟨as, r⟩ => ⟨as, PyProof.Rows.Reads.keeps (fun _ _ => sorting_copy_old) r⟩
  have S := SortsAt.data (prog := prog) (w := w) (A := A.in1.in1) (s := { s with heap := sortingHeap (copyHeap s.heap vs) (s.heap.objs.size + 1) vs }) (each_map (R := fun v d => ∃ as, Reads (sortingHeap (copyHeap s.heap vs) (s.heap.objs.size + 1) vs) v d as) enc er2) hal hk (bound_map hu)
  have fin := h _ (by rw [sortVals_length false rfl]; exact e.length) (sortVals_data false e er2 hal)
  have size1 : ((s.heap.push (seqObj "list" #[] 0)).update s.heap.objs.size (Obj.mapSeq (· ++ vs.toArray))).objs.size = s.heap.objs.size + 1 := (Heap.size_update ..).trans (size_push' ..)
  refine call_function_entry_kw kind_sorted plain_sorted entry_sorted (args_sorted1 _) ?_
  unfold Builtin.«sorted»
  refine wpAny_bind (m := checkCount "sorted" 1 1 _) (wpAny_pure (wpAny_bind (collect_seq hT ho hc hd hz (wpAny_bind (wpAny_newList ?_ hz)))))
  show wpAny (model prog w) _ _ _ _ { s with heap := copyHeap s.heap vs }
  rw [size1]
  refine wpAny_bind (wpAny_holding (wpAny_call_entry_kw slot_list_sort ⟨_, copyHeap_at s.heap vs, rfl⟩ entry_list_sort ?body (args_list_sort _)))
  exact wpAny_mono (list_sort_vals (P := fun f s' => f = .done (.ret .none) ∧ Q (.ref (s.heap.objs.size + 1)) s') (s := { s with heap := copyHeap s.heap vs }) (copyHeap_at s.heap vs) S hz ⟨rfl, fin⟩)
    (fun f s' hf => by obtain ⟨rfl, hq⟩ := hf; exact ⟨_, rfl, wpAny_pure ⟨_, rfl, hq⟩⟩) fun _ _ e => e
end
open PySem.W (dataLe AllAlike Sortable EachIs)
/-- a datum as the model's data -/
def encD (d : D) : PyData := (datP (fun _ => none) d).getD .none
def leS : D → D → Bool := dataLe false encD
def SortOk (ds : List D) : Prop := (∀ d, d ∈ ds → (datP (fun _ => none) d).isSome = true) ∧ AllAlike (ds.map encD) ∧ Sortable (ds.map encD) ∧ ∀ d, d ∈ ds → (encD d).depth ≤ 20
open Classical in
noncomputable def sortO (ds : List D) : Option (List D) := if SortOk ds then some (ds.mergeSort leS) else none
noncomputable def lSorted (l : SL) : SL := lMap (fun _ => sortO) l
theorem encD_rep {G : Gx} {H : Hp} {ι : List Addr} {d : D} {v : V} (h : (datP (fun _ => none) d).isSome = true) (r : Rep G H ι d v) : Dp G.K H v (encD d) := by
  obtain ⟨p, e⟩ := Option.isSome_iff_exists.mp h
  unfold encD
  rw [e]
  exact datP_rep (fun _ _ _ z => by cases z) r e
/-- sorted(xs): ds, vs say what xs holds -/
def rSortD (G : Gx) : List V → Hp → VK → Prop := fun vs H Q => ∃ (a : Addr) (ι : List Addr) (ds : List D) (xs : List V), vs = [V.ref a] ∧ (SqL G.K H a xs ∨ SqT G.K H a xs) ∧ RepL G H ι ds xs ∧ SortOk ds ∧
  ∀ ys p, RepL G H ι (ds.mergeSort leS) ys → H p = none → Q (.ref p) (upd H p (.lst ys))
theorem repL_pairs {G : Gx} {H : Hp} {ι : List Addr} : ∀ {ps : List (D × V)}, (∀ p, p ∈ ps → Rep G H ι p.1 p.2) → RepL G H ι (ps.map (·.1)) (ps.map (·.2))
  | [], _ => rfl
  | p :: ps, h => ⟨p.2, ps.map (·.2), rfl, h p List.mem_cons_self, repL_pairs fun q hq => h q (List.mem_cons_of_mem _ hq)⟩
theorem repL_zip {G : Gx} {H : Hp} {ι : List Addr} : ∀ {ds : List D} {xs : List V}, RepL G H ι ds xs → (∀ p, p ∈ ds.zip xs → Rep G H ι p.1 p.2) ∧ (ds.zip xs).map (·.1) = ds ∧ (ds.zip xs).map (·.2) = xs
  | [], xs, h => by cases h; exact ⟨fun p hp => absurd hp (by simp), rfl, rfl⟩
  | d :: ds, xs, ⟨v, r, e, h1, h2⟩ => by
    subst e
    obtain ⟨k1, k2, k3⟩ := repL_zip h2
    refine ⟨fun p hp => ?_, by simp [k2], by simp [k3]⟩
    rw [List.zip_cons_cons] at hp
    rcases List.mem_cons.mp hp with rfl | hp
    · exact h1
    · exact k1 p hp
theorem each_pairs {P : Value → D × V → Prop} : ∀ {ps : List (D × V)} {us : List Value}, Vals (ps.map (·.2)) us → (∀ p u, p ∈ ps → RelV p.2 u → P u p) → EachIs P us ps
  | [], us, h, _ => by cases h; exact .nil
  | p :: ps, us, h, hp => by
    cases h with
    | cons h1 h2 => exact .cons (hp p _ List.mem_cons_self h1) (each_pairs h2 fun q u hq => hp q u (List.mem_cons_of_mem _ hq))
theorem vals_each : ∀ {ps : List (D × V)} {us : List Value}, EachIs (fun u p => RelV p.2 u) us ps → Vals (ps.map (·.2)) us
  | _, _, .nil => .nil
  | _, _, .cons h1 t => .cons h1 (vals_each t)
theorem cr_sortD {G : Gx} {X : Cx} {k : Nat} (hK : X.K = G.K) (hr : Room k X.A) : CallR X (.builtin "sorted") (rSortD G) := by
  intro pins s σ H vs us Q I r h
  obtain ⟨a, ι, ds, xs, rfl, hs, rx, ⟨o1, o2, o3, o4⟩, q⟩ := h
  rw [Vals.ref1 r]
  obtain ⟨k1, k2, k3⟩ := repL_zip rx
  have hu := hr.un
  have key : ∀ (its : List Value) (T : String) (n : Nat) (o : Obj), (T = "list" ∨ T = "tuple") → s.heap.get? a = some o → o.cls = .type T → o.data = .seq its.toArray n → Vals xs its → xs.length ≤ sizeLine → wpAny (model X.prog X.w) X.A (call (.builtin "sorted") [.ref a]) (EP X pins σ Q) X.xe s := by
    intro its T n o hT ho hc hd rv hz
    have rv' : Vals ((ds.zip xs).map (·.2)) its := by rw [k3]; exact rv
    have em : (ds.zip xs).map (fun p => encD p.1) = ds.map encD := by rw [← k2, List.map_map]; simp [k2, Function.comp_def]
    have md : ∀ p, p ∈ ds.zip xs → p.1 ∈ ds := fun p hp => by rw [← k2]; exact List.mem_map.mpr ⟨p, hp, rfl⟩
    refine sorted_seq (β := D × V) (bs := ds.zip xs) (enc := fun p => encD p.1) (R := fun u p => RelV p.2 u) hT ho hc hd (each_pairs rv' fun _ _ _ h => h)
      (each_pairs rv' fun p u hp ru => Dp.reads I _ _ _ (by rw [hK]; exact encD_rep (o1 p.1 (md p hp)) (k1 p hp)) ru) (by rw [em]; exact o2) (by rw [em]; exact o3) ?_ (fun p hp => ?_) fun out hl ho' => ?_
    · have := rx.length
      rw [List.length_zip]
      omega
    · have := o4 p.1 (md p hp)
      show X.A.units + 2 + (encD p.1).depth < _
      omega
    · have e1 : ((ds.zip xs).mergeSort (dataLe false fun p => encD p.1)).map (·.1) = ds.mergeSort leS := by
        refine (List.map_mergeSort (r := dataLe false fun p : D × V => encD p.1) (s := leS) (f := fun p : D × V => p.1) (l := ds.zip xs) (fun _ _ _ _ => rfl)).trans ?_
        rw [k2]
      have rr := repL_pairs (G := G) (H := H) (ι := ι) (ps := (ds.zip xs).mergeSort (dataLe false fun p => encD p.1)) fun p hp => k1 p (List.mem_mergeSort.mp hp)
      rw [e1] at rr
      obtain ⟨ep, he⟩ := PyProof.Rows.sortedAll_at s.heap its out.toArray
      have hv := vals_each ho'
      have hlen : (((ds.zip xs).mergeSort (dataLe false fun p => encD p.1)).map (·.2)).length ≤ sizeLine := by
        rw [List.length_map, List.length_mergeSort, List.length_zip]
        omega
      exact ⟨.ref _, upd H (s.heap.objs.size + 1) (.lst (((ds.zip xs).mergeSort (dataLe false fun p => encD p.1)).map (·.2))), I.laid (t' := s.toks) (fun _ _ => PyProof.Rows.sortedAll_old) (Nat.le_succ _) ⟨hlen, out, ep, hv, he⟩, rfl, q _ _ rr (I.hok.fresh (Nat.le_succ _))⟩
  rw [← hK] at hs
  rcases hs with hs | hs
  · obtain ⟨its, rv, hl, hz⟩ := I.list hs
    obtain ⟨o, ho, hc, n, hd⟩ := hl.isList
    exact key its "list" n o (.inl rfl) ho hc hd rv hz
  · obtain ⟨its, rv, hl, hz⟩ := I.tuple hs
    obtain ⟨o, ho, hc, n, hd⟩ := hl
    exact key its "tuple" n o (.inr rfl) ho hc hd rv hz
theorem dt_sorted {G : Gx} {X : Cx} {W : WX} {C : Call} {e : Expr} {l : SL} (h : PE X e (tCB (rSortD G) (tCons (tS G W C l) tNil))) : DT G X W C e (lSorted l) :=
  dt_cQ h fun H ι st ds es a xs Q s q r e k => by
    unfold sortO at e
    split at e
    · rename_i ok
      cases e
      exact ⟨a, ι, ds, xs, rfl, q, r, ok, k⟩
    · cases e
end OH

set_option Elab.async false
set_option linter.all false
set_option maxRecDepth 100000
set_option maxHeartbeats 1000000
/-! OHZip: zip of two lists or two tuples. -/
namespace OH
open PySem PySem.Spec PyProof.Rows L2
section
variable {G : Gx} {X : Cx} {W : WX} {C : Call}
/-- what is walked, and whether it is a list -/
abbrev SK := Call → Env → Sto → Res (Bool × Wlk)
def kOf (m : SE) : SK := fun C env st => (m C env st).bind fun x st => match x with
  | .tup ds => .ok (false, ⟨ds, []⟩) st
  | .scr ds => .ok (true, ⟨ds, []⟩) st
  | .ref i => match lstAt st i with | some ds => .ok (true, ⟨ds, [(i, ds)]⟩) st | none => .stuck
  | _ => .stuck
def kT (l : SL) : SK := fun C env st => (l C env st).bind fun ds st => .ok (true, ⟨ds, []⟩) st
def SqK (K : PySem.W.Frag) (k : Bool) (H : Hp) (a : Addr) (xs : List V) : Prop := if k then SqL K H a xs else SqT K H a xs
def repWK (G : Gx) : Hp → Hp → List Addr → Bool × Wlk → V → Prop := fun _ H ι w v => ∃ a, v = .ref a ∧ ∀ H2 ι2 st2, Ext H ι H2 ι2 → StoRep G H2 ι2 st2 → good w.2.src st2 = true → ∃ xs, SqK G.K w.1 H2 a xs ∧ RepL G H2 ι2 w.2.ds xs
def DK (G : Gx) (X : Cx) (W : WX) (C : Call) (e : Expr) (m : SK) : Prop := PE X e (rG G W C (repWK G) m)
theorem kk_of {e : Expr} {m : SE} (h : DE G X W C e m) : DK G X W C e (kOf m) := pe_imp h fun σ H Q ⟨env, ι, st, hR, hp⟩ => sqE hR hp fun x st1 v H1 ι1 e1 hR1 r1 hp1 => by
  cases x with
  | tup ds =>
    obtain ⟨a, xs, rfl, q, r⟩ := r1
    exact hp1.here hR1.sto ⟨a, rfl, fun H2 ι2 st2 e2 s2 _ => ⟨xs, SqT.ext e2 hR1.sto.mut q, r.ext e2 hR1.sto.mut⟩⟩
  | scr ds =>
    obtain ⟨a, xs, rfl, q, r⟩ := r1
    exact hp1.here hR1.sto ⟨a, rfl, fun H2 ι2 st2 e2 s2 _ => ⟨xs, (SqF.ext e2 hR1.sto.mut q).sq, r.ext e2 hR1.sto.mut⟩⟩
  | ref i =>
    dsimp only at hp1
    split at hp1
    · rename_i ds e
      obtain ⟨a, xs, k1, k2, k3⟩ := hR1.sto.lst e
      obtain ⟨_, k1', rfl⟩ := r1
      rw [k1] at k1'; cases k1'
      refine hp1.here hR1.sto ⟨a, rfl, fun H2 ι2 st2 e2 s2 hg => ?_⟩
      have hl : lstAt st2 i = some ds := by
        unfold good at hg
        simp only [List.all_cons, List.all_nil, Bool.and_true, decide_eq_true_eq] at hg
        exact hg
      obtain ⟨a2, xs2, j1, j2, j3⟩ := s2.lst hl
      rw [e2.get k1] at j1; cases j1
      exact ⟨xs2, SqL.of j2, j3⟩
    · exact hp1.elim
  | _ => exact hp1.elim
theorem kk_tmp {e : Expr} {l : SL} (h : DT G X W C e l) : DK G X W C e (kT l) := pe_imp h fun σ H Q ⟨env, ι, st, hR, hp⟩ => by
  refine rG.seq (rep := repT G) hR hp fun ds st1 v H1 ι1 e1 hR1 ⟨a, xs, ev, h1, h2, h3, h4⟩ hp1 => ?_
  subst ev
  exact hp1.here hR1.sto ⟨a, rfl, fun H2 ι2 st2 e2 s2 _ => ⟨xs, SqL.of (e2.keep a _ h1 h2), h4.ext e2 hR1.sto.mut⟩⟩
def siZip (a b : SK) : SI := fun C env st => (a C env st).bind fun w st => (b C env st).bind fun u st => if (w.1 == u.1) && good w.2.src st && good u.2.src st then .ok ⟨zipD w.2.ds u.2.ds, w.2.src ++ u.2.src⟩ st else .stuck
theorem di_zip {e e2 : Expr} {m m2 : SK} {p pos tpos : Pos} {elts : List Expr} {kk : Nat} (hK : X.K = G.K) (hm : X.mg "zip" = none) (h1 : DK G X W C e m) (h2 : DK G X W C e2 m2) (hg : Gl X "zip" := by rfl)
    (hpl : (backTo pos (starEach [e2] X.env)).any (·.1) = false := by rfl) (ht1 : starEach [e, e2] X.env = (false, eval e X.env) :: starEach [e2] X.env := by rfl) (ht2 : starEach [e2] X.env = (false, eval e2 X.env) :: starEach [] X.env := by rfl) :
    DI G X W C (.Tuple elts kk tpos) (.Call (.Name "zip" p) [e, e2] [] pos) (siZip m m2) := pi_imp (RZ.pi_zipA hg hm (pa_cons h1 (pa_cons h2 pa_nil ht2) ht1) ht1 hpl) fun σ H Q ⟨env, ι, st, hR, hp⟩ => by
  refine rG.seq (rep := repWK G) hR hp fun w st1 v H1 ι1 e1 hR1 ⟨a, ev, q1⟩ hp1 => ?_
  refine rG.seq (rep := repWK G) hR1 hp1 fun u st2 v2 H2 ι2 e2' hR2 ⟨b, ev2, q2⟩ hp2 => ?_
  subst ev ev2
  rw [hK]
  by_cases hc : ((w.1 == u.1) && good w.2.src st2 && good u.2.src st2) = true
  · rw [if_pos hc] at hp2
    simp only [Bool.and_eq_true, beq_iff_eq] at hc
    obtain ⟨⟨hk, g1⟩, g2⟩ := hc
    obtain ⟨xs, x1, x2⟩ := q1 H2 ι2 st2 e2' hR2.sto g1
    obtain ⟨ys, y1, y2⟩ := q2 H2 ι2 st2 (Ext.refl _ _) hR2.sto g2
    have key : ∀ H3 ι3 st3, Ext H2 ι2 H3 ι3 → StoRep G H3 ι3 st3 → good (w.2.src ++ u.2.src) st3 = true → ∃ xs ys, SqK G.K w.1 H3 a xs ∧ RepL G H3 ι3 w.2.ds xs ∧ SqK G.K w.1 H3 b ys ∧ RepL G H3 ι3 u.2.ds ys := fun H3 ι3 st3 e3 s3 g3 => by
      unfold good at g3
      rw [List.all_append, Bool.and_eq_true] at g3
      obtain ⟨xs, x1, x2⟩ := q1 H3 ι3 st3 (e2'.trans e3) s3 g3.1
      obtain ⟨ys, y1, y2⟩ := q2 H3 ι3 st3 e3 s3 g3.2
      rw [← hk] at y1
      exact ⟨xs, ys, x1, x2, y1, y2⟩
    rw [← hk] at y1
    refine ⟨a, b, xs, ys, rfl, ?_⟩
    unfold SqK at x1 y1 key
    by_cases hl : w.1 = true
    · simp only [if_pos hl] at x1 y1 key
      refine .inl ⟨x1, y1, hp2.here hR2.sto ?_⟩
      intro H3 ι3 st3 e3 s3 hg
      obtain ⟨xs, ys, x1, x2, y1, y2⟩ := key H3 ι3 st3 e3 s3 hg
      refine ⟨fun i d hd => ?_, fun i hi => ⟨xs, ys, x1, y1, by rw [x2.length, y2.length]; rw [zipD_length] at hi; omega⟩⟩
      obtain ⟨x, y, hx, hy, rfl⟩ := zipD_get hd
      obtain ⟨vx, gx, rx⟩ := x2.get hx
      obtain ⟨vy, gy, ry⟩ := y2.get hy
      refine ⟨⟨xs, ys, vx, vy, x1, y1, gx, gy⟩, fun z H4 ⟨T, x', y', ez, hT, eH, hx', hy'⟩ => ?_⟩
      subst ez; subst eH
      have a1 := hx' xs x1
      have a2 := hy' ys y1
      rw [gx] at a1; rw [gy] at a2; cases a1; cases a2
      exact pair_rep s3 hT rx ry
    · simp only [if_neg hl] at x1 y1 key
      refine .inr ⟨x1, y1, hp2.here hR2.sto ?_⟩
      intro H3 ι3 st3 e3 s3 hg
      obtain ⟨xs, ys, x1, x2, y1, y2⟩ := key H3 ι3 st3 e3 s3 hg
      refine ⟨fun i d hd => ?_, fun i hi => ⟨xs, ys, x1, y1, by rw [x2.length, y2.length]; rw [zipD_length] at hi; omega⟩⟩
      obtain ⟨x, y, hx, hy, rfl⟩ := zipD_get hd
      obtain ⟨vx, gx, rx⟩ := x2.get hx
      obtain ⟨vy, gy, ry⟩ := y2.get hy
      refine ⟨⟨xs, ys, vx, vy, x1, y1, gx, gy⟩, fun z H4 ⟨T, x', y', ez, hT, eH, hx', hy'⟩ => ?_⟩
      subst ez; subst eH
      have a1 := hx' xs x1
      have a2 := hy' ys y1
      rw [gx] at a1; rw [gy] at a2; cases a1; cases a2
      exact pair_rep s3 hT rx ry
  · rw [if_neg hc] at hp2
    exact hp2.elim
end
end OH

set_option Elab.async false
set_option linter.all false
set_option maxRecDepth 100000
set_option maxHeartbeats 1000000
/-! OHZipM: zip of any two sources that step; of a list and a tuple. -/
namespace OH
open PySem PySem.Spec PyProof.Rows L2
/-- a source that is asked for its next item: its iterator it walks items; I tells how far, S what of l is read -/
structure Stp (prog : Program) (w : World) (it l : Addr) (items : Array Value) (I : Nat → Heap → Prop) (S : Heap → Prop) : Prop where
  keepI : ∀ {k : Nat} {h h' : Heap}, I k h → (∀ o, h.get? it = some o → h'.get? it = some o) → I k h'
  keepS : ∀ {h h' : Heap}, S h → (∀ o, h.get? l = some o → h'.get? l = some o) → S h'
  size : ∀ {k : Nat} {h : Heap}, I k h → it < h.objs.size
  item : ∀ {A : Around} {E : Value → Shared → Prop} {s : Shared} {k : Nat} {x : Value} {Q : Value → Shared → Prop}, I k s.heap → S s.heap → items[k]? = some x →
    (∀ h', I (k + 1) h' → Heap.SameBut it s.heap h' → Q x { s with heap := h' }) → wpAny (model prog w) A (Builtin.SmallTypes.nextOf (.ref it)) Q E s
  stop : ∀ {A : Around} {E : Value → Shared → Prop} {s : Shared} {k : Nat} {Q : Value → Shared → Prop}, A.handled = none → I k s.heap → S s.heap → items[k]? = none →
    (∀ h' e, Heap.ExtBut it s.heap h' → (∃ o, h'.get? e = some o ∧ o.cls = .type "StopIteration") → E (.ref e) { s with heap := h' }) → wpAny (model prog w) A (Builtin.SmallTypes.nextOf (.ref it)) Q E s
theorem stp_list {prog : Program} {w : World} {it l : Addr} {items : Array Value} : Stp prog w it l items (fun k h => h.IsListIter it l k) (fun h => h.IsList l items) where
  keepI := fun h k => h.at k
  keepS := fun ⟨o, e, r⟩ k => ⟨o, k o e, r⟩
  size := fun ⟨_, e, _⟩ => Heap.lt_size e
  item := fun h s e q => wpAny_nextOf_list_item h s e q
  stop := fun hh h s e q => wpAny_nextOf_list_end hh h s e q
theorem stp_tuple {prog : Program} {w : World} {it l : Addr} {items : Array Value} : Stp prog w it l items (fun k h => h.IsTupleIter it l k) (fun h => h.IsTuple l items) where
  keepI := fun h k => h.at k
  keepS := fun ⟨o, e, r⟩ k => ⟨o, k o e, r⟩
  size := fun ⟨_, e, _⟩ => Heap.lt_size e
  item := fun h s e q => RZ.nextOf_tuple_item h s e q
  stop := fun hh h s e q => RZ.nextOf_tuple_end hh h s e q
/-- what a turn of zip leaves: all but its own four objects -/
abbrev Rest (z TO i1 i2 : Addr) (h h' : Heap) : Prop := ∀ c o, c ≠ z → c ≠ TO → c ≠ i1 → c ≠ i2 → h.get? c = some o → h'.get? c = some o
section
variable {prog : Program} {w : World} {A : Around} {E : Value → Shared → Prop} {s : Shared} {z TI TO i1 i2 l1 l2 : Addr} {k1 k2 : Nat} {xs ys : Array Value} {I1 I2 : Nat → Heap → Prop} {S1 S2 : Heap → Prop} {x y a b : Value}
theorem mz_item {Q : Value → Shared → Prop} (D : ZipApart z TI TO i1 i2 l1 l2) (Z1 : Stp prog w i1 l1 xs I1 S1) (Z2 : Stp prog w i2 l2 ys I2 S2)
    (hz : IsZip s.heap z TI TO .none) (hTI : IsPair s.heap TI (.ref i1) (.ref i2)) (hTO : IsPair s.heap TO a b) (h1 : I1 k1 s.heap) (h2 : I2 k2 s.heap) (q1 : S1 s.heap) (q2 : S2 s.heap) (hx : xs[k1]? = some x) (hy : ys[k2]? = some y)
    (hQ : ∀ h', IsZip h' z TI TO (rawInt s.heap.objs.size) → IsPair h' TO x y → I1 (k1 + 1) h' → I2 (k2 + 1) h' → IsPair h' s.heap.objs.size x y → h'.objs.size = s.heap.objs.size + 1 → Rest z TO i1 i2 s.heap h' → Q (.ref s.heap.objs.size) { s with heap := h' }) :
    wpAny (model prog w) A (Builtin.«zip.__next__» ⟨[.ref z], []⟩) (fun fin s' => ∃ v, fin = .done (.ret v) ∧ Q v s') E s := by
  show wpAny _ _ (field (.ref z) 2 >>= _) _ _ _
  refine wpAny_bind (wpAny_field hz rfl (x := .bool false) rfl ?_)
  show wpAny _ _ (field (.ref z) 3 >>= _) _ _ _
  refine wpAny_bind (wpAny_field hz rfl (x := .ref TI) rfl (wpAny_bind (wpAny_seqItems hTI rfl ?_)))
  show wpAny _ _ (Builtin.SmallTypes.ownedTupleIsFree (.ref z) >>= _) _ _ _
  unfold Builtin.SmallTypes.ownedTupleIsFree
  refine wpAny_bind (wpAny_bind (wpAny_field hz rfl (x := .none) rfl (wpAny_pure ?_)))
  simp only [if_true]
  refine wpAny_bind (wpAny_rule (wpAny_bind (wpAny_field hz rfl (x := .ref TO) rfl (wpAny_bind (wpAny_setField_rec hz (by simp) fun g1 zg1 sb1 => ?_)))))
  have zg1 : IsZip g1 z TI TO .ellipsis := zg1
  have e1 := sb1.extBut
  refine wpAny_bind ?_
  simp only [List.zipIdx_cons, List.zipIdx_nil, List.forIn_cons, List.forIn_nil]
  refine wpAny_bind (wpAny_bind (wpAny_onRaise ?_))
  show wpAny _ _ (Builtin.SmallTypes.nextOf (.ref i1) >>= _) _ _ _
  refine wpAny_bind (Z1.item (Z1.keepI h1 fun o => e1 _ o D.i1z) (Z1.keepS q1 fun o => e1 _ o D.l1z) hx fun g2 j1 sb2 => wpAny_pure ?_)
  have e2 := sb2.extBut
  have to2 : IsPair g2 TO a b := e2 _ _ D.TOi1 (e1 _ _ D.TOz hTO)
  refine wpAny_bind (wpAny_seqItems to2 rfl (wpAny_bind (wpAny_updateSeq_pair to2 fun g3 to3 sb3 => ?_)))
  have to3 : IsPair g3 TO x b := to3
  have e3 := sb3.extBut
  refine wpAny_bind (wpAny_letGo (wpAny_pure (wpAny_bind (wpAny_bind (wpAny_onRaise ?_)))))
  show wpAny _ _ (Builtin.SmallTypes.nextOf (.ref i2) >>= _) _ _ _
  have up3 : ∀ c o, c ≠ z → c ≠ TO → c ≠ i1 → s.heap.get? c = some o → g3.get? c = some o := fun c o c1 c2 c3 q => e3 _ _ c2 (e2 _ _ c3 (e1 _ _ c1 q))
  refine wpAny_bind (Z2.item (Z2.keepI h2 fun o => up3 _ o D.i2z D.TOi2.symm D.i12.symm) (Z2.keepS q2 fun o => up3 _ o D.l2z D.l2TO D.l2i1) hy fun g4 j2 sb4 => wpAny_pure ?_)
  have e4 := sb4.extBut
  have to4 : IsPair g4 TO x b := e4 _ _ D.TOi2 to3
  refine wpAny_bind (wpAny_seqItems to4 rfl (wpAny_bind (wpAny_updateSeq_pair to4 fun g5 to5 sb5 => ?_)))
  have to5 : IsPair g5 TO x y := to5
  have e5 := sb5.extBut
  refine wpAny_bind (wpAny_letGo (wpAny_pure (wpAny_pure (wpAny_bind (wpAny_seqItems to5 rfl (wpAny_bind (wpAny_newTuple ?_)))))))
  have sz : g5.objs.size = s.heap.objs.size := by rw [sb5.1, sb4.1, sb3.1, sb2.1, sb1.1]
  have z5 : IsZip g5 z TI TO .ellipsis := e5 _ _ D.TOz.symm (e4 _ _ D.i2z.symm (e3 _ _ D.TOz.symm (e2 _ _ D.i1z.symm zg1)))
  have up5 : Rest z TO i1 i2 s.heap g5 := fun c o c1 c2 c3 c4 q => e5 _ _ c2 (e4 _ _ c4 (up3 c o c1 c2 c3 q))
  have k5 : I1 (k1 + 1) g5 := Z1.keepI j1 fun o q => e5 _ _ D.TOi1.symm (e4 _ _ D.i12 (e3 _ _ D.TOi1.symm q))
  have m5 : I2 (k2 + 1) g5 := Z2.keepI j2 fun o q => e5 _ _ D.TOi2.symm q
  have ltz : z < g5.objs.size := Heap.lt_size z5
  show wpAny _ _ (Builtin.SmallTypes.ownedTupleHandOut (.ref z) (.ref g5.objs.size) >>= _) _ _ _
  unfold Builtin.SmallTypes.ownedTupleHandOut
  have z6 : IsZip (g5.push { cls := .type "tuple", data := .seq #[x, y] }) z TI TO .ellipsis := Heap.get?_push_of_some _ z5
  refine wpAny_bind (wpAny_bind (wpAny_setField_rec z6 (by simp) fun g7 z7 sb7 => ?_))
  have z7 : IsZip g7 z TI TO (rawInt g5.objs.size) := z7
  refine wpAny_setField_rec z7 (by simp) fun g8 z8 sb8 => ?_
  have z8 : IsZip g8 z TI TO (rawInt g5.objs.size) := z8
  have up : ∀ c o, c ≠ z → g5.get? c = some o → g8.get? c = some o := fun c o c1 q => sb8.extBut _ _ c1 (sb7.extBut _ _ c1 (Heap.get?_push_of_some _ q))
  have new : IsPair g8 g5.objs.size x y := sb8.extBut _ _ (Nat.ne_of_gt ltz) (sb7.extBut _ _ (Nat.ne_of_gt ltz) (Heap.get?_push_size _ rfl))
  have sz8 : g8.objs.size = g5.objs.size + 1 := by rw [sb8.1, sb7.1, Heap.size_push]
  refine wpAny_pure ⟨_, rfl, ?_⟩
  show Q (.ref g5.objs.size) _
  rw [sz] at z8 new sz8 ⊢
  exact hQ g8 z8 (up _ _ D.TOz to5) (Z1.keepI k5 fun o => up _ o D.i1z) (Z2.keepI m5 fun o => up _ o D.i2z) new sz8 fun c o c1 c2 c3 c4 q => up c o c1 (up5 c o c1 c2 c3 c4 q)
theorem mz_stop {Q : PySem.Fin → Shared → Prop} (hh : A.handled = none) (D : ZipApart z TI TO i1 i2 l1 l2) (Z1 : Stp prog w i1 l1 xs I1 S1) (Z2 : Stp prog w i2 l2 ys I2 S2)
    (hz : IsZip s.heap z TI TO .none) (hTI : IsPair s.heap TI (.ref i1) (.ref i2)) (hTO : IsPair s.heap TO a b) (h1 : I1 k1 s.heap) (h2 : I2 k2 s.heap) (q1 : S1 s.heap) (q2 : S2 s.heap) (hend : xs[k1]? = none ∨ ys[k2]? = none)
    (hE : ∀ h' e, Rest z TO i1 i2 s.heap h' → (∃ o, h'.get? e = some o ∧ o.cls = .type "StopIteration") → E (.ref e) { s with heap := h' }) :
    wpAny (model prog w) A (Builtin.«zip.__next__» ⟨[.ref z], []⟩) Q E s := by
  have notz : ∀ {h : Heap} {e : Addr} {oe : Obj} {f0 : Value}, IsZip h z TI TO f0 → h.get? e = some oe → oe.cls = .type "StopIteration" → e ≠ z := fun hz he hc q => by
    subst q
    rw [hz] at he
    cases he
    simp at hc
  show wpAny _ _ (field (.ref z) 2 >>= _) _ _ _
  refine wpAny_bind (wpAny_field hz rfl (x := .bool false) rfl ?_)
  show wpAny _ _ (field (.ref z) 3 >>= _) _ _ _
  refine wpAny_bind (wpAny_field hz rfl (x := .ref TI) rfl (wpAny_bind (wpAny_seqItems hTI rfl ?_)))
  show wpAny _ _ (Builtin.SmallTypes.ownedTupleIsFree (.ref z) >>= _) _ _ _
  unfold Builtin.SmallTypes.ownedTupleIsFree
  refine wpAny_bind (wpAny_bind (wpAny_field hz rfl (x := .none) rfl (wpAny_pure ?_)))
  simp only [if_true]
  refine wpAny_bind (wpAny_rule (wpAny_bind (wpAny_field hz rfl (x := .ref TO) rfl (wpAny_bind (wpAny_setField_rec hz (by simp) fun g1 zg1 sb1 => ?_)))))
  have zg1 : IsZip g1 z TI TO .ellipsis := zg1
  have e1 := sb1.extBut
  refine wpAny_bind ?_
  simp only [List.zipIdx_cons, List.zipIdx_nil, List.forIn_cons, List.forIn_nil]
  refine wpAny_bind (wpAny_bind (wpAny_onRaise ?_))
  show wpAny _ _ (Builtin.SmallTypes.nextOf (.ref i1) >>= _) _ _ _
  have hI := Z1.keepI h1 fun o => e1 _ o D.i1z
  have hS := Z1.keepS q1 fun o => e1 _ o D.l1z
  by_cases first : xs[k1]? = none
  · refine wpAny_bind (Z1.stop hh hI hS first fun g2 e x2 ⟨oe, he, hc⟩ => ?_)
    have z2 : IsZip g2 z TI TO .ellipsis := x2 _ _ D.i1z.symm zg1
    exact wpAny_setField_rec z2 (by simp) fun g3 _ sb3 => hE g3 e (fun c o c1 _ c3 _ q => sb3.extBut _ _ c1 (x2 _ _ c3 (e1 _ _ c1 q))) ⟨oe, sb3.extBut _ _ (notz z2 he hc) he, hc⟩
  · obtain ⟨x, hx⟩ := Option.ne_none_iff_exists'.mp first
    have hy := hend.resolve_left first
    refine wpAny_bind (Z1.item hI hS hx fun g2 j1 sb2 => wpAny_pure ?_)
    have e2 := sb2.extBut
    have to2 : IsPair g2 TO a b := e2 _ _ D.TOi1 (e1 _ _ D.TOz hTO)
    refine wpAny_bind (wpAny_seqItems to2 rfl (wpAny_bind (wpAny_updateSeq_pair to2 fun g3 to3 sb3 => ?_)))
    have e3 := sb3.extBut
    refine wpAny_bind (wpAny_letGo (wpAny_pure (wpAny_bind (wpAny_bind (wpAny_onRaise ?_)))))
    show wpAny _ _ (Builtin.SmallTypes.nextOf (.ref i2) >>= _) _ _ _
    have up3 : ∀ c o, c ≠ z → c ≠ TO → c ≠ i1 → s.heap.get? c = some o → g3.get? c = some o := fun c o c1 c2 c3 q => e3 _ _ c2 (e2 _ _ c3 (e1 _ _ c1 q))
    refine wpAny_bind (Z2.stop hh (Z2.keepI h2 fun o => up3 _ o D.i2z D.TOi2.symm D.i12.symm) (Z2.keepS q2 fun o => up3 _ o D.l2z D.l2TO D.l2i1) hy fun g4 e x4 ⟨oe, he, hc⟩ => ?_)
    have z4 : IsZip g4 z TI TO .ellipsis := x4 _ _ D.i2z.symm (e3 _ _ D.TOz.symm (e2 _ _ D.i1z.symm zg1))
    exact wpAny_setField_rec z4 (by simp) fun g5 _ sb5 => hE g5 e (fun c o c1 c2 c3 c4 q => sb5.extBut _ _ c1 (x4 _ _ c4 (up3 c o c1 c2 c3 q))) ⟨oe, sb5.extBut _ _ (notz z4 he hc) he, hc⟩
theorem mz_next {Q : Option Value → Shared → Prop} (D : ZipApart z TI TO i1 i2 l1 l2) (Z1 : Stp prog w i1 l1 xs I1 S1) (Z2 : Stp prog w i2 l2 ys I2 S2)
    (hz : IsZip s.heap z TI TO .none) (hTI : IsPair s.heap TI (.ref i1) (.ref i2)) (hTO : IsPair s.heap TO a b) (h1 : I1 k1 s.heap) (h2 : I2 k2 s.heap) (q1 : S1 s.heap) (q2 : S2 s.heap) (hx : xs[k1]? = some x) (hy : ys[k2]? = some y)
    (hQ : ∀ h', IsZip h' z TI TO (rawInt s.heap.objs.size) → IsPair h' TO x y → I1 (k1 + 1) h' → I2 (k2 + 1) h' → IsPair h' s.heap.objs.size x y → h'.objs.size = s.heap.objs.size + 1 → Rest z TO i1 i2 s.heap h' → Q (some (.ref s.heap.objs.size)) { s with heap := h' }) :
    wpAny (model prog w) A (pyNext (.ref z)) Q E s := by
  have hT : s.TypeIs (.ref z) "zip" := ⟨_, hz, rfl⟩
  unfold pyNext
  exact wpAny_bind (wpAny_attempt (wpAny_callSpecial?_slot (name := Str.ofString "__next__") hT PySem.F.slot_zip_next (wpAny_call_entry PySem.F.slot_zip_next hT PySem.F.entry_zip_next
    (mz_item D Z1 Z2 hz hTI hTO h1 h2 q1 q2 hx hy fun h' a1 a2 a3 a4 a5 a6 a7 => wpAny_pure (hQ h' a1 a2 a3 a4 a5 a6 a7)) (PySem.F.args_zip_next_1 _))))
theorem mz_over {Q : Option Value → Shared → Prop} (hh : A.handled = none) (D : ZipApart z TI TO i1 i2 l1 l2) (Z1 : Stp prog w i1 l1 xs I1 S1) (Z2 : Stp prog w i2 l2 ys I2 S2)
    (hz : IsZip s.heap z TI TO .none) (hTI : IsPair s.heap TI (.ref i1) (.ref i2)) (hTO : IsPair s.heap TO a b) (h1 : I1 k1 s.heap) (h2 : I2 k2 s.heap) (q1 : S1 s.heap) (q2 : S2 s.heap) (hend : xs[k1]? = none ∨ ys[k2]? = none)
    (hQ : ∀ h', Rest z TO i1 i2 s.heap h' → Q none { s with heap := h' }) : wpAny (model prog w) A (pyNext (.ref z)) Q E s := by
  have hT : s.TypeIs (.ref z) "zip" := ⟨_, hz, rfl⟩
  unfold pyNext
  refine wpAny_bind (wpAny_attempt (wpAny_callSpecial?_slot (name := Str.ofString "__next__") hT PySem.F.slot_zip_next (wpAny_call_entry PySem.F.slot_zip_next hT PySem.F.entry_zip_next
    (mz_stop hh D Z1 Z2 hz hTI hTO h1 h2 q1 q2 hend fun h' e hk ⟨o, ho, hc⟩ => ?_) (PySem.F.args_zip_next_1 _))))
  exact wpAny_bind (wpAny_isInstance (T := "StopIteration") (b := true) ⟨o, ho, hc⟩ isSubtype_stop (wpAny_pure (hQ _ hk)))
end
/-! ### made of a list and a tuple -/
abbrev mzH1 (h : Heap) (l1 : Addr) : Heap := h.push { cls := .type "list_iterator", data := .fields #[.ref l1, .int 0 0] }
abbrev mzH2 (h : Heap) (l1 l2 : Addr) : Heap := (mzH1 h l1).push { cls := .type "tuple_iterator", data := .fields #[.ref l2, .int 0 0] }
abbrev mzH3 (h : Heap) (l1 l2 : Addr) : Heap := (mzH2 h l1 l2).push { cls := .type "tuple", data := .seq #[.ref h.objs.size, .ref (mzH1 h l1).objs.size] }
abbrev mzH4 (h : Heap) (l1 l2 : Addr) : Heap := (mzH3 h l1 l2).push { cls := .type "tuple", data := .seq #[.none, .none] }
abbrev mzH5 (h : Heap) (l1 l2 : Addr) : Heap := (mzH4 h l1 l2).push { cls := .type "zip", data := .fields #[.none, .bool false, .bool false, .ref (mzH2 h l1 l2).objs.size, .ref (mzH3 h l1 l2).objs.size] }
theorem mz_new (l1 l2 : Addr) (xs ys : Array Value) :
    Meets (Builtin.«zip.__new__» ⟨[.type "zip", .ref l1, .ref l2], []⟩) (fun _ R s => s.heap.IsList l1 xs ∧ s.heap.IsTuple l2 ys ∧ R (.ok (.ret (.ref (mzH4 s.heap l1 l2).objs.size))) { s with heap := mzH5 s.heap l1 l2 }) :=
  .of_wp fun prog w A R s h => by
    obtain ⟨hp, g, d, tk, os⟩ := s
    obtain ⟨hl1, hl2, h⟩ := h
    have hsub := sub_zip
    have hL1 : Heap.IsList (Shared.heap ⟨hp, g, d, tk, os⟩) l1 xs := hl1
    have hL2 : Heap.IsTuple (Shared.heap ⟨hp.push { cls := .type "list_iterator", data := .fields #[.ref l1, .int 0 0] }, g, d, tk, os⟩) l2 ys := Heap.IsTuple.push hl2 _
    wp_walk using wpAny_pyIter_list hL1, wpAny_pyIter_tuple hL2
    exact ⟨_, rfl, h⟩
theorem mz_call {prog : Program} {w : World} {A : Around} {E : Value → Shared → Prop} {s : Shared} {l1 l2 : Addr} {xs ys : Array Value} {Q : Value → Shared → Prop} (hl1 : s.heap.IsList l1 xs) (hl2 : s.heap.IsTuple l2 ys)
    (h : ∀ h', IsZip h' (s.heap.objs.size + 4) (s.heap.objs.size + 2) (s.heap.objs.size + 3) .none → IsPair h' (s.heap.objs.size + 2) (.ref s.heap.objs.size) (.ref (s.heap.objs.size + 1)) →
      IsPair h' (s.heap.objs.size + 3) .none .none → h'.IsListIter s.heap.objs.size l1 0 → h'.IsTupleIter (s.heap.objs.size + 1) l2 0 → (∀ c o, s.heap.get? c = some o → h'.get? c = some o) → Q (.ref (s.heap.objs.size + 4)) { s with heap := h' }) :
    wpAny (model prog w) A (call (.type "zip") [.ref l1, .ref l2]) Q E s := by
  have n1 : (mzH1 s.heap l1).objs.size = s.heap.objs.size + 1 := Heap.size_push ..
  have n2 : (mzH2 s.heap l1 l2).objs.size = s.heap.objs.size + 2 := by rw [Heap.size_push, n1]
  have n3 : (mzH3 s.heap l1 l2).objs.size = s.heap.objs.size + 3 := by rw [Heap.size_push, n2]
  have n4 : (mzH4 s.heap l1 l2).objs.size = s.heap.objs.size + 4 := by rw [Heap.size_push, n3]
  have up1 : ∀ {h : Heap} {ob : Obj} {c : Addr} {o : Obj}, h.get? c = some o → (h.push ob).get? c = some o := fun q => Heap.get?_push_of_some _ q
  have at1 : (mzH5 s.heap l1 l2).get? s.heap.objs.size = some _ := up1 (up1 (up1 (up1 (Heap.get?_push_size _ rfl))))
  have at2 : (mzH5 s.heap l1 l2).get? (mzH1 s.heap l1).objs.size = some _ := up1 (up1 (up1 (Heap.get?_push_size _ rfl)))
  have at3 : (mzH5 s.heap l1 l2).get? (mzH2 s.heap l1 l2).objs.size = some _ := up1 (up1 (Heap.get?_push_size _ rfl))
  have at4 : (mzH5 s.heap l1 l2).get? (mzH3 s.heap l1 l2).objs.size = some _ := up1 (Heap.get?_push_size _ rfl)
  have at5 : (mzH5 s.heap l1 l2).get? (mzH4 s.heap l1 l2).objs.size = some _ := Heap.get?_push_size _ rfl
  rw [n1] at at2
  rw [n1, n2] at at3
  rw [n3] at at4
  rw [n2, n3, n4] at at5
  refine callType_new PySem.F.called_zip (by decide) (PySem.F.typeCall_zip_2 _ _) (PySem.F.newCall_zip_2 _ _) (fun obj => PySem.F.args_object_init_3 obj _ _) PySem.F.entry_zip_new (mz_new l1 l2 xs ys) ⟨hl1, hl2, ?_⟩
  show _ ∧ _
  rw [n4]
  exact ⟨⟨_, at5, rfl⟩, h _ at5 at3 at4 ⟨_, at1, rfl, rfl⟩ ⟨_, at2, rfl, rfl⟩ fun c o q => up1 (up1 (up1 (up1 (up1 q))))⟩
/-! ### its turns -/
def ItzM (K : PySem.W.Frag) (a b : Addr) : It :=
  ⟨fun i H => ∃ (xs ys : List V) (x y : V), SqL K H a xs ∧ SqT K H b ys ∧ xs[i]? = some x ∧ ys[i]? = some y,
    fun i H v H' => ∃ T x y, v = .ref T ∧ H T = none ∧ H' = upd H T (.tup [x, y]) ∧ (∀ xs, SqL K H a xs → xs[i]? = some x) ∧ ∀ ys, SqT K H b ys → ys[i]? = some y,
    fun i H => ∃ xs ys : List V, SqL K H a xs ∧ SqT K H b ys ∧ (xs.length ≤ i ∨ ys.length ≤ i)⟩
theorem five {c z TI TO i1 i2 : Addr} (h : c ∈ [z, TI, TO, i1, i2]) : c = z ∨ c = TI ∨ c = TO ∨ c = i1 ∨ c = i2 := by simpa using h
theorem mz_turn {P : Program} {w : World} {K : PySem.W.Frag} {elts : List Expr} {kk : Nat} {tpos : Pos} {a b z TI TO i1 i2 : Addr} (D : ZipApart z TI TO i1 i2 a b) :
    Turn P w K (.Tuple elts kk tpos) (ItzM K a b) [z, TI, TO, i1, i2] z (fun i h => IsZip h z TI TO .none ∧ IsPair h TI (.ref i1) (.ref i2) ∧ (∃ x y, IsPair h TO x y) ∧ h.IsListIter i1 a i ∧ h.IsTupleIter i2 b i) where
  mem := by simp
  obj := fun i h ⟨hz, hTI, ⟨x, y, hTO⟩, ⟨o1, e1, _, d1⟩, ⟨o2, e2, _, d2⟩⟩ c hc => by
    rcases five hc with rfl | rfl | rfl | rfl | rfl
    · exact ⟨_, hz, fun v q => nomatch q⟩
    · exact ⟨_, hTI, fun v q => nomatch q⟩
    · exact ⟨_, hTO, fun v q => nomatch q⟩
    · exact ⟨o1, e1, fun v q => by rw [d1] at q; cases q⟩
    · exact ⟨o2, e2, fun v q => by rw [d2] at q; cases q⟩
  keep := fun i h h' ⟨hz, hTI, ⟨x, y, hTO⟩, h1, h2⟩ k => ⟨k z (by simp) _ hz, k TI (by simp) _ hTI, ⟨x, y, k TO (by simp) _ hTO⟩, h1.at fun o => k i1 (by simp) o, h2.at fun o => k i2 (by simp) o⟩
  self := fun A i s Q E st h => wpAny_pyIter_zip st.1 h
  done := by
    intro X hP hw hK hc i pins s σ H E I hf ⟨hz, hTI, ⟨x0, y0, hTO⟩, h1, h2⟩ ⟨xs, ys, qx, qy, hend⟩
    subst hP hw hK
    obtain ⟨us, rx, px, _⟩ := I.list qx
    obtain ⟨vs, ry, py, _⟩ := I.tuple qy
    have n1 := rx.length
    have n2 := ry.length
    have he : us.toArray[i]? = none ∨ vs.toArray[i]? = none := hend.imp (fun q => by simp; omega) (fun q => by simp; omega)
    refine mz_over (I.ok.hd hc) D stp_list stp_tuple hz hTI hTO h1 h2 px.isList py he fun h' hk => ⟨rfl, I.turnedL (t' := s.toks) (ch := [z, TI, TO, i1, i2]) (fun c o hb q => ?_) hf⟩
    simp only [List.mem_cons, List.not_mem_nil, or_false, not_or] at hb
    exact hk c o hb.1 hb.2.2.1 hb.2.2.2.1 hb.2.2.2.2 q
  item := by
    intro X hP hw hK hc i pins s σ H E I hf ⟨hz, hTI, ⟨x0, y0, hTO⟩, h1, h2⟩ ⟨xs, ys, x, y, qx, qy, hx, hy⟩
    subst hP hw hK
    obtain ⟨us, rx, px, _⟩ := I.list qx
    obtain ⟨vs, ry, py, _⟩ := I.tuple qy
    obtain ⟨u, hu, ru⟩ := rx.get hx
    obtain ⟨v, hv, rv⟩ := ry.get hy
    have lz : z < s.heap.objs.size := Heap.lt_size hz
    have lI : TI < s.heap.objs.size := Heap.lt_size hTI
    have lO : TO < s.heap.objs.size := Heap.lt_size hTO
    have l1 : i1 < s.heap.objs.size := let ⟨_, e, _⟩ := h1; Heap.lt_size e
    have l2 : i2 < s.heap.objs.size := let ⟨_, e, _⟩ := h2; Heap.lt_size e
    refine mz_next D stp_list stp_tuple hz hTI hTO h1 h2 px.isList py (x := u) (y := v) (by simpa using hu) (by simpa using hv) fun g zg og ig jg tg sz rest => ?_
    refine ⟨_, rfl, wpAny_letOwnedTupleGo_zip (s := { s with heap := g }) zg fun g' zg' sb => ?_⟩
    have eb := sb.extBut
    have tg' : g'.get? s.heap.objs.size = some { cls := .type "tuple", data := .seq #[u, v] } := eb _ _ (Nat.ne_of_gt lz) tg
    have J : Inv X pins σ (upd H s.heap.objs.size (.tup [x, y])) { s with heap := g' } := I.turnedNew (t' := s.toks) (ch := [z, TI, TO, i1, i2]) (fun c o hb q => by
      simp only [List.mem_cons, List.not_mem_nil, or_false, not_or] at hb
      exact eb _ _ hb.1 (rest c o hb.1 hb.2.2.1 hb.2.2.2.1 hb.2.2.2.2 q)) hf (Nat.le_refl _) ⟨by show 2 ≤ sizeLine; decide, [u, v], .cons ru (.cons rv .nil), ⟨_, tg', rfl, _, rfl⟩⟩
    refine ⟨.ref s.heap.objs.size, _, J, rfl, ⟨_, x, y, rfl, I.hok.fresh (Nat.le_refl _), rfl, fun l hl => by rw [I.list_inj hl qx]; exact hx, fun l hl => by rw [I.tuple_inj hl qy]; exact hy⟩,
      ⟨zg', eb _ _ D.TIz (rest _ _ D.TIz D.TITO D.TIi1 D.TIi2 hTI), ⟨u, v, eb _ _ D.TOz og⟩, ig.at fun o => eb _ o D.i1z, jg.at fun o => eb _ o D.i2z⟩, fun c hcm => ?_⟩
    have lt : c < s.heap.objs.size := by rcases five hcm with rfl | rfl | rfl | rfl | rfl <;> assumption
    rw [upd_ne (Nat.ne_of_lt lt)]
    exact (hf c hcm).1
def iZipM (K : PySem.W.Frag) (ta : TA) : TI := fun σ H R => ta σ H fun vs H1 => ∃ a b xs ys, vs = [.ref a, .ref b] ∧ SqL K H1 a xs ∧ SqT K H1 b ys ∧ R (ItzM K a b) H1
theorem pi_zipM {X : Cx} {e e2 : Expr} {ta : TA} {p pos tpos : Pos} {elts : List Expr} {kk : Nat} (hg : Gl X "zip") (hm : X.mg "zip" = none) (ha : PA X [e, e2] ta)
    (hs : starEach [e, e2] X.env = (false, eval e X.env) :: starEach [e2] X.env := by rfl) (hpl : (backTo pos (starEach [e2] X.env)).any (·.1) = false := by rfl) :
    PI X (.Tuple elts kk tpos) (.Call (.Name "zip" p) [e, e2] [] pos) (iZipM X.K ta) := by
  refine ⟨fun pins s σ H R I h => Call_ (ld_blt I hg hm PyProof.Rows.boot_zip (PyProof.Rows.callWith_type1 (thn (ha.run pos pins s σ H _ I h) fun us s1 ⟨vs, H1, I1, r1, q1⟩ => ?_) hs hpl))⟩
  obtain ⟨a, b, xs, ys, rfl, qx, qy, q⟩ := q1
  cases r1 with
  | cons r rr =>
    cases rr with
    | cons r' rr =>
      cases rr
      cases r
      cases r'
      obtain ⟨us, rx, px, _⟩ := I1.list qx
      obtain ⟨vs, ry, py, _⟩ := I1.tuple qy
      have la : a < s1.heap.objs.size := px.lt
      have lb : b < s1.heap.objs.size := let ⟨_, e, _⟩ := py; Heap.lt_size e
      refine mz_call px.isList py fun h' hz hTI hTO h1 h2 hk => wpAny_pyIter_zip hz ?_
      have I2 : Inv X pins σ H1 { s1 with heap := h' } := I1.kept (t' := s1.toks) hk
      refine ⟨s1.heap.objs.size + 4, [s1.heap.objs.size + 4, s1.heap.objs.size + 2, s1.heap.objs.size + 3, s1.heap.objs.size, s1.heap.objs.size + 1], _, _, H1, rfl, I2, mz_turn (PySem.W.ktu_apart s1.heap.objs.size a b la lb), ⟨hz, hTI, ⟨_, _, hTO⟩, h1, h2⟩, fun c hc => ?_, q⟩
      have le : s1.heap.objs.size ≤ c := by rcases five hc with rfl | rfl | rfl | rfl | rfl <;> omega
      exact I1.fpOk le (I1.hok.fresh le)
section
variable {G : Gx} {X : Cx} {W : WX} {C : Call}
/-- zip of a list and a tuple -/
def siZipM (a b : SK) : SI := fun C env st => (a C env st).bind fun w st => (b C env st).bind fun u st => if (w.1 && !u.1) && good w.2.src st && good u.2.src st then .ok ⟨zipD w.2.ds u.2.ds, w.2.src ++ u.2.src⟩ st else .stuck
theorem di_zipM {e e2 : Expr} {m m2 : SK} {p pos tpos : Pos} {elts : List Expr} {kk : Nat} (hK : X.K = G.K) (hm : X.mg "zip" = none) (h1 : DK G X W C e m) (h2 : DK G X W C e2 m2) (hg : Gl X "zip" := by rfl)
    (hpl : (backTo pos (starEach [e2] X.env)).any (·.1) = false := by rfl) (ht1 : starEach [e, e2] X.env = (false, eval e X.env) :: starEach [e2] X.env := by rfl) (ht2 : starEach [e2] X.env = (false, eval e2 X.env) :: starEach [] X.env := by rfl) :
    DI G X W C (.Tuple elts kk tpos) (.Call (.Name "zip" p) [e, e2] [] pos) (siZipM m m2) := pi_imp (pi_zipM hg hm (pa_cons h1 (pa_cons h2 pa_nil ht2) ht1) ht1 hpl) fun σ H Q ⟨env, ι, st, hR, hp⟩ => by
  refine rG.seq (rep := repWK G) hR hp fun w st1 v H1 ι1 e1 hR1 ⟨a, ev, q1⟩ hp1 => ?_
  refine rG.seq (rep := repWK G) hR1 hp1 fun u st2 v2 H2 ι2 e2' hR2 ⟨b, ev2, q2⟩ hp2 => ?_
  subst ev ev2
  rw [hK]
  by_cases hc : ((w.1 && !u.1) && good w.2.src st2 && good u.2.src st2) = true
  · rw [if_pos hc] at hp2
    simp only [Bool.and_eq_true, Bool.not_eq_true'] at hc
    obtain ⟨⟨⟨k1, k2⟩, g1⟩, g2⟩ := hc
    have key : ∀ H3 ι3 st3, Ext H2 ι2 H3 ι3 → StoRep G H3 ι3 st3 → good (w.2.src ++ u.2.src) st3 = true → ∃ xs ys, SqL G.K H3 a xs ∧ RepL G H3 ι3 w.2.ds xs ∧ SqT G.K H3 b ys ∧ RepL G H3 ι3 u.2.ds ys := fun H3 ι3 st3 e3 s3 g3 => by
      unfold good at g3
      rw [List.all_append, Bool.and_eq_true] at g3
      obtain ⟨xs, x1, x2⟩ := q1 H3 ι3 st3 (e2'.trans e3) s3 g3.1
      obtain ⟨ys, y1, y2⟩ := q2 H3 ι3 st3 e3 s3 g3.2
      unfold SqK at x1 y1
      rw [if_pos k1] at x1
      rw [if_neg (by rw [k2]; exact Bool.false_ne_true)] at y1
      exact ⟨xs, ys, x1, x2, y1, y2⟩
    obtain ⟨xs, ys, x1, _, y1, _⟩ := key H2 ι2 st2 (Ext.refl _ _) hR2.sto (by
      unfold good at g1 g2 ⊢
      rw [List.all_append, g1, g2]; rfl)
    refine ⟨a, b, xs, ys, rfl, x1, y1, hp2.here hR2.sto ?_⟩
    intro H3 ι3 st3 e3 s3 hg
    obtain ⟨xs, ys, x1, x2, y1, y2⟩ := key H3 ι3 st3 e3 s3 hg
    refine ⟨fun i d hd => ?_, fun i hi => ⟨xs, ys, x1, y1, by rw [x2.length, y2.length]; rw [zipD_length] at hi; omega⟩⟩
    obtain ⟨x, y, hx, hy, rfl⟩ := zipD_get hd
    obtain ⟨vx, gx, rx⟩ := x2.get hx
    obtain ⟨vy, gy, ry⟩ := y2.get hy
    refine ⟨⟨xs, ys, vx, vy, x1, y1, gx, gy⟩, fun z H4 ⟨T, x', y', ez, hT, eH, hx', hy'⟩ => ?_⟩
    subst ez; subst eH
    have a1 := hx' xs x1
    have a2 := hy' ys y1
    rw [gx] at a1; rw [gy] at a2; cases a1; cases a2
    exact pair_rep s3 hT rx ry
  · rw [if_neg hc] at hp2
    exact hp2.elim
end
end OH

set_option Elab.async false
set_option linter.all false
set_option maxRecDepth 100000
set_option maxHeartbeats 1000000
/-! OHDpo: d.pop(k) of a dict of tuple keys; min and max of three ints. -/
namespace OH
open PySem PySem.Spec PyProof.Rows L2
section
variable {G : Gx} {X : Cx} {W : WX} {C : Call}
/-- o.m(a), o a dict -/
def eDm1 (g : Sto → D → D → Res D) (o a : SE) : SE := fun C env st => (o C env st).bind fun x st => if (dcnAt st x).isSome then (a C env st).bind fun y st => g st x y else .stuck
def CallD1 (G : Gx) (X : Cx) (id : String) (g : Sto → D → D → Res D) : Prop := ∀ (pins : List (Addr × Obj)) (σ : L2.St) (H : Hp) (s : Shared) (ι : List Addr) (st : Sto) (x y : D) (vx vy : V) (ux uy : Value) (Q : VK) (W : Value → Option Addr → Hp → Prop) (E : Value → Shared → Prop), L2.Inv X pins σ H s → StoRep G H ι st →
  Rep G H ι x vx → RelV vx ux → Rep G H ι y vy → RelV vy uy → post G (Rep G) W H ι Q (g st x y) → wpAny (model X.prog X.w) X.A (call (.builtin id) [ux, uy]) (EP X pins σ Q) E s
theorem de_dm1 {m id : String} {g : Sto → D → D → Res D} {o a : Expr} {mo ma : SE} {apos cpos : Pos} (hK : X.K = G.K) (hw : X.w = G.w) (hc : CallD1 G X id g) (slot : Slot "dict" (Str.ofString m) id) (hty : typeOf (.builtin id) = pure (.type "method_descriptor")) (hid : Value.builtin id ≠ .builtin "__main__.__loader__#opaque" := by decide)
    (ho : DE G X W C o mo) (ha : DE G X W C a ma) (M : M1 X o (Str.ofString m) apos a cpos) : DE G X W C (.Call (.Attribute o (Str.ofString m) apos) [a] [] cpos) (eDm1 g mo ma) := ⟨fun pins s σ H Q I ⟨env, ι, st, hR, hp⟩ => by
  refine wpAny_Call_method M.base M.few M.line PySem.F.plainAttrs_dict slot hty (thn (ho.run pins s σ H _ I (sqE (Q := fun v H1 => ∃ ι st x i kvs, R G σ H1 env ι st ∧ Rep G H1 ι x v ∧ x = .ref i ∧ st[i]? = some (.dcn kvs) ∧ post G (Rep G) (fun cls ad H' => W cls ad σ H') H1 ι Q ((ma C env st).bind fun y st => g st x y)) hR hp fun x st1 vx H1 ι1 e1 hR1 r1 hp1 => by
    split at hp1
    · rename_i hs
      obtain ⟨⟨i, kvs⟩, hs⟩ := Option.isSome_iff_exists.mp hs
      obtain ⟨rfl, hi⟩ := dcnAt_of hs
      exact ⟨ι1, st1, .ref i, i, kvs, hR1, r1, rfl, hi, hp1⟩
    · exact hp1.elim)) fun ux s1 ⟨vx, H1, I1, rxu, ι, st, x, i, kvs, hR, rx, ex, hi, hp⟩ => ?_)
  subst ex
  obtain ⟨ad, rfl, _, _⟩ := dcn_at hR.sto hi rx
  cases (show ux = Value.ref ad from rxu)
  obtain ⟨t1, t2⟩ := dcn_typeIs hK hw I1 hR.sto (.inl hi) rx
  refine ⟨t1, t2, ?_⟩
  rw [M.trees]
  refine Calls.callWith_builtin rfl (Calls.evalArgs_plain (Calls.spliced_cons (thn (ha.run pins s1 σ H1 _ I1 (sqE (Q := fun v H2 => ∃ ι st y, R G σ H2 env ι st ∧ Rep G H2 ι (.ref i) (.ref ad) ∧ Rep G H2 ι y v ∧ post G (Rep G) (fun cls ad H' => W cls ad σ H') H2 ι Q (g st (.ref i) y)) hR hp fun y st1 vy H2 ι1 e1 hR1 r1 hp1 => ⟨ι1, st1, y, hR1, rx.ext e1 hR.sto.mut, r1, hp1⟩)) fun uy s2 ⟨vy, H2, I2, ryu, ι, st, y, hR, rx, ry, hp⟩ =>
    Calls.spliced_nil ?_)))
  exact hc pins σ H2 s2 ι st (.ref i) y (.ref ad) vy _ uy Q _ _ I2 hR.sto rx rfl ry ryu hp⟩
def popN : Sto → D → D → Res D := fun st x y => match dcnAt st x with
  | some (i, kvs) => if (keyT y).isSome then match dGet kvs y with
      | some d => .ok d (st.set i (.dcn (dDel kvs y)))
      | none => .stuck
    else .stuck
  | none => .stuck
theorem call_popN (hK : X.K = G.K) (hw : X.w = G.w) (hu : X.A.units + 64 < cLine) : CallD1 G X "dict.pop" popN := by
  intro pins σ H s ι st x y vx vy ux uy Q W E I sr rx rxu ry ryu h
  unfold popN at h
  split at h
  · rename_i i kvs hx
    obtain ⟨rfl, hi⟩ := dcnAt_of hx
    split at h
    · rename_i hk
      obtain ⟨nk, hk⟩ := Option.isSome_iff_exists.mp hk
      obtain ⟨a, rfl, ha, c⟩ := dcn_at sr hi rx
      obtain ⟨kb, rfl⟩ := keyT_ref ry hk
      cases (show ux = Value.ref a from rxu)
      cases (show uy = Value.ref kb from ryu)
      obtain ⟨zl, hd, ys, r, dd⟩ := dcn_of hK hw I c
      have hz : ys.length ≤ sizeLine := by rw [← Paired.length r]; exact zl
      rcases rw_get hk r with ⟨h1, h2⟩ | ⟨d, y', v, h1, h2, h3, h4⟩
      · rw [h1] at h; exact h.elim
      · rw [h1] at h
        refine call_pop_heap (hsz := hz) (.inl rfl) (PySem.F.args_dict_pop_2 _ _) (nroom hu) (keyT_is hK I ry hk) hd dd h2 fun h' dd' hs => ?_
        have hl : (dDel kvs y).length ≤ kvs.length := List.length_filter_le _ _
        obtain ⟨H', I', e, s'⟩ := dcn_write (t' := s.toks + (nestedKind X.prog X.w).draws nk) hw I sr hi ha (by omega) (rw_del hk r) dd' hs
        exact ⟨v, H', I', h4, h _ H' ι e s' (h3.ext e sr.mut)⟩
    · exact h.elim
  · exact h.elim
theorem de_popN {o a : Expr} {mo ma : SE} {apos cpos : Pos} (hK : X.K = G.K) (hw : X.w = G.w) (hu : X.A.units + 64 < cLine) (ho : DE G X W C o mo) (ha : DE G X W C a ma)
    (M : M1 X o (Str.ofString "pop") apos a cpos := by exact ⟨rfl, rfl, rfl, rfl⟩) : DE G X W C (.Call (.Attribute o (Str.ofString "pop") apos) [a] [] cpos) (eDm1 popN mo ma) := de_dm1 hK hw (call_popN hK hw hu) PySem.F.slot_dict_pop PySem.F.type_dict_pop (by decide) ho ha M
/-! ### min and max of three -/
def min3 : Sto → List D → Res D := fun st ds => match ds with
  | [.int i, .int j, .int k] => .ok (.int (if j < i then (if k < j then k else j) else (if k < i then k else i))) st
  | _ => .stuck
def max3 : Sto → List D → Res D := fun st ds => match ds with
  | [.int i, .int j, .int k] => .ok (.int (if j > i then (if k > j then k else j) else (if k > i then k else i))) st
  | _ => .stuck
theorem nuMin2_int (i j : Int) : nuMin2 (.int i) (.int j) = some (.int (if j < i then j else i)) := by
  show (some (decide (j < i))).map _ = _
  by_cases h : j < i <;> simp [h]
theorem nuMax2_int (i j : Int) : nuMax2 (.int i) (.int j) = some (.int (if j > i then j else i)) := by
  show (some (decide (i < j))).map _ = _
  by_cases h : j > i <;> simp [h]
theorem bra_min3 : BrA G (rNuC3 nuMin3) min3 := by
  intro W H ι st ds vs Q s r h
  unfold min3 at h
  split at h
  · obtain ⟨_, _, rfl, rfl, _, _, rfl, rfl, _, _, rfl, rfl, rfl⟩ := r
    refine ⟨_, _, _, _, rfl, ?_, h.here s (v := .int _) rfl⟩
    unfold nuMin3
    rw [nuMin2_int, Option.bind_some, nuMin2_int]
    split <;> rfl
  · exact h.elim
theorem bra_max3 : BrA G (rNuC3 nuMax3) max3 := by
  intro W H ι st ds vs Q s r h
  unfold max3 at h
  split at h
  · obtain ⟨_, _, rfl, rfl, _, _, rfl, rfl, _, _, rfl, rfl, rfl⟩ := r
    refine ⟨_, _, _, _, rfl, ?_, h.here s (v := .int _) rfl⟩
    unfold nuMax3
    rw [nuMax2_int, Option.bind_some, nuMax2_int]
    split <;> rfl
  · exact h.elim
end
end OH

set_option Elab.async false
set_option linter.all false
set_option maxRecDepth 100000
set_option maxHeartbeats 1000000
/-! OHSet: sorted(set(xs)) of a list of tuples of ints, all of one length. -/
namespace OH
open PySem PySem.Spec PyProof.Rows L2
/-- the rows of a list, ascending, each once -/
def SetRows (ds : List D) (rows : List (List Int)) : Prop :=
  rows.Pairwise (· < ·) ∧ (∀ d, d ∈ ds ↔ ∃ r, r ∈ rows ∧ d = D.tup (r.map D.int)) ∧ ds.length < 64 ∧ ∃ d : Nat, 1 ≤ d ∧ ∀ r, r ∈ rows → r.length = d ∧ ∀ x, x ∈ r → 0 ≤ x
theorem ll_irrefl (l : List Int) : ¬ l < l := List.lt_irrefl l
theorem ll_asymm {l m : List Int} (h : l < m) : ¬ m < l := List.lt_asymm h
theorem asc_ll : ∀ {l m : List (List Int)}, l.Pairwise (· < ·) → m.Pairwise (· < ·) → (∀ x, x ∈ l ↔ x ∈ m) → l = m
  | [], [], _, _, _ => rfl
  | [], y :: m, _, _, e => by have := (e y).mpr (by simp); cases this
  | x :: l, [], _, _, e => by have := (e x).mp (by simp); cases this
  | x :: l, y :: m, hl, hm, e => by
    obtain ⟨l1, l2⟩ := List.pairwise_cons.mp hl
    obtain ⟨m1, m2⟩ := List.pairwise_cons.mp hm
    have xy : x = y := by
      rcases List.mem_cons.mp ((e x).mp (by simp)) with z | z
      · exact z
      · rcases List.mem_cons.mp ((e y).mpr (by simp)) with w | w
        · exact w.symm
        · exact absurd (l1 y w) (ll_asymm (m1 x z))
    subst xy
    rw [asc_ll l2 m2 fun z => ?_]
    constructor
    · intro h
      rcases List.mem_cons.mp ((e z).mp (List.mem_cons_of_mem _ h)) with w | w
      · subst w; exact absurd (l1 z h) (ll_irrefl z)
      · exact w
    · intro h
      rcases List.mem_cons.mp ((e z).mpr (List.mem_cons_of_mem _ h)) with w | w
      · subst w; exact absurd (m1 z h) (ll_irrefl z)
      · exact w
theorem ints_injD : ∀ {r s : List Int}, r.map D.int = s.map D.int → r = s
  | [], [], _ => rfl
  | [], _ :: _, h => by cases h
  | _ :: _, [], h => by cases h
  | x :: r, y :: s, h => by
    rw [List.map_cons, List.map_cons] at h
    injection h with h1 h2
    injection h1 with h3
    rw [h3, ints_injD h2]
theorem rowD_inj {r s : List Int} (h : D.tup (r.map D.int) = D.tup (s.map D.int)) : r = s := by
  injection h with h1
  exact ints_injD h1
open Classical in
noncomputable def setSortO (ds : List D) : Option (List D) := if h : ∃ rows, SetRows ds rows then some ((Classical.choose h).map fun r => D.tup (r.map D.int)) else none
theorem setSort_eq {ds : List D} {rows : List (List Int)} (h : SetRows ds rows) : setSortO ds = some (rows.map fun r => D.tup (r.map D.int)) := by
  have e : ∃ rows, SetRows ds rows := ⟨rows, h⟩
  unfold setSortO
  rw [dif_pos e]
  have s := Classical.choose_spec e
  have : Classical.choose e = rows := asc_ll s.1 h.1 fun x => by
    constructor
    · intro hx
      obtain ⟨r, hr, e2⟩ := (h.2.1 _).mp ((s.2.1 (D.tup (x.map D.int))).mpr ⟨x, hx, rfl⟩)
      rw [rowD_inj e2]; exact hr
    · intro hx
      obtain ⟨r, hr, e2⟩ := (s.2.1 _).mp ((h.2.1 (D.tup (x.map D.int))).mpr ⟨x, hx, rfl⟩)
      rw [rowD_inj e2]; exact hr
  rw [this]
noncomputable def lSortedSet (l : SL) : SL := lMap (fun _ => setSortO) l
@[simp] theorem lSortedSet_ap (l : SL) (C : Call) (env : Env) (st : Sto) : lSortedSet l C env st = (l C env st).bind fun xs st => Res.of (setSortO xs) st := rfl
/-- codes in order: the rows in order -/
theorem code_row {B : Int} : ∀ {q r : List Int}, q.length = r.length → TS.Bd B q → TS.Bd B r → TS.code B q ≤ TS.code B r → q ≠ r → q < r
  | [], [], _, _, _, _, ne => absurd rfl ne
  | [], _ :: _, h, _, _, _, _ => by simp at h
  | _ :: _, [], h, _, _, _, _ => by simp at h
  | d :: q, e :: r, hl, h1, h2, hc, ne => by
    have hl' : q.length = r.length := by simpa using hl
    rcases Int.lt_trichotomy d e with z | z | z
    · exact List.cons_lt_cons_iff.mpr (.inl z)
    · subst z
      have hc' : TS.code B q ≤ TS.code B r := by
        rcases Int.lt_or_le (TS.code B r) (TS.code B q) with w | w
        · have := (TS.code_same (d := d) hl'.symm).mpr w
          omega
        · exact w
      exact List.cons_lt_cons_iff.mpr (.inr ⟨rfl, code_row hl' h1.tail h2.tail hc' fun x => ne (by rw [x])⟩)
    · have := TS.code_lt hl'.symm h2.tail h1.tail z
      omega
section
variable {G : Gx} {X : Cx} {W : WX} {C : Call}
theorem rows_rep {H : Hp} {ι : List Addr} : ∀ {rows : List (List Int)} {xs : List V}, RepL G H ι (rows.map fun r => D.tup (r.map D.int)) xs → ∃ ks : List (Addr × List Int), xs = ks.map (fun p => V.ref p.1) ∧ ks.map (·.2) = rows ∧ ∀ p, p ∈ ks → SqT G.K H p.1 (p.2.map V.int)
  | [], xs, h => by cases h; exact ⟨[], rfl, rfl, fun p hp => by cases hp⟩
  | r :: rows, xs, ⟨v, rest, e, ⟨a, ys, e1, h1, h2⟩, h3⟩ => by
    subst e e1
    obtain ⟨ks, k1, k2, k3⟩ := rows_rep h3
    have := h2.ints (ns := r) rfl
    subst this
    exact ⟨(a, r) :: ks, by rw [k1]; rfl, by rw [List.map_cons, k2], fun p hp => by
      rcases List.mem_cons.mp hp with rfl | hp
      · exact h1
      · exact k3 p hp⟩
theorem rep_rows {H : Hp} {ι : List Addr} : ∀ {L : List (Addr × List Int)}, (∀ p, p ∈ L → SqT G.K H p.1 (p.2.map V.int)) → RepL G H ι ((L.map (·.2)).map fun r => D.tup (r.map D.int)) (L.map fun p => V.ref p.1)
  | [], _ => rfl
  | p :: L, h => ⟨_, _, rfl, ⟨p.1, _, rfl, h p (by simp), by
      have : ∀ r : List Int, RepL G H ι (r.map D.int) (r.map V.int) := fun r => by
        induction r with
        | nil => rfl
        | cons x r ih => exact ⟨_, _, rfl, rfl, ih⟩
      exact this p.2⟩, rep_rows fun q hq => h q (by simp [hq])⟩
theorem rows_of_ds {rows : List (List Int)} : ∀ {ds : List D}, (∀ d, d ∈ ds → ∃ r, r ∈ rows ∧ d = D.tup (r.map D.int)) → ∃ M : List (List Int), ds = M.map (fun r => D.tup (r.map D.int)) ∧ ∀ r, r ∈ M → r ∈ rows
  | [], _ => ⟨[], rfl, fun r hr => by cases hr⟩
  | d :: ds, h => by
    obtain ⟨r, hr, e⟩ := h d (by simp)
    obtain ⟨M, e2, h2⟩ := rows_of_ds (rows := rows) (ds := ds) fun d' hd => h d' (List.mem_cons_of_mem _ hd)
    exact ⟨r :: M, by rw [e, e2]; rfl, fun s hs => by
      rcases List.mem_cons.mp hs with rfl | hs
      · exact hr
      · exact h2 s hs⟩
theorem big_bound (M : List (List Int)) : ∃ B : Int, 0 ≤ B ∧ ∀ r, r ∈ M → ∀ x, x ∈ r → x < B := by
  have one : ∀ r : List Int, ∃ B : Int, 0 ≤ B ∧ ∀ x, x ∈ r → x < B := fun r => by
    induction r with
    | nil => exact ⟨0, by omega, fun x hx => by cases hx⟩
    | cons y r ih =>
      obtain ⟨B, b0, h⟩ := ih
      refine ⟨B + y.natAbs + 1, by omega, fun x hx => ?_⟩
      rcases List.mem_cons.mp hx with rfl | hx
      · omega
      · have := h x hx; omega
  induction M with
  | nil => exact ⟨0, by omega, fun r hr => by cases hr⟩
  | cons r M ih =>
    obtain ⟨B, b0, h⟩ := ih
    obtain ⟨D, d0, h2⟩ := one r
    refine ⟨B + D, by omega, fun s hs x hx => ?_⟩
    rcases List.mem_cons.mp hs with rfl | hs
    · have := h2 x hx; omega
    · have := h s hs x hx; omega
theorem dt_sortedSet {e : Expr} {l : SL} (hK : X.K = G.K) (h : PE X e (tCB (rSortedT X.K X.prog X.w) (tCons (tCB (rSetOfT X.K X.prog X.w) (tCons (rG G W C (repL1 G) l) tNil)) tNil))) : DT G X W C e (lSortedSet l) :=
  pe_imp h fun σ H Q ⟨env, ι, st, hR, hp⟩ => rG.seq hR hp fun ds st1 v H1 ι1 e1 hR1 ⟨a, xs, ev, q1, r1⟩ hp1 => by
    subst ev
    obtain ⟨es, e, hp2⟩ := hp1.opt
    dsimp only at e
    unfold setSortO at e
    split at e
    · rename_i hx
      cases e
      have sr := Classical.choose_spec hx
      generalize Classical.choose hx = rows at sr hp2
      obtain ⟨pw, mem, few, d, d1, ok⟩ := sr
      obtain ⟨M, rfl, hM⟩ := rows_of_ds fun d hd => (mem d).mp hd
      obtain ⟨ks, rfl, k2, k3⟩ := rows_rep r1
      have kl : ks.length = M.length := by rw [← k2, List.length_map]
      have few' : ks.length < 64 := by rw [kl]; simpa using few
      rw [hK] at *
      refine ⟨a, ks, rfl, q1, k3, few', fun b L hb L1 L2 => ?_⟩
      obtain ⟨B, B0, hB⟩ := big_bound rows
      have kp : ∀ p, p ∈ L → p.2 ∈ rows := fun p hp => hM p.2 (by rw [← k2]; exact List.mem_map.mpr ⟨p, L1 p hp, rfl⟩)
      have up : ∀ p, p ∈ L → SqT G.K (upd H1 b (SetTO X.prog X.w b L)) p.1 (p.2.map V.int) := fun p hp => SqT.ext (ι := ι1) (ext_new hb) hR1.sto.mut (k3 p (L1 p hp))
      have bd : ∀ p, p ∈ L → p.2.length = d ∧ TS.Bd B p.2 := fun p hp => ⟨(ok _ (kp p hp)).1, fun m hm => ⟨(ok _ (kp p hp)).2 m hm, hB _ (kp p hp) m hm⟩⟩
      refine ⟨b, L, d, B, rfl, upd_same, up, d1, bd, fun L' p pm nd l64 pwc hp => ?_⟩
      have mL : ∀ q, q ∈ L' → q ∈ L := fun q hq => pm.mem_iff.mp hq
      have es' : L'.map (·.2) = rows := by
        refine asc_ll ?_ pw fun x => ?_
        · rw [List.pairwise_map]
          have nd2 : L'.Pairwise (fun q r => q.2 ≠ r.2) := List.pairwise_map.mp nd
          refine (pwc.and nd2).imp_of_mem fun {q r} hq hr ⟨h1, h2⟩ => ?_
          have bq := bd q (mL q hq)
          have br := bd r (mL r hr)
          exact code_row (by rw [bq.1, br.1]) bq.2 br.2 h1 h2
        · constructor
          · intro hx
            obtain ⟨q, hq, rfl⟩ := List.mem_map.mp hx
            exact kp q (mL q hq)
          · intro hx
            obtain ⟨r, hr, e2⟩ : ∃ r, r ∈ M ∧ r = x := by
              have := (mem (D.tup (x.map D.int))).mpr ⟨x, hx, rfl⟩
              obtain ⟨r, hr, e2⟩ := List.mem_map.mp this
              exact ⟨r, hr, rowD_inj e2⟩
            subst e2
            rw [← k2] at hr
            obtain ⟨q, hq, rfl⟩ := List.mem_map.mp hr
            obtain ⟨q2, hq2, e3⟩ := List.mem_map.mp (L2 q hq)
            exact List.mem_map.mpr ⟨q2, pm.mem_iff.mpr hq2, e3⟩
      have s1 := hR1.sto.fresh (o := SetTO X.prog X.w b L) hb
      have rr := rep_rows (G := G) (ι := ι1) (L := L') fun q hq => up q (mL q hq)
      rw [es'] at rr
      refine hp2 _ _ ι1 ((ext_new hb).trans (ext_new hp)) (s1.fresh hp) ⟨p, _, rfl, upd_same, s1.notin hp, ?_, rr.ext (ext_new hp) s1.mut⟩
      have hp1' : H1 p = none := by
        by_cases z : p = b
        · rw [z]; exact hb
        · rw [upd_ne z] at hp; exact hp
      exact fresh_back e1 hR1.sto hp1'
    · cases e
end
end OH

set_option Elab.async false
set_option linter.all false
set_option maxRecDepth 100000
set_option maxHeartbeats 1000000
/-! OHRg2: tuple(range(a, b)), list(range(a, b)). -/
namespace OH
open PySem PySem.Spec PyProof.Rows L2
section
variable {G : Gx} {X : Cx} {W : WX} {C : Call}
def rgD2 (i j : Int) : List D := (List.range (j - i).toNat).map fun (k : Nat) => D.int (i + (k : Int))
theorem rg_rep2 {H : Hp} {ι : List Addr} (i j : Int) : RepL G H ι (rgD2 i j) (rgV i j) := by
  have h := repL_ints (G := G) (H := H) (ι := ι) ((List.range (j - i).toNat).map fun (k : Nat) => i + (k : Int))
  unfold rgD2 rgV
  simp only [List.map_map, Function.comp_def] at h ⊢
  exact h
noncomputable def rngT2 (i j : Int) : Bool := tsd (0 ≤ i ∧ i ≤ j ∧ j ≤ 16777216)
theorem rngT2_of {i j : Int} (h0 : 0 ≤ i) (h1 : i ≤ j) (h2 : j ≤ 16777216) : rngT2 i j = true := of_tsd ⟨h0, h1, h2⟩
noncomputable def eTupRng2 (a b : SE) : SE := fun C env st => (a C env st).bind fun x st => (b C env st).bind fun y st => match x, y with
  | .int i, .int j => if rngT2 i j then .ok (.tup (rgD2 i j)) st else .stuck
  | _, _ => .stuck
theorem de_tupRng2 {e : Expr} {m m2 : SE} (h : PE X e (tTupRg (tRg2 (tE G W C m) (tE G W C m2)))) : DE G X W C e (eTupRng2 m m2) :=
  pe_imp h fun σ H Q ⟨env, ι, st, hR, hp⟩ => sqE hR hp fun x st1 v H1 ι1 e1 hR1 r1 hp1 => sqE hR1 hp1 fun y st2 v2 H2 ι2 e2 hR2 r2 hp2 => by
    cases x with
    | int i =>
      cases r1
      cases y with
      | int j =>
        cases r2
        dsimp only at hp2
        split at hp2
        · rename_i hz
          have hz := tsd_of hz
          exact ⟨i, j, rfl, rfl, RgOk.of_le hz.1 hz.2.2 (by omega) (by omega), fun p hp => hp2 _ _ ι2 (ext_new hp) (hR2.sto.fresh hp) ⟨p, _, rfl, SqT.of upd_same, rg_rep2 i j⟩⟩
        · exact hp2.elim
      | _ => exact hp2.elim
    | _ =>
      cases y <;> exact hp2.elim
end
end OH

set_option Elab.async false
set_option linter.all false
set_option maxRecDepth 100000
set_option maxHeartbeats 1000000
/-! OHStp: a list sliced by a step that is reckoned, 1 or -1; tuple(reversed(..)). -/
namespace OH
open PySem PySem.Spec PyProof.Rows L2
theorem stp_bounds (n : Nat) : sliceBounds none none (some 1) n = (0, (n : Int), 1) := by
  first
  | rfl
  | simp [sliceBounds]
theorem stp_range (n : Nat) : sliceRange 0 (n : Int) 1 = List.range n := by
  unfold sliceRange
  have h1 : ((1 : Int) > 0) := by decide
  by_cases h : (0 : Int) < (n : Int)
  · have e : ((n : Int) - 0 + 1 - 1) / 1 = (n : Int) := by rw [Int.ediv_one]; omega
    have e2 : ((n : Int) - 0 + 1 - 1) = n := by omega
    rw [if_pos h1, if_pos h, e2, Int.ediv_one]
    show (List.range ((n : Int)).toNat).map _ = _
    rw [Int.toNat_natCast, show (fun (k : Nat) => ((0 : Int) + 1 * (k : Int)).toNat) = id from funext fun k => by simp, List.map_id]
  · have e : n = 0 := by omega
    subst e
    simp
theorem stp_pick (items : Array Value) : slicePick items none none (some 1) = items := by
  unfold slicePick
  rw [stp_bounds]
  show ((sliceRange 0 (items.size : Int) 1).filterMap (items[·]?)).toArray = _
  rw [stp_range, PySem.W.krv_all]
section
variable {X : Cx}
def rCpL (K : PySem.W.Frag) : V → Option Int → Option Int → Option Int → Hp → VK → Prop := fun x a b c H Q => a = none ∧ b = none ∧ c = some 1 ∧ ∃ t xs, x = .ref t ∧ SqL K H t xs ∧ ∀ p, H p = none → Q (.ref p) (upd H p (.lst xs))
theorem sl3_cpL : Sl3 X (rCpL X.K) := by
  intro pins s σ H x v ps a b c sl Q I rx hs pa pb pc ⟨ea, eb, ec, t, xs, ex, hx, q⟩
  subst ea eb ec ex
  obtain ⟨v1, v2, v3⟩ := ps
  cases rx
  obtain ⟨its, r, ht, hz⟩ := I.list hx
  have hlen := r.length
  refine ⟨"list", _, slot_list_getitem.lookup, ht.isList.typeIs, ?_⟩
  refine wpAny_getItem_list_slice ht.isList hs pa pb pc (by decide) ?_ (by rw [List.size_toArray] <;> omega)
  rw [stp_pick]
  refine ⟨.ref s.heap.objs.size, _, I.laid (t' := s.toks) (o := .lst xs) (fun b ob q => Heap.get?_push_of_some _ q) (Nat.le_refl _) ?_, rfl, q _ (I.hok.fresh (Nat.le_refl _))⟩
  exact ⟨hz, _, 0, r, Heap.get?_push_size _ rfl⟩
end
def stpL : Sto → D → D → Res D := fun st x y => match x, y with
  | .ref i, .int k => match lstAt st i with
    | some ds => if k = -1 then newL ds.reverse st else if k = 1 then newL ds st else .stuck
    | none => .stuck
  | _, _ => .stuck
section
variable {G : Gx} {X : Cx} {W : WX} {C : Call}
theorem de_stpL {e f : Expr} {m n : SE} {p3 pos : Pos} (hK : X.K = G.K) (h : DE G X W C e m) (hs : DE G X W C f n) : DE G X W C (.Subscript e (.Slice none none (some f) p3) pos) (eB2 stpL m n) :=
  pe_imp (pe_sl3 (sl3_or sl3_revL sl3_cpL) h po_none po_none (po_some hs)) fun σ H Q ⟨env, ι, st, hR, hp⟩ => sqE hR hp fun x st1 v H1 ι1 e1 hR1 r1 hp1 => sqE hR1 hp1 fun y st2 v2 H2 ι2 e2 hR2 r2 hp2 => by
    have r1' := r1.ext e2 hR1.sto.mut
    cases x with
    | ref i =>
      cases y with
      | int k =>
        cases r2
        refine ⟨k, rfl, ?_⟩
        unfold stpL at hp2
        dsimp only at hp2
        split at hp2
        · rename_i ds e
          obtain ⟨a, xs, k1, k2, k3⟩ := hR2.sto.lst e
          obtain ⟨_, k1', rfl⟩ := r1'
          rw [k1] at k1'; cases k1'
          split at hp2
          · rename_i kk
            refine .inl ⟨rfl, rfl, by rw [kk], a, xs, rfl, SqL.of k2, fun p hp => ?_⟩
            obtain ⟨n1, n2, n3⟩ := new_take hR2.sto hp (repL_rev k3)
            exact hp2 _ _ _ n1 n2 n3
          · split at hp2
            · rename_i kk
              refine .inr ⟨rfl, rfl, by rw [kk], a, xs, rfl, SqL.of k2, fun p hp => ?_⟩
              obtain ⟨n1, n2, n3⟩ := new_take hR2.sto hp k3
              exact hp2 _ _ _ n1 n2 n3
            · exact hp2.elim
        · exact hp2.elim
      | _ => exact hp2.elim
    | _ => exact hp2.elim
end
end OH

set_option Elab.async false
set_option linter.all false
set_option maxRecDepth 100000
set_option maxHeartbeats 1000000
/-! OHTryN: try with any number of handlers; tuple(reversed(..)). -/
namespace OH
open PySem PySem.Spec PyProof.Rows L2
def hN (c : Nat) (x : D) (C : Call) (env' : Env) (st' : Sto) : List (List (Nat × Bool) × SS) → RS
  | [] => .exc c x env' st'
  | (t, s) :: r => match tbl t c with
    | some true => if x = .non then noXS (s C env' st') else .stuck
    | some false => hN c x C env' st' r
    | none => .stuck
def sTryN (body : SS) (hs : List (List (Nat × Bool) × SS)) : SS := fun C env st => match body C env st with
  | .exc c x env' st' => hN c x C env' st' hs
  | r => r
section
variable {G : Gx} {X : Cx} {W : WX} {C : Call}
inductive HdN (G : Gx) (X : Cx) (C : Call) : List ExceptHandler → List (Value × SS) → List (List (Nat × Bool) × SS) → Prop
  | nil : HdN G X C [] [] []
  | cons {x : Str} {cv : Value} {b₀ : Stmt} {suite : List Stmt} {np pos' : Pos} {hds : List ExceptHandler} {l : List (Value × SS)} {r : List (List (Nat × Bool) × SS)} {t : List (Nat × Bool)} {m : SS} (hc : Names X x cv)
      (hex : ∀ c b, tbl t c = some b → PySem.W.exmOne X.K (.ref (G.ca c)) cv = some b)
      (hsu : ∀ (a : Addr) (oe : Obj) (pn : List (Addr × Obj)), DSs G (X.suite a ((a, oe) :: pn)) WF C (b₀ :: suite) m) (h : HdN G X C hds l r) :
      HdN G X C (.ExceptHandler (some (.Name x np)) none (b₀ :: suite) pos' :: hds) ((cv, m) :: l) ((t, m) :: r)
theorem HdN.ok {hds : List ExceptHandler} {l : List (Value × SS)} {r : List (List (Nat × Bool) × SS)} (h : HdN G X C hds l r) :
    HdsOk X hds (l.map fun p => (p.1, fun (_ : Addr) (_ : Value) (_ : Option Addr) K σ H => tSt G WF C p.2 K σ H)) := by
  induction h with
  | nil => exact .nil
  | cons hc hex hsu h ih => exact .cons hc (fun a oe cls d pn hz hf => hsu a oe pn) ih
theorem HdN.many {hds : List ExceptHandler} {l : List (Value × SS)} {r : List (List (Nat × Bool) × SS)} (h : HdN G X C hds l r) {K : Ends} {H : Hp} {ι : List Addr} {c : Nat} {x : D} {env' : Env} {st' : Sto} (hp : postS G W K H ι (hN c x C env' st' r)) {cls : Value} {ad : Option Addr} {σ' : L2.St} {H' : Hp} {ι' : List Addr} (e' : Ext H ι H' ι') (hR' : R G σ' H' env' ι' st') (hE : ExcRep G c x H' ι' cls ad) :
    wMany X.K W K (l.map fun p => (p.1, fun (_ : Addr) (_ : Value) (_ : Option Addr) K σ H => tSt G WF C p.2 K σ H)) cls ad σ' H' := by
  induction h with
  | nil => exact hp cls ad σ' H' ι' e' hR' hE
  | @cons x0 cv b₀ suite np pos' hds l r t m hc hex hsu h ih =>
    unfold hN at hp
    cases ht : tbl t c with
    | none => rw [ht] at hp; exact hp.elim
    | some b =>
      rw [ht] at hp
      cases b with
      | false =>
        dsimp only at hp
        refine ⟨false, by rw [hE.1]; exact hex c false ht, (fun z => by cases z), fun _ => ih hp⟩
      | true =>
        dsimp only at hp
        by_cases hh : x = .non
        · rw [if_pos hh] at hp
          subst hh
          refine ⟨true, by rw [hE.1]; exact hex c true ht, fun _ a ha => ⟨env', ι', st', hR', ?_⟩, fun z => by cases z⟩
          show postS G WF K H' ι' (m C env' st')
          generalize m C env' st' = r at hp ⊢
          cases r with
          | nx env2 st2 => exact fun σ2 H2 ι2 e2 r2 => hp σ2 H2 ι2 (e'.trans e2) r2
          | brk env2 st2 => exact fun σ2 H2 ι2 e2 r2 => hp σ2 H2 ι2 (e'.trans e2) r2
          | cnt env2 st2 => exact fun σ2 H2 ι2 e2 r2 => hp σ2 H2 ι2 (e'.trans e2) r2
          | ret d st2 => exact fun v H2 ι2 e2 s2 r2 => hp v H2 ι2 (e'.trans e2) s2 r2
          | exc c x env2 st2 => exact hp.elim
          | stuck => exact hp.elim
        · rw [if_neg hh] at hp; exact hp.elim
theorem ds_tryN {body : List Stmt} {h₀ : ExceptHandler} {hds : List ExceptHandler} {pos : Pos} {mb : SS} {l : List (Value × SS)} {r : List (List (Nat × Bool) × SS)} (hs : X.stack = X.env :: X.outer) (hf : X.env.frame = some X.env.locals) (tk : Takes X W)
    (hb : ∀ (W : WX) (pn : List (Addr × Obj)) (xe : Value → Shared → Prop), Takes (X.tr pn xe) W → PassesOwn (model X.prog X.w) X.A X.env xe → DSs G (X.tr pn xe) W C body mb)
    (hh : HdN G X C (h₀ :: hds) l r) : DS G X W C (.Try body (h₀ :: hds) [] [] pos) (sTryN mb r) := by
  refine ps_imp (ps_try_many (tb := fun W => tSt G W C mb) (Wout := W) hs hf tk (fun W pn xe t p => hb W pn xe t p) hh.ok) fun K σ H ⟨env, ι, st, hR, hp⟩ => ?_
  refine ⟨env, ι, st, hR, ?_⟩
  have hp : postS G W K H ι (match mb C env st with
    | .exc c x env' st' => hN c x C env' st' r
    | r => r) := hp
  generalize mb C env st = q at hp
  cases q with
  | nx env' st' => exact hp
  | brk env' st' => exact hp
  | cnt env' st' => exact hp
  | ret d st' => exact hp
  | stuck => exact hp
  | exc c xx env' st' =>
    intro cls ad σ' H' ι' e' hR' hE
    exact hh.many hp e' hR' hE
/-! ### tuple(reversed(xs)) -/
noncomputable def eTupRev (l : SL) : SE := fun C env st => (l C env st).bind fun xs st => .ok (.tup xs.reverse) st
theorem de_tupRev {e : Expr} {l : SL} (hK : X.K = G.K) (h : PE X e (RT.tTupRev X.K (rG G W C (repL1 G) l))) : DE G X W C e (eTupRev l) :=
  pe_imp h fun σ H Q ⟨env, ι, st, hR, hp⟩ => rG.seq hR hp fun ds st1 v H1 ι1 e1 hR1 ⟨a, xs, ev, q1, r1⟩ hp1 =>
    ⟨a, xs, ev, by rw [hK]; exact q1, fun p hp2 => hp1 _ _ ι1 (ext_new hp2) (hR1.sto.fresh hp2) ⟨p, _, rfl, SqT.of upd_same, (repL_rev r1).ext (ext_new hp2) hR1.sto.mut⟩⟩
end
end OH

set_option Elab.async false
set_option linter.all false
set_option maxRecDepth 100000
set_option maxHeartbeats 1000000
/-! OHDsw: name = {..: .. for ..} on one line, where a comprehension's name is the def's own too. -/
namespace OH
open PySem PySem.Spec PyProof.Rows L2
section
variable {G : Gx} {X : Cx}
theorem dc_core {use : Option (Value → Sem Unit)} {Qf : Value → Shared → Prop} {pins : List (Addr × Obj)} {s : Shared} {σ : L2.St} {H : Hp} {Qd : V → Hp → Prop} {kx vx tg iter : Expr} {ifs : List Expr} {scope : Scope} {own : List (Str × Nat)} {pos : Pos} {wi : TI} {g : TG} {tt : TT} {tk tv : TE} (hK : X.K = G.K) (hw : X.w = G.w) (hu : X.A.units + 64 < cLine) (hc : X.calm = true) (hN : X.N.Nodup) (I : Inv X pins σ H s) (hi : PI X tg iter wi) (ok : BlkOk X.N X.env.scope scope own)
    (hg : ∀ (s : Shared) (H : Hp) (B : Addr) (cl : List (Str × Addr)) (fp : List Addr), PG (X.blk s H scope (compEnvC scope cl B X.env) fp) tg g)
    (ht : ∀ (s : Shared) (H : Hp) (B : Addr) (cl : List (Str × Addr)) (fp : List Addr), PTs (X.blk s H scope (compEnvC scope cl B X.env) fp) ifs tt)
    (hk : ∀ (s : Shared) (H : Hp) (B : Addr) (cl : List (Str × Addr)) (fp : List Addr), PE (X.blk s H scope (compEnvC scope cl B X.env) fp) kx tk)
    (hv : ∀ (s : Shared) (H : Hp) (B : Addr) (cl : List (Str × Addr)) (fp : List Addr), PE (X.blk s H scope (compEnvC scope cl B X.env) fp) vx tv) (hs : ∀ x, foldedSetIterable iter X.env x = pure x)
    (h : tDcN G wi g tt tk tv (own.map (·.2)) σ H Qd)
    (hRR : ∀ (D B : Addr) (s' : Shared) (m : Str → Option Value) (H' : Hp), Inv X pins σ H' s' → Qd (.ref D) H' → s'.heap.Ns B m → FpOk X pins H' B → compPost (model X.prog X.w) X.A X.xe use Qf (.ref D) B (.ok .next) s') :
    wpAny (model X.prog X.w) X.A (comprehension (.DictComp kx vx [⟨tg, iter, ifs, 0⟩] scope pos) scope X.env (firstIterPos [⟨tg, iter, ifs, 0⟩] pos) newDict false (eval iter X.env) use) Qf X.xe s := by
  have free : ∀ y ∈ scope.names, y.2 = .free → ∃ c, X.env.cells.lookup y.1 = some c := fun y hy e => (ok.free y hy e).elim (fun k => I.ok.has _ (.inl k)) fun k => I.ok.has _ (.inr k)
  refine wpAny_comprehension_free (use := use) rfl hs (closure_ok free) ok.kind (fun y hy e => by rw [ok.uniq y hy, e]) (thn (hi.run pins s σ H _ I h) fun xv s1 r1 => thn r1 fun iv s2 r2 => ?_)
  obtain ⟨it, fp, tn, J, H2, rfl, I2, T, n2, f2, q⟩ := r2
  refine wpAny_newObj_type (newEnv_comp ?_)
  obtain ⟨d, hd⟩ : ∃ d, d = s2.heap.objs.size := ⟨_, rfl⟩
  have dn : H2 d = none := I2.hok.fresh (Nat.le_of_eq hd.symm)
  obtain ⟨M, ⟨m0, w0⟩, turn⟩ := q d dn
  rw [← hd]
  generalize hs3 : ({ s2 with heap := s2.heap.push { cls := .type "dict", data := .dict #[] } } : Shared) = s3
  have p3 : s3.heap = s2.heap.push { cls := .type "dict", data := .dict #[] } := by rw [← hs3]
  have I3 : Inv X pins σ (upd H2 d (nD G.w d [])) s3 := by
    rw [← hs3]
    refine I2.laid (t' := s2.toks) (fun b o e => Heap.get?_push_of_some _ e) (Nat.le_of_eq hd.symm) ?_
    rw [hd]
    exact objN_new s2.heap I2.big
  have sz : ∀ b ∈ fp, b < s2.heap.objs.size := fun b hb => let ⟨_, e, _⟩ := T.obj _ _ n2 b hb; Heap.lt_size e
  have f3 : ∀ b ∈ fp, FpOk X pins (upd H2 d (nD G.w d [])) b ∧ b < s3.heap.objs.size := fun b hb => by
    have l := sz b hb
    refine ⟨⟨?_, (f2 b hb).2⟩, by rw [p3, Heap.size_push]; exact Nat.lt_succ_of_lt l⟩
    rw [upd_ne (by rw [hd]; exact Nat.ne_of_lt l)]
    exact (f2 b hb).1
  have t3 : tn 0 s3.heap := T.keep _ _ _ n2 fun b _ o e => by rw [p3]; exact Heap.get?_push_of_some _ e
  have I4 := block_start I3 ok hN f3
  obtain ⟨cs, hcs⟩ : ∃ cs, cs = cellsFrom (s3.heap.objs.size + 1) scope.names (cloFrom X.env.cells scope.names []) := ⟨_, rfl⟩
  rw [← hcs] at I4
  have pg := hg s3 (upd H2 d (nD G.w d [])) s3.heap.objs.size cs fp
  have pt := ht s3 (upd H2 d (nD G.w d [])) s3.heap.objs.size cs fp
  have pk := hk s3 (upd H2 d (nD G.w d [])) s3.heap.objs.size cs fp
  have pv := hv s3 (upd H2 d (nD G.w d [])) s3.heap.objs.size cs fp
  show codeAny _ _ (.compStart (.DictComp kx vx [⟨tg, iter, ifs, 0⟩] scope pos) 0 (.ref it) (.ref d) (compEnvC scope (cellsFrom (s3.heap.objs.size + 1) scope.names (cloFrom X.env.cells scope.names [])) s3.heap.objs.size X.env)) (compPost (model X.prog X.w) X.A X.xe use Qf (.ref d) s3.heap.objs.size) { s3 with heap := pushCells (s3.heap.push { cls := .type "dict", data := .dict #[] }) scope.names }
  rw [← hcs]
  have none3 : ∀ b ∈ fp, (upd H2 d (nD G.w d [])) b = none := fun b hb => (f3 b hb).1.1
  generalize hH3 : upd H2 d (nD G.w d []) = H3 at I3 I4 pg pt pk pv w0 none3 f3
  generalize hce : compEnvC scope cs s3.heap.objs.size X.env = ce at I4 pg pt pk pv ⊢
  have loc : ce.locals = s3.heap.objs.size := by rw [← hce]; rfl
  generalize hs4 : ({ s3 with heap := pushCells (s3.heap.push { cls := .type "dict", data := .dict #[] }) scope.names } : Shared) = s4 at I4 ⊢
  have t4 : tn 0 s4.heap := T.keep _ _ _ t3 fun b _ o e => by rw [← hs4]; exact pushCells_keeps _ _ _ _ (Heap.get?_push_of_some _ e)
  have stat : ∀ {σ' : L2.St} {H' : Hp} {s' : Shared}, Inv (X.blk s3 H3 scope ce fp) [] σ' H' s' → (∀ b ∈ fp, H' b = none) → ∀ b ∈ fp, FpOk (X.blk s3 H3 scope ce fp) [] H' b := fun {σ' H' s'} I' hn b hb =>
    ⟨hn b hb, (I'.ok.exf b hb).1, I'.ok.exfs b hb, .inl hb, fun x c e => (I'.ok.exf b hb).2 x c e, fun p hp => absurd (show p ∈ ([] : List (Addr × Obj)) ++ [] from hp) (by simp)⟩
  have walk : codeAny (model X.prog X.w) X.A (.compLoop (.DictComp kx vx [⟨tg, iter, ifs, 0⟩] scope pos) 0 (.ref it) (.ref d) ce) (compPost (model X.prog X.w) X.A X.xe use Qf (.ref d) s3.heap.objs.size) s4 := by
    refine compLoop_anyD (fun n s' => ∃ i H', Inv (X.blk s3 H3 scope ce fp) [] (wipe σ (own.map (·.2))) H' s' ∧ tn i s'.heap ∧ (∀ b ∈ fp, H' b = none) ∧ M i n H') ?_ m0 ⟨0, H3, I4, t4, none3, w0⟩
    rintro n s5 ⟨i, H5, I5, t5, n5, w5⟩
    rcases turn i n H5 w5 with ⟨stop, qq⟩ | ⟨go, N, hNx, step⟩
    · refine thnF (T.done (X.blk s3 H3 scope ce fp) rfl rfl rfl hc i [] s5 _ H5 (fun _ _ => False) I5 (stat I5 n5) t5 stop) fun r s6 ⟨hr, I6⟩ => ?_
      subst hr
      have I7 : Inv X pins σ H5 s6 := I3.call' (ch := fp) I6.os I6.base I6.hok I6.bare fun b hb => ⟨(f3 b hb).1.2.2.2.1, (f3 b hb).1.2.1, (f3 b hb).1.2.2.2.2.1, (f3 b hb).1.2.2.2.2.2⟩
      have nC : H5 s3.heap.objs.size = none := by
        have z : H5 ce.locals = none := I6.free
        rwa [loc] at z
      obtain ⟨mm, hn, _⟩ := I6.loc
      have hn : s6.heap.Ns ce.locals mm := hn
      rw [loc] at hn
      exact hRR d s3.heap.objs.size s6 mm H5 I7 qq hn (I3.fpOk (Nat.le_refl _) nC)
    · refine thnF (T.item (X.blk s3 H3 scope ce fp) rfl rfl rfl hc i [] s5 _ H5 (fun _ _ => False) I5 (stat I5 n5) t5 go) fun r s6 ⟨u, hr, h6⟩ => ?_
      subst hr
      refine thnF h6 fun _ s7 ⟨x, H7, I7, r7, y7, t7, n7⟩ => ?_
      refine thnF (pg.run _ s7 _ H7 x u _ (I7.pinned (stat I7 n7) (T.obj _ _ t7)) r7 (step x H7 y7)) fun _ s8 ⟨σ8, H8, I8, hw8, q8⟩ => ?_
      refine thnF (pt.run _ s8 σ8 H8 _ I8 q8) fun b s9 ⟨H9, I9, q9⟩ => ?_
      have fin : ∀ {s' : Shared} {H' : Hp}, Inv (X.blk s3 H3 scope ce fp) ([] ++ pinsAt fp s7.heap) σ8 H' s' → N H' → ∃ m, m < n ∧ ∃ i H', Inv (X.blk s3 H3 scope ce fp) [] (wipe σ (own.map (·.2))) H' s' ∧ tn i s'.heap ∧ (∀ b ∈ fp, H' b = none) ∧ M i m H' := fun {s' H'} I' nx => by
        obtain ⟨m', hm, w'⟩ := hNx H' nx
        have pin' : ∀ b ∈ fp, ∀ o, s7.heap.get? b = some o → s'.heap.get? b = some o ∧ H' b = none := fun b hb o e =>
          have z := I'.pin (b, o) (List.mem_append_right _ (List.mem_append_right _ (mem_pinsAt hb e)))
          ⟨z.1, z.2.1⟩
        refine ⟨m', hm, i + 1, H', (I'.unpinned (pins := [])).weak (by rw [← hw8, wipe_length]) (fun j v e => ?_), T.keep _ _ _ t7 fun b hb o e => (pin' b hb o e).1, fun b hb => ?_, w'⟩
        · rw [← hw8] at e
          exact (wipe_some e).1
        · obtain ⟨o, e, _⟩ := T.obj _ _ t7 b hb
          exact (pin' b hb o e).2
      cases b with
      | false =>
        simp only [Bool.false_eq_true, if_false] at q9 ⊢
        exact fin I9 q9
      | true =>
        simp only [if_true] at q9 ⊢
        refine thnF (pk.run _ s9 σ8 H9 _ I9 q9) fun z s10 ⟨yk, H10, I10, r10, q10⟩ => ?_
        refine thnF (pv.run _ s10 σ8 H10 _ I10 q10) fun z2 s11 ⟨yv, H11, I11, r11, sn⟩ => ?_
        exact set_dcN (X := X.blk s3 H3 scope ce fp) hK hw hu I11 sn r10 r11 fun s12 H12 nx I12 => fin I12 nx
  exact codeAny_compStart_dict walk (T.self X.A 0 _ _ _ t4 walk)

theorem ps_setDcN {i : Nat} {y : Str} {py : Pos} {kx vx tg iter : Expr} {ifs : List Expr} {scope : Scope} {own : List (Str × Nat)} {pos spos : Pos} {wi : TI} {g : TG} {tt : TT} {tk tv : TE} (hK : X.K = G.K) (hw : X.w = G.w) (hu : X.A.units + 64 < cLine) (hc : X.calm = true) (hN : X.N.Nodup) (hy : X.N[i]? = some y) (hyl : X.env.scope.names.lookup y = some .local)
    (hsw : swapsWith (.DictComp kx vx [⟨tg, iter, ifs, 0⟩] scope pos) (some (.Name y py)) spos.line X.env = pure true) (hi : PI X tg iter wi) (ok : BlkOk X.N X.env.scope scope own)
    (hg : ∀ (s : Shared) (H : Hp) (B : Addr) (cl : List (Str × Addr)) (fp : List Addr), PG (X.blk s H scope (compEnvC scope cl B X.env) fp) tg g)
    (ht : ∀ (s : Shared) (H : Hp) (B : Addr) (cl : List (Str × Addr)) (fp : List Addr), PTs (X.blk s H scope (compEnvC scope cl B X.env) fp) ifs tt)
    (hk : ∀ (s : Shared) (H : Hp) (B : Addr) (cl : List (Str × Addr)) (fp : List Addr), PE (X.blk s H scope (compEnvC scope cl B X.env) fp) kx tk)
    (hv : ∀ (s : Shared) (H : Hp) (B : Addr) (cl : List (Str × Addr)) (fp : List Addr), PE (X.blk s H scope (compEnvC scope cl B X.env) fp) vx tv) (hs : ∀ x, foldedSetIterable iter X.env x = pure x := by intro _; rfl) :
    PS X (.Assign [.Name y py] (.DictComp kx vx [⟨tg, iter, ifs, 0⟩] scope pos) spos) (tAsg (tDcN G wi g tt tk tv (own.map (·.2))) (gName i)) := by
  refine ⟨fun pins s σ H D I h => ?_⟩
  rw [exec_Assign_Name_used _ _ _ _ hsw]
  refine wpAny_bind (wpAny_standAt (wpAny_bind ?_))
  show wpAny _ X.A (do let _ ← comprehension (.DictComp kx vx [⟨tg, iter, ifs, 0⟩] scope pos) scope X.env (firstIterPos [⟨tg, iter, ifs, 0⟩] pos) newDict false (eval iter X.env) (some (assign (.Name y py) X.env))) _ _ s
  have h : tDcN G wi g tt tk tv (own.map (·.2)) σ H (fun x H1 => gName i x σ H1 D.nx) := h
  refine wpAny_bind (thn (dc_core (use := some (assign (.Name y py) X.env)) (Qf := fun _ s' => SP X pins D .next s') hK hw hu hc hN I hi ok hg ht hk hv hs h fun L C s' m H' I' q hn f => ?_) fun _ s' hq => wpAny_pure (wpAny_pure hq))
  show wpAny _ _ (assign (.Name y py) X.env (.ref L)) _ _ _
  refine wpAny_assign_Name (store_ok2 (v := V.ref L) I' hN hy (.inl hyl) rfl (fun s2 I2 ⟨a, sb, ha⟩ => ?_) (.inr hyl))
  obtain ⟨f0, f1, f2, f3, f4, f5⟩ := f
  have haC : C ≠ a := by
    rcases ha with z | z
    · rw [z]; exact f1
    · exact fun e => f4 y a z e.symm
  refine ⟨m, hn.sameBut sb haC, fun h3 sb3 => ?_⟩
  exact ⟨_, H', I2.turned (t' := s2.toks) (fun b o hb e => (sb3.2 b hb).trans e) f0 f1 f3 f4 f5, q⟩
theorem swd_true {kx vx : Expr} {gs : List Comprehension} {scope : Scope} {pos py : Pos} {y : Str} {l : Nat} {env : PySem.Env} (hk : env.scope.kind = .function) (hy : env.scope.names.lookup y = some .local) (hl : (py.line == pos.line) = true)
    (ha : (scope.names.any fun (n, k) => n == y && (k == .local || k == .cell)) = false) : swapsWith (.DictComp kx vx gs scope pos) (some (.Name y py)) l env = pure true := by
  have ky : env.kindOf y = some .local := hy
  have hb : env.blockKind = .function := by unfold Env.blockKind; rw [hk]; rfl
  unfold swapsWith
  simp only [hb, ky, ha, Expr.pos, hl]
  rfl
end
section
variable {G : Gx} {X : Cx} {W : WX} {C : Call}
theorem ds_setDc {i : Nat} {y : Str} {py : Pos} {kx vx tg iter : Expr} {ifs : List Expr} {scope : Scope} {own : List (Str × Nat)} {pos spos : Pos} {si : SI} {g : SG} {us : List Nat} {mc : SB} {mk mv : SE} (hK : X.K = G.K) (hw : X.w = G.w) (hu : X.A.units + 64 < cLine) (hc : X.calm = true) (hN : X.N.Nodup) (hy : X.N[i]? = some y) (hyl : X.env.scope.names.lookup y = some .local)
    (hsw : swapsWith (.DictComp kx vx [⟨tg, iter, ifs, 0⟩] scope pos) (some (.Name y py)) spos.line X.env = pure true) (hi : DI G X W C tg iter si) (ok : BlkOk X.N X.env.scope scope own)
    (hus : ∀ i ∈ us, i ∈ own.map (·.2))
    (hg : ∀ (s : Shared) (H : Hp) (B : Addr) (cl : List (Str × Addr)) (fp : List Addr), DG G (X.blk s H scope (compEnvC scope cl B X.env) fp) tg g us)
    (ht : ∀ (s : Shared) (H : Hp) (B : Addr) (cl : List (Str × Addr)) (fp : List Addr), DTs G (X.blk s H scope (compEnvC scope cl B X.env) fp) WF C ifs mc)
    (hk : ∀ (s : Shared) (H : Hp) (B : Addr) (cl : List (Str × Addr)) (fp : List Addr), DE G (X.blk s H scope (compEnvC scope cl B X.env) fp) WF C kx mk)
    (hv : ∀ (s : Shared) (H : Hp) (B : Addr) (cl : List (Str × Addr)) (fp : List Addr), DE G (X.blk s H scope (compEnvC scope cl B X.env) fp) WF C vx mv) (hs : ∀ x, foldedSetIterable iter X.env x = pure x := by intro _; rfl) :
    DS G X W C (.Assign [.Name y py] (.DictComp kx vx [⟨tg, iter, ifs, 0⟩] scope pos) spos) (sSet i (eNewD (lDc si g (own.map (·.2)) mc mk mv))) := by
  refine ps_imp (ps_setDcN hK hw hu hc hN hy hyl hsw hi ok hg ht hk hv hs) fun K σ H ⟨env, ι, st, hR, hp⟩ => ?_
  refine dc_read (Q := fun x H1 => gName i x σ H1 K.nx) hus ?_
  refine ⟨env, ι, st, hR, ?_⟩
  unfold sSet eNewD at hp
  generalize lDc si g (own.map (·.2)) mc mk mv C env st = r at hp
  cases r with
  | ok kvs st1 =>
    intro v H1 ι1 e s ⟨a, xs, ev, h1, h2, h3, h4⟩
    subst ev
    have hR1 := hR.ext (e.take h3) (s.push (c := .dcn kvs) h2 ⟨xs, h1, h4.1, h4.2.1.grow _, h4.2.2.grow _⟩)
    exact hp _ H1 (ι1 ++ [a]) (e.take h3) (hR1.set (d := .ref st1.length) (v := .ref a) ⟨a, by rw [← s.len]; simp, rfl⟩ i)
  | exc c x st1 => exact fun cls ad H1 ι1 e s r1 => hp cls ad σ H1 ι1 e (hR.ext e s) r1
  | stuck => exact hp
end
end OH

set_option Elab.async false
set_option linter.all false
set_option maxRecDepth 100000
set_option maxHeartbeats 1000000
/-! OHExT: list.extend by a tuple. -/
namespace OH
open PySem PySem.Spec PyProof.Rows L2
open PySem.AutoSeq1 (wpAny_loadPart')
open PySem.MeetsSeq PySem.MeetsSeq2 PySem.MeetsSeq3
open PyProof
theorem list_extend_tupG (l : Addr) (items : Array Value) (n : Nat) (b : Addr) (items2 : Array Value) (n2 : Nat) (dd : Option Addr) (sl : Array (Option Value)) (hs0 : ¬(!items.isEmpty && Builtin.List.listTooLong (items.size + items2.size)) = true) (hs1 : items.size ≤ sizeLine) (hs2 : items.size + items2.size ≤ sizeLine + 1) :
    Meets (Builtin.«list.extend» ⟨[.ref l, .ref b], []⟩) (fun _ R s => s.heap.get? l = some { cls := .type "list", dict := none, data := .seq items n, slots := #[] } ∧ s.heap.get? b = some { cls := .type "tuple", dict := dd, data := .seq items2 n2, slots := sl } ∧ R (.ok (.ret Value.none)) { s with heap := s.heap.update l (Obj.mapSeq fun x => x ++ items2), toks := s.toks }) :=
  .of_wp fun prog w A R s h => by
    obtain ⟨hp, g, d, tk, os⟩ := s; obtain ⟨hl, hb, h⟩ := h; have f1 := AutoSeq1.idx_int; have f2 := AutoSeq1.sub_tuple_tuple; have f3 := AutoSeq1.sub_list_list; have f4 := AutoSeq1.sub_tuple_list; have f5 := AutoSeq1.sub_list_tuple;
    have hz' : (items ++ items2).size ≤ sizeLine + 1 := by rw [Array.size_append]; exact hs2
    wp_walk using (wpAny_updateSeq hl rfl (hz := hs1) (_hz' := hz')), wpAny_loadPart' hl, wpAny_loadPart' hb; exact ⟨_, rfl, h⟩
section
variable {G : Gx} {X : Cx} {W : WX} {C : Call}
def rExtT (K : PySem.W.Frag) : V → List V → Hp → VK → Prop := fun x vs H Q => ∃ l b xs zs, x = .ref l ∧ vs = [.ref b] ∧ H l = some (.lst xs) ∧ SqT K H b zs ∧ xs.length + zs.length ≤ sizeLine ∧ Q .non (upd H l (.lst (xs ++ zs)))
theorem mt_extT : MtM X "list.extend" (rExtT X.K) := by
  intro pins s σ H x vs v us Q I rx rv h
  obtain ⟨l, b, xs, zs, rfl, rfl, hH, hB, hz, q⟩ := h
  cases rx
  obtain ⟨u, rfl, ru⟩ := rv.one
  cases ru
  obtain ⟨z, its, n, r, hl, e⟩ := I.lstM hH
  obtain ⟨its2, r2, ht, z2⟩ := I.tuple hB
  obtain ⟨⟨cls, dd, data, sl⟩, e2, hc, n2, hd⟩ := ht
  simp only at hc hd
  subst hc hd
  have hl2 := r2.length
  have hsz : its.toArray.size + its2.toArray.size ≤ sizeLine := by rw [List.size_toArray, List.size_toArray]; omega
  have hlong : ¬ (!its.toArray.isEmpty && Builtin.List.listTooLong (its.toArray.size + its2.toArray.size)) = true := by
    rw [notLongL hsz, Bool.and_false]
    exact Bool.false_ne_true
  refine call_meets F.slot_list_extend ⟨_, e, rfl⟩ F.entry_list_extend (F.args_list_extend_2 _ _)
    (list_extend_tupG l its.toArray n b its2.toArray n2 dd sl hlong (by rw [List.size_toArray]; omega) (by omega)) ⟨e, e2, ?_⟩
  refine ⟨.non, _, I.lset (its' := its ++ its2) hH e (by simp) (r.append r2) ?_, rfl, q⟩
  rw [List.length_append]
  omega
def extTR : Sto → D → List D → Res D := fun st x ds => match ds with
  | [.tup zs] => mutL (fun xs => if xs.length + zs.length ≤ sizeLine then some (xs ++ zs, .non) else none) st x
  | _ => .stuck
theorem brm_extT : BrM G (rExtT G.K) extTR := by
  intro W H ι st x ds v vs Q s rx rv h
  unfold extTR at h
  split at h
  · obtain ⟨y, _, rfl, ⟨b, us, eb, k2, k3⟩, rfl⟩ := rv
    subst eb
    obtain ⟨a, ds, xs, es, d, rfl, h1, h2, h3, h4⟩ := mutL_rep s rx h
    split at h3
    · rename_i hz
      cases h3
      exact ⟨a, b, xs, us, rfl, rfl, h1, k2, by rw [h2.length, k3.length]; exact hz, h4 _ .non (h2.app k3) rfl⟩
    · cases h3
  · exact h.elim
end
end OH

set_option Elab.async false
set_option linter.all false
set_option maxRecDepth 100000
set_option maxHeartbeats 1000000
/-! OHUnl: (a, b, ..) = a list of that length. -/
namespace OH
open PySem PySem.Spec PyProof.Rows L2
section
variable {G : Gx} {X : Cx} {W : WX} {C : Call}
def sAsgL (gs : List SG) (e : SE) : SS := fun C env st => (e C env st).thenS env fun d st => match d with
  | .ref i => match lstAt st i with
    | some ds => match gT gs ds env with | some env' => .nx env' st | none => .stuck
    | none => .stuck
  | _ => .stuck
theorem gT_len : ∀ (gs : List SG) (ds : List D) (env : Env) (env' : Env), gT gs ds env = some env' → ds.length = gs.length := by
  intro gs
  induction gs with
  | nil => intro ds env env' e; cases ds <;> simp [gT] at e; rfl
  | cons g gs ih =>
    intro ds env env' e
    cases ds with
    | nil => simp [gT] at e
    | cons d ds =>
      simp only [gT] at e
      obtain ⟨env1, e1, e2⟩ := Option.bind_eq_some_iff.mp e
      simp [ih _ _ _ e2]
theorem ds_asgL {e : Expr} {m : SE} {es : List Expr} {gs : List SG} {vs : List Nat} {k n : Nat} {tpos pos : Pos} (hK : X.K = G.K) (hc : X.calm = true) (he : DE G X W C e m) (h : DGs G X es gs vs)
    (hs : swapsWithSole [.Tuple es k tpos] e pos.line X.env = pure false := by rfl) (hw : swappedStores [.Tuple es k tpos] e X.env = pure none := by rfl)
    (h1 : (assignEach [.Tuple es k tpos] X.env).map (·.2) = [assign (.Tuple es k tpos) X.env] := by rfl)
    (hl : gs.length = n := by rfl) (hn : (assignEach es X.env).length = n := by rfl) (hst : (assignEach es X.env).findIdx? (·.1) = none := by rfl) : DS G X W C (.Assign [.Tuple es k tpos] e pos) (sAsgL gs m) :=
  ps_imp (ps_asg he (pg_unl hc h hn hst) hs hw h1) fun K σ H ⟨env, ι, st, hR, hp⟩ => ssE hR hp fun d st1 v H1 ι1 e1 hR1 r1 hp1 => by
    cases d with
    | ref i =>
      simp only at hp1
      cases ez : lstAt st1 i with
      | none => rw [ez] at hp1; exact hp1.elim
      | some ds =>
        rw [ez] at hp1
        simp only at hp1
        cases eg : gT gs ds env with
        | none => rw [eg] at hp1; exact hp1.elim
        | some env' =>
          rw [eg] at hp1
          obtain ⟨a, xs, k1, k2, k3⟩ := hR1.sto.lst ez
          obtain ⟨b, eb, rfl⟩ := r1
          rw [eb] at k1; cases k1
          refine ⟨a, xs, rfl, by rw [hK]; exact SqL.of k2, ?_, ds, env, ι1, st1, env', k3, hR1, eg, fun σ' hR2 _ _ => hp1 σ' H1 ι1 (Ext.refl _ _) hR2⟩
          rw [k3.length, gT_len gs ds env env' eg, hl]
    | _ => exact hp1.elim
end
end OH

set_option Elab.async false
set_option linter.all false
set_option maxRecDepth 100000
set_option maxHeartbeats 1000000
/-! OHIdx: list.index of items that are data of any depth. -/
namespace OH
open PySem PySem.Spec PyProof.Rows L2
open PySem.AutoSeq1 (wpAny_loadPart')
open PySem.MeetsSeq PySem.MeetsSeq2 PySem.MeetsSeq3
open PyProof
noncomputable def indexN : Sto → D → List D → Res D := fun st x ds => match x, ds with
  | .ref a, [y] => match dat st 4 (.ref a), dat st 4 y with
    | some (.list ps), some d => if SeqAt.shaped (.list ps) = true ∧ SeqAt.shaped d = true then match ps.findIdx? (fun z => PyData.eqv z d) with
        | some k => .ok (.int (k : Nat)) st
        | none => .stuck
      else .stuck
    | _, _ => .stuck
  | _, _ => .stuck
section
variable {G : Gx}
theorem brm_indexN : BrM G (rIndexD G.K) indexN := by
  intro W H ι st x ds v vs Q s rx rv h
  unfold indexN at h
  split at h
  · split at h
    · rename_i ps d e1 e2
      split at h
      · rename_i hs
        split at h
        · rename_i k e4
          obtain ⟨y, _, rfl, ry, rfl⟩ := rv
          have d2 := dat_rep s _ _ _ _ ry e2
          have d1 := dat_rep s _ _ _ _ rx e1
          obtain ⟨_, k1', rfl⟩ := rx
          obtain ⟨hk, e5, e6⟩ := List.findIdx?_eq_some_iff_getElem.mp e4
          refine ⟨_, _, d, ps, k, _, rfl, rfl, d1, d2, hs.1, hs.2, List.getElem?_eq_getElem hk, e5, fun m z' hm hz => ?_, h.here s (v := .int _) rfl⟩
          obtain ⟨hm2, rfl⟩ := List.getElem?_eq_some_iff.mp hz
          have := e6 m hm
          simpa using this
        · exact h.elim
      · exact h.elim
    · exact h.elim
  · exact h.elim
end
end OH

set_option Elab.async false
set_option linter.all false
set_option maxRecDepth 100000
set_option maxHeartbeats 4000000
/-! OHSetT: sorted(set(t)) of a tuple of tuples of ints, all of one length. -/
namespace OH
open PySem PySem.Spec PyProof.Rows L2
section
variable {P : Program} {w : World} {A : Around} {E : Value → Shared → Prop} {s : Shared}
/-- a set of nothing, and the heap with one -/
abbrev set0 (w : World) : Obj := { cls := .type "set", dict := none, data := .set #[] 0 (.fresh 0 0 (!w.params.followText "set-order")) }
theorem hole {h : Heap} {b : Addr} (hb : h.objs.size ≤ b) : h.get? b = none := by
  cases q : h.get? b with
  | none => rfl
  | some o => exact absurd (Nat.lt_of_lt_of_le (Heap.lt_size q) hb) (Nat.lt_irrefl _)
theorem item_ref {items : Array Value} {ks : List (Addr × List Int)} (hit : items.toList = ks.map fun p => Value.ref p.1) (i : Nat) (v : Value) (hv : items[i]? = some v) : ∃ p, ks[i]? = some p ∧ v = .ref p.1 := by
  have q : items.toList[i]? = some v := by rw [Array.getElem?_toList]; exact hv
  rw [hit, List.getElem?_map] at q
  obtain ⟨p, hp, e⟩ := Option.map_eq_some_iff.mp q
  exact ⟨p, hp, e.symm⟩
theorem set_of_tup {l : Addr} {items : Array Value} (ks : List (Addr × List Int)) {Q : Value → Shared → Prop} (hh : A.handled = none) (hl : s.heap.IsTuple l items) (hit : items.toList = ks.map fun p => Value.ref p.1)
    (hk : ∀ p ∈ ks, IsT P w s.heap p.2 p.1) (hfew : ks.length < 64) (hu : A.units + 3 < cLine)
    (h : ∀ (h' : Heap) (tk : Nat) L es ep t, SetTR P w h' s.heap.objs.size L es ep t → Got ks ks.length L → (∀ b o, s.heap.get? b = some o → h'.get? b = some o) → Q (.ref s.heap.objs.size) { s with heap := h', toks := tk }) :
    wpAny (model P w) A (call (.type "set") [.ref l]) Q E s := by
  have hisz : items.size = ks.length := by rw [← Array.length_toList, hit, List.length_map]
  obtain ⟨c, tl, hmro⟩ := F.called_set.mro
  have hmade := F.called_set.made
  have hsub := F.called_set.sub
  have h1 := F.called_set.notType
  have h2 := F.called_set.canCreate
  have hct := F.typeCall_set_1 (.ref l)
  refine wpAny_call (codeAny_of_tree ?_)
  show wpAny _ _ (callAny (.type "set") _) _ _ _
  refine wpAny_pure ⟨Code.quiet_builtin _ (by decide +kernel), codeAny_builtin F.entry_type_call ?_⟩
  rw [Around.under_plain (weight_type_call_type "set" [.ref l] []) rfl]
  repeat (any_goals (first | assumption | wp_step))

  refine codeAny_mono (code_set_led1 (.ref l) (E := E) (Q₁ := fun obj s₁ => obj = .ref s.heap.objs.size ∧ s₁ = { s with heap := s.heap.push (set0 w) }) ⟨rfl, rfl⟩) fun r s₁ hr => ?_
  cases r with
  | error e => exact hr
  | ok fl =>
    cases fl with
    | ret obj =>
      obtain ⟨rfl, rfl⟩ := hr
      have hS : (s.heap.push (set0 w)).get? s.heap.objs.size = some (set0 w) := Heap.get?_push_size _ rfl
      have hT : Shared.TypeIs { s with heap := s.heap.push (set0 w) } (.ref s.heap.objs.size) "set" := ⟨_, hS, rfl⟩
      have hli := F.called_set.init.lookup
      have hbi := F.called_set.init.bind (.ref s.heap.objs.size)
      repeat (any_goals (first | assumption | wp_step))

      refine codeAny_mono (codeAny_call_builtin (R := wants (fun r s₂ => r = .none ∧ ∃ h' tk L es ep t, s₂ = { s with heap := h', toks := tk } ∧ SetTR P w h' s.heap.objs.size L es ep t ∧ Got ks ks.length L ∧ (∀ b o, s.heap.get? b = some o → h'.get? b = some o)) E) F.called_set.init.plain F.entry_set_init (check_set_init_1 hT ?_)) fun r₂ s₂ hr₂ => ?_
      · obtain ⟨ol, hol, hcl, nl, hdl⟩ := hl
        obtain ⟨ocls, odict, odata, oslots⟩ := ol
        simp only at hcl hdl
        subst hcl; subst hdl
        have hol' : (s.heap.push (set0 w)).get? l = some { cls := .type "tuple", dict := odict, data := .seq items nl, slots := oslots } := Heap.get?_push_of_some _ hol
        have hsls := F.sub_tuple_set
        have hslf := F.sub_tuple_frozenset
        have hne : (Value.type "tuple" == Value.type "dict") = false := by decide
        have hl1 : (s.heap.push (set0 w)).IsTuple l items := ⟨_, hol', rfl, nl, rfl⟩
        unfold Builtin.«set.__init__» noKeywords Builtin.Frozenset.updateFrom
        generalize hPI : pyIter = PI
        wp_walk
        subst hPI

        refine wpAny_pyIter_tuple hl1 ?_
        refine wpAny_bind (wpAny_runValue ?_)
        have hlS : l < s.heap.objs.size := Heap.lt_size hol
        have hh3 : A.in1.in1.in1.handled = none := by simp [hh]
        have hneI : l ≠ (s.heap.push (set0 w)).objs.size := by
          rw [Heap.size_push]; exact Nat.ne_of_lt (Nat.lt_succ_of_lt hlS)
        have hSf : s.heap.objs.size ∉ [(s.heap.push (set0 w)).objs.size, l] := by
          rw [Heap.size_push]
          simp only [List.mem_cons, List.not_mem_nil, or_false, not_or]
          exact ⟨Nat.ne_of_lt (Nat.lt_succ_self _), Nat.ne_of_gt hlS⟩
        refine set_update_tups ((Walks.tuple hh3 _ l hneI items).toS) s.heap.objs.size
          hSf ks hisz hfew (item_ref hit) s.heap hk (hole (Nat.le_refl _)) (fun b hb => hole (by
            rw [List.mem_singleton.mp hb, Heap.size_push]
            exact Nat.le_succ _)) hu (items.size - 0) 0 _ (by omega) (Nat.zero_le _)
          ⟨⟨_, Heap.get?_push_size _ rfl, rfl, rfl⟩, (hl1.push _)⟩ (fun b o e => Heap.get?_push_of_some _ (Heap.get?_push_of_some _ e)) ?hS0 ?hR
        case hS0 => exact ⟨[], #[], 0, _, setTR_fresh (Heap.get?_push_of_some _ hS), Got.zero ks⟩
        case hR =>
          intro s' L es ep t hm hS' g' hkp
          obtain ⟨h', g2, d', tk', os'⟩ := s'
          have eg : g2 = s.gens := hm.gens
          have ed : d' = s.drawn := hm.drawn
          have eo : os' = s.os := hm.os
          subst eg; subst ed; subst eo
          show wpAny _ _ _ _ _ _
          refine wpAny_pure ?_
          show wpAny _ _ (ret Value.none) _ _ _
          rw [hisz] at g'
          exact wpAny_pure ⟨rfl, h', tk', L, es, ep, t, rfl, hS', g', hkp⟩

      · cases r₂ with
        | error e => exact hr₂
        | ok fl₂ =>
          cases fl₂ with
          | ret r =>
            obtain ⟨rfl, h', tk, L, es, ep, t, rfl, hS', g', hk'⟩ := hr₂
            repeat (any_goals (first | assumption | wp_step))
            exact h _ _ _ _ _ _ hS' g' hk'
          | _ => exact hr₂.elim
    | _ => exact hr.elim
end
section
variable {G : Gx} {X : Cx} {W : WX} {C : Call}
def rSetOfTT (K : PySem.W.Frag) (P : Program) (w : World) : List V → Hp → VK → Prop := fun xs H Q => ∃ (l : Addr) (ks : List (Addr × List Int)), xs = [V.ref l] ∧ SqT K H l (ks.map fun p => V.ref p.1) ∧ (∀ p ∈ ks, SqT K H p.1 (p.2.map V.int)) ∧ ks.length < 64 ∧
  ∀ a L, H a = none → (∀ p ∈ L, p ∈ ks) → (∀ p ∈ ks, p.2 ∈ L.map (·.2)) → Q (.ref a) (upd H a (SetTO P w a L))
theorem cr_setOfTT (hc : X.calm = true) (hu : X.A.units + 64 < cLine) : CallR X (.type "set") (rSetOfTT X.K X.prog X.w) := by
  intro pins s σ H xs us Q I r h
  obtain ⟨l, ks, rfl, hl, hk, hf, q⟩ := h
  rw [Vals.ref1 r]
  obtain ⟨its, rv, ⟨o, ho, hcl, n, hd⟩, _⟩ := I.tuple hl
  have hn : H s.heap.objs.size = none := I.hok.fresh (Nat.le_refl _)
  refine set_of_tup (P := X.prog) (w := X.w) ks (I.ok.hd hc) (items := its.toArray) ⟨o, ho, hcl, n, hd⟩ (by simpa using refs_of_vals rv) (fun p hp => I.isT (hk p hp)) hf (by omega) fun h' tk L es ep t R g k => ?_
  refine ⟨.ref s.heap.objs.size, upd H s.heap.objs.size (SetTO X.prog X.w s.heap.objs.size L), I.laid (t' := tk) k (Nat.le_refl _) (setTO_new R.t0), rfl, q _ L hn (fun p hp => List.mem_of_mem_take (g.sub p hp)) fun p hp => g.all p (by rw [List.take_length]; exact hp)⟩
def repLT (G : Gx) : Hp → Hp → List Addr → List D → V → Prop := fun _ H ι ds v => ∃ a xs, v = .ref a ∧ SqT G.K H a xs ∧ RepL G H ι ds xs
def itemsT : D → Option (List D)
  | .tup ds => some ds
  | _ => none
def lSeqT (a : SE) : SL := fun C env st => (a C env st).bind fun x st => Res.of (itemsT x) st
@[simp] theorem lSeqT_ap (a : SE) (C : Call) (env : Env) (st : Sto) : lSeqT a C env st = (a C env st).bind fun x st => Res.of (itemsT x) st := rfl
@[simp] theorem itemsT_tup (ds : List D) : itemsT (.tup ds) = some ds := rfl
theorem dlT_of {e : Expr} {m : SE} (h : DE G X W C e m) : PE X e (rG G W C (repLT G) (lSeqT m)) :=
  pe_imp h fun σ H Q ⟨env, ι, st, hR, hp⟩ => sqE hR hp fun x st1 v H1 ι1 e1 hR1 r1 hp1 => by
    obtain ⟨ds, e, hp2⟩ := hp1.opt
    cases x with
    | tup ds' =>
      cases e
      obtain ⟨a, xs, ev, k2, k3⟩ := r1
      exact hp2.here hR1.sto ⟨a, xs, ev, k2, k3⟩
    | _ => cases e
theorem dt_sortedSetT {e : Expr} {l : SL} (hK : X.K = G.K) (h : PE X e (tCB (rSortedT X.K X.prog X.w) (tCons (tCB (rSetOfTT X.K X.prog X.w) (tCons (rG G W C (repLT G) l) tNil)) tNil))) : DT G X W C e (lSortedSet l) :=
  pe_imp h fun σ H Q ⟨env, ι, st, hR, hp⟩ => rG.seq hR hp fun ds st1 v H1 ι1 e1 hR1 ⟨a, xs, ev, q1, r1⟩ hp1 => by
    subst ev
    obtain ⟨es, e, hp2⟩ := hp1.opt
    dsimp only at e
    unfold setSortO at e
    split at e
    · rename_i hx
      cases e
      have sr := Classical.choose_spec hx
      generalize Classical.choose hx = rows at sr hp2
      obtain ⟨pw, mem, few, d, d1, ok⟩ := sr
      obtain ⟨M, rfl, hM⟩ := rows_of_ds fun d hd => (mem d).mp hd
      obtain ⟨ks, rfl, k2, k3⟩ := rows_rep r1
      have kl : ks.length = M.length := by rw [← k2, List.length_map]
      have few' : ks.length < 64 := by rw [kl]; simpa using few
      rw [hK] at *
      refine ⟨a, ks, rfl, q1, k3, few', fun b L hb L1 L2 => ?_⟩
      obtain ⟨B, B0, hB⟩ := big_bound rows
      have kp : ∀ p, p ∈ L → p.2 ∈ rows := fun p hp => hM p.2 (by rw [← k2]; exact List.mem_map.mpr ⟨p, L1 p hp, rfl⟩)
      have up : ∀ p, p ∈ L → SqT G.K (upd H1 b (SetTO X.prog X.w b L)) p.1 (p.2.map V.int) := fun p hp => SqT.ext (ι := ι1) (ext_new hb) hR1.sto.mut (k3 p (L1 p hp))
      have bd : ∀ p, p ∈ L → p.2.length = d ∧ TS.Bd B p.2 := fun p hp => ⟨(ok _ (kp p hp)).1, fun m hm => ⟨(ok _ (kp p hp)).2 m hm, hB _ (kp p hp) m hm⟩⟩
      refine ⟨b, L, d, B, rfl, upd_same, up, d1, bd, fun L' p pm nd l64 pwc hp => ?_⟩
      have mL : ∀ q, q ∈ L' → q ∈ L := fun q hq => pm.mem_iff.mp hq
      have es' : L'.map (·.2) = rows := by
        refine asc_ll ?_ pw fun x => ?_
        · rw [List.pairwise_map]
          have nd2 : L'.Pairwise (fun q r => q.2 ≠ r.2) := List.pairwise_map.mp nd
          refine (pwc.and nd2).imp_of_mem fun {q r} hq hr ⟨h1, h2⟩ => ?_
          have bq := bd q (mL q hq)
          have br := bd r (mL r hr)
          exact code_row (by rw [bq.1, br.1]) bq.2 br.2 h1 h2
        · constructor
          · intro hx
            obtain ⟨q, hq, rfl⟩ := List.mem_map.mp hx
            exact kp q (mL q hq)
          · intro hx
            obtain ⟨r, hr, e2⟩ : ∃ r, r ∈ M ∧ r = x := by
              have := (mem (D.tup (x.map D.int))).mpr ⟨x, hx, rfl⟩
              obtain ⟨r, hr, e2⟩ := List.mem_map.mp this
              exact ⟨r, hr, rowD_inj e2⟩
            subst e2
            rw [← k2] at hr
            obtain ⟨q, hq, rfl⟩ := List.mem_map.mp hr
            obtain ⟨q2, hq2, e3⟩ := List.mem_map.mp (L2 q hq)
            exact List.mem_map.mpr ⟨q2, pm.mem_iff.mpr hq2, e3⟩
      have s1 := hR1.sto.fresh (o := SetTO X.prog X.w b L) hb
      have rr := rep_rows (G := G) (ι := ι1) (L := L') fun q hq => up q (mL q hq)
      rw [es'] at rr
      refine hp2 _ _ ι1 ((ext_new hb).trans (ext_new hp)) (s1.fresh hp) ⟨p, _, rfl, upd_same, s1.notin hp, ?_, rr.ext (ext_new hp) s1.mut⟩
      have hp1' : H1 p = none := by
        by_cases z : p = b
        · rw [z]; exact hb
        · rw [upd_ne z] at hp; exact hp
      exact fresh_back e1 hR1.sto hp1'
    · cases e
end
end OH

set_option Elab.async false
set_option linter.all false
set_option maxRecDepth 100000
/-! OHCalc: how meanings are reckoned (simp). -/
namespace OH
open PySem L2
variable {Tbl : Nat → FD} {C : Call} {env : Env} {st : Sto}
/-- bounds as Booleans: else the kernel unfolds them one by one -/
theorem rngI_of {j : Int} (h0 : -1000000000000 ≤ j) (h1 : j ≤ 1000000000000) : rngI j = true := of_tsd ⟨by omega, by omega⟩
theorem rngT_of {j : Int} (h0 : 0 ≤ j) (h1 : j ≤ 16777216) : rngT j = true := of_tsd ⟨h0, h1⟩
theorem divOk_big {j : Int} (h0 : 0 < j) (h1 : j < 18446744073709551616) : divOk j = true := of_tsd (p := 0 < j ∧ j.natAbs.log2 < 9000) (wide_div (i := 0) (b := 64) h0 (by omega) (by decide) (by decide))
theorem divOk_of {j : Int} (h0 : 0 < j) (h1 : j < 1073741824) : divOk j = true := divOk_big h0 (by omega)
@[simp] theorem pow18 : powOk 10 18 = true := of_tsd (by decide)
@[simp] theorem pow40 : powOk 10 40 = true := of_tsd (by decide)
@[simp] theorem mulOk_lit1 (j : Int) : mulOk 613 j = true := of_tsd (.inl (by decide))
theorem repOk_of {k : Int} {n : Nat} (h0 : 0 ≤ k) (h1 : k ≤ 1000000) (h2 : n * k.toNat ≤ 10000000) : repOk k n = true := of_tsd ⟨by omega, by omega, Nat.le_trans h2 (by decide)⟩
@[simp] theorem mulR_ref (i : Nat) (k : Int) : mulR st (.ref i) (.int k) = match lstAt st i with
    | some xs => if repOk k xs.length then newL (List.replicate k.toNat xs).flatten st else .stuck
    | none => .stuck := rfl
@[simp] theorem addR_ref (i j : Nat) : addR st (.ref i) (.ref j) = match lstAt st i, lstAt st j with
    | some a, some b => if a.length + b.length ≤ sizeLine then newL (a ++ b) st else .stuck
    | _, _ => .stuck := rfl
@[simp] theorem newL_ap (xs : List D) : newL xs st = .ok (.ref st.length) (st ++ [.lst xs]) := rfl
theorem mulOk_l {i j : Int} (h1 : -18446744073709551616 < i) (h2 : i < 18446744073709551616) : mulOk i j = true := of_tsd (.inl ⟨h1, h2⟩)
theorem mulOk_r {i j : Int} (h1 : -18446744073709551616 < j) (h2 : j < 18446744073709551616) : mulOk i j = true := of_tsd (.inr ⟨h1, h2⟩)
theorem popOk_of {i : Int} (h0 : -1000000000 ≤ i) (h1 : i ≤ 1000000000) : popOk i = true := of_tsd ⟨by omega, by omega⟩
theorem insOk_of {i : Int} {n : Nat} (h0 : 0 ≤ i) (h1 : i ≤ 1000000000) (h2 : n < 10000000) : insOk i n = true := of_tsd ⟨Nat.lt_of_lt_of_le h2 (by decide), h0, by omega⟩
theorem callN_succ (Tbl : Nat → FD) (k f : Nat) (ds : List D) (st : Sto) : callN Tbl (k + 1) f ds st = runFn (Tbl f) (callN Tbl k) ds st := rfl
/-- a def's run, its table's entry known -/
theorem run_eq {Tbl : Nat → FD} {k f : Nat} {ds : List D} {st : Sto} {np nl : Nat} {body : SS} (h : Tbl f = ⟨np, nl, body⟩) (hl : ds.length = np) : callN Tbl (k + 1) f ds st = endF st (body (callN Tbl k) (ds.map some ++ List.replicate (nl - np) none) st) := by
  rw [callN_succ, h]
  unfold runFn
  rw [if_pos hl]
@[simp] theorem sNx_ap : sNx C env st = .nx env st := rfl
@[simp] theorem sSeq_ap (a b : SS) : sSeq a b C env st = (a C env st).thenS fun env st => b C env st := rfl
@[simp] theorem sRet_ap (e : SE) : sRet e C env st = (e C env st).thenS env fun d st => .ret d st := rfl
@[simp] theorem sRetN_ap : sRetN C env st = .ret .non st := rfl
@[simp] theorem sExp_ap (e : SE) : sExp e C env st = (e C env st).thenS env fun _ st => .nx env st := rfl
@[simp] theorem sSet_ap (i : Nat) (e : SE) : sSet i e C env st = (e C env st).thenS env fun d st => .nx (env.set i (some d)) st := rfl
@[simp] theorem sIf_ap (c : SB) (a b : SS) : sIf c a b C env st = (c C env st).thenS env fun t st => if t then a C env st else b C env st := rfl
@[simp] theorem sBrk_ap : sBrk C env st = .brk env st := rfl
@[simp] theorem sCnt_ap : sCnt C env st = .cnt env st := rfl
@[simp] theorem sRaise_ap (c : Nat) : sRaise c C env st = .exc c .non env st := rfl
@[simp] theorem sFor_ap (it : SI) (g : SG) (b : SS) : sFor it g b C env st = (it C env st).thenS env fun w st => forGo w.src g b C w.ds env st := rfl
@[simp] theorem sWhile_ap (c : SB) (b : SS) : sWhile c b C env st = whileGo c b C wFuel env st := rfl
@[simp] theorem sAsg_ap (g : SG) (e : SE) : sAsg g e C env st = (e C env st).thenS env fun d st => match g d env with | some env' => .nx env' st | none => .stuck := rfl
@[simp] theorem sPut_ap (f : Sto → D → D → D → Option Sto) (o i e : SE) : sPut f o i e C env st = (e C env st).thenS env fun v st => (o C env st).thenS env fun x st => (i C env st).thenS env fun y st =>
  match f st x y v with | some st' => .nx env st' | none => .stuck := rfl
@[simp] theorem sAug_ap (i : Nat) (f : Sto → D → D → Res D) (e : SE) : sAug i f e C env st = (eV i C env st).thenS env fun x st => (e C env st).thenS env fun y st => (f st x y).thenS env fun z st => .nx (env.set i (some z)) st := rfl
@[simp] theorem sPar_ap (i j : Nat) (l : SL) : sPar i j l C env st = (l C env st).thenS env fun ds st => match ds with
  | [x, y] => .nx ((env.set i (some x)).set j (some y)) st
  | _ => .stuck := rfl
@[simp] theorem eV_ap (i : Nat) : eV i C env st = match env[i]? with | some (some d) => .ok d st | _ => .stuck := rfl
@[simp] theorem eC_ap (d : D) : eC d C env st = .ok d st := rfl
@[simp] theorem eU1_ap (g : Sto → D → Res D) (a : SE) : eU1 g a C env st = (a C env st).bind fun x st => g st x := rfl
@[simp] theorem eB2_ap (g : Sto → D → D → Res D) (a b : SE) : eB2 g a b C env st = (a C env st).bind fun x st => (b C env st).bind fun y st => g st x y := rfl
@[simp] theorem eA_ap (g : Sto → List D → Res D) (l : SL) : eA g l C env st = (l C env st).bind fun xs st => g st xs := rfl
@[simp] theorem eIf_ap (c : SB) (a b : SE) : eIf c a b C env st = (c C env st).bind fun t st => if t then a C env st else b C env st := rfl
@[simp] theorem eAnd_ap (a b : SE) : eAnd a b C env st = (a C env st).bind fun x st => (Res.of (truth st x) st).bind fun t st => if t then b C env st else .ok x st := rfl
@[simp] theorem eOr_ap (a b : SE) : eOr a b C env st = (a C env st).bind fun x st => (Res.of (truth st x) st).bind fun t st => if t then .ok x st else b C env st := rfl
@[simp] theorem eNot_ap (a : SE) : eNot a C env st = (a C env st).bind fun x st => (Res.of (truth st x) st).bind fun t st => .ok (.bl (!t)) st := rfl
@[simp] theorem eTup_ap (l : SL) : eTup l C env st = (l C env st).bind fun ds st => if ds.length ≤ sizeLine then .ok (.tup ds) st else .stuck := rfl
@[simp] theorem eNew_ap (l : SL) : eNew l C env st = (l C env st).bind fun xs st => .ok (.ref st.length) (st ++ [.lst xs]) := rfl
@[simp] theorem eCall_ap (f : Nat) (l : SL) : eCall f l C env st = (l C env st).bind fun xs st => C f xs st := rfl
@[simp] theorem eDct0_ap : eDct0 C env st = .ok (.ref st.length) (st ++ [.dct []]) := rfl
@[simp] theorem eM_ap (g : Sto → D → List D → Res D) (o : SE) (l : SL) : eM g o l C env st = (o C env st).bind fun x st => if isLst st x then (l C env st).bind fun ds st => g st x ds else .stuck := rfl
@[simp] theorem eM0_ap (g : Sto → D → List D → Res D) (o : SE) : eM0 g o C env st = (o C env st).bind fun x st => if isLst st x then g st x [] else .stuck := rfl
@[simp] theorem eTupRng_ap (a : SE) : eTupRng a C env st = (a C env st).bind fun x st => match x with
  | .int n => if rngT n then .ok (.tup (rgD n)) st else .stuck
  | _ => .stuck := rfl
@[simp] theorem bOf_ap (a : SE) : bOf a C env st = (a C env st).bind fun x st => Res.of (truth st x) st := rfl
@[simp] theorem bAnd_ap (a b : SB) : bAnd a b C env st = (a C env st).bind fun t st => if t then b C env st else .ok false st := rfl
@[simp] theorem bOr_ap (a b : SB) : bOr a b C env st = (a C env st).bind fun t st => if t then .ok true st else b C env st := rfl
@[simp] theorem bNot_ap (a : SB) : bNot a C env st = (a C env st).bind fun t st => .ok (!t) st := rfl
@[simp] theorem bTrue_ap : bTrue C env st = .ok true st := rfl
@[simp] theorem bCmp_ap (g : Sto → D → D → Option Bool) (a b : SE) : bCmp g a b C env st = (a C env st).bind fun x st => (b C env st).bind fun y st => Res.of (g st x y) st := rfl
@[simp] theorem lNil_ap : lNil C env st = .ok [] st := rfl
@[simp] theorem lCons_ap (a : SE) (l : SL) : lCons a l C env st = (a C env st).bind fun x st => (l C env st).bind fun xs st => .ok (x :: xs) st := rfl
@[simp] theorem lSeq_ap (a : SE) : lSeq a C env st = (a C env st).bind fun x st => Res.of (items st x) st := rfl
@[simp] theorem lSeqL_ap (a : SE) : lSeqL a C env st = (a C env st).bind fun x st => Res.of (itemsL st x) st := rfl
@[simp] theorem lMap_ap (f : Sto → List D → Option (List D)) (l : SL) : lMap f l C env st = (l C env st).bind fun xs st => Res.of (f st xs) st := rfl
@[simp] theorem lLst_ap (l : SL) : lLst l C env st = (l C env st).bind fun xs st => Res.of (if xs.length ≤ sizeLine then some xs else none) st := rfl
@[simp] theorem lLc_ap (it : SI) (g : SG) (vs : List Nat) (c : SB) (e : SE) : lLc it g vs c e C env st = (it C env st).bind fun w st => if w.ds.length ≤ sizeLine then lcGo w.src g c e C (wipeE env vs) w.ds [] st else .stuck := rfl
@[simp] theorem lRng_ap (a : SE) : lRng a C env st = (a C env st).bind fun x st => match x with
  | .int n => if rngT n then .ok (rgD n) st else .stuck
  | _ => .stuck := rfl
@[simp] theorem siR1_ap (l : SL) : siR1 l C env st = (l C env st).bind fun ds st => match ds with
  | [.int j] => if rngI j then .ok ⟨(List.range j.toNat).map fun (i : Nat) => D.int (i : Int), []⟩ st else .stuck
  | _ => .stuck := rfl
@[simp] theorem siR2_ap (l : SL) : siR2 l C env st = (l C env st).bind fun ds st => match ds with
  | [.int i, .int j] => if rngI i && rngI j then .ok ⟨(List.range (j - i).toNat).map fun (k : Nat) => D.int (i + (k : Int)), []⟩ st else .stuck
  | _ => .stuck := rfl
@[simp] theorem siOf_ap (m : SE) : siOf m C env st = (m C env st).bind fun x st => match x with
  | .tup ds => .ok ⟨ds, []⟩ st
  | .scr ds => .ok ⟨ds, []⟩ st
  | .ref i => match lstAt st i with | some ds => .ok ⟨ds, [(i, ds)]⟩ st | none => .stuck
  | _ => .stuck := rfl
@[simp] theorem siT_ap (l : SL) : siT l C env st = (l C env st).bind fun ds st => .ok ⟨ds, []⟩ st := rfl
@[simp] theorem siEnum_ap (a : SI) : siEnum a C env st = (a C env st).bind fun w st => .ok ⟨enumD 0 w.ds, w.src⟩ st := rfl
@[simp] theorem oNone_ap : oNone C env st = .ok none st := rfl
@[simp] theorem oSome_ap (e : SE) : oSome e C env st = (e C env st).bind fun x st => match x with | .int i => .ok (some i) st | _ => .stuck := rfl
@[simp] theorem eSl_ap (a : SE) (lo hi : SO) : eSl a lo hi C env st = (a C env st).bind fun x st => (lo C env st).bind fun l st => (hi C env st).bind fun u st => match x with
  | .tup ds => .ok (.tup (cutD ds l u)) st
  | .ref i => match lstAt st i with | some ds => newL (cutD ds l u) st | none => .stuck
  | .scr ds => newL (cutD ds l u) st
  | _ => .stuck := rfl
@[simp] theorem gN_ap (i : Nat) (d : D) (env : Env) : gN i d env = some (env.set i (some d)) := rfl
@[simp] theorem gTup_tup (gs : List SG) (ds : List D) (env : Env) : gTup gs (.tup ds) env = gT gs ds env := rfl
@[simp] theorem gT_nil (env : Env) : gT [] [] env = some env := rfl
@[simp] theorem gT_cons (g : SG) (gs : List SG) (d : D) (ds : List D) (env : Env) : gT (g :: gs) (d :: ds) env = (g d env).bind fun env => gT gs ds env := rfl
@[simp] theorem endF_ret (d : D) (st' : Sto) : endF st (.ret d st') = gc st d st' := rfl
@[simp] theorem endF_nx (e : Env) (st' : Sto) : endF st (.nx e st') = gc st .non st' := rfl
@[simp] theorem endF_exc (c : Nat) (x : D) (e : Env) (st' : Sto) : endF st (.exc c x e st') = gcX st c x st' := rfl
@[simp] theorem gc_self' {d : D} : gc st d st = .ok d st := gc_self
@[simp] theorem gcX_self {c : Nat} {st : Sto} : gcX st c .non st = .exc c .non st := by
  have o : OldOk st st := fun i c _ h => .inl h
  unfold gcX
  rw [if_pos ⟨o, rfl⟩]
  simp
@[simp] theorem RS.thenS_brk (e : Env) (st : Sto) (f : Env → Sto → RS) : (RS.brk e st).thenS f = .brk e st := rfl
@[simp] theorem RS.thenS_cnt (e : Env) (st : Sto) (f : Env → Sto → RS) : (RS.cnt e st).thenS f = .cnt e st := rfl
@[simp] theorem RS.thenS_stuck (f : Env → Sto → RS) : RS.stuck.thenS f = .stuck := rfl
@[simp] theorem Res.thenS_stuck {α : Type} (env : Env) (f : α → Sto → RS) : (Res.stuck : Res α).thenS env f = .stuck := rfl
@[simp] theorem Res.of_none {α : Type} (st : Sto) : Res.of (none : Option α) st = .stuck := rfl
@[simp] theorem truth_non : truth st .non = some false := rfl
@[simp] theorem truth_bl (b : Bool) : truth st (.bl b) = some b := rfl
@[simp] theorem truth_int (i : Int) : truth st (.int i) = some (i != 0) := rfl
@[simp] theorem truth_tup (ds : List D) : truth st (.tup ds) = some (!ds.isEmpty) := rfl
@[simp] theorem truth_scr (ds : List D) : truth st (.scr ds) = some (!ds.isEmpty) := rfl
@[simp] theorem truth_ref (i : Nat) : truth st (.ref i) = (lstAt st i).map fun ds => !ds.isEmpty := rfl
@[simp] theorem items_tup (ds : List D) : items st (.tup ds) = some ds := rfl
@[simp] theorem items_scr (ds : List D) : items st (.scr ds) = some ds := rfl
@[simp] theorem items_ref (i : Nat) : items st (.ref i) = lstAt st i := rfl
@[simp] theorem items_int (i : Int) : items st (.int i) = none := rfl
@[simp] theorem items_non : items st .non = none := rfl
@[simp] theorem items_bl (b : Bool) : items st (.bl b) = none := rfl
@[simp] theorem itemsL_ref (i : Nat) : itemsL st (.ref i) = lstAt st i := rfl
@[simp] theorem itemsL_scr (ds : List D) : itemsL st (.scr ds) = some ds := rfl
@[simp] theorem isLst_ref (i : Nat) : isLst st (.ref i) = (lstAt st i).isSome := rfl
@[simp] theorem addR_int (i j : Int) : addR st (.int i) (.int j) = .ok (.int (i + j)) st := rfl
@[simp] theorem addR_tup (a b : List D) : addR st (.tup a) (.tup b) = if a.length + b.length ≤ sizeLine then .ok (.tup (a ++ b)) st else .stuck := rfl
@[simp] theorem subR_int (i j : Int) : subR st (.int i) (.int j) = .ok (.int (i - j)) st := rfl
@[simp] theorem iaddR_int (i j : Int) : iaddR st (.int i) (.int j) = .ok (.int (i + j)) st := rfl
@[simp] theorem mulR_int (i j : Int) : mulR st (.int i) (.int j) = if mulOk i j then .ok (.int (i * j)) st else .stuck := rfl
@[simp] theorem divR_int (i j : Int) : divR st (.int i) (.int j) = if divOk j then .ok (.int (i / j)) st else .stuck := rfl
@[simp] theorem modR_int (i j : Int) : modR st (.int i) (.int j) = if 0 < j then .ok (.int (i % j)) st else .stuck := rfl
@[simp] theorem powR_int (i j : Int) : powR st (.int i) (.int j) = if powOk i j then .ok (.int (i ^ j.toNat)) st else .stuck := rfl
@[simp] theorem xorR_int (i j : Int) : xorR st (.int i) (.int j) = .ok (.int (Builtin.bitXor i j)) st := rfl
@[simp] theorem negR_int (i : Int) : negR st (.int i) = .ok (.int (-i)) st := rfl
@[simp] theorem intR_int (i : Int) : intR st (.int i) = .ok (.int i) st := rfl
@[simp] theorem absR_int (i : Int) : absR st (.int i) = .ok (.int (if i < 0 then -i else i)) st := rfl
@[simp] theorem ltD_int (i j : Int) : ltD st (.int i) (.int j) = some (decide (i < j)) := rfl
@[simp] theorem leD_int (i j : Int) : leD st (.int i) (.int j) = some (decide (i ≤ j)) := rfl
@[simp] theorem gtD_int (i j : Int) : gtD st (.int i) (.int j) = some (decide (j < i)) := rfl
@[simp] theorem geD_int (i j : Int) : geD st (.int i) (.int j) = some (decide (j ≤ i)) := rfl
@[simp] theorem cB_ap (g : Sto → D → D → Option Bool) (x y : D) : cB g st x y = Res.of ((g st x y).map D.bl) st := rfl
def isNon : D → Bool | .non => true | _ => false
def isBl (b : Bool) : D → Bool | .bl c => c == b | _ => false
@[simp] theorem isB_n (x : D) : isB st x .non = some (isNon x) := rfl
@[simp] theorem isB_b (x : D) (b : Bool) : isB st x (.bl b) = some (isBl b x) := rfl
@[simp] theorem isnB_n (x : D) : isnB st x .non = some (!isNon x) := rfl
@[simp] theorem isnB_b (x : D) (b : Bool) : isnB st x (.bl b) = some (!isBl b x) := rfl
@[simp] theorem isNon_non : isNon .non = true := rfl
@[simp] theorem isBl_non (c : Bool) : isBl c .non = false := rfl
@[simp] theorem isNon_bl (b : Bool) : isNon (.bl b) = false := rfl
@[simp] theorem isBl_bl (b c : Bool) : isBl c (.bl b) = (b == c) := rfl
@[simp] theorem isNon_int (i : Int) : isNon (.int i) = false := rfl
@[simp] theorem isBl_int (i : Int) (c : Bool) : isBl c (.int i) = false := rfl
@[simp] theorem isNon_str (s : Str) : isNon (.str s) = false := rfl
@[simp] theorem isBl_str (s : Str) (c : Bool) : isBl c (.str s) = false := rfl
@[simp] theorem isNon_tup (ds : List D) : isNon (.tup ds) = false := rfl
@[simp] theorem isBl_tup (ds : List D) (c : Bool) : isBl c (.tup ds) = false := rfl
@[simp] theorem isNon_ref (a : Nat) : isNon (.ref a) = false := rfl
@[simp] theorem isBl_ref (a : Nat) (c : Bool) : isBl c (.ref a) = false := rfl
@[simp] theorem isNon_scr (ds : List D) : isNon (.scr ds) = false := rfl
@[simp] theorem isBl_scr (ds : List D) (c : Bool) : isBl c (.scr ds) = false := rfl
@[simp] theorem subT_non_bool : subT (Ty.non) (Ty.bool) = false := rfl
@[simp] theorem subT_non_int : subT (Ty.non) (Ty.int) = false := rfl
@[simp] theorem subT_non_str : subT (Ty.non) (Ty.str) = false := rfl
@[simp] theorem subT_non_tup : subT (Ty.non) (Ty.tup) = false := rfl
@[simp] theorem subT_non_lst : subT (Ty.non) (Ty.lst) = false := rfl
@[simp] theorem subT_non_dict : subT (Ty.non) (Ty.dict) = false := rfl
@[simp] theorem subT_bool_non : subT (Ty.bool) (Ty.non) = false := rfl
@[simp] theorem subT_bool_int : subT (Ty.bool) (Ty.int) = true := rfl
@[simp] theorem subT_bool_str : subT (Ty.bool) (Ty.str) = false := rfl
@[simp] theorem subT_bool_tup : subT (Ty.bool) (Ty.tup) = false := rfl
@[simp] theorem subT_bool_lst : subT (Ty.bool) (Ty.lst) = false := rfl
@[simp] theorem subT_bool_dict : subT (Ty.bool) (Ty.dict) = false := rfl
@[simp] theorem subT_int_non : subT (Ty.int) (Ty.non) = false := rfl
@[simp] theorem subT_int_bool : subT (Ty.int) (Ty.bool) = false := rfl
@[simp] theorem subT_int_str : subT (Ty.int) (Ty.str) = false := rfl
@[simp] theorem subT_int_tup : subT (Ty.int) (Ty.tup) = false := rfl
@[simp] theorem subT_int_lst : subT (Ty.int) (Ty.lst) = false := rfl
@[simp] theorem subT_int_dict : subT (Ty.int) (Ty.dict) = false := rfl
@[simp] theorem subT_str_non : subT (Ty.str) (Ty.non) = false := rfl
@[simp] theorem subT_str_bool : subT (Ty.str) (Ty.bool) = false := rfl
@[simp] theorem subT_str_int : subT (Ty.str) (Ty.int) = false := rfl
@[simp] theorem subT_str_tup : subT (Ty.str) (Ty.tup) = false := rfl
@[simp] theorem subT_str_lst : subT (Ty.str) (Ty.lst) = false := rfl
@[simp] theorem subT_str_dict : subT (Ty.str) (Ty.dict) = false := rfl
@[simp] theorem subT_tup_non : subT (Ty.tup) (Ty.non) = false := rfl
@[simp] theorem subT_tup_bool : subT (Ty.tup) (Ty.bool) = false := rfl
@[simp] theorem subT_tup_int : subT (Ty.tup) (Ty.int) = false := rfl
@[simp] theorem subT_tup_str : subT (Ty.tup) (Ty.str) = false := rfl
@[simp] theorem subT_tup_lst : subT (Ty.tup) (Ty.lst) = false := rfl
@[simp] theorem subT_tup_dict : subT (Ty.tup) (Ty.dict) = false := rfl
@[simp] theorem subT_lst_non : subT (Ty.lst) (Ty.non) = false := rfl
@[simp] theorem subT_lst_bool : subT (Ty.lst) (Ty.bool) = false := rfl
@[simp] theorem subT_lst_int : subT (Ty.lst) (Ty.int) = false := rfl
@[simp] theorem subT_lst_str : subT (Ty.lst) (Ty.str) = false := rfl
@[simp] theorem subT_lst_tup : subT (Ty.lst) (Ty.tup) = false := rfl
@[simp] theorem subT_lst_dict : subT (Ty.lst) (Ty.dict) = false := rfl
@[simp] theorem subT_dict_non : subT (Ty.dict) (Ty.non) = false := rfl
@[simp] theorem subT_dict_bool : subT (Ty.dict) (Ty.bool) = false := rfl
@[simp] theorem subT_dict_int : subT (Ty.dict) (Ty.int) = false := rfl
@[simp] theorem subT_dict_str : subT (Ty.dict) (Ty.str) = false := rfl
@[simp] theorem subT_dict_tup : subT (Ty.dict) (Ty.tup) = false := rfl
@[simp] theorem subT_dict_lst : subT (Ty.dict) (Ty.lst) = false := rfl
@[simp] theorem min2_ap (i j : Int) : min2 st [.int i, .int j] = .ok (.int (min i j)) st := by
  have e : (if j < i then j else i) = min i j := by omega
  show Res.ok (D.int (if j < i then j else i)) st = _
  rw [e]
@[simp] theorem max2_ap (i j : Int) : max2 st [.int i, .int j] = .ok (.int (max i j)) st := by
  have e : (if j > i then j else i) = max i j := by omega
  show Res.ok (D.int (if j > i then j else i)) st = _
  rw [e]
theorem eqB_int (i j : Int) : eqB st (.int i) (.int j) = some (decide (i = j)) := by
  unfold eqB dat datP
  simp [SeqAt.shaped, PyData.canLay0, PyData.depth, PyData.eqv]
  by_cases h : i = j <;> simp [h]
@[simp] theorem eqB_int' (i j : Int) : eqB st (.int i) (.int j) = some (decide (i = j)) := eqB_int i j
@[simp] theorem neB_int (i j : Int) : neB st (.int i) (.int j) = some (!decide (i = j)) := by
  unfold neB; rw [eqB_int]; rfl
@[simp] theorem lenR_tup (ds : List D) : lenR st (.tup ds) = .ok (.int ds.length) st := rfl
@[simp] theorem lenR_scr (ds : List D) : lenR st (.scr ds) = .ok (.int ds.length) st := rfl
@[simp] theorem lenR_ref (i : Nat) : lenR st (.ref i) = match lstAt st i with | some ds => .ok (.int ds.length) st | none => .stuck := rfl
@[simp] theorem isiR_ap (T : Ty) (x : D) : isiR T st x = match tyOf st x with | some t => .ok (.bl (subT t T)) st | none => .stuck := rfl
@[simp] theorem tyOf_non : tyOf st .non = some .non := rfl
@[simp] theorem tyOf_bl (b : Bool) : tyOf st (.bl b) = some .bool := rfl
@[simp] theorem tyOf_int (i : Int) : tyOf st (.int i) = some .int := rfl
@[simp] theorem tyOf_str (s : Str) : tyOf st (.str s) = some .str := rfl
@[simp] theorem tyOf_tup (ds : List D) : tyOf st (.tup ds) = some .tup := rfl
@[simp] theorem tyOf_scr (ds : List D) : tyOf st (.scr ds) = some .lst := rfl
@[simp] theorem subT_self (t : Ty) : subT t t = true := by cases t <;> rfl
@[simp] theorem ixR_tup (ds : List D) (k : Int) : ixR st (.tup ds) (.int k) = Res.of (L2.atI ds k) st := rfl
@[simp] theorem ixR_scr (ds : List D) (k : Int) : ixR st (.scr ds) (.int k) = Res.of (L2.atI ds k) st := rfl
@[simp] theorem ixR_ref (i : Nat) (k : Int) : ixR st (.ref i) (.int k) = match lstAt st i with | some ds => Res.of (L2.atI ds k) st | none => .stuck := rfl
theorem atI_nat {α : Type} (xs : List α) (k : Nat) : L2.atI xs (k : Int) = xs[k]? := by
  unfold L2.atI L2.ixN
  by_cases h : k < xs.length
  · simp [h]
  · simp [h]
@[simp] theorem atI_0 {α : Type} (xs : List α) : L2.atI xs 0 = xs[0]? := atI_nat xs 0
@[simp] theorem atI_2 {α : Type} (xs : List α) : L2.atI xs 2 = xs[2]? := atI_nat xs 2
@[simp] theorem atI_3 {α : Type} (xs : List α) : L2.atI xs 3 = xs[3]? := atI_nat xs 3
@[simp] theorem atI_4 {α : Type} (xs : List α) : L2.atI xs 4 = xs[4]? := atI_nat xs 4
@[simp] theorem atI_5 {α : Type} (xs : List α) : L2.atI xs 5 = xs[5]? := atI_nat xs 5
@[simp] theorem atI_6 {α : Type} (xs : List α) : L2.atI xs 6 = xs[6]? := atI_nat xs 6
@[simp] theorem atI_7 {α : Type} (xs : List α) : L2.atI xs 7 = xs[7]? := atI_nat xs 7
@[simp] theorem atI_1 {α : Type} (xs : List α) : L2.atI xs 1 = xs[1]? := atI_nat xs 1
theorem atI_last {α : Type} (xs : List α) (h : xs ≠ []) : L2.atI xs (-1) = xs[xs.length - 1]? := by
  have : 0 < xs.length := List.length_pos_iff.mpr h
  unfold L2.atI L2.ixN
  rw [if_neg (by omega), if_pos (by omega)]
  simp only [Option.bind_some]
  congr 1
  omega
@[simp] theorem tupQ_ap (ds : List D) : tupQ st ds = if ds.length ≤ sizeLine then .ok (.tup ds) st else .stuck := rfl
@[simp] theorem sumQ_ints (ns : List Int) : sumQ st (ns.map D.int) = .ok (.int ns.sum) st := by
  unfold sumQ; rw [intsOf_map]
theorem sumQ_ap (ds : List D) : sumQ st ds = match intsOf ds with | some ns => .ok (.int ns.sum) st | none => .stuck := rfl
@[simp] theorem good_nil : good [] st = true := rfl
@[simp] theorem lo_int (n : Nat) (i : Int) : D.lo n (.int i) = true := rfl
@[simp] theorem lo_bl (n : Nat) (b : Bool) : D.lo n (.bl b) = true := rfl
@[simp] theorem lo_non (n : Nat) : D.lo n .non = true := rfl
@[simp] theorem lo_str (n : Nat) (s : Str) : D.lo n (.str s) = true := rfl
@[simp] theorem lo_tup (n : Nat) (ds : List D) : D.lo n (.tup ds) = D.loL n ds := rfl
@[simp] theorem lo_ref (n i : Nat) : D.lo n (.ref i) = decide (i < n) := rfl
@[simp] theorem loL_nil (n : Nat) : D.loL n [] = true := rfl
@[simp] theorem loL_cons (n : Nat) (d : D) (ds : List D) : D.loL n (d :: ds) = (D.lo n d && D.loL n ds) := rfl
@[simp] theorem loC_lst (n : Nat) (ds : List D) : Cell.lo n (.lst ds) = D.loL n ds := rfl
@[simp] theorem loL_ints (n : Nat) (ns : List Int) : D.loL n (ns.map D.int) = true := by
  induction ns with
  | nil => rfl
  | cons a ns ih => simp [ih]
@[simp] theorem lstAt_app_len (ds : List D) : lstAt (st ++ [.lst ds]) st.length = some ds := by
  unfold lstAt; simp
theorem lstAt_app {i : Nat} (h : i < st.length) (g : Sto) : lstAt (st ++ g) i = lstAt st i := by
  unfold lstAt; rw [List.getElem?_append_left h]
theorem small_size {n : Nat} (h : n ≤ 10000) : n ≤ sizeLine := Nat.le_trans h (by decide)
theorem lstAt_lt {i : Nat} {ds : List D} (h : lstAt st i = some ds) : i < st.length := by
  unfold lstAt at h
  split at h
  · rename_i e; exact (List.getElem?_eq_some_iff.mp e).1
  · cases h
theorem lstAt_set {i : Nat} {ds : List D} (h : i < st.length) : lstAt (st.set i (.lst ds)) i = some ds := by
  unfold lstAt; simp [h]
theorem lstAt_set_ne {i j : Nat} {c : Cell} (h : j ≠ i) : lstAt (st.set i c) j = lstAt st j := by
  unfold lstAt; rw [List.getElem?_set_ne (Ne.symm h)]
end OH

set_option Elab.async false
set_option linter.all false
set_option maxRecDepth 100000
/-! OHData: plain values as data: equality, order, membership, sorting. -/
namespace OH
open PySem L2
open PySem.W (dataLe dataLt AllAlike Sortable alike alikeAll rowLt keyToksAll keyToks)
/-- values of a type as data of depth n at most -/
structure EmbD {α : Type} [DecidableEq α] [LT α] [DecidableLT α] (n : Nat) (f : α → D) : Prop where
  dt : ∀ (r : Nat → Option PyData) x, datP r (f x) = some (encD (f x))
  q : ∀ x y, PyData.eqv (encD (f x)) (encD (f y)) = decide (x = y)
  lay : ∀ x, (encD (f x)).canLay0 = true
  dp : ∀ x, (encD (f x)).depth ≤ n
  ord : ∀ (o : O4) m x y, n ≤ m → ordN o m (f x) (f y) = some (match o with | .lt => decide (x < y) | .le => !decide (y < x) | .gt => decide (y < x) | .ge => !decide (x < y))
  al : ∀ x y, alike (encD (f x)) (encD (f y)) = true
  irr : ∀ x : α, ¬ x < x
  dl : ∀ x y, dataLt (encD (f x)) (encD (f y)) = decide (x < y)
abbrev tupF {α : Type} (f : α → D) (xs : List α) : D := .tup (xs.map f)
theorem embI : EmbD 0 D.int where
  dt r x := rfl
  q x y := by
    show (x == y) = decide (x = y)
    by_cases h : x = y <;> simp [h]
  lay x := rfl
  dp x := Nat.le_refl _
  ord o m x y _ := by
    have e : ordN o m (.int x) (.int y) = some (o.i x y) := by cases m <;> rfl
    rw [e]
    cases o
    · rfl
    · show some (decide (x ≤ y)) = some (!decide (y < x))
      congr 1
      by_cases h : x ≤ y
      · simp [h]
      · simp [h]; omega
    · rfl
    · show some (decide (y ≤ x)) = some (!decide (x < y))
      congr 1
      by_cases h : y ≤ x
      · simp [h]
      · simp [h]; omega
  al x y := by show alike (.int x) (.int y) = true; simp [alike]
  irr x := Int.lt_irrefl x
  dl x y := PySem.W.dataLt_int x y
section
variable {α : Type} [DecidableEq α] [LT α] [DecidableLT α] {n : Nat} {f : α → D}
theorem EmbD.datL (E : EmbD n f) (r : Nat → Option PyData) : ∀ xs : List α, datPL r (xs.map f) = some (xs.map fun x => encD (f x))
  | [] => rfl
  | x :: xs => by
    show ((datP r (f x)).bind fun d => (datPL r (xs.map f)).map fun ds => d :: ds) = _
    rw [E.dt, E.datL r xs]; rfl
theorem EmbD.encT (E : EmbD n f) (xs : List α) : encD (tupF f xs) = .tuple (xs.map fun x => encD (f x)) := by
  unfold encD tupF
  show ((datPL _ (xs.map f)).map PyData.tuple).getD .none = _
  rw [E.datL]; rfl
theorem EmbD.qL (E : EmbD n f) : ∀ xs ys : List α, PyData.eqvAll (xs.map fun x => encD (f x)) (ys.map fun x => encD (f x)) = decide (xs = ys)
  | [], [] => by simp [PyData.eqvAll]
  | [], y :: ys => by simp [PyData.eqvAll]
  | x :: xs, [] => by simp [PyData.eqvAll]
  | x :: xs, y :: ys => by
    simp only [List.map_cons, PyData.eqvAll]
    rw [E.q, E.qL xs ys]
    by_cases h : x = y <;> simp [h]
theorem EmbD.layL (E : EmbD n f) : ∀ xs : List α, PyData.canLayAll0 (xs.map fun x => encD (f x)) = true
  | [] => by simp [PyData.canLayAll0]
  | x :: xs => by simp only [List.map_cons, PyData.canLayAll0, E.lay, E.layL xs, Bool.and_self]
theorem EmbD.dpL (E : EmbD n f) : ∀ xs : List α, PyData.depthAll (xs.map fun x => encD (f x)) ≤ n
  | [] => by simp [PyData.depthAll]
  | x :: xs => by
    have a := E.dp x
    have b := E.dpL xs
    simp only [List.map_cons, PyData.depthAll]
    omega
theorem EmbD.alL (E : EmbD n f) : ∀ xs ys : List α, alikeAll (xs.map fun x => encD (f x)) (ys.map fun x => encD (f x)) = true
  | [], _ => by simp [alikeAll]
  | _ :: _, [] => by simp [alikeAll]
  | x :: xs, y :: ys => by simp only [List.map_cons, alikeAll, E.al, E.alL xs ys, Bool.and_self]
theorem EmbD.shp (E : EmbD n f) (h : n ≤ 64) (x : α) : SeqAt.shaped (encD (f x)) = true := by
  have := E.dp x
  unfold SeqAt.shaped
  rw [E.lay, Bool.true_and, decide_eq_true_eq]
  omega
theorem EmbD.eqP (E : EmbD n f) (h : n ≤ 64) (x y : α) : eqP (f x) (f y) = some (decide (x = y)) := by
  unfold OH.eqP
  rw [E.dt, E.dt]
  simp only [Option.bind_some]
  rw [if_pos ⟨E.shp h x, E.shp h y⟩, E.q]
theorem EmbD.lex (E : EmbD n f) (h : n ≤ 60) (o : O4) (m : Nat) (hm : n ≤ m) : ∀ xs ys : List α, lexD OH.eqP (ordN o m) o.n (xs.map f) (ys.map f) = some (match o with | .lt => decide (xs < ys) | .le => !decide (ys < xs) | .gt => decide (ys < xs) | .ge => !decide (xs < ys))
  | [], [] => by cases o <;> rfl
  | [], y :: ys => by cases o <;> simp [lexD, O4.n]
  | x :: xs, [] => by cases o <;> simp [lexD, O4.n]
  | x :: xs, y :: ys => by
    simp only [List.map_cons, lexD]
    rw [E.eqP (by omega), E.ord o m x y hm, E.lex h o m hm xs ys]
    by_cases e : x = y
    · subst e
      cases o <;> simp [List.cons_lt_cons_iff, E.irr x]
    · have e' : ¬ y = x := fun z => e z.symm
      cases o <;> simp [List.cons_lt_cons_iff, e, e']
theorem EmbD.irrL (E : EmbD n f) : ∀ xs : List α, ¬ xs < xs
  | [] => by simp
  | x :: xs => by
    rw [List.cons_lt_cons_iff]
    rintro (h | h)
    · exact E.irr x h
    · exact E.irrL xs h.2
theorem EmbD.dlL (E : EmbD n f) : ∀ xs ys : List α, rowLt (xs.map fun x => encD (f x)) (ys.map fun x => encD (f x)) = decide (xs < ys)
  | [], [] => by
    have : rowLt [] [] = false := PyProof.Rows.lex_irrefl _
    simp [this]
  | [], y :: ys => by
    have : rowLt [] (encD (f y) :: ys.map fun x => encD (f x)) = true := by
      unfold rowLt
      rw [PySem.W.toks_all_cons]
      simp only [keyToksAll]
      exact (PyProof.Rows.lex_diff (by simp)).trans rfl
    simpa using this
  | x :: xs, [] => by
    have : rowLt (encD (f x) :: xs.map fun x => encD (f x)) [] = false := by
      unfold rowLt
      rw [PySem.W.toks_all_cons]
      simp only [keyToksAll]
      exact (PyProof.Rows.lex_diff (by simp)).trans rfl
    simpa using this
  | x :: xs, y :: ys => by
    simp only [List.map_cons]
    unfold rowLt
    rw [PySem.W.dataLt_cons (E.al x y), E.q, E.dl]
    by_cases h : x = y
    · subst h
      have := E.dlL xs ys
      unfold rowLt at this
      simp [this, List.cons_lt_cons_iff, E.irr x]
    · simp [h, List.cons_lt_cons_iff]
theorem EmbD.list (E : EmbD n f) (hn : n ≤ 20) : EmbD (n + 1) (tupF f) where
  dt r x := by
    rw [E.encT]
    show (datPL r (x.map f)).map PyData.tuple = _
    rw [E.datL]; rfl
  q x y := by rw [E.encT, E.encT]; show PyData.eqvAll _ _ = _; exact E.qL x y
  lay x := by rw [E.encT]; show PyData.canLayAll0 _ = _; exact E.layL x
  dp x := by rw [E.encT]; show PyData.depthAll _ + 1 ≤ _; exact Nat.succ_le_succ (E.dpL x)
  ord o m x y h := by
    obtain ⟨k, rfl⟩ : ∃ k, m = k + 1 := ⟨m - 1, by omega⟩
    show lexD OH.eqP (ordN o k) o.n (x.map f) (y.map f) = _
    exact E.lex (by omega) o k (by omega) x y
  al x y := by rw [E.encT, E.encT]; show alike (.tuple _) (.tuple _) = _; simp only [alike]; exact E.alL x y
  irr x := E.irrL x
  dl x y := by rw [E.encT, E.encT, PySem.W.dataLt_tuple]; exact E.dlL x y
/-! ### what follows -/
theorem EmbD.dat (E : EmbD n f) (st : Sto) (k : Nat) (x : α) : dat st k (f x) = some (encD (f x)) := by cases k <;> exact E.dt _ x
theorem EmbD.eqB (E : EmbD n f) (h : n ≤ 20) (st : Sto) (x y : α) : eqB st (f x) (f y) = some (decide (x = y)) := by
  unfold OH.eqB
  rw [E.dat, E.dat]
  simp only [Option.bind_some]
  rw [if_pos ⟨E.shp (by omega) x, E.shp (by omega) y⟩, E.q]
theorem EmbD.neB (E : EmbD n f) (h : n ≤ 20) (st : Sto) (x y : α) : neB st (f x) (f y) = some (!decide (x = y)) := by
  unfold OH.neB; rw [E.eqB h]; rfl
theorem EmbD.lt (E : EmbD n f) (h : n ≤ 4) (st : Sto) (x y : α) : ltD st (f x) (f y) = some (decide (x < y)) := E.ord .lt 4 x y h
theorem EmbD.gt (E : EmbD n f) (h : n ≤ 4) (st : Sto) (x y : α) : gtD st (f x) (f y) = some (decide (y < x)) := E.ord .gt 4 x y h
theorem EmbD.le (E : EmbD n f) (h : n ≤ 4) (st : Sto) (x y : α) : leD st (f x) (f y) = some (!decide (y < x)) := E.ord .le 4 x y h
theorem EmbD.ge (E : EmbD n f) (h : n ≤ 4) (st : Sto) (x y : α) : geD st (f x) (f y) = some (!decide (x < y)) := E.ord .ge 4 x y h
theorem EmbD.any (E : EmbD n f) (x : α) : ∀ ys : List α, (ys.map fun y => encD (f y)).any (fun z => PyData.eqv z (encD (f x))) = decide (x ∈ ys)
  | [] => by simp
  | y :: ys => by
    rw [List.map_cons, List.any_cons, E.q, E.any x ys]
    by_cases h : x = y
    · simp [h]
    · have h' : ¬ y = x := fun e => h e.symm
      simp [h, h']
theorem EmbD.notStr (E : EmbD n f) (x : α) (h : ∀ s, f x ≠ .str s) (st : Sto) (y : D) : inB st (f x) y = (OH.dat st 4 (f x)).bind fun d => (OH.dat st 4 y).bind fun e => match e with
    | .list ds => if SeqAt.shaped d = true ∧ SeqAt.shaped (.list ds) = true then some (ds.any fun z => PyData.eqv z d) else none
    | .tuple ds => if SeqAt.shaped d = true ∧ SeqAt.shaped (.tuple ds) = true then some (ds.any fun z => PyData.eqv z d) else none
    | _ => none := by
  unfold inB
  split
  · rename_i a b e; exact absurd e (h a)
  · rfl
theorem EmbD.shpT (E : EmbD n f) (h : n ≤ 20) (xs : List α) : SeqAt.shaped (.tuple (xs.map fun x => encD (f x))) = true := by
  have := (E.list h).shp (by omega) xs
  rwa [E.encT] at this
theorem EmbD.inT (E : EmbD n f) (h : n ≤ 20) (x : α) (hs : ∀ s, f x ≠ .str s) (st : Sto) (ys : List α) : inB st (f x) (.tup (ys.map f)) = some (decide (x ∈ ys)) := by
  rw [E.notStr x hs, E.dat]
  have e : OH.dat st 4 (.tup (ys.map f)) = some (.tuple (ys.map fun y => encD (f y))) := by
    have := (E.list h).dat st 4 ys
    rwa [E.encT] at this
  rw [e]
  simp only [Option.bind_some]
  rw [if_pos ⟨E.shp (by omega) x, E.shpT h ys⟩, E.any]
theorem EmbD.datR (E : EmbD n f) (st : Sto) (i : Nat) (ys : List α) (hi : lstAt st i = some (ys.map f)) : OH.dat st 4 (.ref i) = some (.list (ys.map fun y => encD (f y))) := by
  show ((lstAt st i).bind fun ds => (ds.mapM (OH.dat st 3)).map PyData.list) = _
  rw [hi]
  have : (ys.map f).mapM (OH.dat st 3) = some (ys.map fun y => encD (f y)) := by
    induction ys with
    | nil => rfl
    | cons y ys ih => 
      have : ∀ zs : List α, (zs.map f).mapM (OH.dat st 3) = some (zs.map fun y => encD (f y)) := fun zs => by
        induction zs with
        | nil => rfl
        | cons z zs ih => rw [List.map_cons, List.mapM_cons, E.dat, ih]; rfl
      exact this (y :: ys)
  simp [this]
theorem EmbD.inL (E : EmbD n f) (h : n ≤ 20) (x : α) (hs : ∀ s, f x ≠ .str s) (st : Sto) (i : Nat) (ys : List α) (hi : lstAt st i = some (ys.map f)) : inB st (f x) (.ref i) = some (decide (x ∈ ys)) := by
  rw [E.notStr x hs, E.dat, E.datR st i ys hi]
  simp only [Option.bind_some]
  have : SeqAt.shaped (.list (ys.map fun y => encD (f y))) = true := E.shpT h ys
  rw [if_pos ⟨E.shp (by omega) x, this⟩, E.any]
theorem EmbD.leS (E : EmbD n f) (x y : α) : leS (f x) (f y) = !decide (y < x) := by
  show (!dataLt (encD (f y)) (encD (f x))) = _
  rw [E.dl]
theorem EmbD.sort (E : EmbD n f) (h : n ≤ 20) (xs : List α) (hs : Sortable (xs.map fun x => encD (f x))) : sortO (xs.map f) = some ((xs.mergeSort fun a b => !decide (b < a)).map f) := by
  unfold sortO
  have e : (xs.map f).map encD = xs.map fun x => encD (f x) := by rw [List.map_map]; rfl
  have ok : SortOk (xs.map f) := by
    refine ⟨fun d hd => ?_, ?_, by rw [e]; exact hs, fun d hd => ?_⟩
    · obtain ⟨x, _, rfl⟩ := List.mem_map.mp hd
      rw [E.dt]; rfl
    · rw [e]
      intro d hd d' hd'
      obtain ⟨x, _, rfl⟩ := List.mem_map.mp hd
      obtain ⟨y, _, rfl⟩ := List.mem_map.mp hd'
      exact E.al x y
    · obtain ⟨x, _, rfl⟩ := List.mem_map.mp hd
      have := E.dp x
      omega
  rw [if_pos ok]
  congr 1
  exact (List.map_mergeSort (r := fun a b => !decide (b < a)) (s := OH.leS) (f := f) (l := xs) (fun a _ b _ => (E.leS a b).symm)).symm
end
theorem sortI (xs : List Int) : sortO (xs.map D.int) = some ((xs.mergeSort fun a b => !decide (b < a)).map D.int) := embI.sort (by decide) xs (.inr fun d hd => by
  obtain ⟨x, _, rfl⟩ := List.mem_map.mp hd
  exact ⟨by simp [encD, datP], by simp [encD, datP]⟩)
theorem EmbD.sortL {α : Type} [DecidableEq α] [LT α] [DecidableLT α] {n : Nat} {f : α → D} (E : EmbD n f) (h : n ≤ 19) (xs : List (List α)) (hx : ∀ x, x ∈ xs → x ≠ []) : sortO (xs.map (tupF f)) = some ((xs.mergeSort fun a b => !decide (b < a)).map (tupF f)) :=
  (E.list (by omega)).sort (by omega) xs (.inl fun d hd => by
    obtain ⟨x, hx', rfl⟩ := List.mem_map.mp hd
    rw [E.encT]
    cases x with
    | nil => exact absurd rfl (hx _ hx')
    | cons y ys => exact ⟨_, _, rfl⟩)
abbrev dT : List Int → D := tupF D.int
abbrev dTT : List (List Int) → D := tupF dT
theorem embT : EmbD 1 dT := embI.list (by decide)
theorem embTT : EmbD 2 dTT := embT.list (by decide)
theorem embTTT : EmbD 3 (tupF dTT) := embTT.list (by decide)
end OH

set_option Elab.async false
set_option linter.all false
set_option maxRecDepth 100000
/-! OHCal2: how the newer meanings are reckoned (simp). -/
namespace OH
open PySem L2
variable {C : Call} {env : Env} {st : Sto}
@[simp] theorem eDm1_ap (g : Sto → D → D → Res D) (o a : SE) : eDm1 g o a C env st = (o C env st).bind fun x st => if (dcnAt st x).isSome then (a C env st).bind fun y st => g st x y else .stuck := rfl
@[simp] theorem min3_ap (i j k : Int) : min3 st [.int i, .int j, .int k] = .ok (.int (if j < i then (if k < j then k else j) else (if k < i then k else i))) st := rfl
@[simp] theorem max3_ap (i j k : Int) : max3 st [.int i, .int j, .int k] = .ok (.int (if j > i then (if k > j then k else j) else (if k > i then k else i))) st := rfl
@[simp] theorem eTupRng2_ap (a b : SE) : eTupRng2 a b C env st = (a C env st).bind fun x st => (b C env st).bind fun y st => match x, y with
  | .int i, .int j => if rngT2 i j then .ok (.tup (rgD2 i j)) st else .stuck
  | _, _ => .stuck := rfl
@[simp] theorem stpL_ap (i : Nat) (k : Int) : stpL st (.ref i) (.int k) = match lstAt st i with
    | some ds => if k = -1 then newL ds.reverse st else if k = 1 then newL ds st else .stuck
    | none => .stuck := rfl
@[simp] theorem eTupRev_ap (l : SL) : eTupRev l C env st = (l C env st).bind fun xs st => .ok (.tup xs.reverse) st := rfl
theorem sTryN_ap (body : SS) (hs : List (List (Nat × Bool) × SS)) : sTryN body hs C env st = match body C env st with
  | .exc c x env' st' => hN c x C env' st' hs
  | r => r := rfl
end OH

set_option Elab.async false
set_option linter.all false
/-! OHComb: rows of so many cards out of an ascending row (plain Lean). -/
namespace OH
def okNext (row : List Int) (c : Int) : Bool := row.isEmpty || decide (row.getLast?.getD 0 < c)
def rowsOut (cards : List Int) : Nat → List (List Int)
  | 0 => [[]]
  | k + 1 => (rowsOut cards k).flatMap fun row => (cards.filter (okNext row)).map fun c => row ++ [c]
def combs : Nat → List Int → List (List Int)
  | 0, _ => [[]]
  | _ + 1, [] => []
  | k + 1, c :: cs => (combs k cs).map (c :: ·) ++ combs (k + 1) cs
def chooseN : Nat → Nat → Nat
  | _, 0 => 1
  | 0, _ + 1 => 0
  | n + 1, k + 1 => chooseN n k + chooseN n (k + 1)
theorem combs_zero (cs : List Int) : combs 0 cs = [[]] := by cases cs <;> rfl
theorem combs_len : ∀ (k : Nat) (cs : List Int), (combs k cs).length = chooseN cs.length k
  | 0, cs => by rw [combs_zero]; cases cs <;> rfl
  | k + 1, [] => rfl
  | k + 1, c :: cs => by simp [combs, chooseN, combs_len k cs, combs_len (k + 1) cs]
theorem combs_mem : ∀ (k : Nat) (cs : List Int) (r : List Int), r ∈ combs k cs → r.length = k ∧ r.Sublist cs
  | 0, cs, r, h => by
    rw [combs_zero] at h
    simp at h
    subst h
    exact ⟨rfl, List.nil_sublist _⟩
  | k + 1, [], r, h => by cases h
  | k + 1, c :: cs, r, h => by
    simp only [combs, List.mem_append, List.mem_map] at h
    rcases h with ⟨r', h, rfl⟩ | h
    · obtain ⟨a, b⟩ := combs_mem k cs r' h
      exact ⟨by simp [a], b.cons_cons c⟩
    · obtain ⟨a, b⟩ := combs_mem (k + 1) cs r h
      exact ⟨a, b.cons c⟩
theorem mem_combs : ∀ (cs : List Int) (r : List Int), r.Sublist cs → r ∈ combs r.length cs
  | cs, [], _ => by rw [List.length_nil, combs_zero]; simp
  | [], _ :: _, h => by cases h
  | c :: cs, x :: r, h => by
    simp only [List.length_cons, combs, List.mem_append, List.mem_map]
    cases h with
    | cons _ h => exact .inr (mem_combs cs (x :: r) h)
    | cons_cons _ h => exact .inl ⟨r, mem_combs cs r h, rfl⟩
theorem choose_le : ∀ n k, chooseN n k ≤ 2 ^ n
  | n, 0 => by cases n <;> exact Nat.one_le_two_pow
  | 0, _ + 1 => by simp [chooseN]
  | n + 1, k + 1 => by
    have a := choose_le n k
    have b := choose_le n (k + 1)
    rw [Nat.pow_succ]
    simp only [chooseN]
    omega
/-- ascending, without duplicates -/
abbrev Asc (cs : List Int) : Prop := cs.Pairwise (· < ·)
theorem okNext_cons {c : Int} {cs r : List Int} (h : Asc (c :: cs)) (hr : r.Sublist cs) : (c :: cs).filter (okNext (c :: r)) = cs.filter (okNext r) := by
  obtain ⟨h1, h2⟩ := List.pairwise_cons.mp h
  have hl : ∀ x, okNext (c :: r) x = decide ((c :: r).getLast?.getD 0 < x) := fun x => by simp [okNext]
  cases r with
  | nil =>
    have e : ∀ x, okNext [c] x = decide (c < x) := fun x => by simp [okNext]; rfl
    have e0 : ∀ x, okNext [] x = true := fun x => by simp [okNext]
    rw [List.filter_cons, e]
    simp only [Int.lt_irrefl, decide_false, Bool.false_eq_true, if_false]
    apply List.filter_congr
    intro x hx
    rw [e, e0]
    simpa using h1 x hx
  | cons y r =>
    have e : ∀ x, okNext (c :: y :: r) x = okNext (y :: r) x := fun x => by simp [okNext, List.getLast?_cons_cons]
    have hc : okNext (c :: y :: r) c = false := by
      rw [e]
      simp only [okNext, List.isEmpty_cons, Bool.false_or, decide_eq_false_iff_not]
      have hm : (y :: r).getLast?.getD 0 ∈ cs := by
        rw [List.getLast?_eq_some_getLast (by simp)]
        exact hr.subset (List.getLast_mem _)
      have := h1 _ hm
      omega
    rw [List.filter_cons, hc]
    simp only [Bool.false_eq_true, if_false]
    exact List.filter_congr fun x _ => e x
theorem okNext_skip {c : Int} {cs r : List Int} (h : Asc (c :: cs)) (hr : r.Sublist cs) (hn : r ≠ []) : (c :: cs).filter (okNext r) = cs.filter (okNext r) := by
  obtain ⟨h1, h2⟩ := List.pairwise_cons.mp h
  have hc : okNext r c = false := by
    cases r with
    | nil => exact absurd rfl hn
    | cons y r =>
      simp only [okNext, List.isEmpty_cons, Bool.false_or, decide_eq_false_iff_not]
      have hm : (y :: r).getLast?.getD 0 ∈ cs := by
        rw [List.getLast?_eq_some_getLast (by simp)]
        exact hr.subset (List.getLast_mem _)
      have := h1 _ hm
      omega
  rw [List.filter_cons, hc]
  simp
theorem flatMap_congr' {α β : Type} {f g : α → List β} : ∀ {l : List α}, (∀ x, x ∈ l → f x = g x) → l.flatMap f = l.flatMap g
  | [], _ => rfl
  | a :: l, h => by
    rw [List.flatMap_cons, List.flatMap_cons, h a List.mem_cons_self, flatMap_congr' fun x hx => h x (List.mem_cons_of_mem _ hx)]
theorem combs_succ : ∀ (k : Nat) (cs : List Int), Asc cs → combs (k + 1) cs = (combs k cs).flatMap fun row => (cs.filter (okNext row)).map fun c => row ++ [c]
  | 0, [], _ => rfl
  | k + 1, [], _ => rfl
  | 0, c :: cs, h => by
    have ih := combs_succ 0 cs (List.pairwise_cons.mp h).2
    rw [combs_zero] at ih
    have e : ∀ l : List Int, l.filter (okNext []) = l := fun l => by
      apply List.filter_eq_self.mpr
      intro x _
      rfl
    simp only [combs, combs_zero, List.flatMap_cons, List.flatMap_nil, e] at ih ⊢
    rw [ih]
    simp
  | k + 1, c :: cs, h => by
    have h2 := (List.pairwise_cons.mp h).2
    have i1 := combs_succ k cs h2
    have i2 := combs_succ (k + 1) cs h2
    show (combs (k + 1) cs).map (c :: ·) ++ combs (k + 2) cs = ((combs k cs).map (c :: ·) ++ combs (k + 1) cs).flatMap _
    rw [List.flatMap_append]
    congr 1
    · rw [i1, List.flatMap_map, List.map_flatMap]
      apply flatMap_congr'
      intro r hr
      rw [okNext_cons h (combs_mem k cs r hr).2, List.map_map]
      rfl
    · rw [i2]
      apply flatMap_congr'
      intro r hr
      obtain ⟨a, b⟩ := combs_mem (k + 1) cs r hr
      rw [okNext_skip h b (by intro e; rw [e] at a; cases a)]
theorem rowsOut_eq {cs : List Int} (h : Asc cs) : ∀ k, rowsOut cs k = combs k cs
  | 0 => (combs_zero cs).symm
  | k + 1 => by rw [combs_succ k cs h, ← rowsOut_eq h k]; rfl
/-- in order, without duplicates -/
theorem combs_asc : ∀ (k : Nat) (cs : List Int), Asc cs → (combs k cs).Pairwise (· < ·)
  | 0, cs, _ => by rw [combs_zero]; simp
  | k + 1, [], _ => List.Pairwise.nil
  | k + 1, c :: cs, h => by
    obtain ⟨h1, h2⟩ := List.pairwise_cons.mp h
    simp only [combs]
    refine List.pairwise_append.mpr ⟨List.pairwise_map.mpr ((combs_asc k cs h2).imp fun {a b} hab => ?_), combs_asc (k + 1) cs h2, fun a ha b hb => ?_⟩
    · rw [List.cons_lt_cons_iff]; exact .inr ⟨rfl, hab⟩
    · obtain ⟨r, hr, rfl⟩ := List.mem_map.mp ha
      obtain ⟨e, s⟩ := combs_mem (k + 1) cs b hb
      cases b with
      | nil => cases e
      | cons y b =>
        rw [List.cons_lt_cons_iff]
        exact .inl (h1 y (s.subset List.mem_cons_self))
end OH

set_option Elab.async false
set_option linter.all false
set_option maxRecDepth 100000
set_option maxHeartbeats 4000000
namespace OH
open PySem PySem.Spec
/-- _law_draws -/
noncomputable def fd_law_draws : FD := { np := 2, nl := 6, body := (sSeq (sSet 2 (eU1 intR (eV 0))) (sSeq (sIf (bCmp ltD (eV 2) (eB2 powR (eC (.int 10)) (eC (.int 18)))) (sSeq (sSet 2 (eC (.int 0))) sNx) sNx) (sSeq (sSet 3 (eNew (lLst lNil))) (sSeq (sFor (siR1 (lCons (eV 1) lNil)) (gN 4) (sSeq (sIf (bCmp gtD (eV 2) (eC (.int 0))) (sSeq (sExp (eM appendR (eV 3) (lCons (eB2 modR (eV 2) (eC (.int 2003))) lNil))) (sSeq (sSet 2 (eB2 divR (eV 2) (eC (.int 2003)))) sNx)) (sSeq (sSet 5 (eB2 addR (eB2 addR (eB2 mulR (eB2 modR (eU1 intR (eV 0)) (eC (.int 1000000007))) (eC (.int 31))) (eB2 mulR (eC (.int 7919)) (eV 4))) (eC (.int 104729)))) (sSeq (sSet 5 (eB2 modR (eU1 intR (eB2 mulR (eV 5) (eB2 addR (eB2 addR (eV 5) (eC (.int 12345))) (eB2 mulR (eC (.int 977)) (eV 4))))) (eC (.int 2147483647)))) (sSeq (sExp (eM appendR (eV 3) (lCons (eB2 modR (eB2 modR (eU1 intR (eB2 mulR (eV 5) (eV 5))) (eC (.int 2147483629))) (eC (.int 2003))) lNil))) sNx)))) sNx)) (sSeq (sRet (eV 3)) sNx))))) }
/-- _law_setting -/
noncomputable def fd_law_setting : FD := { np := 2, nl := 4, body := (sSeq (sSet 2 (eB2 addR (eC (.int 1)) (eB2 modR (eB2 ixR (eV 0) (eC (.int 0))) (eB2 subR (eV 1) (eC (.int 2)))))) (sSeq (sSet 3 (eB2 addR (eC (.int 1)) (eB2 modR (eB2 ixR (eV 0) (eC (.int 1))) (eB2 subR (eB2 subR (eV 1) (eC (.int 1))) (eV 2))))) (sSeq (sRet (eTup (lCons (eV 2) (lCons (eV 3) (lCons (eB2 addR (eC (.int 1)) (eB2 modR (eB2 ixR (eV 0) (eC (.int 2))) (eB2 subR (eB2 subR (eV 1) (eV 2)) (eV 3)))) lNil))))) sNx))) }
/-- _law_prime -/
noncomputable def fd_law_prime : FD := { np := 1, nl := 1, body := (sSeq (sRet (eB2 ixR (eNew (lLst (lCons (eC (.int 3)) (lCons (eC (.int 5)) (lCons (eC (.int 5)) (lCons (eC (.int 7)) (lCons (eC (.int 7)) (lCons (eC (.int 11)) (lCons (eC (.int 11)) (lCons (eC (.int 11)) (lCons (eC (.int 11)) (lCons (eC (.int 13)) (lCons (eC (.int 13)) lNil))))))))))))) (eB2 subR (eV 0) (eC (.int 3))))) sNx) }
/-- _law_cell_at -/
noncomputable def fd_law_cell_at : FD := { np := 2, nl := 2, body := (sSeq (sIf (bCmp ltD (eV 1) (eU1 lenR (eV 0))) (sSeq (sRet (eB2 ixR (eV 0) (eV 1))) sNx) sNx) (sSeq (sRet (eC (.int 0))) sNx)) }
/-- _law_great -/
noncomputable def fd_law_great : FD := { np := 1, nl := 4, body := (sSeq (sSet 1 (eB2 addR (eC (.int 10)) (eB2 modR (eB2 ixR (eV 0) (eC (.int 0))) (eC (.int 4))))) (sSeq (sSet 2 (eB2 addR (eC (.int 1)) (eB2 modR (eB2 ixR (eV 0) (eC (.int 1))) (eC (.int 3))))) (sSeq (sIf (bAnd (bCmp eqB (eV 2) (eC (.int 1))) (bCmp gtD (eV 1) (eC (.int 11)))) (sSeq (sRet (eTup (lCons (eC (.int 4)) (lCons (eB2 subR (eV 1) (eC (.int 5))) (lCons (eC (.int 1)) lNil))))) sNx) sNx) (sSeq (sSet 3 (eB2 addR (eC (.int 2)) (eB2 modR (eB2 ixR (eV 0) (eC (.int 2))) (eB2 subR (eB2 subR (eV 1) (eV 2)) (eC (.int 2)))))) (sSeq (sRet (eTup (lCons (eV 3) (lCons (eB2 subR (eB2 subR (eV 1) (eV 2)) (eV 3)) (lCons (eV 2) lNil))))) sNx))))) }
/-- _law_rests -/
noncomputable def fd_law_rests_v2 : FD := { np := 3, nl := 8, body := (sSeq (sSet 3 (eNew (lLst lNil))) (sSeq (sSet 4 (eNew (lLc (siOf (eV 0)) (gN 6) [6] bTrue (eC (.int 1))))) (sSeq (sFor (siR1 (lCons (eV 1) lNil)) (gN 5) (sSeq (sSet 4 (eNew (lLc (siR1 (lCons (eU1 lenR (eV 0)) lNil)) (gN 7) [7] bTrue (eB2 modR (eU1 intR (eB2 mulR (eB2 ixR (eV 4) (eV 7)) (eB2 ixR (eV 0) (eV 7)))) (eV 2))))) (sSeq (sExp (eM appendR (eV 3) (lCons (eB2 modR (eA sumQ (lSeq (eV 4))) (eV 2)) lNil))) sNx))) (sSeq (sRet (eA tupQ (lSeq (eV 3)))) sNx)))) }
/-- is_integer -/
noncomputable def fd_is_integer : FD := { np := 1, nl := 1, body := (sSeq (sRet (eAnd (eU1 (isiR .int) (eV 0)) (eNot (eU1 (isiR .bool) (eV 0))))) sNx) }
/-- is_setting -/
noncomputable def fd_is_setting : FD := { np := 1, nl := 2, body := (sSeq (sIf (bOr (bNot (bOf (eU1 (isiR .tup) (eV 0)))) (bCmp neB (eU1 lenR (eV 0)) (eC (.int 3)))) (sSeq (sRet (eC (.bl false))) sNx) sNx) (sSeq (sFor (siOf (eV 0)) (gN 1) (sSeq (sIf (bOr (bNot (bOf (eCall 0 (lCons (eV 1) lNil)))) (bCmp ltD (eV 1) (eC (.int 1)))) (sSeq (sRet (eC (.bl false))) sNx) sNx) sNx)) (sSeq (sRet (eB2 (cB leD) (eA sumQ (lSeq (eV 0))) (eC (.int 13)))) sNx))) }
/-- check_setting -/
noncomputable def fd_check_setting : FD := { np := 1, nl := 1, body := (sSeq (sIf (bNot (bOf (eCall 1 (lCons (eV 0) lNil)))) (sSeq (sRaise 1) sNx) sNx) sNx) }
/-- prime_of -/
noncomputable def fd_prime_of : FD := { np := 1, nl := 3, body := (sSeq (sExp (eCall 2 (lCons (eV 0) lNil))) (sSeq (sSet 1 (eA sumQ (lSeq (eV 0)))) (sSeq (sWhile (bOf (eA anyQ (lLc (siR2 (lCons (eC (.int 2)) (lCons (eV 1) lNil))) (gN 2) [2] bTrue (eB2 (cB eqB) (eB2 mulR (eB2 divR (eV 1) (eV 2)) (eV 2)) (eV 1))))) (sSeq (sAug 1 iaddR (eC (.int 1))) sNx)) (sSeq (sRet (eV 1)) sNx)))) }
/-- check_rests -/
noncomputable def fd_check_rests : FD := { np := 2, nl := 4, body := (sSeq (sSet 2 (eCall 18 (lCons (eV 0) lNil))) (sSeq (sIf (bOr (bNot (bOf (eU1 (isiR .tup) (eV 1)))) (bCmp neB (eU1 lenR (eV 1)) (eB2 ixR (eV 0) (eC (.int 2))))) (sSeq (sRaise 14) sNx) sNx) (sSeq (sFor (siOf (eV 1)) (gN 3) (sSeq (sIf (bOr (bNot (bOf (eCall 0 (lCons (eV 3) lNil)))) (bOr (bCmp ltD (eV 3) (eC (.int 0))) (bCmp geD (eV 3) (eV 2)))) (sSeq (sRaise 14) sNx) sNx) sNx)) sNx))) }
/-- rows_out_of -/
noncomputable def fd_rows_out_of : FD := { np := 2, nl := 7, body := (sSeq (sSet 2 (eNew (lLst (lCons (eTup lNil) lNil)))) (sSeq (sFor (siR1 (lCons (eV 1) lNil)) (gN 3) (sSeq (sSet 4 (eNew (lLst lNil))) (sSeq (sFor (siT (lMap (fun _ ds => some ds) (lSeq (eV 2)))) (gN 5) (sSeq (sFor (siOf (eV 0)) (gN 6) (sSeq (sIf (bOr (bCmp eqB (eV 5) (eTup lNil)) (bCmp gtD (eV 6) (eB2 ixR (eV 5) (eU1 negR (eC (.int 1)))))) (sSeq (sExp (eM appendR (eV 4) (lCons (eB2 addR (eV 5) (eTup (lCons (eV 6) lNil))) lNil))) sNx) sNx) sNx)) sNx)) (sSeq (sSet 2 (eV 4)) sNx)))) (sSeq (sRet (eV 2)) sNx))) }
/-- all_hands -/
noncomputable def fd_all_hands : FD := { np := 1, nl := 1, body := (sSeq (sExp (eCall 2 (lCons (eV 0) lNil))) (sSeq (sRet (eA tupQ (lSeq (eCall 29 (lCons (eNew (lRng (eA sumQ (lSeq (eV 0))))) (lCons (eB2 ixR (eV 0) (eC (.int 0))) lNil)))))) sNx)) }
/-- powers_of -/
noncomputable def fd_powers_of : FD := { np := 3, nl := 8, body := (sSeq (sSet 3 (eNew (lLst lNil))) (sSeq (sSet 4 (eNew (lLc (siOf (eV 0)) (gN 6) [6] bTrue (eC (.int 1))))) (sSeq (sFor (siR1 (lCons (eV 1) lNil)) (gN 5) (sSeq (sSet 4 (eNew (lLc (siZipM (kOf (eV 4)) (kOf (eV 0))) (gTup [(gN 7), (gN 6)]) [7, 6] bTrue (eB2 modR (eU1 intR (eB2 mulR (eV 7) (eV 6))) (eV 2))))) (sSeq (sExp (eM appendR (eV 3) (lCons (eB2 modR (eA sumQ (lSeq (eV 4))) (eV 2)) lNil))) sNx))) (sSeq (sRet (eA tupQ (lSeq (eV 3)))) sNx)))) }
/-- power_lot -/
noncomputable def fd_power_lot : FD := { np := 2, nl := 5, body := (sSeq (sExp (eCall 84 (lCons (eV 0) (lCons (eV 1) lNil)))) (sSeq (sSet 2 (eCall 18 (lCons (eV 0) lNil))) (sSeq (sSet 3 (eNew (lLc (siOf (eCall 30 (lCons (eV 0) lNil))) (gN 4) [4] (bCmp eqB (eCall 19 (lCons (eV 4) (lCons (eB2 ixR (eV 0) (eC (.int 2))) (lCons (eV 2) lNil)))) (eV 1)) (eV 4)))) (sSeq (sIf (bNot (bOf (eV 3))) (sSeq (sRaise 16) sNx) sNx) (sSeq (sIf (bCmp gtD (eU1 lenR (eV 3)) (eC (.int 60))) (sSeq (sRaise 26) sNx) sNx) (sSeq (sRet (eA tupQ (lSeq (eV 3)))) sNx)))))) }
/-- _law_is_hands -/
noncomputable def fd_law_is_hands : FD := { np := 1, nl := 3, body := (sSeq (sIf (bNot (bOf (eU1 (isiR .tup) (eV 0)))) (sSeq (sRet (eC (.bl false))) sNx) sNx) (sSeq (sFor (siOf (eV 0)) (gN 1) (sSeq (sIf (bNot (bOf (eU1 (isiR .tup) (eV 1)))) (sSeq (sRet (eC (.bl false))) sNx) sNx) (sSeq (sFor (siOf (eV 1)) (gN 2) (sSeq (sIf (bOr (bNot (bOf (eU1 (isiR .int) (eV 2)))) (bOf (eU1 (isiR .bool) (eV 2)))) (sSeq (sRet (eC (.bl false))) sNx) sNx) sNx)) sNx))) (sSeq (sRet (eC (.bl true))) sNx))) }
/-- _law_shares -/
noncomputable def fd_law_shares : FD := { np := 2, nl := 3, body := (sSeq (sRet (eA (fun st ds => .ok (.int ds.length) st) (lLc (siOf (eV 0)) (gN 2) [2] (bCmp inB (eV 2) (eV 1)) (eV 2)))) sNx) }
/-- _law_useful -/
noncomputable def fd_law_useful : FD := { np := 2, nl := 4, body := (sSeq (sFor (siR1 (lCons (eU1 lenR (eV 1)) lNil)) (gN 2) (sSeq (sFor (siR1 (lCons (eV 2) lNil)) (gN 3) (sSeq (sIf (bCmp geD (eCall 95 (lCons (eB2 ixR (eV 1) (eV 3)) (lCons (eB2 ixR (eV 1) (eV 2)) lNil))) (eB2 subR (eB2 ixR (eV 0) (eC (.int 0))) (eB2 ixR (eV 0) (eC (.int 2))))) (sSeq (sRet (eC (.bl false))) sNx) sNx) sNx)) sNx)) (sSeq (sRet (eC (.bl true))) sNx)) }
/-- is_row -/
noncomputable def fd_is_row : FD := { np := 2, nl := 4, body := (sSeq (sIf (bNot (bOf (eU1 (isiR .tup) (eV 0)))) (sSeq (sRet (eC (.bl false))) sNx) sNx) (sSeq (sSet 2 (eU1 negR (eC (.int 1)))) (sSeq (sFor (siOf (eV 0)) (gN 3) (sSeq (sIf (bOr (bNot (bOf (eCall 0 (lCons (eV 3) lNil)))) (bOr (bCmp leD (eV 3) (eV 2)) (bCmp geD (eV 3) (eV 1)))) (sSeq (sRet (eC (.bl false))) sNx) sNx) (sSeq (sSet 2 (eV 3)) sNx))) (sSeq (sRet (eC (.bl true))) sNx)))) }
/-- is_hand -/
noncomputable def fd_is_hand : FD := { np := 2, nl := 2, body := (sSeq (sExp (eCall 2 (lCons (eV 0) lNil))) (sSeq (sRet (eAnd (eCall 15 (lCons (eV 1) (lCons (eA sumQ (lSeq (eV 0))) lNil))) (eB2 (cB eqB) (eU1 lenR (eV 1)) (eB2 ixR (eV 0) (eC (.int 0)))))) sNx)) }
/-- is_lot -/
noncomputable def fd_is_lot : FD := { np := 2, nl := 5, body := (sSeq (sExp (eCall 2 (lCons (eV 0) lNil))) (sSeq (sIf (bOr (bNot (bOf (eU1 (isiR .tup) (eV 1)))) (bOr (bCmp ltD (eU1 lenR (eV 1)) (eC (.int 1))) (bCmp gtD (eU1 lenR (eV 1)) (eC (.int 60))))) (sSeq (sRet (eC (.bl false))) sNx) sNx) (sSeq (sFor (siOf (eV 1)) (gN 2) (sSeq (sIf (bNot (bOf (eCall 16 (lCons (eV 0) (lCons (eV 2) lNil))))) (sSeq (sRet (eC (.bl false))) sNx) sNx) sNx)) (sSeq (sFor (siZip (kOf (eV 1)) (kOf (eSl (eV 1) (oSome (eC (.int 1))) oNone))) (gTup [(gN 3), (gN 4)]) (sSeq (sIf (bCmp geD (eV 3) (eV 4)) (sSeq (sRet (eC (.bl false))) sNx) sNx) sNx)) (sSeq (sRet (eC (.bl true))) sNx))))) }
/-- check_lot -/
noncomputable def fd_check_lot : FD := { np := 2, nl := 2, body := (sSeq (sIf (bNot (bOf (eCall 34 (lCons (eV 0) (lCons (eV 1) lNil))))) (sSeq (sRaise 4) sNx) sNx) sNx) }
/-- pairs_of -/
noncomputable def fd_pairs_of : FD := { np := 1, nl := 5, body := (sSeq (sSet 1 (eNew (lLst lNil))) (sSeq (sFor (siEnum (siOf (eV 0))) (gTup [(gN 2), (gN 3)]) (sSeq (sFor (siOf (eSl (eV 0) (oSome (eB2 addR (eV 2) (eC (.int 1)))) oNone)) (gN 4) (sSeq (sExp (eM appendR (eV 1) (lCons (eTup (lCons (eV 3) (lCons (eV 4) lNil))) lNil))) sNx)) sNx)) (sSeq (sRet (eV 1)) sNx))) }
/-- count_common -/
noncomputable def fd_count_common : FD := { np := 2, nl := 3, body := (sSeq (sRet (eA (fun st ds => .ok (.int ds.length) st) (lLc (siOf (eV 0)) (gN 2) [2] (bCmp inB (eV 2) (eV 1)) (eV 2)))) sNx) }
/-- others -/
noncomputable def fd_others : FD := { np := 2, nl := 3, body := (sSeq (sRet (eA tupQ (lLc (siR1 (lCons (eA sumQ (lSeq (eV 0))) lNil)) (gN 2) [2] (bCmp ninB (eV 2) (eV 1)) (eV 2)))) sNx) }
/-- blur -/
noncomputable def fd_blur : FD := { np := 2, nl := 5, body := (sSeq (sExp (eCall 35 (lCons (eV 0) (lCons (eV 1) lNil)))) (sSeq (sFor (siOf (eCall 38 (lCons (eV 1) lNil))) (gTup [(gN 2), (gN 3)]) (sSeq (sIf (bCmp geD (eCall 37 (lCons (eV 2) (lCons (eV 3) lNil))) (eB2 subR (eB2 ixR (eV 0) (eC (.int 0))) (eB2 ixR (eV 0) (eC (.int 2))))) (sSeq (sSet 4 (eCall 36 (lCons (eV 0) (lCons (eB2 addR (eV 2) (eV 3)) lNil)))) (sSeq (sRet (eTup (lCons (eV 2) (lCons (eV 3) (lCons (eSl (eV 4) oNone (oSome (eB2 ixR (eV 0) (eC (.int 1))))) lNil))))) sNx)) sNx) sNx)) (sSeq (sRet (eC .non)) sNx))) }
/-- is_useful -/
noncomputable def fd_is_useful : FD := { np := 2, nl := 2, body := (sSeq (sRet (eB2 (cB isB) (eCall 39 (lCons (eV 0) (lCons (eV 1) lNil))) (eC .non))) sNx) }
/-- _law_order -/
noncomputable def fd_law_order : FD := { np := 2, nl := 4, body := (sSeq (sSet 2 (eNew (lLst lNil))) (sSeq (sFor (siR1 (lCons (eV 1) lNil)) (gN 3) (sSeq (sExp (eM insertR (eV 2) (lCons (eB2 modR (eB2 ixR (eV 0) (eV 3)) (eB2 addR (eU1 lenR (eV 2)) (eC (.int 1)))) (lCons (eV 3) lNil)))) sNx)) (sSeq (sRet (eV 2)) sNx))) }
/-- law -/
noncomputable def fd_law_v23 : FD := { np := 1, nl := 13, body := (sSeq (sSet 1 (eCall 22 (lCons (eCall 21 (lCons (eV 0) (lCons (eC (.int 0)) lNil))) (lCons (eC (.int 8)) lNil)))) (sSeq (sSet 2 (eCall 23 (lCons (eSl (eV 1) oNone (oSome (eC (.int 3)))) (lCons (eC (.int 9)) lNil)))) (sSeq (sSet 3 (eA max2 (lCons (eC (.int 1)) (lCons (eA min2 (lCons (eC (.int 8)) (lCons (eB2 subR (eU1 lenR (eV 0)) (eC (.int 1))) lNil))) lNil)))) (sSeq (sIf (bCmp eqB (eB2 modR (eB2 ixR (eV 1) (eC (.int 3))) (eC (.int 4))) (eC (.int 1))) (sSeq (sSet 2 (eCall 145 (lCons (eSl (eV 1) (oSome (eC (.int 4))) oNone) lNil))) (sSeq (sSet 3 (eA min2 (lCons (eC (.int 2)) (lCons (eV 3) lNil)))) sNx)) sNx) (sSeq (sSet 4 (eA sumQ (lSeq (eV 2)))) (sSeq (sSet 5 (eCall 88 (lCons (eV 4) lNil))) (sSeq (sFor (siR1 (lCons (eV 3) lNil)) (gN 6) (sSeq (sSet 7 (eCall 22 (lCons (eCall 21 (lCons (eV 0) (lCons (eB2 addR (eC (.int 1)) (eV 6)) lNil))) (lCons (eC (.int 26)) lNil)))) (sSeq (sSet 8 (eA tupQ (lSorted (lSeq (eSl (eCall 24 (lCons (eSl (eV 7) oNone (oSome (eC (.int 13)))) (lCons (eV 4) lNil))) oNone (oSome (eB2 ixR (eV 2) (eC (.int 0))))))))) (sSeq (sSet 9 (eA tupQ (lSorted (lSeq (eSl (eCall 24 (lCons (eSl (eV 7) (oSome (eC (.int 13))) oNone) (lCons (eV 4) lNil))) oNone (oSome (eB2 ixR (eV 2) (eC (.int 0))))))))) (sSeq (sSet 10 (eCall 87 (lCons (eV 8) (lCons (eB2 ixR (eV 2) (eC (.int 2))) (lCons (eV 5) lNil))))) (sSeq (sSet 11 (eCall 144 (lCons (eV 2) (lCons (eV 10) lNil)))) (sSeq (sIf (bOr (bNot (bOf (eCall 89 (lCons (eV 11) lNil)))) (bOr (bCmp ninB (eV 8) (eV 11)) (bCmp neB (eNew (lMap (fun _ ds => some ds) (lSeq (eV 11)))) (eNew (lSortedSet (lSeqT (eV 11))))))) (sSeq (sRet (eC (.bl false))) sNx) sNx) (sSeq (sIf (bCmp gtD (eA (fun st ds => .ok (.int ds.length) st) (lLc (siOf (eV 11)) (gN 12) [12] (bOr (bCmp neB (eU1 lenR (eV 12)) (eB2 ixR (eV 2) (eC (.int 0)))) (bCmp neB (eCall 87 (lCons (eV 12) (lCons (eB2 ixR (eV 2) (eC (.int 2))) (lCons (eV 5) lNil)))) (eV 10))) (eV 12))) (eC (.int 0))) (sSeq (sRet (eC (.bl false))) sNx) sNx) (sSeq (sIf (bCmp neB (eB2 (cB inB) (eV 9) (eV 11)) (eB2 (cB eqB) (eCall 87 (lCons (eV 9) (lCons (eB2 ixR (eV 2) (eC (.int 2))) (lCons (eV 5) lNil)))) (eV 10))) (sSeq (sRet (eC (.bl false))) sNx) sNx) (sSeq (sIf (bOr (bNot (bOf (eCall 139 (lCons (eV 2) (lCons (eV 11) lNil))))) (bCmp isnB (eCall 40 (lCons (eV 2) (lCons (eV 11) lNil))) (eC (.bl true)))) (sSeq (sRet (eC (.bl false))) sNx) sNx) sNx)))))))))) (sSeq (sRet (eC (.bl true))) sNx)))))))) }
abbrev n_law_draws : Nat := 22
abbrev n_law_setting : Nat := 23
abbrev n_law_prime : Nat := 88
abbrev n_law_cell_at : Nat := 21
abbrev n_law_great : Nat := 145
abbrev n_law_rests_v2 : Nat := 87
abbrev n_is_integer : Nat := 0
abbrev n_is_setting : Nat := 1
abbrev n_check_setting : Nat := 2
abbrev n_prime_of : Nat := 18
abbrev n_check_rests : Nat := 84
abbrev n_rows_out_of : Nat := 29
abbrev n_all_hands : Nat := 30
abbrev n_powers_of : Nat := 19
abbrev n_power_lot : Nat := 144
abbrev n_law_is_hands : Nat := 89
abbrev n_law_shares : Nat := 95
abbrev n_law_useful : Nat := 139
abbrev n_is_row : Nat := 15
abbrev n_is_hand : Nat := 16
abbrev n_is_lot : Nat := 34
abbrev n_check_lot : Nat := 35
abbrev n_pairs_of : Nat := 38
abbrev n_count_common : Nat := 37
abbrev n_others : Nat := 36
abbrev n_blur : Nat := 39
abbrev n_is_useful : Nat := 40
abbrev n_law_order : Nat := 24
abbrev n_law_v23 : Nat := 146
noncomputable def Tbl : Nat → FD
  | 22 => fd_law_draws
  | 23 => fd_law_setting
  | 88 => fd_law_prime
  | 21 => fd_law_cell_at
  | 145 => fd_law_great
  | 87 => fd_law_rests_v2
  | 0 => fd_is_integer
  | 1 => fd_is_setting
  | 2 => fd_check_setting
  | 18 => fd_prime_of
  | 84 => fd_check_rests
  | 29 => fd_rows_out_of
  | 30 => fd_all_hands
  | 19 => fd_powers_of
  | 144 => fd_power_lot
  | 89 => fd_law_is_hands
  | 95 => fd_law_shares
  | 139 => fd_law_useful
  | 15 => fd_is_row
  | 16 => fd_is_hand
  | 34 => fd_is_lot
  | 35 => fd_check_lot
  | 38 => fd_pairs_of
  | 37 => fd_count_common
  | 36 => fd_others
  | 39 => fd_blur
  | 40 => fd_is_useful
  | 24 => fd_law_order
  | 146 => fd_law_v23
  | _ => ⟨0, 0, sNx⟩
/-- the law's source of numbers: at most N were drawn -/
structure Src (st : Sto) (s N : Nat) : Prop where
  ex : ∃ (c : Nat) (xs : List Int) (pos : Nat) (left step stir : Int), st[s]? = some (.lst [.ref c, .int pos, .int left, .int step, .int stir]) ∧ lstAt st c = some (xs.map D.int) ∧ c < s ∧
    pos ≤ xs.length ∧ 0 ≤ left ∧ 0 ≤ step ∧ step ≤ N ∧ 0 ≤ stir ∧ stir < 1000000007
theorem forGo_inv {src : List (Nat × List D)} {g : SG} {b : SS} {C : Call} (I : Nat → Env → Sto → Prop) : ∀ (ds : List D) (n : Nat),
    (∀ (i : Nat) (d : D), ds[i]? = some d → ∀ env st, I (n + i) env st → good src st = true ∧ ∃ env', g d env = some env' ∧ ∃ env2 st2, b C env' st = .nx env2 st2 ∧ I (n + i + 1) env2 st2) →
    (∀ env st, I (n + ds.length) env st → good src st = true) → ∀ env st, I n env st → ∃ env2 st2, forGo src g b C ds env st = .nx env2 st2 ∧ I (n + ds.length) env2 st2
  | [], n, _, he, env, st, h => ⟨env, st, by simp [forGo, he env st h], h⟩
  | d :: ds, n, hs, he, env, st, h => by
    obtain ⟨g0, env', g1, env2, st2, b1, i1⟩ := hs 0 d rfl env st h
    obtain ⟨env3, st3, r1, r2⟩ := forGo_inv I ds (n + 1) (fun i d' hd env st hi => by
      have := hs (i + 1) d' (by simpa using hd) env st (by rwa [show n + (i + 1) = n + 1 + i by omega])
      rwa [show n + (i + 1) + 1 = n + 1 + i + 1 by omega] at this) (fun env st hi => he env st (by rwa [List.length_cons, show n + (ds.length + 1) = n + 1 + ds.length by omega])) env2 st2 i1
    refine ⟨env3, st3, ?_, by rwa [List.length_cons, show n + (ds.length + 1) = n + 1 + ds.length by omega]⟩
    unfold forGo
    simp [g0, g1, b1, r1]
/-- a loop that answers v at the first item that fails -/
theorem forGo_all {src : List (Nat × List D)} {g : SG} {b : SS} {C : Call} {st : Sto} {v : D} (p : D → Bool) (E : Env → Prop) (hg : good src st = true) : ∀ (ds : List D),
    (∀ d, d ∈ ds → ∀ env, E env → ∃ env', g d env = some env' ∧ if p d then ∃ env2, b C env' st = .nx env2 st ∧ E env2 else b C env' st = .ret v st) →
    ∀ env, E env → if ds.all p then ∃ env2, forGo src g b C ds env st = .nx env2 st ∧ E env2 else forGo src g b C ds env st = .ret v st
  | [], _, env, h => by simp [forGo, hg]; exact h
  | d :: ds, hs, env, h => by
    obtain ⟨env', g1, q⟩ := hs d (by simp) env h
    by_cases hp : p d = true
    · rw [if_pos hp] at q
      obtain ⟨env2, b1, e2⟩ := q
      have ih := forGo_all p E hg ds (fun d' hd => hs d' (by simp [hd])) env2 e2
      have e : forGo src g b C (d :: ds) env st = forGo src g b C ds env2 st := by
        rw [forGo]; simp [hg, g1, b1]
      rw [e, List.all_cons, hp, Bool.true_and]
      exact ih
    · rw [if_neg hp] at q
      rw [List.all_cons, eq_false_of_ne_true hp, Bool.false_and]
      simp only [Bool.false_eq_true, if_false]
      rw [forGo]; simp [hg, g1, q]
theorem rngItem {n i : Nat} {d : D} (h : ((List.range n).map fun (i : Nat) => D.int (i : Int))[i]? = some d) : i < n ∧ d = .int i := by
  rw [List.getElem?_map] at h
  by_cases hi : i < n
  · rw [List.getElem?_range hi] at h
    simp at h
    exact ⟨hi, h.symm⟩
  · rw [List.getElem?_eq_none (by simpa using hi)] at h
    cases h
theorem isint_int (k : Nat) {st : Sto} (a : Int) : callN Tbl (k + 1) n_is_integer [.int a] st = .ok (.bl true) st := by
  rw [run_eq (Tbl := Tbl) (f := n_is_integer) rfl rfl]
  simp
theorem setting_ok (k : Nat) {st : Sto} (a b c : Int) (ha : 1 ≤ a) (hb : 1 ≤ b) (hc : 1 ≤ c) (h : a + b + c ≤ 13) : callN Tbl (k + 2) n_is_setting [.tup [.int a, .int b, .int c]] st = .ok (.bl true) st := by
  rw [run_eq (Tbl := Tbl) (f := n_is_setting) rfl rfl]
  have ha' : ¬ a < 1 := by omega
  have hb' : ¬ b < 1 := by omega
  have hc' : ¬ c < 1 := by omega
  simp [forGo, isint_int, ha', hb', hc', sumQ, intsOf]
  omega
theorem check_ok (k : Nat) {st : Sto} (a b c : Int) (ha : 1 ≤ a) (hb : 1 ≤ b) (hc : 1 ≤ c) (h : a + b + c ≤ 13) : callN Tbl (k + 3) n_check_setting [.tup [.int a, .int b, .int c]] st = .ok .non st := by
  rw [run_eq (Tbl := Tbl) (f := n_check_setting) rfl rfl]
  simp [setting_ok k a b c ha hb hc h]
theorem gc_bl (st st' : Sto) (b : Bool) : ∃ s, gc st (.bl b) st' = .ok (.bl b) s := by
  unfold gc
  split
  · exact ⟨_, if_pos rfl⟩
  · exact ⟨_, rfl⟩
def isSet : D → Bool
  | .tup [.int a, .int b, .int c] => decide (1 ≤ a) && decide (1 ≤ b) && decide (1 ≤ c) && decide (a + b + c ≤ 13)
  | _ => false
def tyOk (st : Sto) (d : D) : Prop := (∃ t, tyOf st d = some t) ∧ ∀ ds, d = .tup ds → ∀ x, x ∈ ds → ∃ t, tyOf st x = some t
theorem isint_any (k : Nat) {st : Sto} {d : D} {t : Ty} (h : tyOf st d = some t) : callN Tbl (k + 1) n_is_integer [d] st = .ok (.bl (decide (t = .int))) st := by
  rw [run_eq (Tbl := Tbl) (f := n_is_integer) rfl rfl]
  simp [h]
  cases t <;> simp
theorem tyInt {st : Sto} {d : D} (h : tyOf st d = some .int) : ∃ i, d = .int i := by
  cases d with
  | int i => exact ⟨i, rfl⟩
  | ref a =>
    simp only [tyOf] at h
    split at h <;> cases h
  | _ => cases h
theorem tyTup {st : Sto} {d : D} (h : tyOf st d = some .tup) : ∃ ds, d = .tup ds := by
  cases d with
  | tup ds => exact ⟨ds, rfl⟩
  | ref a =>
    simp only [tyOf] at h
    split at h <;> cases h
  | _ => cases h
theorem lcGo_nil {src : List (Nat × List D)} {g : SG} {c : SB} {e : SE} {C : Call} {env : Env} {acc : List D} {st : Sto} : lcGo src g c e C env [] acc st = if good src st then .ok acc st else .stuck := rfl
theorem lcGo_cons {src : List (Nat × List D)} {g : SG} {c : SB} {e : SE} {C : Call} {env : Env} {d : D} {ds acc : List D} {st : Sto} : lcGo src g c e C env (d :: ds) acc st = if good src st then
      match g d env with
      | none => .stuck
      | some env' => (c C env' st).noX.bind fun t st => if t then (e C env' st).noX.bind fun x st => lcGo src g c e C env ds (acc ++ [x]) st else lcGo src g c e C env ds acc st
    else .stuck := rfl
theorem Src.app {st : Sto} {s N : Nat} (h : Src st s N) (g : Sto) : Src (st ++ g) s N := by
  obtain ⟨c, xs, pos, left, step, stir, e1, e2, hc, p⟩ := h.ex
  have hs : s < st.length := (List.getElem?_eq_some_iff.mp e1).1
  exact ⟨c, xs, pos, left, step, stir, by rw [List.getElem?_append_left hs]; exact e1, by rw [lstAt_app (by omega)]; exact e2, hc, p⟩
theorem Src.lt {st : Sto} {s N : Nat} (h : Src st s N) : s < st.length := by
  obtain ⟨c, xs, pos, left, step, stir, e1, _⟩ := h.ex
  exact (List.getElem?_eq_some_iff.mp e1).1
theorem Src.mono {st : Sto} {s N M : Nat} (h : Src st s N) (hm : N ≤ M) : Src st s M := by
  obtain ⟨c, xs, pos, left, step, stir, e1, e2, hc, p1, l0, s0, s1, p⟩ := h.ex
  exact ⟨c, xs, pos, left, step, stir, e1, e2, hc, p1, l0, s0, by omega, p⟩
@[simp] theorem bTrue_ap' {C : Call} {env : Env} {st : Sto} : bTrue C env st = .ok true st := rfl
@[simp] theorem wipeE_nil {env : Env} : wipeE env [] = env := rfl
@[simp] theorem wipeE_cons {env : Env} {v : Nat} {vs : List Nat} : wipeE env (v :: vs) = (wipeE env vs).set v none := rfl
theorem Src.lo {st : Sto} {s N : Nat} {c : Cell} (h : Src (st.set s c) s N) (hs : s < st.length) : c.lo st.length = true := by
  obtain ⟨a, xs, pos, left, step, stir, e1, _, hc, _⟩ := h.ex
  simp [hs] at e1
  rw [e1]; simp; omega
theorem sz {n : Nat} (h : n ≤ 100) : n ≤ sizeLine := small_size (by omega)
inductive Seq (st : Sto) : D → List D → Prop
  | tup (ds : List D) : Seq st (.tup ds) ds
  | scr (ds : List D) : Seq st (.scr ds) ds
  | ref (i : Nat) (ds : List D) : lstAt st i = some ds → Seq st (.ref i) ds
def srcOf (x : D) (ds : List D) : List (Nat × List D) := match x with | .ref i => [(i, ds)] | _ => []
theorem siOf_seq {C : Call} {env : Env} {st : Sto} {i : Nat} {x : D} {ds : List D} (h : env[i]? = some (some x)) (hs : Seq st x ds) : siOf (eV i) C env st = .ok ⟨ds, srcOf x ds⟩ st := by
  simp [h]
  cases hs with
  | tup => rfl
  | scr => rfl
  | ref i ds h => simp [h, srcOf]
theorem good_src {st : Sto} {x : D} {ds : List D} (hs : Seq st x ds) : good (srcOf x ds) st = true := by
  cases hs with
  | tup => rfl
  | scr => rfl
  | ref i ds h => simp [good, srcOf, h]
theorem good_set {st : Sto} {x : D} {ds : List D} {i : Nat} {c : Cell} (hs : Seq st x ds) (hi : ∀ j, x = .ref j → j ≠ i) : Seq (st.set i c) x ds := by
  cases hs with
  | tup => exact .tup _
  | scr => exact .scr _
  | ref j ds h => exact .ref j ds (by rw [lstAt_set_ne (hi j rfl)]; exact h)
theorem Seq.app {st : Sto} {x : D} {ds : List D} (hs : Seq st x ds) (g : Sto) : Seq (st ++ g) x ds := by
  cases hs with
  | tup => exact .tup _
  | scr => exact .scr _
  | ref j ds h => exact .ref j ds (by rw [lstAt_app (lstAt_lt h)]; exact h)
theorem Seq.lt {st : Sto} {x : D} {ds : List D} (hs : Seq st x ds) {j : Nat} (e : x = .ref j) : j < st.length := by
  subst e
  cases hs with
  | ref i ds h => exact lstAt_lt h
theorem eqB_row_nil {st : Sto} (row : List Int) : eqB st (.tup (row.map D.int)) (.tup []) = some (decide (row = [])) := embT.eqB (by decide) st row []
theorem atI_m1 {row : List Int} (h : row ≠ []) : L2.atI (row.map D.int) (-1) = some (.int (row.getLast?.getD 0)) := by
  have h' : row.map D.int ≠ [] := by simpa using h
  rw [atI_last _ h', List.getElem?_map, List.length_map, List.getLast?_eq_getElem?]
  have : row.length - 1 < row.length := by have := List.length_pos_iff.mpr h; omega
  rw [List.getElem?_eq_getElem this]
  rfl
abbrev rowsBody : SS := sSeq (sIf (bOr (bCmp eqB (eV 5) (eTup lNil)) (bCmp gtD (eV 6) (eB2 ixR (eV 5) (eU1 negR (eC (.int 1)))))) (sSeq (sExp (eM appendR (eV 4) (lCons (eB2 addR (eV 5) (eTup (lCons (eV 6) lNil))) lNil))) sNx) sNx) sNx
theorem appendR_ref {st : Sto} {i : Nat} {L : List D} {y : D} (h : lstAt st i = some L) (hz : L.length < sizeLine) : appendR st (.ref i) [y] = .ok .non (st.set i (.lst (L ++ [y]))) := by
  unfold appendR mutL
  simp [h, hz]
theorem rows_in1 {C : Call} {st : Sto} {e0 e1 e2 e3 : Option D} {i : Nat} {row : List Int} {c : Int} {L : List D} (h : lstAt st i = some L) (hz : L.length < 10000) (hr : row.length < 100) :
    rowsBody C [e0, e1, e2, e3, some (.ref i), some (dT row), some (.int c)] st = .nx [e0, e1, e2, e3, some (.ref i), some (dT row), some (.int c)] (if okNext row c then st.set i (.lst (L ++ [dT (row ++ [c])])) else st) := by
  have hz' : L.length < sizeLine := Nat.lt_of_lt_of_le hz (small_size (Nat.le_refl _))
  have z1 : 1 ≤ sizeLine := sz (by decide)
  have z0 : 0 ≤ sizeLine := Nat.zero_le _
  have zr : row.length + 1 ≤ sizeLine := sz (by omega)
  simp only [dT, tupF]
  by_cases hn : row = []
  · subst hn
    simp [okNext, h, z1, z0, appendR_ref h hz', show eqB st (.tup []) (.tup []) = some true from eqB_row_nil []]
  · by_cases hc : row.getLast?.getD 0 < c
    · simp [okNext, h, z1, eqB_row_nil, appendR_ref h hz', hn, atI_m1 hn, hc, zr]
    · simp [okNext, h, z1, eqB_row_nil, appendR_ref h hz', hn, atI_m1 hn, hc, zr]
theorem set_lst_self {st : Sto} {i : Nat} {L : List D} (h : lstAt st i = some L) : st.set i (.lst L) = st := by
  apply List.ext_getElem?
  intro j
  by_cases e : i = j
  · subst e
    rw [List.getElem?_set_self (lstAt_lt h)]
    unfold lstAt at h
    split at h
    · rename_i e; cases h; exact e.symm
    · cases h
  · rw [List.getElem?_set_ne e]
theorem forGo_step {src : List (Nat × List D)} {g : SG} {b : SS} {C : Call} {d : D} {ds : List D} {env env' env2 : Env} {st st2 : Sto} (h : good src st = true) (hg : g d env = some env') (hb : b C env' st = .nx env2 st2) : forGo src g b C (d :: ds) env st = forGo src g b C ds env2 st2 := by
  rw [forGo]; simp [h, hg, hb]
theorem rows_in2 {C : Call} {b0 b1 b2 b3 : Option D} {i : Nat} {row : List Int} {x : D} {ds : List D} (hr : row.length < 100) (hi : ∀ j, x = .ref j → j ≠ i) : ∀ (cs : List Int) (L : List D) (st : Sto) (y : Option D), Seq st x ds → lstAt st i = some L → L.length + cs.length < 10000 →
    ∃ y', forGo (srcOf x ds) (gN 6) rowsBody C (cs.map D.int) [b0, b1, b2, b3, some (.ref i), some (dT row), y] st = .nx [b0, b1, b2, b3, some (.ref i), some (dT row), y'] (st.set i (.lst (L ++ ((cs.filter (okNext row)).map fun c => row ++ [c]).map dT)))
  | [], L, st, y, hs, h, hz => ⟨y, by
    simp [forGo, good_src hs, set_lst_self h]⟩
  | c :: cs, L, st, y, hs, h, hz => by
    have e1 := rows_in1 (C := C) (e0 := b0) (e1 := b1) (e2 := b2) (e3 := b3) (c := c) h (by simp at hz; omega) hr
    by_cases hc : okNext row c = true
    · rw [if_pos hc] at e1
      obtain ⟨y', ih⟩ := rows_in2 (C := C) (b0 := b0) (b1 := b1) (b2 := b2) (b3 := b3) hr hi cs (L ++ [dT (row ++ [c])]) (st.set i (.lst (L ++ [dT (row ++ [c])]))) (some (.int c)) (good_set hs hi) (lstAt_set (lstAt_lt h)) (by simp at hz ⊢; omega)
      refine ⟨y', ?_⟩
      rw [List.map_cons, forGo_step (good_src hs) rfl e1, ih]
      simp [List.filter_cons, hc, List.set_set]
    · rw [if_neg hc] at e1
      obtain ⟨y', ih⟩ := rows_in2 (C := C) (b0 := b0) (b1 := b1) (b2 := b2) (b3 := b3) hr hi cs L st (some (.int c)) hs h (by simp at hz ⊢; omega)
      refine ⟨y', ?_⟩
      rw [List.map_cons, forGo_step (good_src hs) rfl e1, ih]
      simp [List.filter_cons, hc]
theorem rows_in3 {C : Call} {b0 b1 b2 b3 : Option D} {i : Nat} {x : D} {cs : List Int} (hx : b0 = some x) (hi : ∀ j, x = .ref j → j ≠ i) : ∀ (rows : List (List Int)) (L : List D) (st : Sto) (y z : Option D), Seq st x (cs.map D.int) → lstAt st i = some L → (∀ r, r ∈ rows → r.length < 100) →
    L.length + (rows.flatMap fun row => (cs.filter (okNext row)).map fun c => row ++ [c]).length + cs.length < 10000 →
    ∃ y' z', forGo [] (gN 5) (sSeq (sFor (siOf (eV 0)) (gN 6) rowsBody) sNx) C (rows.map dT) [b0, b1, b2, b3, some (.ref i), y, z] st = .nx [b0, b1, b2, b3, some (.ref i), y', z'] (st.set i (.lst (L ++ (rows.flatMap fun row => (cs.filter (okNext row)).map fun c => row ++ [c]).map dT)))
  | [], L, st, y, z, hs, h, hr, hz => by
    exact ⟨y, z, by simp [forGo, set_lst_self h]⟩
  | r :: rows, L, st, y, z, hs, h, hr, hz => by
    simp only [List.flatMap_cons, List.length_append] at hz
    obtain ⟨y', q⟩ := rows_in2 (C := C) (b0 := b0) (b1 := b1) (b2 := b2) (b3 := b3) (row := r) (hr r List.mem_cons_self) hi cs L st z hs h (by omega)
    obtain ⟨y2, z2, ih⟩ := rows_in3 (C := C) (b1 := b1) (b2 := b2) (b3 := b3) hx hi rows _ (st.set i (.lst (L ++ ((cs.filter (okNext r)).map fun c => r ++ [c]).map dT))) (some (dT r)) y' (good_set hs hi) (lstAt_set (lstAt_lt h)) (fun r' h' => hr r' (List.mem_cons_of_mem _ h'))
      (by simp only [List.length_append, List.length_map] at hz ⊢; omega)
    refine ⟨y2, z2, ?_⟩
    have e1 : (sSeq (sFor (siOf (eV 0)) (gN 6) rowsBody) sNx) C [b0, b1, b2, b3, some (.ref i), some (dT r), z] st = .nx [b0, b1, b2, b3, some (.ref i), some (dT r), y'] (st.set i (.lst (L ++ ((cs.filter (okNext r)).map fun c => r ++ [c]).map dT))) := by
      rw [sSeq_ap, sFor_ap, siOf_seq (by rw [hx]; rfl) hs, Res.thenS_ok, q]
      rfl
    rw [List.map_cons, forGo_step rfl rfl e1, ih]
    simp [List.set_set]
theorem loL_rows (n : Nat) : ∀ rows : List (List Int), D.loL n (rows.map dT) = true
  | [] => rfl
  | r :: rows => by simp [loL_rows n rows]
theorem rows_out_spec (k : Nat) {st : Sto} {x : D} {cs : List Int} (n : Nat) (hs : Seq st x (cs.map D.int)) (hc : Asc cs) (hl : cs.length ≤ 13) (hn : n ≤ 99) :
    callN Tbl (k + 1) n_rows_out_of [x, .int n] st = .ok (.ref st.length) (st ++ [.lst ((combs n cs).map dT)]) := by
  rw [run_eq (Tbl := Tbl) (f := n_rows_out_of) rfl rfl]
  have z1 : 1 ≤ sizeLine := sz (by decide)
  have z0 : 0 ≤ sizeLine := Nat.zero_le _
  have b : rngI n = true := rngI_of (by omega) (by omega)
  have bound : ∀ m, (combs m cs).length ≤ 8192 := fun m => by
    rw [combs_len]
    refine Nat.le_trans (choose_le _ _) ?_
    exact Nat.pow_le_pow_right (by decide) hl
  obtain ⟨env2, st2, r1, g, y, z, w, u, r2, r3, r4⟩ := forGo_inv (src := []) (g := gN 3) (C := callN Tbl k)
    (b := (sSeq (sSet 4 (eNew (lLst lNil))) (sSeq (sFor (siT (lMap (fun _ ds => some ds) (lSeq (eV 2)))) (gN 5) (sSeq (sFor (siOf (eV 0)) (gN 6) rowsBody) sNx)) (sSeq (sSet 2 (eV 4)) sNx))))
    (fun i env st' => ∃ (g : Sto) (y z w u : Option D), env = [some x, some (.int n), some (.ref (st.length + i)), y, z, w, u] ∧ g.length = i ∧ st' = st ++ g ++ [.lst ((combs i cs).map dT)]) ((List.range n).map fun (i : Nat) => D.int (i : Int)) 0
    (fun i d hd env st' ⟨g, y, z, w, u, e, e1, e2⟩ => by
      obtain ⟨ha, rfl⟩ := rngItem hd
      simp only [Nat.zero_add] at e e1 e2
      subst e e2
      refine ⟨rfl, _, rfl, ?_⟩
      have hi2 : lstAt (st ++ g ++ [Cell.lst ((combs i cs).map dT)]) (st.length + i) = some ((combs i cs).map dT) := by
        rw [show st.length + i = (st ++ g).length by simp [e1]]
        exact lstAt_app_len _
      have hq : (combs (i + 1) cs) = (combs i cs).flatMap fun row => (cs.filter (okNext row)).map fun c => row ++ [c] := combs_succ i cs hc
      obtain ⟨B, eB⟩ : ∃ B, st ++ g ++ [Cell.lst ((combs i cs).map dT)] = B := ⟨_, rfl⟩
      have hB : B.length = st.length + i + 1 := by rw [← eB]; simp [e1]; omega
      have hs2 : Seq (B ++ [Cell.lst []]) x (cs.map D.int) := by rw [← eB]; exact ((hs.app _).app _).app _
      have bi := bound i
      have zi : (combs i cs).length ≤ sizeLine := small_size (by omega)
      rw [eB] at hi2 ⊢
      obtain ⟨y', z', q⟩ := rows_in3 (C := callN Tbl k) (b0 := some x) (b1 := some (.int n)) (b2 := some (.ref (st.length + i))) (b3 := some (.int (i : Int))) (i := B.length) (x := x) (cs := cs) rfl (fun j e => by have := hs.lt e; omega) (combs i cs) [] (B ++ [Cell.lst []]) w u hs2
        (lstAt_app_len _) (fun r hr => by rw [(combs_mem i cs r hr).1]; omega)
        (by rw [← hq]; have := bound (i + 1); simp; omega)
      rw [← hq] at q
      rw [List.set_append_right _ _ (Nat.le_refl _), Nat.sub_self] at q
      simp only [List.set_cons_zero, List.nil_append] at q
      have hi3 : lstAt (B ++ [Cell.lst []]) (st.length + i) = some ((combs i cs).map dT) := by rw [lstAt_app (lstAt_lt hi2)]; exact hi2
      refine ⟨[some x, some (.int n), some (.ref B.length), some (.int (i : Int)), some (.ref B.length), y', z'], B ++ [Cell.lst ((combs (i + 1) cs).map dT)], ?_, g ++ [Cell.lst ((combs i cs).map dT)], _, _, _, _, by rw [hB, show st.length + i + 1 = st.length + (0 + i + 1) by omega], by simp [e1], by rw [← eB, show 0 + i + 1 = i + 1 by omega]; simp⟩
      simp [-sFor_ap, z0, sFor_ap (siT _), siT_ap, hi3]
      rw [q]
      simp) (fun _ _ _ => rfl) [some x, some (.int n), some (.ref st.length), none, none, none, none] (st ++ [Cell.lst [.tup []]]) ⟨[], _, _, _, _, rfl, rfl, by rw [combs_zero]; simp [tupF]⟩
  simp only [Nat.zero_add, List.length_map, List.length_range] at r2 r3 r4
  subst r2 r4
  simp [b, z1, z0, r1]
  have fin := gc_new (st := st) (g := g ++ [Cell.lst ((combs n cs).map dT)]) (k := st.length + n) (c := .lst ((combs n cs).map dT)) (by omega) (by rw [List.getElem?_append_right (by omega), Nat.add_sub_cancel_left, List.getElem?_append_right (by omega), r3, Nat.sub_self]; rfl) (by rw [loC_lst]; exact loL_rows _ _)
  exact fin

theorem lstAt_add (st G : Sto) (x : Nat) : lstAt (st ++ G) (st.length + x) = lstAt G x := by
  unfold lstAt
  rw [List.getElem?_append_right (by omega), Nat.add_sub_cancel_left]
/-- a comprehension whose steps change nothing -/
theorem lcGo_of {α : Type} {src : List (Nat × List D)} {g : SG} {c : SB} {e : SE} {C : Call} {env : Env} {st : Sto} (h : α → D) (p : α → Bool) (F : α → D) (hg : good src st = true) : ∀ (l : List α) (acc : List D),
    (∀ a, a ∈ l → ∃ env', g (h a) env = some env' ∧ c C env' st = .ok (p a) st ∧ (p a = true → e C env' st = .ok (F a) st)) → lcGo src g c e C env (l.map h) acc st = .ok (acc ++ (l.filter p).map F) st
  | [], acc, _ => by simp [lcGo_nil, hg]
  | d :: ds, acc, q => by
    obtain ⟨env', h1, h2, h3⟩ := q d List.mem_cons_self
    rw [List.map_cons, lcGo_cons]
    by_cases hp : p d = true
    · simp [hg, h1, h2, hp, h3 hp, lcGo_of h p F hg ds (acc ++ [F d]) fun d' hd => q d' (List.mem_cons_of_mem _ hd)]
    · simp [hg, h1, h2, hp, lcGo_of h p F hg ds acc fun d' hd => q d' (List.mem_cons_of_mem _ hd)]
def iota (n : Nat) : List Int := (List.range n).map fun (i : Nat) => (i : Int)
theorem rgD_iota (n : Nat) : rgD (n : Int) = (iota n).map D.int := by
  unfold rgD iota
  rw [List.map_map]
  rfl
theorem iota_asc (n : Nat) : Asc (iota n) := by
  unfold iota
  exact List.pairwise_map.mpr (List.pairwise_lt_range.imp fun h => by omega)
theorem iota_len (n : Nat) : (iota n).length = n := by simp [iota]
theorem mem_iota {n : Nat} {x : Int} : x ∈ iota n ↔ 0 ≤ x ∧ x < n := by
  unfold iota
  rw [List.mem_map]
  constructor
  · rintro ⟨i, hi, rfl⟩
    have := List.mem_range.mp hi
    omega
  · intro h
    exact ⟨x.toNat, List.mem_range.mpr (by omega), by omega⟩
/-- all hands of a setting -/
def hands (a b c : Nat) : List (List Int) := combs a (iota (a + b + c))
theorem hands_len (a b c : Nat) : (hands a b c).length = chooseN (a + b + c) a := by rw [hands, combs_len, iota_len]
abbrev setD (a b c : Nat) : D := .tup [.int a, .int b, .int c]
theorem sum3 {st : Sto} (a b c : Nat) : sumQ st [.int a, .int b, .int c] = .ok (.int ((a + b + c : Nat) : Int)) st := by
  simp [sumQ, intsOf, Int.add_assoc]
theorem all_hands_spec (k : Nat) {st : Sto} (a b c : Nat) (ha : 1 ≤ a) (hb : 1 ≤ b) (hc : 1 ≤ c) (h : a + b + c ≤ 13) :
    callN Tbl (k + 4) n_all_hands [setD a b c] st = .ok (.tup ((hands a b c).map dT)) st := by
  rw [run_eq (Tbl := Tbl) (f := n_all_hands) rfl rfl]
  have hchk := check_ok k (st := st) a b c (by omega) (by omega) (by omega) (by omega)
  have hrow := rows_out_spec (k + 2) (st := st ++ [.lst ((iota (a + b + c)).map D.int)]) a (.ref st.length _ (lstAt_app_len _)) (iota_asc (a + b + c)) (by rw [iota_len]; omega) (by omega)
  have z : (hands a b c).length ≤ sizeLine := small_size (by
    rw [hands_len]
    refine Nat.le_trans (choose_le _ _) (Nat.le_trans (Nat.pow_le_pow_right (by decide) h) (by decide)))
  have hT : rngT ((a + b + c : Nat) : Int) = true := rngT_of (by omega) (by omega)
  have hat : lstAt (st ++ [.lst ((iota (a + b + c)).map D.int), .lst ((hands a b c).map dT)]) (st.length + 1) = some ((hands a b c).map dT) := by simp [lstAt]
  simp only [hands] at z hat ⊢
  simp [hchk, sum3, hT, rgD_iota, -Int.natCast_add, hrow, hat, z]
  exact gc_app (by rw [lo_tup]; exact loL_rows _ _)
theorem cut_drop (ds : List D) (k : Nat) : cutD ds (some (k : Int)) none = ds.drop k := by
  unfold cutD
  rw [HT.sIx_nat, HT.sIx_none]
  by_cases h : k ≤ ds.length
  · rw [Nat.min_eq_left h, List.take_of_length_le (by simp)]
  · rw [Nat.min_eq_right (by omega), List.drop_length, List.drop_eq_nil_of_le (by omega)]; simp
theorem cut_take (ds : List D) (k : Nat) : cutD ds none (some (k : Int)) = ds.take k := by
  unfold cutD
  rw [HT.sIx_nat, HT.sIx_none, Nat.sub_zero, List.drop_zero]
  by_cases h : k ≤ ds.length
  · rw [Nat.min_eq_left h]
  · rw [Nat.min_eq_right (by omega), List.take_of_length_le (Nat.le_refl _), List.take_of_length_le (by omega)]
/-- a setting, in numbers -/
structure Stg (a b c n : Nat) : Prop where
  a1 : 1 ≤ a
  b1 : 1 ≤ b
  c1 : 1 ≤ c
  sum : a + b + c = n
  le : n ≤ 13
theorem Stg.chk {a b c n : Nat} (h : Stg a b c n) (k : Nat) (st : Sto) : callN Tbl (k + 3) n_check_setting [setD a b c] st = .ok .non st :=
  check_ok k (st := st) a b c (by have := h.a1; omega) (by have := h.b1; omega) (by have := h.c1; omega) (by have := h.sum; have := h.le; omega)
theorem Stg.sm {a b c n : Nat} (h : Stg a b c n) (st : Sto) : sumQ st [.int a, .int b, .int c] = .ok (.int n) st := by
  rw [sum3, h.sum]
def rowB (total : Int) : Int → List D → Bool
  | _, [] => true
  | last, .int i :: ds => decide (last < i) && decide (i < total) && rowB total i ds
  | _, _ :: _ => false
def isRowD (total : Int) : D → Bool
  | .tup ds => rowB total (-1) ds
  | _ => false
abbrev rowBody : SS := (sSeq (sIf (bOr (bNot (bOf (eCall 0 (lCons (eV 3) lNil)))) (bOr (bCmp leD (eV 3) (eV 2)) (bCmp geD (eV 3) (eV 1)))) (sSeq (sRet (eC (.bl false))) sNx) sNx) (sSeq (sSet 2 (eV 3)) sNx))
theorem row_loop (k : Nat) {st : Sto} (total : Int) (x : Option D) : ∀ (ds : List D) (last : Int) (y : Option D), (∀ d, d ∈ ds → ∃ t, tyOf st d = some t) →
    if rowB total last ds then ∃ env2, forGo [] (gN 3) rowBody (callN Tbl (k + 1)) ds [x, some (.int total), some (.int last), y] st = .nx env2 st else forGo [] (gN 3) rowBody (callN Tbl (k + 1)) ds [x, some (.int total), some (.int last), y] st = .ret (.bl false) st
  | [], last, y, _ => by simp [rowB, forGo]
  | d :: ds, last, y, h => by
    obtain ⟨t, ht⟩ := h d List.mem_cons_self
    by_cases ei : t = .int
    · subst ei
      obtain ⟨i, rfl⟩ := tyInt ht
      by_cases h1 : last < i
      · by_cases h2 : i < total
        · have ih := row_loop k total x ds i (some (.int i)) fun d' hd => h d' (List.mem_cons_of_mem _ hd)
          have e1 : ¬ i ≤ last := by omega
          have e2 : ¬ total ≤ i := by omega
          have q : rowBody (callN Tbl (k + 1)) [x, some (.int total), some (.int last), some (.int i)] st = .nx [x, some (.int total), some (.int i), some (.int i)] st := by simp [isint_int, e1, e2]
          rw [forGo_step rfl rfl q]
          simp only [rowB, h1, h2, decide_true, Bool.true_and]
          exact ih
        · have e1 : ¬ i ≤ last := by omega
          have e2 : total ≤ i := by omega
          simp [rowB, h2, forGo, isint_int, e1, e2]
      · have e1 : i ≤ last := by omega
        simp [rowB, h1, forGo, isint_int, e1]
    · have : rowB total last (d :: ds) = false := by
        cases d <;> first | rfl | skip
        simp at ht; exact absurd ht.symm ei
      simp [this, forGo, isint_any k ht, ei]
theorem is_row_any (k : Nat) {st : Sto} {d : D} (total : Int) (h : tyOk st d) : callN Tbl (k + 2) n_is_row [d, .int total] st = .ok (.bl (isRowD total d)) st := by
  rw [run_eq (Tbl := Tbl) (f := n_is_row) rfl rfl]
  obtain ⟨⟨t, ht⟩, hx⟩ := h
  by_cases e : t = .tup
  · subst e
    obtain ⟨ds, rfl⟩ := tyTup ht
    have q := row_loop k total (some (.tup ds)) ds (-1) none (hx ds rfl)
    by_cases hb : rowB total (-1) ds = true
    · rw [if_pos hb] at q
      obtain ⟨env2, q⟩ := q
      simp [q, isRowD, hb]
    · rw [if_neg hb] at q
      simp [q, isRowD, hb]
  · have : isRowD total d = false := by
      cases d <;> first | rfl | skip
      simp at ht; exact absurd ht.symm e
    have e2 : subT t .tup = false := by cases t <;> first | rfl | exact absurd rfl e
    simp [ht, e2, this]
def isHandD (a n : Nat) : D → Bool
  | .tup ds => rowB n (-1) ds && decide (ds.length = a)
  | _ => false
theorem is_hand_any (k : Nat) {st : Sto} {d : D} {a b c n : Nat} (S : Stg a b c n) (h : tyOk st d) : callN Tbl (k + 4) n_is_hand [setD a b c, d] st = .ok (.bl (isHandD a n d)) st := by
  rw [run_eq (Tbl := Tbl) (f := n_is_hand) rfl rfl]
  have h1 := S.chk k st
  have h2 := is_row_any (k + 1) (n : Int) h
  by_cases hr : isRowD n d = true
  · cases d with
    | tup ds =>
      simp [isRowD] at hr
      simp [h1, S.sm, h2, isRowD, hr, isHandD]
      exact Int.ofNat_inj
    | _ => cases hr
  · have : isHandD a n d = false := by
      cases d with
      | tup ds => simp [isRowD] at hr; simp [isHandD, hr]
      | _ => rfl
    simp [h1, S.sm, h2, hr, this]
theorem rowB_ok {n : Nat} : ∀ {r : List Int} {last : Int}, Asc r → (∀ x, x ∈ r → last < x ∧ x < n) → rowB n last (r.map D.int) = true
  | [], _, _, _ => rfl
  | x :: r, last, h, hm => by
    obtain ⟨h1, h2⟩ := List.pairwise_cons.mp h
    have m := hm x List.mem_cons_self
    simp only [List.map_cons, rowB, m.1, m.2, decide_true, Bool.true_and]
    exact rowB_ok h2 fun y hy => ⟨h1 y hy, (hm y (List.mem_cons_of_mem _ hy)).2⟩
/-- a hand, in numbers -/
def IsHand (a n : Nat) (r : List Int) : Prop := r.length = a ∧ Asc r ∧ ∀ x, x ∈ r → 0 ≤ x ∧ x < n
theorem IsHand.ok {a n : Nat} {r : List Int} (h : IsHand a n r) : isHandD a n (dT r) = true := by
  simp only [isHandD, Bool.and_eq_true, decide_eq_true_eq]
  exact ⟨rowB_ok h.2.1 fun x hx => by have := h.2.2 x hx; omega, by simp [h.1]⟩
theorem tyOk_row {st : Sto} (r : List Int) : tyOk st (dT r) := ⟨⟨_, rfl⟩, fun ds e x hx => by
  cases e
  obtain ⟨i, _, rfl⟩ := List.mem_map.mp hx
  exact ⟨_, rfl⟩⟩
/-- a lot, in numbers -/
structure IsLot (a n : Nat) (lot : List (List Int)) : Prop where
  ne : 1 ≤ lot.length
  le : lot.length ≤ 60
  asc : lot.Pairwise (· < ·)
  hand : ∀ r, r ∈ lot → IsHand a n r
theorem is_hand_ok (k : Nat) {st : Sto} {a b c n : Nat} (S : Stg a b c n) {r : List Int} (h : IsHand a n r) : callN Tbl (k + 4) n_is_hand [setD a b c, dT r] st = .ok (.bl true) st := by
  rw [is_hand_any k S (tyOk_row r), h.ok]
@[simp] theorem kOf_ap (m : SE) (C : Call) (env : Env) (st : Sto) : kOf m C env st = (m C env st).bind fun x st => match x with
  | .tup ds => .ok (false, ⟨ds, []⟩) st
  | .scr ds => .ok (true, ⟨ds, []⟩) st
  | .ref i => match lstAt st i with | some ds => .ok (true, ⟨ds, [(i, ds)]⟩) st | none => .stuck
  | _ => .stuck := rfl
@[simp] theorem siZip_ap (a b : SK) (C : Call) (env : Env) (st : Sto) : siZip a b C env st = (a C env st).bind fun w st => (b C env st).bind fun u st => if (w.1 == u.1) && good w.2.src st && good u.2.src st then .ok ⟨zipD w.2.ds u.2.ds, w.2.src ++ u.2.src⟩ st else .stuck := rfl
theorem zip_asc : ∀ {lot : List (List Int)}, lot.Pairwise (· < ·) → ∀ d, d ∈ zipD (lot.map dT) ((lot.map dT).drop 1) → ∃ x y : List Int, d = .tup [dT x, dT y] ∧ x < y
  | [], _, d, hd => by simp [zipD] at hd
  | [x], _, d, hd => by simp [zipD] at hd
  | x :: y :: lot, h, d, hd => by
    obtain ⟨h1, h2⟩ := List.pairwise_cons.mp h
    simp only [List.map_cons, List.drop_succ_cons, List.drop_zero, zipD, List.mem_cons] at hd
    rcases hd with rfl | hd
    · exact ⟨x, y, rfl, h1 y List.mem_cons_self⟩
    · exact zip_asc (lot := y :: lot) h2 d (by simpa using hd)
theorem is_lot_ok (k : Nat) {st : Sto} {a b c n : Nat} (S : Stg a b c n) {lot : List (List Int)} (h : IsLot a n lot) : callN Tbl (k + 5) n_is_lot [setD a b c, dTT lot] st = .ok (.bl true) st := by
  rw [run_eq (Tbl := Tbl) (f := n_is_lot) rfl rfl]
  have h1 := S.chk (k + 1) st
  have q1 := forGo_all (src := []) (g := gN 2) (C := callN Tbl (k + 4)) (st := st) (v := .bl false) (b := (sSeq (sIf (bNot (bOf (eCall 16 (lCons (eV 0) (lCons (eV 2) lNil))))) (sSeq (sRet (eC (.bl false))) sNx) sNx) sNx)) (fun _ => true)
    (fun env => ∃ x, env = [some (setD a b c), some (dTT lot), x, none, none]) rfl (lot.map dT) (fun d hd env ⟨x, e⟩ => by
      subst e
      obtain ⟨r, hr, rfl⟩ := List.mem_map.mp hd
      have q := is_hand_ok k (st := st) S (h.hand r hr)
      refine ⟨_, rfl, ?_⟩
      simp [q]) [some (setD a b c), some (dTT lot), none, none, none] ⟨none, rfl⟩
  rw [if_pos (by simp)] at q1
  obtain ⟨env2, q1, x, rfl⟩ := q1
  have q2 := forGo_all (src := []) (g := gTup [(gN 3), (gN 4)]) (C := callN Tbl (k + 4)) (st := st) (v := .bl false) (b := (sSeq (sIf (bCmp geD (eV 3) (eV 4)) (sSeq (sRet (eC (.bl false))) sNx) sNx) sNx)) (fun _ => true)
    (fun env => ∃ y z, env = [some (setD a b c), some (dTT lot), x, y, z]) rfl (zipD (lot.map dT) ((lot.map dT).drop 1)) (fun d hd env ⟨y, z, e⟩ => by
      subst e
      obtain ⟨r, s, rfl, hrs⟩ := zip_asc h.asc d hd
      refine ⟨_, rfl, ?_⟩
      have ge := embT.ge (by decide) st r s
      rw [show decide (r < s) = true from decide_eq_true hrs] at ge
      simp [ge]) [some (setD a b c), some (dTT lot), x, none, none] ⟨none, none, rfl⟩
  rw [if_pos (by simp)] at q2
  obtain ⟨env3, q2, y, z, rfl⟩ := q2
  have l1 : ¬ ((lot.length : Nat) : Int) < 1 := by have := h.ne; omega
  have l2 : ¬ (60 : Int) < (lot.length : Nat) := by have := h.le; omega
  have cd : cutD (lot.map dT) (some 1) none = (lot.map dT).drop 1 := cut_drop _ 1
  simp only [dTT, tupF] at q1 q2 ⊢
  rw [List.drop_one] at q2
  simp [h1, l1, l2, q1, cd, q2]
theorem check_lot_ok (k : Nat) {st : Sto} {a b c n : Nat} (S : Stg a b c n) {lot : List (List Int)} (h : IsLot a n lot) : callN Tbl (k + 6) n_check_lot [setD a b c, dTT lot] st = .ok .non st := by
  rw [run_eq (Tbl := Tbl) (f := n_check_lot) rfl rfl]
  have := is_lot_ok k (st := st) S h
  simp [this]

def KeepS (s : Nat) (st st' : Sto) : Prop := st.length ≤ st'.length ∧ ∀ j, j < st.length → j ≠ s → st'[j]? = st[j]?
theorem KeepS.refl (s : Nat) (st : Sto) : KeepS s st st := ⟨Nat.le_refl _, fun _ _ _ => rfl⟩
theorem KeepS.trans {s : Nat} {a b c : Sto} (h : KeepS s a b) (g : KeepS s b c) : KeepS s a c := ⟨Nat.le_trans h.1 g.1, fun j hj hs => (g.2 j (Nat.lt_of_lt_of_le hj h.1) hs).trans (h.2 j hj hs)⟩
theorem KeepS.set (s : Nat) (st : Sto) (c : Cell) : KeepS s st (st.set s c) := ⟨by simp, fun j _ hs => List.getElem?_set_ne (Ne.symm hs)⟩
theorem KeepS.app (s : Nat) (st g : Sto) : KeepS s st (st ++ g) := ⟨by simp, fun j hj _ => List.getElem?_append_left hj⟩
theorem KeepS.put {s : Nat} {st st' : Sto} (h : KeepS s st st') {i : Nat} (hi : st.length ≤ i) (c : Cell) : KeepS s st (st'.set i c) :=
  ⟨by simpa using h.1, fun j hj hs => by rw [List.getElem?_set_ne (by omega)]; exact h.2 j hj hs⟩
theorem KeepS.lst {s : Nat} {st st' : Sto} (h : KeepS s st st') {i : Nat} {ds : List D} (hi : lstAt st i = some ds) (hs : i ≠ s) : lstAt st' i = some ds := by
  have := h.2 i (lstAt_lt hi) hs
  unfold lstAt at hi ⊢
  rw [this]
  exact hi
theorem KeepS.seq {s : Nat} {st st' : Sto} (h : KeepS s st st') {x : D} {ds : List D} (hx : Seq st x ds) (hs : ∀ i, x = .ref i → i ≠ s) : Seq st' x ds := by
  cases hx with
  | tup => exact .tup _
  | scr => exact .scr _
  | ref i ds hi => exact .ref i ds (h.lst hi (hs i rfl))
theorem KeepS.old {s : Nat} {st st' : Sto} (h : KeepS s st st') (hc : ∀ c, st'[s]? = some c → s < st.length → c.lo st.length = true) : OldOk st st' := fun i c hi e => by
  by_cases hs : i = s
  · subst hs; exact .inr (hc c e hi)
  · rw [h.2 i hi hs] at e; exact .inl e
theorem gc_val {st st' : Sto} {d : D} (o : OldOk st st') (h : d.lo st.length = true) : gc st d st' = .ok d (st'.take st.length) := by
  unfold gc
  rw [if_pos o, if_pos h]
theorem gc_lst {st st' : Sto} {k : Nat} {c : Cell} (o : OldOk st st') (hk : st.length ≤ k) (e : st'[k]? = some c) (h : c.lo st.length = true) : gc st (.ref k) st' = .ok (.ref st.length) (st'.take st.length ++ [c]) := by
  unfold gc
  rw [if_pos o, if_neg (by simp [D.lo]; omega)]
  simp only [e, h, if_true]
/-- nothing changed -/
abbrev Keep (st st' : Sto) : Prop := KeepS st.length st st'
theorem Keep.take {st st' : Sto} (h : Keep st st') : st'.take st.length = st := by
  apply List.ext_getElem?
  intro j
  by_cases hj : j < st.length
  · rw [List.getElem?_take_of_lt hj]; exact h.2 j hj (by omega)
  · rw [List.getElem?_eq_none (by simp; omega), List.getElem?_eq_none (by omega)]
theorem Keep.old {st st' : Sto} (h : Keep st st') : OldOk st st' := KeepS.old h fun c _ hs => absurd hs (Nat.lt_irrefl _)
theorem gc_keep {st st' : Sto} {d : D} (k : Keep st st') (h : d.lo st.length = true) : gc st d st' = .ok d st := by rw [gc_val k.old h, k.take]
theorem gc_keepL {st st' : Sto} {k : Nat} {ds : List D} (o : Keep st st') (hk : st.length ≤ k) (e : lstAt st' k = some ds) (h : D.loL st.length ds = true) : gc st (.ref k) st' = .ok (.ref st.length) (st ++ [.lst ds]) := by
  have e' : st'[k]? = some (.lst ds) := by
    unfold lstAt at e
    split at e
    · rename_i q; cases e; exact q
    · cases e
  rw [gc_lst o.old hk e' h, o.take]
theorem KeepS.keep {s : Nat} {st st' : Sto} (h : KeepS s st st') (hs : st.length ≤ s) : Keep st st' := ⟨h.1, fun j hj _ => h.2 j hj (by omega)⟩
theorem KeepS.mono {s : Nat} {a b c : Sto} (h : KeepS s b c) (hs : a.length ≤ s) (k : Keep a b) : Keep a c := ⟨Nat.le_trans k.1 h.1, fun j hj _ => (h.2 j (Nat.lt_of_lt_of_le hj k.1) (by omega)).trans (k.2 j hj (by omega))⟩

theorem lt_of_le_ne {a b : List Int} (h : a ≤ b) (n : a ≠ b) : a < b := by
  rcases Classical.em (a < b) with g | g
  · exact g
  · exact absurd (List.le_antisymm h g) n
theorem eqB_lists {st : Sto} {i j : Nat} {xs ys : List (List Int)} (hi : lstAt st i = some (xs.map dT)) (hj : lstAt st j = some (ys.map dT)) : eqB st (.ref i) (.ref j) = some (decide (xs = ys)) := by
  unfold eqB
  rw [embT.datR st i xs hi, embT.datR st j ys hj]
  simp only [Option.bind_some]
  have s1 : SeqAt.shaped (.list (xs.map fun y => encD (dT y))) = true := embT.shpT (by decide) xs
  have s2 : SeqAt.shaped (.list (ys.map fun y => encD (dT y))) = true := embT.shpT (by decide) ys
  rw [if_pos ⟨s1, s2⟩]
  congr 1
  exact embT.qL xs ys
@[simp] theorem lSorted_ap (l : SL) (C : Call) (env : Env) (st : Sto) : lSorted l C env st = (l C env st).bind fun xs st => Res.of (sortO xs) st := rfl
/-- after some drawings: the source, the rest as it was -/
structure Drew (st : Sto) (s N : Nat) (st' : Sto) : Prop where
  src : Src st' s N
  keep : KeepS s st st'
  len : st'.length = st.length
theorem Drew.lst {st st' : Sto} {s N i : Nat} {ds : List D} (h : Drew st s N st') (hi : lstAt st i = some ds) (hs : i ≠ s) : lstAt st' i = some ds := h.keep.lst hi hs
theorem Src.take {st : Sto} {s N n : Nat} (h : Src st s N) (hs : s < n) : Src (st.take n) s N := by
  obtain ⟨c, xs, pos, left, step, stir, e1, e2, hc, p⟩ := h.ex
  refine ⟨c, xs, pos, left, step, stir, by rw [List.getElem?_take_of_lt hs]; exact e1, ?_, hc, p⟩
  unfold lstAt at e2 ⊢
  rw [List.getElem?_take_of_lt (by omega)]
  exact e2
theorem Src.old {st st2 : Sto} {s N : Nat} (h : Src st2 s N) (hs : s < st.length) (k : KeepS s st st2) : OldOk st st2 := k.old fun c e _ => by
  obtain ⟨a, xs, pos, left, step, stir, e1, _, hc, _⟩ := h.ex
  rw [e1] at e
  cases e
  simp; omega
theorem Drew.trans {a b c : Sto} {s N M : Nat} (h : Drew a s N b) (g : Drew b s M c) : Drew a s M c := ⟨g.src, h.keep.trans g.keep, g.len.trans h.len⟩
def leZ (a b : Int) : Bool := !decide (b < a)
theorem leZ_iff {a b : Int} : leZ a b = true ↔ a ≤ b := by
  unfold leZ
  rw [Bool.not_eq_true', decide_eq_false_iff_not]
  omega
theorem sortI_pw (l : List Int) : (l.mergeSort leZ).Pairwise (· ≤ ·) :=
  (List.pairwise_mergeSort (le := leZ) (fun a b c h g => leZ_iff.mpr (by have := leZ_iff.mp h; have := leZ_iff.mp g; omega))
    (fun a b => by rw [Bool.or_eq_true, leZ_iff, leZ_iff]; omega) l).imp fun h => leZ_iff.mp h
theorem asc_of : ∀ {l : List Int}, l.Pairwise (· ≤ ·) → l.Nodup → Asc l
  | [], _, _ => List.Pairwise.nil
  | x :: l, h, n => by
    obtain ⟨h1, h2⟩ := List.pairwise_cons.mp h
    obtain ⟨n1, n2⟩ := List.nodup_cons.mp n
    refine List.pairwise_cons.mpr ⟨fun y hy => ?_, asc_of h2 n2⟩
    have := h1 y hy
    have : x ≠ y := fun e => n1 (e ▸ hy)
    omega
theorem sort_hand {a n : Nat} {l : List Int} (hl : l.length = a) (hn : l.Nodup) (hm : ∀ x, x ∈ l → 0 ≤ x ∧ x < n) : IsHand a n (l.mergeSort leZ) :=
  ⟨by rw [List.length_mergeSort, hl], asc_of (sortI_pw l) ((List.mergeSort_perm l leZ).nodup_iff.mpr hn), fun x hx => hm x (List.mem_mergeSort.mp hx)⟩
theorem asc_nodup {l : List Int} (h : Asc l) : l.Nodup := h.imp fun h => by omega
/-- a loop that answers v at the first item that fails -/
theorem forGo_allA {α : Type} {src : List (Nat × List D)} {g : SG} {b : SS} {C : Call} {st : Sto} {v : D} (f : α → D) (p : α → Bool) (E : Env → Prop) (hg : good src st = true) : ∀ (l : List α),
    (∀ a, a ∈ l → ∀ env, E env → ∃ env', g (f a) env = some env' ∧ if p a then ∃ env2, b C env' st = .nx env2 st ∧ E env2 else b C env' st = .ret v st) →
    ∀ env, E env → if l.all p then ∃ env2, forGo src g b C (l.map f) env st = .nx env2 st ∧ E env2 else forGo src g b C (l.map f) env st = .ret v st
  | [], _, env, h => by simp [forGo, hg]; exact h
  | d :: ds, hs, env, h => by
    obtain ⟨env', g1, q⟩ := hs d (by simp) env h
    by_cases hp : p d = true
    · rw [if_pos hp] at q
      obtain ⟨env2, b1, e2⟩ := q
      have ih := forGo_allA f p E hg ds (fun d' hd => hs d' (by simp [hd])) env2 e2
      rw [List.map_cons, forGo_step hg g1 b1, List.all_cons, hp, Bool.true_and]
      exact ih
    · rw [if_neg hp] at q
      rw [List.all_cons, eq_false_of_ne_true hp, Bool.false_and]
      simp only [Bool.false_eq_true, if_false]
      rw [List.map_cons, forGo]; simp [hg, g1, q]
def common (h o : List Int) : Nat := (h.filter fun c => decide (c ∈ o)).length
theorem in_row {st : Sto} (c : Int) (o : List Int) : inB st (.int c) (.tup (o.map D.int)) = some (decide (c ∈ o)) := embI.inT (by decide) c (by simp) st o
theorem common_comp {C : Call} {env : Env} {st : Sto} {h o : List Int} {i j : Nat} (hj : j ≠ i) (ho : env[i]? = some (some (dT o))) (hl : j < env.length) :
    lcGo [] (gN j) (bCmp inB (eV j) (eV i)) (eV j) C env (h.map D.int) [] st = .ok ((h.filter fun c => decide (c ∈ o)).map D.int) st := by
  rw [lcGo_of D.int (fun c => decide (c ∈ o)) D.int rfl, List.nil_append]
  intro c hc
  refine ⟨_, rfl, ?_, fun _ => ?_⟩
  · simp only [dT, tupF] at ho
    simp [List.getElem?_set_ne hj, ho, in_row, hl]
  · simp [hl]
abbrev allH (a n : Nat) : List (List Int) := combs a (iota n)
/-- within _law_lot -/
structure LotSt (st0 : Sto) (s a b c n N : Nat) (kind : Int) (L : List (List Int)) (env : Env) (st : Sto) : Prop where
  ex : ∃ (h f : Nat) (x6 x7 x8 x9 x10 x11 x12 x13 : Option D), env = [some (.ref s), some (setD a b c), some (.int n), some (.ref h), some (.int kind), some (.ref f), x6, x7, x8, x9, x10, x11, x12, x13] ∧
    lstAt st h = some ((allH a n).map dT) ∧ lstAt st f = some (L.map dT) ∧ Src st s N ∧ KeepS s st0 st ∧ st0.length ≤ h ∧ st0.length ≤ f ∧ h ≠ f ∧ s < st0.length
  hand : ∀ r, r ∈ L → IsHand a n r
  few : L.length ≤ 100
theorem Src.put {st : Sto} {s N f : Nat} {c : Cell} (h : Src st s N) (hf : s < f) : Src (st.set f c) s N := by
  obtain ⟨c', xs, pos, left, step, stir, e1, e2, hc, p⟩ := h.ex
  exact ⟨c', xs, pos, left, step, stir, by rw [List.getElem?_set_ne (by omega)]; exact e1, by rw [lstAt_set_ne (by omega)]; exact e2, hc, p⟩
/-- the lists within _law_lot -/
structure LF (st0 : Sto) (s a n N p f : Nat) (L : List (List Int)) (st : Sto) : Prop where
  hp : lstAt st p = some ((allH a n).map dT)
  hf : lstAt st f = some (L.map dT)
  src : Src st s N
  keep : KeepS s st0 st
  p0 : st0.length ≤ p
  f0 : st0.length ≤ f
  ne : p ≠ f
  s0 : s < st0.length
theorem LF.put {st0 : Sto} {s a n N p f : Nat} {L : List (List Int)} {st : Sto} (h : LF st0 s a n N p f L st) (L' : List (List Int)) : LF st0 s a n N p f L' (st.set f (.lst (L'.map dT))) :=
  ⟨by rw [lstAt_set_ne h.ne]; exact h.hp, lstAt_set (lstAt_lt h.hf), h.src.put (by have := h.f0; have := h.s0; omega), h.keep.put h.f0 _, h.p0, h.f0, h.ne, h.s0⟩
theorem LF.mono {st0 : Sto} {s a n N M p f : Nat} {L : List (List Int)} {st : Sto} (h : LF st0 s a n N p f L st) (hm : N ≤ M) : LF st0 s a n M p f L st := ⟨h.hp, h.hf, h.src.mono hm, h.keep, h.p0, h.f0, h.ne, h.s0⟩
theorem LF.st {st0 : Sto} {s a b c n N p f : Nat} {kind : Int} {L : List (List Int)} {st : Sto} {x6 x7 x8 x9 x10 x11 x12 x13 : Option D} (h : LF st0 s a n N p f L st) (hh : ∀ r, r ∈ L → IsHand a n r) (hl : L.length ≤ 100) :
    LotSt st0 s a b c n N kind L [some (.ref s), some (setD a b c), some (.int n), some (.ref p), some (.int kind), some (.ref f), x6, x7, x8, x9, x10, x11, x12, x13] st :=
  ⟨⟨p, f, x6, x7, x8, x9, x10, x11, x12, x13, rfl, h.hp, h.hf, h.src, h.keep, h.p0, h.f0, h.ne, h.s0⟩, hh, hl⟩
abbrev L2b : SS := (sSeq (sExp (eM appendR (eV 5) (lCons (eB2 ixR (eV 3) (eCall 7 (lCons (eV 0) (lCons (eU1 lenR (eV 3)) lNil)))) lNil))) sNx)
noncomputable abbrev S2 : SS := (sIf (bCmp eqB (eV 4) (eC (.int 2))) (sSeq (sFor (siR1 (lCons (eB2 addR (eC (.int 1)) (eCall 7 (lCons (eV 0) (lCons (eC (.int 8)) lNil)))) lNil)) (gN 9) L2b) sNx) sNx)
/-- hands that are lists or tuples -/
def HandsAt (st : Sto) (hs : List D) (rows : List (List Int)) : Prop := hs.length = rows.length ∧ ∀ (i : Nat) (d : D) (r : List Int), hs[i]? = some d → rows[i]? = some r → Seq st d (r.map D.int)
theorem HandsAt.keep {s : Nat} {st st' : Sto} {hs : List D} {rows : List (List Int)} (h : HandsAt st hs rows) (hn : ∀ d, d ∈ hs → d ≠ .ref s) (k : KeepS s st st') : HandsAt st' hs rows :=
  ⟨h.1, fun i d r h1 h2 => k.seq (h.2 i d r h1 h2) fun j e ej => hn d (List.mem_of_getElem? h1) (by rw [e, ej])⟩
noncomputable abbrev K1 : SS := (sSeq (sSet 2 (eTup (lCons (eC (.int 4)) (lCons (eC (.int 8)) (lCons (eC (.int 1)) lNil))))) (sSeq (sSet 3 (eNew (lLc (siR1 (lCons (eC (.int 13)) lNil)) (gN 6) [6] bTrue (eNew (lLc (siT (lLst (lCons (eC (.int 0)) (lCons (eC (.int 1)) (lCons (eC (.int 3)) (lCons (eC (.int 9)) lNil)))))) (gN 7) [7] bTrue (eB2 modR (eU1 intR (eB2 addR (eV 7) (eV 6))) (eC (.int 13)))))))) sNx))
noncomputable abbrev K3 : SS := (sSeq (sSet 2 (eTup (lCons (eC (.int 5)) (lCons (eC (.int 5)) (lCons (eC (.int 1)) lNil))))) (sSeq (sSet 4 (eCall 7 (lCons (eV 0) (lCons (eC (.int 11)) lNil)))) (sSeq (sSet 3 (eNew (lLc (siOf (eCall 41 (lCons (eNew (lRng (eC (.int 11)))) (lCons (eC (.int 5)) lNil)))) (gN 8) [8] (bCmp eqB (eB2 modR (eU1 intR (eA sumQ (lSeq (eV 8)))) (eC (.int 11))) (eV 4)) (eV 8)))) sNx)))
theorem common_spec (k : Nat) {st : Sto} {h o : List Int} (hh : h.length ≤ 100) : callN Tbl (k + 1) n_count_common [dT h, dT o] st = .ok (.int (common h o : Nat)) st := by
  rw [run_eq (Tbl := Tbl) (f := n_count_common) rfl rfl]
  have zh : h.length ≤ sizeLine := sz hh
  have e2 := common_comp (C := callN Tbl k) (env := [some (dT h), some (dT o), none]) (st := st) (h := h) (o := o) (i := 1) (j := 2) (by decide) rfl (by simp)
  simp only [dT, tupF] at e2 ⊢
  simp [zh, e2]
  rfl
/-- the cards that are not among some -/
def othersI (n : Nat) (r : List Int) : List Int := (iota n).filter fun c => !decide (c ∈ r)
theorem others_spec (k : Nat) {st : Sto} {a b c n : Nat} (S : Stg a b c n) (r : List Int) : callN Tbl (k + 1) n_others [setD a b c, dT r] st = .ok (dT (othersI n r)) st := by
  rw [run_eq (Tbl := Tbl) (f := n_others) rfl rfl]
  have hn := S.le
  have b1 : rngI n = true := rngI_of (by omega) (by omega)
  have zn : n ≤ sizeLine := sz (by omega)
  have hq : lcGo [] (gN 2) (bCmp ninB (eV 2) (eV 1)) (eV 2) (callN Tbl k) [some (setD a b c), some (dT r), none] ((List.range n).map fun (i : Nat) => D.int (i : Int)) [] st = .ok ((othersI n r).map D.int) st := by
    have := lcGo_of (src := []) (g := gN 2) (c := bCmp ninB (eV 2) (eV 1)) (e := eV 2) (C := callN Tbl k) (env := [some (setD a b c), some (dT r), none]) (st := st) D.int (fun c => !decide (c ∈ r)) D.int rfl (iota n) [] (fun x hx => by
      refine ⟨_, rfl, ?_, fun _ => by simp⟩
      have := in_row (st := st) x r
      simp only [dT, tupF]
      simp [ninB, this])
    rw [List.nil_append] at this
    have e : ((List.range n).map fun (i : Nat) => D.int (i : Int)) = (iota n).map D.int := by unfold iota; rw [List.map_map]; rfl
    rw [e]
    exact this
  have zo : (othersI n r).length ≤ sizeLine := sz (by
    have := List.length_filter_le (fun c => !decide (c ∈ r)) (iota n)
    rw [iota_len] at this
    unfold othersI; omega)
  simp only [dT, tupF] at hq ⊢
  simp [S.sm, b1, zn, hq, zo]

def pairsL : List (List Int) → List (List Int × List Int)
  | [] => []
  | h :: t => (t.map fun o => (h, o)) ++ pairsL t
abbrev pD (p : List Int × List Int) : D := .tup [dT p.1, dT p.2]
theorem enum_at (ds : List D) : ∀ (n i : Nat), (enumD n ds)[i]? = (ds[i]?).map fun d => D.tup [.int ((n + i : Nat) : Int), d] := by
  induction ds with
  | nil => intro n i; simp [enumD]
  | cons d ds ih =>
    intro n i
    cases i with
    | zero => simp [enumD]
    | succ i =>
      simp only [enumD, List.getElem?_cons_succ]
      rw [ih (n + 1) i, show n + 1 + i = n + (i + 1) by omega]
theorem pairs_len : ∀ (lot : List (List Int)), (pairsL lot).length ≤ lot.length * lot.length
  | [] => by simp [pairsL]
  | h :: t => by
    have := pairs_len t
    simp only [pairsL, List.length_append, List.length_map, List.length_cons]
    have e : (t.length + 1) * (t.length + 1) = t.length * t.length + t.length + t.length + 1 := by rw [Nat.add_mul, Nat.mul_add]; omega
    omega
abbrev pairB : SS := (sSeq (sExp (eM appendR (eV 1) (lCons (eTup (lCons (eV 3) (lCons (eV 4) lNil))) lNil))) sNx)
theorem pairs_in {C : Call} {x0 x2 : Option D} {f : Nat} {h : List Int} : ∀ (os : List (List Int)) (L : List (List Int × List Int)) (st : Sto) (y : Option D), lstAt st f = some (L.map pD) → L.length + os.length < 10000 →
    ∃ y', forGo [] (gN 4) pairB C (os.map dT) [x0, some (.ref f), x2, some (dT h), y] st = .nx [x0, some (.ref f), x2, some (dT h), y'] (st.set f (.lst ((L ++ os.map fun o => (h, o)).map pD)))
  | [], L, st, y, hL, _ => ⟨y, by simp [forGo, set_lst_self hL]⟩
  | o :: os, L, st, y, hL, hz => by
    have z2 : 2 ≤ sizeLine := sz (by decide)
    have ap := appendR_ref (y := pD (h, o)) hL (by rw [List.length_map]; simp at hz; exact Nat.lt_of_lt_of_le (show L.length < 10000 by omega) (small_size (Nat.le_refl _)))
    have q : pairB C [x0, some (.ref f), x2, some (dT h), some (dT o)] st = .nx [x0, some (.ref f), x2, some (dT h), some (dT o)] (st.set f (.lst ((L ++ [(h, o)]).map pD))) := by
      rw [List.map_append]
      simp [hL, z2, ap]
    obtain ⟨y', ih⟩ := pairs_in (C := C) (x0 := x0) (x2 := x2) (h := h) os (L ++ [(h, o)]) _ (some (dT o)) (lstAt_set (lstAt_lt hL)) (by simp at hz ⊢; omega)
    refine ⟨y', ?_⟩
    rw [List.map_cons, forGo_step rfl rfl q, ih]
    simp [List.set_set]
theorem pairs_spec (k : Nat) {st : Sto} {lot : List (List Int)} (hl : lot.length ≤ 60) : callN Tbl (k + 1) n_pairs_of [dTT lot] st = .ok (.ref st.length) (st ++ [.lst ((pairsL lot).map pD)]) := by
  rw [run_eq (Tbl := Tbl) (f := n_pairs_of) rfl rfl]
  have z0 : 0 ≤ sizeLine := Nat.zero_le _
  have pl : (pairsL lot).length ≤ 3600 := Nat.le_trans (pairs_len lot) (Nat.mul_le_mul hl hl)
  obtain ⟨env2, st2, r1, x, y, z, L, r2, r3, r4, r5⟩ := forGo_inv (src := []) (g := gTup [(gN 2), (gN 3)]) (C := callN Tbl k) (b := (sSeq (sFor (siOf (eSl (eV 0) (oSome (eB2 addR (eV 2) (eC (.int 1)))) oNone)) (gN 4) pairB) sNx))
    (fun i env st' => ∃ (x y z : Option D) (L : List (List Int × List Int)), env = [some (dTT lot), some (.ref st.length), x, y, z] ∧ lstAt st' st.length = some (L.map pD) ∧ L ++ pairsL (lot.drop i) = pairsL lot ∧ Keep st st') (enumD 0 (lot.map dT)) 0
    (fun i d hd env st' ⟨x, y, z, L, e, e1, e2, e3⟩ => by
      rw [Nat.zero_add] at e2
      subst e
      rw [enum_at, List.getElem?_map] at hd
      obtain ⟨d', hd2, rfl⟩ := Option.map_eq_some_iff.mp hd
      obtain ⟨h, hh, rfl⟩ := Option.map_eq_some_iff.mp hd2
      obtain ⟨hi, eh⟩ := List.getElem?_eq_some_iff.mp hh
      rw [Nat.zero_add]
      have ed : lot.drop i = h :: lot.drop (i + 1) := by rw [List.drop_eq_getElem_cons hi, eh]
      rw [ed] at e2
      simp only [pairsL] at e2
      have lz : L.length + (lot.drop (i + 1)).length < 10000 := by
        have := congrArg List.length e2
        simp only [List.length_append, List.length_map] at this
        omega
      obtain ⟨z', q⟩ := pairs_in (C := callN Tbl k) (x0 := some (dTT lot)) (x2 := some (.int (i : Int))) (h := h) (lot.drop (i + 1)) L st' z e1 lz
      have cd : cutD (lot.map dT) (some ((i : Int) + 1)) none = (lot.drop (i + 1)).map dT := by
        rw [show (i : Int) + 1 = ((i + 1 : Nat) : Int) by omega, cut_drop, List.map_drop]
      refine ⟨rfl, _, rfl, [some (dTT lot), some (.ref st.length), some (.int (i : Int)), some (dT h), z'], _, ?_, _, _, _, L ++ (lot.drop (i + 1)).map fun o => (h, o), rfl, lstAt_set (lstAt_lt e1), by rw [List.append_assoc]; exact e2, e3.put (Nat.le_refl _) _⟩
      simp only [sSeq_ap, sFor_ap, siOf_ap, eSl_ap, eV_ap, List.getElem?_cons_succ, List.getElem?_cons_zero, Res.bind_ok, oSome_ap, oNone_ap, eB2_ap, eC_ap, addR_int, dTT, tupF, cd, Res.thenS_ok, List.set_cons_succ, List.set_cons_zero]
      simp only [dTT, tupF] at q
      rw [q]
      rfl) (fun _ _ _ => rfl) [some (dTT lot), some (.ref st.length), none, none, none] (st ++ [Cell.lst []]) ⟨_, _, _, [], rfl, lstAt_app_len _, by simp, KeepS.app _ _ _⟩
  have el : (enumD 0 (lot.map dT)).length = lot.length := by rw [enumD_length, List.length_map]
  rw [Nat.zero_add, el, List.drop_length] at r4
  simp [pairsL] at r4
  subst r2 r4
  simp only [dTT, tupF] at r1 ⊢
  simp [z0, r1]
  have lo : ∀ ps : List (List Int × List Int), D.loL st.length (ps.map pD) = true := fun ps => by
    induction ps with
    | nil => rfl
    | cons p ps ih =>
      show (D.lo _ (pD p) && D.loL _ (ps.map pD)) = true
      rw [ih]; simp
  exact gc_keepL r5 (Nat.le_refl _) r3 (lo _)

/-- a loop that answers at the first item that holds -/
theorem forGo_find {α : Type} {src : List (Nat × List D)} {g : SG} {b : SS} {C : Call} {st : Sto} (f : α → D) (p : α → Bool) (v : α → D) (E : Env → Prop) (hg : good src st = true) : ∀ (l : List α),
    (∀ a, a ∈ l → ∀ env, E env → ∃ env', g (f a) env = some env' ∧ if p a then b C env' st = .ret (v a) st else ∃ env2, b C env' st = .nx env2 st ∧ E env2) →
    ∀ env, E env → (∀ a, l.find? p = some a → forGo src g b C (l.map f) env st = .ret (v a) st) ∧ (l.find? p = none → ∃ env2, forGo src g b C (l.map f) env st = .nx env2 st ∧ E env2)
  | [], _, env, h => ⟨fun a e => (by cases e), fun _ => ⟨env, by simp [forGo, hg], h⟩⟩
  | d :: ds, hs, env, h => by
    obtain ⟨env', g1, q⟩ := hs d (by simp) env h
    by_cases hp : p d = true
    · rw [if_pos hp] at q
      refine ⟨fun a e => ?_, fun e => ?_⟩
      · rw [List.find?_cons_of_pos hp] at e
        cases e
        rw [List.map_cons, forGo]; simp [hg, g1, q]
      · rw [List.find?_cons_of_pos hp] at e; cases e
    · rw [if_neg hp] at q
      obtain ⟨env2, b1, e2⟩ := q
      have ih := forGo_find f p v E hg ds (fun d' hd => hs d' (by simp [hd])) env2 e2
      rw [List.map_cons, forGo_step hg g1 b1, List.find?_cons_of_neg hp]
      exact ih
def blurB (a c : Nat) (p : List Int × List Int) : Bool := decide ((a : Int) - c ≤ (common p.1 p.2 : Nat))
def blurV (b n : Nat) (p : List Int × List Int) : D := .tup [dT p.1, dT p.2, dT ((othersI n (p.1 ++ p.2)).take b)]
def blurD (a b c n : Nat) (lot : List (List Int)) : D := match (pairsL lot).find? (blurB a c) with | some p => blurV b n p | none => .non
theorem pairs_mem : ∀ {lot : List (List Int)} {p : List Int × List Int}, p ∈ pairsL lot → p.1 ∈ lot ∧ p.2 ∈ lot
  | [], p, h => by cases h
  | x :: t, p, h => by
    rcases List.mem_append.mp h with h | h
    · obtain ⟨o, ho, rfl⟩ := List.mem_map.mp h
      exact ⟨List.mem_cons_self, List.mem_cons_of_mem _ ho⟩
    · obtain ⟨h1, h2⟩ := pairs_mem h
      exact ⟨List.mem_cons_of_mem _ h1, List.mem_cons_of_mem _ h2⟩
abbrev blurBody : SS := (sSeq (sIf (bCmp geD (eCall 37 (lCons (eV 2) (lCons (eV 3) lNil))) (eB2 subR (eB2 ixR (eV 0) (eC (.int 0))) (eB2 ixR (eV 0) (eC (.int 2))))) (sSeq (sSet 4 (eCall 36 (lCons (eV 0) (lCons (eB2 addR (eV 2) (eV 3)) lNil)))) (sSeq (sRet (eTup (lCons (eV 2) (lCons (eV 3) (lCons (eSl (eV 4) oNone (oSome (eB2 ixR (eV 0) (eC (.int 1))))) lNil))))) sNx)) sNx) sNx)
theorem blur_spec (k : Nat) {st : Sto} {a b c n : Nat} (S : Stg a b c n) {lot : List (List Int)} (h : IsLot a n lot) : callN Tbl (k + 7) n_blur [setD a b c, dTT lot] st = .ok (blurD a b c n lot) st := by
  rw [run_eq (Tbl := Tbl) (f := n_blur) rfl rfl]
  have hc := check_lot_ok k (st := st) S h
  have hp := pairs_spec (k + 5) (st := st) h.le
  have an : a ≤ 13 := by have := S.le; have := S.sum; omega
  have z3 : 3 ≤ sizeLine := sz (by decide)
  have g1 : lstAt (st ++ [Cell.lst ((pairsL lot).map pD)]) st.length = some ((pairsL lot).map pD) := lstAt_app_len _
  have q := forGo_find (src := [(st.length, (pairsL lot).map pD)]) (g := gTup [(gN 2), (gN 3)]) (b := blurBody) (C := callN Tbl (k + 6)) (st := st ++ [Cell.lst ((pairsL lot).map pD)]) pD (blurB a c) (blurV b n) (fun env => ∃ x y, env = [some (setD a b c), some (dTT lot), x, y, none]) (by simp [good, g1]) (pairsL lot) (fun p hp' env ⟨x, y, e⟩ => by
    subst e
    obtain ⟨m1, m2⟩ := pairs_mem hp'
    have l1 := (h.hand p.1 m1).1
    have l2 := (h.hand p.2 m2).1
    refine ⟨_, rfl, ?_⟩
    have e1 := common_spec (k + 5) (st := st ++ [Cell.lst ((pairsL lot).map pD)]) (h := p.1) (o := p.2) (by omega)
    have e2 := others_spec (k + 5) (st := st ++ [Cell.lst ((pairsL lot).map pD)]) S (p.1 ++ p.2)
    have zz : p.1.length + p.2.length ≤ sizeLine := sz (by omega)
    have ct := cut_take ((othersI n (p.1 ++ p.2)).map D.int) b
    simp only [dT, tupF, List.map_append] at e1 e2
    by_cases hb : (a : Int) - c ≤ (common p.1 p.2 : Nat)
    · rw [if_pos (show blurB a c p = true from decide_eq_true hb)]
      simp [e1, hb, zz, e2, ct, z3, blurV]
    · rw [if_neg (show ¬ blurB a c p = true by simpa [blurB] using hb)]
      simp [e1, hb]) [some (setD a b c), some (dTT lot), none, none, none] ⟨none, none, rfl⟩
  have out : ∀ d : D, (∀ m, d.lo m = true) → gc st d (st ++ [Cell.lst ((pairsL lot).map pD)]) = .ok d st := fun d hd => gc_app (hd _)
  unfold blurD
  cases hf : (pairsL lot).find? (blurB a c) with
  | some p =>
    have r := q.1 p hf
    simp only [dTT, tupF] at r hc hp ⊢
    simp [hc, hp, g1, r]
    exact out _ fun m => by simp [blurV, ← List.map_take]
  | none =>
    obtain ⟨env2, r, x, y, rfl⟩ := q.2 hf
    simp only [dTT, tupF] at r hc hp ⊢
    simp [hc, hp, g1, r]
    exact out _ fun m => rfl
theorem useful_spec (k : Nat) {st : Sto} {a b c n : Nat} (S : Stg a b c n) {lot : List (List Int)} (h : IsLot a n lot) : callN Tbl (k + 8) n_is_useful [setD a b c, dTT lot] st = .ok (.bl ((pairsL lot).all fun p => !blurB a c p)) st := by
  rw [run_eq (Tbl := Tbl) (f := n_is_useful) rfl rfl]
  have e := blur_spec k (st := st) S h
  simp [e]
  unfold blurD
  cases hf : (pairsL lot).find? (blurB a c) with
  | some p =>
    have h1 := List.find?_some hf
    have h2 := List.mem_of_find?_eq_some hf
    have : ((pairsL lot).all fun p => !blurB a c p) = false := by
      rw [← Bool.not_eq_true]
      intro hall
      have := List.all_eq_true.mp hall p h2
      rw [h1] at this; cases this
    simp [this, blurV]
  | none =>
    have : ((pairsL lot).all fun p => !blurB a c p) = true := List.all_eq_true.mpr fun p hp => by
      have := List.find?_eq_none.mp hf p hp
      simpa using this
    simp [this]
theorem nodup_le : ∀ {l m : List Int}, l.Nodup → (∀ x, x ∈ l → x ∈ m) → l.length ≤ m.length
  | [], m, _, _ => Nat.zero_le _
  | x :: l, m, hn, hs => by
    obtain ⟨n1, n2⟩ := List.nodup_cons.mp hn
    have hx := hs x List.mem_cons_self
    have ih := nodup_le (l := l) (m := m.erase x) n2 fun y hy => (List.mem_erase_of_ne (fun e : y = x => n1 (e ▸ hy))).mpr (hs y (List.mem_cons_of_mem _ hy))
    have := List.length_erase_of_mem hx
    have := List.length_pos_of_mem hx
    simp only [List.length_cons]
    omega
theorem common_le {h o : List Int} (hh : h.Nodup) : common h o ≤ common o h := by
  unfold common
  have sub : ∀ x, x ∈ h.filter (fun c => decide (c ∈ o)) → x ∈ o.filter (fun c => decide (c ∈ h)) := fun x hx => by
    obtain ⟨h1, h2⟩ := List.mem_filter.mp hx
    exact List.mem_filter.mpr ⟨of_decide_eq_true h2, decide_eq_true h1⟩
  exact nodup_le (hh.sublist List.filter_sublist) sub
theorem common_comm {h o : List Int} (hh : h.Nodup) (ho : o.Nodup) : common h o = common o h := Nat.le_antisymm (common_le hh) (common_le ho)
def dueB (a c : Nat) (lot : List (List Int)) : Bool := lot.all fun h => lot.all fun o => decide (h = o) || !decide ((a : Int) - c ≤ (common h o : Nat))
theorem pairs_in_all : ∀ {lot : List (List Int)} {h o : List Int}, h ∈ lot → o ∈ lot → h ≠ o → (h, o) ∈ pairsL lot ∨ (o, h) ∈ pairsL lot
  | x :: t, h, o, hh, ho, ne => by
    simp only [pairsL, List.mem_append, List.mem_map]
    rcases List.mem_cons.mp hh with e1 | hh2
    · rcases List.mem_cons.mp ho with e2 | ho2
      · exact absurd (e1.trans e2.symm) ne
      · exact .inl (.inl ⟨o, ho2, by rw [e1]⟩)
    · rcases List.mem_cons.mp ho with e2 | ho2
      · exact .inr (.inl ⟨h, hh2, by rw [e2]⟩)
      · rcases pairs_in_all hh2 ho2 ne with q | q
        · exact .inl (.inr q)
        · exact .inr (.inr q)
theorem pairs_ne : ∀ {lot : List (List Int)}, lot.Pairwise (· < ·) → ∀ p, p ∈ pairsL lot → p.1 ≠ p.2
  | [], _, p, h => by cases h
  | x :: t, hp, p, h => by
    obtain ⟨h1, h2⟩ := List.pairwise_cons.mp hp
    rcases List.mem_append.mp h with h | h
    · obtain ⟨o, ho, rfl⟩ := List.mem_map.mp h
      intro e
      have := h1 o ho
      simp only at e
      rw [e] at this
      exact embI.irrL o this
    · exact pairs_ne h2 p h
theorem due_eq {a n c : Nat} {lot : List (List Int)} (h : IsLot a n lot) : ((pairsL lot).all fun p => !blurB a c p) = dueB a c lot := by
  rw [Bool.eq_iff_iff, List.all_eq_true]
  unfold dueB
  rw [List.all_eq_true]
  constructor
  · intro q x hx
    rw [List.all_eq_true]
    intro o ho
    by_cases e : x = o
    · simp [e]
    · have cm := common_comm (asc_nodup (h.hand x hx).2.1) (asc_nodup (h.hand o ho).2.1)
      rcases pairs_in_all hx ho e with z | z
      · have := q _ z
        simp only [blurB] at this
        simp [e]; simpa using this
      · have := q _ z
        simp only [blurB] at this
        rw [cm]
        simp [e]; simpa using this
  · intro q p hp
    obtain ⟨m1, m2⟩ := pairs_mem hp
    have := List.all_eq_true.mp (q p.1 m1) p.2 m2
    have ne := pairs_ne h.asc p hp
    simp [ne] at this
    simp [blurB]; exact this

theorem same_len {l m : List Int} (hl : l.Nodup) (hm : m.Nodup) (h : ∀ x, x ∈ l ↔ x ∈ m) : l.length = m.length :=
  Nat.le_antisymm (nodup_le hl fun x hx => (h x).mp hx) (nodup_le hm fun x hx => (h x).mpr hx)
theorem Src.keep {st st' : Sto} {s N : Nat} (h : Src st s N) (k : Keep st st') : Src st' s N := by
  have hs := h.lt
  obtain ⟨c, xs, pos, left, step, stir, e1, e2, hc, r⟩ := h.ex
  refine ⟨c, xs, pos, left, step, stir, ?_, ?_, hc, r⟩
  · rw [k.2 s hs (by omega)]; exact e1
  · unfold lstAt at e2 ⊢
    rw [k.2 c (by omega) (by omega)]; exact e2
theorem asc_ext : ∀ {l m : List Int}, Asc l → Asc m → (∀ x, x ∈ l ↔ x ∈ m) → l = m
  | [], [], _, _, _ => rfl
  | [], y :: m, _, _, h => by have := (h y).mpr (by simp); cases this
  | x :: l, [], _, _, h => by have := (h x).mp (by simp); cases this
  | x :: l, y :: m, hl, hm, h => by
    obtain ⟨l1, l2⟩ := List.pairwise_cons.mp hl
    obtain ⟨m1, m2⟩ := List.pairwise_cons.mp hm
    have hxy : x = y := by
      rcases List.mem_cons.mp ((h x).mp (by simp)) with e | e
      · exact e
      · rcases List.mem_cons.mp ((h y).mpr (by simp)) with e2 | e2
        · exact e2.symm
        · have := m1 x e; have := l1 y e2; omega
    subst hxy
    rw [asc_ext l2 m2 fun z => ?_]
    constructor
    · intro hz
      rcases List.mem_cons.mp ((h z).mp (by simp [hz])) with e | e
      · subst e; have := l1 z hz; omega
      · exact e
    · intro hz
      rcases List.mem_cons.mp ((h z).mpr (by simp [hz])) with e | e
      · subst e; have := m1 z hz; omega
      · exact e
theorem ty_lst {st : Sto} {i : Nat} {ds : List D} (h : lstAt st i = some ds) : tyOf st (.ref i) = some .lst := by
  unfold lstAt at h
  show (match st[i]? with | some (.lst _) => some Ty.lst | some (.dct _) => some Ty.dict | some (.dcn _) => some Ty.dict | some (.lck _) => some Ty.dict | none => none) = _
  split at h
  · rename_i e; rw [e]
  · cases h
theorem filt_two (p : Int → Bool) : ∀ l : List Int, (l.filter p).length + (l.filter fun x => !p x).length = l.length
  | [] => rfl
  | x :: l => by
    have := filt_two p l
    cases hp : p x <;> simp [List.filter_cons, hp] <;> omega
theorem hand_comb {a n : Nat} {r : List Int} (h : IsHand a n r) : r ∈ combs a (iota n) := by
  have sub : r.Sublist (iota n) := by
    have : r = (iota n).filter fun x => decide (x ∈ r) := asc_ext h.2.1 ((iota_asc n).sublist List.filter_sublist) fun x => by
      rw [List.mem_filter, decide_eq_true_iff]
      exact ⟨fun z => ⟨mem_iota.mpr (h.2.2 x z), z⟩, fun z => z.2⟩
    rw [this]; exact List.filter_sublist
  have := mem_combs (iota n) r sub
  rwa [h.1] at this
theorem comb_hand {a n : Nat} {r : List Int} (h : r ∈ combs a (iota n)) : IsHand a n r := by
  obtain ⟨h1, h2⟩ := combs_mem a (iota n) r h
  exact ⟨h1, (iota_asc n).sublist h2, fun x hx => mem_iota.mp (h2.subset hx)⟩
def usefB (a c : Nat) (lot : List (List Int)) : Bool := (pairsL lot).all fun p => !blurB a c p
theorem pairs_all {q : List Int × List Int → Bool} : ∀ {lot : List (List Int)}, lot.Pairwise (· < ·) → ((pairsL lot).all q = lot.all fun h => lot.all fun o => !decide (h < o) || q (h, o)) := by
  intro lot hp
  rw [Bool.eq_iff_iff, List.all_eq_true, List.all_eq_true]
  constructor
  · intro hq h hh
    rw [List.all_eq_true]
    intro o ho
    by_cases c : h < o
    · have ne : h ≠ o := fun e => by rw [e] at c; exact embI.irrL o c
      rcases pairs_in_all hh ho ne with z | z
      · rw [hq _ z]; simp
      · exfalso
        have : ∀ {l : List (List Int)}, l.Pairwise (· < ·) → ∀ p, p ∈ pairsL l → p.1 < p.2 := fun {l} => by
          induction l with
          | nil => intro _ p hp; cases hp
          | cons x t ih =>
            intro hl p hp
            obtain ⟨h1, h2⟩ := List.pairwise_cons.mp hl
            rcases List.mem_append.mp hp with hp | hp
            · obtain ⟨y, hy, rfl⟩ := List.mem_map.mp hp
              exact h1 y hy
            · exact ih h2 p hp
        have := this hp _ z
        exact embI.irrL h (List.lt_trans c this)
    · simp [c]
  · intro hq p hp'
    obtain ⟨m1, m2⟩ := pairs_mem hp'
    have := List.all_eq_true.mp (hq p.1 m1) p.2 m2
    have lt : p.1 < p.2 := by
      have : ∀ {l : List (List Int)}, l.Pairwise (· < ·) → ∀ p, p ∈ pairsL l → p.1 < p.2 := fun {l} => by
        induction l with
        | nil => intro _ p hp; cases hp
        | cons x t ih =>
          intro hl p hp
          obtain ⟨h1, h2⟩ := List.pairwise_cons.mp hl
          rcases List.mem_append.mp hp with hp | hp
          · obtain ⟨y, hy, rfl⟩ := List.mem_map.mp hp
            exact h1 y hy
          · exact ih h2 p hp
      exact this hp p hp'
    simpa [lt] using this
theorem gcX_keep {st st' : Sto} {c : Nat} (k : Keep st st') : gcX st c .non st' = .exc c .non st := by
  unfold gcX
  rw [if_pos ⟨k.old, rfl⟩, k.take]
/-- no row of so many cards -/
def BadC (st : Sto) (n most : Nat) (d : D) : Prop := tyOk st d ∧ (isRowD n d = false ∨ ∃ r m, d = dT r ∧ IsHand m n r ∧ most < m)
theorem BadC.app {st : Sto} {n most : Nat} {d : D} (h : BadC st n most d) (g : Sto) : BadC (st ++ g) n most d := by
  obtain ⟨⟨⟨t, ht⟩, hx⟩, o⟩ := h
  have up : ∀ x t, tyOf st x = some t → tyOf (st ++ g) x = some t := fun x t h => by
    cases x with
    | ref i =>
      have e : ∀ s : Sto, tyOf s (.ref i) = (match s[i]? with | some (.lst _) => some Ty.lst | some (.dct _) => some Ty.dict | some (.dcn _) => some Ty.dict | some (.lck _) => some Ty.dict | none => none) := fun _ => rfl
      rw [e] at h ⊢
      cases hi : st[i]? with
      | none => rw [hi] at h; cases h
      | some c => rw [List.getElem?_append_left (List.getElem?_eq_some_iff.mp hi).1, hi]; rw [hi] at h; exact h
    | _ => exact h
  exact ⟨⟨⟨t, up _ _ ht⟩, fun ds e x hxx => by obtain ⟨t, h⟩ := hx ds e x hxx; exact ⟨t, up _ _ h⟩⟩, o⟩
/-- no row of m cards -/
def BadM (st : Sto) (n m : Nat) (d : D) : Prop := tyOk st d ∧ (isRowD n d = false ∨ ∃ r m', d = dT r ∧ IsHand m' n r ∧ m' ≠ m)
theorem tyOk_app {st : Sto} {d : D} (h : tyOk st d) (g : Sto) : tyOk (st ++ g) d := by
  obtain ⟨⟨t, ht⟩, hx⟩ := h
  have up : ∀ x t, tyOf st x = some t → tyOf (st ++ g) x = some t := fun x t h => by
    cases x with
    | ref i =>
      have e : ∀ s : Sto, tyOf s (.ref i) = (match s[i]? with | some (.lst _) => some Ty.lst | some (.dct _) => some Ty.dict | some (.dcn _) => some Ty.dict | some (.lck _) => some Ty.dict | none => none) := fun _ => rfl
      rw [e] at h ⊢
      cases hi : st[i]? with
      | none => rw [hi] at h; cases h
      | some c => rw [List.getElem?_append_left (List.getElem?_eq_some_iff.mp hi).1, hi]; rw [hi] at h; exact h
    | _ => exact h
  exact ⟨⟨t, up _ _ ht⟩, fun ds e x hxx => by obtain ⟨t, h⟩ := hx ds e x hxx; exact ⟨t, up _ _ h⟩⟩
theorem BadM.app {st : Sto} {n m : Nat} {d : D} (h : BadM st n m d) (g : Sto) : BadM (st ++ g) n m d := ⟨tyOk_app h.1 g, h.2⟩
/-- numbers below 2003 -/
def DrawsL (m : Nat) (xs : List Int) : Prop := xs.length = m ∧ ∀ x, x ∈ xs → 0 ≤ x ∧ x < 2003
noncomputable abbrev drawB : SS := (sSeq (sIf (bCmp gtD (eV 2) (eC (.int 0))) (sSeq (sExp (eM appendR (eV 3) (lCons (eB2 modR (eV 2) (eC (.int 2003))) lNil))) (sSeq (sSet 2 (eB2 divR (eV 2) (eC (.int 2003)))) sNx)) (sSeq (sSet 5 (eB2 addR (eB2 addR (eB2 mulR (eB2 modR (eU1 intR (eV 0)) (eC (.int 1000000007))) (eC (.int 31))) (eB2 mulR (eC (.int 7919)) (eV 4))) (eC (.int 104729)))) (sSeq (sSet 5 (eB2 modR (eU1 intR (eB2 mulR (eV 5) (eB2 addR (eB2 addR (eV 5) (eC (.int 12345))) (eB2 mulR (eC (.int 977)) (eV 4))))) (eC (.int 2147483647)))) (sSeq (sExp (eM appendR (eV 3) (lCons (eB2 modR (eB2 modR (eU1 intR (eB2 mulR (eV 5) (eV 5))) (eC (.int 2147483629))) (eC (.int 2003))) lNil))) sNx)))) sNx)
theorem draws_spec (k : Nat) {st : Sto} (cell : Int) (m : Nat) (hm : m ≤ 1000) : ∃ xs, callN Tbl (k + 1) n_law_draws [.int cell, .int m] st = .ok (.ref st.length) (st ++ [.lst (xs.map D.int)]) ∧ DrawsL m xs := by
  have br : rngI m = true := rngI_of (by omega) (by omega)
  have z0 : 0 ≤ sizeLine := Nat.zero_le _
  have d1 : divOk 2003 = true := divOk_of (by decide) (by decide)
  have d2 : divOk 1000000007 = true := divOk_of (by decide) (by decide)
  have loop := forGo_inv (src := []) (g := gN 4) (C := callN Tbl k) (b := drawB)
    (fun i env st' => ∃ (r : Int) (x y : Option D) (xs : List Int), env = [some (.int cell), some (.int m), some (.int r), some (.ref st.length), x, y] ∧ st' = st ++ [.lst (xs.map D.int)] ∧ DrawsL i xs ∧ 0 ≤ r) ((List.range m).map fun (i : Nat) => D.int (i : Int)) 0
    (fun i d hd env st' ⟨r, x, y, xs, e, e1, hx, hr⟩ => by
      obtain ⟨hi, rfl⟩ := rngItem hd
      rw [Nat.zero_add] at hx ⊢
      subst e e1
      refine ⟨rfl, _, rfl, ?_⟩
      have l1 : lstAt (st ++ [Cell.lst (xs.map D.int)]) st.length = some (xs.map D.int) := lstAt_app_len _
      have se : ∀ (c1 c : Cell), (st ++ [c1]).set st.length c = st ++ [c] := fun c1 c => by
        rw [List.set_append_right _ _ (by omega)]; simp
      have ap : ∀ y : Int, appendR (st ++ [Cell.lst (xs.map D.int)]) (.ref st.length) [.int y] = .ok .non (st ++ [Cell.lst ((xs ++ [y]).map D.int)]) := fun y => by
        rw [appendR_ref l1 (by rw [List.length_map, hx.1]; exact Nat.lt_of_lt_of_le (show i < 10000 by omega) (small_size (Nat.le_refl _))), se]; simp
      have key : ∀ y : Int, 0 ≤ y → y < 2003 → DrawsL (i + 1) (xs ++ [y]) := fun y h0 h1 => ⟨by simp [hx.1], fun z hz => by
        rcases List.mem_append.mp hz with e | e
        · exact hx.2 z e
        · rw [List.mem_singleton.mp e]; exact ⟨h0, h1⟩⟩
      have m0 : ∀ t : Int, 0 ≤ t % 2003 := fun t => Int.emod_nonneg t (by omega)
      have m1 : ∀ t : Int, t % 2003 < 2003 := fun t => Int.emod_lt_of_pos t (by omega)
      by_cases c : 0 < r
      · refine ⟨[some (.int cell), some (.int m), some (.int (r / 2003)), some (.ref st.length), some (.int i), y], st ++ [.lst ((xs ++ [r % 2003]).map D.int)], ?_, _, _, _, _, rfl, rfl, key _ (m0 _) (m1 _), Int.ediv_nonneg (by omega) (by omega)⟩
        have a := ap (r % 2003)
        generalize (xs ++ [r % 2003]).map D.int = Y at a ⊢
        simp [c, l1, d1, a]
      · have b0 := Int.emod_nonneg cell (show (1000000007 : Int) ≠ 0 by decide)
        have b1 := Int.emod_lt_of_pos cell (show (0 : Int) < 1000000007 by decide)
        have k1 : mulOk (cell % 1000000007) 31 = true := mulOk_l (by omega) (by omega)
        have k2 : mulOk 7919 (i : Int) = true := mulOk_l (by omega) (by omega)
        have k3 : mulOk 977 (i : Int) = true := mulOk_l (by omega) (by omega)
        have s0 : (0 : Int) ≤ cell % 1000000007 * 31 + 7919 * i + 104729 := by omega
        have s1 : cell % 1000000007 * 31 + 7919 * i + 104729 < 100000000000 := by omega
        generalize hs : cell % 1000000007 * 31 + 7919 * (i : Int) + 104729 = sd at s0 s1
        have k4 : mulOk sd (sd + 12345 + 977 * i) = true := mulOk_l (by omega) (by omega)
        have t0 := Int.emod_nonneg (sd * (sd + 12345 + 977 * i)) (show (2147483647 : Int) ≠ 0 by decide)
        have t1 := Int.emod_lt_of_pos (sd * (sd + 12345 + 977 * i)) (show (0 : Int) < 2147483647 by decide)
        generalize hu : sd * (sd + 12345 + 977 * (i : Int)) % 2147483647 = u at t0 t1
        have k5 : mulOk u u = true := mulOk_l (by omega) (by omega)
        refine ⟨[some (.int cell), some (.int m), some (.int r), some (.ref st.length), some (.int i), some (.int u)], st ++ [.lst ((xs ++ [u * u % 2147483629 % 2003]).map D.int)], ?_, _, _, _, _, rfl, rfl, key _ (m0 _) (m1 _), hr⟩
        have a := ap (u * u % 2147483629 % 2003)
        generalize (xs ++ [u * u % 2147483629 % 2003]).map D.int = Y at a ⊢
        simp [c, l1, d1, d2, k1, k2, k3, hs, k4, hu, k5, a]) (fun _ _ _ => rfl)
  rw [run_eq (Tbl := Tbl) (f := n_law_draws) rfl rfl]
  by_cases c : cell < 1000000000000000000
  · obtain ⟨env2, st2, r1, r, x, y, xs, rfl, rfl, hx, _⟩ := loop [some (.int cell), some (.int m), some (.int 0), some (.ref st.length), none, none] (st ++ [.lst []]) ⟨_, _, _, [], rfl, rfl, ⟨rfl, fun x h => by cases h⟩, by omega⟩
    rw [Nat.zero_add, List.length_map, List.length_range] at hx
    refine ⟨xs, ?_, hx⟩
    simp [c, newL, z0, br, r1]
    exact gc_new (Nat.le_refl _) (by simp) (loL_ints _ _)
  · obtain ⟨env2, st2, r1, r, x, y, xs, rfl, rfl, hx, _⟩ := loop [some (.int cell), some (.int m), some (.int cell), some (.ref st.length), none, none] (st ++ [.lst []]) ⟨_, _, _, [], rfl, rfl, ⟨rfl, fun x h => by cases h⟩, by omega⟩
    rw [Nat.zero_add, List.length_map, List.length_range] at hx
    refine ⟨xs, ?_, hx⟩
    simp [c, newL, z0, br, r1]
    exact gc_new (Nat.le_refl _) (by simp) (loL_ints _ _)
theorem law_setting1_spec (k : Nat) {st : Sto} {d : D} {x y z : Int} {rest : List D} (hd : Seq st d (.int x :: .int y :: .int z :: rest)) (m : Nat) (h3 : 3 ≤ m) (hm : m ≤ 13) : ∃ a b c n, callN Tbl (k + 1) n_law_setting [d, .int m] st = .ok (setD a b c) st ∧ Stg a b c n ∧ n ≤ m := by
  rw [run_eq (Tbl := Tbl) (f := n_law_setting) rfl rfl]
  have z3 : 3 ≤ sizeLine := sz (by decide)
  have em : ∀ (t q : Int), 0 < q → 0 ≤ t % q ∧ t % q < q := fun t q h => ⟨Int.emod_nonneg t (by omega), Int.emod_lt_of_pos t h⟩
  obtain ⟨a0, a1⟩ := em x ((m : Int) - 2) (by omega)
  have da : divOk ((m : Int) - 2) = true := divOk_of (by omega) (by omega)
  have pa : (0 : Int) < (m : Int) - 2 := by omega
  obtain ⟨a, ha⟩ : ∃ a : Nat, 1 + x % ((m : Int) - 2) = a := ⟨(1 + x % ((m : Int) - 2)).toNat, by omega⟩
  have pb : (0 : Int) < (m : Int) - 1 - a := by omega
  obtain ⟨b0, b1⟩ := em y ((m : Int) - 1 - a) pb
  have db : divOk ((m : Int) - 1 - a) = true := divOk_of (by omega) (by omega)
  obtain ⟨b, hb⟩ : ∃ b : Nat, 1 + y % ((m : Int) - 1 - a) = b := ⟨(1 + y % ((m : Int) - 1 - a)).toNat, by omega⟩
  have pc : (0 : Int) < (m : Int) - a - b := by omega
  obtain ⟨c0, c1⟩ := em z ((m : Int) - a - b) pc
  have dc : divOk ((m : Int) - a - b) = true := divOk_of (by omega) (by omega)
  obtain ⟨c, hc⟩ : ∃ c : Nat, 1 + z % ((m : Int) - a - b) = c := ⟨(1 + z % ((m : Int) - a - b)).toNat, by omega⟩
  have SG : Stg a b c (a + b + c) := ⟨by omega, by omega, by omega, rfl, by omega⟩
  have hle : a + b + c ≤ m := by omega
  obtain ⟨p1, e1⟩ : ∃ p, (m : Int) - 2 = p := ⟨_, rfl⟩
  obtain ⟨p2, e2⟩ : ∃ p, (m : Int) - 1 - a = p := ⟨_, rfl⟩
  obtain ⟨p3, e3⟩ : ∃ p, (m : Int) - a - b = p := ⟨_, rfl⟩
  rw [e1] at da pa ha
  rw [e2] at db pb hb
  rw [e3] at dc pc hc
  refine ⟨a, b, c, a + b + c, ?_, SG, hle⟩
  have i0 : L2.atI (D.int x :: D.int y :: D.int z :: rest) 0 = some (.int x) := by rw [show (0 : Int) = ((0 : Nat) : Int) from rfl, atI_nat]; rfl
  have i1 : L2.atI (D.int x :: D.int y :: D.int z :: rest) 1 = some (.int y) := by rw [show (1 : Int) = ((1 : Nat) : Int) from rfl, atI_nat]; rfl
  have i2 : L2.atI (D.int x :: D.int y :: D.int z :: rest) 2 = some (.int z) := by rw [show (2 : Int) = ((2 : Nat) : Int) from rfl, atI_nat]; rfl
  cases hd with
  | tup => simp [i0, i1, i2, e1, da, pa, ha, e2, db, pb, hb, e3, dc, pc, hc, z3]
  | scr => simp [i0, i1, i2, e1, da, pa, ha, e2, db, pb, hb, e3, dc, pc, hc, z3]
  | ref i ds h => simp [h, i0, i1, i2, e1, da, pa, ha, e2, db, pb, hb, e3, dc, pc, hc, z3]

theorem insertR_ref {st : Sto} {i : Nat} {L : List D} {p : Int} {y : D} (h : lstAt st i = some L) (hz : insOk p L.length = true) : insertR st (.ref i) [.int p, y] = .ok .non (st.set i (.lst (L.take p.toNat ++ [y] ++ L.drop p.toNat))) := by
  unfold insertR mutL
  simp [h, hz]
/-- all the cards below n, in some order -/
def OrdL (n : Nat) (os : List Int) : Prop := os.length = n ∧ os.Nodup ∧ ∀ x, x ∈ os → 0 ≤ x ∧ x < n
theorem order_spec (k : Nat) {st : Sto} {d : D} {xs : List Int} (hd : Seq st d (xs.map D.int)) (n : Nat) (hn : n ≤ xs.length) (h13 : n ≤ 13) : ∃ os, callN Tbl (k + 1) n_law_order [d, .int n] st = .ok (.ref st.length) (st ++ [.lst (os.map D.int)]) ∧ OrdL n os := by
  rw [run_eq (Tbl := Tbl) (f := n_law_order) rfl rfl]
  have br : rngI n = true := rngI_of (by omega) (by omega)
  have z0 : 0 ≤ sizeLine := Nat.zero_le _
  obtain ⟨env2, st2, r1, x3, os, rfl, rfl, ho⟩ := forGo_inv (src := []) (g := gN 3) (C := callN Tbl k) (b := (sSeq (sExp (eM insertR (eV 2) (lCons (eB2 modR (eB2 ixR (eV 0) (eV 3)) (eB2 addR (eU1 lenR (eV 2)) (eC (.int 1)))) (lCons (eV 3) lNil)))) sNx))
    (fun i env st' => ∃ x3 os, env = [some d, some (.int n), some (.ref st.length), x3] ∧ st' = st ++ [.lst (os.map D.int)] ∧ OrdL i os) ((List.range n).map fun (i : Nat) => D.int (i : Int)) 0
    (fun i d' hd' env st' ⟨x3, os, e, e1, h1, h2, h3⟩ => by
      obtain ⟨hi, rfl⟩ := rngItem hd'
      rw [Nat.zero_add] at h1 h3 ⊢
      subst e e1
      refine ⟨rfl, _, rfl, ?_⟩
      have l1 : lstAt (st ++ [Cell.lst (os.map D.int)]) st.length = some (os.map D.int) := lstAt_app_len _
      have hx : xs[i]? = some (xs[i]'(by omega)) := List.getElem?_eq_getElem (by omega)
      generalize xs[i]'(by omega) = x at hx
      have p0 := Int.emod_nonneg x (show ((i : Int) + 1) ≠ 0 by omega)
      have p1 := Int.emod_lt_of_pos x (show (0 : Int) < (i : Int) + 1 by omega)
      have ins := insertR_ref (y := .int i) l1 (insOk_of (i := x % ((i : Int) + 1)) (by omega) (by omega) (by rw [List.length_map]; omega))
      have se : ∀ (c1 c : Cell), (st ++ [c1]).set st.length c = st ++ [c] := fun c1 c => by
        rw [List.set_append_right _ _ (by omega)]; simp
      rw [se] at ins
      generalize hp : (x % ((i : Int) + 1)).toNat = p at ins
      have pm : (os.take p ++ [(i : Int)] ++ os.drop p).Perm ((i : Int) :: os) := by
        have := List.perm_middle (a := (i : Int)) (l₁ := os.take p) (l₂ := os.drop p)
        rw [List.take_append_drop] at this
        simpa using this
      refine ⟨[some d, some (.int n), some (.ref st.length), some (.int i)], st ++ [.lst ((os.take p ++ [(i : Int)] ++ os.drop p).map D.int)], ?_, _, _, rfl, rfl, ?_, ?_, ?_⟩
      · have pos : (0 : Int) < (i : Int) + 1 := by omega
        have it : (xs.map D.int)[i]? = some (.int x) := by rw [List.getElem?_map, hx]; rfl
        have ml : (os.take p ++ [(i : Int)] ++ os.drop p).map D.int = (os.map D.int).take p ++ [D.int i] ++ (os.map D.int).drop p := by simp [List.map_take, List.map_drop]
        rw [ml]
        generalize (os.map D.int).take p ++ [D.int i] ++ (os.map D.int).drop p = Y at ins ⊢
        have ax : L2.atI (xs.map D.int) (i : Int) = some (.int x) := by rw [atI_nat]; exact it
        generalize xs.map D.int = XS at *
        have pos' : 0 < i + 1 := by omega
        cases hd with
        | tup => simp [ax, it, l1, h1, pos, ins]
        | scr => simp [ax, it, l1, h1, pos, ins]
        | ref j ds h =>
          have h' : lstAt (st ++ [Cell.lst (os.map D.int)]) j = some XS := by rw [lstAt_app (lstAt_lt h)]; exact h
          simp [h', ax, it, l1, h1, pos, ins]
      · rw [pm.length_eq, List.length_cons, h1]
      · exact pm.nodup_iff.mpr (List.nodup_cons.mpr ⟨fun hm => by have := (h3 _ hm).2; omega, h2⟩)
      · intro z hz
        rcases List.mem_cons.mp (pm.mem_iff.mp hz) with e | e
        · rw [e]; omega
        · have := h3 z e; omega) (fun _ _ _ => rfl) [some d, some (.int n), some (.ref st.length), none] (st ++ [.lst []]) ⟨_, [], rfl, rfl, rfl, List.Pairwise.nil, fun x h => by cases h⟩
  rw [Nat.zero_add, List.length_map, List.length_range] at ho
  refine ⟨os, ?_, ho⟩
  simp [br, newL, z0, r1]
  exact gc_new (Nat.le_refl _) (by simp) (loL_ints _ _)

theorem common_symm {h o : List Int} (hh : h.Nodup) (ho : o.Nodup) : common h o = common o h := by
  unfold common
  exact same_len (hh.sublist List.filter_sublist) (ho.sublist List.filter_sublist) fun x => by
    rw [List.mem_filter, List.mem_filter, decide_eq_true_iff, decide_eq_true_iff]
    exact ⟨fun z => ⟨z.2, z.1⟩, fun z => ⟨z.2, z.1⟩⟩
theorem useful_iff {a c n : Nat} {lot : List (List Int)} (h : IsLot a n lot) : ((pairsL lot).all fun p => !blurB a c p) = true ↔ ∀ x, x ∈ lot → ∀ y, y ∈ lot → x ≠ y → (common x y : Int) < (a : Int) - c := by
  rw [pairs_all h.asc]
  simp only [List.all_eq_true, Bool.or_eq_true, Bool.not_eq_true', decide_eq_false_iff_not, blurB]
  constructor
  · intro q x hx y hy e
    rcases Classical.em (x < y) with l | l
    · have := (q x hx y hy).resolve_left fun z => z l
      omega
    · have l2 : y < x := lt_of_le_ne (List.not_lt.mp l) fun z => e z.symm
      have := (q y hy x hx).resolve_left fun z => z l2
      rw [common_symm (asc_nodup (h.hand x hx).2.1) (asc_nodup (h.hand y hy).2.1)]
      omega
  · intro q x hx y hy
    rcases Classical.em (x < y) with l | l
    · right
      have := q x hx y hy fun e => by subst e; exact List.lt_irrefl x l
      omega
    · exact .inl l
theorem filt_twoG {α : Type} (p : α → Bool) : ∀ l : List α, (l.filter p).length + (l.filter fun x => !p x).length = l.length
  | [] => rfl
  | x :: l => by
    have := filt_twoG p l
    rw [List.filter_cons, List.filter_cons]
    cases p x <;> simp <;> omega
theorem neB_same_bl (st : Sto) (x : Bool) : neB st (.bl x) (.bl x) = some false := by cases x <;> rfl
theorem shares_spec (k : Nat) {st : Sto} (h o : List Int) (hl : h.length ≤ 100) : callN Tbl (k + 1) n_law_shares [dT h, dT o] st = .ok (.int (common h o : Nat)) st := by
  rw [run_eq (Tbl := Tbl) (f := n_law_shares) rfl rfl]
  have zl : h.length ≤ sizeLine := sz hl
  have q := common_comp (C := callN Tbl k) (env := [some (dT h), some (dT o), none]) (st := st) (h := h) (o := o) (i := 1) (j := 2) (by decide) rfl (by simp)
  have w : (h.filter fun c => decide (c ∈ o)).length = common h o := rfl
  simp only [dT, tupF] at q ⊢
  simp [zl, q, w]

def Cov (a c : Nat) (L : List (List Int)) (h : List Int) : Prop := h ∈ L ∨ ∃ l, l ∈ L ∧ (a : Int) - c ≤ common l h
theorem Cov.app {a c : Nat} {L : List (List Int)} {h : List Int} (q : Cov a c L h) (M : List (List Int)) : Cov a c (L ++ M) h := by
  rcases q with e | ⟨l, h1, h2⟩
  · exact .inl (List.mem_append_left _ e)
  · exact .inr ⟨l, List.mem_append_left _ h1, h2⟩
theorem cell_at0 (k : Nat) {st : Sto} (ns : List Int) (h63 : ns.length ≤ 63) : ∃ c : Int, callN Tbl (k + 1) n_law_cell_at [.scr (ns.map D.int), .int 0] st = .ok (.int c) st := by
  rw [run_eq (Tbl := Tbl) (f := n_law_cell_at) rfl rfl]
  have zn : ns.length ≤ sizeLine := sz (by omega)
  match ns, zn with
  | [], zn => exact ⟨0, by simp⟩
  | x :: t, zn =>
    refine ⟨x, ?_⟩
    have p : (0 : Int) < (t.length : Int) + 1 := by omega
    have a0 : L2.atI (D.int x :: t.map D.int) 0 = some (.int x) := by rw [show (0 : Int) = ((0 : Nat) : Int) from rfl, atI_nat]; rfl
    have zt : t.length + 1 ≤ sizeLine := zn
    simp [zt, p, a0]
theorem is_hands_spec (k : Nat) {st : Sto} (lot : List (List Int)) : callN Tbl (k + 1) n_law_is_hands [dTT lot] st = .ok (.bl true) st := by
  rw [run_eq (Tbl := Tbl) (f := n_law_is_hands) rfl rfl]
  have loop := forGo_all (src := []) (g := gN 1) (C := callN Tbl k) (st := st) (v := .bl false) (b := (sSeq (sIf (bNot (bOf (eU1 (isiR .tup) (eV 1)))) (sSeq (sRet (eC (.bl false))) sNx) sNx) (sSeq (sFor (siOf (eV 1)) (gN 2) (sSeq (sIf (bOr (bNot (bOf (eU1 (isiR .int) (eV 2)))) (bOf (eU1 (isiR .bool) (eV 2)))) (sSeq (sRet (eC (.bl false))) sNx) sNx) sNx)) sNx))) (fun _ => true) (fun env => ∃ v w, env = [some (dTT lot), v, w]) rfl (lot.map dT) (fun d hd env ⟨v, w, e⟩ => by
    obtain ⟨r, _, rfl⟩ := List.mem_map.mp hd
    subst e
    refine ⟨_, rfl, ?_⟩
    have inner := forGo_all (src := []) (g := gN 2) (C := callN Tbl k) (st := st) (v := .bl false) (b := (sSeq (sIf (bOr (bNot (bOf (eU1 (isiR .int) (eV 2)))) (bOf (eU1 (isiR .bool) (eV 2)))) (sSeq (sRet (eC (.bl false))) sNx) sNx) sNx)) (fun _ => true) (fun env => ∃ w, env = [some (dTT lot), some (dT r), w]) rfl (r.map D.int) (fun d hd env ⟨w, e⟩ => by
      obtain ⟨x, _, rfl⟩ := List.mem_map.mp hd
      subst e
      exact ⟨_, rfl, by simp⟩) [some (dTT lot), some (dT r), w] ⟨_, rfl⟩
    rw [if_pos (by simp)] at inner
    obtain ⟨env2, q, w', rfl⟩ := inner
    rw [if_pos rfl]
    refine ⟨[some (dTT lot), some (dT r), w'], ?_, _, _, rfl⟩
    simp only [dT, tupF] at q ⊢
    generalize dTT lot = DL at *
    simp [q]) [some (dTT lot), none, none] ⟨_, _, rfl⟩
  rw [if_pos (by simp)] at loop
  obtain ⟨env2, q, v, w, rfl⟩ := loop
  have gk : gc st (.bl true) st = .ok (.bl true) st := gc_keep (KeepS.refl _ _) rfl
  simp only [dTT, tupF] at q ⊢
  simp [q, gk]
def tyE (st : Sto) (d : D) : Prop := tyOk st d ∧ ∀ ds, d = .tup ds → ds.length ≤ 100
def TyL (st : Sto) (d : D) : Prop := (∃ t, tyOf st d = some t) ∧ ∀ ds, d = .tup ds → ds.length ≤ 10000 ∧ ∀ e, e ∈ ds → tyE st e
def rowOf : D → List Int
  | .tup ds => ds.map fun d => match d with | .int i => i | _ => 0
  | _ => []
def GoodAt (a n : Nat) (ds : List D) (i : Nat) : Prop := ∃ d, ds[i]? = some d ∧ isHandD a n d = true ∧ ∀ e, 1 ≤ i → ds[i - 1]? = some e → rowOf e < rowOf d
def LotD (a n : Nat) (d : D) : Prop := ∃ ds, d = .tup ds ∧ 1 ≤ ds.length ∧ ds.length ≤ 60 ∧ ∀ i, i < ds.length → GoodAt a n ds i
noncomputable def lotB (a n : Nat) (d : D) : Bool := @decide (LotD a n d) (Classical.propDecidable _)
theorem seq_nx {A X : SS} {C : Call} {env env2 : Env} {st st2 : Sto} (h : A C env st = .nx env2 st2) : (sSeq A X) C env st = X C env2 st2 := by
  rw [sSeq_ap, h]; rfl
/-- no size at all: below 0, or m and more; or no integer -/
inductive Sz (st : Sto) (m : Nat) : D → Prop
  | int (i : Int) (h : i < 0 ∨ (m : Int) ≤ i) : Sz st m (.int i)
  | bl (b : Bool) : Sz st m (.bl b)
  | str (x : Str) (h : SeqAt.shaped (.str x) = true) : Sz st m (.str x)
  | tup : Sz st m (.tup [.int 1])
  | lst (i : Nat) (h : lstAt st i = some [.int 1]) : Sz st m (.ref i)
  | dct (i : Nat) (h : st[i]? = some (.dct [])) : Sz st m (.ref i)
theorem Sz.app {st : Sto} {m : Nat} {d : D} (h : Sz st m d) (g : Sto) : Sz (st ++ g) m d := by
  cases h with
  | int i h => exact .int i h
  | bl b => exact .bl b
  | str x h => exact .str x h
  | tup => exact .tup
  | lst i h => exact .lst i (by rw [lstAt_app (lstAt_lt h)]; exact h)
  | dct i h => exact .dct i (by rw [List.getElem?_append_left (List.getElem?_eq_some_iff.mp h).1]; exact h)
section
variable {a b c n : Nat} {lot : List (List Int)} {x0 x1 x5 : Option D} {d : D} {st : Sto}
end

section
variable {a b c n : Nat} {lot : List (List Int)} {x0 x1 x5 : Option D} {d : D} {st : Sto}
end
section
variable {st : Sto} {x y : D}
end
/-- a part that no setting has -/
def OddP (v : D) : Prop := (∃ i : Int, v = .int i ∧ i < 1) ∨ ((∀ i, v ≠ .int i) ∧ ∀ st, ∃ t, tyOf st v = some t)
theorem OddP.ty {v : D} (h : OddP v) (st : Sto) : ∃ t, tyOf st v = some t := by
  rcases h with ⟨i, rfl, _⟩ | ⟨_, h⟩
  · exact ⟨_, rfl⟩
  · exact h st
def intsD : D → List Int
  | .tup ds => (intL ds).getD []
  | _ => []
/-- three rows that share out all cards -/
def dealB (a b c n : Nat) : D → Bool
  | .tup [x, y, z] => isHandD a n x && (isHandD b n y && (isHandD c n z && decide (setLen (intsD x ++ intsD y ++ intsD z) = n)))
  | _ => false
/-- a thing and, if it is a tuple, its parts: of known types -/
def tyDeal (st : Sto) (d : D) : Prop := (∃ t, tyOf st d = some t) ∧ ∀ ds, d = .tup ds → ∀ x, x ∈ ds → tyOk st x
section
variable (st : Sto)
end
theorem tyE_app {st : Sto} {d : D} (h : tyE st d) (g : Sto) : tyE (st ++ g) d := ⟨tyOk_app h.1 g, h.2⟩
section
variable {C : Call} {G : Sto} {d SD v : D} {f j m n : Nat} {acc r : List Int}
end
section
variable {a b c n s M cd : Nat} {lot : List (List Int)} {r : List Int} {x : Int} {v : Bool} {x5 x6 x9 x10 x11 x12 : Option D} {V : Sto}
end

section
variable {C : Call} {env : Env} {st : Sto}
@[simp] theorem eDcn0_ap : eDcn0 C env st = .ok (.ref st.length) (st ++ [.dcn []]) := rfl
@[simp] theorem eDm2_ap (g : Sto → D → D → D → Res D) (o a b : SE) : eDm2 g o a b C env st = (o C env st).bind fun x st => if (dcnAt st x).isSome then (a C env st).bind fun y st => (b C env st).bind fun z st => g st x y z else .stuck := rfl
@[simp] theorem eNewD_ap (l : SKV) : eNewD l C env st = (l C env st).bind fun kvs st => .ok (.ref st.length) (st ++ [.dcn kvs]) := rfl
@[simp] theorem lDc_ap (it : SI) (g : SG) (vs : List Nat) (c : SB) (mk mv : SE) : lDc it g vs c mk mv C env st = (it C env st).bind fun w st => dcGo w.src g c mk mv C (wipeE env vs) w.ds [] st := rfl
@[simp] theorem lDcN_ap (pr : D × D → D) (m : SE) (g : SG) (vs : List Nat) (c : SB) (mk mv : SE) : lDcN pr m g vs c mk mv C env st = (m C env st).bind fun x st1 => match dcnAt st1 x with
  | some (i, kvs) => if lockable st i then (dcGo [] g c mk mv C (wipeE env vs) (kvs.map pr) [] (st1.set i (.lck kvs))).bind fun ds st2 => unl i ds st2 else .stuck
  | none => .stuck := rfl
@[simp] theorem lLcN_ap (pr : D × D → D) (m : SE) (g : SG) (vs : List Nat) (c : SB) (elt : SE) : lLcN pr m g vs c elt C env st = (m C env st).bind fun x st1 => match dcnAt st1 x with
  | some (i, kvs) => if lockable st i then (if kvs.length ≤ sizeLine then lcGo [] g c elt C (wipeE env vs) (kvs.map pr) [] (st1.set i (.lck kvs)) else .stuck).bind fun ds st2 => unl i ds st2 else .stuck
  | none => .stuck := rfl
@[simp] theorem lLc2_ap (it : SI) (g : SG) (vs : List Nat) (c : SB) (si1 : SI) (g1 : SG) (vs1 : List Nat) (c1 : SB) (elt : SE) : lLc2 it g vs c si1 g1 vs1 c1 elt C env st = (it C env st).bind fun w st => lc2Go w.src g c si1 g1 vs1 c1 elt C (wipeE env vs) w.ds [] st := rfl
@[simp] theorem sForN_ap (m : SE) (g : SG) (b : SS) : sForN m g b C env st = (m C env st).thenS env fun x st1 => match dcnAt st1 x with
  | some (i, kvs) => if lockable st i then unlS i (forGo [] g b C (kvs.map prK) env (st1.set i (.lck kvs))) else .stuck
  | none => .stuck := rfl
@[simp] theorem eIdxT_ap (ss : List Str) (a : SE) : eIdxT ss a C env st = (a C env st).bind fun x st => match x with
  | .str z => match ss.findIdx? (fun y => decide (y = z)) with | some j => .ok (.int (j : Nat)) st | none => .stuck
  | _ => .stuck := rfl
@[simp] theorem eDispS_ap (ps : List (Str × Str)) : eDispS ps C env st = .ok (.ref st.length) (st ++ [.dct (ps.map fun p => (.str p.1, .str p.2))]) := rfl
@[simp] theorem eDisp1_ap (mk mv : SE) : eDisp1 mk mv C env st = (mk C env st).bind fun k st => (mv C env st).bind fun v st => if (keyT k).isSome then .ok (.ref st.length) (st ++ [.dcn [(k, v)]]) else .stuck := rfl
@[simp] theorem lKeysN_ap (m : SE) : lKeysN m C env st = (m C env st).bind fun x st => match dcnAt st x with | some (_, kvs) => .ok (kvs.map (·.1)) st | none => .stuck := rfl
@[simp] theorem sDel_ap (o i : SE) : sDel o i C env st = (o C env st).thenS env fun x st => (i C env st).thenS env fun y st => match delN st x y with | some st' => .nx env st' | none => .stuck := rfl
@[simp] theorem sAugN_ap (f : Sto → D → D → Res D) (mo mi mv : SE) : sAugN f mo mi mv C env st = (mo C env st).thenS env fun x st => (mi C env st).thenS env fun y st => (ixN st x y).thenS env fun c st => (mv C env st).thenS env fun e st => (f st c e).thenS env fun z st => match putN st x y z with | some st' => .nx env st' | none => .stuck := rfl
end
/-- the groups' list: one more item under the key -/
def addG (gs : List (D × List D)) (k d : D) : List (D × List D) := if (gs.any fun g => decide (g.1 = k)) then gs.map (fun g => if g.1 = k then (g.1, g.2 ++ [d]) else g) else gs ++ [(k, [d])]
def grps (key : D → D) (ds : List D) : List (D × List D) := ds.foldl (fun gs d => addG gs (key d) d) []
def gkv (gs : List (D × List D)) (rs : List Nat) : List (D × D) := List.zipWith (fun g r => (g.1, D.ref r)) gs rs
/-- a dict of lists, each a list of its own -/
structure GAt (st : Sto) (i : Nat) (gs : List (D × List D)) (rs : List Nat) : Prop where
  len : rs.length = gs.length
  nd : rs.Nodup
  kn : (gs.map (·.1)).Nodup
  dct : st[i]? = some (.dcn (gkv gs rs))
  lst : ∀ (j : Nat) (g : D × List D) (r : Nat), gs[j]? = some g → rs[j]? = some r → i < r ∧ lstAt st r = some g.2
theorem gkv_len (gs : List (D × List D)) (rs : List Nat) (h : rs.length = gs.length) : (gkv gs rs).length = gs.length := by simp [gkv, h]
/-- what a look-up finds -/
theorem gkv_get : ∀ (gs : List (D × List D)) (rs : List Nat), rs.length = gs.length → ∀ k : D, (dGet (gkv gs rs) k = none ∧ (gs.any fun g => decide (g.1 = k)) = false) ∨ ∃ (j : Nat) (g : D × List D) (r : Nat), gs[j]? = some g ∧ rs[j]? = some r ∧ g.1 = k ∧ dGet (gkv gs rs) k = some (.ref r) ∧ (gs.any fun g => decide (g.1 = k)) = true
  | [], _, _, k => .inl ⟨rfl, rfl⟩
  | g :: gs, [], h, k => by simp at h
  | g :: gs, r :: rs, h, k => by
    by_cases e : g.1 = k
    · exact .inr ⟨0, g, r, rfl, rfl, e, dGet_pos (p := (g.1, D.ref r)) e, by simp [e]⟩
    · have q : dGet (gkv (g :: gs) (r :: rs)) k = dGet (gkv gs rs) k := dGet_neg (p := (g.1, D.ref r)) e
      rw [q]
      rcases gkv_get gs rs (by simpa using h) k with ⟨h1, h2⟩ | ⟨j, g', r', h1, h2, h3, h4, h5⟩
      · exact .inl ⟨h1, by simp [e] at h2 ⊢; exact h2⟩
      · exact .inr ⟨j + 1, g', r', h1, h2, h3, h4, by rw [List.any_cons, h5, Bool.or_true]⟩
theorem lstAt_ne_app {st : Sto} {r : Nat} {c : Cell} {ds : List D} (h : lstAt st r = some ds) : lstAt (st ++ [c]) r = some ds := by rw [lstAt_app (lstAt_lt h)]; exact h
/-- groups.setdefault(key, []).append(d): the new list is laid ahead -/
theorem GAt.step {st : Sto} {i : Nat} {gs : List (D × List D)} {rs : List Nat} (h : GAt st i gs rs) {k d : D} (hk : (keyT k).isSome = true) (hz : gs.length < 10000) (hl : ∀ g, g ∈ gs → g.2.length < 10000) :
    ∃ r st1 st2 rs', setdefR (st ++ [Cell.lst []]) (.ref i) k (.ref st.length) = .ok (.ref r) st1 ∧ isLst st1 (.ref r) = true ∧ appendR st1 (.ref r) [d] = .ok .non st2 ∧ GAt st2 i (addG gs k d) rs' ∧ (∀ j, j < i → st2[j]? = st[j]?) ∧ st.length < st2.length ∧
      (∀ j, j < st.length → j ≠ i → j ∉ rs → st2[j]? = st[j]?) := by
  have hi : i < st.length := (List.getElem?_eq_some_iff.mp h.dct).1
  have d1 : dcnAt (st ++ [Cell.lst []]) (.ref i) = some (i, gkv gs rs) := dcnAt_ref (by rw [List.getElem?_append_left hi]; exact h.dct)
  have z : (gkv gs rs).length < sizeLine := by
    rw [gkv_len gs rs h.len]
    have := small_size (n := 10000) (by decide)
    omega
  unfold setdefR addG
  rw [d1]
  simp only [hk, z, and_self, if_true]
  rcases gkv_get gs rs h.len k with ⟨h1, h2⟩ | ⟨j, g, r, h1, h2, h3, h4, h5⟩
  · rw [h1, h2]
    simp only [Bool.false_eq_true, if_false]
    have e0 : lstAt ((st ++ [Cell.lst []]).set i (Cell.dcn (gkv gs rs ++ [(k, D.ref st.length)]))) st.length = some [] := by
      rw [lstAt_set_ne (by omega)]; exact lstAt_app_len []
    have hz2 : ([] : List D).length < sizeLine := by
      have := small_size (n := 10000) (by decide)
      simp only [List.length_nil]; omega
    refine ⟨_, _, (((st ++ [Cell.lst []]).set i (Cell.dcn (gkv gs rs ++ [(k, D.ref st.length)]))).set st.length (Cell.lst [d])), rs ++ [st.length], rfl, by simp [e0], ?_, ⟨by simp [h.len], ?_, ?_, ?_, ?_⟩, ?_, by simp, ?_⟩
    · unfold appendR mutL
      simp only [e0]
      rw [if_pos hz2]; rfl
    · refine List.nodup_append.mpr ⟨h.nd, by simp, fun a ha b hb => ?_⟩
      rw [List.mem_singleton.mp hb]
      obtain ⟨j, hj, ej⟩ := List.mem_iff_getElem.mp ha
      have hj2 : j < gs.length := by rw [← h.len]; exact hj
      have hg : gs[j]? = some gs[j] := List.getElem?_eq_getElem hj2
      have := (h.lst j _ a hg (by simp [hj, ej])).2
      have := lstAt_lt this
      omega
    · rw [List.map_append]
      refine List.nodup_append.mpr ⟨h.kn, by simp, fun a ha b hb e => ?_⟩
      rw [List.map_cons, List.map_nil, List.mem_singleton] at hb
      obtain ⟨g, hg, rfl⟩ := List.mem_map.mp ha
      have : (gs.any fun g => decide (g.1 = k)) = true := List.any_eq_true.mpr ⟨g, hg, by simp [e, hb]⟩
      rw [h2] at this; cases this
    · rw [List.getElem?_set_ne (by omega), List.getElem?_set_self (by simp; omega)]
      have hzw : ∀ (gs : List (D × List D)) (rs : List Nat), rs.length = gs.length → gkv (gs ++ [(k, [d])]) (rs ++ [st.length]) = gkv gs rs ++ [(k, D.ref st.length)] := fun gs rs e => by
        unfold gkv
        rw [List.zipWith_append e.symm]; rfl
      rw [hzw gs rs h.len]
    · intro j g r hg hr
      by_cases hj : j < gs.length
      · rw [List.getElem?_append_left hj] at hg
        rw [List.getElem?_append_left (by rw [h.len]; exact hj)] at hr
        obtain ⟨q1, q2⟩ := h.lst j g r hg hr
        have := lstAt_lt q2
        refine ⟨q1, ?_⟩
        rw [lstAt_set_ne (by omega), lstAt_set_ne (by omega)]
        exact lstAt_ne_app q2
      · have hl := (List.getElem?_eq_some_iff.mp hg).1
        simp at hl
        have ej : j = gs.length := by omega
        subst ej
        rw [List.getElem?_append_right (Nat.le_refl _)] at hg
        rw [← h.len, List.getElem?_append_right (Nat.le_refl _)] at hr
        simp at hg hr
        subst hg; subst hr
        exact ⟨hi, lstAt_set (by simp)⟩
    · intro j hj
      rw [List.getElem?_set_ne (by omega), List.getElem?_set_ne (by omega), List.getElem?_append_left (by omega)]
    · intro j hj hji hjr
      rw [List.getElem?_set_ne (by omega), List.getElem?_set_ne (by omega), List.getElem?_append_left hj]
  · rw [h4, h5]
    simp only [if_true]
    obtain ⟨q1, q2⟩ := h.lst j g r h1 h2
    have hr := lstAt_lt q2
    have e0 : lstAt (st ++ [Cell.lst []]) r = some g.2 := lstAt_ne_app q2
    have hz2 : g.2.length < sizeLine := by
      have := small_size (n := 10000) (by decide)
      have := hl g (List.mem_of_getElem? h1)
      omega
    refine ⟨r, _, (st ++ [Cell.lst []]).set r (Cell.lst (g.2 ++ [d])), rs, rfl, by simp [e0], ?_, ⟨by simp [h.len], h.nd, ?_, ?_, ?_⟩, ?_, by simp, ?_⟩
    · unfold appendR mutL
      simp only [e0]
      rw [if_pos hz2]
    · have : (gs.map fun g => if g.1 = k then (g.1, g.2 ++ [d]) else g).map (·.1) = gs.map (·.1) := by
        rw [List.map_map]
        refine List.map_congr_left fun g _ => ?_
        by_cases e : g.1 = k <;> simp [e]
      rw [this]; exact h.kn
    · rw [List.getElem?_set_ne (by omega), List.getElem?_append_left hi, h.dct]
      have : ∀ (gs : List (D × List D)) (rs : List Nat), gkv (gs.map fun g => if g.1 = k then (g.1, g.2 ++ [d]) else g) rs = gkv gs rs := fun gs => by
        induction gs with
        | nil => intro rs; rfl
        | cons g gs ih =>
          intro rs
          cases rs with
          | nil => rfl
          | cons r rs =>
            have := ih rs
            unfold gkv at this ⊢
            simp only [List.map_cons, List.zipWith_cons_cons, this]
            by_cases e : g.1 = k <;> simp [e]
      rw [this]
    · intro j' g' r' hg' hr'
      rw [List.getElem?_map] at hg'
      obtain ⟨g0, hg0, rfl⟩ := Option.map_eq_some_iff.mp hg'
      obtain ⟨p1, p2⟩ := h.lst j' g0 r' hg0 hr'
      refine ⟨p1, ?_⟩
      by_cases e : g0.1 = k
      · have ej : j' = j := by
          have a1 : (gs.map (·.1))[j']? = some k := by rw [List.getElem?_map, hg0]; simp [e]
          have a2 : (gs.map (·.1))[j]? = some k := by rw [List.getElem?_map, h1]; simp [h3]
          exact (List.getElem?_inj (List.getElem?_eq_some_iff.mp a1).1 h.kn).mp (a1.trans a2.symm)
        subst ej
        rw [h1] at hg0; cases hg0
        rw [h2] at hr'; cases hr'
        rw [if_pos h3]
        exact lstAt_set (by simp; omega)
      · rw [if_neg e]
        have ne : r' ≠ r := fun z => by
          subst z
          have ej := (List.getElem?_inj (List.getElem?_eq_some_iff.mp h2).1 h.nd).mp (h2.trans hr'.symm)
          subst ej
          rw [h1] at hg0; cases hg0
          exact e h3
        rw [lstAt_set_ne ne]
        exact lstAt_ne_app p2
    · intro j' hj
      rw [List.getElem?_set_ne (by omega), List.getElem?_append_left (by omega)]
    · intro j' hj hji hjr
      rw [List.getElem?_set_ne (fun e : r = j' => hjr (by rw [← e]; exact List.mem_of_getElem? h2)), List.getElem?_append_left hj]
structure GOf (key : D → D) (pre : List D) (gs : List (D × List D)) : Prop where
  mem : ∀ g, g ∈ gs → g.2 = pre.filter (fun d => decide (key d = g.1)) ∧ g.1 ∈ pre.map key
  any : ∀ k, (gs.any fun g => decide (g.1 = k)) = decide (k ∈ pre.map key)
  len : gs.length ≤ pre.length
theorem GOf.step {key : D → D} {pre : List D} {gs : List (D × List D)} (h : GOf key pre gs) (d : D) : GOf key (pre ++ [d]) (addG gs (key d) d) := by
  unfold addG
  have hk := h.any (key d)
  have fl : ∀ k, (pre ++ [d]).filter (fun e => decide (key e = k)) = pre.filter (fun e => decide (key e = k)) ++ (if key d = k then [d] else []) := fun k => by
    rw [List.filter_append]
    by_cases e : key d = k <;> simp [e]
  by_cases e : (gs.any fun g => decide (g.1 = key d)) = true
  · rw [if_pos e]
    rw [e] at hk
    have hk2 : key d ∈ pre.map key := of_decide_eq_true hk.symm
    refine ⟨fun g hg => ?_, fun k => ?_, by rw [List.length_map, List.length_append]; have := h.len; omega⟩
    · obtain ⟨g0, h0, rfl⟩ := List.mem_map.mp hg
      obtain ⟨m1, m2⟩ := h.mem g0 h0
      by_cases eq : g0.1 = key d
      · rw [if_pos eq]
        refine ⟨?_, by rw [List.map_append]; exact List.mem_append_left _ m2⟩
        rw [fl, if_pos eq.symm, m1]
      · rw [if_neg eq]
        refine ⟨?_, by rw [List.map_append]; exact List.mem_append_left _ m2⟩
        rw [fl, if_neg (fun z => eq z.symm), List.append_nil]
        exact m1
    · have e1 : ((gs.map fun g => if g.1 = key d then (g.1, g.2 ++ [d]) else g).any fun g => decide (g.1 = k)) = gs.any fun g => decide (g.1 = k) := by
        rw [List.any_map]
        congr 1
        funext g
        show decide ((if g.1 = key d then (g.1, g.2 ++ [d]) else g).1 = k) = _
        by_cases eq : g.1 = key d
        · rw [if_pos eq]
        · rw [if_neg eq]
      rw [e1, h.any k]
      refine decide_eq_decide.mpr ⟨fun q => by rw [List.map_append]; exact List.mem_append_left _ q, fun q => ?_⟩
      rw [List.map_append, List.mem_append] at q
      rcases q with q | q
      · exact q
      · simp at q; rw [q]; exact hk2
  · rw [if_neg e]
    rw [Bool.not_eq_true] at e
    rw [e] at hk
    have hk2 : key d ∉ pre.map key := of_decide_eq_false hk.symm
    refine ⟨fun g hg => ?_, fun k => ?_, by simp; exact h.len⟩
    · rcases List.mem_append.mp hg with hg | hg
      · obtain ⟨m1, m2⟩ := h.mem g hg
        refine ⟨?_, by rw [List.map_append]; exact List.mem_append_left _ m2⟩
        rw [fl, if_neg (fun z => hk2 (by rw [z]; exact m2)), List.append_nil]
        exact m1
      · rw [List.mem_singleton] at hg
        subst hg
        refine ⟨?_, by simp⟩
        rw [fl, if_pos rfl]
        have : pre.filter (fun e => decide (key e = key d)) = [] := List.filter_eq_nil_iff.mpr fun x hx => by
          simp
          exact fun z => hk2 (by rw [← z]; exact List.mem_map.mpr ⟨x, hx, rfl⟩)
        rw [this]; rfl
    · rw [List.any_append, h.any k, List.any_cons, List.any_nil, Bool.or_false, ← Bool.decide_or]
      refine decide_eq_decide.mpr ?_
      rw [List.map_append, List.mem_append]
      simp [eq_comm]
theorem GOf.all {key : D → D} : ∀ (ds pre : List D) (gs : List (D × List D)), GOf key pre gs → GOf key (pre ++ ds) (ds.foldl (fun gs d => addG gs (key d) d) gs)
  | [], pre, gs, h => by simpa using h
  | d :: ds, pre, gs, h => by
    have := GOf.all ds (pre ++ [d]) _ (h.step d)
    simpa using this
theorem gOf (key : D → D) (ds : List D) : GOf key ds (grps key ds) := by
  have z : GOf key [] [] := ⟨fun g hg => (by cases hg), fun k => (by simp), Nat.le_refl _⟩
  have := GOf.all (key := key) ds [] [] z
  rw [List.nil_append] at this
  exact this
/-- k in groups -/
theorem GAt.has {st : Sto} {i : Nat} {key : D → D} {ds : List D} {rs : List Nat} (h : GAt st i (grps key ds) rs) {k : D} (hk : (keyT k).isSome = true) : inN false st k (.ref i) = some (decide (k ∈ ds.map key)) := by
  unfold inN
  rw [dcrAt_ref h.dct]
  simp only [hk, if_true]
  rcases gkv_get _ rs h.len k with ⟨h1, h2⟩ | ⟨j, g, r, h1, h2, h3, h4, h5⟩
  · rw [(gOf key ds).any] at h2
    rw [h1, h2]; rfl
  · rw [(gOf key ds).any] at h5
    rw [h4, h5]; rfl

abbrev Deal := List (List Int)
def atP (p : Nat) (d : Deal) : List Int := d.getD p []
def pnm : Nat → Str
  | 0 => "anne"
  | 1 => "bill"
  | _ => "cath"
/-- three rows -/
def D3 (d : Deal) : Prop := d.length = 3
def heldF (ds : List Deal) (p : Nat) (row : List Int) : List Deal := ds.filter fun e => decide (atP p e = row)
theorem GAt.app {st : Sto} {i : Nat} {gs : List (D × List D)} {rs : List Nat} (h : GAt st i gs rs) (G : Sto) : GAt (st ++ G) i gs rs :=
  ⟨h.len, h.nd, h.kn, by rw [List.getElem?_append_left (List.getElem?_eq_some_iff.mp h.dct).1]; exact h.dct, fun j g r h1 h2 => by
    obtain ⟨q1, q2⟩ := h.lst j g r h1 h2
    exact ⟨q1, by rw [lstAt_app (lstAt_lt q2)]; exact q2⟩⟩
theorem comp_comp {X S : List Int} (hX : Asc X) (hS : S.Sublist X) : X.filter (fun c => !decide (c ∈ X.filter fun c => !decide (c ∈ S))) = S := by
  refine asc_ext (hX.sublist List.filter_sublist) (hX.sublist hS) fun x => ?_
  simp only [List.mem_filter, Bool.not_eq_true', decide_eq_false_iff_not]
  constructor
  · rintro ⟨h1, h2⟩
    exact Classical.byContradiction fun q => h2 ⟨h1, q⟩
  · intro h
    exact ⟨hS.subset h, fun q => q.2 h⟩
theorem comp_len {X S : List Int} (hX : Asc X) (hS : S.Sublist X) : (X.filter fun c => !decide (c ∈ S)).length + S.length = X.length := by
  have e := filt_twoG (fun y => decide (y ∈ S)) X
  have nd := asc_nodup hX
  have s : (X.filter fun y => decide (y ∈ S)).length = S.length := same_len (nd.sublist List.filter_sublist) (nd.sublist hS) fun y => by
    rw [List.mem_filter, decide_eq_true_iff]
    exact ⟨fun z => z.2, fun z => ⟨hS.subset z, z⟩⟩
  omega
@[simp] theorem siZipM_ap (a b : SK) (C : Call) (env : Env) (st : Sto) : siZipM a b C env st = (a C env st).bind fun w st => (b C env st).bind fun u st => if (w.1 && !u.1) && good w.2.src st && good u.2.src st then .ok ⟨zipD w.2.ds u.2.ds, w.2.src ++ u.2.src⟩ st else .stuck := rfl
def cmpB (m : Nat) : Bool := (List.range (m - 2)).any fun k => decide (m / (k + 2) * (k + 2) = m)
theorem comp_lc {C : Call} {st : Sto} {x0 x2 : Option D} (m : Nat) (h2 : 2 ≤ m) (h : m ≤ 1000) : lcGo [] (gN 2) bTrue (eB2 (cB eqB) (eB2 mulR (eB2 divR (eV 1) (eV 2)) (eV 2)) (eV 1)) C [x0, some (.int m), none] ((List.range (m - 2)).map fun (k : Nat) => D.int (2 + (k : Int))) [] st = .ok (((List.range (m - 2)).map fun k => decide (m / (k + 2) * (k + 2) = m)).map D.bl) st := by
  have q := lcGo_of (src := []) (g := gN 2) (c := bTrue) (e := (eB2 (cB eqB) (eB2 mulR (eB2 divR (eV 1) (eV 2)) (eV 2)) (eV 1))) (C := C) (env := [x0, some (.int m), none]) (st := st) (fun (k : Nat) => D.int (2 + (k : Int))) (fun _ => true) (fun k => D.bl (decide (m / (k + 2) * (k + 2) = m))) rfl (List.range (m - 2)) [] (fun k hk => by
    have := List.mem_range.mp hk
    refine ⟨_, rfl, rfl, fun _ => ?_⟩
    have dv : divOk (2 + (k : Int)) = true := divOk_of (by omega) (by omega)
    have mo : mulOk ((m : Int) / (2 + (k : Int))) (2 + (k : Int)) = true := mulOk_r (by omega) (by omega)
    have e : decide ((m : Int) / (2 + (k : Int)) * (2 + (k : Int)) = m) = decide (m / (k + 2) * (k + 2) = m) := decide_eq_decide.mpr (by
      rw [show (2 : Int) + (k : Int) = ((k + 2 : Nat) : Int) by omega, ← Int.natCast_ediv, ← Int.natCast_mul]
      omega)
    have n0 : ¬ (2 + (k : Int)) = 0 := by omega
    have p0 : (0 : Int) < 2 + (k : Int) := by omega
    simp [dv, mo, n0, p0, -eqB_int', eqB_int, e])
  rw [List.nil_append, List.filter_eq_self.mpr fun _ _ => rfl] at q
  rw [q, List.map_map]; rfl
noncomputable abbrev prC : SB := (bOf (eA anyQ (lLc (siR2 (lCons (eC (.int 2)) (lCons (eV 1) lNil))) (gN 2) [2] bTrue (eB2 (cB eqB) (eB2 mulR (eB2 divR (eV 1) (eV 2)) (eV 2)) (eV 1)))))
theorem prC_ok {C : Call} {st : Sto} {x0 : Option D} (m : Nat) (h2 : 2 ≤ m) (h : m ≤ 50) : prC C [x0, some (.int m), none] st = .ok (cmpB m) st := by
  have q := comp_lc (C := C) (st := st) (x0 := x0) (x2 := none) m h2 (by omega)
  have r1 : rngI m = true := rngI_of (by omega) (by omega)
  have r2 : rngI 2 = true := rngI_of (by omega) (by omega)
  have tn : ((m : Int) - 2).toNat = m - 2 := by omega
  have z : m - 2 ≤ sizeLine := sz (by omega)
  have e : (((List.range (m - 2)).map fun k => decide (m / (k + 2) * (k + 2) = m)).any id) = cmpB m := by
    unfold cmpB
    rw [List.any_map]; rfl
  generalize hB : ((List.range (m - 2)).map fun k => decide (m / (k + 2) * (k + 2) = m)) = B at *
  simp [r1, r2, tn, z, q, anyQ, e]
theorem pr_while {C : Call} {st : Sto} {x0 : Option D} (p : Nat) (hp : cmpB p = false) (h50 : p ≤ 50) : ∀ (j fuel m : Nat), m + j = p → (∀ i, m ≤ i → i < p → cmpB i = true) → j < fuel → 2 ≤ m →
    whileGo prC (sSeq (sAug 1 iaddR (eC (.int 1))) sNx) C fuel [x0, some (.int m), none] st = .nx [x0, some (.int p), none] st
  | 0, fuel + 1, m, e, _, _, h2 => by
    have : m = p := by omega
    subst this
    rw [whileGo, prC_ok m h2 (by omega), hp]; rfl
  | j + 1, fuel + 1, m, e, hc, hf, h2 => by
    have ih := pr_while (C := C) (st := st) (x0 := x0) p hp h50 j fuel (m + 1) (by omega) (fun i h1 h3 => hc i (by omega) h3) (by omega) (by omega)
    rw [whileGo, prC_ok m h2 (by omega), hc m (Nat.le_refl _) (by omega)]
    have b : (sSeq (sAug 1 iaddR (eC (.int 1))) sNx) C [x0, some (.int m), none] st = .nx [x0, some (.int ((m + 1 : Nat) : Int)), none] st := by simp
    simp only [Res.thenS_ok, if_true, b]
    exact ih
def primeN (n : Nat) : Nat := if n ≤ 3 then 3 else if n ≤ 5 then 5 else if n ≤ 7 then 7 else if n ≤ 11 then 11 else 13
theorem prime_facts : ∀ n, n < 14 → 3 ≤ n → n ≤ primeN n ∧ primeN n ≤ 13 ∧ cmpB (primeN n) = false ∧ ∀ i, i < 14 → n ≤ i → i < primeN n → cmpB i = true := by decide +kernel
theorem prime_spec (k : Nat) {st : Sto} {a b c n : Nat} (S : Stg a b c n) : callN Tbl (k + 4) n_prime_of [setD a b c] st = .ok (.int (primeN n)) st := by
  rw [run_eq (Tbl := Tbl) (f := n_prime_of) (body := (sSeq (sExp (eCall 2 (lCons (eV 0) lNil))) (sSeq (sSet 1 (eA sumQ (lSeq (eV 0)))) (sSeq (sWhile prC (sSeq (sAug 1 iaddR (eC (.int 1))) sNx)) (sSeq (sRet (eV 1)) sNx))))) rfl rfl]
  have sum := S.sum; have le := S.le; have a1 := S.a1; have b1 := S.b1; have c1 := S.c1
  obtain ⟨f1, f2, f3, f4⟩ := prime_facts n (by omega) (by omega)
  have w := pr_while (C := callN Tbl (k + 3)) (st := st) (x0 := some (setD a b c)) (primeN n) f3 (by omega) (primeN n - n) wFuel n (by omega) (fun i h1 h2 => f4 i (by omega) h1 h2) (by unfold wFuel; omega) (by omega)
  have ck := S.chk k st
  have sm := S.sm
  generalize prC = PC at *
  unfold setD at *
  simp [ck, sm, w]

def pwL (hand : List Int) (p : Int) : Nat → List Int
  | 0 => hand.map fun _ => 1
  | j + 1 => List.zipWith (fun x y => x * y % p) (pwL hand p j) hand
def restA (hand : List Int) (p : Int) (j : Nat) : Int := (pwL hand p (j + 1)).sum % p
def restL (hand : List Int) (p : Int) (m : Nat) : List Int := (List.range m).map (restA hand p)
theorem pwL_len (hand : List Int) (p : Int) : ∀ j, (pwL hand p j).length = hand.length
  | 0 => by simp [pwL]
  | j + 1 => by simp [pwL, pwL_len hand p j]
theorem zipD_ints : ∀ (xs ys : List Int), zipD (xs.map D.int) (ys.map D.int) = (xs.zip ys).map fun q => D.tup [.int q.1, .int q.2]
  | [], _ => by simp [zipD]
  | x :: xs, [] => by simp [zipD]
  | x :: xs, y :: ys => by simp [zipD, zipD_ints xs ys]
noncomputable abbrev pwB : SS := (sSeq (sSet 4 (eNew (lLc (siZipM (kOf (eV 4)) (kOf (eV 0))) (gTup [(gN 7), (gN 6)]) [7, 6] bTrue (eB2 modR (eU1 intR (eB2 mulR (eV 7) (eV 6))) (eV 2))))) (sSeq (sExp (eM appendR (eV 3) (lCons (eB2 modR (eA sumQ (lSeq (eV 4))) (eV 2)) lNil))) sNx))
theorem restL_succ (hand : List Int) (p : Int) (j : Nat) : restL hand p (j + 1) = restL hand p j ++ [restA hand p j] := by
  unfold restL
  rw [List.range_succ, List.map_append]; rfl
theorem restL_len (hand : List Int) (p : Int) (j : Nat) : (restL hand p j).length = j := by simp [restL]
theorem powers_spec (k : Nat) {st : Sto} {hand : List Int} (hh : ∀ x, x ∈ hand → 0 ≤ x ∧ x < 100) (hl : hand.length ≤ 100) (m : Nat) (hm : m ≤ 100) (p : Nat) (p1 : 1 ≤ p) (p2 : p ≤ 100) :
    callN Tbl (k + 1) n_powers_of [dT hand, .int m, .int p] st = .ok (dT (restL hand p m)) st := by
  rw [run_eq (Tbl := Tbl) (f := n_powers_of) (body := (sSeq (sSet 3 (eNew (lLst lNil))) (sSeq (sSet 4 (eNew (lLc (siOf (eV 0)) (gN 6) [6] bTrue (eC (.int 1))))) (sSeq (sFor (siR1 (lCons (eV 1) lNil)) (gN 5) pwB) (sSeq (sRet (eA tupQ (lSeq (eV 3)))) sNx))))) rfl rfl]
  have bm : rngI m = true := rngI_of (by omega) (by omega)
  have dp : divOk p = true := divOk_of (by omega) (by omega)
  have z0 : 0 ≤ sizeLine := Nat.zero_le _
  have z2 : 2 ≤ sizeLine := sz (by decide)
  have zh : hand.length ≤ sizeLine := sz hl
  have q0 := lcGo_of (src := []) (g := gN 6) (c := bTrue) (e := eC (.int 1)) (C := callN Tbl k) (env := [some (dT hand), some (.int m), some (.int p), some (.ref st.length), none, none, none, none]) (st := st ++ [.lst []]) D.int (fun _ => true) (fun _ => .int 1) rfl hand [] (fun x hx => ⟨_, rfl, rfl, fun _ => rfl⟩)
  rw [List.nil_append, List.filter_eq_self.mpr fun _ _ => rfl] at q0
  have e0 : (hand.map fun _ => D.int 1) = (pwL hand p 0).map D.int := by unfold pwL; rw [List.map_map]; rfl
  rw [e0] at q0
  obtain ⟨env2, st2, r1, q, x5, r2, r3, r4, r5, K⟩ := forGo_inv (src := []) (g := gN 5) (C := callN Tbl k) (b := pwB)
    (fun j env st' => ∃ q x5, env = [some (dT hand), some (.int m), some (.int p), some (.ref st.length), some (.ref q), x5, none, none] ∧ q ≠ st.length ∧ lstAt st' q = some ((pwL hand p j).map D.int) ∧ lstAt st' st.length = some ((restL hand p j).map D.int) ∧ Keep st st') ((List.range m).map fun (i : Nat) => D.int (i : Int)) 0
    (fun j d hd env st' ⟨q, x5, e, qn, lq, lf, K⟩ => by
      obtain ⟨hj, rfl⟩ := rngItem hd
      rw [Nat.zero_add] at lq lf ⊢
      subst e
      refine ⟨rfl, _, rfl, ?_⟩
      have lc := lcGo_of (src := [(q, (pwL hand p j).map D.int)]) (g := (gTup [(gN 7), (gN 6)])) (c := bTrue) (e := (eB2 modR (eU1 intR (eB2 mulR (eV 7) (eV 6))) (eV 2))) (C := callN Tbl k) (env := [some (dT hand), some (.int m), some (.int p), some (.ref st.length), some (.ref q), some (.int j), none, none]) (st := st') (fun (q : Int × Int) => D.tup [.int q.1, .int q.2]) (fun _ => true) (fun q => .int (q.1 * q.2 % p)) (by simp [good, lq]) ((pwL hand p j).zip hand) [] (fun x hx => by
        have hx2 := hh x.2 (List.of_mem_zip hx).2
        have mo : mulOk x.1 x.2 = true := mulOk_r (by omega) (by omega)
        have p0 : 0 < p := by omega
        have pn : ¬ p = 0 := by omega
        exact ⟨_, rfl, rfl, fun _ => by simp [mo, dp, p0, pn]⟩)
      rw [List.nil_append, List.filter_eq_self.mpr fun _ _ => rfl] at lc
      have zz : ((pwL hand p j).zip hand).map (fun q => D.int (q.1 * q.2 % p)) = (pwL hand p (j + 1)).map D.int := by
        rw [pwL]
        unfold List.zip
        rw [List.map_zipWith, List.map_zipWith]
      rw [zz, ← zipD_ints] at lc
      have zl : (zipD ((pwL hand p j).map D.int) (hand.map D.int)).length ≤ sizeLine := by
        rw [zipD_length, List.length_map, List.length_map]; exact Nat.le_trans (Nat.min_le_right _ _) zh
      have lq2 : lstAt (st' ++ [.lst ((pwL hand p (j + 1)).map D.int)]) st'.length = some ((pwL hand p (j + 1)).map D.int) := lstAt_app_len _
      have lf2 : lstAt (st' ++ [.lst ((pwL hand p (j + 1)).map D.int)]) st.length = some ((restL hand p j).map D.int) := by rw [lstAt_app (lstAt_lt lf)]; exact lf
      have ap := appendR_ref (y := .int (restA hand p j)) lf2 (Nat.lt_of_lt_of_le (show ((restL hand p j).map D.int).length < 10000 by rw [List.length_map, restL_len]; omega) (small_size (Nat.le_refl _)))
      have fl := lstAt_lt lf
      have p0 : 0 < p := by omega
      have pn : ¬ p = 0 := by omega
      refine ⟨[some (dT hand), some (.int m), some (.int p), some (.ref st.length), some (.ref st'.length), some (.int j), none, none], (st' ++ [Cell.lst ((pwL hand p (j + 1)).map D.int)]).set st.length (Cell.lst ((restL hand p j).map D.int ++ [D.int (restA hand p j)])), ?_, _, _, rfl, by omega, ?_, ?_, ?_⟩
      · have sr : (pwL hand p (j + 1)).sum % p = restA hand p j := rfl
        have gd : good [(q, (pwL hand p j).map D.int)] st' = true := by simp [good, lq]
        have sq := sumQ_ints (st := st' ++ [.lst ((pwL hand p (j + 1)).map D.int)]) (pwL hand p (j + 1))
        generalize (pwL hand p (j + 1)).sum = sm at *
        generalize (pwL hand p (j + 1)).map D.int = P1 at *
        generalize (pwL hand p j).map D.int = P0 at *
        generalize (restL hand p j).map D.int = RL at *
        simp only [dT, tupF] at lc ⊢
        generalize hand.map D.int = HD at *
        simp [lq, gd, good, zl, lc, newL, lq2, lf2, -sumQ_ints, sq, dp, p0, pn, sr, ap]
      · rw [lstAt_set_ne (by omega)]; exact lq2
      · rw [lstAt_set (lstAt_lt lf2), restL_succ, List.map_append]; rfl
      · exact (K.trans (KeepS.app _ _ _)).put (Nat.le_refl _) _) (fun _ _ _ => rfl) [some (dT hand), some (.int m), some (.int p), some (.ref st.length), some (.ref (st.length + 1)), none, none, none] (st ++ [.lst [], .lst ((pwL hand p 0).map D.int)]) ⟨st.length + 1, none, rfl, by omega, lstAt_add st _ 1, lstAt_add st _ 0, KeepS.app _ _ _⟩
  subst r2
  rw [Nat.zero_add, List.length_map, List.length_range] at r5
  have zr : (restL hand p m).length ≤ sizeLine := by rw [restL_len]; exact sz hm
  have gk : gc st (.tup ((restL hand p m).map D.int)) st2 = .ok (.tup ((restL hand p m).map D.int)) st := gc_keep K (by rw [lo_tup, loL_ints])
  generalize pwB = PB at *
  generalize restL hand p m = RL at *
  generalize (pwL hand p 0).map D.int = P0 at *
  simp only [dT, tupF] at q0 r1 ⊢
  simp [newL, z0, zh, q0, bm, r1, r5, zr]
  exact gk

noncomputable abbrev lrB : SS := (sSeq (sSet 4 (eNew (lLc (siR1 (lCons (eU1 lenR (eV 0)) lNil)) (gN 7) [7] bTrue (eB2 modR (eU1 intR (eB2 mulR (eB2 ixR (eV 4) (eV 7)) (eB2 ixR (eV 0) (eV 7)))) (eV 2))))) (sSeq (sExp (eM appendR (eV 3) (lCons (eB2 modR (eA sumQ (lSeq (eV 4))) (eV 2)) lNil))) sNx))
theorem prime_tab {n : Nat} (h3 : 3 ≤ n) (h : n ≤ 13) : L2.atI [D.int 3, .int 5, .int 5, .int 7, .int 7, .int 11, .int 11, .int 11, .int 11, .int 13, .int 13] ((n : Int) - 3) = some (.int (primeN n)) := by
  have : n = 3 ∨ n = 4 ∨ n = 5 ∨ n = 6 ∨ n = 7 ∨ n = 8 ∨ n = 9 ∨ n = 10 ∨ n = 11 ∨ n = 12 ∨ n = 13 := by omega
  rcases this with rfl | rfl | rfl | rfl | rfl | rfl | rfl | rfl | rfl | rfl | rfl <;> rfl
theorem law_rests2_spec (k : Nat) {st : Sto} {hand : List Int} (hh : ∀ x, x ∈ hand → 0 ≤ x ∧ x < 100) (hl : hand.length ≤ 100) (m : Nat) (hm : m ≤ 100) (p : Nat) (p1 : 1 ≤ p) (p2 : p ≤ 100) :
    callN Tbl (k + 1) n_law_rests_v2 [dT hand, .int m, .int p] st = .ok (dT (restL hand p m)) st := by
  rw [run_eq (Tbl := Tbl) (f := n_law_rests_v2) (body := (sSeq (sSet 3 (eNew (lLst lNil))) (sSeq (sSet 4 (eNew (lLc (siOf (eV 0)) (gN 6) [6] bTrue (eC (.int 1))))) (sSeq (sFor (siR1 (lCons (eV 1) lNil)) (gN 5) lrB) (sSeq (sRet (eA tupQ (lSeq (eV 3)))) sNx))))) rfl rfl]
  have bm : rngI m = true := rngI_of (by omega) (by omega)
  have bl : rngI (hand.length : Nat) = true := rngI_of (by omega) (by omega)
  have dp : divOk p = true := divOk_of (by omega) (by omega)
  have z0 : 0 ≤ sizeLine := Nat.zero_le _
  have zh : hand.length ≤ sizeLine := sz hl
  have q0 := lcGo_of (src := []) (g := gN 6) (c := bTrue) (e := eC (.int 1)) (C := callN Tbl k) (env := [some (dT hand), some (.int m), some (.int p), some (.ref st.length), none, none, none, none]) (st := st ++ [.lst []]) D.int (fun _ => true) (fun _ => .int 1) rfl hand [] (fun x hx => ⟨_, rfl, rfl, fun _ => rfl⟩)
  rw [List.nil_append, List.filter_eq_self.mpr fun _ _ => rfl] at q0
  have e0 : (hand.map fun _ => D.int 1) = (pwL hand p 0).map D.int := by unfold pwL; rw [List.map_map]; rfl
  rw [e0] at q0
  obtain ⟨env2, st2, r1, q, x5, r2, r3, r4, r5, K⟩ := forGo_inv (src := []) (g := gN 5) (C := callN Tbl k) (b := lrB)
    (fun j env st' => ∃ q x5, env = [some (dT hand), some (.int m), some (.int p), some (.ref st.length), some (.ref q), x5, none, none] ∧ q ≠ st.length ∧ lstAt st' q = some ((pwL hand p j).map D.int) ∧ lstAt st' st.length = some ((restL hand p j).map D.int) ∧ Keep st st') ((List.range m).map fun (i : Nat) => D.int (i : Int)) 0
    (fun j d hd env st' ⟨q, x5, e, qn, lq, lf, K⟩ => by
      obtain ⟨hj, rfl⟩ := rngItem hd
      rw [Nat.zero_add] at lq lf ⊢
      subst e
      refine ⟨rfl, _, rfl, ?_⟩
      have lc := lcGo_of (src := []) (g := gN 7) (c := bTrue) (e := (eB2 modR (eU1 intR (eB2 mulR (eB2 ixR (eV 4) (eV 7)) (eB2 ixR (eV 0) (eV 7)))) (eV 2))) (C := callN Tbl k) (env := [some (dT hand), some (.int m), some (.int p), some (.ref st.length), some (.ref q), some (.int j), none, none]) (st := st') (fun (i : Nat) => D.int (i : Int)) (fun _ => true) (fun i => .int ((pwL hand p j).getD i 0 * hand.getD i 0 % p)) rfl (List.range hand.length) [] (fun i hi => by
        have hi := List.mem_range.mp hi
        have hx2 := hh _ (List.getElem_mem hi)
        have e1 : hand.getD i 0 = hand[i] := by rw [List.getD_eq_getElem?_getD, List.getElem?_eq_getElem hi]; rfl
        have hi2 : i < (pwL hand p j).length := by rw [pwL_len]; exact hi
        have e2 : (pwL hand p j).getD i 0 = (pwL hand p j)[i] := by rw [List.getD_eq_getElem?_getD, List.getElem?_eq_getElem hi2]; rfl
        have a1 : L2.atI (hand.map D.int) (i : Int) = some (.int hand[i]) := by rw [atI_nat, List.getElem?_map, List.getElem?_eq_getElem hi]; rfl
        have a2 : L2.atI ((pwL hand p j).map D.int) (i : Int) = some (.int (pwL hand p j)[i]) := by rw [atI_nat, List.getElem?_map, List.getElem?_eq_getElem hi2]; rfl
        rw [e1, e2]
        generalize (pwL hand p j)[i] = u at *
        generalize hand[i] = w at *
        have mo : mulOk u w = true := mulOk_r (by omega) (by omega)
        have p0 : 0 < p := by omega
        have pn : ¬ p = 0 := by omega
        generalize (pwL hand p j).map D.int = PJ at *
        refine ⟨_, rfl, rfl, fun _ => ?_⟩
        simp only [dT, tupF]
        simp [lq, a1, a2, mo, dp, p0, pn])
      rw [List.nil_append, List.filter_eq_self.mpr fun _ _ => rfl] at lc
      have zz : (List.range hand.length).map (fun i => D.int ((pwL hand p j).getD i 0 * hand.getD i 0 % p)) = (pwL hand p (j + 1)).map D.int := by
        apply List.ext_getElem
        · simp [pwL_len]
        · intro i h1 h2
          have hi : i < hand.length := by simpa using h1
          have hi2 : i < (pwL hand p j).length := by rw [pwL_len]; exact hi
          simp only [List.getElem_map, List.getElem_range]
          congr 1
          have gq : (pwL hand p (j + 1))[i]? = some ((pwL hand p j)[i] * hand[i] % (p : Int)) := by
            rw [pwL, List.getElem?_zipWith, List.getElem?_eq_getElem hi2, List.getElem?_eq_getElem hi]
          obtain ⟨_, g⟩ := List.getElem?_eq_some_iff.mp gq
          rw [g]
          simp [List.getD_eq_getElem?_getD, List.getElem?_eq_getElem hi, List.getElem?_eq_getElem hi2]
      rw [zz] at lc
      have lq2 : lstAt (st' ++ [.lst ((pwL hand p (j + 1)).map D.int)]) st'.length = some ((pwL hand p (j + 1)).map D.int) := lstAt_app_len _
      have lf2 : lstAt (st' ++ [.lst ((pwL hand p (j + 1)).map D.int)]) st.length = some ((restL hand p j).map D.int) := by rw [lstAt_app (lstAt_lt lf)]; exact lf
      have ap := appendR_ref (y := .int (restA hand p j)) lf2 (Nat.lt_of_lt_of_le (show ((restL hand p j).map D.int).length < 10000 by rw [List.length_map, restL_len]; omega) (small_size (Nat.le_refl _)))
      have fl := lstAt_lt lf
      have p0 : 0 < p := by omega
      have pn : ¬ p = 0 := by omega
      have hdl : (hand.map D.int).length = hand.length := List.length_map _
      refine ⟨[some (dT hand), some (.int m), some (.int p), some (.ref st.length), some (.ref st'.length), some (.int j), none, none], (st' ++ [Cell.lst ((pwL hand p (j + 1)).map D.int)]).set st.length (Cell.lst ((restL hand p j).map D.int ++ [D.int (restA hand p j)])), ?_, _, _, rfl, by omega, ?_, ?_, ?_⟩
      · have sr : (pwL hand p (j + 1)).sum % p = restA hand p j := rfl
        have sq := sumQ_ints (st := st' ++ [.lst ((pwL hand p (j + 1)).map D.int)]) (pwL hand p (j + 1))
        generalize (pwL hand p (j + 1)).sum = sm at *
        generalize (pwL hand p (j + 1)).map D.int = P1 at *
        generalize (pwL hand p j).map D.int = P0 at *
        generalize (restL hand p j).map D.int = RL at *
        simp only [dT, tupF] at lc ⊢
        generalize hlen : hand.length = len at *
        generalize hand.map D.int = HD at *
        simp [lq, hdl, zh, bl, lc, newL, lq2, lf2, -sumQ_ints, sq, dp, p0, pn, sr, ap]
      · rw [lstAt_set_ne (by omega)]; exact lq2
      · rw [lstAt_set (lstAt_lt lf2), restL_succ, List.map_append]; rfl
      · exact (K.trans (KeepS.app _ _ _)).put (Nat.le_refl _) _) (fun _ _ _ => rfl) [some (dT hand), some (.int m), some (.int p), some (.ref st.length), some (.ref (st.length + 1)), none, none, none] (st ++ [.lst [], .lst ((pwL hand p 0).map D.int)]) ⟨st.length + 1, none, rfl, by omega, lstAt_add st _ 1, lstAt_add st _ 0, KeepS.app _ _ _⟩
  subst r2
  rw [Nat.zero_add, List.length_map, List.length_range] at r5
  have zr : (restL hand p m).length ≤ sizeLine := by rw [restL_len]; exact sz hm
  have gk : gc st (.tup ((restL hand p m).map D.int)) st2 = .ok (.tup ((restL hand p m).map D.int)) st := gc_keep K (by rw [lo_tup, loL_ints])
  generalize lrB = PB at *
  generalize restL hand p m = RL at *
  generalize (pwL hand p 0).map D.int = P0 at *
  simp only [dT, tupF] at q0 r1 ⊢
  simp [newL, z0, zh, q0, bm, r1, r5, zr]
  exact gk
theorem law_prime_spec (k : Nat) {st : Sto} {n : Nat} (h3 : 3 ≤ n) (h : n ≤ 13) : callN Tbl (k + 1) n_law_prime [.int n] st = .ok (.int (primeN n)) st := by
  rw [run_eq (Tbl := Tbl) (f := n_law_prime) rfl rfl]
  have pt := prime_tab h3 h
  have z11 : 11 ≤ sizeLine := sz (by decide)
  have gk := fun C => gc_app (st := st) (g := C) (d := .int (primeN n)) rfl
  generalize primeN n = PN at *
  simp [newL, z11, pt, gk]
theorem check_rests_ok (k : Nat) {st : Sto} {a b c n : Nat} (S : Stg a b c n) {rs : List Int} (hl : rs.length = c) (hr : ∀ x, x ∈ rs → 0 ≤ x ∧ x < primeN n) : callN Tbl (k + 5) n_check_rests [setD a b c, dT rs] st = .ok .non st := by
  rw [run_eq (Tbl := Tbl) (f := n_check_rests) rfl rfl]
  have sum := S.sum; have le := S.le
  have e1 := prime_spec k (st := st) S
  have zl : rs.length ≤ sizeLine := sz (by omega)
  have q := forGo_allA (src := []) (g := gN 3) (C := callN Tbl (k + 4)) (st := st) (v := .bl false) (b := (sSeq (sIf (bOr (bNot (bOf (eCall 0 (lCons (eV 3) lNil)))) (bOr (bCmp ltD (eV 3) (eC (.int 0))) (bCmp geD (eV 3) (eV 2)))) (sSeq (sRaise 14) sNx) sNx) sNx)) D.int (fun _ => true) (fun env => ∃ x, env = [some (setD a b c), some (dT rs), some (.int (primeN n)), x]) rfl rs (fun x hx env ⟨y, e⟩ => by
    subst e
    refine ⟨_, rfl, ?_⟩
    have hx := hr x hx
    have i1 := isint_int (k + 3) (st := st) x
    have l1 : ¬ x < 0 := by omega
    have l2 : ¬ (primeN n : Int) ≤ x := by omega
    generalize primeN n = PN at *
    simp [i1, l1, l2]) [some (setD a b c), some (dT rs), some (.int (primeN n)), none] ⟨none, rfl⟩
  rw [if_pos (List.all_eq_true.mpr fun _ _ => rfl)] at q
  obtain ⟨env2, q, x, rfl⟩ := q
  generalize primeN n = PN at *
  unfold setD at *
  simp only [dT, tupF] at q ⊢
  simp [e1, zl, hl, q]
def plL (n a c : Nat) (rs : List Int) : List (List Int) := (combs a (iota n)).filter fun h => decide (restL h (primeN n) c = rs)

theorem plL_len {n a c : Nat} (hn : n ≤ 13) (rs : List Int) : (plL n a c rs).length ≤ 8192 := by
  refine Nat.le_trans (List.length_filter_le _ _) ?_
  rw [combs_len, iota_len]
  exact Nat.le_trans (choose_le _ _) (Nat.pow_le_pow_right (show 0 < 2 by decide) hn)
theorem power_lot_spec (k : Nat) {st : Sto} {a b c n : Nat} (S : Stg a b c n) {rs : List Int} (hl : rs.length = c) (hr : ∀ x, x ∈ rs → 0 ≤ x ∧ x < primeN n) : callN Tbl (k + 6) n_power_lot [setD a b c, dT rs] st = if plL n a c rs = [] then .exc 16 .non st else if 60 < (plL n a c rs).length then .exc 26 .non st else .ok (dTT (plL n a c rs)) st := by
  rw [run_eq (Tbl := Tbl) (f := n_power_lot) rfl rfl]
  have sum := S.sum; have le := S.le; have a1 := S.a1; have b1 := S.b1; have c1 := S.c1
  obtain ⟨f1, f2, _, _⟩ := prime_facts n (by omega) (by omega)
  have e1 := check_rests_ok k (st := st) S hl hr
  have e2 := prime_spec (k + 1) (st := st) S
  have e3 := all_hands_spec (k + 1) (st := st) a b c a1 b1 c1 (by omega)
  rw [show hands a b c = combs a (iota n) by unfold hands; rw [sum]] at e3
  have q := lcGo_of (src := []) (g := gN 4) (c := (bCmp eqB (eCall 19 (lCons (eV 4) (lCons (eB2 ixR (eV 0) (eC (.int 2))) (lCons (eV 2) lNil)))) (eV 1))) (e := eV 4) (C := callN Tbl (k + 5)) (env := [some (setD a b c), some (dT rs), some (.int (primeN n)), none, none]) (st := st) dT (fun h => decide (restL h (primeN n) c = rs)) dT rfl (combs a (iota n)) [] (fun h hh => by
    have hH := comb_hand hh
    refine ⟨_, rfl, ?_, fun _ => by simp⟩
    have e4 := powers_spec (k + 4) (st := st) (hand := h) (fun x hx => by have := hH.2.2 x hx; omega) (by have := hH.1; omega) c (by omega) (primeN n) (by omega) (by omega)
    have eq := embT.eqB (by decide) st (restL h (primeN n) c) rs
    generalize dT (restL h (primeN n) c) = DQ at *
    generalize dT rs = DR at *
    generalize dT h = DH at *
    unfold setD
    simp [e4, eq])
  rw [List.nil_append] at q
  have fq : (combs a (iota n)).filter (fun h => decide (restL h (primeN n) c = rs)) = plL n a c rs := rfl
  rw [fq] at q
  have cl : (combs a (iota n)).length ≤ sizeLine := by
    rw [combs_len, iota_len]
    exact Nat.le_trans (Nat.le_trans (choose_le _ _) (Nat.pow_le_pow_right (show 0 < 2 by decide) le)) (small_size (show 2 ^ 13 ≤ 10000 by decide))
  have pl := plL_len (a := a) (c := c) le rs
  have zp : (plL n a c rs).length ≤ sizeLine := small_size (by omega)
  generalize plL n a c rs = L at *
  generalize combs a (iota n) = CB at *
  have l0 : lstAt (st ++ [Cell.lst (L.map dT)]) st.length = some (L.map dT) := lstAt_app_len _
  have lm : (L.map dT).length = L.length := List.length_map _
  have gx : ∀ c, gcX st c .non (st ++ [.lst (L.map dT)]) = .exc c .non st := fun c => gcX_keep (KeepS.app _ _ _)
  have gk : gc st (.tup (L.map dT)) (st ++ [.lst (L.map dT)]) = .ok (.tup (L.map dT)) st := gc_keep (KeepS.app _ _ _) (by rw [lo_tup]; exact loL_rows _ _)
  have te : (L.map dT).isEmpty = decide (L = []) := by cases L <;> simp
  simp only [dTT, tupF] at q ⊢
  generalize dT rs = DR at *
  generalize primeN n = PN at *
  have cm : (CB.map dT).length ≤ sizeLine := by rw [List.length_map]; exact cl
  by_cases h0 : L = []
  · subst h0
    simp only [List.map_nil] at *
    generalize CB.map dT = CM at *
    simp [e1, e2, e3, cm, q, newL, l0, gx]
  · rw [if_neg h0]
    have hne : L.map dT ≠ [] := by simpa using h0
    by_cases h6 : 60 < L.length
    · rw [if_pos h6]
      have h6' : (60 : Int) < (L.length : Nat) := by omega
      generalize hLM : L.map dT = LM at *
      generalize CB.map dT = CM at *
      simp [e1, e2, e3, cm, q, newL, l0, gx, hne, lm, h6, h6']
    · rw [if_neg h6]
      have h6' : ¬ (60 : Int) < (L.length : Nat) := by omega
      generalize hLM : L.map dT = LM at *
      generalize CB.map dT = CM at *
      simp [e1, e2, e3, cm, q, newL, l0, gk, hne, lm, h6, h6', zp]

theorem cell_spec (k : Nat) {st : Sto} (ns : List Int) (h63 : ns.length ≤ 63) (i : Nat) : ∃ c : Int, callN Tbl (k + 1) n_law_cell_at [.scr (ns.map D.int), .int i] st = .ok (.int c) st := by
  rw [run_eq (Tbl := Tbl) (f := n_law_cell_at) rfl rfl]
  have zn : ns.length ≤ sizeLine := sz (by omega)
  by_cases h : i < ns.length
  · have a0 : L2.atI (ns.map D.int) (i : Int) = some (.int ns[i]) := by rw [atI_nat, List.getElem?_map, List.getElem?_eq_getElem h]; rfl
    exact ⟨ns[i], by simp [zn, h, a0]⟩
  · exact ⟨0, by simp [zn, h]⟩
/-- the tails of the lists that begin with d -/
def hdF (d : Int) : List (List Int) → List (List Int)
  | [] => []
  | (x :: t) :: L => if x = d then t :: hdF d L else hdF d L
  | [] :: L => hdF d L
/-- no list twice, looked at digit by digit -/
def ndB (p : Nat) : Nat → List (List Int) → Bool
  | _, [] => true
  | _, [_] => true
  | 0, _ :: _ :: _ => false
  | m + 1, L => (List.range p).all fun d => ndB p m (hdF (d : Int) L)
theorem hdF_mem {x : Int} {t : List Int} : ∀ {L : List (List Int)}, x :: t ∈ L → t ∈ hdF x L
  | [], h => by cases h
  | [] :: L, h => by
    rw [hdF]
    exact hdF_mem ((List.mem_cons.mp h).resolve_left fun e => by cases e)
  | (y :: s) :: L, h => by
    rw [hdF]
    by_cases e : y = x
    · rw [if_pos e]
      rcases List.mem_cons.mp h with q | q
      · rw [(List.cons.inj q).2]; exact List.mem_cons_self
      · exact List.mem_cons_of_mem _ (hdF_mem q)
    · rw [if_neg e]
      exact hdF_mem ((List.mem_cons.mp h).resolve_left fun q => e (List.cons.inj q).1.symm)
theorem hdF_sub {x : Int} : ∀ {L : List (List Int)} {t : List Int}, t ∈ hdF x L → x :: t ∈ L
  | [], t, h => by cases h
  | [] :: L, t, h => List.mem_cons_of_mem _ (hdF_sub (by rwa [hdF] at h))
  | (y :: s) :: L, t, h => by
    rw [hdF] at h
    by_cases e : y = x
    · rw [if_pos e] at h
      rcases List.mem_cons.mp h with q | q
      · rw [q, ← e]; exact List.mem_cons_self
      · exact List.mem_cons_of_mem _ (hdF_sub q)
    · rw [if_neg e] at h
      exact List.mem_cons_of_mem _ (hdF_sub h)
theorem nd_of {p : Nat} : ∀ {L : List (List Int)}, (∀ d : Nat, d < p → (hdF (d : Int) L).Nodup) → (∀ k, k ∈ L → k ≠ [] ∧ ∀ x, x ∈ k → 0 ≤ x ∧ x < p) → L.Nodup
  | [], _, _ => List.nodup_nil
  | k :: L, h, hk => by
    obtain ⟨k0, k1⟩ := hk k List.mem_cons_self
    cases k with
    | nil => exact absurd rfl k0
    | cons x t =>
      have hx := k1 x List.mem_cons_self
      obtain ⟨d, rfl⟩ : ∃ d : Nat, x = d := ⟨x.toNat, by omega⟩
      have hd := h d (by omega)
      rw [hdF, if_pos rfl] at hd
      refine List.nodup_cons.mpr ⟨fun m => (List.nodup_cons.mp hd).1 (hdF_mem m), nd_of (p := p) (fun e he => ?_) fun k q => hk k (List.mem_cons_of_mem _ q)⟩
      have := h e he
      rw [hdF] at this
      by_cases q : (d : Int) = e
      · rw [if_pos q] at this; exact (List.nodup_cons.mp this).2
      · rw [if_neg q] at this; exact this
theorem ndB_ok {p : Nat} : ∀ (m : Nat) (L : List (List Int)), ndB p m L = true → (∀ k, k ∈ L → k.length = m ∧ ∀ x, x ∈ k → 0 ≤ x ∧ x < p) → L.Nodup
  | _, [], _, _ => List.nodup_nil
  | _, [_], _, _ => by simp
  | 0, _ :: _ :: _, h, _ => by simp [ndB] at h
  | m + 1, k1 :: k2 :: L, h, hk => by
    have h : ((List.range p).all fun d => ndB p m (hdF (d : Int) (k1 :: k2 :: L))) = true := h
    refine nd_of (p := p) (fun d hd => ?_) fun k q => ?_
    · refine ndB_ok m _ (List.all_eq_true.mp h d (List.mem_range.mpr hd)) fun t ht => ?_
      have := hk _ (hdF_sub ht)
      exact ⟨by have := this.1; simp at this; omega, fun x hx => this.2 x (List.mem_cons_of_mem _ hx)⟩
    · have := hk k q
      exact ⟨fun e => by rw [e] at this; simp at this, this.2⟩
theorem inj_map {α β : Type} {f : α → β} : ∀ {l : List α}, (l.map f).Nodup → ∀ a b, a ∈ l → b ∈ l → f a = f b → a = b
  | [], _, a, b, h, _, _ => by cases h
  | x :: l, hn, a, b, ha, hb, e => by
    obtain ⟨h1, h2⟩ := List.nodup_cons.mp (by simpa using hn : (f x :: l.map f).Nodup)
    rcases List.mem_cons.mp ha with qa | qa
    · rcases List.mem_cons.mp hb with qb | qb
      · rw [qa, qb]
      · exact absurd (by rw [← qa, e]; exact List.mem_map.mpr ⟨b, qb, rfl⟩) h1
    · rcases List.mem_cons.mp hb with qb | qb
      · exact absurd (by rw [← qb, ← e]; exact List.mem_map.mpr ⟨a, qa, rfl⟩) h1
      · exact inj_map h2 a b qa qb e
def ndC (p c : Nat) : Bool := ndB p c ((combs c (iota p)).map fun r => restL r p c)
theorem nd3 : ∀ c, c < 3 → ndC 3 c = true := by decide +kernel
theorem nd5 : ∀ c, c < 5 → ndC 5 c = true := by decide +kernel
theorem nd7 : ∀ c, c < 7 → ndC 7 c = true := by decide +kernel
theorem nd11 : ∀ c, c < 11 → ndC 11 c = true := by decide +kernel
theorem nd13a : ∀ c, c < 6 → ndC 13 c = true := by decide +kernel
theorem nd13_6 : ndC 13 6 = true := by decide +kernel
theorem nd13_7 : ndC 13 7 = true := by decide +kernel
theorem nd13_8 : ndC 13 8 = true := by decide +kernel
theorem nd13b : ∀ c, c < 12 → 9 ≤ c → ndC 13 c = true := by decide +kernel
theorem nd_all {n c : Nat} (h3 : 3 ≤ n) (hn : n ≤ 13) (hc : c + 2 ≤ n) : ndC (primeN n) c = true := by
  have : n = 3 ∨ n = 4 ∨ n = 5 ∨ n = 6 ∨ n = 7 ∨ n = 8 ∨ n = 9 ∨ n = 10 ∨ n = 11 ∨ n = 12 ∨ n = 13 := by omega
  have t13 : c < 12 → ndC 13 c = true := fun h => by
    have : c < 6 ∨ c = 6 ∨ c = 7 ∨ c = 8 ∨ 9 ≤ c := by omega
    rcases this with q | rfl | rfl | rfl | q
    · exact nd13a c q
    · exact nd13_6
    · exact nd13_7
    · exact nd13_8
    · exact nd13b c h q
  rcases this with rfl | rfl | rfl | rfl | rfl | rfl | rfl | rfl | rfl | rfl | rfl
  · exact nd3 c (by omega)
  · exact nd5 c (by omega)
  · exact nd5 c (by omega)
  · exact nd7 c (by omega)
  · exact nd7 c (by omega)
  · exact nd11 c (by omega)
  · exact nd11 c (by omega)
  · exact nd11 c (by omega)
  · exact nd11 c (by omega)
  · exact t13 (by omega)
  · exact t13 (by omega)

def pvI (p x : Int) : Nat → Int
  | 0 => 1
  | j + 1 => pvI p x j * x % p
theorem pwL_map (h : List Int) (p : Int) : ∀ j, pwL h p j = h.map fun x => pvI p x j
  | 0 => rfl
  | j + 1 => by
    rw [pwL, pwL_map h p j]
    induction h with
    | nil => rfl
    | cons x h ih => simp only [List.map_cons, List.zipWith_cons_cons, ih]; rfl
theorem sum_split (f : Int → Int) (P : Int → Bool) : ∀ X : List Int, ((X.filter P).map f).sum + ((X.filter fun x => !P x).map f).sum = (X.map f).sum
  | [] => rfl
  | x :: X => by
    have := sum_split f P X
    cases h : P x <;> simp [List.filter_cons, h] <;> omega
theorem restL_eq {h h' : List Int} {p : Int} {c : Nat} : restL h p c = restL h' p c ↔ ∀ j, j < c → restA h p j = restA h' p j := by
  unfold restL
  constructor
  · intro e j hj
    have : ((List.range c).map (restA h p))[j]? = ((List.range c).map (restA h' p))[j]? := by rw [e]
    simpa [List.getElem?_map, hj] using this
  · intro e
    exact List.map_congr_left fun j hj => e j (List.mem_range.mp hj)
theorem comp_in {X h : List Int} (hX : Asc X) (hs : h.Sublist X) : X.filter (fun x => decide (x ∈ h)) = h :=
  asc_ext (hX.sublist List.filter_sublist) (hX.sublist hs) fun x => by
    rw [List.mem_filter, decide_eq_true_iff]
    exact ⟨fun z => z.2, fun z => ⟨hs.subset z, z⟩⟩
theorem rest_comp {X h h' : List Int} {p : Int} {c : Nat} (hX : Asc X) (hs : h.Sublist X) (hs' : h'.Sublist X) (e : restL h p c = restL h' p c) : restL (X.filter fun x => !decide (x ∈ h)) p c = restL (X.filter fun x => !decide (x ∈ h')) p c := by
  rw [restL_eq] at e ⊢
  intro j hj
  have e := e j hj
  unfold restA at e ⊢
  rw [pwL_map, pwL_map] at e ⊢
  have s1 := sum_split (fun x => pvI p x (j + 1)) (fun x => decide (x ∈ h)) X
  have s2 := sum_split (fun x => pvI p x (j + 1)) (fun x => decide (x ∈ h')) X
  rw [comp_in hX hs] at s1
  rw [comp_in hX hs'] at s2
  have d1 := Int.dvd_of_emod_eq_zero (Int.emod_eq_emod_iff_emod_sub_eq_zero.mp e)
  refine Int.emod_eq_emod_iff_emod_sub_eq_zero.mpr (Int.emod_eq_zero_of_dvd ?_)
  obtain ⟨q, hq⟩ := d1
  exact ⟨-q, by rw [Int.mul_neg, ← hq]; omega⟩
theorem rest_inj {a c n : Nat} {X h h' : List Int} (h3 : 3 ≤ n) (hn : n ≤ 13) (hc : c + 2 ≤ n) (hX : Asc X) (hr : ∀ x, x ∈ X → 0 ≤ x ∧ x < n) (hl : X.length = a + c) (hs : h.Sublist X) (hs' : h'.Sublist X) (la : h.length = a) (la' : h'.length = a) (e : restL h (primeN n) c = restL h' (primeN n) c) : h = h' := by
  obtain ⟨f1, f2, _, _⟩ := prime_facts n (by omega) h3
  have nd := nd_all h3 hn hc
  unfold ndC at nd
  have nd := ndB_ok c _ nd (fun k hk => by
    obtain ⟨r, _, rfl⟩ := List.mem_map.mp hk
    refine ⟨restL_len _ _ _, fun x hx => ?_⟩
    obtain ⟨j, _, rfl⟩ := List.mem_map.mp hx
    exact ⟨Int.emod_nonneg _ (by omega), Int.emod_lt_of_pos _ (by omega)⟩)
  have mem : ∀ g : List Int, g.Sublist X → g.length = a → (X.filter fun x => !decide (x ∈ g)) ∈ combs c (iota (primeN n)) := fun g hg lg => by
    have l := comp_len hX hg
    refine hand_comb ⟨by omega, hX.sublist List.filter_sublist, fun x hx => ?_⟩
    have := hr x (List.mem_filter.mp hx).1
    omega
  have ce := inj_map nd _ _ (mem h hs la) (mem h' hs' la') (rest_comp hX hs hs' e)
  rw [← comp_comp hX hs, ← comp_comp hX hs', ce]

def allHas (held : List Deal) (q : Nat) (x : Int) : Bool := held.all fun d => decide (x ∈ atP q d)
def knRow (held : List Deal) (p q : Nat) : List Int := if q = p then [] else (atP q (held.headD [])).filter (allHas held q)
def knU (held : List Deal) (p : Nat) : List Int := knRow held p 0 ++ (knRow held p 1 ++ knRow held p 2)
def knS (held : List Deal) (p : Nat) : List Int := (knU held p).mergeSort leZ
/-- the four words of one's own -/
def wn : Nat → Str
  | 0 => "knows"
  | 1 => "lacks"
  | 2 => "card"
  | _ => "blind"
def soW (w p : Nat) (held : List Deal) : Bool := match w with
  | 0 => decide (held.length = 1)
  | 1 => decide (1 < held.length)
  | 2 => !decide (knS held p = [])
  | _ => decide (knS held p = [])
def toldW (w p : Nat) (ds : List Deal) : List Deal := ds.filter fun d => soW w p (heldF ds p (atP p d))

/-- whether a person whose deals these are would know -/
def sureB (q : Nat) (ds : List Deal) (e : Deal) : Bool := decide ((heldF ds q (atP q e)).length = 1)
def seesB (p q : Nat) (ds : List Deal) (row : List Int) : Bool := (heldF ds p row).all (sureB q ds)
def toldS (p q : Nat) (ds : List Deal) : List Deal := ds.filter fun d => seesB p q ds (atP p d)
theorem GAt.keep {st st' : Sto} {i : Nat} {gs : List (D × List D)} {rs : List Nat} (h : GAt st i gs rs) (K : Keep st st') : GAt st' i gs rs :=
  ⟨h.len, h.nd, h.kn, by
    have := (List.getElem?_eq_some_iff.mp h.dct).1
    rw [K.2 i this (by omega)]; exact h.dct, fun j g r h1 h2 => by
    obtain ⟨q1, q2⟩ := h.lst j g r h1 h2
    exact ⟨q1, K.lst q2 (by have := lstAt_lt q2; omega)⟩⟩
inductive Sy where
  | own (w p : Nat) | sees (p q : Nat) | has (v : Bool) (p : Nat) (x : Int)
  deriving DecidableEq
/-- has or misses -/
def hmw (v : Bool) : Str := if v then "has" else "misses"
def syD : Sy → D
  | .own w p => .tup [.str (wn w), .str (pnm p)]
  | .sees p q => .tup [.str "sees", .str (pnm p), .str (pnm q)]
  | .has v p x => .tup [.str (hmw v), .str (pnm p), .int x]
def SyOk (n : Nat) : Sy → Prop
  | .own w p => w < 4 ∧ p < 3
  | .sees p q => p < 3 ∧ q < 3 ∧ q ≠ p
  | .has _ p x => p < 3 ∧ 0 ≤ x ∧ x < n
def hasB (v : Bool) (p : Nat) (x : Int) (d : Deal) : Bool := decide (x ∈ atP p d) == v
def told : Sy → List Deal → List Deal
  | .own w p, ds => toldW w p ds
  | .sees p q, ds => toldS p q ds
  | .has v p x, ds => ds.filter (hasB v p x)
structure EmbQ {α : Type} [DecidableEq α] (n : Nat) (f : α → D) : Prop where
  dt : ∀ (r : Nat → Option PyData) x, datP r (f x) = some (encD (f x))
  q : ∀ x y, PyData.eqv (encD (f x)) (encD (f y)) = decide (x = y)
  lay : ∀ x, (encD (f x)).canLay0 = true
  dp : ∀ x, (encD (f x)).depth ≤ n
section
variable {α β : Type} [DecidableEq α] [DecidableEq β] {n m : Nat} {f : α → D} {g : β → D}
theorem EmbQ.shp (E : EmbQ n f) (h : n ≤ 20) (x : α) : SeqAt.shaped (encD (f x)) = true := by
  have := E.dp x
  unfold SeqAt.shaped
  rw [E.lay, Bool.true_and, decide_eq_true_eq]
  omega
theorem EmbQ.dat (E : EmbQ n f) (st : Sto) (k : Nat) (x : α) : dat st k (f x) = some (encD (f x)) := by cases k <;> exact E.dt _ x
theorem EmbQ.eqB (E : EmbQ n f) (h : n ≤ 20) (st : Sto) (x y : α) : eqB st (f x) (f y) = some (decide (x = y)) := by
  unfold OH.eqB
  rw [E.dat, E.dat]
  simp only [Option.bind_some]
  rw [if_pos ⟨E.shp h x, E.shp h y⟩, E.q]
theorem EmbQ.neB (E : EmbQ n f) (h : n ≤ 20) (st : Sto) (x y : α) : neB st (f x) (f y) = some (!decide (x = y)) := by
  unfold OH.neB; rw [E.eqB h]; rfl
end
structure EmbO {α : Type} [DecidableEq α] (ok : α → Prop) (n : Nat) (f : α → D) : Prop where
  dt : ∀ (r : Nat → Option PyData) x, ok x → datP r (f x) = some (encD (f x))
  q : ∀ x y, ok x → ok y → PyData.eqv (encD (f x)) (encD (f y)) = decide (x = y)
  lay : ∀ x, ok x → (encD (f x)).canLay0 = true
  dp : ∀ x, ok x → (encD (f x)).depth ≤ n
section
variable {α : Type} [DecidableEq α] {ok : α → Prop} {n : Nat} {f : α → D}
theorem EmbO.qL (E : EmbO ok n f) : ∀ xs ys : List α, (∀ x, x ∈ xs → ok x) → (∀ x, x ∈ ys → ok x) → PyData.eqvAll ((xs.map f).map encD) ((ys.map f).map encD) = decide (xs = ys)
  | [], [], _, _ => by simp [PyData.eqvAll]
  | [], y :: ys, _, _ => by simp [PyData.eqvAll]
  | x :: xs, [], _, _ => by simp [PyData.eqvAll]
  | x :: xs, y :: ys, hx, hy => by
    simp only [List.map_cons, PyData.eqvAll]
    rw [E.q x y (hx x (by simp)) (hy y (by simp)), E.qL xs ys (fun z hz => hx z (by simp [hz])) (fun z hz => hy z (by simp [hz]))]
    by_cases h : x = y <;> simp [h]
theorem EmbO.any (E : EmbO ok n f) (x : α) (hx : ok x) : ∀ ys : List α, (∀ y, y ∈ ys → ok y) → ((ys.map f).map encD).any (fun z => PyData.eqv z (encD (f x))) = decide (x ∈ ys)
  | [], _ => by simp
  | y :: ys, hy => by
    rw [List.map_cons, List.map_cons, List.any_cons, E.q y x (hy y (by simp)) hx, E.any x hx ys (fun z hz => hy z (by simp [hz]))]
    by_cases h : x = y
    · simp [h]
    · have h' : ¬ y = x := fun e => h e.symm
      simp [h, h']
end
section
variable {α : Type} [DecidableEq α] {n : Nat} {f : α → D}
theorem EmbQ.datL (E : EmbQ n f) (r : Nat → Option PyData) : ∀ xs : List α, datPL r (xs.map f) = some (xs.map fun x => encD (f x))
  | [] => rfl
  | x :: xs => by
    show ((datP r (f x)).bind fun d => (datPL r (xs.map f)).map fun ds => d :: ds) = _
    rw [E.dt, E.datL r xs]; rfl
theorem EmbQ.encT (E : EmbQ n f) (xs : List α) : encD (tupF f xs) = .tuple (xs.map fun x => encD (f x)) := by
  unfold encD tupF
  show ((datPL _ (xs.map f)).map PyData.tuple).getD .none = _
  rw [E.datL]; rfl
theorem EmbQ.list (E : EmbQ n f) : EmbQ (n + 1) (tupF f) where
  dt r x := by
    rw [E.encT]
    show (datPL r (x.map f)).map PyData.tuple = _
    rw [E.datL]; rfl
  q x y := by
    rw [E.encT, E.encT]
    show PyData.eqvAll _ _ = _
    induction x generalizing y with
    | nil => cases y <;> simp [PyData.eqvAll]
    | cons a x ih =>
      cases y with
      | nil => simp [PyData.eqvAll]
      | cons b y =>
        simp only [List.map_cons, PyData.eqvAll]
        rw [E.q, ih]
        by_cases h : a = b <;> simp [h]
  lay x := by
    rw [E.encT]
    show PyData.canLayAll0 _ = _
    induction x with
    | nil => simp [PyData.canLayAll0]
    | cons a x ih => simp only [List.map_cons, PyData.canLayAll0, E.lay, ih, Bool.and_self]
  dp x := by
    rw [E.encT]
    show PyData.depthAll _ + 1 ≤ _
    refine Nat.succ_le_succ ?_
    induction x with
    | nil => simp [PyData.depthAll]
    | cons a x ih =>
      have := E.dp a
      simp only [List.map_cons, PyData.depthAll]
      omega
end
structure GOfX {α : Type} (K V : α → D) (pre : List α) (gs : List (D × List D)) : Prop where
  mem : ∀ g, g ∈ gs → g.2 = (pre.filter (fun d => decide (K d = g.1))).map V ∧ g.1 ∈ pre.map K
  any : ∀ k, (gs.any fun g => decide (g.1 = k)) = decide (k ∈ pre.map K)
  len : gs.length ≤ pre.length
theorem GOfX.step {α : Type} {K V : α → D} {pre : List α} {gs : List (D × List D)} (h : GOfX K V pre gs) (d : α) : GOfX K V (pre ++ [d]) (addG gs (K d) (V d)) := by
  unfold addG
  have hk := h.any (K d)
  have fl : ∀ k, ((pre ++ [d]).filter (fun e => decide (K e = k))).map V = (pre.filter (fun e => decide (K e = k))).map V ++ (if K d = k then [V d] else []) := fun k => by
    rw [List.filter_append, List.map_append]
    by_cases e : K d = k <;> simp [e]
  by_cases e : (gs.any fun g => decide (g.1 = K d)) = true
  · rw [if_pos e]
    rw [e] at hk
    have hk2 : K d ∈ pre.map K := of_decide_eq_true hk.symm
    refine ⟨fun g hg => ?_, fun k => ?_, by rw [List.length_map, List.length_append]; have := h.len; omega⟩
    · obtain ⟨g0, h0, rfl⟩ := List.mem_map.mp hg
      obtain ⟨m1, m2⟩ := h.mem g0 h0
      by_cases eq : g0.1 = K d
      · rw [if_pos eq]
        refine ⟨?_, by rw [List.map_append]; exact List.mem_append_left _ m2⟩
        rw [fl, if_pos eq.symm, m1]
      · rw [if_neg eq]
        refine ⟨?_, by rw [List.map_append]; exact List.mem_append_left _ m2⟩
        rw [fl, if_neg (fun z => eq z.symm), List.append_nil]
        exact m1
    · have e1 : ((gs.map fun g => if g.1 = K d then (g.1, g.2 ++ [V d]) else g).any fun g => decide (g.1 = k)) = gs.any fun g => decide (g.1 = k) := by
        rw [List.any_map]
        congr 1
        funext g
        show decide ((if g.1 = K d then (g.1, g.2 ++ [V d]) else g).1 = k) = _
        by_cases eq : g.1 = K d
        · rw [if_pos eq]
        · rw [if_neg eq]
      rw [e1, h.any k]
      refine decide_eq_decide.mpr ⟨fun q => by rw [List.map_append]; exact List.mem_append_left _ q, fun q => ?_⟩
      rw [List.map_append, List.mem_append] at q
      rcases q with q | q
      · exact q
      · simp at q; rw [q]; exact hk2
  · rw [if_neg e]
    rw [Bool.not_eq_true] at e
    rw [e] at hk
    have hk2 : K d ∉ pre.map K := of_decide_eq_false hk.symm
    refine ⟨fun g hg => ?_, fun k => ?_, by simp; exact h.len⟩
    · rcases List.mem_append.mp hg with hg | hg
      · obtain ⟨m1, m2⟩ := h.mem g hg
        refine ⟨?_, by rw [List.map_append]; exact List.mem_append_left _ m2⟩
        rw [fl, if_neg (fun z => hk2 (by rw [z]; exact m2)), List.append_nil]
        exact m1
      · rw [List.mem_singleton] at hg
        subst hg
        refine ⟨?_, by simp⟩
        rw [fl, if_pos rfl]
        have : pre.filter (fun e => decide (K e = K d)) = [] := List.filter_eq_nil_iff.mpr fun x hx => by
          simp
          exact fun z => hk2 (by rw [← z]; exact List.mem_map.mpr ⟨x, hx, rfl⟩)
        rw [this]; rfl
    · rw [List.any_append, h.any k]
      rw [Bool.eq_iff_iff]
      simp only [Bool.or_eq_true, decide_eq_true_eq, List.any_cons, List.any_nil, Bool.or_false, List.map_append, List.map_cons, List.map_nil, List.mem_append, List.mem_singleton]
      constructor
      · rintro (z | z)
        · exact .inl z
        · exact .inr z.symm
      · rintro (z | z)
        · exact .inl z
        · exact .inr z.symm
theorem GOfX.nil {α : Type} {K V : α → D} : GOfX K V [] [] := ⟨(fun g h => by cases h), (fun k => by simp), Nat.le_refl _⟩
def pkD (x : Nat × List Int) : D := .tup [.int x.1, dT x.2]
/-- what a look-up in the groups finds -/
structure GrAt (st : Sto) (i : Nat) (P : List Nat) (ds : List Deal) : Prop where
  ex : ∃ kvs, st[i]? = some (.dcn kvs) ∧ ∀ p, p ∈ P → ∀ d, d ∈ ds → ∃ r, dGet kvs (pkD (p, atP p d)) = some (.ref r) ∧ lstAt st r = some ((heldF ds p (atP p d)).map dTT)
theorem GrAt.keep {st st' : Sto} {i : Nat} {P : List Nat} {ds : List Deal} (h : GrAt st i P ds) (K : Keep st st') : GrAt st' i P ds := by
  obtain ⟨kvs, h1, h2⟩ := h.ex
  have il := (List.getElem?_eq_some_iff.mp h1).1
  refine ⟨kvs, by rw [K.2 i il (by omega)]; exact h1, fun p hp d hd => ?_⟩
  obtain ⟨r, g1, g2⟩ := h2 p hp d hd
  exact ⟨r, g1, K.lst g2 (by have := lstAt_lt g2; omega)⟩
inductive ReachD (P : List Nat) (ds : List Deal) (d : Deal) : Deal → Prop
  | refl : ReachD P ds d d
  | step {e f : Deal} {p : Nat} (h : ReachD P ds d e) (hp : p ∈ P) (hf : f ∈ ds) (he : atP p f = atP p e) : ReachD P ds d f
open Classical in
def kvT (F : List Deal) : List (D × D) := F.map fun d => (dTT d, D.bl true)
/-- all places but three stay -/
def Keep3 (a b c : Nat) (st st' : Sto) : Prop := st'.length = st.length ∧ ∀ j, j ≠ a → j ≠ b → j ≠ c → st'[j]? = st[j]?
theorem Keep3.refl (a b c : Nat) (st : Sto) : Keep3 a b c st st := ⟨rfl, fun _ _ _ _ => rfl⟩
theorem Keep3.trans {a b c : Nat} {x y z : Sto} (h : Keep3 a b c x y) (g : Keep3 a b c y z) : Keep3 a b c x z := ⟨g.1.trans h.1, fun j ha hb hc => (g.2 j ha hb hc).trans (h.2 j ha hb hc)⟩
theorem Keep3.lst {a b c : Nat} {st st' : Sto} (h : Keep3 a b c st st') {i : Nat} {L : List D} (hi : lstAt st i = some L) (ha : i ≠ a) (hb : i ≠ b) (hc : i ≠ c) : lstAt st' i = some L := by
  unfold lstAt at hi ⊢
  rw [h.2 i ha hb hc]; exact hi
/-- what stays so while the law walks -/
structure CmSt (st : Sto) (c wa se : Nat) (kv : List (D × D)) (W : List Deal) (st' : Sto) : Prop where
  c : st'[c]? = some (.dcn kv)
  w : lstAt st' wa = some (W.map dTT)
  s : st'[se]? = some (.dcn (kvT W))
  K : Keep st st'
theorem CmSt.app {st : Sto} {c wa se : Nat} {kv : List (D × D)} {W : List Deal} {st' : Sto} (H : CmSt st c wa se kv W st') (g : List Cell) : CmSt st c wa se kv W (st' ++ g) :=
  ⟨by rw [List.getElem?_append_left (List.getElem?_eq_some_iff.mp H.c).1]; exact H.c, by rw [lstAt_app (lstAt_lt H.w)]; exact H.w, by rw [List.getElem?_append_left (List.getElem?_eq_some_iff.mp H.s).1]; exact H.s, H.K.trans (KeepS.app _ _ _)⟩
theorem ReachD.trans {P : List Nat} {L : List Deal} {d e f : Deal} (h : ReachD P L d e) (g : ReachD P L e f) : ReachD P L d f := by
  induction g with
  | refl => exact h
  | step g hp hf he ih => exact .step ih hp hf he
theorem ReachD.mem {P : List Nat} {L : List Deal} {d e : Deal} (hd : d ∈ L) (h : ReachD P L d e) : e ∈ L := by
  induction h with
  | refl => exact hd
  | step h hp hf he ih => exact hf
theorem ReachD.symm {P : List Nat} {L : List Deal} {d e : Deal} (hd : d ∈ L) (h : ReachD P L d e) : ReachD P L e d := by
  induction h with
  | refl => exact .refl
  | step h hp hf he ih => exact ReachD.trans (.step .refl hp (h.mem hd) he.symm) ih
theorem ReachD.mono {P Q : List Nat} (s : ∀ p, p ∈ P → p ∈ Q) {L : List Deal} {d e : Deal} (h : ReachD P L d e) : ReachD Q L d e := by
  induction h with
  | refl => exact .refl
  | step h hp hf he ih => exact .step ih (s _ hp) hf he
def seqD (w : Nat) (P : List Nat) (L : List Deal) : Nat → List Deal
  | 0 => L
  | i + 1 => told (.own w (P.getD (i % P.length) 0)) (seqD w P L i)
def ctsR (w : Nat) (P : List Nat) (L : List Deal) (k : Nat) : List Nat := (List.range k).map fun i => (seqD w P L (i + 1)).length
section
variable {w : Nat} {P : List Nat} {L : List Deal}
end

def natsD (l : List Nat) : List D := l.map fun n => D.int (n : Nat)
structure RdSt (w : Nat) (P : List Nat) (L : List Deal) (base : Sto) (ci i rd : Nat) (st : Sto) : Prop where
  K : Keep base st
  l : lstAt st rd = some ((seqD w P L i).map dTT)
  c : lstAt st ci = some (natsD (ctsR w P L i))
  ne : rd ≠ ci
  b : base.length ≤ ci
theorem RdSt.app {w : Nat} {P : List Nat} {L : List Deal} {base : Sto} {ci i rd : Nat} {st : Sto} (H : RdSt w P L base ci i rd st) (g : List Cell) : RdSt w P L base ci i rd (st ++ g) :=
  ⟨H.K.trans (KeepS.app _ _ _), by rw [lstAt_app (lstAt_lt H.l)]; exact H.l, by rw [lstAt_app (lstAt_lt H.c)]; exact H.c, H.ne, H.b⟩
section
variable {w : Nat} {P : List Nat} {L : List Deal}
end

section
variable {w : Nat} {P : List Nat} {L : List Deal}
end

section
variable {w : Nat} {P : List Nat} {L : List Deal}
end
section
variable {w : Nat} {P : List Nat} {L : List Deal}
end
theorem IsLot.take {a n : Nat} {lot : List (List Int)} (h : IsLot a n lot) {m : Nat} (hm : 1 ≤ m) : IsLot a n (lot.take m) :=
  ⟨by have := h.ne; rw [List.length_take]; omega, by have := h.le; rw [List.length_take]; omega, h.asc.sublist (List.take_sublist _ _), fun r hr => h.hand r (List.mem_of_mem_take hr)⟩
def rowsK (p : Nat) (B : List Deal) : List D := (B.map (atP p)).map dT
/-- the keys as they lie in the store -/
structure KeysAt (st : Sto) (kr : Nat) (P : List Nat) (B : List Deal) : Prop where
  ex : ∃ RS : List D, lstAt st kr = some RS ∧ ∀ (j : Nat) (p : Nat), P[j]? = some p → ∃ r, RS[j]? = some (.ref r) ∧ lstAt st r = some (rowsK p B)
theorem KeysAt.keep {V st' : Sto} {kr : Nat} {P : List Nat} {B : List Deal} (h : KeysAt V kr P B) (K : Keep V st') : KeysAt st' kr P B := by
  obtain ⟨RS, k1, k2⟩ := h.ex
  refine ⟨RS, K.lst k1 (by have := lstAt_lt k1; omega), fun j p hj => ?_⟩
  obtain ⟨r, e1, e2⟩ := k2 j p hj
  exact ⟨r, e1, K.lst e2 (by have := lstAt_lt e2; omega)⟩
section
variable {n : Nat} {nm : List Int} {L M : List Deal}
end

def usL (a c : Nat) (lot : List (List Int)) (k : Nat) : Bool := (lot.take k).all fun o => !decide ((a : Int) - c ≤ (common (lot.getD k []) o : Nat))
theorem usL_due {a n c : Nat} {lot : List (List Int)} (h : IsLot a n lot) : (List.range lot.length).all (usL a c lot) = dueB a c lot := by
  have nd : ∀ i j (hi : i < lot.length) (hj : j < lot.length), lot[i] = lot[j] → i = j := fun i j hi hj e => by
    have pw := List.pairwise_iff_getElem.mp h.asc
    rcases Nat.lt_trichotomy i j with q | q | q
    · exact absurd (pw i j hi hj q) (by rw [e]; exact List.lt_irrefl _)
    · exact q
    · exact absurd (pw j i hj hi q) (by rw [e]; exact List.lt_irrefl _)
  have hn : ∀ x, x ∈ lot → x.Nodup := fun x hx => asc_nodup (h.hand x hx).2.1
  rw [Bool.eq_iff_iff]
  unfold dueB
  rw [List.all_eq_true, List.all_eq_true]
  constructor
  · intro q x hx
    rw [List.all_eq_true]
    intro o ho
    obtain ⟨i, hi, rfl⟩ := List.getElem_of_mem hx
    obtain ⟨j, hj, rfl⟩ := List.getElem_of_mem ho
    rcases Nat.lt_trichotomy i j with z | z | z
    · have := q j (List.mem_range.mpr hj)
      unfold usL at this
      rw [List.all_eq_true] at this
      have w := this lot[i] (List.mem_take_iff_getElem.mpr ⟨i, by omega, rfl⟩)
      rw [List.getD_eq_getElem?_getD, List.getElem?_eq_getElem hj, Option.getD_some, common_comm (hn _ ho) (hn _ hx)] at w
      simp [w]
    · subst z; simp
    · have := q i (List.mem_range.mpr hi)
      unfold usL at this
      rw [List.all_eq_true] at this
      have w := this lot[j] (List.mem_take_iff_getElem.mpr ⟨j, by omega, rfl⟩)
      rw [List.getD_eq_getElem?_getD, List.getElem?_eq_getElem hi, Option.getD_some] at w
      simp [w]
  · intro q k hk
    have hk' := List.mem_range.mp hk
    unfold usL
    rw [List.all_eq_true]
    intro o ho
    obtain ⟨j, hj, rfl⟩ := List.mem_take_iff_getElem.mp ho
    have w := q lot[k] (List.getElem_mem _)
    rw [List.all_eq_true] at w
    have w2 := w lot[j] (List.getElem_mem _)
    rw [List.getD_eq_getElem?_getD, List.getElem?_eq_getElem hk', Option.getD_some]
    have ne : ¬ lot[k] = lot[j] := fun e => by have := nd k j hk' (by omega) e; omega
    rw [decide_eq_false ne, Bool.false_or] at w2
    exact w2
inductive PS where
  | st (d : Deal) (p : Nat) | bad (x : D)
def psD : PS → D
  | .st d p => .tup [dTT d, .str (pnm p)]
  | .bad x => x
/-- cells below a length stay, but two -/
def KeepT (a b : Nat) (st st' : Sto) : Prop := st.length ≤ st'.length ∧ ∀ j, j < st.length → j ≠ a → j ≠ b → st'[j]? = st[j]?
theorem KeepT.refl (a b : Nat) (st : Sto) : KeepT a b st st := ⟨Nat.le_refl _, fun _ _ _ _ => rfl⟩
theorem KeepT.trans {a b : Nat} {s1 s2 s3 : Sto} (h : KeepT a b s1 s2) (g : KeepT a b s2 s3) : KeepT a b s1 s3 := ⟨Nat.le_trans h.1 g.1, fun j hj h1 h2 => by rw [g.2 j (Nat.lt_of_lt_of_le hj h.1) h1 h2, h.2 j hj h1 h2]⟩
theorem KeepT.app (a b : Nat) (st G : Sto) : KeepT a b st (st ++ G) := ⟨by simp, fun j hj _ _ => List.getElem?_append_left hj⟩
theorem KeepT.lst {a b : Nat} {st st' : Sto} (h : KeepT a b st st') {i : Nat} {ds : List D} (hi : lstAt st i = some ds) (h1 : i ≠ a) (h2 : i ≠ b) : lstAt st' i = some ds := by
  have il := lstAt_lt hi
  unfold lstAt at hi ⊢
  rw [h.2 i il h1 h2]; exact hi
/-- the same kinds of cells -/
def TyK (V V' : Sto) : Prop := ∀ x t, tyOf V x = some t → tyOf V' x = some t
theorem TyK.trans {a b c : Sto} (h : TyK a b) (g : TyK b c) : TyK a c := fun x t e => g x t (h x t e)
theorem TyK.app (V G : Sto) : TyK V (V ++ G) := fun x t h => by
  cases x with
  | ref i =>
    unfold tyOf at h ⊢
    have il : i < V.length := by
      refine Nat.lt_of_not_le fun q => ?_
      simp only [List.getElem?_eq_none q] at h
      cases h
    simp only [List.getElem?_append_left il]
    exact h
  | _ => exact h
theorem TyK.keep {o : Nat} {V V' : Sto} (K : KeepS o V V') {L L' : List D} (h1 : lstAt V o = some L) (h2 : lstAt V' o = some L') : TyK V V' := fun x t h => by
  cases x with
  | ref i =>
    by_cases io : i = o
    · subst io
      have e := ty_lst h1
      rw [h] at e
      rw [ty_lst h2]; exact e.symm
    · unfold tyOf at h ⊢
      have il : i < V.length := by
        refine Nat.lt_of_not_le fun q => ?_
        simp only [List.getElem?_eq_none q] at h
        cases h
      simp only [K.2 i il io]
      exact h
  | _ => exact h
theorem TyK.ok {V V' : Sto} (h : TyK V V') {d : D} (hd : tyOk V d) : tyOk V' d := by
  obtain ⟨⟨t, ht⟩, hx⟩ := hd
  exact ⟨⟨t, h _ _ ht⟩, fun ds e x hxx => by
    obtain ⟨u, hu⟩ := hx ds e x hxx
    exact ⟨u, h _ _ hu⟩⟩
theorem TyK.deal {V V' : Sto} (h : TyK V V') {d : D} (hd : tyDeal V d) : tyDeal V' d := by
  obtain ⟨⟨t, ht⟩, hx⟩ := hd
  exact ⟨⟨t, h _ _ ht⟩, fun ds e x hxx => h.ok (hx ds e x hxx)⟩
inductive BadT (a b c n : Nat) (V : Sto) : D → Prop where
  | s1 {x : D} {t : Ty} (ht : tyOf V x = some t) (hs : subT t .tup = false) : BadT a b c n V x
  | s2 {ds : List D} (h : ds.length ≠ 2) (hz : ds.length ≤ 100) : BadT a b c n V (.tup ds)
  | s3 {x y : D} (hx : tyDeal V x) (hb : dealB a b c n x = false) : BadT a b c n V (.tup [x, y])
  | s4 {d : Deal} {y : D} {t : Ty} (ht : tyOf V y = some t) (hs : subT t .str = false) : BadT a b c n V (.tup [dTT d, y])
theorem BadT.mono {a b c n : Nat} {V V' : Sto} (h : TyK V V') {x : D} (hx : BadT a b c n V x) : BadT a b c n V' x := by
  cases hx with
  | s1 ht hs => exact .s1 (h _ _ ht) hs
  | s2 h hz => exact .s2 h hz
  | s3 hx hb => exact .s3 (h.deal hx) hb
  | s4 ht hs => exact .s4 (h _ _ ht) hs
/-- a thing that is no peeling, whatever the deals -/
inductive OddT (a b c n o : Nat) (V : Sto) : D → Prop where
  | ty {x : D} {t : Ty} (ht : tyOf V x = some t) (hs : subT t .lst = false) : OddT a b c n o V x
  | items {i : Nat} (io : i ≠ o) (items : List PS) (hi : lstAt V i = some (items.map psD)) (il : items.length ≤ 9000) (h1 : ∀ d p, PS.st d p ∈ items → p < 3 ∧ D3 d) (hb : ∃ x, PS.bad x ∈ items) (h2 : ∀ x, PS.bad x ∈ items → BadT a b c n V x) : OddT a b c n o V (.ref i)
theorem OddT.mono {a b c n o : Nat} {V V' : Sto} (K : KeepS o V V') (h : TyK V V') {x : D} (hx : OddT a b c n o V x) : OddT a b c n o V' x := by
  cases hx with
  | ty ht hs => exact .ty (h _ _ ht) hs
  | items io its hi il h1 hb h2 => exact .items io its (K.lst hi io) il h1 hb (fun x hx => (h2 x hx).mono h)
noncomputable def oddSay (j : Nat) : D := match j with
  | 0 => .tup [.str "has", .str "anne", .bl true]
  | 1 => .tup [.str "knows", .str "dora"]
  | _ => .tup [.str "sees", .str "bill", .str "bill"]
noncomputable abbrev us1I : SS := (sSeq (sIf (bCmp geD (eCall 95 (lCons (eB2 ixR (eV 1) (eV 3)) (lCons (eB2 ixR (eV 1) (eV 2)) lNil))) (eB2 subR (eB2 ixR (eV 0) (eC (.int 0))) (eB2 ixR (eV 0) (eC (.int 2))))) (sSeq (sRet (eC (.bl false))) sNx) sNx) sNx)
noncomputable abbrev us1O : SS := (sSeq (sFor (siR1 (lCons (eV 2) lNil)) (gN 3) us1I) sNx)
def us1L (a c : Nat) (lot : List (List Int)) (k : Nat) : Bool := (List.range k).all fun j => !decide ((a : Int) - c ≤ (common (lot.getD j []) (lot.getD k []) : Nat))
theorem us1_usL {a n c : Nat} {lot : List (List Int)} (h : IsLot a n lot) {k : Nat} (hk : k < lot.length) : us1L a c lot k = usL a c lot k := by
  have hn : ∀ x, x ∈ lot → x.Nodup := fun x hx => asc_nodup (h.hand x hx).2.1
  have gk : lot.getD k [] = lot[k] := by rw [List.getD_eq_getElem?_getD, List.getElem?_eq_getElem hk, Option.getD_some]
  rw [Bool.eq_iff_iff]
  unfold us1L usL
  rw [List.all_eq_true, List.all_eq_true, gk]
  constructor
  · intro q o ho
    obtain ⟨j, hj, rfl⟩ := List.mem_take_iff_getElem.mp ho
    have w := q j (List.mem_range.mpr (by omega))
    have gj : lot.getD j [] = lot[j] := by rw [List.getD_eq_getElem?_getD, List.getElem?_eq_getElem (by omega), Option.getD_some]
    rw [gj, common_comm (hn _ (List.getElem_mem _)) (hn _ (List.getElem_mem _))] at w
    exact w
  · intro q j hj
    have jk := List.mem_range.mp hj
    have gj : lot.getD j [] = lot[j] := by rw [List.getD_eq_getElem?_getD, List.getElem?_eq_getElem (by omega), Option.getD_some]
    have w := q lot[j] (List.mem_take_iff_getElem.mpr ⟨j, by omega, rfl⟩)
    rw [gj, common_comm (hn _ (List.getElem_mem _)) (hn _ (List.getElem_mem _))]
    exact w
theorem all_congr' {α : Type} {l : List α} {p q : α → Bool} (h : ∀ x, x ∈ l → p x = q x) : l.all p = l.all q := by
  rw [Bool.eq_iff_iff, List.all_eq_true, List.all_eq_true]
  exact ⟨fun g x hx => by rw [← h x hx]; exact g x hx, fun g x hx => by rw [h x hx]; exact g x hx⟩
theorem law_useful_spec (k : Nat) {st : Sto} {a b c n : Nat} (S : Stg a b c n) {lot : List (List Int)} (h : IsLot a n lot) : callN Tbl (k + 2) n_law_useful [setD a b c, dTT lot] st = .ok (.bl (usefB a c lot)) st := by
  rw [run_eq (Tbl := Tbl) (f := n_law_useful) (body := (sSeq (sFor (siR1 (lCons (eU1 lenR (eV 1)) lNil)) (gN 2) us1O) (sSeq (sRet (eC (.bl true))) sNx))) rfl rfl]
  have an : a ≤ 13 := by have := S.le; have := S.sum; omega
  have hle := h.le
  have zl : (lot.map dT).length ≤ sizeLine := sz (by rw [List.length_map]; omega)
  have br : rngI lot.length = true := rngI_of (by omega) (by omega)
  have q := forGo_allA (src := []) (g := gN 2) (C := callN Tbl (k + 1)) (st := st) (v := .bl false) (b := us1O) (fun (i : Nat) => D.int (i : Int)) (us1L a c lot) (fun env => ∃ x y, env = [some (setD a b c), some (dTT lot), x, y]) rfl (List.range lot.length) (fun i hi env ⟨u, w, e⟩ => by
    subst e
    have hi' := List.mem_range.mp hi
    refine ⟨_, rfl, ?_⟩
    have bi : (lot.map dT)[i]? = some (dT lot[i]) := by rw [List.getElem?_map, List.getElem?_eq_getElem hi']; rfl
    have gi : lot.getD i [] = lot[i] := by rw [List.getD_eq_getElem?_getD, List.getElem?_eq_getElem hi', Option.getD_some]
    unfold us1L
    have q2 := forGo_allA (src := []) (g := gN 3) (C := callN Tbl (k + 1)) (st := st) (v := .bl false) (b := us1I) (fun (j : Nat) => D.int (j : Int)) (fun j => !decide ((a : Int) - c ≤ (common (lot.getD j []) (lot.getD i []) : Nat))) (fun env => ∃ y, env = [some (setD a b c), some (dTT lot), some (.int (i : Nat)), y]) rfl (List.range i) (fun j hj env ⟨y, e⟩ => by
      subst e
      have hj' := List.mem_range.mp hj
      refine ⟨_, rfl, ?_⟩
      have jl : j < lot.length := by omega
      have bj : (lot.map dT)[j]? = some (dT lot[j]) := by rw [List.getElem?_map, List.getElem?_eq_getElem jl]; rfl
      have gj : lot.getD j [] = lot[j] := by rw [List.getD_eq_getElem?_getD, List.getElem?_eq_getElem jl, Option.getD_some]
      have sh := shares_spec k (st := st) lot[j] lot[i] (by have := (h.hand _ (List.getElem_mem jl)).1; omega)
      rw [gi, gj]
      generalize common lot[j] lot[i] = cm at *
      unfold dTT tupF
      generalize dT lot[i] = RI at *
      generalize dT lot[j] = RJ at *
      generalize lot.map dT = LM at *
      unfold setD at *
      by_cases c1 : (a : Int) - c ≤ (cm : Nat)
      · simp [us1I, atI_nat, bi, bj, sh, c1]
      · simp [us1I, atI_nat, bi, bj, sh, c1]) [some (setD a b c), some (dTT lot), some (.int (i : Nat)), w] ⟨w, rfl⟩
    have bri : rngI (i : Int) = true := rngI_of (by omega) (by omega)
    by_cases hb : ((List.range i).all fun j => !decide ((a : Int) - c ≤ (common (lot.getD j []) (lot.getD i []) : Nat))) = true
    · rw [if_pos hb] at q2 ⊢
      obtain ⟨env2, q2, y, rfl⟩ := q2
      refine ⟨[some (setD a b c), some (dTT lot), some (.int (i : Nat)), y], ?_, some (.int (i : Nat)), y, rfl⟩
      unfold us1O
      generalize us1I = B at *
      generalize dTT lot = DL at *
      generalize setD a b c = SD at *
      simp [bri, q2]
    · rw [if_neg hb] at q2 ⊢
      unfold us1O
      generalize us1I = B at *
      generalize dTT lot = DL at *
      generalize setD a b c = SD at *
      simp [bri, q2]) [some (setD a b c), some (dTT lot), none, none] ⟨none, none, rfl⟩
  rw [all_congr' (fun i hi => us1_usL h (List.mem_range.mp hi)), usL_due h, ← due_eq h] at q
  change if usefB a c lot = true then _ else _ at q
  have lm : (lot.map dT).length = lot.length := List.length_map _
  have tn : ((lot.length : Nat) : Int).toNat = lot.length := rfl
  by_cases hb : usefB a c lot = true
  · rw [if_pos hb] at q
    obtain ⟨env2, q, x, y, rfl⟩ := q
    simp only [dTT, tupF] at q ⊢
    generalize us1O = B at *
    generalize lot.map dT = LM at *
    unfold setD at *
    simp [zl, lm, br, q, hb]
  · rw [if_neg hb] at q
    simp only [dTT, tupF] at q ⊢
    generalize us1O = B at *
    generalize lot.map dT = LM at *
    unfold setD at *
    simp [zl, lm, br, q, hb]
def cntV (ns : List Int) (v : Nat) : Nat := (ns.filter fun x => decide (x = (v : Int))).length
def SizeOk (ns : List Int) (t : Nat) : Prop := ns.length ≤ 60 ∨ ∀ v, v < 7 → cntV ns v ≤ 21 + t
theorem cntV_le (ns : List Int) (v : Nat) : cntV ns v ≤ ns.length := List.length_filter_le _ _
theorem cntV_set : ∀ (ns : List Int) (i : Nat) (w : Int) (v : Nat), cntV (ns.set i w) v ≤ cntV ns v + 1
  | [], _, _, _ => by simp [cntV]
  | x :: ns, 0, w, v => by
    unfold cntV
    rw [List.set_cons_zero, List.filter_cons, List.filter_cons]
    split <;> split <;> first | omega | (simp only [List.length_cons]; omega)
  | x :: ns, i + 1, w, v => by
    have := cntV_set ns i w v
    unfold cntV at this ⊢
    rw [List.set_cons_succ, List.filter_cons, List.filter_cons]
    split <;> first | omega | (simp only [List.length_cons]; omega)
theorem SizeOk.set {ns : List Int} {t : Nat} (h : SizeOk ns t) (i : Nat) (w : Int) : SizeOk (ns.set i w) (t + 1) := by
  rcases h with h | h
  · exact .inl (by rw [List.length_set]; exact h)
  · exact .inr fun v hv => by have := cntV_set ns i w v; have := h v hv; omega
theorem SizeOk.mono {ns : List Int} {t u : Nat} (h : SizeOk ns t) (l : t ≤ u) : SizeOk ns u := by
  rcases h with h | h
  · exact .inl h
  · exact .inr fun v hv => by have := h v hv; omega
theorem SizeOk.le {ns : List Int} {t : Nat} (h : SizeOk ns t) (l : t ≤ 39) : ∀ v, v < 7 → cntV ns v ≤ 60 := fun v hv => by
  rcases h with h | h
  · have := cntV_le ns v; omega
  · have := h v hv; omega
def fewB (p : Nat) : Nat → List (List Int) → Bool
  | 0, L => decide (L.length ≤ 60)
  | m + 1, L => (List.range p).all fun d => fewB p m (hdF (d : Int) L)
theorem hdF_count {x : Int} {t : List Int} : ∀ L : List (List Int), (L.filter fun l => decide (l = x :: t)).length ≤ ((hdF x L).filter fun l => decide (l = t)).length
  | [] => Nat.le_refl _
  | [] :: L => by
    rw [List.filter_cons_of_neg (by simp), hdF]
    exact hdF_count L
  | (y :: s) :: L => by
    have ih := hdF_count (x := x) (t := t) L
    rw [hdF]
    by_cases e : y = x
    · rw [if_pos e]
      by_cases e2 : s = t
      · rw [List.filter_cons_of_pos (by simp [e, e2]), List.filter_cons_of_pos (by simp [e2]), List.length_cons, List.length_cons]
        omega
      · rw [List.filter_cons_of_neg (by simp [e2]), List.filter_cons_of_neg (by simp [e2])]
        exact ih
    · rw [if_neg e, List.filter_cons_of_neg (by simp [e])]
      exact ih
theorem fewB_ok {p : Nat} : ∀ (m : Nat) (L : List (List Int)), fewB p m L = true → ∀ k : List Int, k.length = m → (∀ x, x ∈ k → 0 ≤ x ∧ x < p) → (L.filter fun l => decide (l = k)).length ≤ 60
  | 0, L, h, k, _, _ => Nat.le_trans (List.length_filter_le _ _) (of_decide_eq_true h)
  | m + 1, L, h, [], e, _ => by simp at e
  | m + 1, L, h, x :: t, e, hx => by
    have x0 := hx x List.mem_cons_self
    have q := List.all_eq_true.mp (show ((List.range p).all fun d => fewB p m (hdF (d : Int) L)) = true from h) x.toNat (List.mem_range.mpr (by omega))
    rw [show ((x.toNat : Nat) : Int) = x by omega] at q
    exact Nat.le_trans (hdF_count L) (fewB_ok m _ q t (by simpa using e) fun y hy => hx y (List.mem_cons_of_mem _ hy))
def fewC (n a m : Nat) : Bool := fewB (primeN n) m ((combs a (iota n)).map fun r => restL r (primeN n) m)
theorem few9 : ∀ n, n < 10 → ∀ a, a < n → fewC n a 1 = true := by decide +kernel
theorem few10 : ∀ a, a < 10 → fewC 10 a 1 = true := by decide +kernel
theorem few11 : ∀ a, a < 11 → fewC 11 a 1 = true := by decide +kernel
theorem few12 : ∀ a, a < 12 → fewC 12 a 2 = true := by decide +kernel
theorem few13 : ∀ a, a < 13 → fewC 13 a 2 = true := by decide +kernel
theorem few4 : fewC 12 4 1 = true ∧ fewC 13 4 1 = true := by decide +kernel
theorem plL_few {n a c m : Nat} (hm : m ≤ c) (f : fewC n a m = true) {rs : List Int} (hl : rs.length = c) (hr : ∀ x, x ∈ rs → 0 ≤ x ∧ x < primeN n) : (plL n a c rs).length ≤ 60 := by
  have q := fewB_ok m _ f (rs.take m) (by rw [List.length_take]; omega) fun x hx => hr x (List.mem_of_mem_take hx)
  rw [List.filter_map, List.length_map] at q
  refine Nat.le_trans ?_ q
  unfold plL
  have : ∀ L : List (List Int), (L.filter fun h => decide (restL h (primeN n) c = rs)).length ≤ (L.filter ((fun l => decide (l = rs.take m)) ∘ fun r => restL r (primeN n) m)).length := fun L => by
    induction L with
    | nil => exact Nat.le_refl _
    | cons h L ih =>
      by_cases e : restL h (primeN n) c = rs
      · have e2 : restL h (primeN n) m = rs.take m := by
          rw [← e]
          unfold restL
          rw [← List.map_take, List.take_range, Nat.min_eq_left hm]
        rw [List.filter_cons_of_pos (by simp [e]), List.filter_cons_of_pos (by simp [e2])]
        simp only [List.length_cons]
        omega
      · rw [List.filter_cons_of_neg (by simp [e])]
        refine Nat.le_trans ih ?_
        rw [List.filter_cons]
        split
        · simp
        · exact Nat.le_refl _
  exact this _
def FewQ (a c n : Nat) : Prop := n ≤ 11 ∨ a = 4 ∨ 2 ≤ c
theorem plL_60 {a b c n : Nat} (S : Stg a b c n) (Q : FewQ a c n) {rs : List Int} (hl : rs.length = c) (hr : ∀ x, x ∈ rs → 0 ≤ x ∧ x < primeN n) : (plL n a c rs).length ≤ 60 := by
  have sum := S.sum; have le := S.le; have a1 := S.a1; have b1 := S.b1; have c1 := S.c1
  by_cases h9 : n < 10
  · exact plL_few c1 (few9 n h9 a (by omega)) hl hr
  · have : n = 10 ∨ n = 11 ∨ n = 12 ∨ n = 13 := by omega
    rcases this with rfl | rfl | rfl | rfl
    · exact plL_few c1 (few10 a (by omega)) hl hr
    · exact plL_few c1 (few11 a (by omega)) hl hr
    · rcases Q with q | rfl | q
      · omega
      · exact plL_few c1 few4.1 hl hr
      · exact plL_few q (few12 a (by omega)) hl hr
    · rcases Q with q | rfl | q
      · omega
      · exact plL_few c1 few4.2 hl hr
      · exact plL_few q (few13 a (by omega)) hl hr
theorem rest_apart {a b c n : Nat} (S : Stg a b c n) {h g : List Int} (hh : IsHand a n h) (hg : IsHand a n g) (e : restL h (primeN n) c = restL g (primeN n) c) (ne : h ≠ g) : (common h g : Int) < (a : Int) - c := by
  have sum := S.sum; have le := S.le; have a1 := S.a1; have b1 := S.b1; have c1 := S.c1
  refine Classical.byContradiction fun no => ne ?_
  obtain ⟨X, hX⟩ : ∃ X, X = (iota n).filter fun x => decide (x ∈ h) || decide (x ∈ g) := ⟨_, rfl⟩
  have aX : Asc X := hX ▸ (iota_asc n).sublist List.filter_sublist
  have mX : ∀ x, x ∈ X ↔ x ∈ h ∨ x ∈ g := fun x => by
    rw [hX, List.mem_filter, mem_iota]
    simp only [Bool.or_eq_true, decide_eq_true_iff]
    exact ⟨fun q => q.2, fun q => ⟨q.elim (hh.2.2 x) (hg.2.2 x), q⟩⟩
  have fh : X.filter (fun x => decide (x ∈ h)) = h := asc_ext (aX.sublist List.filter_sublist) hh.2.1 fun x => by
    rw [List.mem_filter, mX, decide_eq_true_iff]
    exact ⟨fun q => q.2, fun q => ⟨.inl q, q⟩⟩
  have fg : X.filter (fun x => decide (x ∈ g)) = g := asc_ext (aX.sublist List.filter_sublist) hg.2.1 fun x => by
    rw [List.mem_filter, mX, decide_eq_true_iff]
    exact ⟨fun q => q.2, fun q => ⟨.inr q, q⟩⟩
  have fd : X.filter (fun x => !decide (x ∈ h)) = g.filter fun x => !decide (x ∈ h) := asc_ext (aX.sublist List.filter_sublist) (hg.2.1.sublist List.filter_sublist) fun x => by
    rw [List.mem_filter, List.mem_filter, mX]
    simp only [Bool.not_eq_true', decide_eq_false_iff_not]
    exact ⟨fun q => ⟨q.1.resolve_left q.2, q.2⟩, fun q => ⟨.inr q.1, q.2⟩⟩
  have s1 := filt_two (fun x => decide (x ∈ h)) X
  have s2 := filt_two (fun x => decide (x ∈ h)) g
  rw [fh, fd] at s1
  have cm : (g.filter fun x => decide (x ∈ h)).length = common h g := by
    rw [common_comm (asc_nodup hh.2.1) (asc_nodup hg.2.1)]; rfl
  have lh := hh.1
  have lg := hg.1
  obtain ⟨m, hm⟩ : ∃ m, m = a - common h g := ⟨_, rfl⟩
  have mc : m ≤ c := by omega
  refine rest_inj (a := a) (c := m) (X := X) (by omega) le (by omega) aX (fun x hx => ((mX x).mp hx).elim (hh.2.2 x) (hg.2.2 x)) (by omega) (fh ▸ List.filter_sublist) (fg ▸ List.filter_sublist) lh lg ?_
  rw [restL_eq] at e ⊢
  exact fun j hj => e j (by omega)

theorem law_great_spec (k : Nat) {st : Sto} {d : D} {y0 y1 y2 y3 : Int} (hd : Seq st d [.int y0, .int y1, .int y2, .int y3]) : ∃ a b c n, callN Tbl (k + 1) n_law_great [d] st = .ok (setD a b c) st ∧ Stg a b c n ∧ FewQ a c n := by
  rw [run_eq (Tbl := Tbl) (f := n_law_great) rfl rfl]
  obtain ⟨t, ht, t4⟩ : ∃ t : Nat, y0 % 4 = (t : Nat) ∧ t < 4 := ⟨(y0 % 4).toNat, by omega, by omega⟩
  obtain ⟨u, hu, u3⟩ : ∃ t : Nat, y1 % 3 = (t : Nat) ∧ t < 3 := ⟨(y1 % 3).toNat, by omega, by omega⟩
  have z3 : 3 ≤ sizeLine := sz (by decide)
  have gk : ∀ a b c : Nat, gc st (D.tup [.int a, .int b, .int c]) st = .ok (.tup [.int a, .int b, .int c]) st := fun a b c => gc_keep (KeepS.refl _ _) rfl
  by_cases q : u = 0 ∧ 1 < t
  · obtain ⟨rfl, q2⟩ := q
    refine ⟨4, 5 + t, 1, 10 + t, ?_, ⟨by omega, by omega, by omega, by omega, by omega⟩, .inr (.inl rfl)⟩
    have e1 : (10 : Int) + (t : Nat) - 5 = ((5 + t : Nat) : Int) := by omega
    have e2 : (11 : Int) < 10 + (t : Nat) := by omega
    have e3 : (1 : Int) + (0 : Nat) = 1 := rfl
    have g := gk 4 (5 + t) 1
    unfold setD
    generalize ((5 + t : Nat) : Int) = w at *
    cases hd with
    | tup => simp [ht, hu, e1, e2, z3, g]
    | scr => simp [ht, hu, e1, e2, z3, g]
    | ref i _ hi => simp [hi, ht, hu, e1, e2, z3, g]
  · obtain ⟨w, hw, w0, w1⟩ : ∃ w : Nat, y2 % ((10 : Int) + t - (1 + u) - 2) = (w : Nat) ∧ 0 ≤ w ∧ w + u + 3 < 10 + t := by
      have p0 := Int.emod_nonneg y2 (show (10 : Int) + t - (1 + u) - 2 ≠ 0 by omega)
      have p1 := Int.emod_lt_of_pos y2 (show 0 < (10 : Int) + t - (1 + u) - 2 by omega)
      exact ⟨(y2 % ((10 : Int) + t - (1 + u) - 2)).toNat, by omega, by omega, by omega⟩
    refine ⟨2 + w, 10 + t - (1 + u) - (2 + w), 1 + u, 10 + t, ?_, ⟨by omega, by omega, by omega, by omega, by omega⟩, by unfold FewQ; omega⟩
    have e1 : (2 : Int) + (w : Nat) = ((2 + w : Nat) : Int) := by omega
    have e2 : (10 : Int) + t - (1 + u) - ((2 + w : Nat) : Int) = ((10 + t - (1 + u) - (2 + w) : Nat) : Int) := by omega
    have e3 : (1 : Int) + (u : Nat) = ((1 + u : Nat) : Int) := by omega
    have e4 : (0 : Int) < 10 + t - (1 + u) - 2 := by omega
    have g := gk (2 + w) (10 + t - (1 + u) - (2 + w)) (1 + u)
    have nq : ((1 : Int) + (u : Nat) = 1) → ¬ (11 : Int) < 10 + (t : Nat) := fun h h2 => q ⟨by omega, by omega⟩
    unfold setD
    rw [← e1, ← e3] at g ⊢
    rw [← e1] at e2
    rw [← e2] at g ⊢
    have hz : (10 : Int) + t - (1 + u) - 2 ≠ 0 := by omega
    generalize (t : Int) = ti at *
    have hu' := hu
    generalize (u : Int) = ui at *
    generalize (w : Int) = wi at *
    by_cases c1 : (1 : Int) + ui = 1
    · have c2 := nq c1
      have uz : ui = 0 := by omega
      clear hu u3 e3 e2 q
      subst uz
      have hw1 : y2 % (10 + ti - 1 - 2) = wi := hw
      have e5 : (2 : Int) < 10 + ti - 1 := by omega
      cases hd with
      | tup => simp [ht, hu', c2, hw1, e5, z3]
      | scr => simp [ht, hu', c2, hw1, e5, z3]
      | ref i _ hi => simp [hi, ht, hu', c2, hw1, e5, z3]
    · have e5 : (2 : Int) < 10 + ti - (1 + ui) := by omega
      cases hd with
      | tup => simp [ht, hu', c1, hw, e5, z3]
      | scr => simp [ht, hu', c1, hw, e5, z3]
      | ref i _ hi => simp [hi, ht, hu', c1, hw, e5, z3]
theorem hand_draw (k : Nat) {Z : SE} {env : Env} {V V1 : Sto} {i a b c n : Nat} {zs : List Int} (S : Stg a b c n) (h4 : env[4]? = some (some (.int (n : Nat)))) (h2 : env[2]? = some (some (setD a b c))) (hZ : Z (callN Tbl (k + 1)) env V = .ok (.ref i) V1) (l1 : lstAt V1 i = some (zs.map D.int)) (zl : zs.length = 13) (K : Keep V V1) : ∃ hd V', (eA tupQ (lSorted (lSeq (eSl (eCall 24 (lCons Z (lCons (eV 4) lNil))) oNone (oSome (eB2 ixR (eV 2) (eC (.int 0)))))))) (callN Tbl (k + 1)) env V = .ok (dT hd) V' ∧ IsHand a n hd ∧ Keep V V' := by
  have sum := S.sum; have le := S.le; have a1 := S.a1
  obtain ⟨os, eo, O⟩ := order_spec k (st := V1) (d := .ref i) (xs := zs) (.ref _ _ l1) n (by omega) le
  obtain ⟨V2, hV2⟩ : ∃ W : Sto, W = V1 ++ [.lst (os.map D.int)] := ⟨_, rfl⟩
  replace eo : callN Tbl (k + 1) n_law_order [.ref i, .int n] V1 = .ok (.ref V1.length) V2 := by rw [hV2]; exact eo
  have l2 : lstAt V2 V1.length = some (os.map D.int) := by rw [hV2]; exact lstAt_app_len _
  obtain ⟨V3, hV3⟩ : ∃ W : Sto, W = V2 ++ [.lst ((os.take a).map D.int)] := ⟨_, rfl⟩
  have l3 : lstAt V3 V2.length = some ((os.take a).map D.int) := by rw [hV3]; exact lstAt_app_len _
  have hh : IsHand a n ((os.take a).mergeSort leZ) := sort_hand (by rw [List.length_take, O.1]; omega) (O.2.1.sublist (List.take_sublist _ _)) fun z hz => O.2.2 z (List.mem_of_mem_take hz)
  obtain ⟨hd, hhd⟩ : ∃ hd, hd = (os.take a).mergeSort leZ := ⟨_, rfl⟩
  rw [← hhd] at hh
  have so : sortO ((os.take a).map D.int) = some (hd.map D.int) := by rw [hhd]; exact sortI _
  refine ⟨hd, V3, ?_, hh, KeepS.mono (hV3 ▸ KeepS.app V2.length V2 _) (by have := K.1; rw [hV2]; simp; omega) (KeepS.mono (hV2 ▸ KeepS.app V1.length V1 _) K.1 K)⟩
  have c4 : cutD (os.map D.int) none (some (a : Nat)) = (os.take a).map D.int := by rw [List.map_take]; exact cut_take _ a
  have zH : (hd.map D.int).length ≤ sizeLine := sz (by rw [List.length_map, hh.1]; omega)
  have h3 := hV3.symm
  have ia : L2.atI [D.int (a : Nat), .int (b : Nat), .int (c : Nat)] 0 = some (.int (a : Nat)) := rfl
  clear hV2 hV3 hhd hh O K
  unfold dT tupF setD at *
  generalize hd.map D.int = HM at *
  generalize (os.take a).map D.int = OM4 at *
  generalize os.map D.int = OM at *
  simp [hZ, h4, h2, eo, l2, c4, newL, h3, l3, so, zH]

noncomputable abbrev ko1 : SS := (sSet 7 (eCall 22 (lCons (eCall 21 (lCons (eV 0) (lCons (eB2 addR (eC (.int 1)) (eV 6)) lNil))) (lCons (eC (.int 26)) lNil))))
noncomputable abbrev ko2 : SS := (sSet 8 (eA tupQ (lSorted (lSeq (eSl (eCall 24 (lCons (eSl (eV 7) oNone (oSome (eC (.int 13)))) (lCons (eV 4) lNil))) oNone (oSome (eB2 ixR (eV 2) (eC (.int 0)))))))))
noncomputable abbrev ko3 : SS := (sSet 9 (eA tupQ (lSorted (lSeq (eSl (eCall 24 (lCons (eSl (eV 7) (oSome (eC (.int 13))) oNone) (lCons (eV 4) lNil))) oNone (oSome (eB2 ixR (eV 2) (eC (.int 0)))))))))
noncomputable abbrev ko4 : SS := (sSet 10 (eCall 87 (lCons (eV 8) (lCons (eB2 ixR (eV 2) (eC (.int 2))) (lCons (eV 5) lNil)))))
noncomputable abbrev ko5 : SS := (sSet 11 (eCall 144 (lCons (eV 2) (lCons (eV 10) lNil))))
noncomputable abbrev ko6 : SS := (sIf (bOr (bNot (bOf (eCall 89 (lCons (eV 11) lNil)))) (bOr (bCmp ninB (eV 8) (eV 11)) (bCmp neB (eNew (lMap (fun _ ds => some ds) (lSeq (eV 11)))) (eNew (lSortedSet (lSeqT (eV 11))))))) (sSeq (sRet (eC (.bl false))) sNx) sNx)
noncomputable abbrev ko7 : SS := (sIf (bCmp gtD (eA (fun st ds => .ok (.int ds.length) st) (lLc (siOf (eV 11)) (gN 12) [12] (bOr (bCmp neB (eU1 lenR (eV 12)) (eB2 ixR (eV 2) (eC (.int 0)))) (bCmp neB (eCall 87 (lCons (eV 12) (lCons (eB2 ixR (eV 2) (eC (.int 2))) (lCons (eV 5) lNil)))) (eV 10))) (eV 12))) (eC (.int 0))) (sSeq (sRet (eC (.bl false))) sNx) sNx)
noncomputable abbrev ko8 : SS := (sIf (bCmp neB (eB2 (cB inB) (eV 9) (eV 11)) (eB2 (cB eqB) (eCall 87 (lCons (eV 9) (lCons (eB2 ixR (eV 2) (eC (.int 2))) (lCons (eV 5) lNil)))) (eV 10))) (sSeq (sRet (eC (.bl false))) sNx) sNx)
noncomputable abbrev ko9 : SS := (sIf (bOr (bNot (bOf (eCall 139 (lCons (eV 2) (lCons (eV 11) lNil))))) (bCmp isnB (eCall 40 (lCons (eV 2) (lCons (eV 11) lNil))) (eC (.bl true)))) (sSeq (sRet (eC (.bl false))) sNx) sNx)
noncomputable abbrev koB : SS := (sSeq ko1 (sSeq ko2 (sSeq ko3 (sSeq ko4 (sSeq ko5 (sSeq ko6 (sSeq ko7 (sSeq ko8 (sSeq ko9 sNx)))))))))
theorem restL_rng {h : List Int} {n c : Nat} (h3 : 3 ≤ n) (hn : n ≤ 13) : (restL h (primeN n) c).length = c ∧ ∀ x, x ∈ restL h (primeN n) c → 0 ≤ x ∧ x < primeN n := by
  obtain ⟨f1, f2, _, _⟩ := prime_facts n (by omega) h3
  refine ⟨restL_len _ _ _, fun x hx => ?_⟩
  obtain ⟨j, _, rfl⟩ := List.mem_map.mp hx
  exact ⟨Int.emod_nonneg _ (by omega), Int.emod_lt_of_pos _ (by omega)⟩
theorem plL_lot {a b c n : Nat} (S : Stg a b c n) (Q : FewQ a c n) {h : List Int} (hh : IsHand a n h) : IsLot a n (plL n a c (restL h (primeN n) c)) ∧ h ∈ plL n a c (restL h (primeN n) c) := by
  have sum := S.sum; have le := S.le; have a1 := S.a1; have b1 := S.b1; have c1 := S.c1
  obtain ⟨r1, r2⟩ := restL_rng (h := h) (c := c) (show 3 ≤ n by omega) le
  have m : h ∈ plL n a c (restL h (primeN n) c) := List.mem_filter.mpr ⟨hand_comb hh, decide_eq_true rfl⟩
  exact ⟨⟨List.length_pos_of_mem m, plL_60 S Q r1 r2, (combs_asc a _ (iota_asc n)).sublist List.filter_sublist, fun r hr => comb_hand (List.mem_filter.mp hr).1⟩, m⟩
theorem ko_turn {V : Sto} {a b c n : Nat} (S : Stg a b c n) (Q : FewQ a c n) {ns : List Int} (h63 : ns.length ≤ 63) (i : Nat) {x1 x3 x7 x8 x9 x10 x11 : Option D} : ∃ V' w7 w8 w9 w10 w11, koB (callN Tbl 59) [some (.scr (ns.map D.int)), x1, some (setD a b c), x3, some (.int n), some (.int (primeN n)), some (.int (i : Nat)), x7, x8, x9, x10, x11, none] V = .nx [some (.scr (ns.map D.int)), x1, some (setD a b c), x3, some (.int n), some (.int (primeN n)), some (.int (i : Nat)), w7, w8, w9, w10, w11, none] V' ∧ Keep V V' := by
  have sum := S.sum; have le := S.le; have a1 := S.a1; have b1 := S.b1; have c1 := S.c1
  obtain ⟨f1, f2, _, _⟩ := prime_facts n (by omega) (show 3 ≤ n by omega)
  obtain ⟨N, hN⟩ : ∃ N, N = D.scr (ns.map D.int) := ⟨_, rfl⟩
  obtain ⟨P, hP⟩ : ∃ P : Nat, P = primeN n := ⟨_, rfl⟩
  obtain ⟨cell, ec⟩ := cell_spec 58 (st := V) ns h63 (1 + i)
  replace ec : callN Tbl 59 n_law_cell_at [N, .int (1 + (i : Int))] V = .ok (.int cell) V := by
    rw [hN, show (1 : Int) + (i : Int) = ((1 + i : Nat) : Int) by omega]; exact ec
  obtain ⟨ys, ey, hy⟩ := draws_spec 58 (st := V) cell 26 (by decide)
  have yl := hy.1
  obtain ⟨V1, hV1⟩ : ∃ W : Sto, W = V ++ [.lst (ys.map D.int)] := ⟨_, rfl⟩
  replace ey : callN Tbl 59 n_law_draws [.int cell, .int 26] V = .ok (.ref V.length) V1 := by rw [hV1]; exact ey
  have l1 : lstAt V1 V.length = some (ys.map D.int) := by rw [hV1]; exact lstAt_app_len _
  have K1 : Keep V V1 := hV1 ▸ KeepS.app _ _ _
  have q1 : ko1 (callN Tbl 59) [some N, x1, some (setD a b c), x3, some (.int n), some (.int P), some (.int (i : Nat)), x7, x8, x9, x10, x11, none] V = .nx [some N, x1, some (setD a b c), x3, some (.int n), some (.int P), some (.int (i : Nat)), some (.ref V.length), x8, x9, x10, x11, none] V1 := by
    clear hV1
    unfold ko1
    generalize setD a b c = SD at *
    simp [ec, ey]
  -- the two hands
  obtain ⟨V2, hV2⟩ : ∃ W : Sto, W = V1 ++ [.lst ((ys.take 13).map D.int)] := ⟨_, rfl⟩
  have l2 : lstAt V2 V1.length = some ((ys.take 13).map D.int) := by rw [hV2]; exact lstAt_app_len _
  have c13 : cutD (ys.map D.int) none (some 13) = (ys.take 13).map D.int := by rw [List.map_take]; exact cut_take _ 13
  obtain ⟨hd, V3, e3, hh, K3⟩ := hand_draw 58 (Z := eSl (eV 7) oNone (oSome (eC (.int 13)))) (env := [some N, x1, some (setD a b c), x3, some (.int n), some (.int P), some (.int (i : Nat)), some (.ref V.length), x8, x9, x10, x11, none]) (V := V1) (V1 := V2) (i := V1.length) (zs := ys.take 13) S rfl rfl (by
    have h2 := hV2.symm
    clear hV2 hV1 q1
    generalize (ys.take 13).map D.int = YT at *
    generalize ys.map D.int = YM at *
    generalize setD a b c = SD at *
    simp [l1, c13, newL, h2]) l2 (by rw [List.length_take]; omega) (hV2 ▸ KeepS.app _ _ _)
  have q2 : ko2 (callN Tbl 59) [some N, x1, some (setD a b c), x3, some (.int n), some (.int P), some (.int (i : Nat)), some (.ref V.length), x8, x9, x10, x11, none] V1 = .nx [some N, x1, some (setD a b c), x3, some (.int n), some (.int P), some (.int (i : Nat)), some (.ref V.length), some (dT hd), x9, x10, x11, none] V3 := by
    unfold ko2
    rw [sSet_ap, e3]
    rfl
  have l13 : lstAt V3 V.length = some (ys.map D.int) := K3.lst l1 (by have := lstAt_lt l1; omega)
  obtain ⟨V4, hV4⟩ : ∃ W : Sto, W = V3 ++ [.lst ((ys.drop 13).map D.int)] := ⟨_, rfl⟩
  have l4 : lstAt V4 V3.length = some ((ys.drop 13).map D.int) := by rw [hV4]; exact lstAt_app_len _
  have c14 : cutD (ys.map D.int) (some 13) none = (ys.drop 13).map D.int := by rw [List.map_drop]; exact cut_drop _ 13
  obtain ⟨od, V5, e5, ho, K5⟩ := hand_draw 58 (Z := eSl (eV 7) (oSome (eC (.int 13))) oNone) (env := [some N, x1, some (setD a b c), x3, some (.int n), some (.int P), some (.int (i : Nat)), some (.ref V.length), some (dT hd), x9, x10, x11, none]) (V := V3) (V1 := V4) (i := V3.length) (zs := ys.drop 13) S rfl rfl (by
    have h4 := hV4.symm
    clear hV4 hV2 hV1 q1 q2 e3
    generalize (ys.drop 13).map D.int = YT at *
    generalize ys.map D.int = YM at *
    generalize setD a b c = SD at *
    generalize dT hd = HD at *
    simp [l13, c14, newL, h4]) l4 (by rw [List.length_drop]; omega) (hV4 ▸ KeepS.app _ _ _)
  have q3 : ko3 (callN Tbl 59) [some N, x1, some (setD a b c), x3, some (.int n), some (.int P), some (.int (i : Nat)), some (.ref V.length), some (dT hd), x9, x10, x11, none] V3 = .nx [some N, x1, some (setD a b c), x3, some (.int n), some (.int P), some (.int (i : Nat)), some (.ref V.length), some (dT hd), some (dT od), x10, x11, none] V5 := by
    unfold ko3
    rw [sSet_ap, e5]
    rfl
  have rsp : ∀ (W : Sto) (r : List Int), IsHand a n r → callN Tbl 59 n_law_rests_v2 [dT r, .int c, .int P] W = .ok (dT (restL r P c)) W := fun W r hr => law_rests2_spec 58 (st := W) (hand := r) (fun x hx => by have := hr.2.2 x hx; omega) (by rw [hr.1]; omega) c (by omega) P (by omega) (by omega)
  obtain ⟨rs, hrs⟩ : ∃ rs, rs = restL hd P c := ⟨_, rfl⟩
  have e4 := rsp V5 hd hh
  rw [← hrs] at e4
  have q4 : ko4 (callN Tbl 59) [some N, x1, some (setD a b c), x3, some (.int n), some (.int P), some (.int (i : Nat)), some (.ref V.length), some (dT hd), some (dT od), x10, x11, none] V5 = .nx [some N, x1, some (setD a b c), x3, some (.int n), some (.int P), some (.int (i : Nat)), some (.ref V.length), some (dT hd), some (dT od), some (dT rs), x11, none] V5 := by
    clear q1 q2 q3 hV1 hV2 hV4 e3 e5
    unfold ko4 setD
    generalize dT hd = HD at *
    generalize dT od = OD at *
    generalize dT rs = RD at *
    simp [e4]
  obtain ⟨IL, hm⟩ := plL_lot S Q hh
  rw [← hP, ← hrs] at IL hm
  obtain ⟨L, hL⟩ : ∃ L, L = plL n a c rs := ⟨_, rfl⟩
  rw [← hL] at IL hm
  have l60 := IL.le
  have l1' := IL.ne
  obtain ⟨r1, r2⟩ := restL_rng (h := hd) (c := c) (show 3 ≤ n by omega) le
  rw [← hP, ← hrs] at r1 r2
  have e6 := power_lot_spec 53 (st := V5) S r1 (by rw [← hP]; exact r2)
  rw [← hL, if_neg (by intro z; rw [z] at l1'; simp at l1'), if_neg (by omega)] at e6
  replace e6 : callN Tbl 59 n_power_lot [setD a b c, dT rs] V5 = .ok (dTT L) V5 := e6
  have q5 : ko5 (callN Tbl 59) [some N, x1, some (setD a b c), x3, some (.int n), some (.int P), some (.int (i : Nat)), some (.ref V.length), some (dT hd), some (dT od), some (dT rs), x11, none] V5 = .nx [some N, x1, some (setD a b c), x3, some (.int n), some (.int P), some (.int (i : Nat)), some (.ref V.length), some (dT hd), some (dT od), some (dT rs), some (dTT L), none] V5 := by
    clear q1 q2 q3 q4 hV1 hV2 hV4 e3 e5
    unfold ko5
    generalize dTT L = LD at *
    generalize dT hd = HD at *
    generalize dT od = OD at *
    generalize dT rs = RD at *
    generalize setD a b c = SD at *
    simp [e6]
  -- the tests
  have eh := is_hands_spec 58 (st := V5) L
  replace eh : callN Tbl 59 n_law_is_hands [dTT L] V5 = .ok (.bl true) V5 := eh
  have inT : ∀ (W : Sto) (r : List Int), inB W (dT r) (dTT L) = some (decide (r ∈ L)) := fun W r => (embT.inT (by decide) r (by simp [dT]) W L).trans (congrArg some (decide_eq_decide.mpr Iff.rfl))
  have nh : ninB V5 (dT hd) (dTT L) = some false := by unfold ninB; rw [inT, decide_eq_true hm]; rfl
  obtain ⟨V6, hV6⟩ : ∃ W : Sto, W = V5 ++ [.lst (L.map dT)] := ⟨_, rfl⟩
  obtain ⟨V7, hV7⟩ : ∃ W : Sto, W = V6 ++ [.lst (L.map dT)] := ⟨_, rfl⟩
  have l6 : lstAt V7 V5.length = some (L.map dT) := by rw [hV7, lstAt_app (by rw [hV6]; simp), hV6]; exact lstAt_app_len _
  have l7 : lstAt V7 V6.length = some (L.map dT) := by rw [hV7]; exact lstAt_app_len _
  have ne6 : neB V7 (.ref V5.length) (.ref V6.length) = some false := by unfold neB; rw [eqB_lists l6 l7]; simp
  have ss := setSort_eq (ds := L.map dT) (rows := L) ⟨IL.asc, fun d => by
    constructor
    · intro h
      obtain ⟨m, hm, rfl⟩ := List.mem_map.mp h
      exact ⟨m, hm, rfl⟩
    · rintro ⟨m, hm, rfl⟩
      exact List.mem_map.mpr ⟨m, hm, rfl⟩, by rw [List.length_map]; omega, a, a1, fun r hr => ⟨(IL.hand r hr).1, fun x hx => ((IL.hand r hr).2.2 x hx).1⟩⟩
  replace ss : setSortO (L.map dT) = some (L.map dT) := ss
  have zl : (L.map dT).length ≤ sizeLine := sz (by rw [List.length_map]; omega)
  have zl' : L.length ≤ sizeLine := sz (by omega)
  have q6 : ko6 (callN Tbl 59) [some N, x1, some (setD a b c), x3, some (.int n), some (.int P), some (.int (i : Nat)), some (.ref V.length), some (dT hd), some (dT od), some (dT rs), some (dTT L), none] V5 = .nx [some N, x1, some (setD a b c), x3, some (.int n), some (.int P), some (.int (i : Nat)), some (.ref V.length), some (dT hd), some (dT od), some (dT rs), some (dTT L), none] V7 := by
    have e67 : V5 ++ [Cell.lst (L.map dT), .lst (L.map dT)] = V7 := by rw [hV7, hV6]; simp
    have ul : V6.length = V5.length + 1 := by rw [hV6]; simp
    rw [ul] at ne6
    clear q1 q2 q3 q4 q5 hV1 hV2 hV4 hV6 hV7 e3 e5 e6 inT l6 l7
    unfold ko6
    generalize setD a b c = SD at *
    generalize dT od = OD at *
    generalize dT rs = RD at *
    generalize dT hd = HD at *
    unfold dTT tupF at *
    generalize L.map dT = LM at *
    simp [eh, nh, zl, newL, e67, ss, ne6]
  have lc := lcGo_of (src := []) (g := gN 12) (c := (bOr (bCmp neB (eU1 lenR (eV 12)) (eB2 ixR (eV 2) (eC (.int 0)))) (bCmp neB (eCall 87 (lCons (eV 12) (lCons (eB2 ixR (eV 2) (eC (.int 2))) (lCons (eV 5) lNil)))) (eV 10)))) (e := eV 12) (C := callN Tbl 59) (env := [some N, x1, some (setD a b c), x3, some (.int n), some (.int P), some (.int (i : Nat)), some (.ref V.length), some (dT hd), some (dT od), some (dT rs), some (dTT L), none]) (st := V7) dT (fun _ => false) dT rfl L [] (fun r hr => ⟨_, rfl, by
    have hr' := IL.hand r hr
    have er := rsp V7 r hr'
    have e : restL r P c = rs := by
      rw [hL] at hr
      rw [hP]
      exact of_decide_eq_true (List.mem_filter.mp hr).2
    rw [e] at er
    have ne1 : neB V7 (.int (a : Nat)) (.int (a : Nat)) = some false := by unfold neB; rw [eqB_int]; simp
    have ne2 : neB V7 (dT rs) (dT rs) = some false := (embT.neB (by decide) V7 rs rs).trans (by simp)
    have zr : (r.map D.int).length ≤ sizeLine := sz (by rw [List.length_map, hr'.1]; omega)
    have rl : (r.map D.int).length = a := by rw [List.length_map, hr'.1]
    clear q1 q2 q3 q4 q5 q6 e3 e5 e6
    unfold setD
    generalize dTT L = LD at *
    generalize dT od = OD at *
    generalize dT hd = HD at *
    generalize dT rs = RD at *
    unfold dT tupF at *
    generalize r.map D.int = RM at *
    simp [er, zr, rl, ne1, ne2], fun z => by cases z⟩)
  rw [List.nil_append, List.filter_eq_nil_iff.mpr (fun _ _ => by simp)] at lc
  have q7 : ko7 (callN Tbl 59) [some N, x1, some (setD a b c), x3, some (.int n), some (.int P), some (.int (i : Nat)), some (.ref V.length), some (dT hd), some (dT od), some (dT rs), some (dTT L), none] V7 = .nx [some N, x1, some (setD a b c), x3, some (.int n), some (.int P), some (.int (i : Nat)), some (.ref V.length), some (dT hd), some (dT od), some (dT rs), some (dTT L), none] V7 := by
    clear q1 q2 q3 q4 q5 q6 hV1 hV2 hV4 hV6 hV7 e3 e5 e6 inT l6 l7
    unfold ko7
    generalize (bOr (bCmp neB (eU1 lenR (eV 12)) (eB2 ixR (eV 2) (eC (.int 0)))) (bCmp neB (eCall 87 (lCons (eV 12) (lCons (eB2 ixR (eV 2) (eC (.int 2))) (lCons (eV 5) lNil)))) (eV 10))) = CC at *
    generalize setD a b c = SD at *
    generalize dT od = OD at *
    generalize dT rs = RD at *
    generalize dT hd = HD at *
    unfold dTT tupF at *
    generalize L.map dT = LM at *
    simp [zl, lc]
  have mo : (od ∈ L) ↔ restL od P c = rs := by
    rw [hL, hP]
    unfold plL
    rw [List.mem_filter, decide_eq_true_iff]
    exact ⟨fun q => q.2, fun q => ⟨hand_comb ho, q⟩⟩
  have eo := rsp V7 od ho
  have q8 : ko8 (callN Tbl 59) [some N, x1, some (setD a b c), x3, some (.int n), some (.int P), some (.int (i : Nat)), some (.ref V.length), some (dT hd), some (dT od), some (dT rs), some (dTT L), none] V7 = .nx [some N, x1, some (setD a b c), x3, some (.int n), some (.int P), some (.int (i : Nat)), some (.ref V.length), some (dT hd), some (dT od), some (dT rs), some (dTT L), none] V7 := by
    have io := inT V7 od
    have eq8 : eqB V7 (dT (restL od P c)) (dT rs) = some (decide (od ∈ L)) := (embT.eqB (by decide) V7 _ _).trans (congrArg some (decide_eq_decide.mpr mo.symm))
    have ns8 : ∀ x : Bool, neB V7 (.bl x) (.bl x) = some false := fun x => neB_same_bl _ x
    clear q1 q2 q3 q4 q5 q6 q7 hV1 hV2 hV4 hV6 hV7 e3 e5 e6 inT l6 l7 lc mo
    unfold ko8 setD
    generalize dT (restL od P c) = RO at *
    generalize decide (od ∈ L) = bo at *
    generalize dT od = OD at *
    generalize dT rs = RD at *
    generalize dT hd = HD at *
    generalize dTT L = LD at *
    simp [io, eo, eq8, ns8, cB]
  have U : usefB a c L = true := (useful_iff (a := a) (c := c) IL).mpr fun x hx y hy ne => by
    have rx : restL x P c = rs := by rw [hL] at hx; rw [hP]; exact of_decide_eq_true (List.mem_filter.mp hx).2
    have ry : restL y P c = rs := by rw [hL] at hy; rw [hP]; exact of_decide_eq_true (List.mem_filter.mp hy).2
    exact rest_apart S (IL.hand x hx) (IL.hand y hy) (by rw [← hP, rx, ry]) ne
  have u1 := law_useful_spec 57 (st := V7) S IL
  rw [U] at u1
  replace u1 : callN Tbl 59 n_law_useful [setD a b c, dTT L] V7 = .ok (.bl true) V7 := u1
  have u2 := useful_spec 51 (st := V7) S IL
  rw [show ((pairsL L).all fun p => !blurB a c p) = true from U] at u2
  replace u2 : callN Tbl 59 n_is_useful [setD a b c, dTT L] V7 = .ok (.bl true) V7 := u2
  have q9 : ko9 (callN Tbl 59) [some N, x1, some (setD a b c), x3, some (.int n), some (.int P), some (.int (i : Nat)), some (.ref V.length), some (dT hd), some (dT od), some (dT rs), some (dTT L), none] V7 = .nx [some N, x1, some (setD a b c), x3, some (.int n), some (.int P), some (.int (i : Nat)), some (.ref V.length), some (dT hd), some (dT od), some (dT rs), some (dTT L), none] V7 := by
    clear q1 q2 q3 q4 q5 q6 q7 q8 hV1 hV2 hV4 hV6 hV7 e3 e5 e6 inT l6 l7 lc mo
    unfold ko9
    generalize setD a b c = SD at *
    generalize dT od = OD at *
    generalize dT rs = RD at *
    generalize dT hd = HD at *
    generalize dTT L = LD at *
    simp [u1, u2]
  have Kf : Keep V V7 := by
    have k3 : Keep V V3 := KeepS.mono K3 K1.1 K1
    have k5 : Keep V V5 := KeepS.mono K5 k3.1 k3
    have k6 : Keep V V6 := KeepS.mono (hV6 ▸ KeepS.app V5.length V5 _) k5.1 k5
    exact KeepS.mono (hV7 ▸ KeepS.app V6.length V6 _) k6.1 k6
  refine ⟨V7, some (.ref V.length), some (dT hd), some (dT od), some (dT rs), some (dTT L), ?_, Kf⟩
  rw [← hN, ← hP]
  unfold koB
  rw [seq_nx q1, seq_nx q2, seq_nx q3, seq_nx q4, seq_nx q5, seq_nx q6, seq_nx q7, seq_nx q8, seq_nx q9]
  rfl

noncomputable abbrev kn4 : SS := (sIf (bCmp eqB (eB2 modR (eB2 ixR (eV 1) (eC (.int 3))) (eC (.int 4))) (eC (.int 1))) (sSeq (sSet 2 (eCall 145 (lCons (eSl (eV 1) (oSome (eC (.int 4))) oNone) lNil))) (sSeq (sSet 3 (eA min2 (lCons (eC (.int 2)) (lCons (eV 3) lNil)))) sNx)) sNx)
noncomputable abbrev knT : SS := (sSeq (sSet 4 (eA sumQ (lSeq (eV 2)))) (sSeq (sSet 5 (eCall 88 (lCons (eV 4) lNil))) (sSeq (sFor (siR1 (lCons (eV 3) lNil)) (gN 6) koB) (sSeq (sRet (eC (.bl true))) sNx))))
theorem knT_ok {V : Sto} {a b c n m : Nat} (S : Stg a b c n) (Q : FewQ a c n) (hm : m ≤ 100) {ns : List Int} (h63 : ns.length ≤ 63) {x1 : Option D} : ∃ V', knT (callN Tbl 59) [some (.scr (ns.map D.int)), x1, some (setD a b c), some (.int (m : Nat)), none, none, none, none, none, none, none, none, none] V = .ret (.bl true) V' := by
  have sum := S.sum; have le := S.le; have a1 := S.a1; have b1 := S.b1; have c1 := S.c1
  have e5 : callN Tbl 59 n_law_prime [.int n] V = .ok (.int (primeN n)) V := law_prime_spec 58 (by omega) le
  obtain ⟨env2, st2, r1, x7, x8, x9, x10, x11, y, r2, _⟩ := forGo_inv (src := []) (g := gN 6) (C := callN Tbl 59) (b := koB)
    (fun i env st' => ∃ x7 x8 x9 x10 x11 y, env = [some (.scr (ns.map D.int)), x1, some (setD a b c), some (.int (m : Nat)), some (.int n), some (.int (primeN n)), y, x7, x8, x9, x10, x11, none] ∧ Keep V st') ((List.range m).map fun (i : Nat) => D.int (i : Int)) 0
    (fun i d hd env st' ⟨x7, x8, x9, x10, x11, y, e, K⟩ => by
      obtain ⟨hi, rfl⟩ := rngItem hd
      subst e
      obtain ⟨V', w7, w8, w9, w10, w11, q, K'⟩ := ko_turn (V := st') S Q h63 i (x1 := x1) (x3 := some (.int (m : Nat))) (x7 := x7) (x8 := x8) (x9 := x9) (x10 := x10) (x11 := x11)
      exact ⟨rfl, _, rfl, _, V', q, w7, w8, w9, w10, w11, _, rfl, KeepS.mono K' K.1 K⟩) (fun _ _ _ => rfl) [some (.scr (ns.map D.int)), x1, some (setD a b c), some (.int (m : Nat)), some (.int n), some (.int (primeN n)), none, none, none, none, none, none, none] V ⟨_, _, _, _, _, _, rfl, KeepS.refl _ _⟩
  subst r2
  refine ⟨st2, ?_⟩
  have bm : rngI m = true := rngI_of (by omega) (by omega)
  have sm := S.sm V
  unfold knT
  generalize koB = B at *
  generalize primeN n = P at *
  generalize ns.map D.int = NM at *
  unfold setD at *
  simp [sm, e5, bm, r1]
theorem k39_true (ns : List Int) (h63 : ns.length ≤ 63) : ∃ st, callN Tbl 60 n_law_v23 [.scr (ns.map D.int)] [] = .ok (.bl true) st := by
  rw [run_eq (Tbl := Tbl) (f := n_law_v23) (body := (sSeq (sSet 1 (eCall 22 (lCons (eCall 21 (lCons (eV 0) (lCons (eC (.int 0)) lNil))) (lCons (eC (.int 8)) lNil)))) (sSeq (sSet 2 (eCall 23 (lCons (eSl (eV 1) oNone (oSome (eC (.int 3)))) (lCons (eC (.int 9)) lNil)))) (sSeq (sSet 3 (eA max2 (lCons (eC (.int 1)) (lCons (eA min2 (lCons (eC (.int 8)) (lCons (eB2 subR (eU1 lenR (eV 0)) (eC (.int 1))) lNil))) lNil)))) (sSeq kn4 knT))))) rfl rfl]
  have zn : ns.length ≤ sizeLine := sz (by omega)
  obtain ⟨c0, e1⟩ := cell_at0 58 (st := []) ns h63
  replace e1 : callN Tbl 59 n_law_cell_at [.scr (ns.map D.int), .int 0] [] = .ok (.int c0) [] := e1
  obtain ⟨xs, e2, hx⟩ := draws_spec 58 (st := []) c0 8 (by decide)
  obtain ⟨u0, u1, u2, u3, u4, u5, u6, u7, rfl⟩ : ∃ a b c d e f g h, xs = [a, b, c, d, e, f, g, h] := by
    have := hx.1
    match xs, this with
    | [a, b, c, d, e, f, g, h], _ => exact ⟨a, b, c, d, e, f, g, h, rfl⟩
  replace e2 : callN Tbl 59 n_law_draws [.int c0, .int 8] [] = .ok (.ref 0) [.lst [.int u0, .int u1, .int u2, .int u3, .int u4, .int u5, .int u6, .int u7]] := e2
  have cut : cutD [D.int u0, .int u1, .int u2, .int u3, .int u4, .int u5, .int u6, .int u7] none (some 3) = [.int u0, .int u1, .int u2] := cut_take _ 3
  have cut4 : cutD [D.int u0, .int u1, .int u2, .int u3, .int u4, .int u5, .int u6, .int u7] (some 4) none = [.int u4, .int u5, .int u6, .int u7] := cut_drop _ 4
  obtain ⟨V, hV⟩ : ∃ V : Sto, V = [.lst [.int u0, .int u1, .int u2, .int u3, .int u4, .int u5, .int u6, .int u7], .lst [.int u0, .int u1, .int u2]] := ⟨_, rfl⟩
  have lv1 : lstAt V 1 = some [.int u0, .int u1, .int u2] := by rw [hV]; rfl
  have lv0 : lstAt V 0 = some [.int u0, .int u1, .int u2, .int u3, .int u4, .int u5, .int u6, .int u7] := by rw [hV]; rfl
  obtain ⟨a, b, c, n, e3, S, n9⟩ := law_setting1_spec 58 (st := V) (d := .ref 1) (x := u0) (y := u1) (z := u2) (rest := []) (.ref _ _ lv1) 9 (by decide) (by decide)
  replace e3 : callN Tbl 59 n_law_setting [.ref 1, .int 9] V = .ok (setD a b c) V := e3
  obtain ⟨m, hm, m8, m1⟩ : ∃ m : Nat, max 1 (min 8 ((ns.length : Int) - 1)) = m ∧ m ≤ 8 ∧ 1 ≤ m := by
    refine ⟨(max 1 (min 8 ((ns.length : Int) - 1))).toNat, ?_, ?_, ?_⟩ <;> omega
  obtain ⟨V2, hV2⟩ : ∃ W : Sto, W = V ++ [.lst [.int u4, .int u5, .int u6, .int u7]] := ⟨_, rfl⟩
  have l2 : lstAt V2 V.length = some [.int u4, .int u5, .int u6, .int u7] := by rw [hV2]; exact lstAt_app_len _
  obtain ⟨a', b', c', n', e4, S', Q'⟩ := law_great_spec 58 (st := V2) (.ref _ _ l2)
  replace e4 : callN Tbl 59 n_law_great [.ref V.length] V2 = .ok (setD a' b' c') V2 := e4
  have q4 : ∃ W a b c n m', kn4 (callN Tbl 59) [some (.scr (ns.map D.int)), some (.ref 0), some (setD a b c), some (.int (m : Nat)), none, none, none, none, none, none, none, none, none] V = kn4 (callN Tbl 59) [some (.scr (ns.map D.int)), some (.ref 0), some (setD a b c), some (.int (m : Nat)), none, none, none, none, none, none, none, none, none] V → True := ⟨V, a, b, c, n, m, fun _ => trivial⟩
  clear q4
  have q4 : ∃ W a2 b2 c2 n2, ∃ m2 : Nat, kn4 (callN Tbl 59) [some (.scr (ns.map D.int)), some (.ref 0), some (setD a b c), some (.int (m : Nat)), none, none, none, none, none, none, none, none, none] V = .nx [some (.scr (ns.map D.int)), some (.ref 0), some (setD a2 b2 c2), some (.int (m2 : Nat)), none, none, none, none, none, none, none, none, none] W ∧ Stg a2 b2 c2 n2 ∧ FewQ a2 c2 n2 ∧ m2 ≤ 100 := by
    by_cases q : u3 % 4 = 1
    · refine ⟨V2, a', b', c', n', min 2 m, ?_, S', Q', by omega⟩
      have h2 := hV2.symm
      have em : min (2 : Int) (m : Nat) = ((min 2 m : Nat) : Int) := by omega
      clear hV hV2
      unfold kn4
      generalize ns.map D.int = NM at *
      generalize setD a b c = SD at *
      generalize setD a' b' c' = SD' at *
      simp [lv0, q, cut4, newL, h2, e4, em]
    · refine ⟨V, a, b, c, n, m, ?_, S, .inl (by omega), by omega⟩
      clear hV hV2
      unfold kn4
      generalize ns.map D.int = NM at *
      generalize setD a b c = SD at *
      simp [lv0, q]
  obtain ⟨W, a2, b2, c2, n2, m2, q4, S2, Q2, m100⟩ := q4
  obtain ⟨V', q5⟩ := knT_ok (V := W) S2 Q2 m100 h63 (x1 := some (.ref 0))
  have hVs := hV.symm
  clear hV hV2 e4 l2
  generalize knT = T at *
  generalize kn4 = F at *
  have hl : (ns.map D.int).length = ns.length := List.length_map _
  generalize ns.map D.int = NM at *
  have V0 : ∀ G : Sto, lstAt (Cell.lst [.int u0, .int u1, .int u2, .int u3, .int u4, .int u5, .int u6, .int u7] :: G) 0 = some [.int u0, .int u1, .int u2, .int u3, .int u4, .int u5, .int u6, .int u7] := fun G => rfl
  simp [e1, e2, V0, cut, newL, hVs, e3, hl, zn, hm, q4, q5]
  exact gc_bl _ _ _

/-- groups[k] = (what was there, and one more): a new list, laid ahead -/
theorem GAt.put {st : Sto} {i r : Nat} {gs : List (D × List D)} {rs : List Nat} (h : GAt st i gs rs) {k d : D} (hk : (keyT k).isSome = true) (hz : gs.length < 10000) (hr : i < r) (hn : r ∉ rs) {old : List D} (ho : ∀ g, g ∈ gs → g.1 = k → g.2 = old) (hno : (∀ g, g ∈ gs → g.1 ≠ k) → old = []) (hl : lstAt st r = some (old ++ [d])) : ∃ st2 rs', putN st (.ref i) k (.ref r) = some st2 ∧ GAt st2 i (addG gs k d) rs' ∧ KeepS i st st2 ∧ (∀ q, q ∈ rs' → q ∈ rs ∨ q = r) := by
  have hi : i < st.length := (List.getElem?_eq_some_iff.mp h.dct).1
  have d1 : dcnAt st (.ref i) = some (i, gkv gs rs) := dcnAt_ref h.dct
  have z : (gkv gs rs).length < sizeLine := by
    rw [gkv_len gs rs h.len]
    have := small_size (n := 10000) (by decide)
    omega
  unfold putN addG
  rw [d1]
  simp only [hk, z, and_self, if_true]
  rcases gkv_get gs rs h.len k with ⟨h1, h2⟩ | ⟨j, g, r0, h1, h2, h3, h4, h5⟩
  · rw [h2]
    simp only [Bool.false_eq_true, if_false]
    have nk : ∀ g, g ∈ gs → g.1 ≠ k := fun g hg e => by
      have : (gs.any fun g => decide (g.1 = k)) = true := List.any_eq_true.mpr ⟨g, hg, by simp [e]⟩
      rw [h2] at this; cases this
    have o0 := hno nk
    rw [o0, List.nil_append] at hl
    have dp : dPut (gkv gs rs) k (.ref r) = gkv (gs ++ [(k, [d])]) (rs ++ [r]) := by
      unfold dPut
      rw [h1]
      simp only [Option.isSome_none, Bool.false_eq_true, if_false]
      unfold gkv
      rw [List.zipWith_append h.len.symm]; rfl
    refine ⟨_, rs ++ [r], rfl, ⟨by simp [h.len], List.nodup_append.mpr ⟨h.nd, by simp, fun a ha b hb e => hn (by rw [List.mem_singleton] at hb; rw [← hb, ← e]; exact ha)⟩, ?_, ?_, ?_⟩, KeepS.set _ _ _, fun q hq => by simpa using hq⟩
    · rw [List.map_append]
      refine List.nodup_append.mpr ⟨h.kn, by simp, fun a ha b hb e => ?_⟩
      rw [List.map_cons, List.map_nil, List.mem_singleton] at hb
      obtain ⟨g, hg, rfl⟩ := List.mem_map.mp ha
      exact nk g hg (e.trans hb)
    · rw [List.getElem?_set_self hi, dp]
    · intro j g q hg hq
      by_cases hj : j < gs.length
      · rw [List.getElem?_append_left hj] at hg
        rw [List.getElem?_append_left (by rw [h.len]; exact hj)] at hq
        obtain ⟨q1, q2⟩ := h.lst j g q hg hq
        exact ⟨q1, by rw [lstAt_set_ne (by omega)]; exact q2⟩
      · have hl' := (List.getElem?_eq_some_iff.mp hg).1
        simp at hl'
        have ej : j = gs.length := by omega
        subst ej
        rw [List.getElem?_append_right (Nat.le_refl _)] at hg
        rw [← h.len, List.getElem?_append_right (Nat.le_refl _)] at hq
        simp at hg hq
        subst hg; subst hq
        exact ⟨hr, by rw [lstAt_set_ne (by omega)]; exact hl⟩
  · rw [h5]
    simp only [if_true]
    have og := ho g (List.mem_of_getElem? h1) h3
    have jl := (List.getElem?_eq_some_iff.mp h1).1
    have dp : dPut (gkv gs rs) k (.ref r) = gkv (gs.map fun g => if g.1 = k then (g.1, g.2 ++ [d]) else g) (rs.set j r) := by
      unfold dPut
      rw [h4]
      simp only [Option.isSome_some, if_true]
      have aux : ∀ (gs : List (D × List D)) (rs : List Nat) (j : Nat), rs.length = gs.length → (gs.map (·.1)).Nodup → (gs.map (·.1))[j]? = some k → (gkv gs rs).map (fun p => if p.1 = k then (p.1, D.ref r) else p) = gkv (gs.map fun g => if g.1 = k then (g.1, g.2 ++ [d]) else g) (rs.set j r) := fun gs => by
        induction gs with
        | nil => intro rs j _ _ hj; simp at hj
        | cons g gs ih =>
          intro rs j hl nd hj
          cases rs with
          | nil => simp at hl
          | cons q rs =>
            rw [List.map_cons] at nd
            obtain ⟨n1, n2⟩ := List.nodup_cons.mp nd
            unfold gkv at ih ⊢
            cases j with
            | zero =>
              have ek : g.1 = k := by simpa using hj
              have rest : (List.zipWith (fun g r => (g.1, D.ref r)) gs rs).map (fun p => if p.1 = k then (p.1, D.ref r) else p) = List.zipWith (fun g r => (g.1, D.ref r)) (gs.map fun g => if g.1 = k then (g.1, g.2 ++ [d]) else g) rs := by
                have nk : ∀ g', g' ∈ gs → g'.1 ≠ k := fun g' hg' e => n1 (by rw [ek, ← e]; exact List.mem_map.mpr ⟨g', hg', rfl⟩)
                clear ih hj n1 n2 nd hl
                induction gs generalizing rs with
                | nil => rfl
                | cons g' gs ih2 =>
                  cases rs with
                  | nil => rfl
                  | cons q' rs =>
                    have k1 := nk g' (by simp)
                    simp only [List.zipWith_cons_cons, List.map_cons, if_neg k1]
                    rw [ih2 rs fun g2 h2 => nk g2 (by simp [h2])]
              simp only [List.zipWith_cons_cons, List.map_cons, if_pos ek, List.set_cons_zero, rest]
            | succ j =>
              have ek : g.1 ≠ k := fun e => n1 (by rw [e]; exact List.mem_of_getElem? (by simpa using hj))
              simp only [List.zipWith_cons_cons, List.map_cons, if_neg ek, List.set_cons_succ]
              rw [ih rs j (by simpa using hl) n2 (by simpa using hj)]
      exact aux gs rs j h.len h.kn (by rw [List.getElem?_map, h1]; simp [h3])
    have rj : j < rs.length := by rw [h.len]; exact jl
    refine ⟨_, rs.set j r, rfl, ⟨by simp [h.len], ?_, ?_, ?_, ?_⟩, KeepS.set _ _ _, fun q hq => List.mem_or_eq_of_mem_set hq⟩
    · rw [List.set_eq_take_append_cons_drop, if_pos rj]
      have e : rs.take j ++ rs.drop (j + 1) = rs.eraseIdx j := (List.eraseIdx_eq_take_drop_succ _ _).symm
      refine (List.perm_middle).nodup_iff.mpr (List.nodup_cons.mpr ⟨fun m => ?_, ?_⟩)
      · rw [e] at m; exact hn (List.mem_of_mem_eraseIdx m)
      · rw [e]; exact h.nd.sublist (List.eraseIdx_sublist _ _)
    · have : (gs.map fun g => if g.1 = k then (g.1, g.2 ++ [d]) else g).map (·.1) = gs.map (·.1) := by
        rw [List.map_map]
        refine List.map_congr_left fun g _ => ?_
        by_cases e : g.1 = k <;> simp [e]
      rw [this]; exact h.kn
    · rw [List.getElem?_set_self hi, dp]
    · intro j' g' q' hg' hq'
      rw [List.getElem?_map] at hg'
      obtain ⟨g0, hg0, rfl⟩ := Option.map_eq_some_iff.mp hg'
      by_cases ej : j' = j
      · subst ej
        rw [h1] at hg0; cases hg0
        rw [List.getElem?_set_self rj] at hq'; cases hq'
        rw [if_pos h3, og]
        exact ⟨hr, by rw [lstAt_set_ne (by omega)]; exact hl⟩
      · rw [List.getElem?_set_ne (Ne.symm ej)] at hq'
        obtain ⟨p1, p2⟩ := h.lst j' g0 q' hg0 hq'
        have e : g0.1 ≠ k := fun e => ej (by
          have a1 : (gs.map (·.1))[j']? = some k := by rw [List.getElem?_map, hg0]; simp [e]
          have a2 : (gs.map (·.1))[j]? = some k := by rw [List.getElem?_map, h1]; simp [h3]
          exact (List.getElem?_inj (List.getElem?_eq_some_iff.mp a1).1 h.kn).mp (a1.trans a2.symm))
        rw [if_neg e]
        exact ⟨p1, by rw [lstAt_set_ne (by omega)]; exact p2⟩
def keyR (p : Int) (c : Nat) : D → D
  | .tup ds => match intsOf ds with | some r => dT (restL r p c) | none => .non
  | _ => .non
def rowD : D → List Int
  | .tup ds => (intsOf ds).getD []
  | _ => []
def gsOf (n a c : Nat) : List (D × List D) := grps (keyR (primeN n) c) ((combs a (iota n)).map dT)
/-- the power lots -/
def MsOf (n a c : Nat) : List Deal := (gsOf n a c).map fun g => g.2.map rowD
structure MsFacts (n a c : Nat) : Prop where
  tups : (gsOf n a c).map (fun g => D.tup g.2) = (MsOf n a c).map dTT
  lens : (gsOf n a c).map (fun g => D.int (g.2.length : Nat)) = ((MsOf n a c).map fun M => ((M.length : Nat) : Int)).map D.int
  perm : (MsOf n a c).flatten.Perm (combs a (iota n))
  cls : ∀ M, M ∈ MsOf n a c → M ≠ [] ∧ M.Sublist (combs a (iota n)) ∧ ∃ k, ∀ h, h ∈ M ↔ h ∈ combs a (iota n) ∧ restL h (primeN n) c = k
  nd : (MsOf n a c).Nodup
theorem MsFacts.len {n a c : Nat} (F : MsFacts n a c) : (MsOf n a c).length ≤ (combs a (iota n)).length ∧ ∀ M, M ∈ MsOf n a c → M.length ≤ (combs a (iota n)).length := by
  refine ⟨?_, fun M hM => (F.cls M hM).2.1.length_le⟩
  have : ∀ L : List Deal, (∀ M, M ∈ L → M ≠ []) → L.length ≤ L.flatten.length := fun L => by
    induction L with
    | nil => intro _; simp
    | cons M L ih =>
      intro h
      have h1 := List.length_pos_iff.mpr (h M (by simp))
      have h2 := ih fun M' hM' => h M' (by simp [hM'])
      rw [List.flatten_cons, List.length_append, List.length_cons]
      omega
  rw [← F.perm.length_eq]
  exact this _ fun M hM => (F.cls M hM).1
theorem tyOf_appT {st : Sto} {d : D} {t : Ty} (h : tyOf st d = some t) (g : Sto) : tyOf (st ++ g) d = some t := by
  cases d <;> first | exact h | skip
  unfold tyOf at h ⊢
  simp only at h ⊢
  rename_i i
  have : i < st.length := by
    apply Classical.byContradiction
    intro q
    rw [List.getElem?_eq_none (by omega)] at h
    cases h
  rw [List.getElem?_append_left this]
  exact h
theorem tyL_appT {W : Sto} {x : D} (h : TyL W x) (g : Sto) : TyL (W ++ g) x := by
  obtain ⟨⟨t, ht⟩, h2⟩ := h
  exact ⟨⟨t, tyOf_appT ht _⟩, fun es q => ⟨(h2 es q).1, fun y hy => tyE_app ((h2 es q).2 y hy) _⟩⟩
def csA : Nat → Nat
  | 0 => 2 | 1 => 3 | _ => 2
def csB : Nat → Nat
  | 0 => 2 | 1 => 2 | _ => 5
def csC : Nat → Nat
  | 0 => 2 | 1 => 1 | _ => 6
def csN : Nat → Nat
  | 0 => 6 | 1 => 6 | _ => 13
def lotC : Nat → Deal
  | 0 => [[0, 1], [0, 2], [0, 3]] | 1 => [[0, 1, 2], [0, 1, 3], [0, 1, 4]] | _ => [[0, 1], [0, 2], [0, 3], [0, 4], [0, 5]]
def outC : Nat → List Int
  | 0 => [4, 5] | 1 => [3, 4, 5] | _ => [11, 12]
def rstC (s : Nat) (h : List Int) : List Int := (iota (csN s)).filter fun c => !decide (c ∈ h)
def dealC (s : Nat) (h : List Int) : Deal := [h, (rstC s h).take (csB s), (rstC s h).drop (csB s)]
def oddC (s : Nat) (h : List Int) : Deal := [h, h, (rstC s h).drop (csB s)]
def extC (s j : Nat) (h : List Int) : Sy := match j with
  | 0 => .has false 0 (h.getD (csA s - 1) 0)
  | 1 => .own 0 0
  | _ => .has true 1 (h.getD 0 0)
def talkC (h : List Int) : List Sy := [.has true 0 (h.getD 0 0), .own 3 0]
/-- what a case is, and what is wrong with it -/
structure CaseP (V : Sto) (bs : List Bool) (s : Nat) (h : List Int) (d0 d1 d2 d3 : D) : Prop where
  s3 : s < 3
  s4 : bs[4]? = some (decide (s = 2))
  h5f : bs[5]? = some false → h ∈ lotC s
  h5t : bs[5]? = some true → h = outC s
  h5 : h ∈ outC s :: lotC s
  d0f : bs[0]? = some false → d0 = setD (csA s) (csB s) (csC s)
  d0t : bs[0]? = some true → tyOk V d0 ∧ isSet d0 = false
  d1f : bs[1]? = some false → d1 = dTT (lotC s)
  d1t : bs[1]? = some true → TyL V d1 ∧ lotB (csA s) (csN s) d1 = false
  d2 : ∃ items, d2 = .tup items ∧ items.length ≤ 6 ∧ (∀ x, x ∈ items → (∃ y, SyOk (csN s) y ∧ x = syD y) ∨ ∃ j, x = oddSay j) ∧ (bs[2]? = some true → ∃ j, oddSay j ∈ items) ∧ (bs[2]? = some false → bs[6]? = some false → items = (talkC h).map syD) ∧ (bs[2]? = some false → bs[6]? = some true → ∃ j, j < 3 ∧ items = (talkC h ++ [extC s j h]).map syD)
  d3f : bs[3]? = some false → d3 = dTT (dealC s h)
  d3t : bs[3]? = some true → d3 = dTT (oddC s h)
theorem CaseP.app {V : Sto} {bs : List Bool} {s : Nat} {h : List Int} {d0 d1 d2 d3 : D} (P : CaseP V bs s h d0 d1 d2 d3) (G : Sto) : CaseP (V ++ G) bs s h d0 d1 d2 d3 :=
  ⟨P.s3, P.s4, P.h5f, P.h5t, P.h5, P.d0f, fun q => ⟨tyOk_app (P.d0t q).1 G, (P.d0t q).2⟩, P.d1f, fun q => ⟨tyL_appT (P.d1t q).1 G, (P.d1t q).2⟩, P.d2, P.d3f, P.d3t⟩
section
variable {α γ δ : Type} [DecidableEq γ] [DecidableEq δ]
end
structure BlkAt (lo : Nat) (st : Sto) (rs : List D) (Bs : List (List Deal)) : Prop where
  len : rs.length = Bs.length
  at' : ∀ (i : Nat) (r : D) (B : List Deal), rs[i]? = some r → Bs[i]? = some B → ∃ j, r = .ref j ∧ lo ≤ j ∧ lstAt st j = some (B.map dTT)
theorem BlkAt.keep {lo : Nat} {st st' : Sto} {rs : List D} {Bs : List (List Deal)} (h : BlkAt lo st rs Bs) (K : ∀ j L, lo ≤ j → lstAt st j = some L → lstAt st' j = some L) : BlkAt lo st' rs Bs := ⟨h.len, fun i r B h1 h2 => by
  obtain ⟨j, e, lj, l⟩ := h.at' i r B h1 h2
  exact ⟨j, e, lj, K j _ lj l⟩⟩
end OH
namespace OH
open PySem PySem.Spec PyProof.Rows L2
def topS (i : Nat) : Stmt := PySem.Challenge.pw_openhands_k39_whole_power_lots_are_usefu.main.body.getD i (.Pass ⟨0, 0, 0, 0⟩)
abbrev s_law_draws : Stmt := topS 32
theorem sc_law_draws : FnScope ["cell", "many", "remain", "found", "k", "seed"] ["cell", "many"] (defScope s_law_draws) := ⟨rfl, rfl, rfl, by decide +kernel, rfl, by decide +kernel, by decide +kernel⟩
theorem ok_law_draws {P : Program} {G : Gx} {mg : Str → Option Value} {base : Heap} {Tbl : Nat → FD} {k : Nat} {fd : FuncData} (F : Fun G.K "_law_draws" "_law_draws" s_law_draws (G.fa 22) fd) (hTbl : Tbl 22 = fd_law_draws) (b_int : mg "int" = none) (b_range : mg "range" = none) : FnOk P G.w G.K mg base (L2.CX P G.w) (k + 1) (G.fa 22) fd ["cell", "many"] (spC G (callN Tbl (k + 1)) 22) :=
  fn_ok (C := callN Tbl k) fd_law_draws F sc_law_draws rfl rfl (fun ds st => by simp only [callN, hTbl]) (fun cdv A outer s H E hr tk po =>
    show DSs G _ _ (callN Tbl k) _ ((sSeq (sSet 2 (eU1 intR (eV 0))) (sSeq (sIf (bCmp ltD (eV 2) (eB2 powR (eC (.int 10)) (eC (.int 18)))) (sSeq (sSet 2 (eC (.int 0))) sNx) sNx) (sSeq (sSet 3 (eNew (lLst lNil))) (sSeq (sFor (siR1 (lCons (eV 1) lNil)) (gN 4) (sSeq (sIf (bCmp gtD (eV 2) (eC (.int 0))) (sSeq (sExp (eM appendR (eV 3) (lCons (eB2 modR (eV 2) (eC (.int 2003))) lNil))) (sSeq (sSet 2 (eB2 divR (eV 2) (eC (.int 2003)))) sNx)) (sSeq (sSet 5 (eB2 addR (eB2 addR (eB2 mulR (eB2 modR (eU1 intR (eV 0)) (eC (.int 1000000007))) (eC (.int 31))) (eB2 mulR (eC (.int 7919)) (eV 4))) (eC (.int 104729)))) (sSeq (sSet 5 (eB2 modR (eU1 intR (eB2 mulR (eV 5) (eB2 addR (eB2 addR (eV 5) (eC (.int 12345))) (eB2 mulR (eC (.int 977)) (eV 4))))) (eC (.int 2147483647)))) (sSeq (sExp (eM appendR (eV 3) (lCons (eB2 modR (eB2 modR (eU1 intR (eB2 mulR (eV 5) (eV 5))) (eC (.int 2147483629))) (eC (.int 2003))) lNil))) sNx)))) sNx)) (sSeq (sRet (eV 3)) sNx)))))) from
    (dss_cons (by exact (ds_set (ps_set (i := 2) sc_law_draws.nd rfl (Or.inl rfl) (de_c1 (pe_callTy call_int1 (by rfl) b_int PyProof.Rows.boot_int (pa_cons (de_var (pv 0)) pa_nil)) br_int)))) (by exact (dss_cons (by exact (ds_if (db_lt rfl hr (de_var (pv 2)) (de_pow de_int de_int)) (dss_cons (by exact (ds_set (ps_set (i := 2) sc_law_draws.nd rfl (Or.inl rfl) de_int))) (by exact dss_nil)) dss_nil)) (by exact (dss_cons (by exact (ds_set (ps_set (i := 3) sc_law_draws.nd rfl (Or.inl rfl) (de_new (dt_lst da_nil))))) (by exact (dss_cons (by exact (ds_for po rfl (di_r1 (pi_range1 (by rfl) b_range (da_cons (de_var (pv 1)) da_nil))) (dg_name (pg_name (i := 4) sc_law_draws.nd rfl (Or.inl rfl))) (dss_cons (by exact (ds_if (db_gt rfl hr (de_var (pv 2)) de_int) (dss_cons (by exact (ds_exp (de_m rfl (pe_bm PySem.F.plainAttrs_list PySem.F.slot_list_append PySem.F.type_list_append mt_append (de_var (pv 3)) (da_cons (de_mod (de_var (pv 2)) de_int) da_nil)) brm_append))) (by exact (dss_cons (by exact (ds_set (ps_set (i := 2) sc_law_draws.nd rfl (Or.inl rfl) (de_div (de_var (pv 2)) de_int)))) (by exact dss_nil)))) (dss_cons (by exact (ds_set (ps_set (i := 5) sc_law_draws.nd rfl (Or.inl rfl) (de_add rfl (de_add rfl (de_mul (de_mod (de_c1 (pe_callTy call_int1 (by rfl) b_int PyProof.Rows.boot_int (pa_cons (de_var (pv 0)) pa_nil)) br_int) de_int) de_int) (de_mul de_int (de_var (pv 4)))) de_int)))) (by exact (dss_cons (by exact (ds_set (ps_set (i := 5) sc_law_draws.nd rfl (Or.inl rfl) (de_mod (de_c1 (pe_callTy call_int1 (by rfl) b_int PyProof.Rows.boot_int (pa_cons (de_mul (de_var (pv 5)) (de_add rfl (de_add rfl (de_var (pv 5)) de_int) (de_mul de_int (de_var (pv 4))))) pa_nil)) br_int) de_int)))) (by exact (dss_cons (by exact (ds_exp (de_m rfl (pe_bm PySem.F.plainAttrs_list PySem.F.slot_list_append PySem.F.type_list_append mt_append (de_var (pv 3)) (da_cons (de_mod (de_mod (de_c1 (pe_callTy call_int1 (by rfl) b_int PyProof.Rows.boot_int (pa_cons (de_mul (de_var (pv 5)) (de_var (pv 5))) pa_nil)) br_int) de_int) de_int) da_nil)) brm_append))) (by exact dss_nil)))))))) (by exact dss_nil)))) (by exact (dss_cons (by exact (ds_ret (de_var (pv 3)))) (by exact dss_nil)))))))))))
abbrev s_law_setting : Stmt := topS 34
theorem sc_law_setting : FnScope ["xs", "most", "a", "b"] ["xs", "most"] (defScope s_law_setting) := ⟨rfl, rfl, rfl, by decide +kernel, rfl, by decide +kernel, by decide +kernel⟩
theorem ok_law_setting {P : Program} {G : Gx} {mg : Str → Option Value} {base : Heap} {Tbl : Nat → FD} {k : Nat} {fd : FuncData} (F : Fun G.K "_law_setting" "_law_setting" s_law_setting (G.fa 23) fd) (hTbl : Tbl 23 = fd_law_setting)  : FnOk P G.w G.K mg base (L2.CX P G.w) (k + 1) (G.fa 23) fd ["xs", "most"] (spC G (callN Tbl (k + 1)) 23) :=
  fn_ok (C := callN Tbl k) fd_law_setting F sc_law_setting rfl rfl (fun ds st => by simp only [callN, hTbl]) (fun cdv A outer s H E hr tk po =>
    show DSs G _ _ (callN Tbl k) _ ((sSeq (sSet 2 (eB2 addR (eC (.int 1)) (eB2 modR (eB2 ixR (eV 0) (eC (.int 0))) (eB2 subR (eV 1) (eC (.int 2)))))) (sSeq (sSet 3 (eB2 addR (eC (.int 1)) (eB2 modR (eB2 ixR (eV 0) (eC (.int 1))) (eB2 subR (eB2 subR (eV 1) (eC (.int 1))) (eV 2))))) (sSeq (sRet (eTup (lCons (eV 2) (lCons (eV 3) (lCons (eB2 addR (eC (.int 1)) (eB2 modR (eB2 ixR (eV 0) (eC (.int 2))) (eB2 subR (eB2 subR (eV 1) (eV 2)) (eV 3)))) lNil))))) sNx)))) from
    (dss_cons (by exact (ds_set (ps_set (i := 2) sc_law_setting.nd rfl (Or.inl rfl) (de_add rfl de_int (de_mod (de_ix rfl (de_var (pv 0)) de_int) (de_sub (de_var (pv 1)) de_int)))))) (by exact (dss_cons (by exact (ds_set (ps_set (i := 3) sc_law_setting.nd rfl (Or.inl rfl) (de_add rfl de_int (de_mod (de_ix rfl (de_var (pv 0)) de_int) (de_sub (de_sub (de_var (pv 1)) de_int) (de_var (pv 2)))))))) (by exact (dss_cons (by exact (ds_ret (de_tup (da_cons (de_var (pv 2)) (da_cons (de_var (pv 3)) (da_cons (de_add rfl de_int (de_mod (de_ix rfl (de_var (pv 0)) de_int) (de_sub (de_sub (de_var (pv 1)) (de_var (pv 2))) (de_var (pv 3))))) da_nil)))))) (by exact dss_nil)))))))
abbrev s_law_prime : Stmt := topS 39
theorem sc_law_prime : FnScope ["total"] ["total"] (defScope s_law_prime) := ⟨rfl, rfl, rfl, by decide +kernel, rfl, by decide +kernel, by decide +kernel⟩
theorem ok_law_prime {P : Program} {G : Gx} {mg : Str → Option Value} {base : Heap} {Tbl : Nat → FD} {k : Nat} {fd : FuncData} (F : Fun G.K "_law_prime" "_law_prime" s_law_prime (G.fa 88) fd) (hTbl : Tbl 88 = fd_law_prime)  : FnOk P G.w G.K mg base (L2.CX P G.w) (k + 1) (G.fa 88) fd ["total"] (spC G (callN Tbl (k + 1)) 88) :=
  fn_ok (C := callN Tbl k) fd_law_prime F sc_law_prime rfl rfl (fun ds st => by simp only [callN, hTbl]) (fun cdv A outer s H E hr tk po =>
    show DSs G _ _ (callN Tbl k) _ ((sSeq (sRet (eB2 ixR (eNew (lLst (lCons (eC (.int 3)) (lCons (eC (.int 5)) (lCons (eC (.int 5)) (lCons (eC (.int 7)) (lCons (eC (.int 7)) (lCons (eC (.int 11)) (lCons (eC (.int 11)) (lCons (eC (.int 11)) (lCons (eC (.int 11)) (lCons (eC (.int 13)) (lCons (eC (.int 13)) lNil))))))))))))) (eB2 subR (eV 0) (eC (.int 3))))) sNx)) from
    (dss_cons (by exact (ds_ret (de_ix rfl (de_new (dt_lst (da_cons de_int (da_cons de_int (da_cons de_int (da_cons de_int (da_cons de_int (da_cons de_int (da_cons de_int (da_cons de_int (da_cons de_int (da_cons de_int (da_cons de_int da_nil))))))))))))) (de_sub (de_var (pv 0)) de_int)))) (by exact dss_nil)))
abbrev s_law_cell_at : Stmt := topS 31
theorem sc_law_cell_at : FnScope ["script", "k"] ["script", "k"] (defScope s_law_cell_at) := ⟨rfl, rfl, rfl, by decide +kernel, rfl, by decide +kernel, by decide +kernel⟩
theorem ok_law_cell_at {P : Program} {G : Gx} {mg : Str → Option Value} {base : Heap} {Tbl : Nat → FD} {k : Nat} {fd : FuncData} (F : Fun G.K "_law_cell_at" "_law_cell_at" s_law_cell_at (G.fa 21) fd) (hTbl : Tbl 21 = fd_law_cell_at) (b_len : mg "len" = none) : FnOk P G.w G.K mg base (L2.CX P G.w) (k + 1) (G.fa 21) fd ["script", "k"] (spC G (callN Tbl (k + 1)) 21) :=
  fn_ok (C := callN Tbl k) fd_law_cell_at F sc_law_cell_at rfl rfl (fun ds st => by simp only [callN, hTbl]) (fun cdv A outer s H E hr tk po =>
    show DSs G _ _ (callN Tbl k) _ ((sSeq (sIf (bCmp ltD (eV 1) (eU1 lenR (eV 0))) (sSeq (sRet (eB2 ixR (eV 0) (eV 1))) sNx) sNx) (sSeq (sRet (eC (.int 0))) sNx))) from
    (dss_cons (by exact (ds_if (db_lt rfl hr (de_var (pv 1)) (de_len rfl (pe_callB call_lenA (by rfl) b_len PySem.boot_len (pa_cons (de_var (pv 0)) pa_nil)))) (dss_cons (by exact (ds_ret (de_ix rfl (de_var (pv 0)) (de_var (pv 1))))) (by exact dss_nil)) dss_nil)) (by exact (dss_cons (by exact (ds_ret de_int)) (by exact dss_nil)))))
abbrev s_law_great : Stmt := topS 41
theorem sc_law_great : FnScope ["xs", "total", "cath", "anne"] ["xs"] (defScope s_law_great) := ⟨rfl, rfl, rfl, by decide +kernel, rfl, by decide +kernel, by decide +kernel⟩
theorem ok_law_great {P : Program} {G : Gx} {mg : Str → Option Value} {base : Heap} {Tbl : Nat → FD} {k : Nat} {fd : FuncData} (F : Fun G.K "_law_great" "_law_great" s_law_great (G.fa 145) fd) (hTbl : Tbl 145 = fd_law_great)  : FnOk P G.w G.K mg base (L2.CX P G.w) (k + 1) (G.fa 145) fd ["xs"] (spC G (callN Tbl (k + 1)) 145) :=
  fn_ok (C := callN Tbl k) fd_law_great F sc_law_great rfl rfl (fun ds st => by simp only [callN, hTbl]) (fun cdv A outer s H E hr tk po =>
    show DSs G _ _ (callN Tbl k) _ ((sSeq (sSet 1 (eB2 addR (eC (.int 10)) (eB2 modR (eB2 ixR (eV 0) (eC (.int 0))) (eC (.int 4))))) (sSeq (sSet 2 (eB2 addR (eC (.int 1)) (eB2 modR (eB2 ixR (eV 0) (eC (.int 1))) (eC (.int 3))))) (sSeq (sIf (bAnd (bCmp eqB (eV 2) (eC (.int 1))) (bCmp gtD (eV 1) (eC (.int 11)))) (sSeq (sRet (eTup (lCons (eC (.int 4)) (lCons (eB2 subR (eV 1) (eC (.int 5))) (lCons (eC (.int 1)) lNil))))) sNx) sNx) (sSeq (sSet 3 (eB2 addR (eC (.int 2)) (eB2 modR (eB2 ixR (eV 0) (eC (.int 2))) (eB2 subR (eB2 subR (eV 1) (eV 2)) (eC (.int 2)))))) (sSeq (sRet (eTup (lCons (eV 3) (lCons (eB2 subR (eB2 subR (eV 1) (eV 2)) (eV 3)) (lCons (eV 2) lNil))))) sNx)))))) from
    (dss_cons (by exact (ds_set (ps_set (i := 1) sc_law_great.nd rfl (Or.inl rfl) (de_add rfl de_int (de_mod (de_ix rfl (de_var (pv 0)) de_int) de_int))))) (by exact (dss_cons (by exact (ds_set (ps_set (i := 2) sc_law_great.nd rfl (Or.inl rfl) (de_add rfl de_int (de_mod (de_ix rfl (de_var (pv 0)) de_int) de_int))))) (by exact (dss_cons (by exact (ds_if (db_w (dw_and (db_eq rfl (hu64 hr) (de_var (pv 2)) de_int) (dw_and1 (db_gt rfl hr (de_var (pv 1)) de_int)))) (dss_cons (by exact (ds_ret (de_tup (da_cons de_int (da_cons (de_sub (de_var (pv 1)) de_int) (da_cons de_int da_nil)))))) (by exact dss_nil)) dss_nil)) (by exact (dss_cons (by exact (ds_set (ps_set (i := 3) sc_law_great.nd rfl (Or.inl rfl) (de_add rfl de_int (de_mod (de_ix rfl (de_var (pv 0)) de_int) (de_sub (de_sub (de_var (pv 1)) (de_var (pv 2))) de_int)))))) (by exact (dss_cons (by exact (ds_ret (de_tup (da_cons (de_var (pv 3)) (da_cons (de_sub (de_sub (de_var (pv 1)) (de_var (pv 2))) (de_var (pv 3))) (da_cons (de_var (pv 2)) da_nil)))))) (by exact dss_nil)))))))))))
abbrev s_law_rests_v2 : Stmt := topS 38
theorem sc_law_rests_v2 : FnScope ["hand", "many", "prime", "found", "powers", "k", "card", "j"] ["hand", "many", "prime"] (defScope s_law_rests_v2) := ⟨rfl, rfl, rfl, by decide +kernel, rfl, by decide +kernel, by decide +kernel⟩
theorem ok_law_rests_v2 {P : Program} {G : Gx} {mg : Str → Option Value} {base : Heap} {Tbl : Nat → FD} {k : Nat} {fd : FuncData} (F : Fun G.K "_law_rests" "_law_rests" s_law_rests_v2 (G.fa 87) fd) (hTbl : Tbl 87 = fd_law_rests_v2) (b_range : mg "range" = none) (b_len : mg "len" = none) (b_int : mg "int" = none) (b_sum : mg "sum" = none) (b_tuple : mg "tuple" = none) : FnOk P G.w G.K mg base (L2.CX P G.w) (k + 1) (G.fa 87) fd ["hand", "many", "prime"] (spC G (callN Tbl (k + 1)) 87) :=
  fn_ok (C := callN Tbl k) fd_law_rests_v2 F sc_law_rests_v2 rfl rfl (fun ds st => by simp only [callN, hTbl]) (fun cdv A outer s H E hr tk po =>
    show DSs G _ _ (callN Tbl k) _ ((sSeq (sSet 3 (eNew (lLst lNil))) (sSeq (sSet 4 (eNew (lLc (siOf (eV 0)) (gN 6) [6] bTrue (eC (.int 1))))) (sSeq (sFor (siR1 (lCons (eV 1) lNil)) (gN 5) (sSeq (sSet 4 (eNew (lLc (siR1 (lCons (eU1 lenR (eV 0)) lNil)) (gN 7) [7] bTrue (eB2 modR (eU1 intR (eB2 mulR (eB2 ixR (eV 4) (eV 7)) (eB2 ixR (eV 0) (eV 7)))) (eV 2))))) (sSeq (sExp (eM appendR (eV 3) (lCons (eB2 modR (eA sumQ (lSeq (eV 4))) (eV 2)) lNil))) sNx))) (sSeq (sRet (eA tupQ (lSeq (eV 3)))) sNx))))) from
    (dss_cons (by exact (ds_set (ps_set (i := 3) sc_law_rests_v2.nd rfl (Or.inl rfl) (de_new (dt_lst da_nil))))) (by exact (dss_cons (by exact (ds_set (ps_set (i := 4) sc_law_rests_v2.nd rfl (Or.inr rfl) (de_new (dt_lc rfl sc_law_rests_v2.nd (di_of rfl (de_var (pv 0))) (blkOk_by (own := [("card", 6)]) (by rfl)) (by decide) (fun _ _ _ _ _ => (dg_name (pg_name (i := 6) sc_law_rests_v2.nd rfl (Or.inl rfl)))) (fun _ _ _ _ _ => dts_nil) (fun _ _ _ _ _ => de_int)))))) (by exact (dss_cons (by exact (ds_for po rfl (di_r1 (pi_range1 (by rfl) b_range (da_cons (de_var (pv 1)) da_nil))) (dg_name (pg_name (i := 5) sc_law_rests_v2.nd rfl (Or.inl rfl))) (dss_cons (by exact (ds_set (ps_set (i := 4) sc_law_rests_v2.nd rfl (Or.inr rfl) (de_new (dt_lc rfl sc_law_rests_v2.nd (di_r1 (pi_range1 (by rfl) b_range (da_cons (de_len rfl (pe_callB call_lenA (by rfl) b_len PySem.boot_len (pa_cons (de_var (pv 0)) pa_nil))) da_nil))) (blkOk_by (own := [("j", 7)]) (by rfl)) (by decide) (fun _ _ _ _ _ => (dg_name (pg_name (i := 7) sc_law_rests_v2.nd rfl (Or.inl rfl)))) (fun _ _ _ _ _ => dts_nil) (fun _ _ _ _ _ => (de_mod (de_c1 (pe_callTy call_int1 (by rfl) b_int PyProof.Rows.boot_int (pa_cons (de_mul (de_ix rfl (de_var (pv 4)) (de_var (pv 7))) (de_ix rfl (de_var (pv 0)) (de_var (pv 7)))) pa_nil)) br_int) (de_var (pv 2))))))))) (by exact (dss_cons (by exact (ds_exp (de_m rfl (pe_bm PySem.F.plainAttrs_list PySem.F.slot_list_append PySem.F.type_list_append mt_append (de_var (pv 3)) (da_cons (de_mod (de_sum rfl (pe_callB (cr_sumA rfl) (by rfl) b_sum PyProof.Rows.boot_sum (pa_cons (dq_of (de_var (pv 4))) pa_nil))) (de_var (pv 2))) da_nil)) brm_append))) (by exact dss_nil)))))) (by exact (dss_cons (by exact (ds_ret (de_tupQ rfl (pe_callTy call_tuple_of (by rfl) b_tuple PyProof.Rows.boot_tuple (pa_cons (dq_of (de_var (pv 3))) pa_nil))))) (by exact dss_nil)))))))))
abbrev s_is_integer : Stmt := topS 10
theorem sc_is_integer : FnScope ["thing"] ["thing"] (defScope s_is_integer) := ⟨rfl, rfl, rfl, by decide +kernel, rfl, by decide +kernel, by decide +kernel⟩
theorem ok_is_integer {P : Program} {G : Gx} {mg : Str → Option Value} {base : Heap} {Tbl : Nat → FD} {k : Nat} {fd : FuncData} (F : Fun G.K "is_integer" "is_integer" s_is_integer (G.fa 0) fd) (hTbl : Tbl 0 = fd_is_integer) (b_int : mg "int" = none) (b_isinstance : mg "isinstance" = none) (b_bool : mg "bool" = none) : FnOk P G.w G.K mg base (L2.CX P G.w) (k + 1) (G.fa 0) fd ["thing"] (spC G (callN Tbl (k + 1)) 0) :=
  fn_ok (C := callN Tbl k) fd_is_integer F sc_is_integer rfl rfl (fun ds st => by simp only [callN, hTbl]) (fun cdv A outer s H E hr tk po =>
    show DSs G _ _ (callN Tbl k) _ ((sSeq (sRet (eAnd (eU1 (isiR .int) (eV 0)) (eNot (eU1 (isiR .bool) (eV 0))))) sNx)) from
    (dss_cons (by exact (ds_ret (de_and rfl (de_isi (T := .int) rfl (pe_callB call_isiN (by rfl) b_isinstance PyProof.Rows.boot_isinstance (pa_cons (de_var (pv 0)) (pa_cons (pe_bltn (v := .ty "int") (by rfl) b_int boot_int_ rfl) pa_nil)))) (de_one (de_not rfl (de_isi (T := .bool) rfl (pe_callB call_isiN (by rfl) b_isinstance PyProof.Rows.boot_isinstance (pa_cons (de_var (pv 0)) (pa_cons (pe_bltn (v := .ty "bool") (by rfl) b_bool boot_bool_ rfl) pa_nil))))))))) (by exact dss_nil)))
abbrev s_is_setting : Stmt := topS 11
theorem sc_is_setting : FnScope ["thing", "many"] ["thing"] (defScope s_is_setting) := ⟨rfl, rfl, rfl, by decide +kernel, rfl, by decide +kernel, by decide +kernel⟩
theorem ok_is_setting {P : Program} {G : Gx} {mg : Str → Option Value} {base : Heap} {Tbl : Nat → FD} {k : Nat} {fd : FuncData} (F : Fun G.K "is_setting" "is_setting" s_is_setting (G.fa 1) fd) (hTbl : Tbl 1 = fd_is_setting) (h_is_integer : FnAt P G.w G mg base (callN Tbl k) k 0 "is_integer") (b_tuple : mg "tuple" = none) (b_isinstance : mg "isinstance" = none) (b_len : mg "len" = none) (b_sum : mg "sum" = none) {t_MOST_CARDS : Tok} (g_MOST_CARDS : mg "MOST_CARDS" = some (.int 13 t_MOST_CARDS)) : FnOk P G.w G.K mg base (L2.CX P G.w) (k + 1) (G.fa 1) fd ["thing"] (spC G (callN Tbl (k + 1)) 1) :=
  fn_ok (C := callN Tbl k) fd_is_setting F sc_is_setting rfl rfl (fun ds st => by simp only [callN, hTbl]) (fun cdv A outer s H E hr tk po =>
    show DSs G _ _ (callN Tbl k) _ ((sSeq (sIf (bOr (bNot (bOf (eU1 (isiR .tup) (eV 0)))) (bCmp neB (eU1 lenR (eV 0)) (eC (.int 3)))) (sSeq (sRet (eC (.bl false))) sNx) sNx) (sSeq (sFor (siOf (eV 0)) (gN 1) (sSeq (sIf (bOr (bNot (bOf (eCall 0 (lCons (eV 1) lNil)))) (bCmp ltD (eV 1) (eC (.int 1)))) (sSeq (sRet (eC (.bl false))) sNx) sNx) sNx)) (sSeq (sRet (eB2 (cB leD) (eA sumQ (lSeq (eV 0))) (eC (.int 13)))) sNx)))) from
    (dss_cons (by exact (ds_if (db_w (dw_or (db_not (db_of rfl (de_isi (T := .tup) rfl (pe_callB call_isiN (by rfl) b_isinstance PyProof.Rows.boot_isinstance (pa_cons (de_var (pv 0)) (pa_cons (pe_bltn (v := .ty "tuple") (by rfl) b_tuple boot_tuple_ rfl) pa_nil)))))) (dw_or1 (db_ne rfl (hu64 hr) (de_len rfl (pe_callB call_lenA (by rfl) b_len PySem.boot_len (pa_cons (de_var (pv 0)) pa_nil))) de_int)))) (dss_cons (by exact (ds_ret de_bl)) (by exact dss_nil)) dss_nil)) (by exact (dss_cons (by exact (ds_for po rfl (di_of rfl (de_var (pv 0))) (dg_name (pg_name (i := 1) sc_is_setting.nd rfl (Or.inl rfl))) (dss_cons (by exact (ds_if (db_w (dw_or (db_not (db_of rfl (de_call h_is_integer rfl hr tk (by rfl) (da_cons (de_var (pv 1)) da_nil)))) (dw_or1 (db_lt rfl hr (de_var (pv 1)) de_int)))) (dss_cons (by exact (ds_ret de_bl)) (by exact dss_nil)) dss_nil)) (by exact dss_nil)))) (by exact (dss_cons (by exact (ds_ret (de_le rfl hr (de_sum rfl (pe_callB (cr_sumA rfl) (by rfl) b_sum PyProof.Rows.boot_sum (pa_cons (dq_of (de_var (pv 0))) pa_nil))) (de_globI (by rfl) g_MOST_CARDS)))) (by exact dss_nil)))))))
abbrev s_check_setting : Stmt := topS 12
theorem sc_check_setting : FnScope ["setting"] ["setting"] (defScope s_check_setting) := ⟨rfl, rfl, rfl, by decide +kernel, rfl, by decide +kernel, by decide +kernel⟩
theorem ok_check_setting {P : Program} {G : Gx} {mg : Str → Option Value} {base : Heap} {Tbl : Nat → FD} {k : Nat} {fd : FuncData} (F : Fun G.K "check_setting" "check_setting" s_check_setting (G.fa 2) fd) (hTbl : Tbl 2 = fd_check_setting) (h_is_setting : FnAt P G.w G mg base (callN Tbl k) k 1 "is_setting") (e_BadSetting : ExAt G.K mg G 1 "BadSetting") : FnOk P G.w G.K mg base (L2.CX P G.w) (k + 1) (G.fa 2) fd ["setting"] (spC G (callN Tbl (k + 1)) 2) :=
  fn_ok (C := callN Tbl k) fd_check_setting F sc_check_setting rfl rfl (fun ds st => by simp only [callN, hTbl]) (fun cdv A outer s H E hr tk po =>
    show DSs G _ _ (callN Tbl k) _ ((sSeq (sIf (bNot (bOf (eCall 1 (lCons (eV 0) lNil)))) (sSeq (sRaise 1) sNx) sNx) sNx)) from
    (dss_cons (by exact (ds_if (db_not (db_of rfl (de_call h_is_setting rfl hr tk (by rfl) (da_cons (de_var (pv 0)) da_nil)))) (dss_cons (by exact (ds_raise rfl tk e_BadSetting (by rfl))) (by exact dss_nil)) dss_nil)) (by exact dss_nil)))
abbrev s_prime_of : Stmt := topS 26
theorem sc_prime_of : FnScope ["setting", "number", "step"] ["setting"] (defScope s_prime_of) := ⟨rfl, rfl, rfl, by decide +kernel, rfl, by decide +kernel, by decide +kernel⟩
theorem ok_prime_of {P : Program} {G : Gx} {mg : Str → Option Value} {base : Heap} {Tbl : Nat → FD} {k : Nat} {fd : FuncData} (F : Fun G.K "prime_of" "prime_of" s_prime_of (G.fa 18) fd) (hTbl : Tbl 18 = fd_prime_of) (h_check_setting : FnAt P G.w G mg base (callN Tbl k) k 2 "check_setting") (b_sum : mg "sum" = none) (b_range : mg "range" = none) (b_any : mg "any" = none) : FnOk P G.w G.K mg base (L2.CX P G.w) (k + 1) (G.fa 18) fd ["setting"] (spC G (callN Tbl (k + 1)) 18) :=
  fn_ok (C := callN Tbl k) fd_prime_of F sc_prime_of rfl rfl (fun ds st => by simp only [callN, hTbl]) (fun cdv A outer s H E hr tk po =>
    show DSs G _ _ (callN Tbl k) _ ((sSeq (sExp (eCall 2 (lCons (eV 0) lNil))) (sSeq (sSet 1 (eA sumQ (lSeq (eV 0)))) (sSeq (sWhile (bOf (eA anyQ (lLc (siR2 (lCons (eC (.int 2)) (lCons (eV 1) lNil))) (gN 2) [2] bTrue (eB2 (cB eqB) (eB2 mulR (eB2 divR (eV 1) (eV 2)) (eV 2)) (eV 1))))) (sSeq (sAug 1 iaddR (eC (.int 1))) sNx)) (sSeq (sRet (eV 1)) sNx))))) from
    (dss_cons (by exact (ds_exp (de_call h_check_setting rfl hr tk (by rfl) (da_cons (de_var (pv 0)) da_nil)))) (by exact (dss_cons (by exact (ds_set (ps_set (i := 1) sc_prime_of.nd rfl (Or.inr rfl) (de_sum rfl (pe_callB (cr_sumA rfl) (by rfl) b_sum PyProof.Rows.boot_sum (pa_cons (dq_of (de_var (pv 0))) pa_nil)))))) (by exact (dss_cons (by exact (ds_while po (db_of rfl (de_anyQ rfl (pe_callB (cr_any rfl) (by rfl) b_any PyProof.Rows.boot_any (pa_cons (dl_tmp (dt_lc rfl sc_prime_of.nd (di_r2 (pi_range2 (by rfl) b_range (da_cons de_int (da_cons (de_var (pv 1)) da_nil)))) (blkOk_by (own := [("step", 2)]) (by rfl)) (by decide) (fun _ _ _ _ _ => (dg_name (pg_name (i := 2) sc_prime_of.nd rfl (Or.inl rfl)))) (fun _ _ _ _ _ => dts_nil) (fun _ _ _ _ _ => (de_eq rfl (hu64 hr) (de_mul (de_div (de_var (pv 1)) (de_var (pv 2))) (de_var (pv 2))) (de_var (pv 1)))))) pa_nil)))) (dss_cons (by exact (ds_aug (ps_aug (i := 1) sc_prime_of.nd rfl (Or.inr rfl) de_int ip_add) br_ipadd)) (by exact dss_nil)))) (by exact (dss_cons (by exact (ds_ret (de_var (pv 1)))) (by exact dss_nil)))))))))
abbrev s_check_rests : Stmt := topS 28
theorem sc_check_rests : FnScope ["setting", "rests", "prime", "rest"] ["setting", "rests"] (defScope s_check_rests) := ⟨rfl, rfl, rfl, by decide +kernel, rfl, by decide +kernel, by decide +kernel⟩
theorem ok_check_rests {P : Program} {G : Gx} {mg : Str → Option Value} {base : Heap} {Tbl : Nat → FD} {k : Nat} {fd : FuncData} (F : Fun G.K "check_rests" "check_rests" s_check_rests (G.fa 84) fd) (hTbl : Tbl 84 = fd_check_rests) (h_prime_of : FnAt P G.w G mg base (callN Tbl k) k 18 "prime_of") (h_is_integer : FnAt P G.w G mg base (callN Tbl k) k 0 "is_integer") (b_tuple : mg "tuple" = none) (b_isinstance : mg "isinstance" = none) (b_len : mg "len" = none) (e_BadRests : ExAt G.K mg G 14 "BadRests") : FnOk P G.w G.K mg base (L2.CX P G.w) (k + 1) (G.fa 84) fd ["setting", "rests"] (spC G (callN Tbl (k + 1)) 84) :=
  fn_ok (C := callN Tbl k) fd_check_rests F sc_check_rests rfl rfl (fun ds st => by simp only [callN, hTbl]) (fun cdv A outer s H E hr tk po =>
    show DSs G _ _ (callN Tbl k) _ ((sSeq (sSet 2 (eCall 18 (lCons (eV 0) lNil))) (sSeq (sIf (bOr (bNot (bOf (eU1 (isiR .tup) (eV 1)))) (bCmp neB (eU1 lenR (eV 1)) (eB2 ixR (eV 0) (eC (.int 2))))) (sSeq (sRaise 14) sNx) sNx) (sSeq (sFor (siOf (eV 1)) (gN 3) (sSeq (sIf (bOr (bNot (bOf (eCall 0 (lCons (eV 3) lNil)))) (bOr (bCmp ltD (eV 3) (eC (.int 0))) (bCmp geD (eV 3) (eV 2)))) (sSeq (sRaise 14) sNx) sNx) sNx)) sNx)))) from
    (dss_cons (by exact (ds_set (ps_set (i := 2) sc_check_rests.nd rfl (Or.inl rfl) (de_call h_prime_of rfl hr tk (by rfl) (da_cons (de_var (pv 0)) da_nil))))) (by exact (dss_cons (by exact (ds_if (db_w (dw_or (db_not (db_of rfl (de_isi (T := .tup) rfl (pe_callB call_isiN (by rfl) b_isinstance PyProof.Rows.boot_isinstance (pa_cons (de_var (pv 1)) (pa_cons (pe_bltn (v := .ty "tuple") (by rfl) b_tuple boot_tuple_ rfl) pa_nil)))))) (dw_or1 (db_ne rfl (hu64 hr) (de_len rfl (pe_callB call_lenA (by rfl) b_len PySem.boot_len (pa_cons (de_var (pv 1)) pa_nil))) (de_ix rfl (de_var (pv 0)) de_int))))) (dss_cons (by exact (ds_raise rfl tk e_BadRests (by rfl))) (by exact dss_nil)) dss_nil)) (by exact (dss_cons (by exact (ds_for po rfl (di_of rfl (de_var (pv 1))) (dg_name (pg_name (i := 3) sc_check_rests.nd rfl (Or.inl rfl))) (dss_cons (by exact (ds_if (db_w (dw_or (db_not (db_of rfl (de_call h_is_integer rfl hr tk (by rfl) (da_cons (de_var (pv 3)) da_nil)))) (dw_or (db_lt rfl hr (de_var (pv 3)) de_int) (dw_or1 (db_ge rfl hr (de_var (pv 3)) (de_var (pv 2))))))) (dss_cons (by exact (ds_raise rfl tk e_BadRests (by rfl))) (by exact dss_nil)) dss_nil)) (by exact dss_nil)))) (by exact dss_nil)))))))
abbrev s_rows_out_of : Stmt := topS 17
theorem sc_rows_out_of : FnScope ["cards", "size", "rows", "turn", "longer", "row", "card"] ["cards", "size"] (defScope s_rows_out_of) := ⟨rfl, rfl, rfl, by decide +kernel, rfl, by decide +kernel, by decide +kernel⟩
theorem ok_rows_out_of {P : Program} {G : Gx} {mg : Str → Option Value} {base : Heap} {Tbl : Nat → FD} {k : Nat} {fd : FuncData} (F : Fun G.K "rows_out_of" "rows_out_of" s_rows_out_of (G.fa 29) fd) (hTbl : Tbl 29 = fd_rows_out_of) (b_range : mg "range" = none) (b_list : mg "list" = none) : FnOk P G.w G.K mg base (L2.CX P G.w) (k + 1) (G.fa 29) fd ["cards", "size"] (spC G (callN Tbl (k + 1)) 29) :=
  fn_ok (C := callN Tbl k) fd_rows_out_of F sc_rows_out_of rfl rfl (fun ds st => by simp only [callN, hTbl]) (fun cdv A outer s H E hr tk po =>
    show DSs G _ _ (callN Tbl k) _ ((sSeq (sSet 2 (eNew (lLst (lCons (eTup lNil) lNil)))) (sSeq (sFor (siR1 (lCons (eV 1) lNil)) (gN 3) (sSeq (sSet 4 (eNew (lLst lNil))) (sSeq (sFor (siT (lMap (fun _ ds => some ds) (lSeq (eV 2)))) (gN 5) (sSeq (sFor (siOf (eV 0)) (gN 6) (sSeq (sIf (bOr (bCmp eqB (eV 5) (eTup lNil)) (bCmp gtD (eV 6) (eB2 ixR (eV 5) (eU1 negR (eC (.int 1)))))) (sSeq (sExp (eM appendR (eV 4) (lCons (eB2 addR (eV 5) (eTup (lCons (eV 6) lNil))) lNil))) sNx) sNx) sNx)) sNx)) (sSeq (sSet 2 (eV 4)) sNx)))) (sSeq (sRet (eV 2)) sNx)))) from
    (dss_cons (by exact (ds_set (ps_set (i := 2) sc_rows_out_of.nd rfl (Or.inl rfl) (de_new (dt_lst (da_cons (de_tup da_nil) da_nil)))))) (by exact (dss_cons (by exact (ds_for po rfl (di_r1 (pi_range1 (by rfl) b_range (da_cons (de_var (pv 1)) da_nil))) (dg_name (pg_name (i := 3) sc_rows_out_of.nd rfl (Or.inl rfl))) (dss_cons (by exact (ds_set (ps_set (i := 4) sc_rows_out_of.nd rfl (Or.inl rfl) (de_new (dt_lst da_nil))))) (by exact (dss_cons (by exact (ds_for po rfl (di_tmp rfl (dt_list rfl (pe_callTy call_list_of (by rfl) b_list PyProof.Rows.boot_list (pa_cons (dq_of (de_var (pv 2))) pa_nil)))) (dg_name (pg_name (i := 5) sc_rows_out_of.nd rfl (Or.inl rfl))) (dss_cons (by exact (ds_for po rfl (di_of rfl (de_var (pv 0))) (dg_name (pg_name (i := 6) sc_rows_out_of.nd rfl (Or.inl rfl))) (dss_cons (by exact (ds_if (db_w (dw_or (db_eq rfl (hu64 hr) (de_var (pv 5)) (de_tup da_nil)) (dw_or1 (db_gt rfl hr (de_var (pv 6)) (de_ix rfl (de_var (pv 5)) (de_neg de_int)))))) (dss_cons (by exact (ds_exp (de_m rfl (pe_bm PySem.F.plainAttrs_list PySem.F.slot_list_append PySem.F.type_list_append mt_append (de_var (pv 4)) (da_cons (de_add rfl (de_var (pv 5)) (de_tup (da_cons (de_var (pv 6)) da_nil))) da_nil)) brm_append))) (by exact dss_nil)) dss_nil)) (by exact dss_nil)))) (by exact dss_nil)))) (by exact (dss_cons (by exact (ds_set (ps_set (i := 2) sc_rows_out_of.nd rfl (Or.inl rfl) (de_var (pv 4))))) (by exact dss_nil)))))))) (by exact (dss_cons (by exact (ds_ret (de_var (pv 2)))) (by exact dss_nil)))))))
abbrev s_all_hands : Stmt := topS 19
theorem sc_all_hands : FnScope ["setting"] ["setting"] (defScope s_all_hands) := ⟨rfl, rfl, rfl, by decide +kernel, rfl, by decide +kernel, by decide +kernel⟩
theorem ok_all_hands {P : Program} {G : Gx} {mg : Str → Option Value} {base : Heap} {Tbl : Nat → FD} {k : Nat} {fd : FuncData} (F : Fun G.K "all_hands" "all_hands" s_all_hands (G.fa 30) fd) (hTbl : Tbl 30 = fd_all_hands) (h_check_setting : FnAt P G.w G mg base (callN Tbl k) k 2 "check_setting") (h_rows_out_of : FnAt P G.w G mg base (callN Tbl k) k 29 "rows_out_of") (b_sum : mg "sum" = none) (b_list : mg "list" = none) (b_range : mg "range" = none) (b_tuple : mg "tuple" = none) : FnOk P G.w G.K mg base (L2.CX P G.w) (k + 1) (G.fa 30) fd ["setting"] (spC G (callN Tbl (k + 1)) 30) :=
  fn_ok (C := callN Tbl k) fd_all_hands F sc_all_hands rfl rfl (fun ds st => by simp only [callN, hTbl]) (fun cdv A outer s H E hr tk po =>
    show DSs G _ _ (callN Tbl k) _ ((sSeq (sExp (eCall 2 (lCons (eV 0) lNil))) (sSeq (sRet (eA tupQ (lSeq (eCall 29 (lCons (eNew (lRng (eA sumQ (lSeq (eV 0))))) (lCons (eB2 ixR (eV 0) (eC (.int 0))) lNil)))))) sNx))) from
    (dss_cons (by exact (ds_exp (de_call h_check_setting rfl hr tk (by rfl) (da_cons (de_var (pv 0)) da_nil)))) (by exact (dss_cons (by exact (ds_ret (de_tupQ rfl (pe_callTy call_tuple_of (by rfl) b_tuple PyProof.Rows.boot_tuple (pa_cons (dq_of (de_call h_rows_out_of rfl hr tk (by rfl) (da_cons (de_new (dt_rng (pe_listRg rfl (by rfl) b_list (prg_1 (by rfl) b_range (de_sum rfl (pe_callB (cr_sumA rfl) (by rfl) b_sum PyProof.Rows.boot_sum (pa_cons (dq_of (de_var (pv 0))) pa_nil))))))) (da_cons (de_ix rfl (de_var (pv 0)) de_int) da_nil)))) pa_nil))))) (by exact dss_nil)))))
abbrev s_powers_of : Stmt := topS 27
theorem sc_powers_of : FnScope ["hand", "many", "prime", "rests", "powers", "turn", "card", "power"] ["hand", "many", "prime"] (defScope s_powers_of) := ⟨rfl, rfl, rfl, by decide +kernel, rfl, by decide +kernel, by decide +kernel⟩
theorem ok_powers_of {P : Program} {G : Gx} {mg : Str → Option Value} {base : Heap} {Tbl : Nat → FD} {k : Nat} {fd : FuncData} (F : Fun G.K "powers_of" "powers_of" s_powers_of (G.fa 19) fd) (hTbl : Tbl 19 = fd_powers_of) (b_range : mg "range" = none) (b_zip : mg "zip" = none) (b_int : mg "int" = none) (b_sum : mg "sum" = none) (b_tuple : mg "tuple" = none) : FnOk P G.w G.K mg base (L2.CX P G.w) (k + 1) (G.fa 19) fd ["hand", "many", "prime"] (spC G (callN Tbl (k + 1)) 19) :=
  fn_ok (C := callN Tbl k) fd_powers_of F sc_powers_of rfl rfl (fun ds st => by simp only [callN, hTbl]) (fun cdv A outer s H E hr tk po =>
    show DSs G _ _ (callN Tbl k) _ ((sSeq (sSet 3 (eNew (lLst lNil))) (sSeq (sSet 4 (eNew (lLc (siOf (eV 0)) (gN 6) [6] bTrue (eC (.int 1))))) (sSeq (sFor (siR1 (lCons (eV 1) lNil)) (gN 5) (sSeq (sSet 4 (eNew (lLc (siZipM (kOf (eV 4)) (kOf (eV 0))) (gTup [(gN 7), (gN 6)]) [7, 6] bTrue (eB2 modR (eU1 intR (eB2 mulR (eV 7) (eV 6))) (eV 2))))) (sSeq (sExp (eM appendR (eV 3) (lCons (eB2 modR (eA sumQ (lSeq (eV 4))) (eV 2)) lNil))) sNx))) (sSeq (sRet (eA tupQ (lSeq (eV 3)))) sNx))))) from
    (dss_cons (by exact (ds_set (ps_set (i := 3) sc_powers_of.nd rfl (Or.inl rfl) (de_new (dt_lst da_nil))))) (by exact (dss_cons (by exact (ds_setLc (i := 4) rfl sc_powers_of.nd rfl rfl (sw_true rfl rfl rfl (by decide +kernel)) (di_of rfl (de_var (pv 0))) (blkOk_by (own := [("card", 6)]) (by rfl)) (by decide) (fun _ _ _ _ _ => (dg_name (pg_name (i := 6) sc_powers_of.nd rfl (Or.inl rfl)))) (fun _ _ _ _ _ => dts_nil) (fun _ _ _ _ _ => de_int))) (by exact (dss_cons (by exact (ds_for po rfl (di_r1 (pi_range1 (by rfl) b_range (da_cons (de_var (pv 1)) da_nil))) (dg_name (pg_name (i := 5) sc_powers_of.nd rfl (Or.inl rfl))) (dss_cons (by exact (ds_setLc (i := 4) rfl sc_powers_of.nd rfl rfl (sw_true rfl rfl rfl (by decide +kernel)) (di_zipM rfl b_zip (kk_of (de_var (pv 4))) (kk_of (de_var (pv 0)))) (blkOk_by (own := [("power", 7), ("card", 6)]) (by rfl)) (by decide) (fun _ _ _ _ _ => (dg_tup rfl rfl (dgs_cons (dg_name (pg_name (i := 7) sc_powers_of.nd rfl (Or.inl rfl))) (dgs_cons (dg_name (pg_name (i := 6) sc_powers_of.nd rfl (Or.inl rfl))) dgs_nil)))) (fun _ _ _ _ _ => dts_nil) (fun _ _ _ _ _ => (de_mod (de_c1 (pe_callTy call_int1 (by rfl) b_int PyProof.Rows.boot_int (pa_cons (de_mul (de_var (pv 7)) (de_var (pv 6))) pa_nil)) br_int) (de_var (pv 2)))))) (by exact (dss_cons (by exact (ds_exp (de_m rfl (pe_bm PySem.F.plainAttrs_list PySem.F.slot_list_append PySem.F.type_list_append mt_append (de_var (pv 3)) (da_cons (de_mod (de_sum rfl (pe_callB (cr_sumA rfl) (by rfl) b_sum PyProof.Rows.boot_sum (pa_cons (dq_of (de_var (pv 4))) pa_nil))) (de_var (pv 2))) da_nil)) brm_append))) (by exact dss_nil)))))) (by exact (dss_cons (by exact (ds_ret (de_tupQ rfl (pe_callTy call_tuple_of (by rfl) b_tuple PyProof.Rows.boot_tuple (pa_cons (dq_of (de_var (pv 3))) pa_nil))))) (by exact dss_nil)))))))))
abbrev s_power_lot : Stmt := topS 29
theorem sc_power_lot : FnScope ["setting", "rests", "prime", "hands", "hand"] ["setting", "rests"] (defScope s_power_lot) := ⟨rfl, rfl, rfl, by decide +kernel, rfl, by decide +kernel, by decide +kernel⟩
theorem ok_power_lot {P : Program} {G : Gx} {mg : Str → Option Value} {base : Heap} {Tbl : Nat → FD} {k : Nat} {fd : FuncData} (F : Fun G.K "power_lot" "power_lot" s_power_lot (G.fa 144) fd) (hTbl : Tbl 144 = fd_power_lot) (h_check_rests : FnAt P G.w G mg base (callN Tbl k) k 84 "check_rests") (h_prime_of : FnAt P G.w G mg base (callN Tbl k) k 18 "prime_of") (h_all_hands : FnAt P G.w G mg base (callN Tbl k) k 30 "all_hands") (h_powers_of : FnAt P G.w G mg base (callN Tbl k) k 19 "powers_of") (b_len : mg "len" = none) (b_tuple : mg "tuple" = none) {t_MOST_HANDS : Tok} (g_MOST_HANDS : mg "MOST_HANDS" = some (.int 60 t_MOST_HANDS)) (e_NoLot : ExAt G.K mg G 16 "NoLot") (e_TooMany : ExAt G.K mg G 26 "TooMany") : FnOk P G.w G.K mg base (L2.CX P G.w) (k + 1) (G.fa 144) fd ["setting", "rests"] (spC G (callN Tbl (k + 1)) 144) :=
  fn_ok (C := callN Tbl k) fd_power_lot F sc_power_lot rfl rfl (fun ds st => by simp only [callN, hTbl]) (fun cdv A outer s H E hr tk po =>
    show DSs G _ _ (callN Tbl k) _ ((sSeq (sExp (eCall 84 (lCons (eV 0) (lCons (eV 1) lNil)))) (sSeq (sSet 2 (eCall 18 (lCons (eV 0) lNil))) (sSeq (sSet 3 (eNew (lLc (siOf (eCall 30 (lCons (eV 0) lNil))) (gN 4) [4] (bCmp eqB (eCall 19 (lCons (eV 4) (lCons (eB2 ixR (eV 0) (eC (.int 2))) (lCons (eV 2) lNil)))) (eV 1)) (eV 4)))) (sSeq (sIf (bNot (bOf (eV 3))) (sSeq (sRaise 16) sNx) sNx) (sSeq (sIf (bCmp gtD (eU1 lenR (eV 3)) (eC (.int 60))) (sSeq (sRaise 26) sNx) sNx) (sSeq (sRet (eA tupQ (lSeq (eV 3)))) sNx))))))) from
    (dss_cons (by exact (ds_exp (de_call h_check_rests rfl hr tk (by rfl) (da_cons (de_var (pv 0)) (da_cons (de_var (pv 1)) da_nil))))) (by exact (dss_cons (by exact (ds_set (ps_set (i := 2) sc_power_lot.nd rfl (Or.inr rfl) (de_call h_prime_of rfl hr tk (by rfl) (da_cons (de_var (pv 0)) da_nil))))) (by exact (dss_cons (by exact (ds_setLc (i := 3) rfl sc_power_lot.nd rfl rfl (sw_true rfl rfl rfl (by decide +kernel)) (di_of rfl (de_call h_all_hands rfl hr tk (by rfl) (da_cons (de_var (pv 0)) da_nil))) (blkOk_by (own := [("hand", 4)]) (by rfl)) (by decide) (fun _ _ _ _ _ => (dg_name (pg_name (i := 4) sc_power_lot.nd rfl (Or.inl rfl)))) (fun _ _ _ _ _ => (dts_one (db_eq rfl (hu64 hr) (de_call h_powers_of rfl hr takesF (by rfl) (da_cons (de_var (pv 4)) (da_cons (de_ix rfl (de_var (pv 0)) de_int) (da_cons (de_var (pv 2)) da_nil)))) (de_var (pv 1))))) (fun _ _ _ _ _ => (de_var (pv 4))))) (by exact (dss_cons (by exact (ds_if (db_not (db_of rfl (de_var (pv 3)))) (dss_cons (by exact (ds_raise rfl tk e_NoLot (by rfl))) (by exact dss_nil)) dss_nil)) (by exact (dss_cons (by exact (ds_if (db_gt rfl hr (de_len rfl (pe_callB call_lenA (by rfl) b_len PySem.boot_len (pa_cons (de_var (pv 3)) pa_nil))) (de_globI (by rfl) g_MOST_HANDS)) (dss_cons (by exact (ds_raise rfl tk e_TooMany (by rfl))) (by exact dss_nil)) dss_nil)) (by exact (dss_cons (by exact (ds_ret (de_tupQ rfl (pe_callTy call_tuple_of (by rfl) b_tuple PyProof.Rows.boot_tuple (pa_cons (dq_of (de_var (pv 3))) pa_nil))))) (by exact dss_nil)))))))))))))
abbrev s_law_is_hands : Stmt := topS 40
theorem sc_law_is_hands : FnScope ["found", "hand", "card"] ["found"] (defScope s_law_is_hands) := ⟨rfl, rfl, rfl, by decide +kernel, rfl, by decide +kernel, by decide +kernel⟩
theorem ok_law_is_hands {P : Program} {G : Gx} {mg : Str → Option Value} {base : Heap} {Tbl : Nat → FD} {k : Nat} {fd : FuncData} (F : Fun G.K "_law_is_hands" "_law_is_hands" s_law_is_hands (G.fa 89) fd) (hTbl : Tbl 89 = fd_law_is_hands) (b_tuple : mg "tuple" = none) (b_isinstance : mg "isinstance" = none) (b_int : mg "int" = none) (b_bool : mg "bool" = none) : FnOk P G.w G.K mg base (L2.CX P G.w) (k + 1) (G.fa 89) fd ["found"] (spC G (callN Tbl (k + 1)) 89) :=
  fn_ok (C := callN Tbl k) fd_law_is_hands F sc_law_is_hands rfl rfl (fun ds st => by simp only [callN, hTbl]) (fun cdv A outer s H E hr tk po =>
    show DSs G _ _ (callN Tbl k) _ ((sSeq (sIf (bNot (bOf (eU1 (isiR .tup) (eV 0)))) (sSeq (sRet (eC (.bl false))) sNx) sNx) (sSeq (sFor (siOf (eV 0)) (gN 1) (sSeq (sIf (bNot (bOf (eU1 (isiR .tup) (eV 1)))) (sSeq (sRet (eC (.bl false))) sNx) sNx) (sSeq (sFor (siOf (eV 1)) (gN 2) (sSeq (sIf (bOr (bNot (bOf (eU1 (isiR .int) (eV 2)))) (bOf (eU1 (isiR .bool) (eV 2)))) (sSeq (sRet (eC (.bl false))) sNx) sNx) sNx)) sNx))) (sSeq (sRet (eC (.bl true))) sNx)))) from
    (dss_cons (by exact (ds_if (db_not (db_of rfl (de_isi (T := .tup) rfl (pe_callB call_isiN (by rfl) b_isinstance PyProof.Rows.boot_isinstance (pa_cons (de_var (pv 0)) (pa_cons (pe_bltn (v := .ty "tuple") (by rfl) b_tuple boot_tuple_ rfl) pa_nil)))))) (dss_cons (by exact (ds_ret de_bl)) (by exact dss_nil)) dss_nil)) (by exact (dss_cons (by exact (ds_for po rfl (di_of rfl (de_var (pv 0))) (dg_name (pg_name (i := 1) sc_law_is_hands.nd rfl (Or.inl rfl))) (dss_cons (by exact (ds_if (db_not (db_of rfl (de_isi (T := .tup) rfl (pe_callB call_isiN (by rfl) b_isinstance PyProof.Rows.boot_isinstance (pa_cons (de_var (pv 1)) (pa_cons (pe_bltn (v := .ty "tuple") (by rfl) b_tuple boot_tuple_ rfl) pa_nil)))))) (dss_cons (by exact (ds_ret de_bl)) (by exact dss_nil)) dss_nil)) (by exact (dss_cons (by exact (ds_for po rfl (di_of rfl (de_var (pv 1))) (dg_name (pg_name (i := 2) sc_law_is_hands.nd rfl (Or.inl rfl))) (dss_cons (by exact (ds_if (db_w (dw_or (db_not (db_of rfl (de_isi (T := .int) rfl (pe_callB call_isiN (by rfl) b_isinstance PyProof.Rows.boot_isinstance (pa_cons (de_var (pv 2)) (pa_cons (pe_bltn (v := .ty "int") (by rfl) b_int boot_int_ rfl) pa_nil)))))) (dw_or1 (db_of rfl (de_isi (T := .bool) rfl (pe_callB call_isiN (by rfl) b_isinstance PyProof.Rows.boot_isinstance (pa_cons (de_var (pv 2)) (pa_cons (pe_bltn (v := .ty "bool") (by rfl) b_bool boot_bool_ rfl) pa_nil)))))))) (dss_cons (by exact (ds_ret de_bl)) (by exact dss_nil)) dss_nil)) (by exact dss_nil)))) (by exact dss_nil)))))) (by exact (dss_cons (by exact (ds_ret de_bl)) (by exact dss_nil)))))))
abbrev s_law_shares : Stmt := topS 35
theorem sc_law_shares : FnScope ["one", "other", "card"] ["one", "other"] (defScope s_law_shares) := ⟨rfl, rfl, rfl, by decide +kernel, rfl, by decide +kernel, by decide +kernel⟩
theorem ok_law_shares {P : Program} {G : Gx} {mg : Str → Option Value} {base : Heap} {Tbl : Nat → FD} {k : Nat} {fd : FuncData} (F : Fun G.K "_law_shares" "_law_shares" s_law_shares (G.fa 95) fd) (hTbl : Tbl 95 = fd_law_shares) (b_len : mg "len" = none) : FnOk P G.w G.K mg base (L2.CX P G.w) (k + 1) (G.fa 95) fd ["one", "other"] (spC G (callN Tbl (k + 1)) 95) :=
  fn_ok (C := callN Tbl k) fd_law_shares F sc_law_shares rfl rfl (fun ds st => by simp only [callN, hTbl]) (fun cdv A outer s H E hr tk po =>
    show DSs G _ _ (callN Tbl k) _ ((sSeq (sRet (eA (fun st ds => .ok (.int ds.length) st) (lLc (siOf (eV 0)) (gN 2) [2] (bCmp inB (eV 2) (eV 1)) (eV 2)))) sNx)) from
    (dss_cons (by exact (ds_ret (de_lenQ rfl (pe_callB call_lenA (by rfl) b_len PySem.boot_len (pa_cons (dq_tmp (dt_lc rfl sc_law_shares.nd (di_of rfl (de_var (pv 0))) (blkOk_by (own := [("card", 2)]) (by rfl)) (by decide) (fun _ _ _ _ _ => (dg_name (pg_name (i := 2) sc_law_shares.nd rfl (Or.inl rfl)))) (fun _ _ _ _ _ => (dts_one (db_in rfl hr (de_var (pv 2)) (de_var (pv 1))))) (fun _ _ _ _ _ => (de_var (pv 2))))) pa_nil))))) (by exact dss_nil)))
abbrev s_law_useful : Stmt := topS 36
theorem sc_law_useful : FnScope ["setting", "lot", "k", "j"] ["setting", "lot"] (defScope s_law_useful) := ⟨rfl, rfl, rfl, by decide +kernel, rfl, by decide +kernel, by decide +kernel⟩
theorem ok_law_useful {P : Program} {G : Gx} {mg : Str → Option Value} {base : Heap} {Tbl : Nat → FD} {k : Nat} {fd : FuncData} (F : Fun G.K "_law_useful" "_law_useful" s_law_useful (G.fa 139) fd) (hTbl : Tbl 139 = fd_law_useful) (h_law_shares : FnAt P G.w G mg base (callN Tbl k) k 95 "_law_shares") (b_len : mg "len" = none) (b_range : mg "range" = none) : FnOk P G.w G.K mg base (L2.CX P G.w) (k + 1) (G.fa 139) fd ["setting", "lot"] (spC G (callN Tbl (k + 1)) 139) :=
  fn_ok (C := callN Tbl k) fd_law_useful F sc_law_useful rfl rfl (fun ds st => by simp only [callN, hTbl]) (fun cdv A outer s H E hr tk po =>
    show DSs G _ _ (callN Tbl k) _ ((sSeq (sFor (siR1 (lCons (eU1 lenR (eV 1)) lNil)) (gN 2) (sSeq (sFor (siR1 (lCons (eV 2) lNil)) (gN 3) (sSeq (sIf (bCmp geD (eCall 95 (lCons (eB2 ixR (eV 1) (eV 3)) (lCons (eB2 ixR (eV 1) (eV 2)) lNil))) (eB2 subR (eB2 ixR (eV 0) (eC (.int 0))) (eB2 ixR (eV 0) (eC (.int 2))))) (sSeq (sRet (eC (.bl false))) sNx) sNx) sNx)) sNx)) (sSeq (sRet (eC (.bl true))) sNx))) from
    (dss_cons (by exact (ds_for po rfl (di_r1 (pi_range1 (by rfl) b_range (da_cons (de_len rfl (pe_callB call_lenA (by rfl) b_len PySem.boot_len (pa_cons (de_var (pv 1)) pa_nil))) da_nil))) (dg_name (pg_name (i := 2) sc_law_useful.nd rfl (Or.inl rfl))) (dss_cons (by exact (ds_for po rfl (di_r1 (pi_range1 (by rfl) b_range (da_cons (de_var (pv 2)) da_nil))) (dg_name (pg_name (i := 3) sc_law_useful.nd rfl (Or.inl rfl))) (dss_cons (by exact (ds_if (db_ge rfl hr (de_call h_law_shares rfl hr tk (by rfl) (da_cons (de_ix rfl (de_var (pv 1)) (de_var (pv 3))) (da_cons (de_ix rfl (de_var (pv 1)) (de_var (pv 2))) da_nil))) (de_sub (de_ix rfl (de_var (pv 0)) de_int) (de_ix rfl (de_var (pv 0)) de_int))) (dss_cons (by exact (ds_ret de_bl)) (by exact dss_nil)) dss_nil)) (by exact dss_nil)))) (by exact dss_nil)))) (by exact (dss_cons (by exact (ds_ret de_bl)) (by exact dss_nil)))))
abbrev s_is_row : Stmt := topS 13
theorem sc_is_row : FnScope ["thing", "total", "last", "card"] ["thing", "total"] (defScope s_is_row) := ⟨rfl, rfl, rfl, by decide +kernel, rfl, by decide +kernel, by decide +kernel⟩
theorem ok_is_row {P : Program} {G : Gx} {mg : Str → Option Value} {base : Heap} {Tbl : Nat → FD} {k : Nat} {fd : FuncData} (F : Fun G.K "is_row" "is_row" s_is_row (G.fa 15) fd) (hTbl : Tbl 15 = fd_is_row) (h_is_integer : FnAt P G.w G mg base (callN Tbl k) k 0 "is_integer") (b_tuple : mg "tuple" = none) (b_isinstance : mg "isinstance" = none) : FnOk P G.w G.K mg base (L2.CX P G.w) (k + 1) (G.fa 15) fd ["thing", "total"] (spC G (callN Tbl (k + 1)) 15) :=
  fn_ok (C := callN Tbl k) fd_is_row F sc_is_row rfl rfl (fun ds st => by simp only [callN, hTbl]) (fun cdv A outer s H E hr tk po =>
    show DSs G _ _ (callN Tbl k) _ ((sSeq (sIf (bNot (bOf (eU1 (isiR .tup) (eV 0)))) (sSeq (sRet (eC (.bl false))) sNx) sNx) (sSeq (sSet 2 (eU1 negR (eC (.int 1)))) (sSeq (sFor (siOf (eV 0)) (gN 3) (sSeq (sIf (bOr (bNot (bOf (eCall 0 (lCons (eV 3) lNil)))) (bOr (bCmp leD (eV 3) (eV 2)) (bCmp geD (eV 3) (eV 1)))) (sSeq (sRet (eC (.bl false))) sNx) sNx) (sSeq (sSet 2 (eV 3)) sNx))) (sSeq (sRet (eC (.bl true))) sNx))))) from
    (dss_cons (by exact (ds_if (db_not (db_of rfl (de_isi (T := .tup) rfl (pe_callB call_isiN (by rfl) b_isinstance PyProof.Rows.boot_isinstance (pa_cons (de_var (pv 0)) (pa_cons (pe_bltn (v := .ty "tuple") (by rfl) b_tuple boot_tuple_ rfl) pa_nil)))))) (dss_cons (by exact (ds_ret de_bl)) (by exact dss_nil)) dss_nil)) (by exact (dss_cons (by exact (ds_set (ps_set (i := 2) sc_is_row.nd rfl (Or.inl rfl) (de_neg de_int)))) (by exact (dss_cons (by exact (ds_for po rfl (di_of rfl (de_var (pv 0))) (dg_name (pg_name (i := 3) sc_is_row.nd rfl (Or.inl rfl))) (dss_cons (by exact (ds_if (db_w (dw_or (db_not (db_of rfl (de_call h_is_integer rfl hr tk (by rfl) (da_cons (de_var (pv 3)) da_nil)))) (dw_or (db_le rfl hr (de_var (pv 3)) (de_var (pv 2))) (dw_or1 (db_ge rfl hr (de_var (pv 3)) (de_var (pv 1))))))) (dss_cons (by exact (ds_ret de_bl)) (by exact dss_nil)) dss_nil)) (by exact (dss_cons (by exact (ds_set (ps_set (i := 2) sc_is_row.nd rfl (Or.inl rfl) (de_var (pv 3))))) (by exact dss_nil)))))) (by exact (dss_cons (by exact (ds_ret de_bl)) (by exact dss_nil)))))))))
abbrev s_is_hand : Stmt := topS 14
theorem sc_is_hand : FnScope ["setting", "thing"] ["setting", "thing"] (defScope s_is_hand) := ⟨rfl, rfl, rfl, by decide +kernel, rfl, by decide +kernel, by decide +kernel⟩
theorem ok_is_hand {P : Program} {G : Gx} {mg : Str → Option Value} {base : Heap} {Tbl : Nat → FD} {k : Nat} {fd : FuncData} (F : Fun G.K "is_hand" "is_hand" s_is_hand (G.fa 16) fd) (hTbl : Tbl 16 = fd_is_hand) (h_check_setting : FnAt P G.w G mg base (callN Tbl k) k 2 "check_setting") (h_is_row : FnAt P G.w G mg base (callN Tbl k) k 15 "is_row") (b_sum : mg "sum" = none) (b_len : mg "len" = none) : FnOk P G.w G.K mg base (L2.CX P G.w) (k + 1) (G.fa 16) fd ["setting", "thing"] (spC G (callN Tbl (k + 1)) 16) :=
  fn_ok (C := callN Tbl k) fd_is_hand F sc_is_hand rfl rfl (fun ds st => by simp only [callN, hTbl]) (fun cdv A outer s H E hr tk po =>
    show DSs G _ _ (callN Tbl k) _ ((sSeq (sExp (eCall 2 (lCons (eV 0) lNil))) (sSeq (sRet (eAnd (eCall 15 (lCons (eV 1) (lCons (eA sumQ (lSeq (eV 0))) lNil))) (eB2 (cB eqB) (eU1 lenR (eV 1)) (eB2 ixR (eV 0) (eC (.int 0)))))) sNx))) from
    (dss_cons (by exact (ds_exp (de_call h_check_setting rfl hr tk (by rfl) (da_cons (de_var (pv 0)) da_nil)))) (by exact (dss_cons (by exact (ds_ret (de_and rfl (de_call h_is_row rfl hr tk (by rfl) (da_cons (de_var (pv 1)) (da_cons (de_sum rfl (pe_callB (cr_sumA rfl) (by rfl) b_sum PyProof.Rows.boot_sum (pa_cons (dq_of (de_var (pv 0))) pa_nil))) da_nil))) (de_one (de_eq rfl (hu64 hr) (de_len rfl (pe_callB call_lenA (by rfl) b_len PySem.boot_len (pa_cons (de_var (pv 1)) pa_nil))) (de_ix rfl (de_var (pv 0)) de_int)))))) (by exact dss_nil)))))
abbrev s_is_lot : Stmt := topS 15
theorem sc_is_lot : FnScope ["setting", "thing", "hand", "first", "second"] ["setting", "thing"] (defScope s_is_lot) := ⟨rfl, rfl, rfl, by decide +kernel, rfl, by decide +kernel, by decide +kernel⟩
theorem ok_is_lot {P : Program} {G : Gx} {mg : Str → Option Value} {base : Heap} {Tbl : Nat → FD} {k : Nat} {fd : FuncData} (F : Fun G.K "is_lot" "is_lot" s_is_lot (G.fa 34) fd) (hTbl : Tbl 34 = fd_is_lot) (h_check_setting : FnAt P G.w G mg base (callN Tbl k) k 2 "check_setting") (h_is_hand : FnAt P G.w G mg base (callN Tbl k) k 16 "is_hand") (b_tuple : mg "tuple" = none) (b_isinstance : mg "isinstance" = none) (b_len : mg "len" = none) (b_zip : mg "zip" = none) {t_MOST_HANDS : Tok} (g_MOST_HANDS : mg "MOST_HANDS" = some (.int 60 t_MOST_HANDS)) : FnOk P G.w G.K mg base (L2.CX P G.w) (k + 1) (G.fa 34) fd ["setting", "thing"] (spC G (callN Tbl (k + 1)) 34) :=
  fn_ok (C := callN Tbl k) fd_is_lot F sc_is_lot rfl rfl (fun ds st => by simp only [callN, hTbl]) (fun cdv A outer s H E hr tk po =>
    show DSs G _ _ (callN Tbl k) _ ((sSeq (sExp (eCall 2 (lCons (eV 0) lNil))) (sSeq (sIf (bOr (bNot (bOf (eU1 (isiR .tup) (eV 1)))) (bOr (bCmp ltD (eU1 lenR (eV 1)) (eC (.int 1))) (bCmp gtD (eU1 lenR (eV 1)) (eC (.int 60))))) (sSeq (sRet (eC (.bl false))) sNx) sNx) (sSeq (sFor (siOf (eV 1)) (gN 2) (sSeq (sIf (bNot (bOf (eCall 16 (lCons (eV 0) (lCons (eV 2) lNil))))) (sSeq (sRet (eC (.bl false))) sNx) sNx) sNx)) (sSeq (sFor (siZip (kOf (eV 1)) (kOf (eSl (eV 1) (oSome (eC (.int 1))) oNone))) (gTup [(gN 3), (gN 4)]) (sSeq (sIf (bCmp geD (eV 3) (eV 4)) (sSeq (sRet (eC (.bl false))) sNx) sNx) sNx)) (sSeq (sRet (eC (.bl true))) sNx)))))) from
    (dss_cons (by exact (ds_exp (de_call h_check_setting rfl hr tk (by rfl) (da_cons (de_var (pv 0)) da_nil)))) (by exact (dss_cons (by exact (ds_if (db_w (dw_or (db_not (db_of rfl (de_isi (T := .tup) rfl (pe_callB call_isiN (by rfl) b_isinstance PyProof.Rows.boot_isinstance (pa_cons (de_var (pv 1)) (pa_cons (pe_bltn (v := .ty "tuple") (by rfl) b_tuple boot_tuple_ rfl) pa_nil)))))) (dw_or (db_lt rfl hr (de_len rfl (pe_callB call_lenA (by rfl) b_len PySem.boot_len (pa_cons (de_var (pv 1)) pa_nil))) de_int) (dw_or1 (db_gt rfl hr (de_len rfl (pe_callB call_lenA (by rfl) b_len PySem.boot_len (pa_cons (de_var (pv 1)) pa_nil))) (de_globI (by rfl) g_MOST_HANDS)))))) (dss_cons (by exact (ds_ret de_bl)) (by exact dss_nil)) dss_nil)) (by exact (dss_cons (by exact (ds_for po rfl (di_of rfl (de_var (pv 1))) (dg_name (pg_name (i := 2) sc_is_lot.nd rfl (Or.inl rfl))) (dss_cons (by exact (ds_if (db_not (db_of rfl (de_call h_is_hand rfl hr tk (by rfl) (da_cons (de_var (pv 0)) (da_cons (de_var (pv 2)) da_nil))))) (dss_cons (by exact (ds_ret de_bl)) (by exact dss_nil)) dss_nil)) (by exact dss_nil)))) (by exact (dss_cons (by exact (ds_for po rfl (di_zip rfl b_zip (kk_of (de_var (pv 1))) (kk_of (de_sl rfl (de_var (pv 1)) (do_some de_int) do_none))) (dg_tup rfl rfl (dgs_cons (dg_name (pg_name (i := 3) sc_is_lot.nd rfl (Or.inl rfl))) (dgs_cons (dg_name (pg_name (i := 4) sc_is_lot.nd rfl (Or.inl rfl))) dgs_nil))) (dss_cons (by exact (ds_if (db_ge rfl hr (de_var (pv 3)) (de_var (pv 4))) (dss_cons (by exact (ds_ret de_bl)) (by exact dss_nil)) dss_nil)) (by exact dss_nil)))) (by exact (dss_cons (by exact (ds_ret de_bl)) (by exact dss_nil)))))))))))
abbrev s_check_lot : Stmt := topS 16
theorem sc_check_lot : FnScope ["setting", "lot"] ["setting", "lot"] (defScope s_check_lot) := ⟨rfl, rfl, rfl, by decide +kernel, rfl, by decide +kernel, by decide +kernel⟩
theorem ok_check_lot {P : Program} {G : Gx} {mg : Str → Option Value} {base : Heap} {Tbl : Nat → FD} {k : Nat} {fd : FuncData} (F : Fun G.K "check_lot" "check_lot" s_check_lot (G.fa 35) fd) (hTbl : Tbl 35 = fd_check_lot) (h_is_lot : FnAt P G.w G mg base (callN Tbl k) k 34 "is_lot") (e_BadLot : ExAt G.K mg G 4 "BadLot") : FnOk P G.w G.K mg base (L2.CX P G.w) (k + 1) (G.fa 35) fd ["setting", "lot"] (spC G (callN Tbl (k + 1)) 35) :=
  fn_ok (C := callN Tbl k) fd_check_lot F sc_check_lot rfl rfl (fun ds st => by simp only [callN, hTbl]) (fun cdv A outer s H E hr tk po =>
    show DSs G _ _ (callN Tbl k) _ ((sSeq (sIf (bNot (bOf (eCall 34 (lCons (eV 0) (lCons (eV 1) lNil))))) (sSeq (sRaise 4) sNx) sNx) sNx)) from
    (dss_cons (by exact (ds_if (db_not (db_of rfl (de_call h_is_lot rfl hr tk (by rfl) (da_cons (de_var (pv 0)) (da_cons (de_var (pv 1)) da_nil))))) (dss_cons (by exact (ds_raise rfl tk e_BadLot (by rfl))) (by exact dss_nil)) dss_nil)) (by exact dss_nil)))
abbrev s_pairs_of : Stmt := topS 22
theorem sc_pairs_of : FnScope ["lot", "pairs", "at", "hand", "other"] ["lot"] (defScope s_pairs_of) := ⟨rfl, rfl, rfl, by decide +kernel, rfl, by decide +kernel, by decide +kernel⟩
theorem ok_pairs_of {P : Program} {G : Gx} {mg : Str → Option Value} {base : Heap} {Tbl : Nat → FD} {k : Nat} {fd : FuncData} (F : Fun G.K "pairs_of" "pairs_of" s_pairs_of (G.fa 38) fd) (hTbl : Tbl 38 = fd_pairs_of) (b_enumerate : mg "enumerate" = none) : FnOk P G.w G.K mg base (L2.CX P G.w) (k + 1) (G.fa 38) fd ["lot"] (spC G (callN Tbl (k + 1)) 38) :=
  fn_ok (C := callN Tbl k) fd_pairs_of F sc_pairs_of rfl rfl (fun ds st => by simp only [callN, hTbl]) (fun cdv A outer s H E hr tk po =>
    show DSs G _ _ (callN Tbl k) _ ((sSeq (sSet 1 (eNew (lLst lNil))) (sSeq (sFor (siEnum (siOf (eV 0))) (gTup [(gN 2), (gN 3)]) (sSeq (sFor (siOf (eSl (eV 0) (oSome (eB2 addR (eV 2) (eC (.int 1)))) oNone)) (gN 4) (sSeq (sExp (eM appendR (eV 1) (lCons (eTup (lCons (eV 3) (lCons (eV 4) lNil))) lNil))) sNx)) sNx)) (sSeq (sRet (eV 1)) sNx)))) from
    (dss_cons (by exact (ds_set (ps_set (i := 1) sc_pairs_of.nd rfl (Or.inl rfl) (de_new (dt_lst da_nil))))) (by exact (dss_cons (by exact (ds_for po rfl (di_enum rfl b_enumerate (dk_of (de_var (pv 0)))) (dg_tup rfl rfl (dgs_cons (dg_name (pg_name (i := 2) sc_pairs_of.nd rfl (Or.inl rfl))) (dgs_cons (dg_name (pg_name (i := 3) sc_pairs_of.nd rfl (Or.inl rfl))) dgs_nil))) (dss_cons (by exact (ds_for po rfl (di_of rfl (de_sl rfl (de_var (pv 0)) (do_some (de_add rfl (de_var (pv 2)) de_int)) do_none)) (dg_name (pg_name (i := 4) sc_pairs_of.nd rfl (Or.inl rfl))) (dss_cons (by exact (ds_exp (de_m rfl (pe_bm PySem.F.plainAttrs_list PySem.F.slot_list_append PySem.F.type_list_append mt_append (de_var (pv 1)) (da_cons (de_tup (da_cons (de_var (pv 3)) (da_cons (de_var (pv 4)) da_nil))) da_nil)) brm_append))) (by exact dss_nil)))) (by exact dss_nil)))) (by exact (dss_cons (by exact (ds_ret (de_var (pv 1)))) (by exact dss_nil)))))))
abbrev s_count_common : Stmt := topS 21
theorem sc_count_common : FnScope ["hand", "other", "card"] ["hand", "other"] (defScope s_count_common) := ⟨rfl, rfl, rfl, by decide +kernel, rfl, by decide +kernel, by decide +kernel⟩
theorem ok_count_common {P : Program} {G : Gx} {mg : Str → Option Value} {base : Heap} {Tbl : Nat → FD} {k : Nat} {fd : FuncData} (F : Fun G.K "count_common" "count_common" s_count_common (G.fa 37) fd) (hTbl : Tbl 37 = fd_count_common) (b_len : mg "len" = none) : FnOk P G.w G.K mg base (L2.CX P G.w) (k + 1) (G.fa 37) fd ["hand", "other"] (spC G (callN Tbl (k + 1)) 37) :=
  fn_ok (C := callN Tbl k) fd_count_common F sc_count_common rfl rfl (fun ds st => by simp only [callN, hTbl]) (fun cdv A outer s H E hr tk po =>
    show DSs G _ _ (callN Tbl k) _ ((sSeq (sRet (eA (fun st ds => .ok (.int ds.length) st) (lLc (siOf (eV 0)) (gN 2) [2] (bCmp inB (eV 2) (eV 1)) (eV 2)))) sNx)) from
    (dss_cons (by exact (ds_ret (de_lenQ rfl (pe_callB call_lenA (by rfl) b_len PySem.boot_len (pa_cons (dq_tmp (dt_lc rfl sc_count_common.nd (di_of rfl (de_var (pv 0))) (blkOk_by (own := [("card", 2)]) (by rfl)) (by decide) (fun _ _ _ _ _ => (dg_name (pg_name (i := 2) sc_count_common.nd rfl (Or.inl rfl)))) (fun _ _ _ _ _ => (dts_one (db_in rfl hr (de_var (pv 2)) (de_var (pv 1))))) (fun _ _ _ _ _ => (de_var (pv 2))))) pa_nil))))) (by exact dss_nil)))
abbrev s_others : Stmt := topS 18
theorem sc_others : FnScope ["setting", "cards", "card"] ["setting", "cards"] (defScope s_others) := ⟨rfl, rfl, rfl, by decide +kernel, rfl, by decide +kernel, by decide +kernel⟩
theorem ok_others {P : Program} {G : Gx} {mg : Str → Option Value} {base : Heap} {Tbl : Nat → FD} {k : Nat} {fd : FuncData} (F : Fun G.K "others" "others" s_others (G.fa 36) fd) (hTbl : Tbl 36 = fd_others) (b_sum : mg "sum" = none) (b_range : mg "range" = none) (b_tuple : mg "tuple" = none) : FnOk P G.w G.K mg base (L2.CX P G.w) (k + 1) (G.fa 36) fd ["setting", "cards"] (spC G (callN Tbl (k + 1)) 36) :=
  fn_ok (C := callN Tbl k) fd_others F sc_others rfl rfl (fun ds st => by simp only [callN, hTbl]) (fun cdv A outer s H E hr tk po =>
    show DSs G _ _ (callN Tbl k) _ ((sSeq (sRet (eA tupQ (lLc (siR1 (lCons (eA sumQ (lSeq (eV 0))) lNil)) (gN 2) [2] (bCmp ninB (eV 2) (eV 1)) (eV 2)))) sNx)) from
    (dss_cons (by exact (ds_ret (de_tupQ rfl (pe_callTy call_tuple_of (by rfl) b_tuple PyProof.Rows.boot_tuple (pa_cons (dq_tmp (dt_lc rfl sc_others.nd (di_r1 (pi_range1 (by rfl) b_range (da_cons (de_sum rfl (pe_callB (cr_sumA rfl) (by rfl) b_sum PyProof.Rows.boot_sum (pa_cons (dq_of (de_var (pv 0))) pa_nil))) da_nil))) (blkOk_by (own := [("card", 2)]) (by rfl)) (by decide) (fun _ _ _ _ _ => (dg_name (pg_name (i := 2) sc_others.nd rfl (Or.inl rfl)))) (fun _ _ _ _ _ => (dts_one (db_nin rfl hr (de_var (pv 2)) (de_var (pv 1))))) (fun _ _ _ _ _ => (de_var (pv 2))))) pa_nil))))) (by exact dss_nil)))
abbrev s_blur : Stmt := topS 23
theorem sc_blur : FnScope ["setting", "lot", "hand", "other", "rest"] ["setting", "lot"] (defScope s_blur) := ⟨rfl, rfl, rfl, by decide +kernel, rfl, by decide +kernel, by decide +kernel⟩
theorem ok_blur {P : Program} {G : Gx} {mg : Str → Option Value} {base : Heap} {Tbl : Nat → FD} {k : Nat} {fd : FuncData} (F : Fun G.K "blur" "blur" s_blur (G.fa 39) fd) (hTbl : Tbl 39 = fd_blur) (h_check_lot : FnAt P G.w G mg base (callN Tbl k) k 35 "check_lot") (h_pairs_of : FnAt P G.w G mg base (callN Tbl k) k 38 "pairs_of") (h_count_common : FnAt P G.w G mg base (callN Tbl k) k 37 "count_common") (h_others : FnAt P G.w G mg base (callN Tbl k) k 36 "others") : FnOk P G.w G.K mg base (L2.CX P G.w) (k + 1) (G.fa 39) fd ["setting", "lot"] (spC G (callN Tbl (k + 1)) 39) :=
  fn_ok (C := callN Tbl k) fd_blur F sc_blur rfl rfl (fun ds st => by simp only [callN, hTbl]) (fun cdv A outer s H E hr tk po =>
    show DSs G _ _ (callN Tbl k) _ ((sSeq (sExp (eCall 35 (lCons (eV 0) (lCons (eV 1) lNil)))) (sSeq (sFor (siOf (eCall 38 (lCons (eV 1) lNil))) (gTup [(gN 2), (gN 3)]) (sSeq (sIf (bCmp geD (eCall 37 (lCons (eV 2) (lCons (eV 3) lNil))) (eB2 subR (eB2 ixR (eV 0) (eC (.int 0))) (eB2 ixR (eV 0) (eC (.int 2))))) (sSeq (sSet 4 (eCall 36 (lCons (eV 0) (lCons (eB2 addR (eV 2) (eV 3)) lNil)))) (sSeq (sRet (eTup (lCons (eV 2) (lCons (eV 3) (lCons (eSl (eV 4) oNone (oSome (eB2 ixR (eV 0) (eC (.int 1))))) lNil))))) sNx)) sNx) sNx)) (sSeq (sRet (eC .non)) sNx)))) from
    (dss_cons (by exact (ds_exp (de_call h_check_lot rfl hr tk (by rfl) (da_cons (de_var (pv 0)) (da_cons (de_var (pv 1)) da_nil))))) (by exact (dss_cons (by exact (ds_for po rfl (di_of rfl (de_call h_pairs_of rfl hr tk (by rfl) (da_cons (de_var (pv 1)) da_nil))) (dg_tup rfl rfl (dgs_cons (dg_name (pg_name (i := 2) sc_blur.nd rfl (Or.inl rfl))) (dgs_cons (dg_name (pg_name (i := 3) sc_blur.nd rfl (Or.inl rfl))) dgs_nil))) (dss_cons (by exact (ds_if (db_ge rfl hr (de_call h_count_common rfl hr tk (by rfl) (da_cons (de_var (pv 2)) (da_cons (de_var (pv 3)) da_nil))) (de_sub (de_ix rfl (de_var (pv 0)) de_int) (de_ix rfl (de_var (pv 0)) de_int))) (dss_cons (by exact (ds_set (ps_set (i := 4) sc_blur.nd rfl (Or.inl rfl) (de_call h_others rfl hr tk (by rfl) (da_cons (de_var (pv 0)) (da_cons (de_add rfl (de_var (pv 2)) (de_var (pv 3))) da_nil)))))) (by exact (dss_cons (by exact (ds_ret (de_tup (da_cons (de_var (pv 2)) (da_cons (de_var (pv 3)) (da_cons (de_sl rfl (de_var (pv 4)) do_none (do_some (de_ix rfl (de_var (pv 0)) de_int))) da_nil)))))) (by exact dss_nil)))) dss_nil)) (by exact dss_nil)))) (by exact (dss_cons (by exact (ds_ret de_non)) (by exact dss_nil)))))))
abbrev s_is_useful : Stmt := topS 24
theorem sc_is_useful : FnScope ["setting", "lot"] ["setting", "lot"] (defScope s_is_useful) := ⟨rfl, rfl, rfl, by decide +kernel, rfl, by decide +kernel, by decide +kernel⟩
theorem ok_is_useful {P : Program} {G : Gx} {mg : Str → Option Value} {base : Heap} {Tbl : Nat → FD} {k : Nat} {fd : FuncData} (F : Fun G.K "is_useful" "is_useful" s_is_useful (G.fa 40) fd) (hTbl : Tbl 40 = fd_is_useful) (h_blur : FnAt P G.w G mg base (callN Tbl k) k 39 "blur") : FnOk P G.w G.K mg base (L2.CX P G.w) (k + 1) (G.fa 40) fd ["setting", "lot"] (spC G (callN Tbl (k + 1)) 40) :=
  fn_ok (C := callN Tbl k) fd_is_useful F sc_is_useful rfl rfl (fun ds st => by simp only [callN, hTbl]) (fun cdv A outer s H E hr tk po =>
    show DSs G _ _ (callN Tbl k) _ ((sSeq (sRet (eB2 (cB isB) (eCall 39 (lCons (eV 0) (lCons (eV 1) lNil))) (eC .non))) sNx)) from
    (dss_cons (by exact (ds_ret (de_is (de_call h_blur rfl hr tk (by rfl) (da_cons (de_var (pv 0)) (da_cons (de_var (pv 1)) da_nil))) de_non))) (by exact dss_nil)))
abbrev s_law_order : Stmt := topS 37
theorem sc_law_order : FnScope ["xs", "total", "order", "card"] ["xs", "total"] (defScope s_law_order) := ⟨rfl, rfl, rfl, by decide +kernel, rfl, by decide +kernel, by decide +kernel⟩
theorem ok_law_order {P : Program} {G : Gx} {mg : Str → Option Value} {base : Heap} {Tbl : Nat → FD} {k : Nat} {fd : FuncData} (F : Fun G.K "_law_order" "_law_order" s_law_order (G.fa 24) fd) (hTbl : Tbl 24 = fd_law_order) (b_range : mg "range" = none) (b_len : mg "len" = none) : FnOk P G.w G.K mg base (L2.CX P G.w) (k + 1) (G.fa 24) fd ["xs", "total"] (spC G (callN Tbl (k + 1)) 24) :=
  fn_ok (C := callN Tbl k) fd_law_order F sc_law_order rfl rfl (fun ds st => by simp only [callN, hTbl]) (fun cdv A outer s H E hr tk po =>
    show DSs G _ _ (callN Tbl k) _ ((sSeq (sSet 2 (eNew (lLst lNil))) (sSeq (sFor (siR1 (lCons (eV 1) lNil)) (gN 3) (sSeq (sExp (eM insertR (eV 2) (lCons (eB2 modR (eB2 ixR (eV 0) (eV 3)) (eB2 addR (eU1 lenR (eV 2)) (eC (.int 1)))) (lCons (eV 3) lNil)))) sNx)) (sSeq (sRet (eV 2)) sNx)))) from
    (dss_cons (by exact (ds_set (ps_set (i := 2) sc_law_order.nd rfl (Or.inl rfl) (de_new (dt_lst da_nil))))) (by exact (dss_cons (by exact (ds_for po rfl (di_r1 (pi_range1 (by rfl) b_range (da_cons (de_var (pv 1)) da_nil))) (dg_name (pg_name (i := 3) sc_law_order.nd rfl (Or.inl rfl))) (dss_cons (by exact (ds_exp (de_m rfl (pe_bm PySem.F.plainAttrs_list PySem.F.slot_list_insert PySem.F.type_list_insert mt_insert (de_var (pv 2)) (da_cons (de_mod (de_ix rfl (de_var (pv 0)) (de_var (pv 3))) (de_add rfl (de_len rfl (pe_callB call_lenA (by rfl) b_len PySem.boot_len (pa_cons (de_var (pv 2)) pa_nil))) de_int)) (da_cons (de_var (pv 3)) da_nil))) brm_insert))) (by exact dss_nil)))) (by exact (dss_cons (by exact (ds_ret (de_var (pv 2)))) (by exact dss_nil)))))))
abbrev s_law_v23 : Stmt := topS 42
theorem sc_law_v23 : FnScope ["script", "xs", "setting", "turns", "total", "prime", "k", "ys", "hand", "other", "rests", "lot", "one"] ["script"] (defScope s_law_v23) := ⟨rfl, rfl, rfl, by decide +kernel, rfl, by decide +kernel, by decide +kernel⟩
theorem ok_law_v23 {P : Program} {G : Gx} {mg : Str → Option Value} {base : Heap} {Tbl : Nat → FD} {k : Nat} {fd : FuncData} (F : Fun G.K "law" "law" s_law_v23 (G.fa 146) fd) (hTbl : Tbl 146 = fd_law_v23) (h_law_cell_at : FnAt P G.w G mg base (callN Tbl k) k 21 "_law_cell_at") (h_law_draws : FnAt P G.w G mg base (callN Tbl k) k 22 "_law_draws") (h_law_setting : FnAt P G.w G mg base (callN Tbl k) k 23 "_law_setting") (h_law_great : FnAt P G.w G mg base (callN Tbl k) k 145 "_law_great") (h_law_prime : FnAt P G.w G mg base (callN Tbl k) k 88 "_law_prime") (h_law_order : FnAt P G.w G mg base (callN Tbl k) k 24 "_law_order") (h_law_rests_v2 : FnAt P G.w G mg base (callN Tbl k) k 87 "_law_rests") (h_power_lot : FnAt P G.w G mg base (callN Tbl k) k 144 "power_lot") (h_law_is_hands : FnAt P G.w G mg base (callN Tbl k) k 89 "_law_is_hands") (h_law_useful : FnAt P G.w G mg base (callN Tbl k) k 139 "_law_useful") (h_is_useful : FnAt P G.w G mg base (callN Tbl k) k 40 "is_useful") (b_len : mg "len" = none) (b_min : mg "min" = none) (b_max : mg "max" = none) (b_sum : mg "sum" = none) (b_range : mg "range" = none) (b_sorted : mg "sorted" = none) (b_tuple : mg "tuple" = none) (b_list : mg "list" = none) (b_set : mg "set" = none) : FnOk P G.w G.K mg base (L2.CX P G.w) (k + 1) (G.fa 146) fd ["script"] (spC G (callN Tbl (k + 1)) 146) :=
  fn_ok (C := callN Tbl k) fd_law_v23 F sc_law_v23 rfl rfl (fun ds st => by simp only [callN, hTbl]) (fun cdv A outer s H E hr tk po =>
    show DSs G _ _ (callN Tbl k) _ ((sSeq (sSet 1 (eCall 22 (lCons (eCall 21 (lCons (eV 0) (lCons (eC (.int 0)) lNil))) (lCons (eC (.int 8)) lNil)))) (sSeq (sSet 2 (eCall 23 (lCons (eSl (eV 1) oNone (oSome (eC (.int 3)))) (lCons (eC (.int 9)) lNil)))) (sSeq (sSet 3 (eA max2 (lCons (eC (.int 1)) (lCons (eA min2 (lCons (eC (.int 8)) (lCons (eB2 subR (eU1 lenR (eV 0)) (eC (.int 1))) lNil))) lNil)))) (sSeq (sIf (bCmp eqB (eB2 modR (eB2 ixR (eV 1) (eC (.int 3))) (eC (.int 4))) (eC (.int 1))) (sSeq (sSet 2 (eCall 145 (lCons (eSl (eV 1) (oSome (eC (.int 4))) oNone) lNil))) (sSeq (sSet 3 (eA min2 (lCons (eC (.int 2)) (lCons (eV 3) lNil)))) sNx)) sNx) (sSeq (sSet 4 (eA sumQ (lSeq (eV 2)))) (sSeq (sSet 5 (eCall 88 (lCons (eV 4) lNil))) (sSeq (sFor (siR1 (lCons (eV 3) lNil)) (gN 6) (sSeq (sSet 7 (eCall 22 (lCons (eCall 21 (lCons (eV 0) (lCons (eB2 addR (eC (.int 1)) (eV 6)) lNil))) (lCons (eC (.int 26)) lNil)))) (sSeq (sSet 8 (eA tupQ (lSorted (lSeq (eSl (eCall 24 (lCons (eSl (eV 7) oNone (oSome (eC (.int 13)))) (lCons (eV 4) lNil))) oNone (oSome (eB2 ixR (eV 2) (eC (.int 0))))))))) (sSeq (sSet 9 (eA tupQ (lSorted (lSeq (eSl (eCall 24 (lCons (eSl (eV 7) (oSome (eC (.int 13))) oNone) (lCons (eV 4) lNil))) oNone (oSome (eB2 ixR (eV 2) (eC (.int 0))))))))) (sSeq (sSet 10 (eCall 87 (lCons (eV 8) (lCons (eB2 ixR (eV 2) (eC (.int 2))) (lCons (eV 5) lNil))))) (sSeq (sSet 11 (eCall 144 (lCons (eV 2) (lCons (eV 10) lNil)))) (sSeq (sIf (bOr (bNot (bOf (eCall 89 (lCons (eV 11) lNil)))) (bOr (bCmp ninB (eV 8) (eV 11)) (bCmp neB (eNew (lMap (fun _ ds => some ds) (lSeq (eV 11)))) (eNew (lSortedSet (lSeqT (eV 11))))))) (sSeq (sRet (eC (.bl false))) sNx) sNx) (sSeq (sIf (bCmp gtD (eA (fun st ds => .ok (.int ds.length) st) (lLc (siOf (eV 11)) (gN 12) [12] (bOr (bCmp neB (eU1 lenR (eV 12)) (eB2 ixR (eV 2) (eC (.int 0)))) (bCmp neB (eCall 87 (lCons (eV 12) (lCons (eB2 ixR (eV 2) (eC (.int 2))) (lCons (eV 5) lNil)))) (eV 10))) (eV 12))) (eC (.int 0))) (sSeq (sRet (eC (.bl false))) sNx) sNx) (sSeq (sIf (bCmp neB (eB2 (cB inB) (eV 9) (eV 11)) (eB2 (cB eqB) (eCall 87 (lCons (eV 9) (lCons (eB2 ixR (eV 2) (eC (.int 2))) (lCons (eV 5) lNil)))) (eV 10))) (sSeq (sRet (eC (.bl false))) sNx) sNx) (sSeq (sIf (bOr (bNot (bOf (eCall 139 (lCons (eV 2) (lCons (eV 11) lNil))))) (bCmp isnB (eCall 40 (lCons (eV 2) (lCons (eV 11) lNil))) (eC (.bl true)))) (sSeq (sRet (eC (.bl false))) sNx) sNx) sNx)))))))))) (sSeq (sRet (eC (.bl true))) sNx))))))))) from
    (dss_cons (by exact (ds_set (ps_set (i := 1) sc_law_v23.nd rfl (Or.inl rfl) (de_call h_law_draws rfl hr tk (by rfl) (da_cons (de_call h_law_cell_at rfl hr tk (by rfl) (da_cons (de_var (pv 0)) (da_cons de_int da_nil))) (da_cons de_int da_nil)))))) (by exact (dss_cons (by exact (ds_set (ps_set (i := 2) sc_law_v23.nd rfl (Or.inr rfl) (de_call h_law_setting rfl hr tk (by rfl) (da_cons (de_sl rfl (de_var (pv 1)) do_none (do_some de_int)) (da_cons de_int da_nil)))))) (by exact (dss_cons (by exact (ds_set (ps_set (i := 3) sc_law_v23.nd rfl (Or.inl rfl) (de_cA (pe_callB (call_max2 rfl) (by rfl) b_max PyProof.Rows.boot_max (da_cons de_int (da_cons (de_cA (pe_callB (call_min2 rfl) (by rfl) b_min PyProof.Rows.boot_min (da_cons de_int (da_cons (de_sub (de_len rfl (pe_callB call_lenA (by rfl) b_len PySem.boot_len (pa_cons (de_var (pv 0)) pa_nil))) de_int) da_nil))) bra_min2) da_nil))) bra_max2)))) (by exact (dss_cons (by exact (ds_if (db_eq rfl (hu64 hr) (de_mod (de_ix rfl (de_var (pv 1)) de_int) de_int) de_int) (dss_cons (by exact (ds_set (ps_set (i := 2) sc_law_v23.nd rfl (Or.inr rfl) (de_call h_law_great rfl hr tk (by rfl) (da_cons (de_sl rfl (de_var (pv 1)) (do_some de_int) do_none) da_nil))))) (by exact (dss_cons (by exact (ds_set (ps_set (i := 3) sc_law_v23.nd rfl (Or.inl rfl) (de_cA (pe_callB (call_min2 rfl) (by rfl) b_min PyProof.Rows.boot_min (da_cons de_int (da_cons (de_var (pv 3)) da_nil))) bra_min2)))) (by exact dss_nil)))) dss_nil)) (by exact (dss_cons (by exact (ds_set (ps_set (i := 4) sc_law_v23.nd rfl (Or.inl rfl) (de_sum rfl (pe_callB (cr_sumA rfl) (by rfl) b_sum PyProof.Rows.boot_sum (pa_cons (dq_of (de_var (pv 2))) pa_nil)))))) (by exact (dss_cons (by exact (ds_set (ps_set (i := 5) sc_law_v23.nd rfl (Or.inr rfl) (de_call h_law_prime rfl hr tk (by rfl) (da_cons (de_var (pv 4)) da_nil))))) (by exact (dss_cons (by exact (ds_for po rfl (di_r1 (pi_range1 (by rfl) b_range (da_cons (de_var (pv 3)) da_nil))) (dg_name (pg_name (i := 6) sc_law_v23.nd rfl (Or.inl rfl))) (dss_cons (by exact (ds_set (ps_set (i := 7) sc_law_v23.nd rfl (Or.inl rfl) (de_call h_law_draws rfl hr tk (by rfl) (da_cons (de_call h_law_cell_at rfl hr tk (by rfl) (da_cons (de_var (pv 0)) (da_cons (de_add rfl de_int (de_var (pv 6))) da_nil))) (da_cons de_int da_nil)))))) (by exact (dss_cons (by exact (ds_set (ps_set (i := 8) sc_law_v23.nd rfl (Or.inl rfl) (de_tupQ rfl (pe_callTy call_tuple_of (by rfl) b_tuple PyProof.Rows.boot_tuple (pa_cons (dq_tmp (dt_sorted (pe_callB (cr_sortD rfl hr) (by rfl) b_sorted PyProof.Rows.boot_sorted (pa_cons (dq_of (de_sl rfl (de_call h_law_order rfl hr tk (by rfl) (da_cons (de_sl rfl (de_var (pv 7)) do_none (do_some de_int)) (da_cons (de_var (pv 4)) da_nil))) do_none (do_some (de_ix rfl (de_var (pv 2)) de_int)))) pa_nil)))) pa_nil)))))) (by exact (dss_cons (by exact (ds_set (ps_set (i := 9) sc_law_v23.nd rfl (Or.inl rfl) (de_tupQ rfl (pe_callTy call_tuple_of (by rfl) b_tuple PyProof.Rows.boot_tuple (pa_cons (dq_tmp (dt_sorted (pe_callB (cr_sortD rfl hr) (by rfl) b_sorted PyProof.Rows.boot_sorted (pa_cons (dq_of (de_sl rfl (de_call h_law_order rfl hr tk (by rfl) (da_cons (de_sl rfl (de_var (pv 7)) (do_some de_int) do_none) (da_cons (de_var (pv 4)) da_nil))) do_none (do_some (de_ix rfl (de_var (pv 2)) de_int)))) pa_nil)))) pa_nil)))))) (by exact (dss_cons (by exact (ds_set (ps_set (i := 10) sc_law_v23.nd rfl (Or.inr rfl) (de_call h_law_rests_v2 rfl hr tk (by rfl) (da_cons (de_var (pv 8)) (da_cons (de_ix rfl (de_var (pv 2)) de_int) (da_cons (de_var (pv 5)) da_nil))))))) (by exact (dss_cons (by exact (ds_set (ps_set (i := 11) sc_law_v23.nd rfl (Or.inl rfl) (de_call h_power_lot rfl hr tk (by rfl) (da_cons (de_var (pv 2)) (da_cons (de_var (pv 10)) da_nil)))))) (by exact (dss_cons (by exact (ds_if (db_w (dw_or (db_not (db_of rfl (de_call h_law_is_hands rfl hr tk (by rfl) (da_cons (de_var (pv 11)) da_nil)))) (dw_or (db_nin rfl hr (de_var (pv 8)) (de_var (pv 11))) (dw_or1 (db_ne rfl (hu64 hr) (de_new (dt_list rfl (pe_callTy call_list_of (by rfl) b_list PyProof.Rows.boot_list (pa_cons (dq_of (de_var (pv 11))) pa_nil)))) (de_new (dt_sortedSetT rfl (pe_callB (cr_sortedT rfl) (by rfl) b_sorted PyProof.Rows.boot_sorted (pa_cons (pe_callTy (cr_setOfTT rfl (hu64 hr)) (by rfl) b_set PyProof.Rows.boot_set (pa_cons (dlT_of (de_var (pv 11))) pa_nil)) pa_nil))))))))) (dss_cons (by exact (ds_ret de_bl)) (by exact dss_nil)) dss_nil)) (by exact (dss_cons (by exact (ds_if (db_gt rfl hr (de_lenQ rfl (pe_callB call_lenA (by rfl) b_len PySem.boot_len (pa_cons (dq_tmp (dt_lc rfl sc_law_v23.nd (di_of rfl (de_var (pv 11))) (blkOk_by (own := [("one", 12)]) (by rfl)) (by decide) (fun _ _ _ _ _ => (dg_name (pg_name (i := 12) sc_law_v23.nd rfl (Or.inl rfl)))) (fun _ _ _ _ _ => (dts_one (db_w (dw_or (db_ne rfl (hu64 hr) (de_len rfl (pe_callB call_lenA (by rfl) b_len PySem.boot_len (pa_cons (de_var (pv 12)) pa_nil))) (de_ix rfl (de_var (pv 2)) de_int)) (dw_or1 (db_ne rfl (hu64 hr) (de_call h_law_rests_v2 rfl hr takesF (by rfl) (da_cons (de_var (pv 12)) (da_cons (de_ix rfl (de_var (pv 2)) de_int) (da_cons (de_var (pv 5)) da_nil)))) (de_var (pv 10)))))))) (fun _ _ _ _ _ => (de_var (pv 12))))) pa_nil))) de_int) (dss_cons (by exact (ds_ret de_bl)) (by exact dss_nil)) dss_nil)) (by exact (dss_cons (by exact (ds_if (db_ne rfl (hu64 hr) (de_in rfl hr (de_var (pv 9)) (de_var (pv 11))) (de_eq rfl (hu64 hr) (de_call h_law_rests_v2 rfl hr tk (by rfl) (da_cons (de_var (pv 9)) (da_cons (de_ix rfl (de_var (pv 2)) de_int) (da_cons (de_var (pv 5)) da_nil)))) (de_var (pv 10)))) (dss_cons (by exact (ds_ret de_bl)) (by exact dss_nil)) dss_nil)) (by exact (dss_cons (by exact (ds_if (db_w (dw_or (db_not (db_of rfl (de_call h_law_useful rfl hr tk (by rfl) (da_cons (de_var (pv 2)) (da_cons (de_var (pv 11)) da_nil))))) (dw_or1 (db_isn (de_call h_is_useful rfl hr tk (by rfl) (da_cons (de_var (pv 2)) (da_cons (de_var (pv 11)) da_nil))) de_bl)))) (dss_cons (by exact (ds_ret de_bl)) (by exact dss_nil)) dss_nil)) (by exact dss_nil)))))))))))))))))))) (by exact (dss_cons (by exact (ds_ret de_bl)) (by exact dss_nil)))))))))))))))))

structure Top (G : Gx) (mg : Str → Option Value) : Prop where
  b_int : mg "int" = none
  b_range : mg "range" = none
  b_len : mg "len" = none
  b_sum : mg "sum" = none
  b_tuple : mg "tuple" = none
  b_isinstance : mg "isinstance" = none
  b_bool : mg "bool" = none
  b_any : mg "any" = none
  b_list : mg "list" = none
  b_zip : mg "zip" = none
  b_enumerate : mg "enumerate" = none
  b_min : mg "min" = none
  b_max : mg "max" = none
  b_sorted : mg "sorted" = none
  b_set : mg "set" = none
  g_MOST_CARDS : ∃ t, mg "MOST_CARDS" = some (.int 13 t)
  g_MOST_HANDS : ∃ t, mg "MOST_HANDS" = some (.int 60 t)
  e_BadSetting : ExAt G.K mg G 1 "BadSetting"
  e_BadRests : ExAt G.K mg G 14 "BadRests"
  e_NoLot : ExAt G.K mg G 16 "NoLot"
  e_TooMany : ExAt G.K mg G 26 "TooMany"
  e_BadLot : ExAt G.K mg G 4 "BadLot"
  g_law_draws : mg "_law_draws" = some (.ref (G.fa 22))
  F_law_draws : ∃ fd, Fun G.K "_law_draws" "_law_draws" s_law_draws (G.fa 22) fd
  g_law_setting : mg "_law_setting" = some (.ref (G.fa 23))
  F_law_setting : ∃ fd, Fun G.K "_law_setting" "_law_setting" s_law_setting (G.fa 23) fd
  g_law_prime : mg "_law_prime" = some (.ref (G.fa 88))
  F_law_prime : ∃ fd, Fun G.K "_law_prime" "_law_prime" s_law_prime (G.fa 88) fd
  g_law_cell_at : mg "_law_cell_at" = some (.ref (G.fa 21))
  F_law_cell_at : ∃ fd, Fun G.K "_law_cell_at" "_law_cell_at" s_law_cell_at (G.fa 21) fd
  g_law_great : mg "_law_great" = some (.ref (G.fa 145))
  F_law_great : ∃ fd, Fun G.K "_law_great" "_law_great" s_law_great (G.fa 145) fd
  g_law_rests_v2 : mg "_law_rests" = some (.ref (G.fa 87))
  F_law_rests_v2 : ∃ fd, Fun G.K "_law_rests" "_law_rests" s_law_rests_v2 (G.fa 87) fd
  g_is_integer : mg "is_integer" = some (.ref (G.fa 0))
  F_is_integer : ∃ fd, Fun G.K "is_integer" "is_integer" s_is_integer (G.fa 0) fd
  g_is_setting : mg "is_setting" = some (.ref (G.fa 1))
  F_is_setting : ∃ fd, Fun G.K "is_setting" "is_setting" s_is_setting (G.fa 1) fd
  g_check_setting : mg "check_setting" = some (.ref (G.fa 2))
  F_check_setting : ∃ fd, Fun G.K "check_setting" "check_setting" s_check_setting (G.fa 2) fd
  g_prime_of : mg "prime_of" = some (.ref (G.fa 18))
  F_prime_of : ∃ fd, Fun G.K "prime_of" "prime_of" s_prime_of (G.fa 18) fd
  g_check_rests : mg "check_rests" = some (.ref (G.fa 84))
  F_check_rests : ∃ fd, Fun G.K "check_rests" "check_rests" s_check_rests (G.fa 84) fd
  g_rows_out_of : mg "rows_out_of" = some (.ref (G.fa 29))
  F_rows_out_of : ∃ fd, Fun G.K "rows_out_of" "rows_out_of" s_rows_out_of (G.fa 29) fd
  g_all_hands : mg "all_hands" = some (.ref (G.fa 30))
  F_all_hands : ∃ fd, Fun G.K "all_hands" "all_hands" s_all_hands (G.fa 30) fd
  g_powers_of : mg "powers_of" = some (.ref (G.fa 19))
  F_powers_of : ∃ fd, Fun G.K "powers_of" "powers_of" s_powers_of (G.fa 19) fd
  g_power_lot : mg "power_lot" = some (.ref (G.fa 144))
  F_power_lot : ∃ fd, Fun G.K "power_lot" "power_lot" s_power_lot (G.fa 144) fd
  g_law_is_hands : mg "_law_is_hands" = some (.ref (G.fa 89))
  F_law_is_hands : ∃ fd, Fun G.K "_law_is_hands" "_law_is_hands" s_law_is_hands (G.fa 89) fd
  g_law_shares : mg "_law_shares" = some (.ref (G.fa 95))
  F_law_shares : ∃ fd, Fun G.K "_law_shares" "_law_shares" s_law_shares (G.fa 95) fd
  g_law_useful : mg "_law_useful" = some (.ref (G.fa 139))
  F_law_useful : ∃ fd, Fun G.K "_law_useful" "_law_useful" s_law_useful (G.fa 139) fd
  g_is_row : mg "is_row" = some (.ref (G.fa 15))
  F_is_row : ∃ fd, Fun G.K "is_row" "is_row" s_is_row (G.fa 15) fd
  g_is_hand : mg "is_hand" = some (.ref (G.fa 16))
  F_is_hand : ∃ fd, Fun G.K "is_hand" "is_hand" s_is_hand (G.fa 16) fd
  g_is_lot : mg "is_lot" = some (.ref (G.fa 34))
  F_is_lot : ∃ fd, Fun G.K "is_lot" "is_lot" s_is_lot (G.fa 34) fd
  g_check_lot : mg "check_lot" = some (.ref (G.fa 35))
  F_check_lot : ∃ fd, Fun G.K "check_lot" "check_lot" s_check_lot (G.fa 35) fd
  g_pairs_of : mg "pairs_of" = some (.ref (G.fa 38))
  F_pairs_of : ∃ fd, Fun G.K "pairs_of" "pairs_of" s_pairs_of (G.fa 38) fd
  g_count_common : mg "count_common" = some (.ref (G.fa 37))
  F_count_common : ∃ fd, Fun G.K "count_common" "count_common" s_count_common (G.fa 37) fd
  g_others : mg "others" = some (.ref (G.fa 36))
  F_others : ∃ fd, Fun G.K "others" "others" s_others (G.fa 36) fd
  g_blur : mg "blur" = some (.ref (G.fa 39))
  F_blur : ∃ fd, Fun G.K "blur" "blur" s_blur (G.fa 39) fd
  g_is_useful : mg "is_useful" = some (.ref (G.fa 40))
  F_is_useful : ∃ fd, Fun G.K "is_useful" "is_useful" s_is_useful (G.fa 40) fd
  g_law_order : mg "_law_order" = some (.ref (G.fa 24))
  F_law_order : ∃ fd, Fun G.K "_law_order" "_law_order" s_law_order (G.fa 24) fd
  g_law_v23 : mg "law" = some (.ref (G.fa 146))
  F_law_v23 : ∃ fd, Fun G.K "law" "law" s_law_v23 (G.fa 146) fd
structure All (P : Program) (G : Gx) (mg : Str → Option Value) (base : Heap) (k : Nat) : Prop where
  a_law_draws : FnAt P G.w G mg base (callN Tbl k) k 22 "_law_draws"
  a_law_setting : FnAt P G.w G mg base (callN Tbl k) k 23 "_law_setting"
  a_law_prime : FnAt P G.w G mg base (callN Tbl k) k 88 "_law_prime"
  a_law_cell_at : FnAt P G.w G mg base (callN Tbl k) k 21 "_law_cell_at"
  a_law_great : FnAt P G.w G mg base (callN Tbl k) k 145 "_law_great"
  a_law_rests_v2 : FnAt P G.w G mg base (callN Tbl k) k 87 "_law_rests"
  a_is_integer : FnAt P G.w G mg base (callN Tbl k) k 0 "is_integer"
  a_is_setting : FnAt P G.w G mg base (callN Tbl k) k 1 "is_setting"
  a_check_setting : FnAt P G.w G mg base (callN Tbl k) k 2 "check_setting"
  a_prime_of : FnAt P G.w G mg base (callN Tbl k) k 18 "prime_of"
  a_check_rests : FnAt P G.w G mg base (callN Tbl k) k 84 "check_rests"
  a_rows_out_of : FnAt P G.w G mg base (callN Tbl k) k 29 "rows_out_of"
  a_all_hands : FnAt P G.w G mg base (callN Tbl k) k 30 "all_hands"
  a_powers_of : FnAt P G.w G mg base (callN Tbl k) k 19 "powers_of"
  a_power_lot : FnAt P G.w G mg base (callN Tbl k) k 144 "power_lot"
  a_law_is_hands : FnAt P G.w G mg base (callN Tbl k) k 89 "_law_is_hands"
  a_law_shares : FnAt P G.w G mg base (callN Tbl k) k 95 "_law_shares"
  a_law_useful : FnAt P G.w G mg base (callN Tbl k) k 139 "_law_useful"
  a_is_row : FnAt P G.w G mg base (callN Tbl k) k 15 "is_row"
  a_is_hand : FnAt P G.w G mg base (callN Tbl k) k 16 "is_hand"
  a_is_lot : FnAt P G.w G mg base (callN Tbl k) k 34 "is_lot"
  a_check_lot : FnAt P G.w G mg base (callN Tbl k) k 35 "check_lot"
  a_pairs_of : FnAt P G.w G mg base (callN Tbl k) k 38 "pairs_of"
  a_count_common : FnAt P G.w G mg base (callN Tbl k) k 37 "count_common"
  a_others : FnAt P G.w G mg base (callN Tbl k) k 36 "others"
  a_blur : FnAt P G.w G mg base (callN Tbl k) k 39 "blur"
  a_is_useful : FnAt P G.w G mg base (callN Tbl k) k 40 "is_useful"
  a_law_order : FnAt P G.w G mg base (callN Tbl k) k 24 "_law_order"
  a_law_v23 : FnAt P G.w G mg base (callN Tbl k) k 146 "law"
section
variable {P : Program} {G : Gx} {mg : Str → Option Value} {base : Heap} {k : Nat}
theorem bi_law_draws {fd : FuncData} (F : Fun G.K "_law_draws" "_law_draws" s_law_draws (G.fa 22) fd) : Binds G.K fd ["cell", "many"] [] := F.binds (ps := ["cell", "many"]) fun _ _ _ _ _ _ us hl => match us, hl with | [_, _], _ => rfl
theorem bi_law_setting {fd : FuncData} (F : Fun G.K "_law_setting" "_law_setting" s_law_setting (G.fa 23) fd) : Binds G.K fd ["xs", "most"] [] := F.binds (ps := ["xs", "most"]) fun _ _ _ _ _ _ us hl => match us, hl with | [_, _], _ => rfl
theorem bi_law_prime {fd : FuncData} (F : Fun G.K "_law_prime" "_law_prime" s_law_prime (G.fa 88) fd) : Binds G.K fd ["total"] [] := F.binds (ps := ["total"]) fun _ _ _ _ _ _ us hl => match us, hl with | [_], _ => rfl
theorem bi_law_cell_at {fd : FuncData} (F : Fun G.K "_law_cell_at" "_law_cell_at" s_law_cell_at (G.fa 21) fd) : Binds G.K fd ["script", "k"] [] := F.binds (ps := ["script", "k"]) fun _ _ _ _ _ _ us hl => match us, hl with | [_, _], _ => rfl
theorem bi_law_great {fd : FuncData} (F : Fun G.K "_law_great" "_law_great" s_law_great (G.fa 145) fd) : Binds G.K fd ["xs"] [] := F.binds (ps := ["xs"]) fun _ _ _ _ _ _ us hl => match us, hl with | [_], _ => rfl
theorem bi_law_rests_v2 {fd : FuncData} (F : Fun G.K "_law_rests" "_law_rests" s_law_rests_v2 (G.fa 87) fd) : Binds G.K fd ["hand", "many", "prime"] [] := F.binds (ps := ["hand", "many", "prime"]) fun _ _ _ _ _ _ us hl => match us, hl with | [_, _, _], _ => rfl
theorem bi_is_integer {fd : FuncData} (F : Fun G.K "is_integer" "is_integer" s_is_integer (G.fa 0) fd) : Binds G.K fd ["thing"] [] := F.binds (ps := ["thing"]) fun _ _ _ _ _ _ us hl => match us, hl with | [_], _ => rfl
theorem bi_is_setting {fd : FuncData} (F : Fun G.K "is_setting" "is_setting" s_is_setting (G.fa 1) fd) : Binds G.K fd ["thing"] [] := F.binds (ps := ["thing"]) fun _ _ _ _ _ _ us hl => match us, hl with | [_], _ => rfl
theorem bi_check_setting {fd : FuncData} (F : Fun G.K "check_setting" "check_setting" s_check_setting (G.fa 2) fd) : Binds G.K fd ["setting"] [] := F.binds (ps := ["setting"]) fun _ _ _ _ _ _ us hl => match us, hl with | [_], _ => rfl
theorem bi_prime_of {fd : FuncData} (F : Fun G.K "prime_of" "prime_of" s_prime_of (G.fa 18) fd) : Binds G.K fd ["setting"] [] := F.binds (ps := ["setting"]) fun _ _ _ _ _ _ us hl => match us, hl with | [_], _ => rfl
theorem bi_check_rests {fd : FuncData} (F : Fun G.K "check_rests" "check_rests" s_check_rests (G.fa 84) fd) : Binds G.K fd ["setting", "rests"] [] := F.binds (ps := ["setting", "rests"]) fun _ _ _ _ _ _ us hl => match us, hl with | [_, _], _ => rfl
theorem bi_rows_out_of {fd : FuncData} (F : Fun G.K "rows_out_of" "rows_out_of" s_rows_out_of (G.fa 29) fd) : Binds G.K fd ["cards", "size"] [] := F.binds (ps := ["cards", "size"]) fun _ _ _ _ _ _ us hl => match us, hl with | [_, _], _ => rfl
theorem bi_all_hands {fd : FuncData} (F : Fun G.K "all_hands" "all_hands" s_all_hands (G.fa 30) fd) : Binds G.K fd ["setting"] [] := F.binds (ps := ["setting"]) fun _ _ _ _ _ _ us hl => match us, hl with | [_], _ => rfl
theorem bi_powers_of {fd : FuncData} (F : Fun G.K "powers_of" "powers_of" s_powers_of (G.fa 19) fd) : Binds G.K fd ["hand", "many", "prime"] [] := F.binds (ps := ["hand", "many", "prime"]) fun _ _ _ _ _ _ us hl => match us, hl with | [_, _, _], _ => rfl
theorem bi_power_lot {fd : FuncData} (F : Fun G.K "power_lot" "power_lot" s_power_lot (G.fa 144) fd) : Binds G.K fd ["setting", "rests"] [] := F.binds (ps := ["setting", "rests"]) fun _ _ _ _ _ _ us hl => match us, hl with | [_, _], _ => rfl
theorem bi_law_is_hands {fd : FuncData} (F : Fun G.K "_law_is_hands" "_law_is_hands" s_law_is_hands (G.fa 89) fd) : Binds G.K fd ["found"] [] := F.binds (ps := ["found"]) fun _ _ _ _ _ _ us hl => match us, hl with | [_], _ => rfl
theorem bi_law_shares {fd : FuncData} (F : Fun G.K "_law_shares" "_law_shares" s_law_shares (G.fa 95) fd) : Binds G.K fd ["one", "other"] [] := F.binds (ps := ["one", "other"]) fun _ _ _ _ _ _ us hl => match us, hl with | [_, _], _ => rfl
theorem bi_law_useful {fd : FuncData} (F : Fun G.K "_law_useful" "_law_useful" s_law_useful (G.fa 139) fd) : Binds G.K fd ["setting", "lot"] [] := F.binds (ps := ["setting", "lot"]) fun _ _ _ _ _ _ us hl => match us, hl with | [_, _], _ => rfl
theorem bi_is_row {fd : FuncData} (F : Fun G.K "is_row" "is_row" s_is_row (G.fa 15) fd) : Binds G.K fd ["thing", "total"] [] := F.binds (ps := ["thing", "total"]) fun _ _ _ _ _ _ us hl => match us, hl with | [_, _], _ => rfl
theorem bi_is_hand {fd : FuncData} (F : Fun G.K "is_hand" "is_hand" s_is_hand (G.fa 16) fd) : Binds G.K fd ["setting", "thing"] [] := F.binds (ps := ["setting", "thing"]) fun _ _ _ _ _ _ us hl => match us, hl with | [_, _], _ => rfl
theorem bi_is_lot {fd : FuncData} (F : Fun G.K "is_lot" "is_lot" s_is_lot (G.fa 34) fd) : Binds G.K fd ["setting", "thing"] [] := F.binds (ps := ["setting", "thing"]) fun _ _ _ _ _ _ us hl => match us, hl with | [_, _], _ => rfl
theorem bi_check_lot {fd : FuncData} (F : Fun G.K "check_lot" "check_lot" s_check_lot (G.fa 35) fd) : Binds G.K fd ["setting", "lot"] [] := F.binds (ps := ["setting", "lot"]) fun _ _ _ _ _ _ us hl => match us, hl with | [_, _], _ => rfl
theorem bi_pairs_of {fd : FuncData} (F : Fun G.K "pairs_of" "pairs_of" s_pairs_of (G.fa 38) fd) : Binds G.K fd ["lot"] [] := F.binds (ps := ["lot"]) fun _ _ _ _ _ _ us hl => match us, hl with | [_], _ => rfl
theorem bi_count_common {fd : FuncData} (F : Fun G.K "count_common" "count_common" s_count_common (G.fa 37) fd) : Binds G.K fd ["hand", "other"] [] := F.binds (ps := ["hand", "other"]) fun _ _ _ _ _ _ us hl => match us, hl with | [_, _], _ => rfl
theorem bi_others {fd : FuncData} (F : Fun G.K "others" "others" s_others (G.fa 36) fd) : Binds G.K fd ["setting", "cards"] [] := F.binds (ps := ["setting", "cards"]) fun _ _ _ _ _ _ us hl => match us, hl with | [_, _], _ => rfl
theorem bi_blur {fd : FuncData} (F : Fun G.K "blur" "blur" s_blur (G.fa 39) fd) : Binds G.K fd ["setting", "lot"] [] := F.binds (ps := ["setting", "lot"]) fun _ _ _ _ _ _ us hl => match us, hl with | [_, _], _ => rfl
theorem bi_is_useful {fd : FuncData} (F : Fun G.K "is_useful" "is_useful" s_is_useful (G.fa 40) fd) : Binds G.K fd ["setting", "lot"] [] := F.binds (ps := ["setting", "lot"]) fun _ _ _ _ _ _ us hl => match us, hl with | [_, _], _ => rfl
theorem bi_law_order {fd : FuncData} (F : Fun G.K "_law_order" "_law_order" s_law_order (G.fa 24) fd) : Binds G.K fd ["xs", "total"] [] := F.binds (ps := ["xs", "total"]) fun _ _ _ _ _ _ us hl => match us, hl with | [_, _], _ => rfl
theorem bi_law_v23 {fd : FuncData} (F : Fun G.K "law" "law" s_law_v23 (G.fa 146) fd) : Binds G.K fd ["script"] [] := F.binds (ps := ["script"]) fun _ _ _ _ _ _ us hl => match us, hl with | [_], _ => rfl
theorem all_zero (T : Top G mg) : All P G mg base 0 := by
  refine ⟨?_, ?_, ?_, ?_, ?_, ?_, ?_, ?_, ?_, ?_, ?_, ?_, ?_, ?_, ?_, ?_, ?_, ?_, ?_, ?_, ?_, ?_, ?_, ?_, ?_, ?_, ?_, ?_, ?_⟩
  · obtain ⟨fd, F⟩ := T.F_law_draws; exact ⟨T.g_law_draws, F.kp, fd, _, ok_zero, bi_law_draws F⟩
  · obtain ⟨fd, F⟩ := T.F_law_setting; exact ⟨T.g_law_setting, F.kp, fd, _, ok_zero, bi_law_setting F⟩
  · obtain ⟨fd, F⟩ := T.F_law_prime; exact ⟨T.g_law_prime, F.kp, fd, _, ok_zero, bi_law_prime F⟩
  · obtain ⟨fd, F⟩ := T.F_law_cell_at; exact ⟨T.g_law_cell_at, F.kp, fd, _, ok_zero, bi_law_cell_at F⟩
  · obtain ⟨fd, F⟩ := T.F_law_great; exact ⟨T.g_law_great, F.kp, fd, _, ok_zero, bi_law_great F⟩
  · obtain ⟨fd, F⟩ := T.F_law_rests_v2; exact ⟨T.g_law_rests_v2, F.kp, fd, _, ok_zero, bi_law_rests_v2 F⟩
  · obtain ⟨fd, F⟩ := T.F_is_integer; exact ⟨T.g_is_integer, F.kp, fd, _, ok_zero, bi_is_integer F⟩
  · obtain ⟨fd, F⟩ := T.F_is_setting; exact ⟨T.g_is_setting, F.kp, fd, _, ok_zero, bi_is_setting F⟩
  · obtain ⟨fd, F⟩ := T.F_check_setting; exact ⟨T.g_check_setting, F.kp, fd, _, ok_zero, bi_check_setting F⟩
  · obtain ⟨fd, F⟩ := T.F_prime_of; exact ⟨T.g_prime_of, F.kp, fd, _, ok_zero, bi_prime_of F⟩
  · obtain ⟨fd, F⟩ := T.F_check_rests; exact ⟨T.g_check_rests, F.kp, fd, _, ok_zero, bi_check_rests F⟩
  · obtain ⟨fd, F⟩ := T.F_rows_out_of; exact ⟨T.g_rows_out_of, F.kp, fd, _, ok_zero, bi_rows_out_of F⟩
  · obtain ⟨fd, F⟩ := T.F_all_hands; exact ⟨T.g_all_hands, F.kp, fd, _, ok_zero, bi_all_hands F⟩
  · obtain ⟨fd, F⟩ := T.F_powers_of; exact ⟨T.g_powers_of, F.kp, fd, _, ok_zero, bi_powers_of F⟩
  · obtain ⟨fd, F⟩ := T.F_power_lot; exact ⟨T.g_power_lot, F.kp, fd, _, ok_zero, bi_power_lot F⟩
  · obtain ⟨fd, F⟩ := T.F_law_is_hands; exact ⟨T.g_law_is_hands, F.kp, fd, _, ok_zero, bi_law_is_hands F⟩
  · obtain ⟨fd, F⟩ := T.F_law_shares; exact ⟨T.g_law_shares, F.kp, fd, _, ok_zero, bi_law_shares F⟩
  · obtain ⟨fd, F⟩ := T.F_law_useful; exact ⟨T.g_law_useful, F.kp, fd, _, ok_zero, bi_law_useful F⟩
  · obtain ⟨fd, F⟩ := T.F_is_row; exact ⟨T.g_is_row, F.kp, fd, _, ok_zero, bi_is_row F⟩
  · obtain ⟨fd, F⟩ := T.F_is_hand; exact ⟨T.g_is_hand, F.kp, fd, _, ok_zero, bi_is_hand F⟩
  · obtain ⟨fd, F⟩ := T.F_is_lot; exact ⟨T.g_is_lot, F.kp, fd, _, ok_zero, bi_is_lot F⟩
  · obtain ⟨fd, F⟩ := T.F_check_lot; exact ⟨T.g_check_lot, F.kp, fd, _, ok_zero, bi_check_lot F⟩
  · obtain ⟨fd, F⟩ := T.F_pairs_of; exact ⟨T.g_pairs_of, F.kp, fd, _, ok_zero, bi_pairs_of F⟩
  · obtain ⟨fd, F⟩ := T.F_count_common; exact ⟨T.g_count_common, F.kp, fd, _, ok_zero, bi_count_common F⟩
  · obtain ⟨fd, F⟩ := T.F_others; exact ⟨T.g_others, F.kp, fd, _, ok_zero, bi_others F⟩
  · obtain ⟨fd, F⟩ := T.F_blur; exact ⟨T.g_blur, F.kp, fd, _, ok_zero, bi_blur F⟩
  · obtain ⟨fd, F⟩ := T.F_is_useful; exact ⟨T.g_is_useful, F.kp, fd, _, ok_zero, bi_is_useful F⟩
  · obtain ⟨fd, F⟩ := T.F_law_order; exact ⟨T.g_law_order, F.kp, fd, _, ok_zero, bi_law_order F⟩
  · obtain ⟨fd, F⟩ := T.F_law_v23; exact ⟨T.g_law_v23, F.kp, fd, _, ok_zero, bi_law_v23 F⟩
theorem all_succ (T : Top G mg) (h : All P G mg base k) : All P G mg base (k + 1) := by
  obtain ⟨t_MOST_CARDS, g_MOST_CARDS⟩ := T.g_MOST_CARDS
  obtain ⟨t_MOST_HANDS, g_MOST_HANDS⟩ := T.g_MOST_HANDS
  refine ⟨?_, ?_, ?_, ?_, ?_, ?_, ?_, ?_, ?_, ?_, ?_, ?_, ?_, ?_, ?_, ?_, ?_, ?_, ?_, ?_, ?_, ?_, ?_, ?_, ?_, ?_, ?_, ?_, ?_⟩
  · obtain ⟨fd, F⟩ := T.F_law_draws; exact ⟨T.g_law_draws, F.kp, fd, _, ok_law_draws F rfl T.b_int T.b_range, bi_law_draws F⟩
  · obtain ⟨fd, F⟩ := T.F_law_setting; exact ⟨T.g_law_setting, F.kp, fd, _, ok_law_setting F rfl , bi_law_setting F⟩
  · obtain ⟨fd, F⟩ := T.F_law_prime; exact ⟨T.g_law_prime, F.kp, fd, _, ok_law_prime F rfl , bi_law_prime F⟩
  · obtain ⟨fd, F⟩ := T.F_law_cell_at; exact ⟨T.g_law_cell_at, F.kp, fd, _, ok_law_cell_at F rfl T.b_len, bi_law_cell_at F⟩
  · obtain ⟨fd, F⟩ := T.F_law_great; exact ⟨T.g_law_great, F.kp, fd, _, ok_law_great F rfl , bi_law_great F⟩
  · obtain ⟨fd, F⟩ := T.F_law_rests_v2; exact ⟨T.g_law_rests_v2, F.kp, fd, _, ok_law_rests_v2 F rfl T.b_range T.b_len T.b_int T.b_sum T.b_tuple, bi_law_rests_v2 F⟩
  · obtain ⟨fd, F⟩ := T.F_is_integer; exact ⟨T.g_is_integer, F.kp, fd, _, ok_is_integer F rfl T.b_int T.b_isinstance T.b_bool, bi_is_integer F⟩
  · obtain ⟨fd, F⟩ := T.F_is_setting; exact ⟨T.g_is_setting, F.kp, fd, _, ok_is_setting F rfl h.a_is_integer T.b_tuple T.b_isinstance T.b_len T.b_sum g_MOST_CARDS, bi_is_setting F⟩
  · obtain ⟨fd, F⟩ := T.F_check_setting; exact ⟨T.g_check_setting, F.kp, fd, _, ok_check_setting F rfl h.a_is_setting T.e_BadSetting, bi_check_setting F⟩
  · obtain ⟨fd, F⟩ := T.F_prime_of; exact ⟨T.g_prime_of, F.kp, fd, _, ok_prime_of F rfl h.a_check_setting T.b_sum T.b_range T.b_any, bi_prime_of F⟩
  · obtain ⟨fd, F⟩ := T.F_check_rests; exact ⟨T.g_check_rests, F.kp, fd, _, ok_check_rests F rfl h.a_prime_of h.a_is_integer T.b_tuple T.b_isinstance T.b_len T.e_BadRests, bi_check_rests F⟩
  · obtain ⟨fd, F⟩ := T.F_rows_out_of; exact ⟨T.g_rows_out_of, F.kp, fd, _, ok_rows_out_of F rfl T.b_range T.b_list, bi_rows_out_of F⟩
  · obtain ⟨fd, F⟩ := T.F_all_hands; exact ⟨T.g_all_hands, F.kp, fd, _, ok_all_hands F rfl h.a_check_setting h.a_rows_out_of T.b_sum T.b_list T.b_range T.b_tuple, bi_all_hands F⟩
  · obtain ⟨fd, F⟩ := T.F_powers_of; exact ⟨T.g_powers_of, F.kp, fd, _, ok_powers_of F rfl T.b_range T.b_zip T.b_int T.b_sum T.b_tuple, bi_powers_of F⟩
  · obtain ⟨fd, F⟩ := T.F_power_lot; exact ⟨T.g_power_lot, F.kp, fd, _, ok_power_lot F rfl h.a_check_rests h.a_prime_of h.a_all_hands h.a_powers_of T.b_len T.b_tuple g_MOST_HANDS T.e_NoLot T.e_TooMany, bi_power_lot F⟩
  · obtain ⟨fd, F⟩ := T.F_law_is_hands; exact ⟨T.g_law_is_hands, F.kp, fd, _, ok_law_is_hands F rfl T.b_tuple T.b_isinstance T.b_int T.b_bool, bi_law_is_hands F⟩
  · obtain ⟨fd, F⟩ := T.F_law_shares; exact ⟨T.g_law_shares, F.kp, fd, _, ok_law_shares F rfl T.b_len, bi_law_shares F⟩
  · obtain ⟨fd, F⟩ := T.F_law_useful; exact ⟨T.g_law_useful, F.kp, fd, _, ok_law_useful F rfl h.a_law_shares T.b_len T.b_range, bi_law_useful F⟩
  · obtain ⟨fd, F⟩ := T.F_is_row; exact ⟨T.g_is_row, F.kp, fd, _, ok_is_row F rfl h.a_is_integer T.b_tuple T.b_isinstance, bi_is_row F⟩
  · obtain ⟨fd, F⟩ := T.F_is_hand; exact ⟨T.g_is_hand, F.kp, fd, _, ok_is_hand F rfl h.a_check_setting h.a_is_row T.b_sum T.b_len, bi_is_hand F⟩
  · obtain ⟨fd, F⟩ := T.F_is_lot; exact ⟨T.g_is_lot, F.kp, fd, _, ok_is_lot F rfl h.a_check_setting h.a_is_hand T.b_tuple T.b_isinstance T.b_len T.b_zip g_MOST_HANDS, bi_is_lot F⟩
  · obtain ⟨fd, F⟩ := T.F_check_lot; exact ⟨T.g_check_lot, F.kp, fd, _, ok_check_lot F rfl h.a_is_lot T.e_BadLot, bi_check_lot F⟩
  · obtain ⟨fd, F⟩ := T.F_pairs_of; exact ⟨T.g_pairs_of, F.kp, fd, _, ok_pairs_of F rfl T.b_enumerate, bi_pairs_of F⟩
  · obtain ⟨fd, F⟩ := T.F_count_common; exact ⟨T.g_count_common, F.kp, fd, _, ok_count_common F rfl T.b_len, bi_count_common F⟩
  · obtain ⟨fd, F⟩ := T.F_others; exact ⟨T.g_others, F.kp, fd, _, ok_others F rfl T.b_sum T.b_range T.b_tuple, bi_others F⟩
  · obtain ⟨fd, F⟩ := T.F_blur; exact ⟨T.g_blur, F.kp, fd, _, ok_blur F rfl h.a_check_lot h.a_pairs_of h.a_count_common h.a_others, bi_blur F⟩
  · obtain ⟨fd, F⟩ := T.F_is_useful; exact ⟨T.g_is_useful, F.kp, fd, _, ok_is_useful F rfl h.a_blur, bi_is_useful F⟩
  · obtain ⟨fd, F⟩ := T.F_law_order; exact ⟨T.g_law_order, F.kp, fd, _, ok_law_order F rfl T.b_range T.b_len, bi_law_order F⟩
  · obtain ⟨fd, F⟩ := T.F_law_v23; exact ⟨T.g_law_v23, F.kp, fd, _, ok_law_v23 F rfl h.a_law_cell_at h.a_law_draws h.a_law_setting h.a_law_great h.a_law_prime h.a_law_order h.a_law_rests_v2 h.a_power_lot h.a_law_is_hands h.a_law_useful h.a_is_useful T.b_len T.b_min T.b_max T.b_sum T.b_range T.b_sorted T.b_tuple T.b_list T.b_set, bi_law_v23 F⟩
theorem all_k (T : Top G mg) : ∀ k, All P G mg base k
  | 0 => all_zero T
  | k + 1 => all_succ T (all_k T k)
end
theorem law_fn' {P : Program} {G : Gx} {mg : Str → Option Value} (T : Top G mg) {fa : Addr} (hfa : mg "law" = some (.ref fa)) : ∃ fd : FuncData, (∀ (s : Shared) (v : Value), BindsTo s fd ⟨[v], []⟩ [("script", v)]) ∧ ∀ base, FnOk P G.w G.K mg base (L2.CX P G.w) 60 fa fd ["script"] (spLaw G.K) := by
  have e := hfa.symm.trans T.g_law_v23
  cases e
  obtain ⟨fd, F⟩ := T.F_law_v23
  obtain ⟨t_MOST_CARDS, g_MOST_CARDS⟩ := T.g_MOST_CARDS
  obtain ⟨t_MOST_HANDS, g_MOST_HANDS⟩ := T.g_MOST_HANDS
  refine ⟨fd, fun s v => ?_, fun base => ?_⟩
  · obtain ⟨oc, od, kV, doc, pm, an, cdv, ct, osl, rfl, lk, hcd⟩ := F.ex
    exact .of_eq rfl
  · have A := all_k (P := P) (base := base) T 59
    exact law_imp (Tbl := Tbl) k39_true (ok_law_v23 F rfl A.a_law_cell_at A.a_law_draws A.a_law_setting A.a_law_great A.a_law_prime A.a_law_order A.a_law_rests_v2 A.a_power_lot A.a_law_is_hands A.a_law_useful A.a_is_useful T.b_len T.b_min T.b_max T.b_sum T.b_range T.b_sorted T.b_tuple T.b_list T.b_set)
theorem top_mk {w : World} {K : PySem.W.Frag} {h : Heap} {mg : Str → Option Value} (X : K.In h) (G : h.Ns mainGlobals mg)
    {a0 : Addr} {od0 an0 : Option Addr} {sl0 : Array (Option Value)} {oc0 dc0 pm0 cd0 ct0 : Value} {kV0 : Value} {a1 : Addr} {od1 an1 : Option Addr} {sl1 : Array (Option Value)} {oc1 dc1 pm1 cd1 ct1 : Value} {kV1 : Value} {a2 : Addr} {od2 an2 : Option Addr} {sl2 : Array (Option Value)} {oc2 dc2 pm2 cd2 ct2 : Value} {kV2 : Value} {a3 : Addr} {od3 an3 : Option Addr} {sl3 : Array (Option Value)} {oc3 dc3 pm3 cd3 ct3 : Value} {kV3 : Value} {a4 : Addr} {od4 an4 : Option Addr} {sl4 : Array (Option Value)} {oc4 dc4 pm4 cd4 ct4 : Value} {kV4 : Value} {a5 : Addr} {od5 an5 : Option Addr} {sl5 : Array (Option Value)} {oc5 dc5 pm5 cd5 ct5 : Value} {kV5 : Value} {a6 : Addr} {od6 an6 : Option Addr} {sl6 : Array (Option Value)} {oc6 dc6 pm6 cd6 ct6 : Value} {kV6 : Value} {a7 : Addr} {od7 an7 : Option Addr} {sl7 : Array (Option Value)} {oc7 dc7 pm7 cd7 ct7 : Value} {kV7 : Value} {a8 : Addr} {od8 an8 : Option Addr} {sl8 : Array (Option Value)} {oc8 dc8 pm8 cd8 ct8 : Value} {kV8 : Value} {a9 : Addr} {od9 an9 : Option Addr} {sl9 : Array (Option Value)} {oc9 dc9 pm9 cd9 ct9 : Value} {kV9 : Value} {a10 : Addr} {od10 an10 : Option Addr} {sl10 : Array (Option Value)} {oc10 dc10 pm10 cd10 ct10 : Value} {kV10 : Value} {a11 : Addr} {od11 an11 : Option Addr} {sl11 : Array (Option Value)} {oc11 dc11 pm11 cd11 ct11 : Value} {kV11 : Value} {a12 : Addr} {od12 an12 : Option Addr} {sl12 : Array (Option Value)} {oc12 dc12 pm12 cd12 ct12 : Value} {kV12 : Value} {a13 : Addr} {od13 an13 : Option Addr} {sl13 : Array (Option Value)} {oc13 dc13 pm13 cd13 ct13 : Value} {kV13 : Value} {a14 : Addr} {od14 an14 : Option Addr} {sl14 : Array (Option Value)} {oc14 dc14 pm14 cd14 ct14 : Value} {kV14 : Value} {a15 : Addr} {od15 an15 : Option Addr} {sl15 : Array (Option Value)} {oc15 dc15 pm15 cd15 ct15 : Value} {kV15 : Value} {a16 : Addr} {od16 an16 : Option Addr} {sl16 : Array (Option Value)} {oc16 dc16 pm16 cd16 ct16 : Value} {kV16 : Value} {a17 : Addr} {od17 an17 : Option Addr} {sl17 : Array (Option Value)} {oc17 dc17 pm17 cd17 ct17 : Value} {kV17 : Value} {a18 : Addr} {od18 an18 : Option Addr} {sl18 : Array (Option Value)} {oc18 dc18 pm18 cd18 ct18 : Value} {kV18 : Value} {a19 : Addr} {od19 an19 : Option Addr} {sl19 : Array (Option Value)} {oc19 dc19 pm19 cd19 ct19 : Value} {kV19 : Value} {a20 : Addr} {od20 an20 : Option Addr} {sl20 : Array (Option Value)} {oc20 dc20 pm20 cd20 ct20 : Value} {kV20 : Value} {a21 : Addr} {od21 an21 : Option Addr} {sl21 : Array (Option Value)} {oc21 dc21 pm21 cd21 ct21 : Value} {kV21 : Value} {a22 : Addr} {od22 an22 : Option Addr} {sl22 : Array (Option Value)} {oc22 dc22 pm22 cd22 ct22 : Value} {kV22 : Value} {a23 : Addr} {od23 an23 : Option Addr} {sl23 : Array (Option Value)} {oc23 dc23 pm23 cd23 ct23 : Value} {kV23 : Value} {a24 : Addr} {od24 an24 : Option Addr} {sl24 : Array (Option Value)} {oc24 dc24 pm24 cd24 ct24 : Value} {kV24 : Value} {a25 : Addr} {od25 an25 : Option Addr} {sl25 : Array (Option Value)} {oc25 dc25 pm25 cd25 ct25 : Value} {kV25 : Value} {a26 : Addr} {od26 an26 : Option Addr} {sl26 : Array (Option Value)} {oc26 dc26 pm26 cd26 ct26 : Value} {kV26 : Value} {a27 : Addr} {od27 an27 : Option Addr} {sl27 : Array (Option Value)} {oc27 dc27 pm27 cd27 ct27 : Value} {kV27 : Value} {a28 : Addr} {od28 an28 : Option Addr} {sl28 : Array (Option Value)} {oc28 dc28 pm28 cd28 ct28 : Value} {kV28 : Value} {t_MOST_CARDS : Tok} {t_MOST_HANDS : Tok} {x_BadSetting : Addr} {x_BadRests : Addr} {x_NoLot : Addr} {x_TooMany : Addr} {x_BadLot : Addr}
    (n0 : PySem.W.nsIn K mainGlobals "_law_draws" = some (some (.ref a0))) (l0 : K.lookup a0 = some ⟨oc0, od0, .func (PySem.W.fnOf "_law_draws" "_law_draws" (defArgs s_law_draws) (defBody s_law_draws) (defScope s_law_draws) .none kV0 dc0 pm0 an0 cd0 ct0), sl0⟩) (c0 : PySem.W.codeIn K cd0 "_law_draws" = true) (k0 : PySem.W.keepIn K (.ref a0) = true)
    (n1 : PySem.W.nsIn K mainGlobals "_law_setting" = some (some (.ref a1))) (l1 : K.lookup a1 = some ⟨oc1, od1, .func (PySem.W.fnOf "_law_setting" "_law_setting" (defArgs s_law_setting) (defBody s_law_setting) (defScope s_law_setting) .none kV1 dc1 pm1 an1 cd1 ct1), sl1⟩) (c1 : PySem.W.codeIn K cd1 "_law_setting" = true) (k1 : PySem.W.keepIn K (.ref a1) = true)
    (n2 : PySem.W.nsIn K mainGlobals "_law_prime" = some (some (.ref a2))) (l2 : K.lookup a2 = some ⟨oc2, od2, .func (PySem.W.fnOf "_law_prime" "_law_prime" (defArgs s_law_prime) (defBody s_law_prime) (defScope s_law_prime) .none kV2 dc2 pm2 an2 cd2 ct2), sl2⟩) (c2 : PySem.W.codeIn K cd2 "_law_prime" = true) (k2 : PySem.W.keepIn K (.ref a2) = true)
    (n3 : PySem.W.nsIn K mainGlobals "_law_cell_at" = some (some (.ref a3))) (l3 : K.lookup a3 = some ⟨oc3, od3, .func (PySem.W.fnOf "_law_cell_at" "_law_cell_at" (defArgs s_law_cell_at) (defBody s_law_cell_at) (defScope s_law_cell_at) .none kV3 dc3 pm3 an3 cd3 ct3), sl3⟩) (c3 : PySem.W.codeIn K cd3 "_law_cell_at" = true) (k3 : PySem.W.keepIn K (.ref a3) = true)
    (n4 : PySem.W.nsIn K mainGlobals "_law_great" = some (some (.ref a4))) (l4 : K.lookup a4 = some ⟨oc4, od4, .func (PySem.W.fnOf "_law_great" "_law_great" (defArgs s_law_great) (defBody s_law_great) (defScope s_law_great) .none kV4 dc4 pm4 an4 cd4 ct4), sl4⟩) (c4 : PySem.W.codeIn K cd4 "_law_great" = true) (k4 : PySem.W.keepIn K (.ref a4) = true)
    (n5 : PySem.W.nsIn K mainGlobals "_law_rests" = some (some (.ref a5))) (l5 : K.lookup a5 = some ⟨oc5, od5, .func (PySem.W.fnOf "_law_rests" "_law_rests" (defArgs s_law_rests_v2) (defBody s_law_rests_v2) (defScope s_law_rests_v2) .none kV5 dc5 pm5 an5 cd5 ct5), sl5⟩) (c5 : PySem.W.codeIn K cd5 "_law_rests" = true) (k5 : PySem.W.keepIn K (.ref a5) = true)
    (n6 : PySem.W.nsIn K mainGlobals "is_integer" = some (some (.ref a6))) (l6 : K.lookup a6 = some ⟨oc6, od6, .func (PySem.W.fnOf "is_integer" "is_integer" (defArgs s_is_integer) (defBody s_is_integer) (defScope s_is_integer) .none kV6 dc6 pm6 an6 cd6 ct6), sl6⟩) (c6 : PySem.W.codeIn K cd6 "is_integer" = true) (k6 : PySem.W.keepIn K (.ref a6) = true)
    (n7 : PySem.W.nsIn K mainGlobals "is_setting" = some (some (.ref a7))) (l7 : K.lookup a7 = some ⟨oc7, od7, .func (PySem.W.fnOf "is_setting" "is_setting" (defArgs s_is_setting) (defBody s_is_setting) (defScope s_is_setting) .none kV7 dc7 pm7 an7 cd7 ct7), sl7⟩) (c7 : PySem.W.codeIn K cd7 "is_setting" = true) (k7 : PySem.W.keepIn K (.ref a7) = true)
    (n8 : PySem.W.nsIn K mainGlobals "check_setting" = some (some (.ref a8))) (l8 : K.lookup a8 = some ⟨oc8, od8, .func (PySem.W.fnOf "check_setting" "check_setting" (defArgs s_check_setting) (defBody s_check_setting) (defScope s_check_setting) .none kV8 dc8 pm8 an8 cd8 ct8), sl8⟩) (c8 : PySem.W.codeIn K cd8 "check_setting" = true) (k8 : PySem.W.keepIn K (.ref a8) = true)
    (n9 : PySem.W.nsIn K mainGlobals "prime_of" = some (some (.ref a9))) (l9 : K.lookup a9 = some ⟨oc9, od9, .func (PySem.W.fnOf "prime_of" "prime_of" (defArgs s_prime_of) (defBody s_prime_of) (defScope s_prime_of) .none kV9 dc9 pm9 an9 cd9 ct9), sl9⟩) (c9 : PySem.W.codeIn K cd9 "prime_of" = true) (k9 : PySem.W.keepIn K (.ref a9) = true)
    (n10 : PySem.W.nsIn K mainGlobals "check_rests" = some (some (.ref a10))) (l10 : K.lookup a10 = some ⟨oc10, od10, .func (PySem.W.fnOf "check_rests" "check_rests" (defArgs s_check_rests) (defBody s_check_rests) (defScope s_check_rests) .none kV10 dc10 pm10 an10 cd10 ct10), sl10⟩) (c10 : PySem.W.codeIn K cd10 "check_rests" = true) (k10 : PySem.W.keepIn K (.ref a10) = true)
    (n11 : PySem.W.nsIn K mainGlobals "rows_out_of" = some (some (.ref a11))) (l11 : K.lookup a11 = some ⟨oc11, od11, .func (PySem.W.fnOf "rows_out_of" "rows_out_of" (defArgs s_rows_out_of) (defBody s_rows_out_of) (defScope s_rows_out_of) .none kV11 dc11 pm11 an11 cd11 ct11), sl11⟩) (c11 : PySem.W.codeIn K cd11 "rows_out_of" = true) (k11 : PySem.W.keepIn K (.ref a11) = true)
    (n12 : PySem.W.nsIn K mainGlobals "all_hands" = some (some (.ref a12))) (l12 : K.lookup a12 = some ⟨oc12, od12, .func (PySem.W.fnOf "all_hands" "all_hands" (defArgs s_all_hands) (defBody s_all_hands) (defScope s_all_hands) .none kV12 dc12 pm12 an12 cd12 ct12), sl12⟩) (c12 : PySem.W.codeIn K cd12 "all_hands" = true) (k12 : PySem.W.keepIn K (.ref a12) = true)
    (n13 : PySem.W.nsIn K mainGlobals "powers_of" = some (some (.ref a13))) (l13 : K.lookup a13 = some ⟨oc13, od13, .func (PySem.W.fnOf "powers_of" "powers_of" (defArgs s_powers_of) (defBody s_powers_of) (defScope s_powers_of) .none kV13 dc13 pm13 an13 cd13 ct13), sl13⟩) (c13 : PySem.W.codeIn K cd13 "powers_of" = true) (k13 : PySem.W.keepIn K (.ref a13) = true)
    (n14 : PySem.W.nsIn K mainGlobals "power_lot" = some (some (.ref a14))) (l14 : K.lookup a14 = some ⟨oc14, od14, .func (PySem.W.fnOf "power_lot" "power_lot" (defArgs s_power_lot) (defBody s_power_lot) (defScope s_power_lot) .none kV14 dc14 pm14 an14 cd14 ct14), sl14⟩) (c14 : PySem.W.codeIn K cd14 "power_lot" = true) (k14 : PySem.W.keepIn K (.ref a14) = true)
    (n15 : PySem.W.nsIn K mainGlobals "_law_is_hands" = some (some (.ref a15))) (l15 : K.lookup a15 = some ⟨oc15, od15, .func (PySem.W.fnOf "_law_is_hands" "_law_is_hands" (defArgs s_law_is_hands) (defBody s_law_is_hands) (defScope s_law_is_hands) .none kV15 dc15 pm15 an15 cd15 ct15), sl15⟩) (c15 : PySem.W.codeIn K cd15 "_law_is_hands" = true) (k15 : PySem.W.keepIn K (.ref a15) = true)
    (n16 : PySem.W.nsIn K mainGlobals "_law_shares" = some (some (.ref a16))) (l16 : K.lookup a16 = some ⟨oc16, od16, .func (PySem.W.fnOf "_law_shares" "_law_shares" (defArgs s_law_shares) (defBody s_law_shares) (defScope s_law_shares) .none kV16 dc16 pm16 an16 cd16 ct16), sl16⟩) (c16 : PySem.W.codeIn K cd16 "_law_shares" = true) (k16 : PySem.W.keepIn K (.ref a16) = true)
    (n17 : PySem.W.nsIn K mainGlobals "_law_useful" = some (some (.ref a17))) (l17 : K.lookup a17 = some ⟨oc17, od17, .func (PySem.W.fnOf "_law_useful" "_law_useful" (defArgs s_law_useful) (defBody s_law_useful) (defScope s_law_useful) .none kV17 dc17 pm17 an17 cd17 ct17), sl17⟩) (c17 : PySem.W.codeIn K cd17 "_law_useful" = true) (k17 : PySem.W.keepIn K (.ref a17) = true)
    (n18 : PySem.W.nsIn K mainGlobals "is_row" = some (some (.ref a18))) (l18 : K.lookup a18 = some ⟨oc18, od18, .func (PySem.W.fnOf "is_row" "is_row" (defArgs s_is_row) (defBody s_is_row) (defScope s_is_row) .none kV18 dc18 pm18 an18 cd18 ct18), sl18⟩) (c18 : PySem.W.codeIn K cd18 "is_row" = true) (k18 : PySem.W.keepIn K (.ref a18) = true)
    (n19 : PySem.W.nsIn K mainGlobals "is_hand" = some (some (.ref a19))) (l19 : K.lookup a19 = some ⟨oc19, od19, .func (PySem.W.fnOf "is_hand" "is_hand" (defArgs s_is_hand) (defBody s_is_hand) (defScope s_is_hand) .none kV19 dc19 pm19 an19 cd19 ct19), sl19⟩) (c19 : PySem.W.codeIn K cd19 "is_hand" = true) (k19 : PySem.W.keepIn K (.ref a19) = true)
    (n20 : PySem.W.nsIn K mainGlobals "is_lot" = some (some (.ref a20))) (l20 : K.lookup a20 = some ⟨oc20, od20, .func (PySem.W.fnOf "is_lot" "is_lot" (defArgs s_is_lot) (defBody s_is_lot) (defScope s_is_lot) .none kV20 dc20 pm20 an20 cd20 ct20), sl20⟩) (c20 : PySem.W.codeIn K cd20 "is_lot" = true) (k20 : PySem.W.keepIn K (.ref a20) = true)
    (n21 : PySem.W.nsIn K mainGlobals "check_lot" = some (some (.ref a21))) (l21 : K.lookup a21 = some ⟨oc21, od21, .func (PySem.W.fnOf "check_lot" "check_lot" (defArgs s_check_lot) (defBody s_check_lot) (defScope s_check_lot) .none kV21 dc21 pm21 an21 cd21 ct21), sl21⟩) (c21 : PySem.W.codeIn K cd21 "check_lot" = true) (k21 : PySem.W.keepIn K (.ref a21) = true)
    (n22 : PySem.W.nsIn K mainGlobals "pairs_of" = some (some (.ref a22))) (l22 : K.lookup a22 = some ⟨oc22, od22, .func (PySem.W.fnOf "pairs_of" "pairs_of" (defArgs s_pairs_of) (defBody s_pairs_of) (defScope s_pairs_of) .none kV22 dc22 pm22 an22 cd22 ct22), sl22⟩) (c22 : PySem.W.codeIn K cd22 "pairs_of" = true) (k22 : PySem.W.keepIn K (.ref a22) = true)
    (n23 : PySem.W.nsIn K mainGlobals "count_common" = some (some (.ref a23))) (l23 : K.lookup a23 = some ⟨oc23, od23, .func (PySem.W.fnOf "count_common" "count_common" (defArgs s_count_common) (defBody s_count_common) (defScope s_count_common) .none kV23 dc23 pm23 an23 cd23 ct23), sl23⟩) (c23 : PySem.W.codeIn K cd23 "count_common" = true) (k23 : PySem.W.keepIn K (.ref a23) = true)
    (n24 : PySem.W.nsIn K mainGlobals "others" = some (some (.ref a24))) (l24 : K.lookup a24 = some ⟨oc24, od24, .func (PySem.W.fnOf "others" "others" (defArgs s_others) (defBody s_others) (defScope s_others) .none kV24 dc24 pm24 an24 cd24 ct24), sl24⟩) (c24 : PySem.W.codeIn K cd24 "others" = true) (k24 : PySem.W.keepIn K (.ref a24) = true)
    (n25 : PySem.W.nsIn K mainGlobals "blur" = some (some (.ref a25))) (l25 : K.lookup a25 = some ⟨oc25, od25, .func (PySem.W.fnOf "blur" "blur" (defArgs s_blur) (defBody s_blur) (defScope s_blur) .none kV25 dc25 pm25 an25 cd25 ct25), sl25⟩) (c25 : PySem.W.codeIn K cd25 "blur" = true) (k25 : PySem.W.keepIn K (.ref a25) = true)
    (n26 : PySem.W.nsIn K mainGlobals "is_useful" = some (some (.ref a26))) (l26 : K.lookup a26 = some ⟨oc26, od26, .func (PySem.W.fnOf "is_useful" "is_useful" (defArgs s_is_useful) (defBody s_is_useful) (defScope s_is_useful) .none kV26 dc26 pm26 an26 cd26 ct26), sl26⟩) (c26 : PySem.W.codeIn K cd26 "is_useful" = true) (k26 : PySem.W.keepIn K (.ref a26) = true)
    (n27 : PySem.W.nsIn K mainGlobals "_law_order" = some (some (.ref a27))) (l27 : K.lookup a27 = some ⟨oc27, od27, .func (PySem.W.fnOf "_law_order" "_law_order" (defArgs s_law_order) (defBody s_law_order) (defScope s_law_order) .none kV27 dc27 pm27 an27 cd27 ct27), sl27⟩) (c27 : PySem.W.codeIn K cd27 "_law_order" = true) (k27 : PySem.W.keepIn K (.ref a27) = true)
    (n28 : PySem.W.nsIn K mainGlobals "law" = some (some (.ref a28))) (l28 : K.lookup a28 = some ⟨oc28, od28, .func (PySem.W.fnOf "law" "law" (defArgs s_law_v23) (defBody s_law_v23) (defScope s_law_v23) .none kV28 dc28 pm28 an28 cd28 ct28), sl28⟩) (c28 : PySem.W.codeIn K cd28 "law" = true) (k28 : PySem.W.keepIn K (.ref a28) = true)
    (z_int : PySem.W.nsIn K mainGlobals "int" = some none)
    (z_range : PySem.W.nsIn K mainGlobals "range" = some none)
    (z_len : PySem.W.nsIn K mainGlobals "len" = some none)
    (z_sum : PySem.W.nsIn K mainGlobals "sum" = some none)
    (z_tuple : PySem.W.nsIn K mainGlobals "tuple" = some none)
    (z_isinstance : PySem.W.nsIn K mainGlobals "isinstance" = some none)
    (z_bool : PySem.W.nsIn K mainGlobals "bool" = some none)
    (z_any : PySem.W.nsIn K mainGlobals "any" = some none)
    (z_list : PySem.W.nsIn K mainGlobals "list" = some none)
    (z_zip : PySem.W.nsIn K mainGlobals "zip" = some none)
    (z_enumerate : PySem.W.nsIn K mainGlobals "enumerate" = some none)
    (z_min : PySem.W.nsIn K mainGlobals "min" = some none)
    (z_max : PySem.W.nsIn K mainGlobals "max" = some none)
    (z_sorted : PySem.W.nsIn K mainGlobals "sorted" = some none)
    (z_set : PySem.W.nsIn K mainGlobals "set" = some none)
    (y_MOST_CARDS : PySem.W.nsIn K mainGlobals "MOST_CARDS" = some (some (.int 13 t_MOST_CARDS)))
    (y_MOST_HANDS : PySem.W.nsIn K mainGlobals "MOST_HANDS" = some (some (.int 60 t_MOST_HANDS)))
    (xn_BadSetting : PySem.W.nsIn K mainGlobals "BadSetting" = some (some (.ref x_BadSetting))) (xe_BadSetting : PySem.W.excIn K x_BadSetting [.type "ValueError", .type "Exception", .type "BaseException", .type "object"] "ValueError.__new__" = true) (xk_BadSetting : PySem.W.keepIn K (.ref x_BadSetting) = true) (xs_BadSetting : PySem.W.subIn K (.ref x_BadSetting) (.type "BaseException") = some true) (xt_BadSetting : PySem.W.typeIn K (.ref x_BadSetting) = some (.type "type"))
    (xn_BadRests : PySem.W.nsIn K mainGlobals "BadRests" = some (some (.ref x_BadRests))) (xe_BadRests : PySem.W.excIn K x_BadRests [.type "ValueError", .type "Exception", .type "BaseException", .type "object"] "ValueError.__new__" = true) (xk_BadRests : PySem.W.keepIn K (.ref x_BadRests) = true) (xs_BadRests : PySem.W.subIn K (.ref x_BadRests) (.type "BaseException") = some true) (xt_BadRests : PySem.W.typeIn K (.ref x_BadRests) = some (.type "type"))
    (xn_NoLot : PySem.W.nsIn K mainGlobals "NoLot" = some (some (.ref x_NoLot))) (xe_NoLot : PySem.W.excIn K x_NoLot [.type "ValueError", .type "Exception", .type "BaseException", .type "object"] "ValueError.__new__" = true) (xk_NoLot : PySem.W.keepIn K (.ref x_NoLot) = true) (xs_NoLot : PySem.W.subIn K (.ref x_NoLot) (.type "BaseException") = some true) (xt_NoLot : PySem.W.typeIn K (.ref x_NoLot) = some (.type "type"))
    (xn_TooMany : PySem.W.nsIn K mainGlobals "TooMany" = some (some (.ref x_TooMany))) (xe_TooMany : PySem.W.excIn K x_TooMany [.type "ValueError", .type "Exception", .type "BaseException", .type "object"] "ValueError.__new__" = true) (xk_TooMany : PySem.W.keepIn K (.ref x_TooMany) = true) (xs_TooMany : PySem.W.subIn K (.ref x_TooMany) (.type "BaseException") = some true) (xt_TooMany : PySem.W.typeIn K (.ref x_TooMany) = some (.type "type"))
    (xn_BadLot : PySem.W.nsIn K mainGlobals "BadLot" = some (some (.ref x_BadLot))) (xe_BadLot : PySem.W.excIn K x_BadLot [.type "ValueError", .type "Exception", .type "BaseException", .type "object"] "ValueError.__new__" = true) (xk_BadLot : PySem.W.keepIn K (.ref x_BadLot) = true) (xs_BadLot : PySem.W.subIn K (.ref x_BadLot) (.type "BaseException") = some true) (xt_BadLot : PySem.W.typeIn K (.ref x_BadLot) = some (.type "type")) : Top ⟨K, fun n => match n with | 22 => a0 | 23 => a1 | 88 => a2 | 21 => a3 | 145 => a4 | 87 => a5 | 0 => a6 | 1 => a7 | 2 => a8 | 18 => a9 | 84 => a10 | 29 => a11 | 30 => a12 | 19 => a13 | 144 => a14 | 89 => a15 | 95 => a16 | 139 => a17 | 15 => a18 | 16 => a19 | 34 => a20 | 35 => a21 | 38 => a22 | 37 => a23 | 36 => a24 | 39 => a25 | 40 => a26 | 24 => a27 | 146 => a28 | _ => 0, fun n => match n with | 1 => x_BadSetting | 14 => x_BadRests | 16 => x_NoLot | 26 => x_TooMany | 4 => x_BadLot | _ => 0, w⟩ mg where
  b_int := PySem.W.mg_none_of X G z_int
  b_range := PySem.W.mg_none_of X G z_range
  b_len := PySem.W.mg_none_of X G z_len
  b_sum := PySem.W.mg_none_of X G z_sum
  b_tuple := PySem.W.mg_none_of X G z_tuple
  b_isinstance := PySem.W.mg_none_of X G z_isinstance
  b_bool := PySem.W.mg_none_of X G z_bool
  b_any := PySem.W.mg_none_of X G z_any
  b_list := PySem.W.mg_none_of X G z_list
  b_zip := PySem.W.mg_none_of X G z_zip
  b_enumerate := PySem.W.mg_none_of X G z_enumerate
  b_min := PySem.W.mg_none_of X G z_min
  b_max := PySem.W.mg_none_of X G z_max
  b_sorted := PySem.W.mg_none_of X G z_sorted
  b_set := PySem.W.mg_none_of X G z_set
  g_MOST_CARDS := ⟨_, PySem.W.mg_of X G y_MOST_CARDS⟩
  g_MOST_HANDS := ⟨_, PySem.W.mg_of X G y_MOST_HANDS⟩
  e_BadSetting := ⟨xe_BadSetting, PySem.W.mg_of X G xn_BadSetting, xk_BadSetting, xs_BadSetting, xt_BadSetting⟩
  e_BadRests := ⟨xe_BadRests, PySem.W.mg_of X G xn_BadRests, xk_BadRests, xs_BadRests, xt_BadRests⟩
  e_NoLot := ⟨xe_NoLot, PySem.W.mg_of X G xn_NoLot, xk_NoLot, xs_NoLot, xt_NoLot⟩
  e_TooMany := ⟨xe_TooMany, PySem.W.mg_of X G xn_TooMany, xk_TooMany, xs_TooMany, xt_TooMany⟩
  e_BadLot := ⟨xe_BadLot, PySem.W.mg_of X G xn_BadLot, xk_BadLot, xs_BadLot, xt_BadLot⟩
  g_law_draws := PySem.W.mg_of X G n0
  F_law_draws := ⟨_, fun_mk (st := s_law_draws) l0 c0 k0⟩
  g_law_setting := PySem.W.mg_of X G n1
  F_law_setting := ⟨_, fun_mk (st := s_law_setting) l1 c1 k1⟩
  g_law_prime := PySem.W.mg_of X G n2
  F_law_prime := ⟨_, fun_mk (st := s_law_prime) l2 c2 k2⟩
  g_law_cell_at := PySem.W.mg_of X G n3
  F_law_cell_at := ⟨_, fun_mk (st := s_law_cell_at) l3 c3 k3⟩
  g_law_great := PySem.W.mg_of X G n4
  F_law_great := ⟨_, fun_mk (st := s_law_great) l4 c4 k4⟩
  g_law_rests_v2 := PySem.W.mg_of X G n5
  F_law_rests_v2 := ⟨_, fun_mk (st := s_law_rests_v2) l5 c5 k5⟩
  g_is_integer := PySem.W.mg_of X G n6
  F_is_integer := ⟨_, fun_mk (st := s_is_integer) l6 c6 k6⟩
  g_is_setting := PySem.W.mg_of X G n7
  F_is_setting := ⟨_, fun_mk (st := s_is_setting) l7 c7 k7⟩
  g_check_setting := PySem.W.mg_of X G n8
  F_check_setting := ⟨_, fun_mk (st := s_check_setting) l8 c8 k8⟩
  g_prime_of := PySem.W.mg_of X G n9
  F_prime_of := ⟨_, fun_mk (st := s_prime_of) l9 c9 k9⟩
  g_check_rests := PySem.W.mg_of X G n10
  F_check_rests := ⟨_, fun_mk (st := s_check_rests) l10 c10 k10⟩
  g_rows_out_of := PySem.W.mg_of X G n11
  F_rows_out_of := ⟨_, fun_mk (st := s_rows_out_of) l11 c11 k11⟩
  g_all_hands := PySem.W.mg_of X G n12
  F_all_hands := ⟨_, fun_mk (st := s_all_hands) l12 c12 k12⟩
  g_powers_of := PySem.W.mg_of X G n13
  F_powers_of := ⟨_, fun_mk (st := s_powers_of) l13 c13 k13⟩
  g_power_lot := PySem.W.mg_of X G n14
  F_power_lot := ⟨_, fun_mk (st := s_power_lot) l14 c14 k14⟩
  g_law_is_hands := PySem.W.mg_of X G n15
  F_law_is_hands := ⟨_, fun_mk (st := s_law_is_hands) l15 c15 k15⟩
  g_law_shares := PySem.W.mg_of X G n16
  F_law_shares := ⟨_, fun_mk (st := s_law_shares) l16 c16 k16⟩
  g_law_useful := PySem.W.mg_of X G n17
  F_law_useful := ⟨_, fun_mk (st := s_law_useful) l17 c17 k17⟩
  g_is_row := PySem.W.mg_of X G n18
  F_is_row := ⟨_, fun_mk (st := s_is_row) l18 c18 k18⟩
  g_is_hand := PySem.W.mg_of X G n19
  F_is_hand := ⟨_, fun_mk (st := s_is_hand) l19 c19 k19⟩
  g_is_lot := PySem.W.mg_of X G n20
  F_is_lot := ⟨_, fun_mk (st := s_is_lot) l20 c20 k20⟩
  g_check_lot := PySem.W.mg_of X G n21
  F_check_lot := ⟨_, fun_mk (st := s_check_lot) l21 c21 k21⟩
  g_pairs_of := PySem.W.mg_of X G n22
  F_pairs_of := ⟨_, fun_mk (st := s_pairs_of) l22 c22 k22⟩
  g_count_common := PySem.W.mg_of X G n23
  F_count_common := ⟨_, fun_mk (st := s_count_common) l23 c23 k23⟩
  g_others := PySem.W.mg_of X G n24
  F_others := ⟨_, fun_mk (st := s_others) l24 c24 k24⟩
  g_blur := PySem.W.mg_of X G n25
  F_blur := ⟨_, fun_mk (st := s_blur) l25 c25 k25⟩
  g_is_useful := PySem.W.mg_of X G n26
  F_is_useful := ⟨_, fun_mk (st := s_is_useful) l26 c26 k26⟩
  g_law_order := PySem.W.mg_of X G n27
  F_law_order := ⟨_, fun_mk (st := s_law_order) l27 c27 k27⟩
  g_law_v23 := PySem.W.mg_of X G n28
  F_law_v23 := ⟨_, fun_mk (st := s_law_v23) l28 c28 k28⟩
theorem fin {P : Program} {w : World} {K : PySem.W.Frag} {h : Heap} {mg : Str → Option Value} {fa : Addr} (X : K.In h) (G : h.Ns mainGlobals mg) (hfa : mg "law" = some (.ref fa))
    {a0 : Addr} {od0 an0 : Option Addr} {sl0 : Array (Option Value)} {oc0 dc0 pm0 cd0 ct0 : Value} {kV0 : Value} {a1 : Addr} {od1 an1 : Option Addr} {sl1 : Array (Option Value)} {oc1 dc1 pm1 cd1 ct1 : Value} {kV1 : Value} {a2 : Addr} {od2 an2 : Option Addr} {sl2 : Array (Option Value)} {oc2 dc2 pm2 cd2 ct2 : Value} {kV2 : Value} {a3 : Addr} {od3 an3 : Option Addr} {sl3 : Array (Option Value)} {oc3 dc3 pm3 cd3 ct3 : Value} {kV3 : Value} {a4 : Addr} {od4 an4 : Option Addr} {sl4 : Array (Option Value)} {oc4 dc4 pm4 cd4 ct4 : Value} {kV4 : Value} {a5 : Addr} {od5 an5 : Option Addr} {sl5 : Array (Option Value)} {oc5 dc5 pm5 cd5 ct5 : Value} {kV5 : Value} {a6 : Addr} {od6 an6 : Option Addr} {sl6 : Array (Option Value)} {oc6 dc6 pm6 cd6 ct6 : Value} {kV6 : Value} {a7 : Addr} {od7 an7 : Option Addr} {sl7 : Array (Option Value)} {oc7 dc7 pm7 cd7 ct7 : Value} {kV7 : Value} {a8 : Addr} {od8 an8 : Option Addr} {sl8 : Array (Option Value)} {oc8 dc8 pm8 cd8 ct8 : Value} {kV8 : Value} {a9 : Addr} {od9 an9 : Option Addr} {sl9 : Array (Option Value)} {oc9 dc9 pm9 cd9 ct9 : Value} {kV9 : Value} {a10 : Addr} {od10 an10 : Option Addr} {sl10 : Array (Option Value)} {oc10 dc10 pm10 cd10 ct10 : Value} {kV10 : Value} {a11 : Addr} {od11 an11 : Option Addr} {sl11 : Array (Option Value)} {oc11 dc11 pm11 cd11 ct11 : Value} {kV11 : Value} {a12 : Addr} {od12 an12 : Option Addr} {sl12 : Array (Option Value)} {oc12 dc12 pm12 cd12 ct12 : Value} {kV12 : Value} {a13 : Addr} {od13 an13 : Option Addr} {sl13 : Array (Option Value)} {oc13 dc13 pm13 cd13 ct13 : Value} {kV13 : Value} {a14 : Addr} {od14 an14 : Option Addr} {sl14 : Array (Option Value)} {oc14 dc14 pm14 cd14 ct14 : Value} {kV14 : Value} {a15 : Addr} {od15 an15 : Option Addr} {sl15 : Array (Option Value)} {oc15 dc15 pm15 cd15 ct15 : Value} {kV15 : Value} {a16 : Addr} {od16 an16 : Option Addr} {sl16 : Array (Option Value)} {oc16 dc16 pm16 cd16 ct16 : Value} {kV16 : Value} {a17 : Addr} {od17 an17 : Option Addr} {sl17 : Array (Option Value)} {oc17 dc17 pm17 cd17 ct17 : Value} {kV17 : Value} {a18 : Addr} {od18 an18 : Option Addr} {sl18 : Array (Option Value)} {oc18 dc18 pm18 cd18 ct18 : Value} {kV18 : Value} {a19 : Addr} {od19 an19 : Option Addr} {sl19 : Array (Option Value)} {oc19 dc19 pm19 cd19 ct19 : Value} {kV19 : Value} {a20 : Addr} {od20 an20 : Option Addr} {sl20 : Array (Option Value)} {oc20 dc20 pm20 cd20 ct20 : Value} {kV20 : Value} {a21 : Addr} {od21 an21 : Option Addr} {sl21 : Array (Option Value)} {oc21 dc21 pm21 cd21 ct21 : Value} {kV21 : Value} {a22 : Addr} {od22 an22 : Option Addr} {sl22 : Array (Option Value)} {oc22 dc22 pm22 cd22 ct22 : Value} {kV22 : Value} {a23 : Addr} {od23 an23 : Option Addr} {sl23 : Array (Option Value)} {oc23 dc23 pm23 cd23 ct23 : Value} {kV23 : Value} {a24 : Addr} {od24 an24 : Option Addr} {sl24 : Array (Option Value)} {oc24 dc24 pm24 cd24 ct24 : Value} {kV24 : Value} {a25 : Addr} {od25 an25 : Option Addr} {sl25 : Array (Option Value)} {oc25 dc25 pm25 cd25 ct25 : Value} {kV25 : Value} {a26 : Addr} {od26 an26 : Option Addr} {sl26 : Array (Option Value)} {oc26 dc26 pm26 cd26 ct26 : Value} {kV26 : Value} {a27 : Addr} {od27 an27 : Option Addr} {sl27 : Array (Option Value)} {oc27 dc27 pm27 cd27 ct27 : Value} {kV27 : Value} {a28 : Addr} {od28 an28 : Option Addr} {sl28 : Array (Option Value)} {oc28 dc28 pm28 cd28 ct28 : Value} {kV28 : Value} {t_MOST_CARDS : Tok} {t_MOST_HANDS : Tok} {x_BadSetting : Addr} {x_BadRests : Addr} {x_NoLot : Addr} {x_TooMany : Addr} {x_BadLot : Addr}
    (n0 : PySem.W.nsIn K mainGlobals "_law_draws" = some (some (.ref a0))) (l0 : K.lookup a0 = some ⟨oc0, od0, .func (PySem.W.fnOf "_law_draws" "_law_draws" (defArgs s_law_draws) (defBody s_law_draws) (defScope s_law_draws) .none kV0 dc0 pm0 an0 cd0 ct0), sl0⟩) (c0 : PySem.W.codeIn K cd0 "_law_draws" = true) (k0 : PySem.W.keepIn K (.ref a0) = true)
    (n1 : PySem.W.nsIn K mainGlobals "_law_setting" = some (some (.ref a1))) (l1 : K.lookup a1 = some ⟨oc1, od1, .func (PySem.W.fnOf "_law_setting" "_law_setting" (defArgs s_law_setting) (defBody s_law_setting) (defScope s_law_setting) .none kV1 dc1 pm1 an1 cd1 ct1), sl1⟩) (c1 : PySem.W.codeIn K cd1 "_law_setting" = true) (k1 : PySem.W.keepIn K (.ref a1) = true)
    (n2 : PySem.W.nsIn K mainGlobals "_law_prime" = some (some (.ref a2))) (l2 : K.lookup a2 = some ⟨oc2, od2, .func (PySem.W.fnOf "_law_prime" "_law_prime" (defArgs s_law_prime) (defBody s_law_prime) (defScope s_law_prime) .none kV2 dc2 pm2 an2 cd2 ct2), sl2⟩) (c2 : PySem.W.codeIn K cd2 "_law_prime" = true) (k2 : PySem.W.keepIn K (.ref a2) = true)
    (n3 : PySem.W.nsIn K mainGlobals "_law_cell_at" = some (some (.ref a3))) (l3 : K.lookup a3 = some ⟨oc3, od3, .func (PySem.W.fnOf "_law_cell_at" "_law_cell_at" (defArgs s_law_cell_at) (defBody s_law_cell_at) (defScope s_law_cell_at) .none kV3 dc3 pm3 an3 cd3 ct3), sl3⟩) (c3 : PySem.W.codeIn K cd3 "_law_cell_at" = true) (k3 : PySem.W.keepIn K (.ref a3) = true)
    (n4 : PySem.W.nsIn K mainGlobals "_law_great" = some (some (.ref a4))) (l4 : K.lookup a4 = some ⟨oc4, od4, .func (PySem.W.fnOf "_law_great" "_law_great" (defArgs s_law_great) (defBody s_law_great) (defScope s_law_great) .none kV4 dc4 pm4 an4 cd4 ct4), sl4⟩) (c4 : PySem.W.codeIn K cd4 "_law_great" = true) (k4 : PySem.W.keepIn K (.ref a4) = true)
    (n5 : PySem.W.nsIn K mainGlobals "_law_rests" = some (some (.ref a5))) (l5 : K.lookup a5 = some ⟨oc5, od5, .func (PySem.W.fnOf "_law_rests" "_law_rests" (defArgs s_law_rests_v2) (defBody s_law_rests_v2) (defScope s_law_rests_v2) .none kV5 dc5 pm5 an5 cd5 ct5), sl5⟩) (c5 : PySem.W.codeIn K cd5 "_law_rests" = true) (k5 : PySem.W.keepIn K (.ref a5) = true)
    (n6 : PySem.W.nsIn K mainGlobals "is_integer" = some (some (.ref a6))) (l6 : K.lookup a6 = some ⟨oc6, od6, .func (PySem.W.fnOf "is_integer" "is_integer" (defArgs s_is_integer) (defBody s_is_integer) (defScope s_is_integer) .none kV6 dc6 pm6 an6 cd6 ct6), sl6⟩) (c6 : PySem.W.codeIn K cd6 "is_integer" = true) (k6 : PySem.W.keepIn K (.ref a6) = true)
    (n7 : PySem.W.nsIn K mainGlobals "is_setting" = some (some (.ref a7))) (l7 : K.lookup a7 = some ⟨oc7, od7, .func (PySem.W.fnOf "is_setting" "is_setting" (defArgs s_is_setting) (defBody s_is_setting) (defScope s_is_setting) .none kV7 dc7 pm7 an7 cd7 ct7), sl7⟩) (c7 : PySem.W.codeIn K cd7 "is_setting" = true) (k7 : PySem.W.keepIn K (.ref a7) = true)
    (n8 : PySem.W.nsIn K mainGlobals "check_setting" = some (some (.ref a8))) (l8 : K.lookup a8 = some ⟨oc8, od8, .func (PySem.W.fnOf "check_setting" "check_setting" (defArgs s_check_setting) (defBody s_check_setting) (defScope s_check_setting) .none kV8 dc8 pm8 an8 cd8 ct8), sl8⟩) (c8 : PySem.W.codeIn K cd8 "check_setting" = true) (k8 : PySem.W.keepIn K (.ref a8) = true)
    (n9 : PySem.W.nsIn K mainGlobals "prime_of" = some (some (.ref a9))) (l9 : K.lookup a9 = some ⟨oc9, od9, .func (PySem.W.fnOf "prime_of" "prime_of" (defArgs s_prime_of) (defBody s_prime_of) (defScope s_prime_of) .none kV9 dc9 pm9 an9 cd9 ct9), sl9⟩) (c9 : PySem.W.codeIn K cd9 "prime_of" = true) (k9 : PySem.W.keepIn K (.ref a9) = true)
    (n10 : PySem.W.nsIn K mainGlobals "check_rests" = some (some (.ref a10))) (l10 : K.lookup a10 = some ⟨oc10, od10, .func (PySem.W.fnOf "check_rests" "check_rests" (defArgs s_check_rests) (defBody s_check_rests) (defScope s_check_rests) .none kV10 dc10 pm10 an10 cd10 ct10), sl10⟩) (c10 : PySem.W.codeIn K cd10 "check_rests" = true) (k10 : PySem.W.keepIn K (.ref a10) = true)
    (n11 : PySem.W.nsIn K mainGlobals "rows_out_of" = some (some (.ref a11))) (l11 : K.lookup a11 = some ⟨oc11, od11, .func (PySem.W.fnOf "rows_out_of" "rows_out_of" (defArgs s_rows_out_of) (defBody s_rows_out_of) (defScope s_rows_out_of) .none kV11 dc11 pm11 an11 cd11 ct11), sl11⟩) (c11 : PySem.W.codeIn K cd11 "rows_out_of" = true) (k11 : PySem.W.keepIn K (.ref a11) = true)
    (n12 : PySem.W.nsIn K mainGlobals "all_hands" = some (some (.ref a12))) (l12 : K.lookup a12 = some ⟨oc12, od12, .func (PySem.W.fnOf "all_hands" "all_hands" (defArgs s_all_hands) (defBody s_all_hands) (defScope s_all_hands) .none kV12 dc12 pm12 an12 cd12 ct12), sl12⟩) (c12 : PySem.W.codeIn K cd12 "all_hands" = true) (k12 : PySem.W.keepIn K (.ref a12) = true)
    (n13 : PySem.W.nsIn K mainGlobals "powers_of" = some (some (.ref a13))) (l13 : K.lookup a13 = some ⟨oc13, od13, .func (PySem.W.fnOf "powers_of" "powers_of" (defArgs s_powers_of) (defBody s_powers_of) (defScope s_powers_of) .none kV13 dc13 pm13 an13 cd13 ct13), sl13⟩) (c13 : PySem.W.codeIn K cd13 "powers_of" = true) (k13 : PySem.W.keepIn K (.ref a13) = true)
    (n14 : PySem.W.nsIn K mainGlobals "power_lot" = some (some (.ref a14))) (l14 : K.lookup a14 = some ⟨oc14, od14, .func (PySem.W.fnOf "power_lot" "power_lot" (defArgs s_power_lot) (defBody s_power_lot) (defScope s_power_lot) .none kV14 dc14 pm14 an14 cd14 ct14), sl14⟩) (c14 : PySem.W.codeIn K cd14 "power_lot" = true) (k14 : PySem.W.keepIn K (.ref a14) = true)
    (n15 : PySem.W.nsIn K mainGlobals "_law_is_hands" = some (some (.ref a15))) (l15 : K.lookup a15 = some ⟨oc15, od15, .func (PySem.W.fnOf "_law_is_hands" "_law_is_hands" (defArgs s_law_is_hands) (defBody s_law_is_hands) (defScope s_law_is_hands) .none kV15 dc15 pm15 an15 cd15 ct15), sl15⟩) (c15 : PySem.W.codeIn K cd15 "_law_is_hands" = true) (k15 : PySem.W.keepIn K (.ref a15) = true)
    (n16 : PySem.W.nsIn K mainGlobals "_law_shares" = some (some (.ref a16))) (l16 : K.lookup a16 = some ⟨oc16, od16, .func (PySem.W.fnOf "_law_shares" "_law_shares" (defArgs s_law_shares) (defBody s_law_shares) (defScope s_law_shares) .none kV16 dc16 pm16 an16 cd16 ct16), sl16⟩) (c16 : PySem.W.codeIn K cd16 "_law_shares" = true) (k16 : PySem.W.keepIn K (.ref a16) = true)
    (n17 : PySem.W.nsIn K mainGlobals "_law_useful" = some (some (.ref a17))) (l17 : K.lookup a17 = some ⟨oc17, od17, .func (PySem.W.fnOf "_law_useful" "_law_useful" (defArgs s_law_useful) (defBody s_law_useful) (defScope s_law_useful) .none kV17 dc17 pm17 an17 cd17 ct17), sl17⟩) (c17 : PySem.W.codeIn K cd17 "_law_useful" = true) (k17 : PySem.W.keepIn K (.ref a17) = true)
    (n18 : PySem.W.nsIn K mainGlobals "is_row" = some (some (.ref a18))) (l18 : K.lookup a18 = some ⟨oc18, od18, .func (PySem.W.fnOf "is_row" "is_row" (defArgs s_is_row) (defBody s_is_row) (defScope s_is_row) .none kV18 dc18 pm18 an18 cd18 ct18), sl18⟩) (c18 : PySem.W.codeIn K cd18 "is_row" = true) (k18 : PySem.W.keepIn K (.ref a18) = true)
    (n19 : PySem.W.nsIn K mainGlobals "is_hand" = some (some (.ref a19))) (l19 : K.lookup a19 = some ⟨oc19, od19, .func (PySem.W.fnOf "is_hand" "is_hand" (defArgs s_is_hand) (defBody s_is_hand) (defScope s_is_hand) .none kV19 dc19 pm19 an19 cd19 ct19), sl19⟩) (c19 : PySem.W.codeIn K cd19 "is_hand" = true) (k19 : PySem.W.keepIn K (.ref a19) = true)
    (n20 : PySem.W.nsIn K mainGlobals "is_lot" = some (some (.ref a20))) (l20 : K.lookup a20 = some ⟨oc20, od20, .func (PySem.W.fnOf "is_lot" "is_lot" (defArgs s_is_lot) (defBody s_is_lot) (defScope s_is_lot) .none kV20 dc20 pm20 an20 cd20 ct20), sl20⟩) (c20 : PySem.W.codeIn K cd20 "is_lot" = true) (k20 : PySem.W.keepIn K (.ref a20) = true)
    (n21 : PySem.W.nsIn K mainGlobals "check_lot" = some (some (.ref a21))) (l21 : K.lookup a21 = some ⟨oc21, od21, .func (PySem.W.fnOf "check_lot" "check_lot" (defArgs s_check_lot) (defBody s_check_lot) (defScope s_check_lot) .none kV21 dc21 pm21 an21 cd21 ct21), sl21⟩) (c21 : PySem.W.codeIn K cd21 "check_lot" = true) (k21 : PySem.W.keepIn K (.ref a21) = true)
    (n22 : PySem.W.nsIn K mainGlobals "pairs_of" = some (some (.ref a22))) (l22 : K.lookup a22 = some ⟨oc22, od22, .func (PySem.W.fnOf "pairs_of" "pairs_of" (defArgs s_pairs_of) (defBody s_pairs_of) (defScope s_pairs_of) .none kV22 dc22 pm22 an22 cd22 ct22), sl22⟩) (c22 : PySem.W.codeIn K cd22 "pairs_of" = true) (k22 : PySem.W.keepIn K (.ref a22) = true)
    (n23 : PySem.W.nsIn K mainGlobals "count_common" = some (some (.ref a23))) (l23 : K.lookup a23 = some ⟨oc23, od23, .func (PySem.W.fnOf "count_common" "count_common" (defArgs s_count_common) (defBody s_count_common) (defScope s_count_common) .none kV23 dc23 pm23 an23 cd23 ct23), sl23⟩) (c23 : PySem.W.codeIn K cd23 "count_common" = true) (k23 : PySem.W.keepIn K (.ref a23) = true)
    (n24 : PySem.W.nsIn K mainGlobals "others" = some (some (.ref a24))) (l24 : K.lookup a24 = some ⟨oc24, od24, .func (PySem.W.fnOf "others" "others" (defArgs s_others) (defBody s_others) (defScope s_others) .none kV24 dc24 pm24 an24 cd24 ct24), sl24⟩) (c24 : PySem.W.codeIn K cd24 "others" = true) (k24 : PySem.W.keepIn K (.ref a24) = true)
    (n25 : PySem.W.nsIn K mainGlobals "blur" = some (some (.ref a25))) (l25 : K.lookup a25 = some ⟨oc25, od25, .func (PySem.W.fnOf "blur" "blur" (defArgs s_blur) (defBody s_blur) (defScope s_blur) .none kV25 dc25 pm25 an25 cd25 ct25), sl25⟩) (c25 : PySem.W.codeIn K cd25 "blur" = true) (k25 : PySem.W.keepIn K (.ref a25) = true)
    (n26 : PySem.W.nsIn K mainGlobals "is_useful" = some (some (.ref a26))) (l26 : K.lookup a26 = some ⟨oc26, od26, .func (PySem.W.fnOf "is_useful" "is_useful" (defArgs s_is_useful) (defBody s_is_useful) (defScope s_is_useful) .none kV26 dc26 pm26 an26 cd26 ct26), sl26⟩) (c26 : PySem.W.codeIn K cd26 "is_useful" = true) (k26 : PySem.W.keepIn K (.ref a26) = true)
    (n27 : PySem.W.nsIn K mainGlobals "_law_order" = some (some (.ref a27))) (l27 : K.lookup a27 = some ⟨oc27, od27, .func (PySem.W.fnOf "_law_order" "_law_order" (defArgs s_law_order) (defBody s_law_order) (defScope s_law_order) .none kV27 dc27 pm27 an27 cd27 ct27), sl27⟩) (c27 : PySem.W.codeIn K cd27 "_law_order" = true) (k27 : PySem.W.keepIn K (.ref a27) = true)
    (n28 : PySem.W.nsIn K mainGlobals "law" = some (some (.ref a28))) (l28 : K.lookup a28 = some ⟨oc28, od28, .func (PySem.W.fnOf "law" "law" (defArgs s_law_v23) (defBody s_law_v23) (defScope s_law_v23) .none kV28 dc28 pm28 an28 cd28 ct28), sl28⟩) (c28 : PySem.W.codeIn K cd28 "law" = true) (k28 : PySem.W.keepIn K (.ref a28) = true)
    (z_int : PySem.W.nsIn K mainGlobals "int" = some none)
    (z_range : PySem.W.nsIn K mainGlobals "range" = some none)
    (z_len : PySem.W.nsIn K mainGlobals "len" = some none)
    (z_sum : PySem.W.nsIn K mainGlobals "sum" = some none)
    (z_tuple : PySem.W.nsIn K mainGlobals "tuple" = some none)
    (z_isinstance : PySem.W.nsIn K mainGlobals "isinstance" = some none)
    (z_bool : PySem.W.nsIn K mainGlobals "bool" = some none)
    (z_any : PySem.W.nsIn K mainGlobals "any" = some none)
    (z_list : PySem.W.nsIn K mainGlobals "list" = some none)
    (z_zip : PySem.W.nsIn K mainGlobals "zip" = some none)
    (z_enumerate : PySem.W.nsIn K mainGlobals "enumerate" = some none)
    (z_min : PySem.W.nsIn K mainGlobals "min" = some none)
    (z_max : PySem.W.nsIn K mainGlobals "max" = some none)
    (z_sorted : PySem.W.nsIn K mainGlobals "sorted" = some none)
    (z_set : PySem.W.nsIn K mainGlobals "set" = some none)
    (y_MOST_CARDS : PySem.W.nsIn K mainGlobals "MOST_CARDS" = some (some (.int 13 t_MOST_CARDS)))
    (y_MOST_HANDS : PySem.W.nsIn K mainGlobals "MOST_HANDS" = some (some (.int 60 t_MOST_HANDS)))
    (xn_BadSetting : PySem.W.nsIn K mainGlobals "BadSetting" = some (some (.ref x_BadSetting))) (xe_BadSetting : PySem.W.excIn K x_BadSetting [.type "ValueError", .type "Exception", .type "BaseException", .type "object"] "ValueError.__new__" = true) (xk_BadSetting : PySem.W.keepIn K (.ref x_BadSetting) = true) (xs_BadSetting : PySem.W.subIn K (.ref x_BadSetting) (.type "BaseException") = some true) (xt_BadSetting : PySem.W.typeIn K (.ref x_BadSetting) = some (.type "type"))
    (xn_BadRests : PySem.W.nsIn K mainGlobals "BadRests" = some (some (.ref x_BadRests))) (xe_BadRests : PySem.W.excIn K x_BadRests [.type "ValueError", .type "Exception", .type "BaseException", .type "object"] "ValueError.__new__" = true) (xk_BadRests : PySem.W.keepIn K (.ref x_BadRests) = true) (xs_BadRests : PySem.W.subIn K (.ref x_BadRests) (.type "BaseException") = some true) (xt_BadRests : PySem.W.typeIn K (.ref x_BadRests) = some (.type "type"))
    (xn_NoLot : PySem.W.nsIn K mainGlobals "NoLot" = some (some (.ref x_NoLot))) (xe_NoLot : PySem.W.excIn K x_NoLot [.type "ValueError", .type "Exception", .type "BaseException", .type "object"] "ValueError.__new__" = true) (xk_NoLot : PySem.W.keepIn K (.ref x_NoLot) = true) (xs_NoLot : PySem.W.subIn K (.ref x_NoLot) (.type "BaseException") = some true) (xt_NoLot : PySem.W.typeIn K (.ref x_NoLot) = some (.type "type"))
    (xn_TooMany : PySem.W.nsIn K mainGlobals "TooMany" = some (some (.ref x_TooMany))) (xe_TooMany : PySem.W.excIn K x_TooMany [.type "ValueError", .type "Exception", .type "BaseException", .type "object"] "ValueError.__new__" = true) (xk_TooMany : PySem.W.keepIn K (.ref x_TooMany) = true) (xs_TooMany : PySem.W.subIn K (.ref x_TooMany) (.type "BaseException") = some true) (xt_TooMany : PySem.W.typeIn K (.ref x_TooMany) = some (.type "type"))
    (xn_BadLot : PySem.W.nsIn K mainGlobals "BadLot" = some (some (.ref x_BadLot))) (xe_BadLot : PySem.W.excIn K x_BadLot [.type "ValueError", .type "Exception", .type "BaseException", .type "object"] "ValueError.__new__" = true) (xk_BadLot : PySem.W.keepIn K (.ref x_BadLot) = true) (xs_BadLot : PySem.W.subIn K (.ref x_BadLot) (.type "BaseException") = some true) (xt_BadLot : PySem.W.typeIn K (.ref x_BadLot) = some (.type "type")) : ∃ fd : FuncData, (∀ (s : Shared) (v : Value), BindsTo s fd ⟨[v], []⟩ [("script", v)]) ∧ ∀ base, K.In base → base.Ns mainGlobals mg → FnOk P w K mg base (L2.CX P w) 60 fa fd ["script"] (spLaw K) := by
  have T : Top ⟨K, fun n => match n with | 22 => a0 | 23 => a1 | 88 => a2 | 21 => a3 | 145 => a4 | 87 => a5 | 0 => a6 | 1 => a7 | 2 => a8 | 18 => a9 | 84 => a10 | 29 => a11 | 30 => a12 | 19 => a13 | 144 => a14 | 89 => a15 | 95 => a16 | 139 => a17 | 15 => a18 | 16 => a19 | 34 => a20 | 35 => a21 | 38 => a22 | 37 => a23 | 36 => a24 | 39 => a25 | 40 => a26 | 24 => a27 | 146 => a28 | _ => 0, fun n => match n with | 1 => x_BadSetting | 14 => x_BadRests | 16 => x_NoLot | 26 => x_TooMany | 4 => x_BadLot | _ => 0, w⟩ mg := top_mk X G n0 l0 c0 k0 n1 l1 c1 k1 n2 l2 c2 k2 n3 l3 c3 k3 n4 l4 c4 k4 n5 l5 c5 k5 n6 l6 c6 k6 n7 l7 c7 k7 n8 l8 c8 k8 n9 l9 c9 k9 n10 l10 c10 k10 n11 l11 c11 k11 n12 l12 c12 k12 n13 l13 c13 k13 n14 l14 c14 k14 n15 l15 c15 k15 n16 l16 c16 k16 n17 l17 c17 k17 n18 l18 c18 k18 n19 l19 c19 k19 n20 l20 c20 k20 n21 l21 c21 k21 n22 l22 c22 k22 n23 l23 c23 k23 n24 l24 c24 k24 n25 l25 c25 k25 n26 l26 c26 k26 n27 l27 c27 k27 n28 l28 c28 k28 z_int z_range z_len z_sum z_tuple z_isinstance z_bool z_any z_list z_zip z_enumerate z_min z_max z_sorted z_set y_MOST_CARDS y_MOST_HANDS xn_BadSetting xe_BadSetting xk_BadSetting xs_BadSetting xt_BadSetting xn_BadRests xe_BadRests xk_BadRests xs_BadRests xt_BadRests xn_NoLot xe_NoLot xk_NoLot xs_NoLot xt_NoLot xn_TooMany xe_TooMany xk_TooMany xs_TooMany xt_TooMany xn_BadLot xe_BadLot xk_BadLot xs_BadLot xt_BadLot
  obtain ⟨fd, h1, h2⟩ := law_fn' (P := P) T hfa
  exact ⟨fd, h1, fun base _ _ => h2 base⟩
end OH
open PySem PySem.W PyProof.Rows
set_option maxRecDepth 100000 in
set_option maxHeartbeats 0 in
theorem PySem.Challenge.cw_openhands_k39_whole_power_lots_are_usefu_holds : PySem.Challenge.rw_openhands_k39_whole_power_lots_are_usefu.Holds := by
  w_on; o_law; k_head; (case hw => w_witness2)
  k_fill
  refine L2.walk_of (l := PySem.Challenge.rw_openhands_k39_whole_power_lots_are_usefu) (n := 63) (k := 60) (x := "script") (CX := fun w => L2.CX PySem.Challenge.pw_openhands_k39_whole_power_lots_are_usefu w) (sp := fun w => OH.spLaw _) rfl (by decide) rfl ⟨rfl, by decide, by decide⟩ (fun w h Y => PySem.W.kIn_of Y) ?F (fun _ H a ns hl hO hS => OH.spLaw_of hl hO hS) (fun _ _ _ _ _ h => OH.cx_none h)
  case F =>
    intro w mg fa h KX G hmg
    refine' OH.fin KX G hmg ?n0 ?l0 ?c0 ?k0 ?n1 ?l1 ?c1 ?k1 ?n2 ?l2 ?c2 ?k2 ?n3 ?l3 ?c3 ?k3 ?n4 ?l4 ?c4 ?k4 ?n5 ?l5 ?c5 ?k5 ?n6 ?l6 ?c6 ?k6 ?n7 ?l7 ?c7 ?k7 ?n8 ?l8 ?c8 ?k8 ?n9 ?l9 ?c9 ?k9 ?n10 ?l10 ?c10 ?k10 ?n11 ?l11 ?c11 ?k11 ?n12 ?l12 ?c12 ?k12 ?n13 ?l13 ?c13 ?k13 ?n14 ?l14 ?c14 ?k14 ?n15 ?l15 ?c15 ?k15 ?n16 ?l16 ?c16 ?k16 ?n17 ?l17 ?c17 ?k17 ?n18 ?l18 ?c18 ?k18 ?n19 ?l19 ?c19 ?k19 ?n20 ?l20 ?c20 ?k20 ?n21 ?l21 ?c21 ?k21 ?n22 ?l22 ?c22 ?k22 ?n23 ?l23 ?c23 ?k23 ?n24 ?l24 ?c24 ?k24 ?n25 ?l25 ?c25 ?k25 ?n26 ?l26 ?c26 ?k26 ?n27 ?l27 ?c27 ?k27 ?n28 ?l28 ?c28 ?k28 ?z_int ?z_range ?z_len ?z_sum ?z_tuple ?z_isinstance ?z_bool ?z_any ?z_list ?z_zip ?z_enumerate ?z_min ?z_max ?z_sorted ?z_set ?y_MOST_CARDS ?y_MOST_HANDS ?xn_BadSetting ?xe_BadSetting ?xk_BadSetting ?xs_BadSetting ?xt_BadSetting ?xn_BadRests ?xe_BadRests ?xk_BadRests ?xs_BadRests ?xt_BadRests ?xn_NoLot ?xe_NoLot ?xk_NoLot ?xs_NoLot ?xt_NoLot ?xn_TooMany ?xe_TooMany ?xk_TooMany ?xs_TooMany ?xt_TooMany ?xn_BadLot ?xe_BadLot ?xk_BadLot ?xs_BadLot ?xt_BadLot
    (case n0 => k_is); (case l0 => k_is); (case c0 => k_is); (case k0 => k_is); (case n1 => k_is); (case l1 => k_is); (case c1 => k_is); (case k1 => k_is); (case n2 => k_is); (case l2 => k_is); (case c2 => k_is); (case k2 => k_is); (case n3 => k_is); (case l3 => k_is); (case c3 => k_is); (case k3 => k_is); (case n4 => k_is); (case l4 => k_is); (case c4 => k_is); (case k4 => k_is); (case n5 => k_is); (case l5 => k_is); (case c5 => k_is); (case k5 => k_is); (case n6 => k_is); (case l6 => k_is); (case c6 => k_is); (case k6 => k_is); (case n7 => k_is); (case l7 => k_is); (case c7 => k_is); (case k7 => k_is); (case n8 => k_is); (case l8 => k_is); (case c8 => k_is); (case k8 => k_is); (case n9 => k_is); (case l9 => k_is); (case c9 => k_is); (case k9 => k_is); (case n10 => k_is); (case l10 => k_is); (case c10 => k_is); (case k10 => k_is); (case n11 => k_is); (case l11 => k_is); (case c11 => k_is); (case k11 => k_is); (case n12 => k_is); (case l12 => k_is); (case c12 => k_is); (case k12 => k_is); (case n13 => k_is); (case l13 => k_is); (case c13 => k_is); (case k13 => k_is); (case n14 => k_is); (case l14 => k_is); (case c14 => k_is); (case k14 => k_is); (case n15 => k_is); (case l15 => k_is); (case c15 => k_is); (case k15 => k_is); (case n16 => k_is); (case l16 => k_is); (case c16 => k_is); (case k16 => k_is); (case n17 => k_is); (case l17 => k_is); (case c17 => k_is); (case k17 => k_is); (case n18 => k_is); (case l18 => k_is); (case c18 => k_is); (case k18 => k_is); (case n19 => k_is); (case l19 => k_is); (case c19 => k_is); (case k19 => k_is); (case n20 => k_is); (case l20 => k_is); (case c20 => k_is); (case k20 => k_is); (case n21 => k_is); (case l21 => k_is); (case c21 => k_is); (case k21 => k_is); (case n22 => k_is); (case l22 => k_is); (case c22 => k_is); (case k22 => k_is); (case n23 => k_is); (case l23 => k_is); (case c23 => k_is); (case k23 => k_is); (case n24 => k_is); (case l24 => k_is); (case c24 => k_is); (case k24 => k_is); (case n25 => k_is); (case l25 => k_is); (case c25 => k_is); (case k25 => k_is); (case n26 => k_is); (case l26 => k_is); (case c26 => k_is); (case k26 => k_is); (case n27 => k_is); (case l27 => k_is); (case c27 => k_is); (case k27 => k_is); (case n28 => k_is); (case l28 => k_is); (case c28 => k_is); (case k28 => k_is); (case z_int => k_is); (case z_range => k_is); (case z_len => k_is); (case z_sum => k_is); (case z_tuple => k_is); (case z_isinstance => k_is); (case z_bool => k_is); (case z_any => k_is); (case z_list => k_is); (case z_zip => k_is); (case z_enumerate => k_is); (case z_min => k_is); (case z_max => k_is); (case z_sorted => k_is); (case z_set => k_is); (case y_MOST_CARDS => k_is); (case y_MOST_HANDS => k_is); (case xn_BadSetting => k_is); (case xe_BadSetting => k_exc); (case xk_BadSetting => k_is); (case xs_BadSetting => k_is); (case xt_BadSetting => k_is); (case xn_BadRests => k_is); (case xe_BadRests => k_exc); (case xk_BadRests => k_is); (case xs_BadRests => k_is); (case xt_BadRests => k_is); (case xn_NoLot => k_is); (case xe_NoLot => k_exc); (case xk_NoLot => k_is); (case xs_NoLot => k_is); (case xt_NoLot => k_is); (case xn_TooMany => k_is); (case xe_TooMany => k_exc); (case xk_TooMany => k_is); (case xs_TooMany => k_is); (case xt_TooMany => k_is); (case xn_BadLot => k_is); (case xe_BadLot => k_exc); (case xk_BadLot => k_is); (case xs_BadLot => k_is); (case xt_BadLot => k_is)
