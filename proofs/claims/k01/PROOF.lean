import PyProof.Rows.All
import HandS.ForMost
import HandS.ForExc
import HandS.Flow
import HandS.IsInst
import HandS.TupAny
import HandS.TupLe
import HandS.Deep
import HandS.SortInts
import KE.KTupSum
import HandS.WordsDict
import HandS.More
import HandS.Conv
import HandS.Dict
import HandS.Defaults
import HandS.Iter
import HandS.TryOnly
import HandS.ExcIs
import KE.RegKIsAll
import KE.RegKTryMore
import HandS.TryMany
import HandS.SetFor
import HandS.TupSets
import PyProof.EqKinds
import PyProof.FactsAll.dict_2
import PyProof.FactsAll.int_3
import PyProof.FactsAll.subtypes_1
import HandS.Zip
import KE.SortData
import PySem.Challenge.RW_openhands_k01_hands_and_deals
set_option Elab.async false
set_option linter.all false
/-! OHSem: data, stores, and the meaning of expressions and statements as plain functions of them. -/
namespace OH
open PySem

/-- data: tuples are trees; lists, dicts and objects stand in a store, by their places -/
inductive D where
  | non | bl (b : Bool) | int (i : Int) | str (s : Str) | tup (ds : List D) | ref (i : Nat) | fn (f : Nat)
  /-- a list that is read alone: the script -/
  | scr (ds : List D)
  deriving Inhabited

/-- a test that the kernel does not unfold -/
noncomputable def tst : Bool → Bool := Classical.choose (⟨id, fun _ => rfl⟩ : ∃ f : Bool → Bool, ∀ b, f b = b)
theorem tst_eq (b : Bool) : tst b = b := Classical.choose_spec (⟨id, fun _ => rfl⟩ : ∃ f : Bool → Bool, ∀ b, f b = b) b
noncomputable def tsd (p : Prop) [Decidable p] : Bool := tst (decide p)
theorem tsd_of {p : Prop} [Decidable p] (h : tsd p = true) : p := by unfold tsd at h; rw [tst_eq] at h; exact of_decide_eq_true h
theorem of_tsd {p : Prop} [Decidable p] (h : p) : tsd p = true := by unfold tsd; rw [tst_eq]; exact decide_eq_true h

inductive Cell where
  /-- a list; a dict -/
  | lst (ds : List D) | dct (kvs : List (D × D))

abbrev Sto := List Cell
abbrev Env := List (Option D)

inductive Res (α : Type) where
  | ok (a : α) (st : Sto) | exc (c : Nat) (x : D) (st : Sto) | stuck
/-- a statement's end -/
inductive RS where
  | nx (env : Env) (st : Sto) | ret (d : D) (st : Sto) | brk (env : Env) (st : Sto) | cnt (env : Env) (st : Sto) | exc (c : Nat) (x : D) (env : Env) (st : Sto) | stuck

def Res.bind {α β : Type} : Res α → (α → Sto → Res β) → Res β
  | .ok a st, f => f a st
  | .exc c x st, _ => .exc c x st
  | .stuck, _ => .stuck
/-- an expression's value handed to what follows in a statement -/
def Res.thenS {α : Type} (env : Env) : Res α → (α → Sto → RS) → RS
  | .ok a st, f => f a st
  | .exc c x st, _ => .exc c x env st
  | .stuck, _ => .stuck
def RS.thenS : RS → (Env → Sto → RS) → RS
  | .nx env st, f => f env st
  | .ret d st, _ => .ret d st
  | .brk e st, _ => .brk e st
  | .cnt e st, _ => .cnt e st
  | .exc c x e st, _ => .exc c x e st
  | .stuck, _ => .stuck
def Res.of {α : Type} (o : Option α) (st : Sto) : Res α := match o with | some a => .ok a st | none => .stuck
@[simp] theorem Res.bind_ok {α β : Type} (a : α) (st : Sto) (f : α → Sto → Res β) : (Res.ok a st).bind f = f a st := rfl
@[simp] theorem Res.bind_exc {α β : Type} (c : Nat) (x : D) (st : Sto) (f : α → Sto → Res β) : (Res.exc c x st : Res α).bind f = .exc c x st := rfl
@[simp] theorem Res.bind_stuck {α β : Type} (f : α → Sto → Res β) : (Res.stuck : Res α).bind f = .stuck := rfl
@[simp] theorem Res.thenS_ok {α : Type} (env : Env) (a : α) (st : Sto) (f : α → Sto → RS) : (Res.ok a st).thenS env f = f a st := rfl
@[simp] theorem Res.thenS_exc {α : Type} (env : Env) (c : Nat) (x : D) (st : Sto) (f : α → Sto → RS) : (Res.exc c x st : Res α).thenS env f = .exc c x env st := rfl
@[simp] theorem RS.thenS_nx (env : Env) (st : Sto) (f : Env → Sto → RS) : (RS.nx env st).thenS f = f env st := rfl
@[simp] theorem RS.thenS_ret (d : D) (st : Sto) (f : Env → Sto → RS) : (RS.ret d st).thenS f = .ret d st := rfl
@[simp] theorem RS.thenS_exc (c : Nat) (x : D) (env : Env) (st : Sto) (f : Env → Sto → RS) : (RS.exc c x env st).thenS f = .exc c x env st := rfl
@[simp] theorem Res.of_some {α : Type} (a : α) (st : Sto) : Res.of (some a) st = .ok a st := rfl

/-- a call of a def, by its number -/
abbrev Call := Nat → List D → Sto → Res D
/-- an expression; a test; a row of arguments or the items of a list that nobody else has -/
abbrev SE := Call → Env → Sto → Res D
abbrev SB := Call → Env → Sto → Res Bool
abbrev SL := Call → Env → Sto → Res (List D)
abbrev SS := Call → Env → Sto → RS

/-! ### equality of data -/
mutual
def D.beq : D → D → Bool
  | .non, .non => true
  | .bl a, .bl b => a == b
  | .int a, .int b => a == b
  | .str a, .str b => a == b
  | .tup a, .tup b => D.beqL a b
  | .ref a, .ref b => a == b
  | .fn a, .fn b => a == b
  | .scr a, .scr b => D.beqL a b
  | _, _ => false
def D.beqL : List D → List D → Bool
  | [], [] => true
  | a :: as, b :: bs => D.beq a b && D.beqL as bs
  | _, _ => false
end
mutual
theorem D.beq_eq : ∀ (a b : D), D.beq a b = true → a = b
  | .non, b, h => by cases b <;> simp [D.beq] at h; rfl
  | .bl a, b, h => by cases b <;> simp [D.beq] at h; rw [h]
  | .int a, b, h => by cases b <;> simp [D.beq] at h; rw [h]
  | .str a, b, h => by cases b <;> simp [D.beq] at h; rw [h]
  | .tup a, b, h => by
    cases b <;> simp [D.beq] at h
    rw [D.beqL_eq _ _ h]
  | .ref a, b, h => by cases b <;> simp [D.beq] at h; rw [h]
  | .fn a, b, h => by cases b <;> simp [D.beq] at h; rw [h]
  | .scr a, b, h => by
    cases b <;> simp [D.beq] at h
    rw [D.beqL_eq _ _ h]
theorem D.beqL_eq : ∀ (a b : List D), D.beqL a b = true → a = b
  | [], b, h => by cases b <;> simp [D.beqL] at h; rfl
  | a :: as, b, h => by
    cases b with
    | nil => simp [D.beqL] at h
    | cons b bs =>
      simp [D.beqL] at h
      rw [D.beq_eq _ _ h.1, D.beqL_eq _ _ h.2]
end
mutual
theorem D.beq_refl : ∀ (a : D), D.beq a a = true
  | .non => rfl
  | .bl a => by simp [D.beq]
  | .int a => by simp [D.beq]
  | .str a => by simp [D.beq]
  | .tup a => by simp [D.beq, D.beqL_refl a]
  | .ref a => by simp [D.beq]
  | .fn a => by simp [D.beq]
  | .scr a => by simp [D.beq, D.beqL_refl a]
theorem D.beqL_refl : ∀ (a : List D), D.beqL a a = true
  | [] => rfl
  | a :: as => by simp [D.beqL, D.beq_refl a, D.beqL_refl as]
end
instance : DecidableEq D := fun a b => if h : D.beq a b = true then isTrue (D.beq_eq a b h) else isFalse fun e => h (e ▸ D.beq_refl a)

/-! ### what is read of the store -/
def lstAt (st : Sto) (i : Nat) : Option (List D) := match st[i]? with | some (.lst ds) => some ds | _ => none
/-- the items of a tuple or list -/
def items (st : Sto) : D → Option (List D)
  | .tup ds => some ds
  | .ref i => lstAt st i
  | .scr ds => some ds
  | _ => none
def truth (st : Sto) : D → Option Bool
  | .non => some false
  | .bl b => some b
  | .int i => some (i != 0)
  | .str s => if s.length ≤ sizeLine then some ((s.length : Int) != 0) else none
  | .tup ds => some (!ds.isEmpty)
  | .ref i => (lstAt st i).map fun ds => !ds.isEmpty
  | .fn _ => none
  | .scr ds => some (!ds.isEmpty)

/-! ### expressions -/
def eV (i : Nat) : SE := fun _ env st => match env[i]? with | some (some d) => .ok d st | _ => .stuck
def eC (d : D) : SE := fun _ _ st => .ok d st
def eU (f : Sto → D → Option D) (a : SE) : SE := fun C env st => (a C env st).bind fun x st => Res.of (f st x) st
def eB (f : Sto → D → D → Option D) (a b : SE) : SE := fun C env st => (a C env st).bind fun x st => (b C env st).bind fun y st => Res.of (f st x y) st
def eIf (c : SB) (a b : SE) : SE := fun C env st => (c C env st).bind fun t st => if t then a C env st else b C env st
def eAnd (a b : SE) : SE := fun C env st => (a C env st).bind fun x st => (Res.of (truth st x) st).bind fun t st => if t then b C env st else .ok x st
def eOr (a b : SE) : SE := fun C env st => (a C env st).bind fun x st => (Res.of (truth st x) st).bind fun t st => if t then .ok x st else b C env st
def eNot (a : SE) : SE := fun C env st => (a C env st).bind fun x st => (Res.of (truth st x) st).bind fun t st => .ok (.bl (!t)) st
/-- a op b op' c -/
def eChain (f f' : Sto → D → D → Option D) (a b c : SE) : SE := fun C env st => (a C env st).bind fun x st => (b C env st).bind fun y st => (Res.of (f st x y) st).bind fun z st =>
  match z with | .bl true => (c C env st).bind fun w st => Res.of (f' st y w) st | .bl false => .ok (.bl false) st | _ => .stuck

/-! ### tests -/
def bOf (a : SE) : SB := fun C env st => (a C env st).bind fun x st => Res.of (truth st x) st
def bAnd (a b : SB) : SB := fun C env st => (a C env st).bind fun t st => if t then b C env st else .ok false st
def bOr (a b : SB) : SB := fun C env st => (a C env st).bind fun t st => if t then .ok true st else b C env st
def bNot (a : SB) : SB := fun C env st => (a C env st).bind fun t st => .ok (!t) st

/-! ### rows of values -/
def lNil : SL := fun _ _ st => .ok [] st
def lCons (a : SE) (l : SL) : SL := fun C env st => (a C env st).bind fun x st => (l C env st).bind fun xs st => .ok (x :: xs) st
def lSeq (a : SE) : SL := fun C env st => (a C env st).bind fun x st => Res.of (items st x) st
def lMap (f : Sto → List D → Option (List D)) (l : SL) : SL := fun C env st => (l C env st).bind fun xs st => Res.of (f st xs) st
def eL (f : Sto → List D → Option D) (l : SL) : SE := fun C env st => (l C env st).bind fun xs st => Res.of (f st xs) st
/-- a list laid into the store -/
def eNew (l : SL) : SE := fun C env st => (l C env st).bind fun xs st => .ok (.ref st.length) (st ++ [.lst xs])
def eCall (f : Nat) (l : SL) : SE := fun C env st => (l C env st).bind fun xs st => C f xs st

/-! ### iterables: their items, and the lists in the store that must stay -/
structure Wlk where
  ds : List D
  src : List (Nat × List D) := []
abbrev SI := Call → Env → Sto → Res Wlk
def good (src : List (Nat × List D)) (st : Sto) : Bool := src.all fun p => decide (lstAt st p.1 = some p.2)
/-- a target: a name; names in a row -/
abbrev SG := D → Env → Option Env
def gN (i : Nat) : SG := fun d env => some (env.set i (some d))
def gT : List SG → List D → Env → Option Env
  | [], [], env => some env
  | g :: gs, d :: ds, env => (g d env).bind fun env => gT gs ds env
  | _, _, _ => none
def gTup (gs : List SG) : SG := fun d env => match d with | .tup ds => gT gs ds env | _ => none
end OH

set_option Elab.async false
set_option linter.all false
set_option maxRecDepth 100000
/-! OHRep: how data and stores lie in the layer's heap; what a meaning promises (post). -/
namespace OH
open PySem PySem.Spec PyProof.Rows L2

/-- the written part; where the defs and the classes of errors stand -/
structure Gx where
  K : PySem.W.Frag
  fa : Nat → Addr
  ca : Nat → Addr

/-- a list that nobody may change -/
def SqF (K : PySem.W.Frag) (H : Hp) (a : Addr) (xs : List V) : Prop := (∃ o, H a = some (.frz o (.lst xs))) ∨
    ∃ (o : Obj) (its : Array Value) (n : Nat), K.lookup a = some o ∧ o.cls = .type "list" ∧ o.dict = none ∧ o.data = .seq its n ∧ its.size ≤ sizeLine ∧ Vals xs its.toList
theorem SqF.sq {K : PySem.W.Frag} {H : Hp} {a : Addr} {xs : List V} (h : SqF K H a xs) : SqL K H a xs := by
  rcases h with ⟨o, h⟩ | h
  · exact .inl (.inr ⟨o, h⟩)
  · exact .inr h
theorem SqF.of {K : PySem.W.Frag} {H : Hp} {a : Addr} {xs : List V} (h : SqL K H a xs) (o : Only H) : SqF K H a xs := by
  rcases h with (h | h) | h
  · rcases o a with e | ⟨o, ys, e⟩ <;> rw [h] at e <;> cases e
  · exact .inl h
  · exact .inr h
mutual
def Rep (G : Gx) (H : Hp) (ι : List Addr) : D → V → Prop
  | .non, v => v = .non
  | .bl b, v => v = .bl b
  | .int i, v => v = .int i
  | .str s, v => v = .str s
  | .tup ds, v => ∃ a xs, v = .ref a ∧ SqT G.K H a xs ∧ RepL G H ι ds xs
  | .ref i, v => ∃ a, ι[i]? = some a ∧ v = .ref a
  | .fn f, v => v = .ref (G.fa f)
  | .scr ds, v => ∃ a xs, v = .ref a ∧ SqF G.K H a xs ∧ RepL G H ι ds xs
def RepL (G : Gx) (H : Hp) (ι : List Addr) : List D → List V → Prop
  | [], vs => vs = []
  | d :: ds, vs => ∃ v r, vs = v :: r ∧ Rep G H ι d v ∧ RepL G H ι ds r
end

/-- a dict's key -/
def keyD : Key → D
  | .inl i => .int i
  | .inr x => .str x
def CellRep (G : Gx) (H : Hp) (ι : List Addr) : Cell → Addr → Prop
  | .lst ds, a => ∃ xs, H a = some (.lst xs) ∧ RepL G H ι ds xs
  | .dct kvs, a => (∃ (ks : List Key) (vs : List V), H a = some (.dK (ks.zip vs)) ∧ ks.length = vs.length ∧ kvs.map (·.1) = ks.map keyD ∧ RepL G H ι (kvs.map (·.2)) vs) ∨
      (∃ (ks : List (List Key)) (vs : List V), H a = some (.dT (ks.zip vs)) ∧ ks.length = vs.length ∧ kvs.map (·.1) = ks.map (fun k => D.tup (k.map keyD)) ∧ RepL G H ι (kvs.map (·.2)) vs)

structure StoRep (G : Gx) (H : Hp) (ι : List Addr) (st : Sto) : Prop where
  len : ι.length = st.length
  nd : ι.Nodup
  cell : ∀ (i : Nat) (c : Cell) (a : Addr), st[i]? = some c → ι[i]? = some a → CellRep G H ι c a

/-- what is not of the store stays, what comes to it is new -/
structure Ext (H : Hp) (ι : List Addr) (H' : Hp) (ι' : List Addr) : Prop where
  keep : ∀ a o, H a = some o → a ∉ ι → H' a = some o
  more : ∃ r, ι' = ι ++ r
  new : ∀ a, a ∈ ι' → a ∉ ι → H a = none

theorem Ext.refl (H : Hp) (ι : List Addr) : Ext H ι H ι := ⟨fun _ _ h _ => h, ⟨[], by simp⟩, fun _ h n => absurd h n⟩
theorem Ext.trans {H H1 H2 : Hp} {ι ι1 ι2 : List Addr} (a : Ext H ι H1 ι1) (b : Ext H1 ι1 H2 ι2) : Ext H ι H2 ι2 := by
  obtain ⟨r, rfl⟩ := a.more
  obtain ⟨r2, rfl⟩ := b.more
  refine ⟨fun x o h n => ?_, ⟨r ++ r2, by simp⟩, fun x h n => ?_⟩
  · refine b.keep x o (a.keep x o h n) fun hx => ?_
    have q := a.new x hx n
    rw [h] at q; cases q
  · by_cases hx : x ∈ ι ++ r
    · exact a.new x hx n
    · have q := b.new x h hx
      cases e : H x with
      | none => rfl
      | some o =>
        rw [a.keep x o e n] at q; cases q
theorem Ext.get {H H' : Hp} {ι ι' : List Addr} (e : Ext H ι H' ι') {i : Nat} {a : Addr} (h : ι[i]? = some a) : ι'[i]? = some a := by
  obtain ⟨r, rfl⟩ := e.more
  rw [List.getElem?_append_left (List.getElem?_eq_some_iff.mp h).1]
  exact h
theorem SqT.ext {K : PySem.W.Frag} {H H' : Hp} {ι ι' : List Addr} (e : Ext H ι H' ι') (n : ∀ a ∈ ι, Mut (H a)) {a : Addr} {xs : List V} (h : SqT K H a xs) : SqT K H' a xs := by
  rcases h with h | h
  · have na : a ∉ ι := fun ha => by
      have q := n a ha
      rcases h with h | ⟨o, h⟩ <;> rw [h] at q <;> exact q
    rcases h with h | ⟨o, h⟩
    · exact .inl (.inl (e.keep a _ h na))
    · exact .inl (.inr ⟨o, e.keep a _ h na⟩)
  · exact .inr h
theorem SqF.ext {K : PySem.W.Frag} {H H' : Hp} {ι ι' : List Addr} (e : Ext H ι H' ι') (n : ∀ a ∈ ι, Mut (H a)) {a : Addr} {xs : List V} (h : SqF K H a xs) : SqF K H' a xs := by
  rcases h with ⟨o, h⟩ | h
  · refine .inl ⟨o, e.keep a _ h fun ha => ?_⟩
    have q := n a ha
    rw [h] at q; exact q
  · exact .inr h
section
variable {G : Gx} {H H' : Hp} {ι ι' : List Addr} {st : Sto}
mutual
theorem Rep.mono (hT : ∀ a xs, SqT G.K H a xs → SqT G.K H' a xs) (hF : ∀ a xs, SqF G.K H a xs → SqF G.K H' a xs) (hI : ∀ (i : Nat) (a : Addr), ι[i]? = some a → ι'[i]? = some a) : ∀ {d : D} {v : V}, Rep G H ι d v → Rep G H' ι' d v
  | .non, _, h => h
  | .bl _, _, h => h
  | .int _, _, h => h
  | .str _, _, h => h
  | .tup ds, _, ⟨a, xs, e1, e2, e3⟩ => ⟨a, xs, e1, hT _ _ e2, RepL.mono hT hF hI e3⟩
  | .ref i, _, ⟨a, e1, e2⟩ => ⟨a, hI _ _ e1, e2⟩
  | .fn _, _, h => h
  | .scr ds, _, ⟨a, xs, e1, e2, e3⟩ => ⟨a, xs, e1, hF _ _ e2, RepL.mono hT hF hI e3⟩
theorem RepL.mono (hT : ∀ a xs, SqT G.K H a xs → SqT G.K H' a xs) (hF : ∀ a xs, SqF G.K H a xs → SqF G.K H' a xs) (hI : ∀ (i : Nat) (a : Addr), ι[i]? = some a → ι'[i]? = some a) : ∀ {ds : List D} {vs : List V}, RepL G H ι ds vs → RepL G H' ι' ds vs
  | [], _, h => h
  | d :: ds, _, ⟨v, r, e1, e2, e3⟩ => ⟨v, r, e1, Rep.mono hT hF hI e2, RepL.mono hT hF hI e3⟩
end
theorem Rep.ext (e : Ext H ι H' ι') (n : ∀ a ∈ ι, Mut (H a)) {d : D} {v : V} (h : Rep G H ι d v) : Rep G H' ι' d v := h.mono (fun _ _ => SqT.ext e n) (fun _ _ => SqF.ext e n) fun _ _ => e.get
theorem RepL.ext (e : Ext H ι H' ι') (n : ∀ a ∈ ι, Mut (H a)) {d : List D} {v : List V} (h : RepL G H ι d v) : RepL G H' ι' d v := h.mono (fun _ _ => SqT.ext e n) (fun _ _ => SqF.ext e n) fun _ _ => e.get
theorem Rep.grow {d : D} {v : V} (h : Rep G H ι d v) (r : List Addr) : Rep G H (ι ++ r) d v := h.mono (fun _ _ h => h) (fun _ _ h => h) fun i a e => by
  rw [List.getElem?_append_left (List.getElem?_eq_some_iff.mp e).1]; exact e
theorem RepL.grow {d : List D} {v : List V} (h : RepL G H ι d v) (r : List Addr) : RepL G H (ι ++ r) d v := h.mono (fun _ _ h => h) (fun _ _ h => h) fun i a e => by
  rw [List.getElem?_append_left (List.getElem?_eq_some_iff.mp e).1]; exact e
theorem RepL.length : ∀ {ds : List D} {vs : List V}, RepL G H ι ds vs → vs.length = ds.length
  | [], _, h => by cases h; rfl
  | d :: ds, _, ⟨v, r, e1, e2, e3⟩ => by subst e1; simp [RepL.length e3]
theorem RepL.get : ∀ {ds : List D} {vs : List V} {i : Nat} {d : D}, RepL G H ι ds vs → ds[i]? = some d → ∃ v, vs[i]? = some v ∧ Rep G H ι d v
  | [], _, i, d, h, e => by simp at e
  | d :: ds, _, 0, d', ⟨v, r, e1, e2, e3⟩, e => by
    simp at e
    subst e; subst e1
    exact ⟨v, rfl, e2⟩
  | d :: ds, _, i + 1, d', ⟨v, r, e1, e2, e3⟩, e => by
    subst e1
    simp at e
    simpa using RepL.get e3 e
theorem RepL.get' : ∀ {ds : List D} {vs : List V} {i : Nat} {v : V}, RepL G H ι ds vs → vs[i]? = some v → ∃ d, ds[i]? = some d ∧ Rep G H ι d v
  | [], _, i, d, h, e => by cases h; simp at e
  | d :: ds, _, 0, d', ⟨v, r, e1, e2, e3⟩, e => by
    subst e1
    simp at e
    subst e
    exact ⟨d, rfl, e2⟩
  | d :: ds, _, i + 1, d', ⟨v, r, e1, e2, e3⟩, e => by
    subst e1
    simp at e
    simpa using RepL.get' e3 e
theorem RepL.app : ∀ {ds es : List D} {vs us : List V}, RepL G H ι ds vs → RepL G H ι es us → RepL G H ι (ds ++ es) (vs ++ us)
  | [], _, _, _, h, h' => by cases h; exact h'
  | d :: ds, _, _, _, ⟨v, r, e1, e2, e3⟩, h' => by subst e1; exact ⟨v, _, rfl, e2, RepL.app e3 h'⟩
theorem RepL.one {d : D} {v : V} (h : Rep G H ι d v) : RepL G H ι [d] [v] := ⟨v, [], rfl, h, rfl⟩
theorem RepL.set : ∀ {ds : List D} {vs : List V} {d : D} {v : V} (i : Nat), RepL G H ι ds vs → Rep G H ι d v → RepL G H ι (ds.set i d) (vs.set i v)
  | [], _, _, _, i, h, h' => by cases h; simp [RepL]
  | d :: ds, _, _, _, 0, ⟨v, r, e1, e2, e3⟩, h' => by subst e1; exact ⟨_, _, rfl, h', e3⟩
  | d :: ds, _, _, _, i + 1, ⟨v, r, e1, e2, e3⟩, h' => by subst e1; exact ⟨_, _, rfl, e2, RepL.set i e3 h'⟩
theorem RepL.take : ∀ {ds : List D} {vs : List V} (n : Nat), RepL G H ι ds vs → RepL G H ι (ds.take n) (vs.take n)
  | _, _, 0, _ => by simp [RepL]
  | [], _, n + 1, h => by cases h; simp [RepL]
  | d :: ds, _, n + 1, ⟨v, r, e1, e2, e3⟩ => by subst e1; exact ⟨_, _, rfl, e2, RepL.take n e3⟩
theorem RepL.drop : ∀ {ds : List D} {vs : List V} (n : Nat), RepL G H ι ds vs → RepL G H ι (ds.drop n) (vs.drop n)
  | _, _, 0, h => by simpa using h
  | [], _, n + 1, h => by cases h; simp [RepL]
  | d :: ds, _, n + 1, ⟨v, r, e1, e2, e3⟩ => by subst e1; simpa using RepL.drop n e3
theorem RepL.ints : ∀ {ds : List D} {vs : List V} {ns : List Int}, RepL G H ι ds vs → ds = ns.map D.int → vs = ns.map V.int
  | [], _, [], h, _ => by cases h; rfl
  | [], _, n :: ns, h, e => by simp at e
  | d :: ds, _, [], _, e => by simp at e
  | d :: ds, _, n :: ns, ⟨v, r, e1, e2, e3⟩, e => by
    subst e1
    simp at e
    obtain ⟨rfl, e⟩ := e
    cases e2
    simp [RepL.ints e3 e]
theorem repL_ints : ∀ (ns : List Int), RepL G H ι (ns.map D.int) (ns.map V.int)
  | [] => rfl
  | n :: ns => ⟨_, _, rfl, rfl, repL_ints ns⟩

theorem StoRep.at (s : StoRep G H ι st) {i : Nat} {c : Cell} (h : st[i]? = some c) : ∃ a, ι[i]? = some a ∧ CellRep G H ι c a := by
  have hi : i < ι.length := by rw [s.len]; exact (List.getElem?_eq_some_iff.mp h).1
  exact ⟨ι[i], by simp [hi], s.cell i c _ h (by simp [hi])⟩
theorem CellRep.mut {c : Cell} {a : Addr} (h : CellRep G H ι c a) : Mut (H a) := by
  cases c with
  | lst ds =>
    obtain ⟨xs, h1, _⟩ := h
    rw [h1]; trivial
  | dct kvs =>
    rcases h with ⟨ks, vs, h1, _⟩ | ⟨ks, vs, h1, _⟩ <;> rw [h1] <;> trivial
theorem StoRep.mut (s : StoRep G H ι st) : ∀ a ∈ ι, Mut (H a) := fun a ha => by
  obtain ⟨i, hi, e⟩ := List.mem_iff_getElem.mp ha
  have hs : i < st.length := by rw [← s.len]; exact hi
  exact (s.cell i st[i] a (by simp [hs]) (by simp [hi, e])).mut
theorem StoRep.ne (s : StoRep G H ι st) {a p : Addr} (ha : a ∈ ι) (hp : H p = none) : a ≠ p := fun e => by
  have q := s.mut a ha
  rw [e, hp] at q; exact q
theorem StoRep.notin (s : StoRep G H ι st) {p : Addr} (hp : H p = none) : p ∉ ι := fun h => s.ne h hp rfl
/-- a list that may be read -/
theorem StoRep.lst (s : StoRep G H ι st) {i : Nat} {ds : List D} (h : lstAt st i = some ds) : ∃ a xs, ι[i]? = some a ∧ H a = some (.lst xs) ∧ RepL G H ι ds xs := by
  unfold lstAt at h
  split at h
  · rename_i ds' e
    cases h
    obtain ⟨a, ha, xs, h1, h2⟩ := s.at e
    exact ⟨a, xs, ha, h1, h2⟩
  · cases h
/-- a tuple or list -/
theorem StoRep.items (s : StoRep G H ι st) {d : D} {v : V} {ds : List D} (h : OH.items st d = some ds) (r : Rep G H ι d v) : ∃ a xs, v = .ref a ∧ (SqL G.K H a xs ∨ SqT G.K H a xs) ∧ RepL G H ι ds xs := by
  cases d with
  | tup ds' =>
    cases h
    obtain ⟨a, xs, e1, e2, e3⟩ := r
    exact ⟨a, xs, e1, .inr e2, e3⟩
  | scr ds' =>
    cases h
    obtain ⟨a, xs, e1, e2, e3⟩ := r
    exact ⟨a, xs, e1, .inl e2.sq, e3⟩
  | ref i =>
    obtain ⟨a, xs, h1, h2, h3⟩ := s.lst h
    obtain ⟨a', e1, e2⟩ := r
    rw [h1] at e1; cases e1
    exact ⟨a, xs, e2, .inl (SqL.of h2), h3⟩
  | _ => cases h
/-- a new object that is not of the store -/
theorem ext_new {p : Addr} {o : HO} (hp : H p = none) : Ext H ι (upd H p o) ι := by
  refine ⟨fun a u h n => ?_, ⟨[], by simp⟩, fun _ h n => absurd h n⟩
  rw [upd_ne (ne_of_none h hp)]; exact h
theorem CellRep.ext (e : Ext H ι H' ι') (n : ∀ a ∈ ι, Mut (H a)) {c : Cell} {a : Addr} (ha : ∀ o, H a = some o → H' a = some o) (h : CellRep G H ι c a) : CellRep G H' ι' c a := by
  cases c with
  | lst ds =>
    obtain ⟨xs, h1, h2⟩ := h
    exact ⟨xs, ha _ h1, RepL.ext e n h2⟩
  | dct kvs =>
    rcases h with ⟨ks, vs, h1, h2, h3, h4⟩ | ⟨ks, vs, h1, h2, h3, h4⟩
    · exact .inl ⟨ks, vs, ha _ h1, h2, h3, RepL.ext e n h4⟩
    · exact .inr ⟨ks, vs, ha _ h1, h2, h3, RepL.ext e n h4⟩
theorem StoRep.fresh {p : Addr} {o : HO} (s : StoRep G H ι st) (hp : H p = none) : StoRep G (upd H p o) ι st :=
  ⟨s.len, s.nd, fun i c a h1 h2 => (s.cell i c a h1 h2).ext (ext_new hp) s.mut fun u hu => by rw [upd_ne (ne_of_none hu hp)]; exact hu⟩
/-- a list comes into the store: p is tracked already, but not of the store -/
theorem ext_take {p : Addr} {o : HO} (hp : H p = none) : Ext H ι (upd H p o) (ι ++ [p]) := by
  refine ⟨fun a u h n => ?_, ⟨[p], rfl⟩, fun a h n => ?_⟩
  · rw [upd_ne (ne_of_none h hp)]; exact h
  · rcases List.mem_append.mp h with h | h
    · exact absurd h n
    · rw [List.mem_singleton.mp h]; exact hp
/-- .. from H, where p was free, by H1, where p stands, to the store with p -/
theorem Ext.take {p : Addr} {H1 : Hp} {ι1 : List Addr} (e : Ext H ι H1 ι1) (hp : H p = none) : Ext H ι H1 (ι1 ++ [p]) := by
  obtain ⟨r, rfl⟩ := e.more
  refine ⟨e.keep, ⟨r ++ [p], by simp⟩, fun a h n => ?_⟩
  rcases List.mem_append.mp h with h | h
  · exact e.new a h n
  · rw [List.mem_singleton.mp h]; exact hp
theorem CellRep.grow {c : Cell} {a : Addr} (h : CellRep G H ι c a) (r : List Addr) : CellRep G H (ι ++ r) c a := by
  cases c with
  | lst ds =>
    obtain ⟨xs, h1, h2⟩ := h
    exact ⟨xs, h1, h2.grow r⟩
  | dct kvs =>
    rcases h with ⟨ks, vs, h1, h2, h3, h4⟩ | ⟨ks, vs, h1, h2, h3, h4⟩
    · exact .inl ⟨ks, vs, h1, h2, h3, h4.grow r⟩
    · exact .inr ⟨ks, vs, h1, h2, h3, h4.grow r⟩
/-- a tracked object comes into the store -/
theorem StoRep.push {p : Addr} {c : Cell} (s : StoRep G H ι st) (np : p ∉ ι) (hc : CellRep G H (ι ++ [p]) c p) : StoRep G H (ι ++ [p]) (st ++ [c]) := by
  refine ⟨by simp [s.len], List.nodup_append.mpr ⟨s.nd, by simp, fun a ha b hb e => np (by rw [List.mem_singleton.mp hb] at e; rw [← e]; exact ha)⟩, fun i c' a h1 h2 => ?_⟩
  by_cases hi : i < st.length
  · have hi' : i < ι.length := by rw [s.len]; exact hi
    rw [List.getElem?_append_left hi] at h1
    rw [List.getElem?_append_left hi'] at h2
    exact (s.cell i c' a h1 h2).grow _
  · have hl := (List.getElem?_eq_some_iff.mp h1).1
    simp at hl
    have e : i = st.length := by omega
    subst e
    rw [List.getElem?_append_right (Nat.le_refl _)] at h1
    rw [← s.len, List.getElem?_append_right (Nat.le_refl _)] at h2
    simp at h1 h2
    subst h1; subst h2
    exact hc
/-- a cell is written -/
theorem StoRep.write {p : Addr} {c : Cell} {o : HO} {i : Nat} (s : StoRep G H ι st) (hi : ι[i]? = some p) (hc : CellRep G (upd H p o) ι c p) : StoRep G (upd H p o) ι (st.set i c) := by
  have hp : p ∈ ι := List.mem_of_getElem? hi
  have mp := s.mut p hp
  have hT : ∀ a xs, SqT G.K H a xs → SqT G.K (upd H p o) a xs := fun a xs h => by
    rcases h with (h | ⟨b, h⟩) | h
    · refine .inl (.inl ?_)
      rw [upd_ne]; exact h
      rintro rfl; rw [h] at mp; exact mp
    · refine .inl (.inr ⟨b, ?_⟩)
      rw [upd_ne]; exact h
      rintro rfl; rw [h] at mp; exact mp
    · exact .inr h
  have hF : ∀ a xs, SqF G.K H a xs → SqF G.K (upd H p o) a xs := fun a xs h => by
    rcases h with ⟨b, h⟩ | h
    · refine .inl ⟨b, ?_⟩
      rw [upd_ne]; exact h
      rintro rfl; rw [h] at mp; exact mp
    · exact .inr h
  refine ⟨by simpa using s.len, s.nd, fun j c' a h1 h2 => ?_⟩
  by_cases e : j = i
  · subst e
    rw [hi] at h2; cases h2
    have hl := (List.getElem?_eq_some_iff.mp h1).1
    simp at hl
    rw [List.getElem?_set_self hl] at h1
    cases h1
    exact hc
  · rw [List.getElem?_set_ne (Ne.symm e)] at h1
    have ne : a ≠ p := fun z => by
      subst z
      exact e ((List.getElem?_inj (List.getElem?_eq_some_iff.mp h2).1 s.nd).mp (h2.trans hi.symm))
    have q := s.cell j c' a h1 h2
    cases c' with
    | lst ds =>
      obtain ⟨xs, h1, h2⟩ := q
      exact ⟨xs, by rw [upd_ne ne]; exact h1, h2.mono hT hF fun _ _ z => z⟩
    | dct kvs =>
      rcases q with ⟨ks, vs, h1, h2, h3, h4⟩ | ⟨ks, vs, h1, h2, h3, h4⟩
      · exact .inl ⟨ks, vs, by rw [upd_ne ne]; exact h1, h2, h3, h4.mono hT hF fun _ _ z => z⟩
      · exact .inr ⟨ks, vs, by rw [upd_ne ne]; exact h1, h2, h3, h4.mono hT hF fun _ _ z => z⟩
theorem ext_write {p : Addr} {o : HO} (hp : p ∈ ι) : Ext H ι (upd H p o) ι := by
  refine ⟨fun a u h n => ?_, ⟨[], by simp⟩, fun _ h n => absurd h n⟩
  rw [upd_ne]; exact h
  rintro rfl; exact n hp
/-- as the heap changes at an address of the store alone, values stay -/
theorem RepL.write {p : Addr} {o : HO} (s : StoRep G H ι st) (hp : p ∈ ι) {ds : List D} {vs : List V} (h : RepL G H ι ds vs) : RepL G (upd H p o) ι ds vs := h.ext (ext_write hp) s.mut
end

/-! ### what a meaning promises -/
/-- an error, as it lies in the heap -/
def ExcRep (G : Gx) (c : Nat) (x : D) (H : Hp) (ι : List Addr) (cls : Value) (ad : Option Addr) : Prop :=
  cls = .ref (G.ca c) ∧ match x with
    | .non => ad = none
    | x => ∃ d v, ad = some d ∧ H d = some (.xd [("place", v)]) ∧ Rep G H ι x v
/-- W: what is wanted of an error -/
def post (G : Gx) {α υ : Type} (rep : Hp → List Addr → α → υ → Prop) (W : Value → Option Addr → Hp → Prop) (H : Hp) (ι : List Addr) (Q : υ → Hp → Prop) : Res α → Prop
  | .ok a st => ∀ v H' ι', Ext H ι H' ι' → StoRep G H' ι' st → rep H' ι' a v → Q v H'
  | .exc c x st => ∀ cls ad H' ι', Ext H ι H' ι' → StoRep G H' ι' st → ExcRep G c x H' ι' cls ad → W cls ad H'
  | .stuck => False
section
variable {G : Gx} {α β υ υ' : Type} {rep : Hp → List Addr → α → υ → Prop} {rep' : Hp → List Addr → β → υ' → Prop} {W : Value → Option Addr → Hp → Prop} {H H1 : Hp} {ι ι1 : List Addr} {Q : υ → Hp → Prop} {Q' : υ' → Hp → Prop}
theorem post.ext {r : Res α} (h : post G rep W H ι Q r) (e : Ext H ι H1 ι1) : post G rep W H1 ι1 Q r := by
  cases r with
  | ok a st => exact fun v H' ι' e' => h v H' ι' (e.trans e')
  | exc c x st => exact fun cls ad H' ι' e' => h cls ad H' ι' (e.trans e')
  | stuck => exact h
theorem post.bind {m : Res α} {f : α → Sto → Res β} (h : post G rep' W H ι Q' (m.bind f))
    (k : ∀ a st v H1 ι1, m = .ok a st → Ext H ι H1 ι1 → StoRep G H1 ι1 st → rep H1 ι1 a v → post G rep' W H1 ι1 Q' (f a st) → Q v H1) : post G rep W H ι Q m := by
  cases m with
  | ok a st => exact fun v H1 ι1 e s r => k a st v H1 ι1 rfl e s r (post.ext h e)
  | exc c x st => exact h
  | stuck => exact h
theorem post.mono {Q2 : υ → Hp → Prop} {r : Res α} (h : post G rep W H ι Q r) (k : ∀ v H, Q v H → Q2 v H) : post G rep W H ι Q2 r := by
  cases r with
  | ok a st => exact fun v H' ι' e s q => k _ _ (h v H' ι' e s q)
  | exc c x st => exact h
  | stuck => exact h
end

/-- the slots, the heap and what they mean -/
structure R (G : Gx) (σ : L2.St) (H : Hp) (env : Env) (ι : List Addr) (st : Sto) : Prop where
  len : σ.length = env.length
  var : ∀ (i : Nat) (d : D), env[i]? = some (some d) → ∃ v, σ[i]? = some (some v) ∧ Rep G H ι d v
  sto : StoRep G H ι st
theorem R.ext {G : Gx} {σ : L2.St} {H H' : Hp} {env : Env} {ι ι' : List Addr} {st st' : Sto} (r : R G σ H env ι st) (e : Ext H ι H' ι') (s : StoRep G H' ι' st') : R G σ H' env ι' st' :=
  ⟨r.len, fun i d h => let ⟨v, h1, h2⟩ := r.var i d h; ⟨v, h1, h2.ext e r.sto.mut⟩, s⟩
end OH

set_option Elab.async false
set_option linter.all false
set_option maxRecDepth 100000
set_option maxHeartbeats 1000000
/-! OHRules: each construct of the text has its meaning as a plain function. -/
namespace OH
open PySem PySem.Spec PyProof.Rows L2

theorem pe_imp {X : Cx} {e : Expr} {t t' : TE} (h : PE X e t) (k : ∀ σ H Q, t' σ H Q → t σ H Q) : PE X e t' := ⟨fun pins s σ H Q I q => h.run pins s σ H Q I (k σ H Q q)⟩
theorem pt_imp {X : Cx} {e : Expr} {t t' : TT} (h : PT X e t) (k : ∀ σ H Q, t' σ H Q → t σ H Q) : PT X e t' := ⟨fun pins s σ H Q I q => h.run pins s σ H Q I (k σ H Q q)⟩
theorem pw_imp {X : Cx} {e : Expr} {t t' : TT} (h : PW X e t) (k : ∀ σ H Q, t' σ H Q → t σ H Q) : PW X e t' := ⟨fun wh pins s σ H Q I q => h.run wh pins s σ H Q I (k σ H Q q)⟩
theorem pa_imp {X : Cx} {e : List Expr} {t t' : TA} (h : PA X e t) (k : ∀ σ H Q, t' σ H Q → t σ H Q) : PA X e t' := ⟨fun pos pins s σ H Q I q => h.run pos pins s σ H Q I (k σ H Q q)⟩
theorem ps_imp {X : Cx} {e : Stmt} {t t' : TS} (h : PS X e t) (k : ∀ D σ H, t' D σ H → t D σ H) : PS X e t' := ⟨fun pins s σ H D I q => h.run pins s σ H D I (k D σ H q)⟩
theorem pss_imp {X : Cx} {e : List Stmt} {t t' : TS} (h : PSs X e t) (k : ∀ D σ H, t' D σ H → t D σ H) : PSs X e t' := ⟨fun pins s σ H D I q => h.run pins s σ H D I (k D σ H q)⟩
theorem pi_imp {X : Cx} {tg e : Expr} {t t' : TI} (h : PI X tg e t) (k : ∀ σ H Q, t' σ H Q → t σ H Q) : PI X tg e t' := ⟨fun pins s σ H Q I q => h.run pins s σ H Q I (k σ H Q q)⟩

/-- the readings of a meaning -/
def rG (G : Gx) (W : WX) (C : Call) {α υ : Type} (rep : Hp → Hp → List Addr → α → υ → Prop) (m : Call → Env → Sto → Res α) : L2.St → Hp → (υ → Hp → Prop) → Prop := fun σ H Q =>
  ∃ env ι st, R G σ H env ι st ∧ post G (rep H) (fun cls ad H' => W cls ad σ H') H ι Q (m C env st)
def repB : Hp → Hp → List Addr → Bool → Bool → Prop := fun _ _ _ b c => c = b
def repS (G : Gx) : Hp → Hp → List Addr → List D → V → Prop := fun _ H ι ds v => ∃ a xs, v = .ref a ∧ (SqL G.K H a xs ∨ SqT G.K H a xs) ∧ RepL G H ι ds xs
/-- a list that nobody else has, made behind H0 -/
def repT (G : Gx) : Hp → Hp → List Addr → List D → V → Prop := fun H0 H ι ds v => ∃ a xs, v = .ref a ∧ H a = some (.lst xs) ∧ a ∉ ι ∧ H0 a = none ∧ RepL G H ι ds xs
abbrev tE (G : Gx) (W : WX) (C : Call) (m : SE) : TE := rG G W C (fun _ => Rep G) m
abbrev tB (G : Gx) (W : WX) (C : Call) (m : SB) : TT := rG G W C repB m
abbrev tA (G : Gx) (W : WX) (C : Call) (m : SL) : TA := rG G W C (fun _ => RepL G) m
abbrev tS (G : Gx) (W : WX) (C : Call) (m : SL) : TE := rG G W C (repS G) m
abbrev tT (G : Gx) (W : WX) (C : Call) (m : SL) : TE := rG G W C (repT G) m

def DE (G : Gx) (X : Cx) (W : WX) (C : Call) (e : Expr) (m : SE) : Prop := PE X e (tE G W C m)
def DB (G : Gx) (X : Cx) (W : WX) (C : Call) (e : Expr) (m : SB) : Prop := PT X e (tB G W C m)
/-- .. whatever its whole is: and, or -/
def DW (G : Gx) (X : Cx) (W : WX) (C : Call) (e : Expr) (m : SB) : Prop := PW X e (tB G W C m)
def DA (G : Gx) (X : Cx) (W : WX) (C : Call) (e : List Expr) (m : SL) : Prop := PA X e (tA G W C m)
/-- a tuple or list that is read; a list of one's own -/
def DQ (G : Gx) (X : Cx) (W : WX) (C : Call) (e : Expr) (m : SL) : Prop := PE X e (tS G W C m)
def DT (G : Gx) (X : Cx) (W : WX) (C : Call) (e : Expr) (m : SL) : Prop := PE X e (tT G W C m)

/-- the first part of a meaning, then what follows -/
theorem rG.seq {G : Gx} {W : WX} {C : Call} {α β υ υ' : Type} {rep : Hp → Hp → List Addr → α → υ → Prop} {rep' : Hp → List Addr → β → υ' → Prop} {m : Call → Env → Sto → Res α} {f : α → Sto → Res β}
    {σ : L2.St} {H : Hp} {ι : List Addr} {env : Env} {st : Sto} {Q : υ → Hp → Prop} {Q' : υ' → Hp → Prop}
    (hR : R G σ H env ι st) (h : post G rep' (fun cls ad H' => W cls ad σ H') H ι Q' ((m C env st).bind f))
    (k : ∀ a st1 v H1 ι1, Ext H ι H1 ι1 → R G σ H1 env ι1 st1 → rep H H1 ι1 a v → post G rep' (fun cls ad H' => W cls ad σ H') H1 ι1 Q' (f a st1) → Q v H1) : rG G W C rep m σ H Q :=
  ⟨env, ι, st, hR, post.bind h fun a st1 v H1 ι1 _ e s r hp => k a st1 v H1 ι1 e (hR.ext e s) r hp⟩
section
variable {G : Gx} {W : WX} {C : Call} {β υ υ' : Type} {rep' : Hp → List Addr → β → υ' → Prop} {σ : L2.St} {H : Hp} {ι : List Addr} {env : Env} {st : Sto} {Q' : υ' → Hp → Prop}
theorem sqE {m : SE} {f : D → Sto → Res β} {Q : V → Hp → Prop} (hR : R G σ H env ι st) (h : post G rep' (fun cls ad H' => W cls ad σ H') H ι Q' ((m C env st).bind f))
    (k : ∀ a st1 v H1 ι1, Ext H ι H1 ι1 → R G σ H1 env ι1 st1 → Rep G H1 ι1 a v → post G rep' (fun cls ad H' => W cls ad σ H') H1 ι1 Q' (f a st1) → Q v H1) : rG G W C (fun _ => Rep G) m σ H Q := rG.seq hR h k
theorem sqB {m : SB} {f : Bool → Sto → Res β} {Q : Bool → Hp → Prop} (hR : R G σ H env ι st) (h : post G rep' (fun cls ad H' => W cls ad σ H') H ι Q' ((m C env st).bind f))
    (k : ∀ a st1 H1 ι1, Ext H ι H1 ι1 → R G σ H1 env ι1 st1 → post G rep' (fun cls ad H' => W cls ad σ H') H1 ι1 Q' (f a st1) → Q a H1) : rG G W C repB m σ H Q := rG.seq hR h fun a st1 v H1 ι1 e1 hR1 r1 hp => by
  cases r1
  exact k a st1 H1 ι1 e1 hR1 hp
theorem sqA {m : SL} {f : List D → Sto → Res β} {Q : List V → Hp → Prop} (hR : R G σ H env ι st) (h : post G rep' (fun cls ad H' => W cls ad σ H') H ι Q' ((m C env st).bind f))
    (k : ∀ a st1 v H1 ι1, Ext H ι H1 ι1 → R G σ H1 env ι1 st1 → RepL G H1 ι1 a v → post G rep' (fun cls ad H' => W cls ad σ H') H1 ι1 Q' (f a st1) → Q v H1) : rG G W C (fun _ => RepL G) m σ H Q := rG.seq hR h k
theorem sqS {m : SL} {f : List D → Sto → Res β} {Q : V → Hp → Prop} (hR : R G σ H env ι st) (h : post G rep' (fun cls ad H' => W cls ad σ H') H ι Q' ((m C env st).bind f))
    (k : ∀ ds st1 a xs H1 ι1, Ext H ι H1 ι1 → R G σ H1 env ι1 st1 → (SqL G.K H1 a xs ∨ SqT G.K H1 a xs) → RepL G H1 ι1 ds xs → post G rep' (fun cls ad H' => W cls ad σ H') H1 ι1 Q' (f ds st1) → Q (.ref a) H1) : rG G W C (repS G) m σ H Q :=
  rG.seq hR h fun ds st1 v H1 ι1 e1 hR1 ⟨a, xs, ev, h1, h2⟩ hp => by
    subst ev
    exact k ds st1 a xs H1 ι1 e1 hR1 h1 h2 hp
theorem sqT {m : SL} {f : List D → Sto → Res β} {Q : V → Hp → Prop} (hR : R G σ H env ι st) (h : post G rep' (fun cls ad H' => W cls ad σ H') H ι Q' ((m C env st).bind f))
    (k : ∀ ds st1 a xs H1 ι1, Ext H ι H1 ι1 → R G σ H1 env ι1 st1 → H1 a = some (.lst xs) → a ∉ ι1 → H a = none → RepL G H1 ι1 ds xs → post G rep' (fun cls ad H' => W cls ad σ H') H ι Q' (f ds st1) → Q (.ref a) H1) : rG G W C (repT G) m σ H Q := by
  refine ⟨env, ι, st, hR, ?_⟩
  generalize m C env st = r at h
  cases r with
  | ok ds st1 =>
    intro v H1 ι1 e s ⟨a, xs, ev, h1, h2, h3, h4⟩
    subst ev
    exact k ds st1 a xs H1 ι1 e (hR.ext e s) h1 h2 h3 h4 h
  | exc c x st1 => exact h
  | stuck => exact h
end
/-- the last step: a value -/
theorem post.here {G : Gx} {α υ : Type} {rep : Hp → List Addr → α → υ → Prop} {W : Value → Option Addr → Hp → Prop} {H : Hp} {ι : List Addr} {Q : υ → Hp → Prop} {a : α} {st : Sto} (h : post G rep W H ι Q (.ok a st)) {v : υ} (s : StoRep G H ι st) (r : rep H ι a v) : Q v H :=
  h v H ι (Ext.refl _ _) s r
theorem post.opt {G : Gx} {α υ : Type} {rep : Hp → List Addr → α → υ → Prop} {W : Value → Option Addr → Hp → Prop} {H : Hp} {ι : List Addr} {Q : υ → Hp → Prop} {o : Option α} {st : Sto} (h : post G rep W H ι Q (Res.of o st)) : ∃ a, o = some a ∧ post G rep W H ι Q (.ok a st) := by
  cases o with
  | none => exact h.elim
  | some a => exact ⟨a, rfl, h⟩

section
variable {G : Gx} {X : Cx} {W : WX} {C : Call}

/-! ### names, constants -/
theorem de_var {i : Nat} {e : Expr} (h : PE X e (tVar i)) : DE G X W C e (eV i) := pe_imp h fun σ H Q ⟨env, ι, st, hR, hp⟩ => by
  unfold eV at hp
  split at hp
  · rename_i d hd
    obtain ⟨v, h1, h2⟩ := hR.var i d hd
    exact ⟨v, h1, hp.here hR.sto h2⟩
  · exact hp.elim
theorem de_int {i : Int} {j : Nat} {pos : Pos} : DE G X W C (.Constant (.int i) j pos) (eC (.int i)) := pe_imp pe_int fun σ H Q ⟨env, ι, st, hR, hp⟩ => hp.here hR.sto (v := .int i) rfl
theorem de_str {x : Str} {j : Nat} {pos : Pos} : DE G X W C (.Constant (.str x) j pos) (eC (.str x)) := pe_imp pe_str fun σ H Q ⟨env, ι, st, hR, hp⟩ => hp.here hR.sto (v := .str x) rfl
theorem de_bl {b : Bool} {j : Nat} {pos : Pos} : DE G X W C (.Constant (.bool b) j pos) (eC (.bl b)) := pe_imp pe_bl fun σ H Q ⟨env, ι, st, hR, hp⟩ => hp.here hR.sto (v := .bl b) rfl
theorem de_non {j : Nat} {pos : Pos} : DE G X W C (.Constant .none j pos) (eC .non) := pe_imp pe_non fun σ H Q ⟨env, ι, st, hR, hp⟩ => hp.here hR.sto (v := .non) rfl
/-- a module's constant -/
theorem de_glob {x : Str} {d : D} {v : V} {pos : Pos} (h : PE X (.Name x pos) (tC v)) (r : ∀ H ι, Rep G H ι d v) : DE G X W C (.Name x pos) (eC d) :=
  pe_imp h fun σ H Q ⟨env, ι, st, hR, hp⟩ => hp.here hR.sto (r H ι)

/-! ### operators -/
/-- r's wants follow from the meaning g -/
def Br2 (G : Gx) (r : R2) (g : Sto → D → D → Res D) : Prop := ∀ (W : Value → Option Addr → Hp → Prop) (H : Hp) (ι : List Addr) (st : Sto) (x y : D) (v u : V) (Q : VK), StoRep G H ι st → Rep G H ι x v → Rep G H ι y u → post G (Rep G) W H ι Q (g st x y) → r v u H Q
def Br1 (G : Gx) (r : V → Hp → VK → Prop) (g : Sto → D → Res D) : Prop := ∀ (W : Value → Option Addr → Hp → Prop) (H : Hp) (ι : List Addr) (st : Sto) (x : D) (v : V) (Q : VK), StoRep G H ι st → Rep G H ι x v → post G (Rep G) W H ι Q (g st x) → r v H Q
def BrA (G : Gx) (r : List V → Hp → VK → Prop) (g : Sto → List D → Res D) : Prop := ∀ (W : Value → Option Addr → Hp → Prop) (H : Hp) (ι : List Addr) (st : Sto) (x : List D) (v : List V) (Q : VK), StoRep G H ι st → RepL G H ι x v → post G (Rep G) W H ι Q (g st x) → r v H Q
def eB2 (g : Sto → D → D → Res D) (a b : SE) : SE := fun C env st => (a C env st).bind fun x st => (b C env st).bind fun y st => g st x y
def eU1 (g : Sto → D → Res D) (a : SE) : SE := fun C env st => (a C env st).bind fun x st => g st x
def eA (g : Sto → List D → Res D) (l : SL) : SE := fun C env st => (l C env st).bind fun xs st => g st xs
theorem de_tOp {e : Expr} {r : R2} {g : Sto → D → D → Res D} {a b : Expr} {ma mb : SE} (h : PE X e (tOp r (tE G W C ma) (tE G W C mb))) (br : Br2 G r g) : DE G X W C e (eB2 g ma mb) :=
  pe_imp h fun σ H Q ⟨env, ι, st, hR, hp⟩ => sqE hR hp fun x st1 v H1 ι1 e1 hR1 r1 hp1 => sqE hR1 hp1 fun y st2 u H2 ι2 e2 hR2 r2 hp2 =>
    br _ H2 ι2 st2 x y v u Q hR2.sto (r1.ext e2 hR1.sto.mut) r2 hp2
theorem de_tUn {e : Expr} {r : V → Hp → VK → Prop} {g : Sto → D → Res D} {ma : SE} (h : PE X e (tUn r (tE G W C ma))) (br : Br1 G r g) : DE G X W C e (eU1 g ma) :=
  pe_imp h fun σ H Q ⟨env, ι, st, hR, hp⟩ => sqE hR hp fun x st1 v H1 ι1 e1 hR1 r1 hp1 => br _ H1 ι1 st1 x v Q hR1.sto r1 hp1
theorem de_op {op : Operator} {r : R2} {g : Sto → D → D → Res D} {a b : Expr} {ma mb : SE} {pos : Pos} (ho : OpR X (binaryOp op) r) (br : Br2 G r g) (ha : DE G X W C a ma) (hb : DE G X W C b mb) : DE G X W C (.BinOp a op b pos) (eB2 g ma mb) := de_tOp (a := a) (b := b) (pe_op ho ha hb) br
theorem de_un {op : UnaryOp} {r : V → Hp → VK → Prop} {g : Sto → D → Res D} {a : Expr} {ma : SE} {pos : Pos} (ho : UnR X (unaryOp op) r) (br : Br1 G r g) (ha : DE G X W C a ma) : DE G X W C (.UnaryOp op a pos) (eU1 g ma) := de_tUn (pe_un ho ha) br
theorem de_cmp {op : CmpOp} {r : R2} {g : Sto → D → D → Res D} {a b : Expr} {ma mb : SE} {pos : Pos} (ho : OpR X (compareOp op) r) (br : Br2 G r g) (ha : DE G X W C a ma) (hb : DE G X W C b mb) (hm : behindInMarks op b = false) : DE G X W C (.Compare a [op] [b] pos) (eB2 g ma mb) := de_tOp (a := a) (b := b) (pe_cmpR ho ha hb hm) br

/-! ### tests -/
theorem truth_V {H : Hp} {ι : List Addr} {st : Sto} {d : D} {v : V} {k : Bool} (s : StoRep G H ι st) (r : Rep G H ι d v) (h : truth st d = some k) : TruV G.K v H k := by
  cases d with
  | non => cases r; cases h; rfl
  | bl b => cases r; cases h; rfl
  | int i => cases r; cases h; rfl
  | str x =>
    cases r
    simp only [truth] at h
    split at h
    · cases h
      exact ⟨by assumption, rfl⟩
    · cases h
  | tup ds =>
    obtain ⟨a, xs, e1, e2, e3⟩ := r
    subst e1
    cases h
    refine .inr (.inl ⟨xs, e2, ?_⟩)
    have := e3.length
    cases ds <;> cases xs <;> simp at this <;> rfl
  | scr ds =>
    obtain ⟨a, xs, e1, e2, e3⟩ := r
    subst e1
    cases h
    refine .inl ⟨xs, e2.sq, ?_⟩
    have := e3.length
    cases ds <;> cases xs <;> simp at this <;> rfl
  | ref i =>
    simp only [truth] at h
    obtain ⟨ds, h1, h2⟩ := Option.map_eq_some_iff.mp h
    subst h2
    obtain ⟨a, xs, q1, q2, q3⟩ := s.lst h1
    obtain ⟨a', r1, r2⟩ := r
    rw [q1] at r1; cases r1
    subst r2
    refine .inl ⟨xs, SqL.of q2, ?_⟩
    have := q3.length
    cases ds <;> cases xs <;> simp at this <;> rfl
  | fn f => cases h
/-- any expression as a test -/
theorem db_of {a : Expr} {ma : SE} (hK : X.K = G.K) (ha : DE G X W C a ma) (he : ∀ whole, isTrue a X.env whole = (do let v ← whole; standAt a.pos; holding [v] (truthy v)) := by intro _; rfl) : DB G X W C a (bOf ma) :=
  pt_imp (pt_truth ha he) fun σ H Q ⟨env, ι, st, hR, hp⟩ => sqE hR hp fun x st1 v H1 ι1 e1 hR1 r1 hp1 => by
    obtain ⟨k, e, hp2⟩ := hp1.opt
    exact ⟨k, by rw [hK]; exact truth_V hR1.sto r1 e, hp2.here hR1.sto rfl⟩
/-- a comparison as a test, g gives truth values alone -/
def cB (g : Sto → D → D → Option Bool) : Sto → D → D → Res D := fun st x y => Res.of ((g st x y).map D.bl) st
def bCmp (g : Sto → D → D → Option Bool) (a b : SE) : SB := fun C env st => (a C env st).bind fun x st => (b C env st).bind fun y st => Res.of (g st x y) st
theorem db_cmp {op : CmpOp} {r : R2} {g : Sto → D → D → Option Bool} {a b : Expr} {ma mb : SE} {pos : Pos} (ho : OpR X (compareOp op) r) (br : Br2 G r (cB g)) (ha : DE G X W C a ma) (hb : DE G X W C b mb) (hm : behindInMarks op b = false) : DB G X W C (.Compare a [op] [b] pos) (bCmp g ma mb) :=
  pt_imp (pt_cmpR ho ha hb hm) fun σ H Q ⟨env, ι, st, hR, hp⟩ => sqE hR hp fun x st1 v H1 ι1 e1 hR1 r1 hp1 => sqE hR1 hp1 fun y st2 u H2 ι2 e2 hR2 r2 hp2 => by
    obtain ⟨k, e, hp3⟩ := hp2.opt
    refine br (fun _ _ _ => False) H2 ι2 st2 x y v u _ hR2.sto (r1.ext e2 hR1.sto.mut) r2 ?_
    unfold cB
    rw [e]
    intro v' H3 ι3 e3 s3 r3
    exact ⟨k, r3, hp3 k H3 ι3 e3 s3 rfl⟩
theorem db_not {a : Expr} {m : SB} {pos : Pos} (ha : DB G X W C a m) : DB G X W C (.UnaryOp .Not a pos) (bNot m) :=
  pt_imp (pt_not ha) fun σ H Q ⟨env, ι, st, hR, hp⟩ => sqB hR hp fun x st1 H1 ι1 e1 hR1 hp1 => by
    exact hp1.here hR1.sto rfl
theorem dw_and1 {a : Expr} {m : SB} {pos : Pos} (ha : DB G X W C a m) : DW G X W C (.BoolOp .And [a] pos) m := pw_and1 ha
theorem dw_or1 {a : Expr} {m : SB} {pos : Pos} (ha : DB G X W C a m) : DW G X W C (.BoolOp .Or [a] pos) m := pw_or1 ha
theorem dw_and {a b : Expr} {r : List Expr} {ma mb : SB} {pos : Pos} (ha : DB G X W C a ma) (hb : DW G X W C (.BoolOp .And (b :: r) pos) mb) : DW G X W C (.BoolOp .And (a :: b :: r) pos) (bAnd ma mb) :=
  pw_imp (pw_and ha hb) fun σ H Q ⟨env, ι, st, hR, hp⟩ => sqB hR hp fun x st1 H1 ι1 e1 hR1 hp1 => by
    cases x with
    | true => exact iteT ⟨env, ι1, st1, hR1, hp1⟩
    | false => exact iteF (hp1.here hR1.sto rfl)
theorem dw_or {a b : Expr} {r : List Expr} {ma mb : SB} {pos : Pos} (ha : DB G X W C a ma) (hb : DW G X W C (.BoolOp .Or (b :: r) pos) mb) : DW G X W C (.BoolOp .Or (a :: b :: r) pos) (bOr ma mb) :=
  pw_imp (pw_or ha hb) fun σ H Q ⟨env, ι, st, hR, hp⟩ => sqB hR hp fun x st1 H1 ι1 e1 hR1 hp1 => by
    cases x with
    | true => exact iteT (hp1.here hR1.sto rfl)
    | false => exact iteF ⟨env, ι1, st1, hR1, hp1⟩
theorem db_w {e : Expr} {m : SB} (h : DW G X W C e m) : DB G X W C e m := PW.pt h

/-! ### and, or, not, if as values -/
theorem de_one {op : BoolOp} {a : Expr} {m : SE} {pos : Pos} (h : DE G X W C a m) : DE G X W C (.BoolOp op [a] pos) m := pe_one h
theorem de_and {a b : Expr} {r : List Expr} {ma mb : SE} {pos : Pos} (hK : X.K = G.K) (ha : DE G X W C a ma) (hb : DE G X W C (.BoolOp .And (b :: r) pos) mb) : DE G X W C (.BoolOp .And (a :: b :: r) pos) (eAnd ma mb) :=
  pe_imp (pe_andT ha hb) fun σ H Q ⟨env, ι, st, hR, hp⟩ => sqE hR hp fun x st1 v H1 ι1 e1 hR1 r1 hp1 => by
    cases e : truth st1 x with
    | none => rw [e] at hp1; exact hp1.elim
    | some k =>
      rw [e] at hp1
      refine ⟨k, by rw [hK]; exact truth_V hR1.sto r1 e, ?_⟩
      cases k with
      | true => exact iteT ⟨env, ι1, st1, hR1, hp1⟩
      | false => exact iteF (hp1.here hR1.sto r1)
theorem de_or {a b : Expr} {r : List Expr} {ma mb : SE} {pos : Pos} (hK : X.K = G.K) (ha : DE G X W C a ma) (hb : DE G X W C (.BoolOp .Or (b :: r) pos) mb) : DE G X W C (.BoolOp .Or (a :: b :: r) pos) (eOr ma mb) :=
  pe_imp (pe_orT ha hb) fun σ H Q ⟨env, ι, st, hR, hp⟩ => sqE hR hp fun x st1 v H1 ι1 e1 hR1 r1 hp1 => by
    cases e : truth st1 x with
    | none => rw [e] at hp1; exact hp1.elim
    | some k =>
      rw [e] at hp1
      refine ⟨k, by rw [hK]; exact truth_V hR1.sto r1 e, ?_⟩
      cases k with
      | true => exact iteT (hp1.here hR1.sto r1)
      | false => exact iteF ⟨env, ι1, st1, hR1, hp1⟩
theorem de_not {a : Expr} {m : SE} {pos : Pos} (hK : X.K = G.K) (ha : DE G X W C a m) : DE G X W C (.UnaryOp .Not a pos) (eNot m) :=
  pe_imp (pe_notT ha) fun σ H Q ⟨env, ι, st, hR, hp⟩ => sqE hR hp fun x st1 v H1 ι1 e1 hR1 r1 hp1 => by
    cases e : truth st1 x with
    | none => rw [e] at hp1; exact hp1.elim
    | some k =>
      rw [e] at hp1
      exact ⟨k, by rw [hK]; exact truth_V hR1.sto r1 e, hp1.here hR1.sto (v := .bl (!k)) rfl⟩
theorem de_if {c a b : Expr} {mc : SB} {ma mb : SE} {pos : Pos} (hc : DB G X W C c mc) (ha : DE G X W C a ma) (hb : DE G X W C b mb) : DE G X W C (.IfExp c a b pos) (eIf mc ma mb) :=
  pe_imp (pe_ifExp hc ha hb) fun σ H Q ⟨env, ι, st, hR, hp⟩ => sqB hR hp fun x st1 H1 ι1 e1 hR1 hp1 => by
    cases x with
    | true => exact iteT ⟨env, ι1, st1, hR1, hp1⟩
    | false => exact iteF ⟨env, ι1, st1, hR1, hp1⟩

/-! ### rows of arguments, displays -/
theorem da_nil : DA G X W C [] lNil := pa_imp pa_nil fun σ H Q ⟨env, ι, st, hR, hp⟩ => hp.here hR.sto (v := []) rfl
theorem da_cons {e : Expr} {es : List Expr} {m : SE} {l : SL} (ha : DE G X W C e m) (hr : DA G X W C es l) (hs : starEach (e :: es) X.env = (false, eval e X.env) :: starEach es X.env := by rfl) : DA G X W C (e :: es) (lCons m l) :=
  pa_imp (pa_cons ha hr hs) fun σ H Q ⟨env, ι, st, hR, hp⟩ => sqE hR hp fun x st1 v H1 ι1 e1 hR1 r1 hp1 => sqA hR1 hp1 fun xs st2 vs H2 ι2 e2 hR2 r2 hp2 =>
    hp2.here hR2.sto ⟨v, vs, rfl, r1.ext e2 hR1.sto.mut, r2⟩
def eTup (l : SL) : SE := eA (fun st ds => if ds.length ≤ sizeLine then .ok (.tup ds) st else .stuck) l
theorem de_tup {es : List Expr} {l : SL} {k : Nat} {pos : Pos} (h : DA G X W C es l) : DE G X W C (.Tuple es k pos) (eTup l) :=
  pe_imp (pe_tup h) fun σ H Q ⟨env, ι, st, hR, hp⟩ => sqA hR hp fun ds st1 vs H1 ι1 e1 hR1 r1 hp1 => by
    dsimp only at hp1
    split at hp1
    · rename_i hz
      refine ⟨by rw [r1.length]; exact hz, fun p hp => ?_⟩
      refine hp1 _ _ ι1 (ext_new hp) (hR1.sto.fresh hp) ⟨p, vs, rfl, SqT.of upd_same, r1.ext (ext_new hp) hR1.sto.mut⟩
    · exact hp1.elim
/-- the written list, of one's own -/
def lLst (l : SL) : SL := lMap (fun _ ds => if ds.length ≤ sizeLine then some ds else none) l
theorem dt_lst {es : List Expr} {l : SL} {pos : Pos} (h : DA G X W C es l) : DT G X W C (.List es pos) (lLst l) :=
  pe_imp (pe_lst h) fun σ H Q ⟨env, ι, st, hR, hp⟩ => sqA hR hp fun ds st1 vs H1 ι1 e1 hR1 r1 hp1 => by
    obtain ⟨ds', e, hp2⟩ := hp1.opt
    dsimp only at e
    split at e
    · rename_i hz
      cases e
      refine ⟨by rw [r1.length]; exact hz, fun p hp => ?_⟩
      refine hp2 _ _ ι1 (ext_new hp) (hR1.sto.fresh hp) ⟨p, vs, rfl, upd_same, hR1.sto.notin hp, ?_, r1.ext (ext_new hp) hR1.sto.mut⟩
      cases q : H p with
      | none => rfl
      | some o =>
        by_cases hm : p ∈ ι
        · exact absurd hp (fun z => hR1.sto.ne (by obtain ⟨r, rfl⟩ := e1.more; exact List.mem_append_left _ hm) z rfl)
        · rw [e1.keep p o q hm] at hp; cases hp
    · cases e
/-- a list of one's own goes into the store -/
theorem de_new {e : Expr} {l : SL} (h : DT G X W C e l) : DE G X W C e (eNew l) :=
  pe_imp h fun σ H Q ⟨env, ι, st, hR, hp⟩ => sqT hR hp fun ds st1 a xs H1 ι1 e1 hR1 h1 h2 h3 h4 hp1 =>
    hp1 (.ref a) H1 (ι1 ++ [a]) (e1.take h3) (hR1.sto.push h2 ⟨xs, h1, h4.grow _⟩) ⟨a, by rw [← hR1.sto.len]; simp, rfl⟩
/-- .. or is read -/
theorem dq_tmp {e : Expr} {l : SL} (h : DT G X W C e l) : DQ G X W C e l :=
  pe_imp h fun σ H Q ⟨env, ι, st, hR, hp⟩ => ⟨env, ι, st, hR, by
    generalize l C env st = r at hp
    cases r with
    | ok ds st1 => exact fun v H1 ι1 e s ⟨a, xs, ev, h1, h2, h3, h4⟩ => hp v H1 ι1 e s ⟨a, xs, ev, .inl (SqL.of h1), h4⟩
    | exc c x st1 => exact hp
    | stuck => exact hp⟩
theorem dq_of {e : Expr} {m : SE} (h : DE G X W C e m) : DQ G X W C e (lSeq m) :=
  pe_imp h fun σ H Q ⟨env, ι, st, hR, hp⟩ => sqE hR hp fun x st1 v H1 ι1 e1 hR1 r1 hp1 => by
    obtain ⟨ds, e, hp2⟩ := hp1.opt
    exact hp2.here hR1.sto (hR1.sto.items e r1)
end
end OH

set_option Elab.async false
set_option linter.all false
set_option maxRecDepth 100000
set_option maxHeartbeats 1000000
/-! OHStmt: statements, loops, comprehensions, defs. -/
namespace OH
open PySem PySem.Spec PyProof.Rows L2

/-! ### meanings of statements -/
def sNx : SS := fun _ env st => .nx env st
def sSeq (a b : SS) : SS := fun C env st => (a C env st).thenS fun env st => b C env st
def sRet (e : SE) : SS := fun C env st => (e C env st).thenS env fun d st => .ret d st
def sRetN : SS := fun _ _ st => .ret .non st
def sExp (e : SE) : SS := fun C env st => (e C env st).thenS env fun _ st => .nx env st
def sSet (i : Nat) (e : SE) : SS := fun C env st => (e C env st).thenS env fun d st => .nx (env.set i (some d)) st
/-- a target's store -/
def sAsg (g : SG) (e : SE) : SS := fun C env st => (e C env st).thenS env fun d st => match g d env with | some env' => .nx env' st | none => .stuck
/-- o[i] = e -/
def sPut (f : Sto → D → D → D → Option Sto) (o i e : SE) : SS := fun C env st => (e C env st).thenS env fun v st => (o C env st).thenS env fun x st => (i C env st).thenS env fun y st =>
  match f st x y v with | some st' => .nx env st' | none => .stuck
/-- name op= e -/
def sAug (i : Nat) (f : Sto → D → D → Res D) (e : SE) : SS := fun C env st => (eV i C env st).thenS env fun x st => (e C env st).thenS env fun y st => (f st x y).thenS env fun z st => .nx (env.set i (some z)) st
def sIf (c : SB) (a b : SS) : SS := fun C env st => (c C env st).thenS env fun t st => if t then a C env st else b C env st
def sBrk : SS := fun _ env st => .brk env st
def sCnt : SS := fun _ env st => .cnt env st
/-- the loop over what is left -/
def forGo (src : List (Nat × List D)) (g : SG) (body : SS) (C : Call) : List D → Env → Sto → RS
  | [], env, st => if good src st then .nx env st else .stuck
  | d :: ds, env, st => if good src st then
      match g d env with
      | none => .stuck
      | some env' => match body C env' st with
        | .nx env st => forGo src g body C ds env st
        | .cnt env st => forGo src g body C ds env st
        | .brk env st => .nx env st
        | r => r
    else .stuck
def sFor (it : SI) (g : SG) (body : SS) : SS := fun C env st => (it C env st).thenS env fun w st => forGo w.src g body C w.ds env st
def whileGo (c : SB) (body : SS) (C : Call) : Nat → Env → Sto → RS
  | 0, _, _ => .stuck
  | n + 1, env, st => (c C env st).thenS env fun t st => if t then
      match body C env st with
      | .nx env st => whileGo c body C n env st
      | .cnt env st => whileGo c body C n env st
      | .brk env st => .nx env st
      | r => r
    else .nx env st
def wFuel : Nat := 1000000
def sWhile (c : SB) (body : SS) : SS := fun C env st => whileGo c body C wFuel env st

/-! ### comprehensions -/
def Res.noX {α : Type} : Res α → Res α
  | .exc _ _ _ => .stuck
  | r => r
@[simp] theorem Res.noX_ok {α : Type} (a : α) (st : Sto) : (Res.ok a st).noX = .ok a st := rfl
def wipeE (env : Env) : List Nat → Env
  | [] => env
  | v :: vs => (wipeE env vs).set v none
def bTrue : SB := fun _ _ st => .ok true st
def lcGo (src : List (Nat × List D)) (g : SG) (c : SB) (elt : SE) (C : Call) (env : Env) : List D → List D → Sto → Res (List D)
  | [], acc, st => if good src st then .ok acc st else .stuck
  | d :: ds, acc, st => if good src st then
      match g d env with
      | none => .stuck
      | some env' => (c C env' st).noX.bind fun t st => if t then (elt C env' st).noX.bind fun x st => lcGo src g c elt C env ds (acc ++ [x]) st else lcGo src g c elt C env ds acc st
    else .stuck
def lLc (it : SI) (g : SG) (vs : List Nat) (c : SB) (elt : SE) : SL := fun C env st => (it C env st).bind fun w st => if w.ds.length ≤ sizeLine then lcGo w.src g c elt C (wipeE env vs) w.ds [] st else .stuck

/-! ### what a statement's meaning promises -/
def postS (G : Gx) (W : WX) (K : Ends) (H : Hp) (ι : List Addr) : RS → Prop
  | .nx env st => ∀ σ' H' ι', Ext H ι H' ι' → R G σ' H' env ι' st → K.nx σ' H'
  | .brk env st => ∀ σ' H' ι', Ext H ι H' ι' → R G σ' H' env ι' st → K.bk σ' H'
  | .cnt env st => ∀ σ' H' ι', Ext H ι H' ι' → R G σ' H' env ι' st → K.ct σ' H'
  | .ret d st => ∀ v H' ι', Ext H ι H' ι' → StoRep G H' ι' st → Rep G H' ι' d v → K.rt v H'
  | .exc c x env st => ∀ cls ad σ' H' ι', Ext H ι H' ι' → R G σ' H' env ι' st → ExcRep G c x H' ι' cls ad → W cls ad σ' H'
  | .stuck => False
theorem postS.ext {G : Gx} {W : WX} {K : Ends} {H H1 : Hp} {ι ι1 : List Addr} {r : RS} (h : postS G W K H ι r) (e : Ext H ι H1 ι1) : postS G W K H1 ι1 r := by
  cases r with
  | nx env st => exact fun σ' H' ι' e' => h σ' H' ι' (e.trans e')
  | brk env st => exact fun σ' H' ι' e' => h σ' H' ι' (e.trans e')
  | cnt env st => exact fun σ' H' ι' e' => h σ' H' ι' (e.trans e')
  | ret d st => exact fun v H' ι' e' => h v H' ι' (e.trans e')
  | exc c x env st => exact fun cls ad σ' H' ι' e' => h cls ad σ' H' ι' (e.trans e')
  | stuck => exact h
abbrev tSt (G : Gx) (W : WX) (C : Call) (m : SS) : TS := fun K σ H => ∃ env ι st, R G σ H env ι st ∧ postS G W K H ι (m C env st)
def DS (G : Gx) (X : Cx) (W : WX) (C : Call) (s : Stmt) (m : SS) : Prop := PS X s (tSt G W C m)
def DSs (G : Gx) (X : Cx) (W : WX) (C : Call) (s : List Stmt) (m : SS) : Prop := PSs X s (tSt G W C m)

section
variable {G : Gx} {W : WX} {C : Call} {σ : L2.St} {H : Hp} {ι : List Addr} {env : Env} {st : Sto} {K : Ends}
theorem ssG {α υ : Type} {rep : Hp → Hp → List Addr → α → υ → Prop} {m : Call → Env → Sto → Res α} {f : α → Sto → RS} {Q : υ → Hp → Prop} (hR : R G σ H env ι st) (h : postS G W K H ι ((m C env st).thenS env f))
    (k : ∀ a st1 v H1 ι1, Ext H ι H1 ι1 → R G σ H1 env ι1 st1 → rep H H1 ι1 a v → postS G W K H1 ι1 (f a st1) → Q v H1) : rG G W C rep m σ H Q := by
  refine ⟨env, ι, st, hR, ?_⟩
  generalize m C env st = r at h
  cases r with
  | ok a st1 => exact fun v H1 ι1 e s r1 => k a st1 v H1 ι1 e (hR.ext e s) r1 (h.ext e)
  | exc c x st1 => exact fun cls ad H1 ι1 e s r1 => h cls ad σ H1 ι1 e (hR.ext e s) r1
  | stuck => exact h
theorem ssE {m : SE} {f : D → Sto → RS} {Q : V → Hp → Prop} (hR : R G σ H env ι st) (h : postS G W K H ι ((m C env st).thenS env f))
    (k : ∀ a st1 v H1 ι1, Ext H ι H1 ι1 → R G σ H1 env ι1 st1 → Rep G H1 ι1 a v → postS G W K H1 ι1 (f a st1) → Q v H1) : rG G W C (fun _ => Rep G) m σ H Q := ssG hR h k
theorem ssB {m : SB} {f : Bool → Sto → RS} {Q : Bool → Hp → Prop} (hR : R G σ H env ι st) (h : postS G W K H ι ((m C env st).thenS env f))
    (k : ∀ a st1 H1 ι1, Ext H ι H1 ι1 → R G σ H1 env ι1 st1 → postS G W K H1 ι1 (f a st1) → Q a H1) : rG G W C repB m σ H Q := ssG hR h fun a st1 v H1 ι1 e1 hR1 r1 hp => by
  cases r1
  exact k a st1 H1 ι1 e1 hR1 hp
theorem R.set (hR : R G σ H env ι st) {d : D} {v : V} (r : Rep G H ι d v) (i : Nat) : R G (σ.set i (some v)) H (env.set i (some d)) ι st := by
  refine ⟨by simpa using hR.len, fun j d' h => ?_, hR.sto⟩
  by_cases e : i = j
  · subst e
    have hl := (List.getElem?_eq_some_iff.mp h).1
    simp at hl
    rw [List.getElem?_set_self hl] at h
    cases h
    exact ⟨v, List.getElem?_set_self (by rw [hR.len]; exact hl), r⟩
  · rw [List.getElem?_set_ne e] at h
    rw [List.getElem?_set_ne e]
    exact hR.var j d' h
theorem R.wipe (hR : R G σ H env ι st) : ∀ vs : List Nat, R G (wipe σ vs) H (wipeE env vs) ι st
  | [] => hR
  | i :: vs => by
    have ih := hR.wipe vs
    unfold L2.wipe wipeE
    refine ⟨by simpa using ih.len, fun j d' h => ?_, hR.sto⟩
    by_cases e : i = j
    · subst e
      have hl := (List.getElem?_eq_some_iff.mp h).1
      simp at hl
      rw [List.getElem?_set_self hl] at h
      cases h
    · rw [List.getElem?_set_ne e] at h
      rw [List.getElem?_set_ne e]
      exact ih.var j d' h
end

section
variable {G : Gx} {X : Cx} {W : WX} {C : Call}
theorem dss_nil : DSs G X W C [] sNx := pss_imp pss_nil fun K σ H ⟨env, ι, st, hR, hp⟩ => hp σ H ι (Ext.refl _ _) hR
theorem dss_cons {s : Stmt} {r : List Stmt} {a b : SS} (h1 : DS G X W C s a) (h2 : DSs G X W C r b) : DSs G X W C (s :: r) (sSeq a b) := pss_imp (pss_cons h1 h2) fun K σ H ⟨env, ι, st, hR, hp⟩ => by
  refine ⟨env, ι, st, hR, ?_⟩
  have hp : postS G W K H ι ((a C env st).thenS fun env st => b C env st) := hp
  generalize a C env st = r at hp
  cases r with
  | nx env' st' => exact fun σ' H' ι' e r' => ⟨env', ι', st', r', hp.ext e⟩
  | brk env' st' => exact hp
  | cnt env' st' => exact hp
  | ret d st' => exact hp
  | exc c x env' st' => exact hp
  | stuck => exact hp
theorem dss_one {s : Stmt} {a : SS} (h1 : DS G X W C s a) : DSs G X W C [s] a := pss_one h1
theorem ds_pass {pos : Pos} : DS G X W C (.Pass pos) sNx := ps_imp ps_pass fun K σ H ⟨env, ι, st, hR, hp⟩ => hp σ H ι (Ext.refl _ _) hR
theorem ds_break {pos : Pos} : DS G X W C (.Break pos) sBrk := ps_imp ps_break fun K σ H ⟨env, ι, st, hR, hp⟩ => hp σ H ι (Ext.refl _ _) hR
theorem ds_continue {pos : Pos} : DS G X W C (.Continue pos) sCnt := ps_imp ps_continue fun K σ H ⟨env, ι, st, hR, hp⟩ => hp σ H ι (Ext.refl _ _) hR
theorem ds_ret {e : Expr} {m : SE} {pos : Pos} (h : DE G X W C e m) : DS G X W C (.Return (some e) pos) (sRet m) := ps_imp (ps_ret h) fun K σ H ⟨env, ι, st, hR, hp⟩ => ssE hR hp fun d st1 v H1 ι1 e1 hR1 r1 hp1 => hp1 v H1 ι1 (Ext.refl _ _) hR1.sto r1
theorem ds_retN {pos : Pos} : DS G X W C (.Return none pos) sRetN := ps_imp ps_retN fun K σ H ⟨env, ι, st, hR, hp⟩ => hp .non H ι (Ext.refl _ _) hR.sto rfl
theorem ds_exp {e : Expr} {m : SE} {pos : Pos} (h : DE G X W C e m) (hs : swapsWith e none pos.line X.env = pure false := by rfl) : DS G X W C (.Expr e pos) (sExp m) := ps_imp (ps_expr h hs) fun K σ H ⟨env, ι, st, hR, hp⟩ => ssE hR hp fun d st1 v H1 ι1 e1 hR1 r1 hp1 => hp1 σ H1 ι1 (Ext.refl _ _) hR1
theorem ds_set {s : Stmt} {i : Nat} {m : SE} (h : PS X s (tAsg (tE G W C m) (gName i))) : DS G X W C s (sSet i m) := ps_imp h fun K σ H ⟨env, ι, st, hR, hp⟩ => ssE hR hp fun d st1 v H1 ι1 e1 hR1 r1 hp1 => hp1 _ H1 ι1 (Ext.refl _ _) (hR1.set r1 i)
theorem ds_if {c : Expr} {a b : List Stmt} {mc : SB} {ma mb : SS} {pos : Pos} (hc : DB G X W C c mc) (ha : DSs G X W C a ma) (hb : DSs G X W C b mb) : DS G X W C (.If c a b pos) (sIf mc ma mb) := ps_imp (ps_if hc ha hb) fun K σ H ⟨env, ι, st, hR, hp⟩ => ssB hR hp fun t st1 H1 ι1 e1 hR1 hp1 => by
  cases t with
  | true => exact iteT ⟨env, ι1, st1, hR1, hp1⟩
  | false => exact iteF ⟨env, ι1, st1, hR1, hp1⟩
theorem ds_while {c : Expr} {body : List Stmt} {mc : SB} {mb : SS} {pos : Pos} (hpo : PassesOwn (model X.prog X.w) X.A X.env X.xe) (hc : DB G X W C c mc) (hb : DSs G X W C body mb) : DS G X W C (.While c body [] pos) (sWhile mc mb) := ps_imp (ps_while hpo hc hb) fun K σ H ⟨env, ι, st, hR, hp⟩ => by
  refine ⟨fun n σ' H' => ∃ env' ι' st', R G σ' H' env' ι' st' ∧ postS G W K H' ι' (whileGo mc mb C n env' st'), ⟨wFuel, env, ι, st, hR, hp⟩, fun n σ1 H1 ⟨env1, ι1, st1, hR1, hp1⟩ => ?_⟩
  cases n with
  | zero => exact hp1.elim
  | succ n =>
    unfold whileGo at hp1
    refine ssB hR1 hp1 fun t st2 H2 ι2 e2 hR2 hp2 => ?_
    cases t with
    | false => exact iteF (hp2 σ1 H2 ι2 (Ext.refl _ _) hR2)
    | true =>
      refine iteT ⟨fun σ' H' => ∃ env' ι' st', R G σ' H' env' ι' st' ∧ postS G W K H' ι' (whileGo mc mb C n env' st'), fun σ' H' q => ⟨n, Nat.lt_succ_self n, q⟩, env1, ι2, st2, hR2, ?_⟩
      simp only [if_true] at hp2
      generalize mb C env1 st2 = r at hp2
      cases r with
      | nx env' st' => exact fun σ' H' ι' e r' => ⟨env', ι', st', r', hp2.ext e⟩
      | cnt env' st' => exact fun σ' H' ι' e r' => ⟨env', ι', st', r', hp2.ext e⟩
      | brk env' st' => exact hp2
      | ret d st' => exact hp2
      | exc c x env' st' => exact hp2
      | stuck => exact hp2

/-! ### targets -/
def tGt (G : Gx) (g : SG) (vs : List Nat) : TG := fun v σ H Q => ∃ d env ι st env', Rep G H ι d v ∧ R G σ H env ι st ∧ g d env = some env' ∧ ∀ σ', R G σ' H env' ι st → (∀ i, i ∉ vs → σ'[i]? = σ[i]?) → σ'.length = σ.length → Q σ' H
def DG (G : Gx) (X : Cx) (tg : Expr) (g : SG) (vs : List Nat) : Prop := PG X tg (tGt G g vs)
theorem pg_imp {e : Expr} {t t' : TG} (h : PG X e t) (k : ∀ v σ H Q, t' v σ H Q → t v σ H Q) : PG X e t' := ⟨fun pins s σ H v u Q I r q => h.run pins s σ H v u Q I r (k v σ H Q q)⟩
theorem dg_name {i : Nat} {e : Expr} (h : PG X e (gName i)) : DG G X e (gN i) [i] := pg_imp h fun v σ H Q ⟨d, env, ι, st, env', r, hR, e, k⟩ => by
  cases e
  refine k _ (hR.set r i) (fun j hj => ?_) (by simp)
  rw [List.getElem?_set_ne]
  intro z; subst z; simp at hj
def tGs (G : Gx) (gs : List SG) (vs : List Nat) : TGs := fun v σ H Q => ∃ d env ι st env', RepL G H ι d v ∧ R G σ H env ι st ∧ gT gs d env = some env' ∧ ∀ σ', R G σ' H env' ι st → (∀ i, i ∉ vs → σ'[i]? = σ[i]?) → σ'.length = σ.length → Q σ' H
def DGs (G : Gx) (X : Cx) (tg : List Expr) (gs : List SG) (vs : List Nat) : Prop := PGs X tg (tGs G gs vs)
theorem pgs_imp {e : List Expr} {t t' : TGs} (h : PGs X e t) (k : ∀ v σ H Q, t' v σ H Q → t v σ H Q) : PGs X e t' := ⟨fun pins s σ H v u Q I r q => h.run pins s σ H v u Q I r (k v σ H Q q)⟩
theorem dgs_nil : DGs G X [] [] [] := pgs_imp pgs_nil fun v σ H Q ⟨d, env, ι, st, env', r, hR, e, k⟩ => by
  cases d with
  | nil =>
    cases r
    cases e
    exact ⟨rfl, k σ hR (fun _ _ => rfl) rfl⟩
  | cons d ds => cases e
theorem dgs_cons {e : Expr} {es : List Expr} {g : SG} {gs : List SG} {vs us : List Nat} (h1 : DG G X e g vs) (h2 : DGs G X es gs us) (hs : (assignEach (e :: es) X.env).map (·.2) = assign e X.env :: (assignEach es X.env).map (·.2) := by rfl) : DGs G X (e :: es) (g :: gs) (vs ++ us) :=
  pgs_imp (pgs_cons h1 h2 hs) fun v σ H Q ⟨d, env, ι, st, env', r, hR, e, k⟩ => by
    cases d with
    | nil => cases e
    | cons d ds =>
      obtain ⟨v1, vr, ev, r1, r2⟩ := r
      subst ev
      simp only [gT] at e
      obtain ⟨env1, e1, e2⟩ := Option.bind_eq_some_iff.mp e
      refine ⟨v1, vr, rfl, d, env, ι, st, env1, r1, hR, e1, fun σ1 hR1 ag1 l1 => ⟨ds, env1, ι, st, env', r2, hR1, e2, fun σ2 hR2 ag2 l2 => k σ2 hR2 (fun i hi => ?_) (l2.trans l1)⟩⟩
      simp at hi
      rw [ag2 i hi.2, ag1 i hi.1]
theorem dg_tup {es : List Expr} {gs : List SG} {vs : List Nat} {k n : Nat} {pos : Pos} (hK : X.K = G.K) (hc : X.calm = true) (h : DGs G X es gs vs) (hl : gs.length = n := by rfl)
    (hn : (assignEach es X.env).length = n := by rfl) (hst : (assignEach es X.env).findIdx? (·.1) = none := by rfl) : DG G X (.Tuple es k pos) (gTup gs) vs :=
  pg_imp (pg_tup hc h hn hst) fun v σ H Q ⟨d, env, ι, st, env', r, hR, e, k⟩ => by
    cases d with
    | tup ds =>
      obtain ⟨a, xs, ev, r1, r2⟩ := r
      refine ⟨a, xs, ev, by rw [hK]; exact r1, ?_, ds, env, ι, st, env', r2, hR, e, k⟩
      rw [r2.length, ← hl]
      have : ∀ (gs : List SG) (ds : List D) (env : Env) (env' : Env), gT gs ds env = some env' → ds.length = gs.length := by
        intro gs
        induction gs with
        | nil => intro ds env env' e; cases ds <;> simp [gT] at e; rfl
        | cons g gs ih =>
          intro ds env env' e
          cases ds with
          | nil => simp [gT] at e
          | cons d ds =>
            simp only [gT] at e
            obtain ⟨env1, e1, e2⟩ := Option.bind_eq_some_iff.mp e
            simp [ih _ _ _ e2]
      exact this _ _ _ _ e
    | _ => cases e
theorem ds_asg {s : Stmt} {g : SG} {vs : List Nat} {m : SE} (h : PS X s (tAsg (tE G W C m) (tGt G g vs))) : DS G X W C s (sAsg g m) := ps_imp h fun K σ H ⟨env, ι, st, hR, hp⟩ => ssE hR hp fun d st1 v H1 ι1 e1 hR1 r1 hp1 => by
  cases e : g d env with
  | none => rw [e] at hp1; exact hp1.elim
  | some env' =>
    rw [e] at hp1
    exact ⟨d, env, ι1, st1, env', r1, hR1, e, fun σ' hR2 _ _ => hp1 σ' H1 ι1 (Ext.refl _ _) hR2⟩
def BrSet (G : Gx) (t : TSet) (f : Sto → D → D → D → Option Sto) : Prop := ∀ (H : Hp) (ι : List Addr) (st st' : Sto) (o i v : D) (ov iv vv : V) (Q : Hp → Prop), StoRep G H ι st → Rep G H ι o ov → Rep G H ι i iv → Rep G H ι v vv → f st o i v = some st' →
  (∀ H' ι', Ext H ι H' ι' → StoRep G H' ι' st' → Q H') → t ov iv vv H Q
theorem ds_put {s : Stmt} {t : TSet} {f : Sto → D → D → D → Option Sto} {mo mi me : SE} (h : PS X s (tAsg (tE G W C me) (gSub (tE G W C mo) (tE G W C mi) t))) (br : BrSet G t f) : DS G X W C s (sPut f mo mi me) :=
  ps_imp h fun K σ H ⟨env, ι, st, hR, hp⟩ => ssE hR hp fun v st1 vv H1 ι1 e1 hR1 r1 hp1 => ssE hR1 hp1 fun o st2 ov H2 ι2 e2 hR2 r2 hp2 => ssE hR2 hp2 fun i st3 iv H3 ι3 e3 hR3 r3 hp3 => by
    cases e : f st3 o i v with
    | none => rw [e] at hp3; exact hp3.elim
    | some st4 =>
      rw [e] at hp3
      exact br H3 ι3 st3 st4 o i v ov iv vv _ hR3.sto (r2.ext e3 hR2.sto.mut) r3 ((r1.ext e2 hR1.sto.mut).ext e3 hR2.sto.mut) e fun H' ι' e' s' => hp3 σ H' ι' e' (hR3.ext e' s')
theorem ds_aug {s : Stmt} {i : Nat} {ti : TIp} {f : Sto → D → D → Res D} {m : SE} (h : PS X s (tAug i (tE G W C m) ti)) (br : Br2 G ti f) : DS G X W C s (sAug i f m) :=
  ps_imp h fun K σ H ⟨env, ι, st, hR, hp⟩ => by
    unfold sAug eV at hp
    cases hd : env[i]? with
    | none => simp only [hd] at hp; exact hp.elim
    | some od =>
      cases od with
      | none => simp only [hd] at hp; exact hp.elim
      | some d =>
        simp only [hd] at hp
        obtain ⟨v, hv, rv⟩ := hR.var i d hd
        refine ⟨v, hv, ssE hR hp fun y st1 u H1 ι1 e1 hR1 r1 hp1 => ?_⟩
        have hp1 : postS G W K H1 ι1 ((f st1 d y).thenS env fun z st => .nx (env.set i (some z)) st) := hp1
        refine br (fun cls ad H' => W cls ad σ H') H1 ι1 st1 d y v u _ hR1.sto (rv.ext e1 hR.sto.mut) r1 ?_
        generalize f st1 d y = r at hp1
        cases r with
        | ok z st2 => exact fun w H2 ι2 e2 s2 r2 => hp1 _ H2 ι2 e2 ((hR1.ext e2 s2).set r2 i)
        | exc c x st2 => exact fun cls ad H2 ι2 e2 s2 r2 => hp1 cls ad σ H2 ι2 e2 (hR1.ext e2 s2) r2
        | stuck => exact hp1
end
end OH

set_option Elab.async false
set_option linter.all false
set_option maxRecDepth 100000
set_option maxHeartbeats 1000000
/-! OHLoop: for, comprehensions, calls, defs. -/
namespace OH
open PySem PySem.Spec PyProof.Rows L2

/-- an iterator gives the items, one after another, while its lists stay -/
def repW (G : Gx) : Hp → Hp → List Addr → Wlk → L2.It → Prop := fun _ H ι w J => ∀ H2 ι2 st2, Ext H ι H2 ι2 → StoRep G H2 ι2 st2 → good w.src st2 = true →
  (∀ (i : Nat) (d : D), w.ds[i]? = some d → J.go i H2 ∧ ∀ x H3, J.yld i H2 x H3 → Ext H2 ι2 H3 ι2 ∧ StoRep G H3 ι2 st2 ∧ Rep G H3 ι2 d x) ∧ ∀ i, w.ds.length ≤ i → J.stop i H2
abbrev tI (G : Gx) (W : WX) (C : Call) (m : SI) : TI := rG G W C (repW G) m
def DI (G : Gx) (X : Cx) (W : WX) (C : Call) (tg e : Expr) (m : SI) : Prop := PI X tg e (tI G W C m)

section
variable {G : Gx} {X : Cx} {W : WX} {C : Call}
theorem ds_for {tg it : Expr} {body : List Stmt} {si : SI} {g : SG} {vs : List Nat} {mb : SS} {pos : Pos} (hpo : PassesOwn (model X.prog X.w) X.A X.env X.xe) (hc : X.calm = true) (hi : DI G X W C tg it si) (hg : DG G X tg g vs) (hb : DSs G X W C body mb)
    (hs : ∀ x, foldedSetIterable it X.env x = pure x := by intro _; rfl) : DS G X W C (.For tg it body [] pos) (sFor si g mb) := ps_imp (ps_for hpo hc hi hg hb hs) fun K σ H ⟨env, ι, st, hR, hp⟩ => by
  refine ssG hR hp fun w st1 J H1 ι1 e1 hR1 rJ hp1 => ?_
  refine ⟨fun i m σ' H' => ∃ env' ι' st', Ext H1 ι1 H' ι' ∧ R G σ' H' env' ι' st' ∧ m = w.ds.length - i ∧ postS G W K H' ι' (forGo w.src g mb C (w.ds.drop i) env' st'), ⟨_, env, ι1, st1, Ext.refl _ _, hR1, rfl, hp1⟩, fun i m σ2 H2 ⟨env2, ι2, st2, e2, hR2, em, hp2⟩ => ?_⟩
  by_cases hi : i < w.ds.length
  · have ed : w.ds.drop i = w.ds[i] :: w.ds.drop (i + 1) := List.drop_eq_getElem_cons hi
    rw [ed] at hp2
    unfold forGo at hp2
    split at hp2
    · rename_i hgd
      obtain ⟨go, _⟩ := rJ H2 ι2 st2 e2 hR2.sto hgd
      obtain ⟨g1, g2⟩ := go i w.ds[i] (by simp [hi])
      refine .inr ⟨g1, fun σ' H' => ∃ env' ι' st', Ext H1 ι1 H' ι' ∧ R G σ' H' env' ι' st' ∧ postS G W K H' ι' (forGo w.src g mb C (w.ds.drop (i + 1)) env' st'), fun σ' H' ⟨env', ι', st', q1, q2, q3⟩ => ⟨w.ds.length - (i + 1), by omega, env', ι', st', q1, q2, rfl, q3⟩, fun x H3 hy => ?_⟩
      obtain ⟨e3, s3, r3⟩ := g2 x H3 hy
      have hR3 := hR2.ext e3 s3
      cases eg : g w.ds[i] env2 with
      | none => rw [eg] at hp2; exact hp2.elim
      | some env3 =>
        rw [eg] at hp2
        dsimp only at hp2
        refine ⟨w.ds[i], env2, ι2, st2, env3, r3, hR3, eg, fun σ4 hR4 _ _ => ⟨env3, ι2, st2, hR4, ?_⟩⟩
        generalize mb C env3 st2 = r at hp2
        cases r with
        | nx env' st' => exact fun σ' H' ι' e r' => ⟨env', ι', st', (e2.trans e3).trans e, r', (hp2.ext e3).ext e⟩
        | cnt env' st' => exact fun σ' H' ι' e r' => ⟨env', ι', st', (e2.trans e3).trans e, r', (hp2.ext e3).ext e⟩
        | brk env' st' => exact hp2.ext e3
        | ret d st' => exact hp2.ext e3
        | exc c x env' st' => exact hp2.ext e3
        | stuck => exact hp2
    · exact hp2.elim
  · have ed : w.ds.drop i = [] := List.drop_of_length_le (by omega)
    rw [ed] at hp2
    unfold forGo at hp2
    split at hp2
    · rename_i hgd
      obtain ⟨_, go⟩ := rJ H2 ι2 st2 e2 hR2.sto hgd
      exact .inl ⟨go i (by omega), hp2 σ2 H2 ι2 (Ext.refl _ _) hR2⟩
    · exact hp2.elim

/-! ### comprehensions -/
def WF : WX := fun _ _ _ _ => False
def DTs (G : Gx) (X : Cx) (W : WX) (C : Call) (ifs : List Expr) (m : SB) : Prop := PTs X ifs (tB G W C m)
theorem pts_imp {e : List Expr} {t t' : TT} (h : PTs X e t) (k : ∀ σ H Q, t' σ H Q → t σ H Q) : PTs X e t' := ⟨fun pins s σ H Q I q => h.run pins s σ H Q I (k σ H Q q)⟩
theorem dts_nil : DTs G X W C [] bTrue := pts_imp pts_nil fun σ H Q ⟨env, ι, st, hR, hp⟩ => hp.here hR.sto rfl
theorem dts_one {c : Expr} {m : SB} (h : DB G X W C c m) : DTs G X W C [c] m := pts_one h
/-- a meaning that must not raise -/
theorem rG.nox {α υ : Type} {rep : Hp → Hp → List Addr → α → υ → Prop} {σ : L2.St} {H : Hp} {ι : List Addr} {env : Env} {st : Sto} {Q : υ → Hp → Prop} {β υ' : Type} {rep' : Hp → List Addr → β → υ' → Prop} {Q' : υ' → Hp → Prop} {W' : Value → Option Addr → Hp → Prop} {m : Call → Env → Sto → Res α} {f : α → Sto → Res β} {Hb : Hp} {ιb : List Addr}
    (hR : R G σ H env ι st) (h : post G rep' W' Hb ιb Q' ((m C env st).noX.bind f)) (k : ∀ a st1 v H1 ι1, Ext H ι H1 ι1 → R G σ H1 env ι1 st1 → rep H H1 ι1 a v → post G rep' W' Hb ιb Q' (f a st1) → Q v H1) : rG G WF C rep m σ H Q := by
  refine ⟨env, ι, st, hR, ?_⟩
  generalize m C env st = r at h
  cases r with
  | ok a st1 => exact fun v H1 ι1 e s r1 => k a st1 v H1 ι1 e (hR.ext e s) r1 h
  | exc c x st1 => exact h.elim
  | stuck => exact h
theorem wipe_get {σ : L2.St} {i : Nat} : ∀ {vs : List Nat}, (wipe σ vs)[i]? = if i ∈ vs ∧ i < σ.length then some none else σ[i]?
  | [] => by simp [wipe]
  | v :: vs => by
    unfold wipe
    by_cases e : v = i
    · subst e
      by_cases hl : v < σ.length
      · rw [List.getElem?_set_self (by rw [wipe_length]; exact hl)]
        simp [hl]
      · rw [List.getElem?_eq_none (by rw [List.length_set, wipe_length]; omega)]
        simp [hl]
    · rw [List.getElem?_set_ne e, wipe_get]
      have : i ≠ v := fun z => e z.symm
      simp [this]
theorem wipe_eq {σ σ' : L2.St} {vs : List Nat} (h : ∀ i, i ∉ vs → σ'[i]? = σ[i]?) (hl : σ'.length = σ.length) : wipe σ' vs = wipe σ vs := by
  refine List.ext_getElem? fun i => ?_
  rw [wipe_get, wipe_get, hl]
  by_cases hi : i ∈ vs
  · by_cases h2 : i < σ.length
    · simp [hi, h2]
    · rw [if_neg (by omega), if_neg (by omega), List.getElem?_eq_none (by omega), List.getElem?_eq_none (by omega)]
  · simp [hi, h i hi]
theorem wipe_wipe {σ : L2.St} {vs : List Nat} : wipe (wipe σ vs) vs = wipe σ vs := by
  refine List.ext_getElem? fun i => ?_
  rw [wipe_get, wipe_get, wipe_length]
  split <;> simp
/-- a list that is not of the store is written -/
theorem ext_own {H H' : Hp} {ι ι' : List Addr} {p : Addr} {o : HO} (e : Ext H ι H' ι') (hp : H p = none) : Ext H ι (upd H' p o) ι' := by
  refine ⟨fun a u h n => ?_, e.more, e.new⟩
  rw [upd_ne (ne_of_none h hp)]
  exact e.keep a u h n
theorem sqT_own {K : PySem.W.Frag} {H : Hp} {p a : Addr} {o : HO} {xs ys : List V} (hp : H p = some (.lst xs)) (h : SqT K H a ys) : SqT K (upd H p o) a ys := by
  rcases h with (h | ⟨b, h⟩) | h
  · refine .inl (.inl ?_)
    rw [upd_ne]; exact h
    rintro rfl; rw [h] at hp; cases hp
  · refine .inl (.inr ⟨b, ?_⟩)
    rw [upd_ne]; exact h
    rintro rfl; rw [h] at hp; cases hp
  · exact .inr h
theorem sqF_own {K : PySem.W.Frag} {H : Hp} {p a : Addr} {o : HO} {xs ys : List V} (hp : H p = some (.lst xs)) (h : SqF K H a ys) : SqF K (upd H p o) a ys := by
  rcases h with ⟨b, h⟩ | h
  · refine .inl ⟨b, ?_⟩
    rw [upd_ne]; exact h
    rintro rfl; rw [h] at hp; cases hp
  · exact .inr h
theorem repL_own {G : Gx} {H : Hp} {ι : List Addr} {p : Addr} {o : HO} {xs : List V} {ds : List D} {vs : List V} (h : RepL G H ι ds vs) (hp : H p = some (.lst xs)) : RepL G (upd H p o) ι ds vs := h.mono (fun _ _ => sqT_own hp) (fun _ _ => sqF_own hp) fun _ _ z => z
theorem sto_own {G : Gx} {H : Hp} {ι : List Addr} {st : Sto} {p : Addr} {o : HO} {xs : List V} (s : StoRep G H ι st) (np : p ∉ ι) (hp : H p = some (.lst xs)) : StoRep G (upd H p o) ι st := by
  refine ⟨s.len, s.nd, fun i c a h1 h2 => ?_⟩
  have ne : a ≠ p := fun e => np (e ▸ List.mem_of_getElem? h2)
  have q := s.cell i c a h1 h2
  cases c with
  | lst ds =>
    obtain ⟨xs, h1, h2⟩ := q
    exact ⟨xs, by rw [upd_ne ne]; exact h1, repL_own h2 hp⟩
  | dct kvs =>
    rcases q with ⟨ks, vs, h1, h2, h3, h4⟩ | ⟨ks, vs, h1, h2, h3, h4⟩
    · exact .inl ⟨ks, vs, by rw [upd_ne ne]; exact h1, h2, h3, repL_own h4 hp⟩
    · exact .inr ⟨ks, vs, by rw [upd_ne ne]; exact h1, h2, h3, repL_own h4 hp⟩
/-- the reading of a comprehension from its meaning -/
theorem lc_read {si : SI} {g : SG} {vs us : List Nat} {mc : SB} {me : SE} {σ : L2.St} {H : Hp} {Q : V → Hp → Prop} (hus : ∀ i ∈ us, i ∈ vs) (h : tT G W C (lLc si g vs mc me) σ H Q) :
    tLc (tI G W C si) (tGt G g us) (tB G WF C mc) (tE G WF C me) vs σ H Q := by
  obtain ⟨env, ι, st, hR, hp⟩ := h
  -- keep the post at its base
  refine ⟨env, ι, st, hR, ?_⟩
  unfold lLc at hp
  generalize si C env st = rs at hp
  cases rs with
  | exc c x st1 => exact hp
  | stuck => exact hp
  | ok w st1 =>
    intro J H1 ι1 e1 s1 rJ Dl hDl
    dsimp only [Res.bind] at hp
    by_cases hz : w.ds.length ≤ sizeLine
    case neg => rw [if_neg hz] at hp; exact hp.elim
    rw [if_pos hz] at hp
    have hR1 := (hR.ext e1 s1)
    have hHD : H Dl = none := by
      cases q : H Dl with
      | none => rfl
      | some o =>
        by_cases hm : Dl ∈ ι
        · exact absurd hDl (fun z => s1.ne (by obtain ⟨r, rfl⟩ := e1.more; exact List.mem_append_left _ hm) z rfl)
        · rw [e1.keep Dl o q hm] at hDl; cases hDl
    -- the walk
    refine ⟨fun i m H' => ∃ acc xs ι' st', Ext H ι H' ι' ∧ Ext H1 ι1 H' ι' ∧ StoRep G H' ι' st' ∧ Dl ∉ ι' ∧ H' Dl = some (.lst xs) ∧ RepL G H' ι' acc xs ∧ xs.length ≤ i ∧ m = w.ds.length - i ∧
      post G (repT G H) (fun cls ad H' => W cls ad σ H') H ι Q (lcGo w.src g mc me C (wipeE env vs) (w.ds.drop i) acc st'),
      ⟨w.ds.length, [], [], ι1, st1, e1.trans (ext_new hDl), ext_new hDl, s1.fresh hDl, s1.notin hDl, upd_same, rfl, Nat.le_refl _, rfl, hp⟩, fun i m H2 ⟨acc, xs, ι2, st2, e2, e12, s2, nD, hD, rA, hl, em, hp2⟩ => ?_⟩
    have hR2 : R G σ H2 env ι2 st2 := hR1.ext e12 s2
    by_cases hi : i < w.ds.length
    · have ed : w.ds.drop i = w.ds[i] :: w.ds.drop (i + 1) := List.drop_eq_getElem_cons hi
      rw [ed] at hp2
      unfold lcGo at hp2
      by_cases hgd : good w.src st2 = true
      case neg => rw [if_neg hgd] at hp2; exact hp2.elim
      rw [if_pos hgd] at hp2
      obtain ⟨go, _⟩ := rJ H2 ι2 st2 e12 s2 hgd
      obtain ⟨g1, g2⟩ := go i w.ds[i] (by simp [hi])
      refine .inr ⟨g1, fun H' => ∃ acc xs ι' st', Ext H ι H' ι' ∧ Ext H1 ι1 H' ι' ∧ StoRep G H' ι' st' ∧ Dl ∉ ι' ∧ H' Dl = some (.lst xs) ∧ RepL G H' ι' acc xs ∧ xs.length ≤ i + 1 ∧
        post G (repT G H) (fun cls ad H' => W cls ad σ H') H ι Q (lcGo w.src g mc me C (wipeE env vs) (w.ds.drop (i + 1)) acc st'),
        fun H' ⟨acc', xs', ι', st', q1, q2, q3, q4, q5, q6, q7, q8⟩ => ⟨w.ds.length - (i + 1), by omega, acc', xs', ι', st', q1, q2, q3, q4, q5, q6, q7, rfl, q8⟩, fun x H3 hy => ?_⟩
      obtain ⟨e3, s3, r3⟩ := g2 x H3 hy
      have hR3 := (hR2.ext e3 s3).wipe vs
      have hD3 := e3.keep Dl _ hD nD
      have rA3 := rA.ext e3 s2.mut
      cases eg : g w.ds[i] (wipeE env vs) with
      | none => rw [eg] at hp2; exact hp2.elim
      | some env3 =>
        rw [eg] at hp2
        dsimp only at hp2
        refine ⟨w.ds[i], wipeE env vs, ι2, st2, env3, r3, hR3, eg, fun σ4 hR4 ag hl4 => ⟨(wipe_eq (fun i hi => ag i fun z => hi (hus i z)) hl4).trans wipe_wipe, ?_⟩⟩
        refine rG.nox hR4 hp2 fun t st5 t' H5 ι5 e5 hR5 rt hp5 => ?_
        cases rt
        have nD5 : Dl ∉ ι5 := fun hm => by
          by_cases hm3 : Dl ∈ ι2
          · exact nD hm3
          · rw [e5.new Dl hm hm3] at hD3; cases hD3
        have hD5 := e5.keep Dl _ hD3 nD
        cases t with
        | false => exact iteF ⟨acc, xs, ι5, st5, (e2.trans e3).trans e5, (e12.trans e3).trans e5, hR5.sto, nD5, hD5, rA3.ext e5 s3.mut, Nat.le_succ_of_le hl, hp5⟩
        | true =>
          refine iteT (rG.nox hR5 hp5 fun y st6 v H6 ι6 e6 hR6 ry hp6 => ?_)
          have nD6 : Dl ∉ ι6 := fun hm => by
            by_cases hm3 : Dl ∈ ι5
            · exact nD5 hm3
            · rw [e6.new Dl hm hm3] at hD5; cases hD5
          have hD6 := e6.keep Dl _ hD5 nD5
          have rA6 := (rA3.ext e5 s3.mut).ext e6 hR5.sto.mut
          have eW : Ext H6 ι6 (upd H6 Dl (.lst (xs ++ [v]))) ι6 → True := fun _ => trivial
          -- the new list is written: it is none of the store's
          have k1 : ∀ (H0 : Hp) (ι0 : List Addr), H0 Dl = none ∨ Dl ∉ ι0 → True := fun _ _ _ => trivial
          refine ⟨xs, hD6, by omega, acc ++ [y], xs ++ [v], ι6, st6, ?_, ?_, ?_, nD6, upd_same, ?_, by simp; omega, hp6⟩
          · exact ext_own ((e2.trans e3).trans (e5.trans e6)) hHD
          · exact ext_own ((e12.trans e3).trans (e5.trans e6)) hDl
          · exact sto_own hR6.sto nD6 hD6
          · exact repL_own (RepL.app rA6 (RepL.one ry)) hD6
    · have ed : w.ds.drop i = [] := List.drop_of_length_le (by omega)
      rw [ed] at hp2
      unfold lcGo at hp2
      split at hp2
      · rename_i hgd
        obtain ⟨_, go⟩ := rJ H2 ι2 st2 e12 s2 hgd
        refine .inl ⟨go i (by omega), hp2 (.ref Dl) H2 ι2 e2 s2 ⟨Dl, xs, rfl, hD, nD, hHD, rA⟩⟩
      · exact hp2.elim
end
end OH

set_option Elab.async false
set_option linter.all false
set_option maxRecDepth 100000
set_option maxHeartbeats 1000000
/-! OHFn: comprehensions as rules, calls, what a def leaves of the store (gc), defs. -/
namespace OH
open PySem PySem.Spec PyProof.Rows L2

section
variable {G : Gx} {X : Cx} {W : WX} {C : Call}
theorem dt_lc {elt tg iter : Expr} {ifs : List Expr} {scope : Scope} {own : List (Str × Nat)} {pos : Pos} {si : SI} {g : SG} {us : List Nat} {mc : SB} {me : SE} (hc : X.calm = true) (hN : X.N.Nodup) (hi : DI G X W C tg iter si) (ok : BlkOk X.N X.env.scope scope own)
    (hus : ∀ i ∈ us, i ∈ own.map (·.2))
    (hg : ∀ (s : Shared) (H : Hp) (B : Addr) (cl : List (Str × Addr)) (fp : List Addr), DG G (X.blk s H scope (compEnvC scope cl B X.env) fp) tg g us)
    (ht : ∀ (s : Shared) (H : Hp) (B : Addr) (cl : List (Str × Addr)) (fp : List Addr), DTs G (X.blk s H scope (compEnvC scope cl B X.env) fp) WF C ifs mc)
    (he : ∀ (s : Shared) (H : Hp) (B : Addr) (cl : List (Str × Addr)) (fp : List Addr), DE G (X.blk s H scope (compEnvC scope cl B X.env) fp) WF C elt me) (hs : ∀ x, foldedSetIterable iter X.env x = pure x := by intro _; rfl) :
    DT G X W C (.ListComp elt [⟨tg, iter, ifs, 0⟩] scope pos) (lLc si g (own.map (·.2)) mc me) :=
  pe_imp (pe_lc hc hN hi ok hg ht he hs) fun σ H Q h => lc_read hus h
theorem ds_setLc {i : Nat} {y : Str} {py : Pos} {elt tg iter : Expr} {ifs : List Expr} {scope : Scope} {own : List (Str × Nat)} {pos spos : Pos} {si : SI} {g : SG} {us : List Nat} {mc : SB} {me : SE} (hc : X.calm = true) (hN : X.N.Nodup) (hy : X.N[i]? = some y) (hyl : X.env.scope.names.lookup y = some .local)
    (hsw : swapsWith (.ListComp elt [⟨tg, iter, ifs, 0⟩] scope pos) (some (.Name y py)) spos.line X.env = pure true) (hi : DI G X W C tg iter si) (ok : BlkOk X.N X.env.scope scope own)
    (hus : ∀ i ∈ us, i ∈ own.map (·.2))
    (hg : ∀ (s : Shared) (H : Hp) (B : Addr) (cl : List (Str × Addr)) (fp : List Addr), DG G (X.blk s H scope (compEnvC scope cl B X.env) fp) tg g us)
    (ht : ∀ (s : Shared) (H : Hp) (B : Addr) (cl : List (Str × Addr)) (fp : List Addr), DTs G (X.blk s H scope (compEnvC scope cl B X.env) fp) WF C ifs mc)
    (he : ∀ (s : Shared) (H : Hp) (B : Addr) (cl : List (Str × Addr)) (fp : List Addr), DE G (X.blk s H scope (compEnvC scope cl B X.env) fp) WF C elt me) (hs : ∀ x, foldedSetIterable iter X.env x = pure x := by intro _; rfl) :
    DS G X W C (.Assign [.Name y py] (.ListComp elt [⟨tg, iter, ifs, 0⟩] scope pos) spos) (sSet i (eNew (lLc si g (own.map (·.2)) mc me))) := by
  refine ps_imp (ps_setLc hc hN hy hyl hsw hi ok hg ht he hs) fun K σ H ⟨env, ι, st, hR, hp⟩ => ?_
  refine lc_read (Q := fun x H1 => gName i x σ H1 K.nx) hus ?_
  refine ⟨env, ι, st, hR, ?_⟩
  unfold sSet eNew at hp
  generalize lLc si g (own.map (·.2)) mc me C env st = r at hp
  cases r with
  | ok ds st1 =>
    intro v H1 ι1 e s ⟨a, xs, ev, h1, h2, h3, h4⟩
    subst ev
    have hR1 := hR.ext (e.take h3) (s.push (c := .lst ds) h2 ⟨xs, h1, h4.grow _⟩)
    exact hp _ H1 (ι1 ++ [a]) (e.take h3) (hR1.set (d := .ref st1.length) (v := .ref a) ⟨a, by rw [← s.len]; simp, rfl⟩ i)
  | exc c x st1 => exact fun cls ad H1 ι1 e s r1 => hp cls ad σ H1 ι1 e (hR.ext e s) r1
  | stuck => exact hp
end

/-! ### what a def leaves of the store -/
mutual
def D.lo (n : Nat) : D → Bool
  | .ref i => decide (i < n)
  | .tup ds => D.loL n ds
  | .scr ds => D.loL n ds
  | _ => true
def D.loL (n : Nat) : List D → Bool
  | [] => true
  | d :: ds => D.lo n d && D.loL n ds
end
def Cell.lo (n : Nat) : Cell → Bool
  | .lst ds => D.loL n ds
  | .dct kvs => D.loL n (kvs.map (·.2)) && D.loL n (kvs.map (·.1))
mutual
theorem Rep.below {G : Gx} {H : Hp} {ι : List Addr} : ∀ {d : D} {v : V}, Rep G H ι d v → D.lo ι.length d = true
  | .non, _, _ => rfl
  | .bl _, _, _ => rfl
  | .int _, _, _ => rfl
  | .str _, _, _ => rfl
  | .fn _, _, _ => rfl
  | .ref i, _, ⟨a, h, _⟩ => by simp only [D.lo, decide_eq_true_eq]; exact (List.getElem?_eq_some_iff.mp h).1
  | .tup ds, _, ⟨_, _, _, _, h⟩ => by simp only [D.lo]; exact RepL.below h
  | .scr ds, _, ⟨_, _, _, _, h⟩ => by simp only [D.lo]; exact RepL.below h
theorem RepL.below {G : Gx} {H : Hp} {ι : List Addr} : ∀ {ds : List D} {vs : List V}, RepL G H ι ds vs → D.loL ι.length ds = true
  | [], _, _ => rfl
  | d :: ds, _, ⟨v, r, _, h1, h2⟩ => by simp [D.loL, Rep.below h1, RepL.below h2]
end
mutual
theorem Rep.cut {G : Gx} {H : Hp} {ι r : List Addr} : ∀ {d : D} {v : V}, D.lo ι.length d = true → Rep G H (ι ++ r) d v → Rep G H ι d v
  | .non, _, _, h => h
  | .bl _, _, _, h => h
  | .int _, _, _, h => h
  | .str _, _, _, h => h
  | .fn _, _, _, h => h
  | .ref i, _, b, ⟨a, h, e⟩ => by
    simp only [D.lo, decide_eq_true_eq] at b
    rw [List.getElem?_append_left b] at h
    exact ⟨a, h, e⟩
  | .tup ds, _, b, ⟨a, xs, e, q, h⟩ => ⟨a, xs, e, q, RepL.cut (by simpa only [D.lo] using b) h⟩
  | .scr ds, _, b, ⟨a, xs, e, q, h⟩ => ⟨a, xs, e, q, RepL.cut (by simpa only [D.lo] using b) h⟩
theorem RepL.cut {G : Gx} {H : Hp} {ι r : List Addr} : ∀ {ds : List D} {vs : List V}, D.loL ι.length ds = true → RepL G H (ι ++ r) ds vs → RepL G H ι ds vs
  | [], _, _, h => h
  | d :: ds, _, b, ⟨v, x, e, h1, h2⟩ => by
    simp only [D.loL, Bool.and_eq_true] at b
    exact ⟨v, x, e, Rep.cut b.1 h1, RepL.cut b.2 h2⟩
end
theorem keysK_below (n : Nat) : ∀ ks : List Key, D.loL n (ks.map keyD) = true
  | [] => rfl
  | .inl _ :: ks => by simp [D.loL, keyD, D.lo, keysK_below n ks]
  | .inr _ :: ks => by simp [D.loL, keyD, D.lo, keysK_below n ks]
theorem keysT_below (n : Nat) : ∀ ks : List (List Key), D.loL n (ks.map fun k => D.tup (k.map keyD)) = true
  | [] => rfl
  | k :: ks => by
    simp only [List.map_cons, D.loL, D.lo, keysK_below, Bool.true_and]
    exact keysT_below n ks
theorem CellRep.below {G : Gx} {H : Hp} {ι : List Addr} {c : Cell} {a : Addr} (h : CellRep G H ι c a) : c.lo ι.length = true := by
  cases c with
  | lst ds => obtain ⟨xs, _, h⟩ := h; exact h.below
  | dct kvs =>
    rcases h with ⟨ks, vs, h1, h2, h3, h4⟩ | ⟨ks, vs, h1, h2, h3, h4⟩
    · simp only [Cell.lo, h3, keysK_below, h4.below]; rfl
    · simp only [Cell.lo, h3, keysT_below, h4.below]; rfl
theorem CellRep.cut {G : Gx} {H : Hp} {ι r : List Addr} {c : Cell} {a : Addr} (b : c.lo ι.length = true) (h : CellRep G H (ι ++ r) c a) : CellRep G H ι c a := by
  cases c with
  | lst ds => obtain ⟨xs, h1, h⟩ := h; exact ⟨xs, h1, h.cut b⟩
  | dct kvs =>
    simp only [Cell.lo, Bool.and_eq_true] at b
    rcases h with ⟨ks, vs, h1, h2, h3, h4⟩ | ⟨ks, vs, h1, h2, h3, h4⟩
    · exact .inl ⟨ks, vs, h1, h2, h3, h4.cut b.1⟩
    · exact .inr ⟨ks, vs, h1, h2, h3, h4.cut b.1⟩
def OldOk (st st' : Sto) : Prop := ∀ (i : Nat) (c : Cell), i < st.length → st'[i]? = some c → st[i]? = some c ∨ c.lo st.length = true
open Classical in
/-- the answer of a def: what is not asked for any more goes; one new list stands next to the old ones -/
noncomputable def gc (st : Sto) (d : D) (st' : Sto) : Res D :=
  if OldOk st st' then
    if d.lo st.length then .ok d (st'.take st.length)
    else match d with
      | .ref k => match st'[k]? with
        | some c => if c.lo st.length then .ok (.ref st.length) (st'.take st.length ++ [c]) else .ok d st'
        | none => .ok d st'
      | _ => .ok d st'
  else .ok d st'
open Classical in
noncomputable def gcX (st : Sto) (c : Nat) (x : D) (st' : Sto) : Res D := if OldOk st st' ∧ x.lo st.length then .exc c x (st'.take st.length) else .exc c x st'

section
variable {G : Gx} {H H' : Hp} {ι ι' : List Addr} {st st' : Sto}
theorem Ext.take_len (e : Ext H ι H' ι') : Ext H ι H' ι := ⟨e.keep, ⟨[], by simp⟩, fun _ h n => absurd h n⟩
theorem sto_cut (s : StoRep G H ι st) (e : Ext H ι H' ι') (s' : StoRep G H' ι' st') (o : OldOk st st') : StoRep G H' ι (st'.take st.length) := by
  obtain ⟨r, rfl⟩ := e.more
  have hl : st.length ≤ st'.length := by
    have := s'.len
    rw [List.length_append, s.len] at this
    omega
  refine ⟨by rw [List.length_take, s.len]; omega, s.nd, fun i c a h1 h2 => ?_⟩
  have hi : i < ι.length := (List.getElem?_eq_some_iff.mp h2).1
  have hi' : i < st.length := by rw [← s.len]; exact hi
  rw [List.getElem?_take_of_lt hi'] at h1
  have q := s'.cell i c a h1 (by rw [List.getElem?_append_left hi]; exact h2)
  rcases o i c hi' h1 with z | z
  · exact q.cut (s.cell i c a z h2).below
  · exact q.cut (by rw [s.len]; exact z)
theorem gc_sound {W : Value → Option Addr → Hp → Prop} {Q : V → Hp → Prop} {d : D} (s : StoRep G H ι st) (h : post G (Rep G) W H ι Q (gc st d st')) {v : V} (e : Ext H ι H' ι') (s' : StoRep G H' ι' st') (r : Rep G H' ι' d v) : Q v H' := by
  unfold gc at h
  split at h
  · rename_i o
    split at h
    · rename_i b
      obtain ⟨r', rfl⟩ := e.more
      exact h v H' ι e.take_len (sto_cut s e s' o) (r.cut (by rw [s.len]; exact b))
    · rename_i nb
      cases d with
      | ref k =>
        cases hk : st'[k]? with
        | none => simp only [hk] at h; exact h v H' ι' e s' r
        | some c =>
          simp only [hk] at h
          split at h
          · rename_i b
            obtain ⟨a, ha, rfl⟩ := r
            obtain ⟨r', rfl⟩ := e.more
            have hk2 : ¬ k < st.length := by simpa [D.lo] using nb
            have na : a ∉ ι := fun hm => by
              obtain ⟨j, hj, ej⟩ := List.mem_iff_getElem.mp hm
              have h2 : (ι ++ r')[j]? = some a := by rw [List.getElem?_append_left hj]; simp [hj, ej]
              have := (List.getElem?_inj (List.getElem?_eq_some_iff.mp h2).1 s'.nd).mp (h2.trans ha.symm)
              rw [s.len] at hj
              omega
            have sc := sto_cut s e s' o
            have hb : CellRep G H' ι c a := (s'.cell k c a hk ha).cut (by rw [s.len]; exact b)
            refine h (.ref a) H' (ι ++ [a]) ⟨e.keep, ⟨[a], rfl⟩, fun x hx nx => ?_⟩ (sc.push na (hb.grow _)) ⟨a, by rw [← s.len]; simp, rfl⟩
            rcases List.mem_append.mp hx with hx | hx
            · exact absurd hx nx
            · rw [List.mem_singleton.mp hx]
              exact e.new a (List.mem_of_getElem? ha) na
          · exact h _ H' ι' e s' r
      | _ => exact h v H' ι' e s' r
  · exact h v H' ι' e s' r
theorem gcX_sound {W : Value → Option Addr → Hp → Prop} {Q : V → Hp → Prop} {c : Nat} {x : D} (s : StoRep G H ι st) (h : post G (Rep G) W H ι Q (gcX st c x st')) {cls : Value} {ad : Option Addr} (e : Ext H ι H' ι') (s' : StoRep G H' ι' st') (r : ExcRep G c x H' ι' cls ad) : W cls ad H' := by
  unfold gcX at h
  split at h
  · rename_i o
    obtain ⟨r', rfl⟩ := e.more
    refine h cls ad H' ι e.take_len (sto_cut s e s' o.1) ⟨r.1, ?_⟩
    have q := r.2
    cases x with
    | non => exact q
    | _ =>
      obtain ⟨d, v, h1, h2, h3⟩ := q
      exact ⟨d, v, h1, h2, h3.cut (by rw [s.len]; exact o.2)⟩
  · exact h cls ad H' ι' e s' r
end
/-- what is easily said of it -/
theorem oldOk_app (st g : Sto) : OldOk st (st ++ g) := fun i c hi h => .inl (by rw [List.getElem?_append_left hi] at h; exact h)
theorem oldOk_set {st g : Sto} {i : Nat} {c : Cell} (h : c.lo st.length = true) : OldOk st (st.set i c ++ g) := fun j c' hj h' => by
  rw [List.getElem?_append_left (by simpa using hj)] at h'
  by_cases e : i = j
  · subst e
    rw [List.getElem?_set_self hj] at h'
    cases h'
    exact .inr h
  · rw [List.getElem?_set_ne e] at h'
    exact .inl h'
theorem gc_app {st g : Sto} {d : D} (h : d.lo st.length = true) : gc st d (st ++ g) = .ok d st := by
  unfold gc
  rw [if_pos (oldOk_app st g), if_pos h]
  simp
theorem gc_self {st : Sto} {d : D} : gc st d st = .ok d st := by
  have o : OldOk st st := fun i c _ h => .inl h
  unfold gc
  rw [if_pos o]
  split
  · simp
  · rename_i h
    cases d with
    | ref k =>
      have : ¬ k < st.length := by simpa [D.lo] using h
      simp [List.getElem?_eq_none (show st.length ≤ k by omega)]
    | _ => rfl
theorem gc_new {st g : Sto} {k : Nat} {c : Cell} (hk : st.length ≤ k) (h : (st ++ g)[k]? = some c) (b : c.lo st.length = true) : gc st (.ref k) (st ++ g) = .ok (.ref st.length) (st ++ [c]) := by
  unfold gc
  rw [if_pos (oldOk_app st g), if_neg (by simp [D.lo]; omega)]
  simp only [h, b, if_true]
  simp
theorem gc_set {st g : Sto} {i : Nat} {c : Cell} {d : D} (hc : c.lo st.length = true) (h : d.lo st.length = true) : gc st d (st.set i c ++ g) = .ok d (st.set i c) := by
  unfold gc
  rw [if_pos (oldOk_set hc), if_pos h]
  have : st.length = (st.set i c).length := by simp
  rw [this, List.take_left]

/-! ### defs -/
structure FD where
  np : Nat
  nl : Nat
  body : SS
noncomputable def endF (st : Sto) : RS → Res D
  | .ret d st' => gc st d st'
  | .nx _ st' => gc st .non st'
  | .exc c x _ st' => gcX st c x st'
  | _ => .stuck
noncomputable def runFn (φ : FD) (C : Call) (ds : List D) (st : Sto) : Res D :=
  if ds.length = φ.np then endF st (φ.body C (ds.map some ++ List.replicate (φ.nl - φ.np) none) st) else .stuck
noncomputable def callN (Tbl : Nat → FD) : Nat → Call
  | 0 => fun _ _ _ => .stuck
  | k + 1 => fun f ds st => runFn (Tbl f) (callN Tbl k) ds st
/-- a def's promise: its meaning -/
def spC (G : Gx) (C : Call) (f : Nat) : Sp := fun vs H Q E => ∃ ds ι st, RepL G H ι ds vs ∧ StoRep G H ι st ∧ post G (Rep G) E H ι Q (C f ds st)
structure FnAt (P : Program) (w : World) (G : Gx) (mg : Str → Option Value) (base : Heap) (C : Call) (k : Nat) (f : Nat) (x : Str) : Prop where
  g : mg x = some (.ref (G.fa f))
  kp : PySem.W.keepIn G.K (.ref (G.fa f)) = true
  ok : ∃ fd ps, FnOk P w G.K mg base (L2.CX P w) k (G.fa f) fd ps (spC G C f) ∧ Binds G.K fd ps []
theorem de_call {G : Gx} {X : Cx} {W : WX} {C : Call} {k f : Nat} {x : Str} {e : Expr} {es : List Expr} {l : SL} {p pos : Pos} (hF : FnAt X.prog X.w G X.mg X.base C k f x) (hK : X.K = G.K) (hr : Room k X.A) (tk : Takes X W) (hg : Gl X x) (ha : DA G X W C (e :: es) l)
    (hdb : (x == ("__debug__" : Str)) = false := by decide) (he : starEach (e :: es) X.env = (false, eval e X.env) :: starEach es X.env := by rfl) (hpl : (backTo pos (starEach es X.env)).any (·.1) = false := by rfl) :
    DE G X W C (.Call (.Name x p) (e :: es) [] pos) (eCall f l) := by
  obtain ⟨hm, hk, fd, ps, hok, hb⟩ := hF
  rw [← hK] at hk hok hb
  exact pe_imp (pe_callS hok hr hg hm hk hb (fun σ => passAt tk σ) ha hdb he hpl) fun σ H Q ⟨env, ι, st, hR, hp⟩ => sqA hR hp fun ds st1 vs H1 ι1 e1 hR1 r1 hp1 => ⟨ds, ι1, st1, r1, hR1.sto, hp1⟩
theorem R.start {G : Gx} {H : Hp} {ι : List Addr} {st : Sto} {ds : List D} {vs : List V} {N : List Str} (r : RepL G H ι ds vs) (s : StoRep G H ι st) : R G (L2.start N vs) H (ds.map some ++ List.replicate (N.length - ds.length) none) ι st := by
  have hl := r.length
  refine ⟨?_, fun i d h => ?_, s⟩
  · unfold L2.start
    simp [hl]
  · by_cases hi : i < ds.length
    · rw [List.getElem?_append_left (by simpa using hi), List.getElem?_map] at h
      cases e : ds[i]? with
      | none => rw [e] at h; cases h
      | some d' =>
        rw [e] at h
        cases h
        obtain ⟨v, h1, h2⟩ := r.get e
        refine ⟨v, ?_, h2⟩
        unfold L2.start
        rw [List.getElem?_append_left (by simpa [hl] using hi), List.getElem?_map, h1]
        rfl
    · rw [List.getElem?_append_right (by simpa using hi), List.getElem?_replicate] at h
      split at h <;> cases h
/-- THE RULE for a def -/
theorem fn_ok {P : Program} {w : World} {G : Gx} {mg : Str → Option Value} {base : Heap} {C C' : Call} {x qual : Str} {st : Stmt} {f : Nat} {fd : FuncData} {N ps : List Str} {k : Nat} (φ : FD) (F : Fun G.K x qual st (G.fa f) fd) (S : FnScope N ps (defScope st)) (hp : ps.length = φ.np) (hl : N.length = φ.nl)
    (hC : ∀ ds st, C' f ds st = runFn φ C ds st)
    (hbody : ∀ (cdv : Value) (A : Around) (outer : List PySem.Env) (s : Shared) (H : Hp) (E : XK), Room k (A.deeper (envOfC qual (defScope st) s.heap.objs.size (G.fa f) cdv)) →
      Takes (cxOf (L2.CX P w) P w G.K mg base N qual (defScope st) (G.fa f) cdv A outer s H E) (fun cls d _ H => E cls d H) →
      PassesOwn (model P w) (A.deeper (envOfC qual (defScope st) s.heap.objs.size (G.fa f) cdv)) (cxOf (L2.CX P w) P w G.K mg base N qual (defScope st) (G.fa f) cdv A outer s H E).env (cxOf (L2.CX P w) P w G.K mg base N qual (defScope st) (G.fa f) cdv A outer s H E).xe →
      DSs G (cxOf (L2.CX P w) P w G.K mg base N qual (defScope st) (G.fa f) cdv A outer s H E) (fun cls d _ H => E cls d H) C (defBody st) φ.body) :
    FnOk P w G.K mg base (L2.CX P w) (k + 1) (G.fa f) fd ps (spC G C' f) := by
  refine F.okX S (fun vs H Q E ⟨ds, ι, sto, r, s, h⟩ => ?_) (fun cdv A outer s H vs Q E hr ⟨ds, ι, sto, r, hs, h⟩ => ?_)
  · rw [hC] at h
    unfold runFn at h
    split at h
    · rename_i e
      rw [r.length, e, hp]
    · exact h.elim
  · have tk : Takes (cxOf (L2.CX P w) P w G.K mg base N qual (defScope st) (G.fa f) cdv A outer s H E) (fun cls d _ H => E cls d H) := takes_of rfl rfl rfl rfl
    refine ⟨_, hbody cdv A outer s H E hr tk (passes_of (X := cxOf (L2.CX P w) P w G.K mg base N qual (defScope st) (G.fa f) cdv A outer s H E) rfl), ?_⟩
    rw [hC] at h
    unfold runFn at h
    by_cases hn : ds.length = φ.np
    case neg => rw [if_neg hn] at h; exact h.elim
    rw [if_pos hn] at h
    refine ⟨_, ι, sto, R.start (N := N) r hs, ?_⟩
    rw [hl, hn]
    generalize φ.body C (List.map some ds ++ List.replicate (φ.nl - φ.np) none) sto = res at h ⊢
    cases res with
    | ret d st' => exact fun v H' ι' e s' r' => gc_sound hs h e s' r'
    | nx env st' => exact fun σ' H' ι' e r' => gc_sound hs h (v := .non) e r'.sto rfl
    | exc c x env st' => exact fun cls ad σ' H' ι' e r' q => gcX_sound hs h e r'.sto q
    | brk env st' => exact h.elim
    | cnt env st' => exact h.elim
    | stuck => exact h.elim
end OH

set_option Elab.async false
set_option linter.all false
set_option maxRecDepth 100000
set_option maxHeartbeats 1000000
/-! OHOps: the operators, comparisons and built-ins, as functions of data. -/
namespace OH
open PySem PySem.Spec PyProof.Rows L2

/-! ### arithmetic -/
def newL (xs : List D) (st : Sto) : Res D := .ok (.ref st.length) (st ++ [.lst xs])
def addR : Sto → D → D → Res D := fun st x y => match x, y with
  | .int i, .int j => .ok (.int (i + j)) st
  | .str a, .str b => if a.length + b.length ≤ sizeLine then .ok (.str (a ++ b)) st else .stuck
  | .tup a, .tup b => if a.length + b.length ≤ sizeLine then .ok (.tup (a ++ b)) st else .stuck
  | .ref i, .ref j => match lstAt st i, lstAt st j with
    | some a, some b => if a.length + b.length ≤ sizeLine then newL (a ++ b) st else .stuck
    | _, _ => .stuck
  | _, _ => .stuck
def subR : Sto → D → D → Res D := fun st x y => match x, y with
  | .int i, .int j => .ok (.int (i - j)) st
  | _, _ => .stuck
noncomputable def mulOk (i j : Int) : Bool := tsd ((-(2 ^ 64) < i ∧ i < 2 ^ 64) ∨ (-(2 ^ 64) < j ∧ j < 2 ^ 64))
noncomputable def divOk (j : Int) : Bool := tsd (0 < j ∧ j < 1073741824)
noncomputable def powOk (i j : Int) : Bool := tsd (0 ≤ j ∧ j ≤ 1000000 ∧ i.natAbs < 2 ^ 64)
noncomputable def repOk (k : Int) (n : Nat) : Bool := tsd (-(2 ^ 63) ≤ k ∧ k < 2 ^ 63 ∧ n * k.toNat ≤ sizeLine)
theorem repOk_iff {k : Int} {n : Nat} (h : repOk k n = true) : -(2 ^ 63) ≤ k ∧ k < 2 ^ 63 ∧ n * k.toNat ≤ sizeLine := tsd_of h
theorem mulOk_iff {i j : Int} (h : mulOk i j = true) : (-(2 ^ 64) < i ∧ i < 2 ^ 64) ∨ (-(2 ^ 64) < j ∧ j < 2 ^ 64) := tsd_of h
theorem divOk_iff {j : Int} (h : divOk j = true) : 0 < j ∧ j < 1073741824 := tsd_of h
theorem powOk_iff {i j : Int} (h : powOk i j = true) : 0 ≤ j ∧ j ≤ 1000000 ∧ i.natAbs < 2 ^ 64 := tsd_of h
noncomputable def mulR : Sto → D → D → Res D := fun st x y => match x, y with
  | .int i, .int j => if mulOk i j then .ok (.int (i * j)) st else .stuck
  | .ref i, .int k => match lstAt st i with
    | some xs => if repOk k xs.length then newL (List.replicate k.toNat xs).flatten st else .stuck
    | none => .stuck
  | _, _ => .stuck
noncomputable def divR : Sto → D → D → Res D := fun st x y => match x, y with
  | .int i, .int j => if divOk j then .ok (.int (i / j)) st else .stuck
  | _, _ => .stuck
def modR : Sto → D → D → Res D := fun st x y => match x, y with
  | .int i, .int j => if 0 < j then .ok (.int (i % j)) st else .stuck
  | _, _ => .stuck
noncomputable def powR : Sto → D → D → Res D := fun st x y => match x, y with
  | .int i, .int j => if powOk i j then .ok (.int (i ^ j.toNat)) st else .stuck
  | _, _ => .stuck
def xorR : Sto → D → D → Res D := fun st x y => match x, y with
  | .int i, .int j => .ok (.int (Builtin.bitXor i j)) st
  | _, _ => .stuck
def negR : Sto → D → Res D := fun st x => match x with
  | .int i => .ok (.int (-i)) st
  | _ => .stuck

section
variable {G : Gx} {X : Cx} {W : WX} {C : Call}
/-- a new tracked object that goes into the store -/
theorem new_take {H : Hp} {ι : List Addr} {st : Sto} {p : Addr} {xs : List V} {ds : List D} (s : StoRep G H ι st) (hp : H p = none) (r : RepL G H ι ds xs) :
    Ext H ι (upd H p (.lst xs)) (ι ++ [p]) ∧ StoRep G (upd H p (.lst xs)) (ι ++ [p]) (st ++ [.lst ds]) ∧ Rep G (upd H p (.lst xs)) (ι ++ [p]) (.ref st.length) (.ref p) :=
  ⟨ext_take hp, (s.fresh hp).push (s.notin hp) ⟨xs, upd_same, (r.ext (ext_new hp) s.mut).grow _⟩, p, by rw [← s.len]; simp, rfl⟩
theorem br_add (K : PySem.W.Frag) (hK : K = G.K) : Br2 G (fun x y H Q => (rI0 fun i j => .int (i + j)) x y H Q ∨ (∃ i j, x = .str i ∧ y = .str j ∧ i.length + j.length ≤ sizeLine ∧ Q (.str (i ++ j)) H) ∨ rCatA K x y H Q ∨ rCat x y H Q) addR := by
  subst hK
  intro W H ι st x y v u Q s rx ry h
  unfold addR at h
  split at h
  · cases rx; cases ry
    exact .inl ⟨_, _, rfl, rfl, h.here s (v := .int _) rfl⟩
  · cases rx; cases ry
    split at h
    · rename_i hz
      exact .inr (.inl ⟨_, _, rfl, rfl, hz, h.here s (v := .str _) rfl⟩)
    · exact h.elim
  · rename_i a b
    obtain ⟨pa, xs, rfl, qa, ra⟩ := rx
    obtain ⟨pb, ys, rfl, qb, rb⟩ := ry
    split at h
    · rename_i hz
      refine .inr (.inr (.inl ⟨pa, pb, xs, ys, rfl, rfl, qa, qb, by rw [ra.length, rb.length]; exact hz, fun e => ?_, fun _ e => ?_, fun _ _ p hp => ?_⟩))
      · subst e
        have : a = [] := by have := ra.length; simpa using this.symm
        subst this
        exact h.here s ⟨pb, ys, rfl, qb, rb⟩
      · subst e
        have : b = [] := by have := rb.length; simpa using this.symm
        subst this
        exact h.here s ⟨pa, xs, rfl, qa, by simpa using ra⟩
      · exact h _ _ ι (ext_new hp) (s.fresh hp) ⟨p, _, rfl, SqT.of upd_same, (ra.app rb).ext (ext_new hp) s.mut⟩
    · exact h.elim
  · rename_i i j
    split at h
    · rename_i a b ha hb
      obtain ⟨pa, xs, e1, q1, r1⟩ := s.lst ha
      obtain ⟨pb, ys, e2, q2, r2⟩ := s.lst hb
      obtain ⟨_, e1', rfl⟩ := rx
      obtain ⟨_, e2', rfl⟩ := ry
      rw [e1] at e1'; cases e1'
      rw [e2] at e2'; cases e2'
      split at h
      · rename_i hz
        refine .inr (.inr (.inr ⟨pa, pb, xs, ys, rfl, rfl, q1, q2, by rw [r1.length, r2.length]; exact hz, fun p hp => ?_⟩))
        obtain ⟨n1, n2, n3⟩ := new_take s hp (r1.app r2)
        exact h _ _ _ n1 n2 n3
      · exact h.elim
    · exact h.elim
  · exact h.elim
theorem op_addD : OpR X (binaryOp .Add) (fun x y H Q => (rI0 fun i j => .int (i + j)) x y H Q ∨ (∃ i j, x = .str i ∧ y = .str j ∧ i.length + j.length ≤ sizeLine ∧ Q (.str (i ++ j)) H) ∨ rCatA X.K x y H Q ∨ rCat x y H Q) := op_add.or (op_add_str.or (op_catA.or op_cat))
theorem de_add (hK : X.K = G.K) {a b : Expr} {ma mb : SE} {pos : Pos} (ha : DE G X W C a ma) (hb : DE G X W C b mb) : DE G X W C (.BinOp a .Add b pos) (eB2 addR ma mb) := de_op op_addD (br_add X.K hK) ha hb
theorem br_sub : Br2 G (rI0 fun i j => .int (i - j)) subR := by
  intro W H ι st x y v u Q s rx ry h
  unfold subR at h
  split at h
  · cases rx; cases ry
    exact ⟨_, _, rfl, rfl, h.here s (v := .int _) rfl⟩
  · exact h.elim
theorem de_sub {a b : Expr} {ma mb : SE} {pos : Pos} (ha : DE G X W C a ma) (hb : DE G X W C b mb) : DE G X W C (.BinOp a .Sub b pos) (eB2 subR ma mb) := de_op op_sub br_sub ha hb
theorem br_mul : Br2 G (fun x y H Q => (rI CMul fun i j => .int (i * j)) x y H Q ∨ rRep x y H Q) mulR := by
  intro W H ι st x y v u Q s rx ry h
  unfold mulR at h
  split at h
  · cases rx; cases ry
    split at h
    · rename_i hz
      refine .inl ⟨_, _, rfl, rfl, ?_, h.here s (v := .int _) rfl⟩
      exact mulOk_iff hz
    · exact h.elim
  · split at h
    · rename_i i k _ xs ha
      obtain ⟨pa, ys, e1, q1, r1⟩ := s.lst ha
      obtain ⟨_, e1', rfl⟩ := rx
      rw [e1] at e1'; cases e1'
      cases ry
      split at h
      · rename_i hz
        have hz := repOk_iff hz
        refine .inr ⟨pa, k, ys, rfl, rfl, q1, hz.1, hz.2.1, by rw [r1.length]; exact hz.2.2, fun p hp => ?_⟩
        have rr : RepL G H ι (List.replicate k.toNat xs).flatten (List.replicate k.toNat ys).flatten := by
          generalize k.toNat = n
          induction n with
          | zero => exact rfl
          | succ n ih => simp only [List.replicate_succ, List.flatten_cons]; exact r1.app ih
        obtain ⟨n1, n2, n3⟩ := new_take s hp rr
        exact h _ _ _ n1 n2 n3
      · exact h.elim
    · exact h.elim
  · exact h.elim
theorem de_mul {a b : Expr} {ma mb : SE} {pos : Pos} (ha : DE G X W C a ma) (hb : DE G X W C b mb) : DE G X W C (.BinOp a .Mult b pos) (eB2 mulR ma mb) := de_op (op_mul.or op_rep) br_mul ha hb
theorem br_div : Br2 G (rI CDiv fun i j => .int (i / j)) divR := by
  intro W H ι st x y v u Q s rx ry h
  unfold divR at h
  split at h
  · cases rx; cases ry
    split at h
    · rename_i hz
      exact ⟨_, _, rfl, rfl, divOk_iff hz, h.here s (v := .int _) rfl⟩
    · exact h.elim
  · exact h.elim
theorem de_div {a b : Expr} {ma mb : SE} {pos : Pos} (ha : DE G X W C a ma) (hb : DE G X W C b mb) : DE G X W C (.BinOp a .FloorDiv b pos) (eB2 divR ma mb) := de_op op_fdiv br_div ha hb
theorem br_mod : Br2 G (rI (fun _ j => 0 < j) fun i j => .int (i % j)) modR := by
  intro W H ι st x y v u Q s rx ry h
  unfold modR at h
  split at h
  · cases rx; cases ry
    split at h
    · rename_i hz
      exact ⟨_, _, rfl, rfl, hz, h.here s (v := .int _) rfl⟩
    · exact h.elim
  · exact h.elim
theorem de_mod {a b : Expr} {ma mb : SE} {pos : Pos} (ha : DE G X W C a ma) (hb : DE G X W C b mb) : DE G X W C (.BinOp a .Mod b pos) (eB2 modR ma mb) := de_op op_mod br_mod ha hb
theorem br_pow : Br2 G (rI CPow fun i j => .int (i ^ j.toNat)) powR := by
  intro W H ι st x y v u Q s rx ry h
  unfold powR at h
  split at h
  · cases rx; cases ry
    split at h
    · rename_i hz
      exact ⟨_, _, rfl, rfl, powOk_iff hz, h.here s (v := .int _) rfl⟩
    · exact h.elim
  · exact h.elim
theorem de_pow {a b : Expr} {ma mb : SE} {pos : Pos} (ha : DE G X W C a ma) (hb : DE G X W C b mb) : DE G X W C (.BinOp a .Pow b pos) (eB2 powR ma mb) := de_op op_pow br_pow ha hb
theorem br_xor : Br2 G (rI0 fun i j => .int (Builtin.bitXor i j)) xorR := by
  intro W H ι st x y v u Q s rx ry h
  unfold xorR at h
  split at h
  · cases rx; cases ry
    exact ⟨_, _, rfl, rfl, h.here s (v := .int _) rfl⟩
  · exact h.elim
theorem de_xor {a b : Expr} {ma mb : SE} {pos : Pos} (ha : DE G X W C a ma) (hb : DE G X W C b mb) : DE G X W C (.BinOp a .BitXor b pos) (eB2 xorR ma mb) := de_op op_xor br_xor ha hb
theorem br_neg : Br1 G (rU fun i => .int (-i)) negR := by
  intro W H ι st x v Q s rx h
  unfold negR at h
  split at h
  · cases rx
    exact ⟨_, rfl, h.here s (v := .int _) rfl⟩
  · exact h.elim
theorem de_neg {a : Expr} {ma : SE} {pos : Pos} (ha : DE G X W C a ma) : DE G X W C (.UnaryOp .USub a pos) (eU1 negR ma) := de_un un_neg br_neg ha
def iaddR : Sto → D → D → Res D := fun st x y => match x, y with
  | .int i, .int j => .ok (.int (i + j)) st
  | _, _ => .stuck
theorem br_ipadd : Br2 G (ipI fun i j => i + j) iaddR := by
  intro W H ι st x y v u Q s rx ry h
  unfold iaddR at h
  split at h
  · cases rx; cases ry
    exact ⟨_, _, rfl, rfl, h.here s (v := .int _) rfl⟩
  · exact h.elim
theorem br_ipsub : Br2 G (ipI fun i j => i - j) subR := by
  intro W H ι st x y v u Q s rx ry h
  unfold subR at h
  split at h
  · cases rx; cases ry
    exact ⟨_, _, rfl, rfl, h.here s (v := .int _) rfl⟩
  · exact h.elim
end

/-! ### order -/
def ltI : Sto → D → D → Option Bool := fun _ x y => match x, y with | .int i, .int j => some (decide (i < j)) | _, _ => none
def leI : Sto → D → D → Option Bool := fun _ x y => match x, y with | .int i, .int j => some (decide (i ≤ j)) | _, _ => none
def gtI : Sto → D → D → Option Bool := fun _ x y => match x, y with | .int i, .int j => some (decide (j < i)) | _, _ => none
def geI : Sto → D → D → Option Bool := fun _ x y => match x, y with | .int i, .int j => some (decide (j ≤ i)) | _, _ => none
section
variable {G : Gx} {X : Cx} {W : WX} {C : Call}
theorem br_cI {g : Int → Int → Bool} {f : Sto → D → D → Option Bool} (hf : ∀ st x y k, f st x y = some k → ∃ i j, x = .int i ∧ y = .int j ∧ k = g i j) : Br2 G (rI0 fun i j => .bl (g i j)) (cB f) := by
  intro W H ι st x y v u Q s rx ry h
  unfold cB at h
  obtain ⟨d, e, h⟩ := h.opt
  obtain ⟨k, e1, rfl⟩ := Option.map_eq_some_iff.mp e
  obtain ⟨i, j, rfl, rfl, rfl⟩ := hf st x y k e1
  cases rx; cases ry
  exact ⟨i, j, rfl, rfl, h.here s (v := .bl _) rfl⟩
theorem cI_of {g : Int → Int → Bool} {f : Sto → D → D → Option Bool} (h : f = fun _ x y => match x, y with | .int i, .int j => some (g i j) | _, _ => none) : ∀ st x y k, f st x y = some k → ∃ i j, x = .int i ∧ y = .int j ∧ k = g i j := by
  intro st x y k e
  subst h
  dsimp only at e
  split at e
  · cases e; exact ⟨_, _, rfl, rfl, rfl⟩
  · cases e
theorem db_ltI {a b : Expr} {ma mb : SE} {pos : Pos} (ha : DE G X W C a ma) (hb : DE G X W C b mb) : DB G X W C (.Compare a [.Lt] [b] pos) (bCmp ltI ma mb) := db_cmp op_lt (br_cI (cI_of rfl)) ha hb (nomark _)
theorem db_leI {a b : Expr} {ma mb : SE} {pos : Pos} (ha : DE G X W C a ma) (hb : DE G X W C b mb) : DB G X W C (.Compare a [.LtE] [b] pos) (bCmp leI ma mb) := db_cmp op_le (br_cI (cI_of rfl)) ha hb (nomark _)
theorem db_gtI {a b : Expr} {ma mb : SE} {pos : Pos} (ha : DE G X W C a ma) (hb : DE G X W C b mb) : DB G X W C (.Compare a [.Gt] [b] pos) (bCmp gtI ma mb) := db_cmp op_gt (br_cI (cI_of rfl)) ha hb (nomark _)
theorem db_geI {a b : Expr} {ma mb : SE} {pos : Pos} (ha : DE G X W C a ma) (hb : DE G X W C b mb) : DB G X W C (.Compare a [.GtE] [b] pos) (bCmp geI ma mb) := db_cmp op_ge (br_cI (cI_of rfl)) ha hb (nomark _)
theorem de_ltI {a b : Expr} {ma mb : SE} {pos : Pos} (ha : DE G X W C a ma) (hb : DE G X W C b mb) : DE G X W C (.Compare a [.Lt] [b] pos) (eB2 (cB ltI) ma mb) := de_cmp op_lt (br_cI (cI_of rfl)) ha hb (nomark _)
theorem de_leI {a b : Expr} {ma mb : SE} {pos : Pos} (ha : DE G X W C a ma) (hb : DE G X W C b mb) : DE G X W C (.Compare a [.LtE] [b] pos) (eB2 (cB leI) ma mb) := de_cmp op_le (br_cI (cI_of rfl)) ha hb (nomark _)
theorem de_gtI {a b : Expr} {ma mb : SE} {pos : Pos} (ha : DE G X W C a ma) (hb : DE G X W C b mb) : DE G X W C (.Compare a [.Gt] [b] pos) (eB2 (cB gtI) ma mb) := de_cmp op_gt (br_cI (cI_of rfl)) ha hb (nomark _)
theorem de_geI {a b : Expr} {ma mb : SE} {pos : Pos} (ha : DE G X W C a ma) (hb : DE G X W C b mb) : DE G X W C (.Compare a [.GtE] [b] pos) (eB2 (cB geI) ma mb) := de_cmp op_ge (br_cI (cI_of rfl)) ha hb (nomark _)
end

/-! ### data, equality -/
mutual
def datP (r : Nat → Option PyData) : D → Option PyData
  | .non => some .none
  | .bl b => some (.bool b)
  | .int i => some (.int i)
  | .str x => some (.str x)
  | .tup ds => (datPL r ds).map .tuple
  | .scr ds => (datPL r ds).map .list
  | .ref i => r i
  | .fn _ => none
def datPL (r : Nat → Option PyData) : List D → Option (List PyData)
  | [] => some []
  | d :: ds => (datP r d).bind fun x => (datPL r ds).map fun xs => x :: xs
end
def dat (st : Sto) : Nat → D → Option PyData
  | 0 => datP fun _ => none
  | n + 1 => datP fun i => (lstAt st i).bind fun ds => (ds.mapM (dat st n)).map .list
def eqB : Sto → D → D → Option Bool := fun st x y => (dat st 4 x).bind fun d => (dat st 4 y).bind fun e => if SeqAt.shaped d = true ∧ SeqAt.shaped e = true then some (PyData.eqv d e) else none
def neB : Sto → D → D → Option Bool := fun st x y => (eqB st x y).map (!·)
section
variable {G : Gx} {X : Cx} {W : WX} {C : Call} {H : Hp} {ι : List Addr} {st : Sto}
mutual
theorem datP_rep {r : Nat → Option PyData} (hr : ∀ i p a, r i = some p → ι[i]? = some a → Dp G.K H (.ref a) p) : ∀ {d : D} {v : V} {p : PyData}, Rep G H ι d v → datP r d = some p → Dp G.K H v p
  | .non, _, _, h, e => by cases h; cases e; exact .non
  | .bl b, _, _, h, e => by cases h; cases e; exact .bl b
  | .int b, _, _, h, e => by cases h; cases e; exact .int b
  | .str b, _, _, h, e => by cases h; cases e; exact .str b
  | .tup ds, _, _, ⟨a, xs, e1, e2, e3⟩, e => by
    subst e1
    simp only [datP] at e
    obtain ⟨ps, q, rfl⟩ := Option.map_eq_some_iff.mp e
    exact .tup e2 (datPL_rep hr e3 q)
  | .scr ds, _, _, ⟨a, xs, e1, e2, e3⟩, e => by
    subst e1
    simp only [datP] at e
    obtain ⟨ps, q, rfl⟩ := Option.map_eq_some_iff.mp e
    exact .lst e2.sq (datPL_rep hr e3 q)
  | .ref i, _, _, ⟨a, e1, e2⟩, e => by
    subst e2
    exact hr i _ a e e1
  | .fn _, _, _, _, e => by cases e
theorem datPL_rep {r : Nat → Option PyData} (hr : ∀ i p a, r i = some p → ι[i]? = some a → Dp G.K H (.ref a) p) : ∀ {ds : List D} {vs : List V} {ps : List PyData}, RepL G H ι ds vs → datPL r ds = some ps → DpAll G.K H vs ps
  | [], _, _, h, e => by cases h; cases e; exact .nil
  | d :: ds, _, _, ⟨v, x, e1, e2, e3⟩, e => by
    subst e1
    simp only [datPL] at e
    obtain ⟨p, q1, q2⟩ := Option.bind_eq_some_iff.mp e
    obtain ⟨ps, q3, rfl⟩ := Option.map_eq_some_iff.mp q2
    exact .cons (datP_rep hr e2 q1) (datPL_rep hr e3 q3)
end
theorem mapM_rep {f : D → Option PyData} (hf : ∀ d v p, Rep G H ι d v → f d = some p → Dp G.K H v p) : ∀ {ds : List D} {vs : List V} {ps : List PyData}, RepL G H ι ds vs → ds.mapM f = some ps → DpAll G.K H vs ps
  | [], _, _, h, e => by cases h; simp at e; subst e; exact .nil
  | d :: ds, _, _, ⟨v, x, e1, e2, e3⟩, e => by
    subst e1
    rw [List.mapM_cons] at e
    simp only [Option.bind_eq_bind, Option.pure_def] at e
    obtain ⟨p, q1, q2⟩ := Option.bind_eq_some_iff.mp e
    obtain ⟨ps, q3, q4⟩ := Option.bind_eq_some_iff.mp q2
    cases q4
    exact .cons (hf _ _ _ e2 q1) (mapM_rep hf e3 q3)
theorem dat_rep (s : StoRep G H ι st) : ∀ (n : Nat) (d : D) (v : V) (p : PyData), Rep G H ι d v → dat st n d = some p → Dp G.K H v p
  | 0, d, v, p, r, e => datP_rep (fun i p a h => by cases h) r e
  | n + 1, d, v, p, r, e => datP_rep (fun i p a h hi => by
      obtain ⟨ds, q1, q2⟩ := Option.bind_eq_some_iff.mp h
      obtain ⟨ps, q3, rfl⟩ := Option.map_eq_some_iff.mp q2
      obtain ⟨a', xs, k1, k2, k3⟩ := s.lst q1
      rw [hi] at k1; cases k1
      exact .lst (SqL.of k2) (mapM_rep (dat_rep s n) k3 q3)) r e
theorem br_eq : Br2 G (rEqD G.K) (cB eqB) := by
  intro W H ι st x y v u Q s rx ry h
  unfold cB at h
  obtain ⟨d, e, h⟩ := h.opt
  obtain ⟨k, e1, rfl⟩ := Option.map_eq_some_iff.mp e
  unfold eqB at e1
  obtain ⟨p, q1, e2⟩ := Option.bind_eq_some_iff.mp e1
  obtain ⟨p', q2, e3⟩ := Option.bind_eq_some_iff.mp e2
  split at e3
  · rename_i hs
    cases e3
    exact ⟨p, p', dat_rep s _ _ _ _ rx q1, dat_rep s _ _ _ _ ry q2, hs.1, hs.2, h.here s (v := .bl _) rfl⟩
  · cases e3
theorem br_ne : Br2 G (rNeD G.K) (cB neB) := by
  intro W H ι st x y v u Q s rx ry h
  unfold cB neB at h
  obtain ⟨d, e, h⟩ := h.opt
  obtain ⟨k, e0, rfl⟩ := Option.map_eq_some_iff.mp e
  obtain ⟨k', e1, rfl⟩ := Option.map_eq_some_iff.mp e0
  unfold eqB at e1
  obtain ⟨p, q1, e2⟩ := Option.bind_eq_some_iff.mp e1
  obtain ⟨p', q2, e3⟩ := Option.bind_eq_some_iff.mp e2
  split at e3
  · rename_i hs
    cases e3
    exact ⟨p, p', dat_rep s _ _ _ _ rx q1, dat_rep s _ _ _ _ ry q2, hs.1, hs.2, h.here s (v := .bl _) rfl⟩
  · cases e3
theorem db_eq {a b : Expr} {ma mb : SE} {pos : Pos} (hK : X.K = G.K) (hu : X.A.units + 64 < cLine) (ha : DE G X W C a ma) (hb : DE G X W C b mb) : DB G X W C (.Compare a [.Eq] [b] pos) (bCmp eqB ma mb) := db_cmp (op_eqD hu) (by rw [hK]; exact br_eq) ha hb (nomark _)
theorem de_eq {a b : Expr} {ma mb : SE} {pos : Pos} (hK : X.K = G.K) (hu : X.A.units + 64 < cLine) (ha : DE G X W C a ma) (hb : DE G X W C b mb) : DE G X W C (.Compare a [.Eq] [b] pos) (eB2 (cB eqB) ma mb) := de_cmp (op_eqD hu) (by rw [hK]; exact br_eq) ha hb (nomark _)
theorem db_ne {a b : Expr} {ma mb : SE} {pos : Pos} (hK : X.K = G.K) (hu : X.A.units + 64 < cLine) (ha : DE G X W C a ma) (hb : DE G X W C b mb) : DB G X W C (.Compare a [.NotEq] [b] pos) (bCmp neB ma mb) := db_cmp (op_neD hu) (by rw [hK]; exact br_ne) ha hb (nomark _)
theorem de_ne {a b : Expr} {ma mb : SE} {pos : Pos} (hK : X.K = G.K) (hu : X.A.units + 64 < cLine) (ha : DE G X W C a ma) (hb : DE G X W C b mb) : DE G X W C (.Compare a [.NotEq] [b] pos) (eB2 (cB neB) ma mb) := de_cmp (op_neD hu) (by rw [hK]; exact br_ne) ha hb (nomark _)
end

/-! ### is -/
def isB : Sto → D → D → Option Bool := fun _ x y => match y with
  | .non => some (match x with | .non => true | _ => false)
  | .bl b => some (match x with | .bl c => c == b | _ => false)
  | _ => none
def isnB : Sto → D → D → Option Bool := fun st x y => (isB st x y).map (!·)
section
variable {G : Gx} {X : Cx} {W : WX} {C : Call}
def rIs (neg : Bool) : R2 := fun x y H Q => ((y = .non ∨ ∃ b, y = .bl b) ∧ Q (.bl (if neg then !decide (x = y) else decide (x = y))) H)
theorem op_isD : OpR X (compareOp .Is) (rIs false) := by
  intro pins s σ H x y v u Q I rx ry h
  obtain ⟨hy, q⟩ := h
  rcases hy with rfl | ⟨b, rfl⟩
  · exact op_isN pins s σ H x .non v u Q I rx ry ⟨rfl, q⟩
  · cases ry
    have hp : plainIs v (.bool b) = true := by
      cases x with
      | non => cases rx; rfl
      | bl _ => cases rx; rfl
      | int _ => obtain ⟨t, rfl⟩ := rx; rfl
      | str _ => obtain ⟨t, rfl⟩ := rx; rfl
      | byt _ => obtain ⟨t, rfl⟩ := rx; rfl
      | flt _ => obtain ⟨t, rfl⟩ := rx; rfl
      | ref _ => cases rx; rfl
      | ty _ => cases rx; rfl
    by_cases e : x = .bl b
    · subst e
      cases rx
      exact wpAny_is_self rfl ⟨.bl true, H, I, rfl, by simpa using q⟩
    · refine wpAny_is_other hp (fun z => ?_) ⟨.bl false, H, I, rfl, by simpa [e] using q⟩
      subst z
      exact e (RelV.inj rx (show RelV (.bl b) _ from rfl))
theorem op_isnD : OpR X (compareOp .IsNot) (rIs true) := by
  intro pins s σ H x y v u Q I rx ry h
  obtain ⟨hy, q⟩ := h
  rcases hy with rfl | ⟨b, rfl⟩
  · exact op_notN pins s σ H x .non v u Q I rx ry ⟨rfl, q⟩
  · cases ry
    have hp : plainIs v (.bool b) = true := by
      cases x with
      | non => cases rx; rfl
      | bl _ => cases rx; rfl
      | int _ => obtain ⟨t, rfl⟩ := rx; rfl
      | str _ => obtain ⟨t, rfl⟩ := rx; rfl
      | byt _ => obtain ⟨t, rfl⟩ := rx; rfl
      | flt _ => obtain ⟨t, rfl⟩ := rx; rfl
      | ref _ => cases rx; rfl
      | ty _ => cases rx; rfl
    by_cases e : x = .bl b
    · subst e
      cases rx
      exact wpAny_isNot_self rfl ⟨.bl false, H, I, rfl, by simpa using q⟩
    · refine wpAny_isNot_other hp (fun z => ?_) ⟨.bl true, H, I, rfl, by simpa [e] using q⟩
      subst z
      exact e (RelV.inj rx (show RelV (.bl b) _ from rfl))
theorem isB_rep {G : Gx} {H : Hp} {ι : List Addr} {st : Sto} {x y : D} {v u : V} {k : Bool} (rx : Rep G H ι x v) (ry : Rep G H ι y u) (h : isB st x y = some k) : (u = .non ∨ ∃ b, u = .bl b) ∧ decide (v = u) = k := by
  unfold isB at h
  split at h
  · cases ry
    cases h
    refine ⟨.inl rfl, ?_⟩
    cases x with
    | non => cases rx; rfl
    | bl _ => cases rx; rfl
    | int _ => cases rx; rfl
    | str _ => cases rx; rfl
    | tup _ => obtain ⟨_, _, rfl, _⟩ := rx; rfl
    | scr _ => obtain ⟨_, _, rfl, _⟩ := rx; rfl
    | ref _ => obtain ⟨_, _, rfl⟩ := rx; rfl
    | fn _ => cases rx; rfl
  · rename_i b
    cases ry
    cases h
    refine ⟨.inr ⟨b, rfl⟩, ?_⟩
    cases x with
    | non => cases rx; rfl
    | bl c => cases rx; cases c <;> cases b <;> rfl
    | int _ => cases rx; rfl
    | str _ => cases rx; rfl
    | tup _ => obtain ⟨_, _, rfl, _⟩ := rx; rfl
    | scr _ => obtain ⟨_, _, rfl, _⟩ := rx; rfl
    | ref _ => obtain ⟨_, _, rfl⟩ := rx; rfl
    | fn _ => cases rx; rfl
  · cases h
theorem br_is : Br2 G (rIs false) (cB isB) := by
  intro W H ι st x y v u Q s rx ry h
  unfold cB at h
  obtain ⟨d, e, h⟩ := h.opt
  obtain ⟨k, e1, rfl⟩ := Option.map_eq_some_iff.mp e
  obtain ⟨h1, h2⟩ := isB_rep rx ry e1
  exact ⟨h1, by rw [h2]; exact h.here s (v := .bl _) rfl⟩
theorem br_isn : Br2 G (rIs true) (cB isnB) := by
  intro W H ι st x y v u Q s rx ry h
  unfold cB isnB at h
  obtain ⟨d, e, h⟩ := h.opt
  obtain ⟨k, e0, rfl⟩ := Option.map_eq_some_iff.mp e
  obtain ⟨k', e1, rfl⟩ := Option.map_eq_some_iff.mp e0
  obtain ⟨h1, h2⟩ := isB_rep rx ry e1
  exact ⟨h1, by rw [h2]; exact h.here s (v := .bl _) rfl⟩
theorem db_is {a b : Expr} {ma mb : SE} {pos : Pos} (ha : DE G X W C a ma) (hb : DE G X W C b mb) : DB G X W C (.Compare a [.Is] [b] pos) (bCmp isB ma mb) := db_cmp op_isD br_is ha hb (nomark _)
theorem de_is {a b : Expr} {ma mb : SE} {pos : Pos} (ha : DE G X W C a ma) (hb : DE G X W C b mb) : DE G X W C (.Compare a [.Is] [b] pos) (eB2 (cB isB) ma mb) := de_cmp op_isD br_is ha hb (nomark _)
theorem db_isn {a b : Expr} {ma mb : SE} {pos : Pos} (ha : DE G X W C a ma) (hb : DE G X W C b mb) : DB G X W C (.Compare a [.IsNot] [b] pos) (bCmp isnB ma mb) := db_cmp op_isnD br_isn ha hb (nomark _)
theorem de_isn {a b : Expr} {ma mb : SE} {pos : Pos} (ha : DE G X W C a ma) (hb : DE G X W C b mb) : DE G X W C (.Compare a [.IsNot] [b] pos) (eB2 (cB isnB) ma mb) := de_cmp op_isnD br_isn ha hb (nomark _)
end
end OH

set_option Elab.async false
set_option linter.all false
set_option maxRecDepth 100000
set_option maxHeartbeats 1000000
/-! OHBlt: built-ins, items, slices, methods of lists, iterables. -/
namespace OH
open PySem PySem.Spec PyProof.Rows L2

theorem CallR.or {X : Cx} {f : Value} {r r' : List V → Hp → VK → Prop} (h : CallR X f r) (h' : CallR X f r') : CallR X f (fun xs H Q => r xs H Q ∨ r' xs H Q) := by
  intro pins s σ H xs us Q I rx q
  rcases q with q | q
  · exact h pins s σ H xs us Q I rx q
  · exact h' pins s σ H xs us Q I rx q

section
variable {G : Gx} {X : Cx} {W : WX} {C : Call}
def BrQ (G : Gx) (r : List V → Hp → VK → Prop) (g : Sto → List D → Res D) : Prop := ∀ (W : Value → Option Addr → Hp → Prop) (H : Hp) (ι : List Addr) (st : Sto) (ds : List D) (a : Addr) (xs : List V) (Q : VK), StoRep G H ι st → (SqL G.K H a xs ∨ SqT G.K H a xs) → RepL G H ι ds xs → post G (Rep G) W H ι Q (g st ds) → r [.ref a] H Q
def Br1L (G : Gx) (r : List V → Hp → VK → Prop) (g : Sto → D → Res D) : Prop := ∀ (W : Value → Option Addr → Hp → Prop) (H : Hp) (ι : List Addr) (st : Sto) (x : D) (v : V) (Q : VK), StoRep G H ι st → Rep G H ι x v → post G (Rep G) W H ι Q (g st x) → r [v] H Q
theorem de_c1 {e : Expr} {r : List V → Hp → VK → Prop} {g : Sto → D → Res D} {m : SE} (h : PE X e (tCB r (tCons (tE G W C m) tNil))) (br : Br1L G r g) : DE G X W C e (eU1 g m) :=
  pe_imp h fun σ H Q ⟨env, ι, st, hR, hp⟩ => sqE hR hp fun x st1 v H1 ι1 e1 hR1 r1 hp1 => br _ H1 ι1 st1 x v Q hR1.sto r1 hp1
theorem de_cA {e : Expr} {r : List V → Hp → VK → Prop} {g : Sto → List D → Res D} {l : SL} (h : PE X e (tCB r (tA G W C l))) (br : BrA G r g) : DE G X W C e (eA g l) :=
  pe_imp h fun σ H Q ⟨env, ι, st, hR, hp⟩ => sqA hR hp fun x st1 v H1 ι1 e1 hR1 r1 hp1 => br _ H1 ι1 st1 x v Q hR1.sto r1 hp1
theorem de_cQ {e : Expr} {r : List V → Hp → VK → Prop} {g : Sto → List D → Res D} {l : SL} (h : PE X e (tCB r (tCons (tS G W C l) tNil))) (br : BrQ G r g) : DE G X W C e (eA g l) :=
  pe_imp h fun σ H Q ⟨env, ι, st, hR, hp⟩ => sqS hR hp fun ds st1 a xs H1 ι1 e1 hR1 q1 r1 hp1 => br _ H1 ι1 st1 ds a xs Q hR1.sto q1 r1 hp1
/-- what is free later was free before -/
theorem fresh_back {H H1 : Hp} {ι ι1 : List Addr} {st : Sto} (e : Ext H ι H1 ι1) (s : StoRep G H1 ι1 st) {p : Addr} (hp : H1 p = none) : H p = none := by
  cases q : H p with
  | none => rfl
  | some o =>
    by_cases hm : p ∈ ι
    · exact absurd hp (fun z => s.ne (by obtain ⟨r, rfl⟩ := e.more; exact List.mem_append_left _ hm) z rfl)
    · rw [e.keep p o q hm] at hp; cases hp
/-- a list of one's own, made of a list that is read -/
def BrQT (G : Gx) (r : List V → Hp → VK → Prop) (f : Sto → List D → Option (List D)) : Prop := ∀ (H : Hp) (ι : List Addr) (st : Sto) (ds es : List D) (a : Addr) (xs : List V) (Q : VK), StoRep G H ι st → (SqL G.K H a xs ∨ SqT G.K H a xs) → RepL G H ι ds xs → f st ds = some es →
  (∀ ys p, RepL G H ι es ys → H p = none → Q (.ref p) (upd H p (.lst ys))) → r [.ref a] H Q
theorem dt_cQ {e : Expr} {r : List V → Hp → VK → Prop} {f : Sto → List D → Option (List D)} {l : SL} (h : PE X e (tCB r (tCons (tS G W C l) tNil))) (br : BrQT G r f) : DT G X W C e (lMap f l) :=
  pe_imp h fun σ H Q ⟨env, ι, st, hR, hp⟩ => sqS hR hp fun ds st1 a xs H1 ι1 e1 hR1 q1 r1 hp1 => by
    obtain ⟨es, e, hp2⟩ := hp1.opt
    exact br H1 ι1 st1 ds es a xs Q hR1.sto q1 r1 e fun ys p r2 hp => hp2 _ _ ι1 (ext_new hp) (hR1.sto.fresh hp) ⟨p, ys, rfl, upd_same, hR1.sto.notin hp, fresh_back e1 hR1.sto hp, r2.ext (ext_new hp) hR1.sto.mut⟩

/-! ### len -/
def lenR : Sto → D → Res D := fun st x => match x with
  | .str z => if z.length ≤ sizeLine then .ok (.int z.length) st else .stuck
  | x => match items st x with
    | some ds => .ok (.int ds.length) st
    | none => .stuck
def rLen (K : PySem.W.Frag) : List V → Hp → VK → Prop := fun xs H Q => (∃ p ys, xs = [.ref p] ∧ (SqL K H p ys ∨ SqT K H p ys) ∧ Q (.int ys.length) H) ∨ ∃ z, xs = [.str z] ∧ z.length ≤ sizeLine ∧ Q (.int z.length) H
theorem call_lenA : CallR X (.builtin "len") (rLen X.K) := CallR.or call_len_seq call_len_str
theorem br_len : Br1L G (rLen G.K) lenR := by
  intro W H ι st x v Q s rx h
  unfold lenR at h
  split at h
  · cases rx
    split at h
    · rename_i hz
      exact .inr ⟨_, rfl, hz, h.here s (v := .int _) rfl⟩
    · exact h.elim
  · split at h
    · rename_i ds e
      obtain ⟨a, xs, rfl, q, r⟩ := s.items e rx
      refine .inl ⟨a, xs, rfl, q, ?_⟩
      rw [r.length]
      exact h.here s (v := .int _) rfl
    · exact h.elim
theorem brq_len : BrQ G (rLen G.K) (fun st ds => .ok (.int ds.length) st) := by
  intro W H ι st ds a xs Q s q r h
  refine .inl ⟨a, xs, rfl, q, ?_⟩
  rw [r.length]
  exact h.here s (v := .int _) rfl

/-! ### isinstance -/
inductive Ty where
  | non | bool | int | str | tup | lst | dict
  deriving DecidableEq
def Ty.name : Ty → String
  | .non => "NoneType" | .bool => "bool" | .int => "int" | .str => "str" | .tup => "tuple" | .lst => "list" | .dict => "dict"
def subT : Ty → Ty → Bool
  | .bool, .int => true
  | a, b => a == b
theorem kit_sub (a b : Ty) : kitB a.name b.name = some (subT a b) := by cases a <;> cases b <;> decide +kernel
def tyOf (st : Sto) : D → Option Ty
  | .non => some .non | .bl _ => some .bool | .int _ => some .int | .str _ => some .str | .tup _ => some .tup | .scr _ => some .lst
  | .ref i => match st[i]? with | some (.lst _) => some .lst | some (.dct _) => some .dict | none => none
  | .fn _ => none
def isiR (T : Ty) : Sto → D → Res D := fun st x => match tyOf st x with | some t => .ok (.bl (subT t T)) st | none => .stuck
theorem tyX_of {H : Hp} {ι : List Addr} {st : Sto} {x : D} {v : V} {t : Ty} (s : StoRep G H ι st) (r : Rep G H ι x v) (h : tyOf st x = some t) : TyX G.K H v (.type t.name) := by
  cases x with
  | non => cases r; cases h; exact .base .non
  | bl b => cases r; cases h; exact .base (.bl b)
  | int i => cases r; cases h; exact .base (.int i)
  | str x => cases r; cases h; exact .base (.str x)
  | tup ds =>
    obtain ⟨a, xs, rfl, q, _⟩ := r
    cases h
    rcases q with (q | ⟨o, q⟩) | ⟨o, its, n, q, c, _⟩
    · exact .base (.tup q)
    · exact .fTuple q
    · exact .kTuple q c
  | scr ds =>
    obtain ⟨a, xs, rfl, q, _⟩ := r
    cases h
    rcases q with ⟨o, q⟩ | ⟨o, its, n, q, c, _⟩
    · exact .base (.frz q)
    · exact .kList q c
  | ref i =>
    obtain ⟨a, e, rfl⟩ := r
    simp only [tyOf] at h
    cases hc : st[i]? with
    | none => simp only [hc] at h; cases h
    | some c =>
      have q := s.cell i c a hc e
      simp only [hc] at h
      cases c with
      | lst ds =>
        cases h
        obtain ⟨xs, q, _⟩ := q
        exact .base (.lst q)
      | dct kvs =>
        cases h
        rcases q with ⟨ks, vs, q, _⟩ | ⟨ks, vs, q, _⟩
        · exact .base (.dK q)
        · exact .base (.dT q)
  | fn f => cases h
theorem de_isi {T : Ty} {e : Expr} {m : SE} (hK : X.K = G.K) (h : PE X e (tCB (rIsi X.K) (tCons (tE G W C m) (tCons (tC (.ty T.name)) tNil)))) : DE G X W C e (eU1 (isiR T) m) :=
  pe_imp h fun σ H Q ⟨env, ι, st, hR, hp⟩ => sqE hR hp fun x st1 v H1 ι1 e1 hR1 r1 hp1 => by
    unfold isiR at hp1
    split at hp1
    · rename_i t et
      exact ⟨v, .ty T.name, .type t.name, .type T.name, subT t T, rfl, .ty _, by rw [hK]; exact tyX_of hR1.sto r1 et, kit_ty (kit_sub t T), hp1.here hR1.sto (v := .bl _) rfl⟩
    · exact hp1.elim

/-! ### int, sum, min, max, abs -/
def intR : Sto → D → Res D := fun st x => match x with
  | .int i => .ok (.int i) st
  | .bl k => .ok (.int (if k then 1 else 0)) st
  | _ => .stuck
theorem br_int : Br1L G (fun xs H Q => (∃ i, xs = [.int i] ∧ Q (.int i) H) ∨ ∃ k, xs = [.bl k] ∧ Q (.int (if k then 1 else 0)) H) intR := by
  intro W H ι st x v Q s rx h
  unfold intR at h
  split at h
  · cases rx; exact .inl ⟨_, rfl, h.here s (v := .int _) rfl⟩
  · cases rx; exact .inr ⟨_, rfl, h.here s (v := .int _) rfl⟩
  · exact h.elim
def intsOf : List D → Option (List Int)
  | [] => some []
  | .int i :: ds => (intsOf ds).map fun is => i :: is
  | _ :: _ => none
theorem intsOf_eq : ∀ {ds : List D} {ns : List Int}, intsOf ds = some ns → ds = ns.map D.int
  | [], _, h => by cases h; rfl
  | .int i :: ds, ns, h => by
    simp only [intsOf] at h
    obtain ⟨is, e, rfl⟩ := Option.map_eq_some_iff.mp h
    rw [intsOf_eq e]; rfl
  | .non :: _, _, h => by cases h
  | .bl _ :: _, _, h => by cases h
  | .str _ :: _, _, h => by cases h
  | .tup _ :: _, _, h => by cases h
  | .ref _ :: _, _, h => by cases h
  | .fn _ :: _, _, h => by cases h
  | .scr _ :: _, _, h => by cases h
@[simp] theorem intsOf_map (ns : List Int) : intsOf (ns.map D.int) = some ns := by
  induction ns with
  | nil => rfl
  | cons n ns ih => simp [intsOf, ih]
def rSumA (K : PySem.W.Frag) : List V → Hp → VK → Prop := fun vs H Q => ∃ (a : Addr) (ns : List Int), vs = [V.ref a] ∧ (SqL K H a (ns.map V.int) ∨ SqT K H a (ns.map V.int)) ∧ Q (.int ns.sum) H
theorem cr_sumA (hc : X.calm = true) : CallR X (.builtin "sum") (rSumA X.K) := by
  intro pins s σ H vs us Q I r h
  obtain ⟨a, ns, rfl, hs, q⟩ := h
  rcases hs with hs | hs
  · exact cr_sum hc pins s σ H _ us Q I r ⟨a, ns, rfl, hs, q⟩
  · obtain ⟨its, rv, ht, _⟩ := I.tuple hs
    rw [Vals.ref1 r]
    have hi := rv.ints
    obtain ⟨xs, e⟩ := hi.allInts.items
    have hn : numsOf (intItems xs).toList = ns := by rw [← e]; exact hi.numsOf
    rw [nums_intItems] at hn
    rw [e] at ht
    refine PySem.W.ktm_sumG (I.ok.hd hc) ht fun h' tk t' hk => ⟨.int ns.sum, H, I.kept hk, ⟨t', ?_⟩, q⟩
    rw [preSum_eq, List.take_of_length_le (by simp), hn]
def sumQ : Sto → List D → Res D := fun st ds => match intsOf ds with | some ns => .ok (.int ns.sum) st | none => .stuck
theorem brq_sum : BrQ G (rSumA G.K) sumQ := by
  intro W H ι st ds a xs Q s q r h
  unfold sumQ at h
  split at h
  · rename_i ns e
    have e2 := r.ints (intsOf_eq e)
    subst e2
    exact ⟨a, ns, rfl, q, h.here s (v := .int _) rfl⟩
  · exact h.elim
def min2 : Sto → List D → Res D := fun st ds => match ds with | [.int i, .int j] => .ok (.int (if j < i then j else i)) st | _ => .stuck
def max2 : Sto → List D → Res D := fun st ds => match ds with | [.int i, .int j] => .ok (.int (if j > i then j else i)) st | _ => .stuck
theorem bra_min2 : BrA G (fun xs H Q => ∃ i j, xs = [.int i, .int j] ∧ Q (.int (if j < i then j else i)) H) min2 := by
  intro W H ι st ds vs Q s r h
  unfold min2 at h
  split at h
  · obtain ⟨_, _, rfl, rfl, _, _, rfl, rfl, rfl⟩ := r
    exact ⟨_, _, rfl, h.here s (v := .int _) rfl⟩
  · exact h.elim
theorem bra_max2 : BrA G (fun xs H Q => ∃ i j, xs = [.int i, .int j] ∧ Q (.int (if j > i then j else i)) H) max2 := by
  intro W H ι st ds vs Q s r h
  unfold max2 at h
  split at h
  · obtain ⟨_, _, rfl, rfl, _, _, rfl, rfl, rfl⟩ := r
    exact ⟨_, _, rfl, h.here s (v := .int _) rfl⟩
  · exact h.elim
def maxL : List Int → Int
  | [] => 0
  | [a] => a
  | a :: l => max a (maxL l)
def minL : List Int → Int
  | [] => 0
  | [a] => a
  | a :: l => min a (minL l)
theorem maxL_spec : ∀ {l : List Int}, l ≠ [] → maxL l ∈ l ∧ ∀ y ∈ l, y ≤ maxL l
  | [], h => absurd rfl h
  | [a], _ => by simp [maxL]
  | a :: b :: l, _ => by
    obtain ⟨h1, h2⟩ := maxL_spec (l := b :: l) (by simp)
    simp only [maxL]
    refine ⟨?_, fun y hy => ?_⟩
    · by_cases h : a ≤ maxL (b :: l)
      · rw [show max a (maxL (b :: l)) = maxL (b :: l) by omega]; exact List.mem_cons_of_mem _ h1
      · rw [show max a (maxL (b :: l)) = a by omega]; exact List.mem_cons_self
    · rcases List.mem_cons.mp hy with rfl | hy
      · omega
      · have := h2 y hy; omega
theorem minL_spec : ∀ {l : List Int}, l ≠ [] → minL l ∈ l ∧ ∀ y ∈ l, minL l ≤ y
  | [], h => absurd rfl h
  | [a], _ => by simp [minL]
  | a :: b :: l, _ => by
    obtain ⟨h1, h2⟩ := minL_spec (l := b :: l) (by simp)
    simp only [minL]
    refine ⟨?_, fun y hy => ?_⟩
    · by_cases h : a ≤ minL (b :: l)
      · rw [show min a (minL (b :: l)) = a by omega]; exact List.mem_cons_self
      · rw [show min a (minL (b :: l)) = minL (b :: l) by omega]; exact List.mem_cons_of_mem _ h1
    · rcases List.mem_cons.mp hy with rfl | hy
      · omega
      · have := h2 y hy; omega
def absR : Sto → D → Res D := fun st x => match x with
  | .int i => .ok (.int (if i < 0 then -i else i)) st
  | _ => .stuck
theorem br_abs : Br1L G (fun xs H Q => ∃ i, xs = [.int i] ∧ Q (.int (if i < 0 then -i else i)) H) absR := by
  intro W H ι st x v Q s rx h
  unfold absR at h
  split at h
  · cases rx; exact ⟨_, rfl, h.here s (v := .int _) rfl⟩
  · exact h.elim

/-! ### tuple(x), list(x), sorted of ints -/
def tupQ : Sto → List D → Res D := fun st ds => if ds.length ≤ sizeLine then .ok (.tup ds) st else .stuck
theorem brq_tup : BrQ G (fun xs H Q => ∃ p ys, xs = [.ref p] ∧ ((SqL G.K H p ys ∧ ∀ l, H l = none → Q (.ref l) (upd H l (.tup ys))) ∨ (SqT G.K H p ys ∧ Q (.ref p) H))) tupQ := by
  intro W H ι st ds a xs Q s q r h
  unfold tupQ at h
  split at h
  · refine ⟨a, xs, rfl, ?_⟩
    rcases q with q | q
    · exact .inl ⟨q, fun p hp => h _ _ ι (ext_new hp) (s.fresh hp) ⟨p, _, rfl, SqT.of upd_same, r.ext (ext_new hp) s.mut⟩⟩
    · exact .inr ⟨q, h.here s ⟨a, xs, rfl, q, r⟩⟩
  · exact h.elim
theorem brqt_list : BrQT G (fun xs H Q => ∃ p ys, xs = [.ref p] ∧ (SqL G.K H p ys ∨ SqT G.K H p ys) ∧ ∀ l, H l = none → Q (.ref l) (upd H l (.lst ys))) (fun _ ds => some ds) := by
  intro H ι st ds es a xs Q s q r e h
  cases e
  exact ⟨a, xs, rfl, q, fun p hp => h xs p r hp⟩
end
end OH

set_option Elab.async false
set_option linter.all false
set_option maxRecDepth 100000
set_option maxHeartbeats 1000000
/-! OHSeq: items, slices, stores, methods of lists, iterables. -/
namespace OH
open PySem PySem.Spec PyProof.Rows L2

section
variable {G : Gx} {X : Cx} {W : WX} {C : Call}
theorem RepL.len_eq {H : Hp} {ι : List Addr} {ds : List D} {xs : List V} (r : RepL G H ι ds xs) : xs.length = ds.length := r.length
theorem RepL.atI {H : Hp} {ι : List Addr} {ds : List D} {xs : List V} {k : Int} {d : D} (r : RepL G H ι ds xs) (h : L2.atI ds k = some d) : ∃ v, L2.atI xs k = some v ∧ Rep G H ι d v := by
  unfold L2.atI at h ⊢
  obtain ⟨j, h1, h2⟩ := Option.bind_eq_some_iff.mp h
  obtain ⟨v, q1, q2⟩ := r.get h2
  exact ⟨v, by rw [r.length, h1]; exact q1, q2⟩
/-! ### items -/
def ixR : Sto → D → D → Res D := fun st x y => match y with
  | .int k => match x with
    | .str z => if z.length ≤ sizeLine then (match L2.atI z.cps.toList k with | some c => .ok (.str ⟨#[c]⟩) st | none => .stuck) else .stuck
    | x => match items st x with
      | some ds => Res.of (L2.atI ds k) st
      | none => .stuck
  | _ => .stuck
theorem br_ix : Br2 G (rIx G.K) ixR := by
  intro W H ι st x y v u Q s rx ry h
  unfold ixR at h
  split at h
  · cases ry
    split at h
    · cases rx
      split at h
      · rename_i hz
        split at h
        · rename_i c e
          exact .inr (.inr ⟨_, _, c, rfl, rfl, hz, e, h.here s (v := .str _) rfl⟩)
        · exact h.elim
      · exact h.elim
    · split at h
      · rename_i ds e
        obtain ⟨a, xs, rfl, q, r⟩ := s.items e rx
        obtain ⟨d, e2, h⟩ := h.opt
        obtain ⟨w, e3, r2⟩ := r.atI e2
        rcases q with q | q
        · exact .inl ⟨a, xs, _, w, rfl, rfl, q, e3, h.here s r2⟩
        · exact .inr (.inl ⟨a, xs, _, w, rfl, rfl, q, e3, h.here s r2⟩)
      · exact h.elim
  · exact h.elim
theorem de_ix {a b : Expr} {ma mb : SE} {pos : Pos} (hK : X.K = G.K) (ha : DE G X W C a ma) (hb : DE G X W C b mb) (hs : PlainIx b := by exact fun _ _ => rfl) : DE G X W C (.Subscript a b pos) (eB2 ixR ma mb) := de_tOp (a := a) (b := b) (pe_ix ix_seq ha hb hs) (by rw [hK]; exact br_ix)
/-- the item of a list of one's own -/
def ixQ : Sto → List D → D → Res D := fun st ds y => match y with | .int k => Res.of (L2.atI ds k) st | _ => .stuck
def eIxQ (l : SL) (b : SE) : SE := fun C env st => (l C env st).bind fun ds st => (b C env st).bind fun y st => ixQ st ds y

/-! ### slices -/
theorem RepL.cut_ {H : Hp} {ι : List Addr} {ds : List D} {xs : List V} (r : RepL G H ι ds xs) (lo hi : Option Int) : RepL G H ι ((ds.drop (HT.sIx ds.length 0 lo)).take (HT.sIx ds.length ds.length hi - HT.sIx ds.length 0 lo)) (cutV xs lo hi) := by
  unfold cutV
  rw [r.length]
  exact (r.drop _).take _
def cutD (ds : List D) (lo hi : Option Int) : List D := (ds.drop (HT.sIx ds.length 0 lo)).take (HT.sIx ds.length ds.length hi - HT.sIx ds.length 0 lo)
/-- an end of a slice -/
abbrev SO := Call → Env → Sto → Res (Option Int)
def oNone : SO := fun _ _ st => .ok none st
def oSome (e : SE) : SO := fun C env st => (e C env st).bind fun x st => match x with | .int i => .ok (some i) st | _ => .stuck
def repO : Hp → Hp → List Addr → Option Int → Option Int → Prop := fun _ _ _ a b => b = a
def DO (G : Gx) (X : Cx) (W : WX) (C : Call) (e : Option Expr) (m : SO) : Prop := PO X e (rG G W C repO m)
theorem po_imp {e : Option Expr} {t t' : TO} (h : PO X e t) (k : ∀ σ H Q, t' σ H Q → t σ H Q) : PO X e t' := ⟨fun pins s σ H Q I q => h.run pins s σ H Q I (k σ H Q q)⟩
theorem do_none : DO G X W C none oNone := po_imp po_none fun σ H Q ⟨env, ι, st, hR, hp⟩ => hp.here hR.sto rfl
theorem do_some {e : Expr} {m : SE} (h : DE G X W C e m) : DO G X W C (some e) (oSome m) := po_imp (po_some h) fun σ H Q ⟨env, ι, st, hR, hp⟩ => sqE hR hp fun x st1 v H1 ι1 e1 hR1 r1 hp1 => by
  cases x with
  | int i => cases r1; exact ⟨i, rfl, hp1.here hR1.sto rfl⟩
  | _ => exact hp1.elim
def eSl (a : SE) (lo hi : SO) : SE := fun C env st => (a C env st).bind fun x st => (lo C env st).bind fun l st => (hi C env st).bind fun u st => match x with
  | .tup ds => .ok (.tup (cutD ds l u)) st
  | .ref i => match lstAt st i with | some ds => newL (cutD ds l u) st | none => .stuck
  | .scr ds => newL (cutD ds l u) st
  | _ => .stuck
theorem de_sl {e : Expr} {lo hi : Option Expr} {m : SE} {ml mu : SO} {pos p2 : Pos} (hK : X.K = G.K) (h : DE G X W C e m) (hl : DO G X W C lo ml) (hu : DO G X W C hi mu) : DE G X W C (.Subscript e (.Slice lo hi none p2) pos) (eSl m ml mu) :=
  pe_imp (pe_slice (sl_tupA.or sl_list) h hl hu) fun σ H Q ⟨env, ι, st, hR, hp⟩ => sqE hR hp fun x st1 v H1 ι1 e1 hR1 r1 hp1 => by
    refine rG.seq (rep := repO) hR1 hp1 fun l st2 l' H2 ι2 e2 hR2 rl hp2 => ?_
    cases rl
    refine rG.seq (rep := repO) hR2 hp2 fun u st3 u' H3 ι3 e3 hR3 ru hp3 => ?_
    cases ru
    have r3 := (r1.ext e2 hR1.sto.mut).ext e3 hR2.sto.mut
    cases x with
    | tup ds =>
      obtain ⟨a, xs, rfl, q, r⟩ := r3
      refine .inl ⟨a, xs, rfl, by rw [hK]; exact q, fun hw => ?_, fun hw p hp => ?_⟩
      · have hw' : cutD ds l u = ds := by
          unfold cutD
          rw [← r.length, hw.1, hw.2]
          simp [r.length]
        dsimp only at hp3
        rw [hw'] at hp3
        exact hp3.here hR3.sto ⟨a, xs, rfl, q, r⟩
      · exact hp3 _ _ ι3 (ext_new hp) (hR3.sto.fresh hp) ⟨p, _, rfl, SqT.of upd_same, (r.cut_ l u).ext (ext_new hp) hR3.sto.mut⟩
    | ref i =>
      dsimp only at hp3
      split at hp3
      · rename_i ds e
        obtain ⟨a, xs, k1, k2, k3⟩ := hR3.sto.lst e
        obtain ⟨_, k1', rfl⟩ := r3
        rw [k1] at k1'; cases k1'
        refine .inr ⟨a, xs, rfl, SqL.of k2, fun p hp => ?_⟩
        obtain ⟨n1, n2, n3⟩ := new_take hR3.sto hp (k3.cut_ l u)
        exact hp3 _ _ _ n1 n2 n3
      · exact hp3.elim
    | scr ds =>
      obtain ⟨a, xs, rfl, q, r⟩ := r3
      refine .inr ⟨a, xs, rfl, by rw [hK]; exact q.sq, fun p hp => ?_⟩
      obtain ⟨n1, n2, n3⟩ := new_take hR3.sto hp (r.cut_ l u)
      exact hp3 _ _ _ n1 n2 n3
    | _ => exact hp3.elim

/-! ### stores into lists -/
def putL : Sto → D → D → D → Option Sto := fun st o i v => match o, i with
  | .ref a, .int k => match lstAt st a with
    | some ds => (L2.ixN ds.length k).map fun j => st.set a (.lst (ds.set j v))
    | none => none
  | _, _ => none
theorem br_putL : BrSet G rSetL putL := by
  intro H ι st st' o i v ov iv vv Q s ro ri rv e h
  unfold putL at e
  split at e
  · rename_i a k
    split at e
    · rename_i ds ea
      obtain ⟨j, ej, rfl⟩ := Option.map_eq_some_iff.mp e
      obtain ⟨p, xs, k1, k2, k3⟩ := s.lst ea
      obtain ⟨_, k1', rfl⟩ := ro
      rw [k1] at k1'; cases k1'
      cases ri
      refine ⟨p, xs, k, j, rfl, rfl, k2, by rw [k3.length]; exact ej, ?_⟩
      have hp := List.mem_of_getElem? k1
      exact h _ ι (ext_write hp) (s.write k1 ⟨_, upd_same, (k3.set j rv).write s hp⟩)
    · cases e
  · cases e
/-- a method that changes its list -/
def BrM (G : Gx) (r : V → List V → Hp → VK → Prop) (g : Sto → D → List D → Res D) : Prop := ∀ (W : Value → Option Addr → Hp → Prop) (H : Hp) (ι : List Addr) (st : Sto) (x : D) (ds : List D) (v : V) (vs : List V) (Q : VK), StoRep G H ι st → Rep G H ι x v → RepL G H ι ds vs → post G (Rep G) W H ι Q (g st x ds) → r v vs H Q
def isLst (st : Sto) : D → Bool
  | .ref i => (lstAt st i).isSome
  | _ => false
def eM (g : Sto → D → List D → Res D) (o : SE) (l : SL) : SE := fun C env st => (o C env st).bind fun x st => if isLst st x then (l C env st).bind fun ds st => g st x ds else .stuck
theorem tyV_lst {H : Hp} {ι : List Addr} {st : Sto} {x : D} {v : V} (s : StoRep G H ι st) (r : Rep G H ι x v) (h : isLst st x = true) : tyV G.K "list" v H := by
  cases x with
  | ref i =>
    simp only [isLst] at h
    obtain ⟨ds, e⟩ := Option.isSome_iff_exists.mp h
    obtain ⟨a, xs, k1, k2, k3⟩ := s.lst e
    obtain ⟨_, k1', rfl⟩ := r
    rw [k1] at k1'; cases k1'
    exact .inl ⟨rfl, xs, SqL.of k2⟩
  | _ => cases h
theorem de_m {e : Expr} {r : V → List V → Hp → VK → Prop} {g : Sto → D → List D → Res D} {m : SE} {l : SL} (hK : X.K = G.K) (h : PE X e (tBM X.K "list" r (tE G W C m) (tA G W C l))) (br : BrM G r g) : DE G X W C e (eM g m l) :=
  pe_imp h fun σ H Q ⟨env, ι, st, hR, hp⟩ => sqE hR hp fun x st1 v H1 ι1 e1 hR1 r1 hp1 => by
    split at hp1
    · rename_i hl
      refine ⟨by rw [hK]; exact tyV_lst hR1.sto r1 hl, sqA hR1 hp1 fun ds st2 vs H2 ι2 e2 hR2 r2 hp2 => br _ H2 ι2 st2 x ds v vs Q hR2.sto (r1.ext e2 hR1.sto.mut) r2 hp2⟩
    · exact hp1.elim
def eM0 (g : Sto → D → List D → Res D) (o : SE) : SE := fun C env st => (o C env st).bind fun x st => if isLst st x then g st x [] else .stuck
theorem de_m0 {e : Expr} {r : V → List V → Hp → VK → Prop} {g : Sto → D → List D → Res D} {m : SE} (hK : X.K = G.K) (h : PE X e (tBM0 X.K "list" r (tE G W C m))) (br : BrM G r g) : DE G X W C e (eM0 g m) :=
  pe_imp h fun σ H Q ⟨env, ι, st, hR, hp⟩ => sqE hR hp fun x st1 v H1 ι1 e1 hR1 r1 hp1 => by
    split at hp1
    · rename_i hl
      exact ⟨by rw [hK]; exact tyV_lst hR1.sto r1 hl, br _ H1 ι1 st1 x [] v [] Q hR1.sto r1 rfl hp1⟩
    · exact hp1.elim
/-- the list changes to f of it, the answer beside -/
def mutL (f : List D → Option (List D × D)) (st : Sto) (x : D) : Res D := match x with
  | .ref i => match lstAt st i with
    | some ds => match f ds with
      | some (es, d) => .ok d (st.set i (.lst es))
      | none => .stuck
    | none => .stuck
  | _ => .stuck
theorem mutL_rep {W : Value → Option Addr → Hp → Prop} {H : Hp} {ι : List Addr} {st : Sto} {f : List D → Option (List D × D)} {x : D} {v : V} {Q : VK} (s : StoRep G H ι st) (r : Rep G H ι x v) (h : post G (Rep G) W H ι Q (mutL f st x)) :
    ∃ a ds xs es d, v = .ref a ∧ H a = some (.lst xs) ∧ RepL G H ι ds xs ∧ f ds = some (es, d) ∧ ∀ ys w, RepL G H ι es ys → Rep G H ι d w → Q w (upd H a (.lst ys)) := by
  unfold mutL at h
  split at h
  · rename_i i
    split at h
    · rename_i ds e
      split at h
      · rename_i es d ef
        obtain ⟨a, xs, k1, k2, k3⟩ := s.lst e
        obtain ⟨_, k1', rfl⟩ := r
        rw [k1] at k1'; cases k1'
        have hp := List.mem_of_getElem? k1
        exact ⟨a, ds, xs, es, d, rfl, k2, k3, ef, fun ys w ry rw_ => h w _ ι (ext_write hp) (s.write k1 ⟨ys, upd_same, ry.write s hp⟩) (rw_.ext (ext_write hp) s.mut)⟩
      · exact h.elim
    · exact h.elim
  · exact h.elim
def appendR : Sto → D → List D → Res D := fun st x ds => match ds with
  | [y] => mutL (fun xs => if xs.length < sizeLine then some (xs ++ [y], .non) else none) st x
  | _ => .stuck
theorem brm_append : BrM G rAppend appendR := by
  intro W H ι st x ds v vs Q s rx rv h
  unfold appendR at h
  split at h
  · obtain ⟨y, _, rfl, ry, rfl⟩ := rv
    obtain ⟨a, ds, xs, es, d, rfl, h1, h2, h3, h4⟩ := mutL_rep s rx h
    split at h3
    · rename_i hz
      cases h3
      exact ⟨a, xs, y, rfl, rfl, h1, by rw [h2.length]; exact hz, h4 _ .non (h2.app (RepL.one ry)) rfl⟩
    · cases h3
  · exact h.elim
noncomputable def insOk (i : Int) (n : Nat) : Bool := tsd (n < sizeLine ∧ 0 ≤ i ∧ i < 2 ^ 63)
noncomputable def popOk (i : Int) : Bool := tsd (-(2 ^ 63) ≤ i ∧ i < 2 ^ 63)
theorem insOk_iff {i : Int} {n : Nat} (h : insOk i n = true) : n < sizeLine ∧ 0 ≤ i ∧ i < 2 ^ 63 := tsd_of h
theorem popOk_iff {i : Int} (h : popOk i = true) : -(2 ^ 63) ≤ i ∧ i < 2 ^ 63 := tsd_of h
noncomputable def insertR : Sto → D → List D → Res D := fun st x ds => match ds with
  | [.int i, y] => mutL (fun xs => if insOk i xs.length then some (xs.take i.toNat ++ [y] ++ xs.drop i.toNat, .non) else none) st x
  | _ => .stuck
theorem brm_insert : BrM G (fun x vs H Q => ∃ (l : Addr) (xs : List V) (i : Int) (y : V), x = .ref l ∧ vs = [.int i, y] ∧ H l = some (.lst xs) ∧ xs.length < sizeLine ∧ 0 ≤ i ∧ i < 2 ^ 63 ∧ Q .non (upd H l (.lst (xs.take i.toNat ++ [y] ++ xs.drop i.toNat)))) insertR := by
  intro W H ι st x ds v vs Q s rx rv h
  unfold insertR at h
  split at h
  · obtain ⟨_, _, rfl, rfl, y, _, rfl, ry, rfl⟩ := rv
    obtain ⟨a, ds, xs, es, d, rfl, h1, h2, h3, h4⟩ := mutL_rep s rx h
    split at h3
    · rename_i hz
      have hz := insOk_iff hz
      cases h3
      exact ⟨a, xs, _, y, rfl, rfl, h1, by rw [h2.length]; exact hz.1, hz.2.1, hz.2.2, h4 _ .non (((h2.take _).app (RepL.one ry)).app (h2.drop _)) rfl⟩
    · cases h3
  · exact h.elim
def pop0R : Sto → D → List D → Res D := fun st x ds => match ds with
  | [] => mutL (fun xs => (xs[xs.length - 1]?).map fun y => (xs.dropLast, y)) st x
  | _ => .stuck
noncomputable def popAtR : Sto → D → List D → Res D := fun st x ds => match ds with
  | [.int i] => mutL (fun xs => if popOk i then (L2.ixN xs.length i).bind fun k => (xs[k]?).map fun y => (xs.eraseIdx k, y) else none) st x
  | _ => .stuck
theorem RepL.dropLast {H : Hp} {ι : List Addr} {ds : List D} {xs : List V} (r : RepL G H ι ds xs) : RepL G H ι ds.dropLast xs.dropLast := by
  rw [List.dropLast_eq_take, List.dropLast_eq_take, r.length]; exact r.take _
theorem RepL.erase {H : Hp} {ι : List Addr} {ds : List D} {xs : List V} (r : RepL G H ι ds xs) (k : Nat) : RepL G H ι (ds.eraseIdx k) (xs.eraseIdx k) := by
  rw [List.eraseIdx_eq_take_drop_succ, List.eraseIdx_eq_take_drop_succ]
  exact (r.take k).app (r.drop (k + 1))
theorem brm_pop0 : BrM G rPop pop0R := by
  intro W H ι st x ds v vs Q s rx rv h
  unfold pop0R at h
  split at h
  · cases rv
    obtain ⟨a, ds, xs, es, d, rfl, h1, h2, h3, h4⟩ := mutL_rep s rx h
    obtain ⟨y, e, z⟩ := Option.map_eq_some_iff.mp h3
    cases z
    obtain ⟨w, e2, rw_⟩ := h2.get e
    exact ⟨a, xs, w, rfl, rfl, h1, by rw [h2.length]; exact e2, h4 _ w h2.dropLast rw_⟩
  · exact h.elim
theorem brm_popAt : BrM G rPopAt popAtR := by
  intro W H ι st x ds v vs Q s rx rv h
  unfold popAtR at h
  split at h
  · obtain ⟨_, _, rfl, rfl, rfl⟩ := rv
    obtain ⟨a, ds, xs, es, d, rfl, h1, h2, h3, h4⟩ := mutL_rep s rx h
    split at h3
    · rename_i hz
      have hz := popOk_iff hz
      obtain ⟨k, ek, e3⟩ := Option.bind_eq_some_iff.mp h3
      obtain ⟨y, e, z⟩ := Option.map_eq_some_iff.mp e3
      cases z
      obtain ⟨w, e2, rw_⟩ := h2.get e
      exact ⟨a, xs, _, k, w, rfl, rfl, h1, hz.1, hz.2, by rw [h2.length]; exact (ixN_seq ek).1, e2, h4 _ w (h2.erase k) rw_⟩
    · cases h3
  · exact h.elim
def extendR : Sto → D → List D → Res D := fun st x ds => match ds with
  | [.ref j] => match lstAt st j with
    | some zs => mutL (fun xs => if xs.length + zs.length ≤ sizeLine then some (xs ++ zs, .non) else none) st x
    | none => .stuck
  | _ => .stuck
theorem brm_extend : BrM G rExtend extendR := by
  intro W H ι st x ds v vs Q s rx rv h
  unfold extendR at h
  split at h
  · obtain ⟨y, _, rfl, ⟨b, eb, rfl⟩, rfl⟩ := rv
    split at h
    · rename_i zs ez
      obtain ⟨b', us, k1, k2, k3⟩ := s.lst ez
      rw [eb] at k1; cases k1
      obtain ⟨a, ds, xs, es, d, rfl, h1, h2, h3, h4⟩ := mutL_rep s rx h
      split at h3
      · rename_i hz
        cases h3
        exact ⟨a, b, xs, us, rfl, rfl, h1, k2, by rw [h2.length, k3.length]; exact hz, h4 _ .non (h2.app k3) rfl⟩
      · cases h3
    · exact h.elim
  · exact h.elim

/-! ### iterables -/
noncomputable def rngI (j : Int) : Bool := tsd (-(2 ^ 62) ≤ j ∧ j < 2 ^ 62)
noncomputable def siR1 (l : SL) : SI := fun C env st => (l C env st).bind fun ds st => match ds with
  | [.int j] => if rngI j then .ok ⟨(List.range j.toNat).map fun (i : Nat) => D.int (i : Int), []⟩ st else .stuck
  | _ => .stuck
noncomputable def siR2 (l : SL) : SI := fun C env st => (l C env st).bind fun ds st => match ds with
  | [.int i, .int j] => if rngI i && rngI j then .ok ⟨(List.range (j - i).toNat).map fun (k : Nat) => D.int (i + (k : Int)), []⟩ st else .stuck
  | _ => .stuck
theorem range_rep {H0 H : Hp} {ι : List Addr} (lo : Int) (n : Nat) : repW G H0 H ι ⟨(List.range n).map fun (k : Nat) => D.int (lo + (k : Int)), []⟩ (Itr lo n) := by
  intro H2 ι2 st2 e2 s2 _
  refine ⟨fun i d h => ?_, fun i h => ?_⟩
  · rw [List.getElem?_map] at h
    obtain ⟨k, hk, rfl⟩ := Option.map_eq_some_iff.mp h
    obtain ⟨hi, e⟩ := List.getElem?_eq_some_iff.mp hk
    simp at e hi
    subst e
    refine ⟨hi, fun x H3 hy => ?_⟩
    obtain ⟨rfl, rfl⟩ := hy
    exact ⟨Ext.refl _ _, s2, rfl⟩
  · have : n ≤ i := by simpa using h
    exact this
theorem di_r1 {tg e : Expr} {l : SL} (h : PI X tg e (iRng1 (tA G W C l))) : DI G X W C tg e (siR1 l) := pi_imp h fun σ H Q ⟨env, ι, st, hR, hp⟩ => sqA hR hp fun ds st1 vs H1 ι1 e1 hR1 r1 hp1 => by
  split at hp1
  · obtain ⟨_, _, rfl, rfl, rfl⟩ := r1
    split at hp1
    · rename_i j hz
      refine ⟨j, rfl, (tsd_of hz).1, (tsd_of hz).2, ?_⟩
      have q := range_rep (G := G) (H0 := H) (H := H1) (ι := ι1) 0 j.toNat
      simp only [Int.zero_add] at q
      exact hp1.here hR1.sto q
    · exact hp1.elim
  · exact hp1.elim
theorem di_r2 {tg e : Expr} {l : SL} (h : PI X tg e (iRng2 (tA G W C l))) : DI G X W C tg e (siR2 l) := pi_imp h fun σ H Q ⟨env, ι, st, hR, hp⟩ => sqA hR hp fun ds st1 vs H1 ι1 e1 hR1 r1 hp1 => by
  split at hp1
  · obtain ⟨_, _, rfl, rfl, _, _, rfl, rfl, rfl⟩ := r1
    split at hp1
    · rename_i i j hz
      have hz1 := tsd_of (Bool.and_eq_true_iff.mp hz).1
      have hz2 := tsd_of (Bool.and_eq_true_iff.mp hz).2
      exact ⟨i, j, rfl, ⟨hz1.1, hz1.2, hz2.1, hz2.2⟩, hp1.here hR1.sto (range_rep i (j - i).toNat)⟩
    · exact hp1.elim
  · exact hp1.elim
/-- over a tuple or list -/
theorem pi_seqG {tg l : Expr} {tl : TE} (hl : PE X l tl) : PI X tg l (fun σ H R => tl σ H fun x H1 => ∃ a, x = .ref a ∧ (((∃ xs, SqL X.K H1 a xs) ∧ R (Itl X.K a) H1) ∨ ((∃ xs, SqT X.K H1 a xs) ∧ R (Itt X.K a) H1))) := by
  refine ⟨fun pins s σ H R I h => ?_⟩
  refine thn (hl.run pins s σ H _ I h) fun v s1 ⟨x, H1, I1, r1, q1⟩ => ?_
  obtain ⟨a, e, q⟩ := q1
  subst e
  rcases q with ⟨⟨xs, hq⟩, q⟩ | ⟨⟨xs, hq⟩, q⟩
  · cases r1
    obtain ⟨its, rv, p, hz⟩ := I1.list hq
    refine wpAny_pyIter_list p.isList ?_
    refine ⟨s1.heap.objs.size, [s1.heap.objs.size], _, _, H1, rfl, I1.kept (t' := s1.toks) fun b o e => Heap.get?_push_of_some _ e, turn_list a _, ⟨_, Heap.get?_push_size _ rfl, rfl, rfl⟩, fun b hb => ?_, q⟩
    have e : b = s1.heap.objs.size := by simpa using hb
    subst e
    exact I1.fpOk (Nat.le_refl _) (I1.hok.fresh (Nat.le_refl _))
  · cases r1
    obtain ⟨its, rv, p, hz⟩ := I1.tuple hq
    refine wpAny_pyIter_tuple (show s1.heap.IsTuple a its.toArray from p) ?_
    refine ⟨s1.heap.objs.size, [s1.heap.objs.size], _, _, H1, rfl, I1.kept (t' := s1.toks) fun b o e => Heap.get?_push_of_some _ e, turn_tuple a _, ⟨_, Heap.get?_push_size _ rfl, rfl, rfl⟩, fun b hb => ?_, q⟩
    have e : b = s1.heap.objs.size := by simpa using hb
    subst e
    exact I1.fpOk (Nat.le_refl _) (I1.hok.fresh (Nat.le_refl _))
def siOf (m : SE) : SI := fun C env st => (m C env st).bind fun x st => match x with
  | .tup ds => .ok ⟨ds, []⟩ st
  | .scr ds => .ok ⟨ds, []⟩ st
  | .ref i => match lstAt st i with | some ds => .ok ⟨ds, [(i, ds)]⟩ st | none => .stuck
  | _ => .stuck
/-- an iterator over a list that is surely there -/
theorem itl_rep {K : PySem.W.Frag} {H : Hp} {ι : List Addr} {st : Sto} {a : Addr} {ds : List D} {xs : List V} (s : StoRep G H ι st) (hq : SqL K H a xs) (r : RepL G H ι ds xs) : (∀ (i : Nat) (d : D), ds[i]? = some d → (Itl K a).go i H ∧ ∀ x H3, (Itl K a).yld i H x H3 → Ext H ι H3 ι ∧ StoRep G H3 ι st ∧ Rep G H3 ι d x) ∧ ∀ i, ds.length ≤ i → (Itl K a).stop i H := by
  refine ⟨fun i d h => ?_, fun i h => ⟨xs, hq, by rw [r.length]; exact h⟩⟩
  obtain ⟨v, h1, h2⟩ := r.get h
  refine ⟨⟨xs, v, hq, h1⟩, fun x H3 ⟨e, hy⟩ => ?_⟩
  subst e
  have := hy xs hq
  rw [h1] at this; cases this
  exact ⟨Ext.refl _ _, s, h2⟩
theorem itt_rep {K : PySem.W.Frag} {H : Hp} {ι : List Addr} {st : Sto} {a : Addr} {ds : List D} {xs : List V} (s : StoRep G H ι st) (hq : SqT K H a xs) (r : RepL G H ι ds xs) : (∀ (i : Nat) (d : D), ds[i]? = some d → (Itt K a).go i H ∧ ∀ x H3, (Itt K a).yld i H x H3 → Ext H ι H3 ι ∧ StoRep G H3 ι st ∧ Rep G H3 ι d x) ∧ ∀ i, ds.length ≤ i → (Itt K a).stop i H := by
  refine ⟨fun i d h => ?_, fun i h => ⟨xs, hq, by rw [r.length]; exact h⟩⟩
  obtain ⟨v, h1, h2⟩ := r.get h
  refine ⟨⟨xs, v, hq, h1⟩, fun x H3 ⟨e, hy⟩ => ?_⟩
  subst e
  have := hy xs hq
  rw [h1] at this; cases this
  exact ⟨Ext.refl _ _, s, h2⟩
theorem di_of {tg e : Expr} {m : SE} (hK : X.K = G.K) (h : DE G X W C e m) : DI G X W C tg e (siOf m) := pi_imp (pi_seqG h) fun σ H Q ⟨env, ι, st, hR, hp⟩ => sqE hR hp fun x st1 v H1 ι1 e1 hR1 r1 hp1 => by
  rw [hK]
  cases x with
  | tup ds =>
    obtain ⟨a, xs, rfl, q, r⟩ := r1
    refine ⟨a, rfl, .inr ⟨⟨xs, q⟩, hp1.here hR1.sto ?_⟩⟩
    exact fun H2 ι2 st2 e2 s2 _ => itt_rep s2 (SqT.ext e2 hR1.sto.mut q) (r.ext e2 hR1.sto.mut)
  | scr ds =>
    obtain ⟨a, xs, rfl, q, r⟩ := r1
    refine ⟨a, rfl, .inl ⟨⟨xs, q.sq⟩, hp1.here hR1.sto ?_⟩⟩
    exact fun H2 ι2 st2 e2 s2 _ => itl_rep s2 (SqF.ext e2 hR1.sto.mut q).sq (r.ext e2 hR1.sto.mut)
  | ref i =>
    dsimp only at hp1
    split at hp1
    · rename_i ds e
      obtain ⟨a, xs, k1, k2, k3⟩ := hR1.sto.lst e
      obtain ⟨_, k1', rfl⟩ := r1
      rw [k1] at k1'; cases k1'
      refine ⟨a, rfl, .inl ⟨⟨xs, SqL.of k2⟩, hp1.here hR1.sto ?_⟩⟩
      intro H2 ι2 st2 e2 s2 hg
      have hl : lstAt st2 i = some ds := by
        unfold good at hg
        simp only [List.all_cons, List.all_nil, Bool.and_true, decide_eq_true_eq] at hg
        exact hg
      obtain ⟨a2, xs2, j1, j2, j3⟩ := s2.lst hl
      rw [e2.get k1] at j1; cases j1
      exact itl_rep s2 (SqL.of j2) j3
    · exact hp1.elim
  | _ => exact hp1.elim
/-- over a list of one's own -/
def siT (l : SL) : SI := fun C env st => (l C env st).bind fun ds st => .ok ⟨ds, []⟩ st
theorem di_tmp {tg e : Expr} {l : SL} (hK : X.K = G.K) (h : DT G X W C e l) : DI G X W C tg e (siT l) := pi_imp (pi_seqG h) fun σ H Q ⟨env, ι, st, hR, hp⟩ => by
  refine rG.seq (rep := repT G) hR hp fun ds st1 v H1 ι1 e1 hR1 ⟨a, xs, ev, h1, h2, h3, h4⟩ hp1 => ?_
  subst ev
  rw [hK]
  refine ⟨a, rfl, .inl ⟨⟨xs, SqL.of h1⟩, hp1.here hR1.sto ?_⟩⟩
  exact fun H2 ι2 st2 e2 s2 _ => itl_rep s2 (SqL.of (e2.keep a _ h1 h2)) (h4.ext e2 hR1.sto.mut)
end
end OH

set_option Elab.async false
set_option linter.all false
set_option maxRecDepth 100000
set_option maxHeartbeats 1000000
/-! OHLast: small rules in the form in which they are printed. -/
namespace OH
open PySem PySem.Spec PyProof.Rows L2
section
variable {G : Gx} {X : Cx} {W : WX} {C : Call}
theorem takesF {X : Cx} : Takes X WF := fun u s' ⟨_, _, _, _, _, _, _, _, _, _, _, _, _, _, _, _, w⟩ => w.elim
theorem de_globI {x : Str} {n : Int} {t : Tok} {pos : Pos} (hg : Gl X x) (hm : X.mg x = some (.int n t)) (hd : (x == ("__debug__" : Str)) = false := by decide) : DE G X W C (.Name x pos) (eC (.int n)) :=
  de_glob (pe_glob (v := .int n) hg hm ⟨t, rfl⟩ hd) fun _ _ => rfl
/-- the names of built-ins that the text has not bound -/
def Bl (mg : Str → Option Value) (x : Str) : Prop := mg x = none
theorem de_len {e : Expr} {m : SE} (hK : X.K = G.K) (h : PE X e (tCB (rLen X.K) (tCons (tE G W C m) tNil))) : DE G X W C e (eU1 lenR m) := de_c1 h (by rw [hK]; exact br_len)
theorem de_lenQ {e : Expr} {l : SL} (hK : X.K = G.K) (h : PE X e (tCB (rLen X.K) (tCons (tS G W C l) tNil))) : DE G X W C e (eA (fun st ds => .ok (.int ds.length) st) l) := de_cQ h (by rw [hK]; exact brq_len)
theorem de_sum {e : Expr} {l : SL} (hK : X.K = G.K) (h : PE X e (tCB (rSumA X.K) (tCons (tS G W C l) tNil))) : DE G X W C e (eA sumQ l) := de_cQ h (by rw [hK]; exact brq_sum)
theorem de_tupQ {e : Expr} {l : SL} (hK : X.K = G.K) (h : PE X e (tCB (fun xs H Q => ∃ p ys, xs = [.ref p] ∧ ((SqL X.K H p ys ∧ ∀ l, H l = none → Q (.ref l) (upd H l (.tup ys))) ∨ (SqT X.K H p ys ∧ Q (.ref p) H))) (tCons (tS G W C l) tNil))) : DE G X W C e (eA tupQ l) := de_cQ h (by rw [hK]; exact brq_tup)
theorem dt_list {e : Expr} {l : SL} (hK : X.K = G.K) (h : PE X e (tCB (fun xs H Q => ∃ p ys, xs = [.ref p] ∧ (SqL X.K H p ys ∨ SqT X.K H p ys) ∧ ∀ l, H l = none → Q (.ref l) (upd H l (.lst ys))) (tCons (tS G W C l) tNil))) : DT G X W C e (lMap (fun _ ds => some ds) l) := dt_cQ h (by rw [hK]; exact brqt_list)
theorem hu64 {k : Nat} {A : Around} (hr : Room k A) : A.units + 64 < cLine := hr.units
end
end OH

set_option Elab.async false
set_option linter.all false
set_option maxRecDepth 100000
set_option maxHeartbeats 1000000
/-! OHMore: order of data, membership, errors raised, more built-ins. -/
namespace OH
open PySem PySem.Spec PyProof.Rows L2

/-! ### order -/
inductive O4 where | lt | le | gt | ge
  deriving DecidableEq
def O4.op : O4 → CmpOp
  | .lt => .Lt | .le => .LtE | .gt => .Gt | .ge => .GtE
def O4.i : O4 → Int → Int → Bool
  | .lt, a, b => decide (a < b) | .le, a, b => decide (a ≤ b) | .gt, a, b => decide (b < a) | .ge, a, b => decide (b ≤ a)
def O4.n : O4 → Nat → Nat → Bool
  | .lt, a, b => decide (a < b) | .le, a, b => decide (a ≤ b) | .gt, a, b => decide (a > b) | .ge, a, b => decide (a ≥ b)
def O4.s : O4 → Str → Str → Bool
  | .lt, a, b => decide (a.cps.toList < b.cps.toList) | .le, a, b => !decide (b.cps.toList < a.cps.toList) | .gt, a, b => decide (b.cps.toList < a.cps.toList) | .ge, a, b => !decide (a.cps.toList < b.cps.toList)
/-- equal as data, both without lists -/
def eqP (x y : D) : Option Bool := (datP (fun _ => none) x).bind fun d => (datP (fun _ => none) y).bind fun e => if SeqAt.shaped d = true ∧ SeqAt.shaped e = true then some (PyData.eqv d e) else none
def lexD (eq ord : D → D → Option Bool) (z : Nat → Nat → Bool) : List D → List D → Option Bool
  | a :: as, b :: bs => (eq a b).bind fun e => (if e then some true else ord a b).bind fun r => (lexD eq ord z as bs).map fun t => if e then t else r
  | as, bs => some (z as.length bs.length)
def ordN (o : O4) : Nat → D → D → Option Bool
  | _, .int i, .int j => some (o.i i j)
  | _, .str x, .str y => some (o.s x y)
  | n + 1, .tup as, .tup bs => lexD eqP (ordN o n) o.n as bs
  | _, _, _ => none
def ltD : Sto → D → D → Option Bool := fun _ => ordN .lt 4
def leD : Sto → D → D → Option Bool := fun _ => ordN .le 4
def gtD : Sto → D → D → Option Bool := fun _ => ordN .gt 4
def geD : Sto → D → D → Option Bool := fun _ => ordN .ge 4
theorem lexAt_shift (e r : Nat → Bool) (z : Bool) : ∀ (k i : Nat), Ob.lexAt e r z (i + 1) k = Ob.lexAt (fun j => e (j + 1)) (fun j => r (j + 1)) z i k
  | 0, i => rfl
  | k + 1, i => by
    rw [Ob.lexAt_succ, Ob.lexAt_succ]
    rw [lexAt_shift e r z k (i + 1)]
theorem rc_tup {A : Around} {s : Shared} (o : O4) {l b : Addr} {items items2 : Array Value} {e r : Nat → Bool} (hl : s.heap.IsTuple l items) (hb : s.heap.IsTuple b items2) (hu : A.units < cLine)
    (he : ∀ j (h1 : j < items.size) (h2 : j < items2.size), SeqAt.EqAt A.in1 s items[j] items2[j] (e j))
    (hr : ∀ j (h1 : j < items.size) (h2 : j < items2.size), e j = false → Ob.RcOp o.op A.in1 s items[j] items2[j] (r j)) :
    Ob.RcOp o.op A s (.ref l) (.ref b) (Ob.lexAt e r (o.n items.size items2.size) 0 (min items.size items2.size)) := by
  cases o with
  | lt => exact Ob.RcOp.tuples_lt hl hb hu he hr
  | le => exact Ob.RcOp.tuples_le hl hb hu he hr
  | gt => exact Ob.RcOp.tuples_gt hl hb hu he hr
  | ge => exact Ob.RcOp.tuples_ge hl hb hu he hr
theorem rc_int {A : Around} {s : Shared} (o : O4) (a b : Int) (t u : Tok) : Ob.RcOp o.op A s (.int a t) (.int b u) (o.i a b) := by
  cases o with
  | lt => exact Ob.RcOp.lt_int a b t u
  | le => exact Ob.RcOp.le_int a b t u
  | gt => exact Ob.RcOp.gt_int a b t u
  | ge => exact Ob.RcOp.ge_int a b t u
theorem rc_str {A : Around} {s : Shared} (o : O4) (a b : Str) (t u : Tok) : Ob.RcOp o.op A s (.str a t) (.str b u) (o.s a b) := fun prog w E Q h => by
  cases o with
  | lt => exact PyProof.Rows.lt_str h
  | le => exact PySem.P.le_str h
  | gt => exact PySem.P.gt_str h
  | ge => exact PySem.P.ge_str h
theorem lexD_at {eq ord : D → D → Option Bool} {z : Nat → Nat → Bool} (hz : ∀ a b, z (a + 1) (b + 1) = z a b) : ∀ {as bs : List D} {k : Bool}, lexD eq ord z as bs = some k →
    ∃ e r : Nat → Bool, (∀ (j : Nat) (x y : D), as[j]? = some x → bs[j]? = some y → eq x y = some (e j) ∧ (e j = false → ord x y = some (r j))) ∧ Ob.lexAt e r (z as.length bs.length) 0 (min as.length bs.length) = k
  | [], bs, k, h => by
    simp only [lexD] at h
    cases h
    exact ⟨fun _ => true, fun _ => true, fun j x y h => by simp at h, by simp [Ob.lexAt]⟩
  | a :: as, [], k, h => by
    simp only [lexD] at h
    cases h
    exact ⟨fun _ => true, fun _ => true, fun j x y h h' => by simp at h', by simp [Ob.lexAt]⟩
  | a :: as, b :: bs, k, h => by
    simp only [lexD] at h
    obtain ⟨e0, h1, h2⟩ := Option.bind_eq_some_iff.mp h
    obtain ⟨r0, h3, h4⟩ := Option.bind_eq_some_iff.mp h2
    obtain ⟨t, h5, rfl⟩ := Option.map_eq_some_iff.mp h4
    obtain ⟨e, r, q1, q2⟩ := lexD_at hz h5
    refine ⟨fun j => match j with | 0 => e0 | j + 1 => e j, fun j => match j with | 0 => r0 | j + 1 => r j, fun j x y hx hy => ?_, ?_⟩
    · cases j with
      | zero =>
        simp at hx hy
        subst hx; subst hy
        refine ⟨h1, fun z => ?_⟩
        have z : e0 = false := z
        rw [z] at h3
        simpa using h3
      | succ j =>
        simp at hx hy
        exact q1 j x y hx hy
    · have hm : min (a :: as).length (b :: bs).length = min as.length bs.length + 1 := by simp [Nat.succ_min_succ]
      rw [hm, Ob.lexAt_succ, lexAt_shift]
      simp only [List.length_cons, hz]
      rw [q2]
theorem eqP_at {G : Gx} {X : Cx} {pins : List (Addr × Obj)} {σ : L2.St} {H : Hp} {s : Shared} {ι : List Addr} {st : Sto} (hK : X.K = G.K) (I : L2.Inv X pins σ H s) (sr : StoRep G H ι st) {A : Around} (hu : A.units + 64 < cLine) {x y : D} {v u : V} {v' u' : Value} {k : Bool}
    (rx : Rep G H ι x v) (ry : Rep G H ι y u) (rv : RelV v v') (ru : RelV u u') (h : eqP x y = some k) : SeqAt.EqAt A s v' u' k := by
  unfold eqP at h
  obtain ⟨d, h1, h2⟩ := Option.bind_eq_some_iff.mp h
  obtain ⟨e, h3, h4⟩ := Option.bind_eq_some_iff.mp h2
  split at h4
  · rename_i hs
    cases h4
    have d1 : Dp X.K H v d := by rw [hK]; exact datP_rep (fun _ _ _ z => by cases z) rx h1
    have d2 : Dp X.K H u e := by rw [hK]; exact datP_rep (fun _ _ _ z => by cases z) ry h3
    obtain ⟨as, r1⟩ := Dp.reads I d v v' d1 rv
    obtain ⟨bs, r2⟩ := Dp.reads I e u u' d2 ru
    exact SeqAt.eqAt_reads d e A s v' u' as bs r1 r2 (SeqAt.canLay_of_shaped hs.1) (SeqAt.canLay_of_shaped hs.2) (SeqAt.room_of_shaped hs.1 hu)
  · cases h4
theorem ordN_rc {G : Gx} {X : Cx} {pins : List (Addr × Obj)} {σ : L2.St} {H : Hp} {s : Shared} {ι : List Addr} {st : Sto} (hK : X.K = G.K) (I : L2.Inv X pins σ H s) (sr : StoRep G H ι st) (o : O4) : ∀ (n : Nat) {A : Around}, A.units + n + 65 < cLine → ∀ {x y : D} {v u : V} {v' u' : Value} {k : Bool},
    Rep G H ι x v → Rep G H ι y u → RelV v v' → RelV u u' → ordN o n x y = some k → Ob.RcOp o.op A s v' u' k := by
  intro n
  induction n with
  | zero =>
    intro A hu x y v u v' u' k rx ry rv ru h
    unfold ordN at h
    split at h
    · cases h; cases rx; cases ry
      obtain ⟨t, rfl⟩ := rv
      obtain ⟨t', rfl⟩ := ru
      exact rc_int o _ _ _ _
    · cases h; cases rx; cases ry
      obtain ⟨t, rfl⟩ := rv
      obtain ⟨t', rfl⟩ := ru
      exact rc_str o _ _ _ _
    · rename_i e; exact absurd e (by simp)
    · cases h
  | succ n ih =>
    intro A hu x y v u v' u' k rx ry rv ru h
    unfold ordN at h
    split at h
    · cases h; cases rx; cases ry
      obtain ⟨t, rfl⟩ := rv
      obtain ⟨t', rfl⟩ := ru
      exact rc_int o _ _ _ _
    · cases h; cases rx; cases ry
      obtain ⟨t, rfl⟩ := rv
      obtain ⟨t', rfl⟩ := ru
      exact rc_str o _ _ _ _
    · rename_i m as bs e
      have em : m = n := by injection e with e; exact e.symm
      subst em
      obtain ⟨a, xs, rfl, q1, r1⟩ := rx
      obtain ⟨b, ys, rfl, q2, r2⟩ := ry
      cases rv; cases ru
      rw [← hK] at q1 q2
      obtain ⟨its, k1, p1, _⟩ := I.tuple q1
      obtain ⟨its2, k2, p2, _⟩ := I.tuple q2
      have hz : ∀ a b, o.n (a + 1) (b + 1) = o.n a b := by intro a b; cases o <;> simp [O4.n]
      obtain ⟨e, r, h1, h2⟩ := lexD_at hz h
      have l1 : its.toArray.size = as.length := by rw [List.size_toArray, ← k1.length, r1.length]
      have l2 : its2.toArray.size = bs.length := by rw [List.size_toArray, ← k2.length, r2.length]
      have hu1 : A.in1.units + m + 65 < cLine := by show A.units + 1 + m + 65 < cLine; omega
      have key : ∀ j (g1 : j < its.toArray.size) (g2 : j < its2.toArray.size), ∃ x y vx vy, as[j]? = some x ∧ bs[j]? = some y ∧ Rep G H ι x vx ∧ Rep G H ι y vy ∧ RelV vx its.toArray[j] ∧ RelV vy its2.toArray[j] := by
        intro j g1 g2
        have j1 : j < as.length := by omega
        have j2 : j < bs.length := by omega
        obtain ⟨vx, a1, a2⟩ := r1.get (i := j) (d := as[j]) (by simp [j1])
        obtain ⟨vy, b1, b2⟩ := r2.get (i := j) (d := bs[j]) (by simp [j2])
        obtain ⟨ux, c1, c2⟩ := k1.get a1
        obtain ⟨uy, d1, d2⟩ := k2.get b1
        refine ⟨as[j], bs[j], vx, vy, by simp [j1], by simp [j2], a2, b2, ?_, ?_⟩
        · have : its.toArray[j] = ux := by
            simp at g1
            rw [List.getElem?_eq_getElem g1] at c1
            simpa using c1
          rw [this]; exact c2
        · have : its2.toArray[j] = uy := by
            simp at g2
            rw [List.getElem?_eq_getElem g2] at d1
            simpa using d1
          rw [this]; exact d2
      have R := rc_tup (A := A) (s := s) o (e := e) (r := r) p1 p2 (by omega) (fun j g1 g2 => by
        obtain ⟨x, y, vx, vy, e1, e2, q1, q2, q3, q4⟩ := key j g1 g2
        exact eqP_at hK I sr (by show A.units + 1 + 64 < cLine; omega) q1 q2 q3 q4 (h1 j x y e1 e2).1) (fun j g1 g2 hf => by
        obtain ⟨x, y, vx, vy, e1, e2, q1, q2, q3, q4⟩ := key j g1 g2
        exact ih hu1 q1 q2 q3 q4 ((h1 j x y e1 e2).2 hf))
      rw [l1, l2, h2] at R
      exact R
    · cases h
/-- the comparison of data by o -/
def rOrd (G : Gx) (o : O4) : R2 := fun v u H Q => ∃ x y ι st k, StoRep G H ι st ∧ Rep G H ι x v ∧ Rep G H ι y u ∧ ordN o 4 x y = some k ∧ Q (.bl k) H
theorem op_ord {G : Gx} {X : Cx} {k : Nat} (hK : X.K = G.K) (hr : Room k X.A) (o : O4) : OpR X (compareOp o.op) (rOrd G o) := by
  intro pins s σ H v u v' u' Q I rv ru ⟨x, y, ι, st, k, sr, rx, ry, e, q⟩
  have R := ordN_rc hK I sr o 4 (A := X.A) (by have := hr.un; omega) rx ry rv ru e
  have fin : EP X pins σ Q (.bool k) s := ⟨.bl k, H, I, rfl, q⟩
  cases o with
  | lt => exact R X.prog X.w X.xe _ fin
  | le => exact R X.prog X.w X.xe _ fin
  | gt => exact R X.prog X.w X.xe _ fin
  | ge => exact R X.prog X.w X.xe _ fin
theorem br_ord {G : Gx} (o : O4) : Br2 G (rOrd G o) (cB fun _ => ordN o 4) := by
  intro W H ι st x y v u Q s rx ry h
  unfold cB at h
  obtain ⟨d, e, h⟩ := h.opt
  obtain ⟨k, e1, rfl⟩ := Option.map_eq_some_iff.mp e
  exact ⟨x, y, ι, st, k, s, rx, ry, e1, h.here s (v := .bl _) rfl⟩
section
variable {G : Gx} {X : Cx} {W : WX} {C : Call} {k : Nat}
theorem db_lt (hK : X.K = G.K) (hr : Room k X.A) {a b : Expr} {ma mb : SE} {pos : Pos} (ha : DE G X W C a ma) (hb : DE G X W C b mb) : DB G X W C (.Compare a [.Lt] [b] pos) (bCmp ltD ma mb) := db_cmp (op_ord hK hr .lt) (br_ord .lt) ha hb (nomark _)
theorem db_le (hK : X.K = G.K) (hr : Room k X.A) {a b : Expr} {ma mb : SE} {pos : Pos} (ha : DE G X W C a ma) (hb : DE G X W C b mb) : DB G X W C (.Compare a [.LtE] [b] pos) (bCmp leD ma mb) := db_cmp (op_ord hK hr .le) (br_ord .le) ha hb (nomark _)
theorem db_gt (hK : X.K = G.K) (hr : Room k X.A) {a b : Expr} {ma mb : SE} {pos : Pos} (ha : DE G X W C a ma) (hb : DE G X W C b mb) : DB G X W C (.Compare a [.Gt] [b] pos) (bCmp gtD ma mb) := db_cmp (op_ord hK hr .gt) (br_ord .gt) ha hb (nomark _)
theorem db_ge (hK : X.K = G.K) (hr : Room k X.A) {a b : Expr} {ma mb : SE} {pos : Pos} (ha : DE G X W C a ma) (hb : DE G X W C b mb) : DB G X W C (.Compare a [.GtE] [b] pos) (bCmp geD ma mb) := db_cmp (op_ord hK hr .ge) (br_ord .ge) ha hb (nomark _)
theorem de_lt (hK : X.K = G.K) (hr : Room k X.A) {a b : Expr} {ma mb : SE} {pos : Pos} (ha : DE G X W C a ma) (hb : DE G X W C b mb) : DE G X W C (.Compare a [.Lt] [b] pos) (eB2 (cB ltD) ma mb) := de_cmp (op_ord hK hr .lt) (br_ord .lt) ha hb (nomark _)
theorem de_le (hK : X.K = G.K) (hr : Room k X.A) {a b : Expr} {ma mb : SE} {pos : Pos} (ha : DE G X W C a ma) (hb : DE G X W C b mb) : DE G X W C (.Compare a [.LtE] [b] pos) (eB2 (cB leD) ma mb) := de_cmp (op_ord hK hr .le) (br_ord .le) ha hb (nomark _)
theorem de_gt (hK : X.K = G.K) (hr : Room k X.A) {a b : Expr} {ma mb : SE} {pos : Pos} (ha : DE G X W C a ma) (hb : DE G X W C b mb) : DE G X W C (.Compare a [.Gt] [b] pos) (eB2 (cB gtD) ma mb) := de_cmp (op_ord hK hr .gt) (br_ord .gt) ha hb (nomark _)
theorem de_ge (hK : X.K = G.K) (hr : Room k X.A) {a b : Expr} {ma mb : SE} {pos : Pos} (ha : DE G X W C a ma) (hb : DE G X W C b mb) : DE G X W C (.Compare a [.GtE] [b] pos) (eB2 (cB geD) ma mb) := de_cmp (op_ord hK hr .ge) (br_ord .ge) ha hb (nomark _)
end

/-! ### in -/
def inB : Sto → D → D → Option Bool := fun st x y => match x, y with
  | .str a, .str b => some (!(Builtin.Str.occurrences b a 0 b.length 1).isEmpty)
  | x, y => (dat st 4 x).bind fun d => (dat st 4 y).bind fun e => match e with
    | .list ds => if SeqAt.shaped d = true ∧ SeqAt.shaped (.list ds) = true then some (ds.any fun z => PyData.eqv z d) else none
    | .tuple ds => if SeqAt.shaped d = true ∧ SeqAt.shaped (.tuple ds) = true then some (ds.any fun z => PyData.eqv z d) else none
    | _ => none
def ninB : Sto → D → D → Option Bool := fun st x y => (inB st x y).map (!·)
def rInT (K : PySem.W.Frag) (neg : Bool) : R2 := fun x y H Q => ∃ d ds, Dp K H x d ∧ Dp K H y (.tuple ds) ∧ SeqAt.shaped d = true ∧ SeqAt.shaped (.tuple ds) = true ∧ Q (.bl (if neg then !ds.any fun z => PyData.eqv z d else ds.any fun z => PyData.eqv z d)) H
section
variable {G : Gx} {X : Cx} {W : WX} {C : Call} {k : Nat}
theorem canAll_of {ds : List PyData} (h : SeqAt.shaped (.tuple ds) = true) : PyData.canLayAll0 ds = true := by
  have := SeqAt.canLay_of_shaped h
  simpa [PyData.canLay0] using this
theorem op_inT (hu : X.A.units + 65 < cLine) : OpR X (compareOp .In) (rInT X.K false) := by
  intro pins s σ H x y v u Q I rx ry h
  obtain ⟨d, ds, hd, he, sd, se, q⟩ := h
  obtain ⟨as, r1⟩ := Dp.reads I d x v hd rx
  obtain ⟨bs, r2⟩ := Dp.reads I (.tuple ds) y u he ry
  exact SeqAt.in_tuple_reads r2 r1 (canAll_of se) (SeqAt.canLay_of_shaped sd) (room_in_shaped sd hu) ⟨.bl _, H, I, rfl, q⟩
theorem op_ninT (hu : X.A.units + 65 < cLine) : OpR X (compareOp .NotIn) (rInT X.K true) := by
  intro pins s σ H x y v u Q I rx ry h
  obtain ⟨d, ds, hd, he, sd, se, q⟩ := h
  obtain ⟨as, r1⟩ := Dp.reads I d x v hd rx
  obtain ⟨bs, r2⟩ := Dp.reads I (.tuple ds) y u he ry
  exact SeqAt.notIn_tuple_reads r2 r1 (canAll_of se) (SeqAt.canLay_of_shaped sd) (room_in_shaped sd hu) ⟨.bl _, H, I, rfl, q⟩
def rInA (K : PySem.W.Frag) : R2 := fun x y H Q => (∃ i j, x = .str i ∧ y = .str j ∧ Q (.bl (!(Builtin.Str.occurrences j i 0 j.length 1).isEmpty)) H) ∨ rInD K x y H Q ∨ rInT K false x y H Q
def rNinA (K : PySem.W.Frag) : R2 := fun x y H Q => (∃ i j, x = .str i ∧ y = .str j ∧ Q (.bl (!(!(Builtin.Str.occurrences j i 0 j.length 1).isEmpty))) H) ∨ rNotInD K x y H Q ∨ rInT K true x y H Q
theorem op_inA (hu : X.A.units + 65 < cLine) : OpR X (compareOp .In) (rInA X.K) := op_in_str.or ((op_inD hu).or (op_inT hu))
theorem op_ninA (hu : X.A.units + 65 < cLine) : OpR X (compareOp .NotIn) (rNinA X.K) := op_notin_str.or ((op_notInD hu).or (op_ninT hu))
theorem br_in : Br2 G (rInA G.K) (cB inB) := by
  intro W H ι st x y v u Q s rx ry h
  unfold cB at h
  obtain ⟨d, e, h⟩ := h.opt
  obtain ⟨k, e1, rfl⟩ := Option.map_eq_some_iff.mp e
  unfold inB at e1
  split at e1
  · cases rx; cases ry; cases e1
    exact .inl ⟨_, _, rfl, rfl, h.here s (v := .bl _) rfl⟩
  · obtain ⟨p, q1, e2⟩ := Option.bind_eq_some_iff.mp e1
    obtain ⟨p', q2, e3⟩ := Option.bind_eq_some_iff.mp e2
    split at e3
    · split at e3
      · rename_i hs
        cases e3
        exact .inr (.inl ⟨p, _, dat_rep s _ _ _ _ rx q1, dat_rep s _ _ _ _ ry q2, hs.1, hs.2, h.here s (v := .bl _) rfl⟩)
      · cases e3
    · split at e3
      · rename_i hs
        cases e3
        exact .inr (.inr ⟨p, _, dat_rep s _ _ _ _ rx q1, dat_rep s _ _ _ _ ry q2, hs.1, hs.2, h.here s (v := .bl _) rfl⟩)
      · cases e3
    · cases e3
theorem br_nin : Br2 G (rNinA G.K) (cB ninB) := by
  intro W H ι st x y v u Q s rx ry h
  unfold cB ninB at h
  obtain ⟨d, e, h⟩ := h.opt
  obtain ⟨k, e0, rfl⟩ := Option.map_eq_some_iff.mp e
  obtain ⟨k', e1, rfl⟩ := Option.map_eq_some_iff.mp e0
  unfold inB at e1
  split at e1
  · cases rx; cases ry; cases e1
    exact .inl ⟨_, _, rfl, rfl, h.here s (v := .bl _) rfl⟩
  · obtain ⟨p, q1, e2⟩ := Option.bind_eq_some_iff.mp e1
    obtain ⟨p', q2, e3⟩ := Option.bind_eq_some_iff.mp e2
    split at e3
    · split at e3
      · rename_i hs
        cases e3
        exact .inr (.inl ⟨p, _, dat_rep s _ _ _ _ rx q1, dat_rep s _ _ _ _ ry q2, hs.1, hs.2, h.here s (v := .bl _) rfl⟩)
      · cases e3
    · split at e3
      · rename_i hs
        cases e3
        exact .inr (.inr ⟨p, _, dat_rep s _ _ _ _ rx q1, dat_rep s _ _ _ _ ry q2, hs.1, hs.2, h.here s (v := .bl _) rfl⟩)
      · cases e3
    · cases e3
theorem hu65 {A : Around} (hr : Room k A) : A.units + 65 < cLine := by have := hr.un; omega
theorem db_in (hK : X.K = G.K) (hr : Room k X.A) {a b : Expr} {ma mb : SE} {pos : Pos} (ha : DE G X W C a ma) (hb : DE G X W C b mb) (hm : behindInMarks .In b = false := by rfl) : DB G X W C (.Compare a [.In] [b] pos) (bCmp inB ma mb) := db_cmp (op_inA (hu65 hr)) (by rw [hK]; exact br_in) ha hb hm
theorem de_in (hK : X.K = G.K) (hr : Room k X.A) {a b : Expr} {ma mb : SE} {pos : Pos} (ha : DE G X W C a ma) (hb : DE G X W C b mb) (hm : behindInMarks .In b = false := by rfl) : DE G X W C (.Compare a [.In] [b] pos) (eB2 (cB inB) ma mb) := de_cmp (op_inA (hu65 hr)) (by rw [hK]; exact br_in) ha hb hm
theorem db_nin (hK : X.K = G.K) (hr : Room k X.A) {a b : Expr} {ma mb : SE} {pos : Pos} (ha : DE G X W C a ma) (hb : DE G X W C b mb) (hm : behindInMarks .NotIn b = false := by rfl) : DB G X W C (.Compare a [.NotIn] [b] pos) (bCmp ninB ma mb) := db_cmp (op_ninA (hu65 hr)) (by rw [hK]; exact br_nin) ha hb hm
theorem de_nin (hK : X.K = G.K) (hr : Room k X.A) {a b : Expr} {ma mb : SE} {pos : Pos} (ha : DE G X W C a ma) (hb : DE G X W C b mb) (hm : behindInMarks .NotIn b = false := by rfl) : DE G X W C (.Compare a [.NotIn] [b] pos) (eB2 (cB ninB) ma mb) := de_cmp (op_ninA (hu65 hr)) (by rw [hK]; exact br_nin) ha hb hm

/-! ### raise X('..') -/
def sRaise (c : Nat) : SS := fun _ env st => .exc c .non env st
structure ExAt (K : PySem.W.Frag) (mg : Str → Option Value) (G : Gx) (c : Nat) (x : Str) : Prop where
  ex : PySem.W.excIn K (G.ca c) [.type "ValueError", .type "Exception", .type "BaseException", .type "object"] "ValueError.__new__" = true
  g : mg x = some (.ref (G.ca c))
  kp : PySem.W.keepIn K (.ref (G.ca c)) = true
  sb : PySem.W.subIn K (.ref (G.ca c)) (.type "BaseException") = some true
  ty : PySem.W.typeIn K (.ref (G.ca c)) = some (.type "type")
theorem ds_raise {c : Nat} {x m : Str} {j : Nat} {p p2 pos pos2 : Pos} (hc : X.calm = true) (tk : Takes X W) (hE : ExAt X.K X.mg G c x) (hg : Gl X x) (hdb : (x == ("__debug__" : Str)) = false := by decide) :
    DS G X W C (.Raise (some (.Call (.Name x p) [.Constant (.str m) j p2] [] pos)) none pos2) (sRaise c) :=
  ps_imp (ps_raise hc tk (pmk_own PySem.F.excBase_ValueError hE.ex hE.g hE.kp (raises_own hE.sb hE.ty) hg hdb)) fun K σ H ⟨env, ι, st, hR, hp⟩ => hp _ none σ H ι (Ext.refl _ _) hR ⟨rfl, rfl⟩

/-! ### {} -/
def eDct0 : SE := fun _ _ st => .ok (.ref st.length) (st ++ [.dct []])
theorem de_dct0 {pos : Pos} : DE G X W C (.Dict [] [] pos) eDct0 := pe_imp pe_dnewK fun σ H Q ⟨env, ι, st, hR, hp⟩ => fun p hp' => by
  refine hp (.ref p) (upd H p (.dK [])) (ι ++ [p]) (ext_take hp') ?_ ⟨p, by rw [← hR.sto.len]; simp, rfl⟩
  exact (hR.sto.fresh hp').push (hR.sto.notin hp') (.inl ⟨[], [], upd_same, rfl, rfl, rfl⟩)

/-! ### lists alone that are read: all, any, min, max -/
def repL1 (G : Gx) : Hp → Hp → List Addr → List D → V → Prop := fun _ H ι ds v => ∃ a xs, v = .ref a ∧ SqL G.K H a xs ∧ RepL G H ι ds xs
def DL (G : Gx) (X : Cx) (W : WX) (C : Call) (e : Expr) (m : SL) : Prop := PE X e (rG G W C (repL1 G) m)
def itemsL (st : Sto) : D → Option (List D)
  | .ref i => lstAt st i
  | .scr ds => some ds
  | _ => none
def lSeqL (a : SE) : SL := fun C env st => (a C env st).bind fun x st => Res.of (itemsL st x) st
theorem dl_tmp {e : Expr} {l : SL} (h : DT G X W C e l) : DL G X W C e l :=
  pe_imp h fun σ H Q ⟨env, ι, st, hR, hp⟩ => ⟨env, ι, st, hR, by
    generalize l C env st = r at hp
    cases r with
    | ok ds st1 => exact fun v H1 ι1 e s ⟨a, xs, ev, h1, h2, h3, h4⟩ => hp v H1 ι1 e s ⟨a, xs, ev, SqL.of h1, h4⟩
    | exc c x st1 => exact hp
    | stuck => exact hp⟩
theorem dl_of {e : Expr} {m : SE} (h : DE G X W C e m) : DL G X W C e (lSeqL m) :=
  pe_imp h fun σ H Q ⟨env, ι, st, hR, hp⟩ => sqE hR hp fun x st1 v H1 ι1 e1 hR1 r1 hp1 => by
    obtain ⟨ds, e, hp2⟩ := hp1.opt
    cases x with
    | ref i =>
      obtain ⟨a, xs, k1, k2, k3⟩ := hR1.sto.lst e
      obtain ⟨_, k1', rfl⟩ := r1
      rw [k1] at k1'; cases k1'
      exact hp2.here hR1.sto ⟨a, xs, rfl, SqL.of k2, k3⟩
    | scr ds' =>
      cases e
      obtain ⟨a, xs, rfl, q, r⟩ := r1
      exact hp2.here hR1.sto ⟨a, xs, rfl, q.sq, r⟩
    | _ => cases e
def BrL (G : Gx) (r : List V → Hp → VK → Prop) (g : Sto → List D → Res D) : Prop := ∀ (W : Value → Option Addr → Hp → Prop) (H : Hp) (ι : List Addr) (st : Sto) (ds : List D) (a : Addr) (xs : List V) (Q : VK), StoRep G H ι st → SqL G.K H a xs → RepL G H ι ds xs → post G (Rep G) W H ι Q (g st ds) → r [.ref a] H Q
theorem de_cL {e : Expr} {r : List V → Hp → VK → Prop} {g : Sto → List D → Res D} {l : SL} (h : PE X e (tCB r (tCons (rG G W C (repL1 G) l) tNil))) (br : BrL G r g) : DE G X W C e (eA g l) :=
  pe_imp h fun σ H Q ⟨env, ι, st, hR, hp⟩ => rG.seq (rep := repL1 G) hR hp fun ds st1 v H1 ι1 e1 hR1 ⟨a, xs, ev, q1, r1⟩ hp1 => by
    subst ev
    exact br _ H1 ι1 st1 ds a xs Q hR1.sto q1 r1 hp1
def boolsOf : List D → Option (List Bool)
  | [] => some []
  | .bl i :: ds => (boolsOf ds).map fun is => i :: is
  | _ :: _ => none
theorem boolsOf_eq : ∀ {ds : List D} {ns : List Bool}, boolsOf ds = some ns → ds = ns.map D.bl
  | [], _, h => by cases h; rfl
  | .bl i :: ds, ns, h => by
    simp only [boolsOf] at h
    obtain ⟨is, e, rfl⟩ := Option.map_eq_some_iff.mp h
    rw [boolsOf_eq e]; rfl
  | .non :: _, _, h => by cases h
  | .int _ :: _, _, h => by cases h
  | .str _ :: _, _, h => by cases h
  | .tup _ :: _, _, h => by cases h
  | .ref _ :: _, _, h => by cases h
  | .fn _ :: _, _, h => by cases h
  | .scr _ :: _, _, h => by cases h
@[simp] theorem boolsOf_map (ns : List Bool) : boolsOf (ns.map D.bl) = some ns := by
  induction ns with
  | nil => rfl
  | cons n ns ih => simp [boolsOf, ih]
theorem RepL.bools {H : Hp} {ι : List Addr} : ∀ {ds : List D} {vs : List V} {ns : List Bool}, RepL G H ι ds vs → ds = ns.map D.bl → vs = ns.map V.bl
  | [], _, [], h, _ => by cases h; rfl
  | [], _, n :: ns, h, e => by simp at e
  | d :: ds, _, [], _, e => by simp at e
  | d :: ds, _, n :: ns, ⟨v, r, e1, e2, e3⟩, e => by
    subst e1
    simp at e
    obtain ⟨rfl, e⟩ := e
    cases e2
    simp [RepL.bools e3 e]
def allQ : Sto → List D → Res D := fun st ds => match boolsOf ds with | some bs => .ok (.bl (bs.all id)) st | none => .stuck
def anyQ : Sto → List D → Res D := fun st ds => match boolsOf ds with | some bs => .ok (.bl (bs.any id)) st | none => .stuck
def maxQ : Sto → List D → Res D := fun st ds => match intsOf ds with | some ns => if ns ≠ [] then .ok (.int (maxL ns)) st else .stuck | none => .stuck
def minQ : Sto → List D → Res D := fun st ds => match intsOf ds with | some ns => if ns ≠ [] then .ok (.int (minL ns)) st else .stuck | none => .stuck
theorem brl_all : BrL G (rAll G.K) allQ := by
  intro W H ι st ds a xs Q s q r h
  unfold allQ at h
  split at h
  · rename_i bs e
    have e2 := r.bools (boolsOf_eq e)
    subst e2
    exact ⟨a, bs, rfl, q, h.here s (v := .bl _) rfl⟩
  · exact h.elim
theorem brl_any : BrL G (rAny G.K) anyQ := by
  intro W H ι st ds a xs Q s q r h
  unfold anyQ at h
  split at h
  · rename_i bs e
    have e2 := r.bools (boolsOf_eq e)
    subst e2
    exact ⟨a, bs, rfl, q, h.here s (v := .bl _) rfl⟩
  · exact h.elim
theorem brl_max : BrL G (rMax G.K) maxQ := by
  intro W H ι st ds a xs Q s q r h
  unfold maxQ at h
  split at h
  · rename_i ns e
    have e2 := r.ints (intsOf_eq e)
    subst e2
    split at h
    · rename_i hne
      refine ⟨a, ns, rfl, q, List.length_pos_iff.mpr hne, fun m hm hle => ?_⟩
      obtain ⟨h1, h2⟩ := maxL_spec hne
      have : m = maxL ns := Int.le_antisymm (h2 m hm) (hle _ h1)
      subst this
      exact h.here s (v := .int _) rfl
    · exact h.elim
  · exact h.elim
theorem brl_min : BrL G (rMin G.K) minQ := by
  intro W H ι st ds a xs Q s q r h
  unfold minQ at h
  split at h
  · rename_i ns e
    have e2 := r.ints (intsOf_eq e)
    subst e2
    split at h
    · rename_i hne
      refine ⟨a, ns, rfl, q, List.length_pos_iff.mpr hne, fun m hm hle => ?_⟩
      obtain ⟨h1, h2⟩ := minL_spec hne
      have : m = minL ns := Int.le_antisymm (hle _ h1) (h2 m hm)
      subst this
      exact h.here s (v := .int _) rfl
    · exact h.elim
  · exact h.elim
theorem de_allQ {e : Expr} {l : SL} (hK : X.K = G.K) (h : PE X e (tCB (rAll X.K) (tCons (rG G W C (repL1 G) l) tNil))) : DE G X W C e (eA allQ l) := de_cL h (by rw [hK]; exact brl_all)
theorem de_anyQ {e : Expr} {l : SL} (hK : X.K = G.K) (h : PE X e (tCB (rAny X.K) (tCons (rG G W C (repL1 G) l) tNil))) : DE G X W C e (eA anyQ l) := de_cL h (by rw [hK]; exact brl_any)
theorem de_maxQ {e : Expr} {l : SL} (hK : X.K = G.K) (h : PE X e (tCB (rMax X.K) (tCons (rG G W C (repL1 G) l) tNil))) : DE G X W C e (eA maxQ l) := de_cL h (by rw [hK]; exact brl_max)
theorem de_minQ {e : Expr} {l : SL} (hK : X.K = G.K) (h : PE X e (tCB (rMin X.K) (tCons (rG G W C (repL1 G) l) tNil))) : DE G X W C e (eA minQ l) := de_cL h (by rw [hK]; exact brl_min)

/-! ### list(range(n)), tuple(range(n)) -/
def rgD (n : Int) : List D := (List.range n.toNat).map fun (i : Nat) => D.int (i : Int)
theorem rg_rep {H : Hp} {ι : List Addr} (n : Int) : RepL G H ι (rgD n) (rgV 0 n) := by
  have h := repL_ints (G := G) (H := H) (ι := ι) ((List.range n.toNat).map fun (i : Nat) => (i : Int))
  unfold rgD rgV
  simp only [List.map_map, Function.comp_def, Int.sub_zero, Int.zero_add] at h ⊢
  exact h
noncomputable def rngT (j : Int) : Bool := tsd (0 ≤ j ∧ j ≤ 16777216)
noncomputable def lRng (a : SE) : SL := fun C env st => (a C env st).bind fun x st => match x with
  | .int n => if rngT n then .ok (rgD n) st else .stuck
  | _ => .stuck
theorem dt_rng {e : Expr} {m : SE} (h : PE X e (tLstRg (tRg1 (tE G W C m)))) : DT G X W C e (lRng m) :=
  pe_imp h fun σ H Q ⟨env, ι, st, hR, hp⟩ => sqE hR hp fun x st1 v H1 ι1 e1 hR1 r1 hp1 => by
    cases x with
    | int n =>
      cases r1
      dsimp only at hp1
      split at hp1
      · rename_i hz
        have hz := tsd_of hz
        exact ⟨n, rfl, RgOk.of_le (by omega) hz.2 (by omega) hz.1, fun p hp => hp1 _ _ ι1 (ext_new hp) (hR1.sto.fresh hp) ⟨p, _, rfl, upd_same, hR1.sto.notin hp, fresh_back e1 hR1.sto hp, rg_rep n⟩⟩
      · exact hp1.elim
    | _ => exact hp1.elim
noncomputable def eTupRng (a : SE) : SE := fun C env st => (a C env st).bind fun x st => match x with
  | .int n => if rngT n then .ok (.tup (rgD n)) st else .stuck
  | _ => .stuck
theorem de_tupRng {e : Expr} {m : SE} (h : PE X e (tTupRg (tRg1 (tE G W C m)))) : DE G X W C e (eTupRng m) :=
  pe_imp h fun σ H Q ⟨env, ι, st, hR, hp⟩ => sqE hR hp fun x st1 v H1 ι1 e1 hR1 r1 hp1 => by
    cases x with
    | int n =>
      cases r1
      dsimp only at hp1
      split at hp1
      · rename_i hz
        have hz := tsd_of hz
        exact ⟨n, rfl, RgOk.of_le (by omega) hz.2 (by omega) hz.1, fun p hp => hp1 _ _ ι1 (ext_new hp) (hR1.sto.fresh hp) ⟨p, _, rfl, SqT.of upd_same, rg_rep n⟩⟩
      · exact hp1.elim
    | _ => exact hp1.elim
/-! ### a, b = x, y -/
def sPar (i j : Nat) (l : SL) : SS := fun C env st => (l C env st).thenS env fun ds st => match ds with
  | [x, y] => .nx ((env.set i (some x)).set j (some y)) st
  | _ => .stuck
theorem ds_par {s : Stmt} {i j : Nat} {l : SL} (h : PS X s (tPar i j (tA G W C l))) : DS G X W C s (sPar i j l) :=
  ps_imp h fun K σ H ⟨env, ι, st, hR, hp⟩ => ssG (rep := fun _ => RepL G) hR hp fun ds st1 vs H1 ι1 e1 hR1 r1 hp1 => by
    split at hp1
    · obtain ⟨v, _, rfl, rv, w, _, rfl, rw_, rfl⟩ := r1
      exact ⟨v, w, rfl, hp1 _ H1 ι1 (Ext.refl _ _) ((hR1.set rv i).set rw_ j)⟩
    · exact hp1.elim
theorem boot_int_ : bootBuiltins "int" = some (.type "int") := PyProof.Rows.boot_int
theorem boot_bool_ : bootBuiltins "bool" = some (.type "bool") := PyProof.Rows.boot_bool
theorem boot_str_ : bootBuiltins "str" = some (.type "str") := PyProof.Rows.boot_str
theorem boot_tuple_ : bootBuiltins "tuple" = some (.type "tuple") := PyProof.Rows.boot_tuple
theorem boot_list_ : bootBuiltins "list" = some (.type "list") := PyProof.Rows.boot_list
theorem boot_dict_ : bootBuiltins "dict" = some (.type "dict") := by decide +kernel
end
end OH

set_option Elab.async false
set_option linter.all false
set_option maxRecDepth 100000
set_option maxHeartbeats 1000000
/-! OHEnd: from the meaning of the law's def to what the row asks. -/
namespace OH
open PySem PySem.Spec PyProof.Rows L2

theorem ok_zero {P : Program} {w : World} {G : Gx} {mg : Str → Option Value} {base : Heap} {Tbl : Nat → FD} {f : Nat} {fd : FuncData} {ps : List Str} : FnOk P w G.K mg base (L2.CX P w) 0 (G.fa f) fd ps (spC G (callN Tbl 0) f) :=
  ⟨fun vs H Q E ⟨ds, ι, st, _, _, h⟩ => h.elim, fun A outer s H args us vs Q E _ _ _ _ ⟨ds, ι, st, _, _, h⟩ => h.elim⟩
/-- what the law promises: True -/
def spLaw (K : PySem.W.Frag) : Sp := fun vs H Q _ => ∃ (a : Addr) (ns : List Int), vs = [.ref a] ∧ ns.length ≤ 63 ∧ SqF K H a (ns.map V.int) ∧ ∀ H', Q (.bl true) H'
theorem law_imp {P : Program} {w : World} {G : Gx} {mg : Str → Option Value} {base : Heap} {Tbl : Nat → FD} {k f : Nat} {fa : Addr} {fd : FuncData} {ps : List Str} (hl : ∀ ns : List Int, ns.length ≤ 63 → ∃ st, callN Tbl k f [.scr (ns.map D.int)] [] = .ok (.bl true) st)
    (F : FnOk P w G.K mg base (L2.CX P w) k fa fd ps (spC G (callN Tbl k) f)) : FnOk P w G.K mg base (L2.CX P w) k fa fd ps (spLaw G.K) :=
  F.imp fun vs H Q E ⟨a, ns, e, hn, hs, q⟩ => by
    subst e
    obtain ⟨st, h⟩ := hl ns hn
    refine ⟨[.scr (ns.map D.int)], [], [], RepL.one ⟨a, _, rfl, hs, repL_ints ns⟩, ⟨rfl, List.nodup_nil, fun i c a h _ => by simp at h⟩, ?_⟩
    rw [h]
    intro v H' ι' _ _ r
    cases r
    exact q H'
theorem spLaw_of {K : PySem.W.Frag} {H : Hp} {a : Addr} {ns : List Int} (hl : ns.length ≤ 63) (hO : Only H) (hS : SqL K H a (ns.map V.int)) : spLaw K [.ref a] H (fun v _ => v = .bl true) fun _ _ _ => False :=
  ⟨a, ns, rfl, hl, SqF.of hS hO, fun _ => rfl⟩
theorem cx_none {P : Program} {w : World} {H : Hp} {s s' : Shared} {e : Value} (h : L2.CX P w [] H s (fun _ _ _ => False) e s') : False := by
  obtain ⟨a, B, H', cls, d, _, _, _, _, _, _, _, h⟩ := h
  exact h
end OH

set_option Elab.async false
set_option linter.all false
set_option maxRecDepth 100000
set_option maxHeartbeats 1000000
/-! OHKw: defs with keyword-only parameters whose defaults are None. -/
namespace OH
open PySem PySem.Spec PyProof.Rows L2

structure FunKw (K : PySem.W.Frag) (x qual : Str) (st : Stmt) (f : Addr) (fd : FuncData) (ks : List Str) : Prop where
  ex : ∃ (oc : Value) (od : Option Addr) (D : Addr) (doc pm : Value) (an : Option Addr) (cdv ct : Value) (osl : Array (Option Value)),
    fd = PySem.W.fnOf x qual (defArgs st) (defBody st) (defScope st) .none (.ref D) doc pm an cdv ct ∧ K.lookup f = some ⟨oc, od, .func fd, osl⟩ ∧ PySem.W.codeIn K cdv qual = true ∧ ∀ q ∈ ks, PySem.W.nsIn K D q = some (some .none)
  kp : PySem.W.keepIn K (.ref f) = true
section
variable {K : PySem.W.Frag} {x qual : Str} {st : Stmt} {f : Addr} {fd : FuncData} {ks ps : List Str}
theorem FunKw.fn (F : FunKw K x qual st f fd ks) : Fun K x qual st f fd := by
  obtain ⟨oc, od, D, doc, pm, an, cdv, ct, osl, e, l, c, _⟩ := F.ex
  exact ⟨⟨oc, od, .ref D, doc, pm, an, cdv, ct, osl, e, l, c⟩, F.kp⟩
theorem FunKw.fund (F : FunKw K x qual st f fd ks) : FunD K x qual (defArgs st) (defBody st) (defScope st) [] (ks.map fun k => (k, V.non)) f fd := by
  obtain ⟨oc, od, D, doc, pm, an, cdv, ct, osl, e, l, c, h⟩ := F.ex
  refine ⟨⟨oc, od, .none, .ref D, doc, pm, an, cdv, ct, osl, e, l, c, .inl ⟨rfl, rfl⟩, .inr ⟨D, rfl, fun q hq => ?_⟩⟩, F.kp⟩
  obtain ⟨k, hk, rfl⟩ := List.mem_map.mp hq
  exact ⟨.none, h k hk, by constructor⟩
theorem funkw_mk {oc : Value} {od an : Option Addr} {osl : Array (Option Value)} {D : Addr} {doc pm cdv ct : Value} (l : K.lookup f = some ⟨oc, od, .func (PySem.W.fnOf x qual (defArgs st) (defBody st) (defScope st) .none (.ref D) doc pm an cdv ct), osl⟩)
    (c : PySem.W.codeIn K cdv qual = true) (k : PySem.W.keepIn K (.ref f) = true) (h : ∀ q ∈ ks, PySem.W.nsIn K D q = some (some .none)) : FunKw K x qual st f (PySem.W.fnOf x qual (defArgs st) (defBody st) (defScope st) .none (.ref D) doc pm an cdv ct) ks := ⟨⟨oc, od, D, doc, pm, an, cdv, ct, osl, rfl, l, c, h⟩, k⟩
theorem FunKw.bindsD (F : FunKw K x qual st f fd ks) (n : Nat) (hk : ks ≠ []) (hn : n + ks.length = ps.length)
    (h : ∀ (D : Addr) (doc pm : Value) (an : Option Addr) (cdv ct : Value) (us vs : List Value), us.length = n → vs.length = ks.length →
      KwChain D (ks.zip vs) (bindArgs (PySem.W.fnOf x qual (defArgs st) (defBody st) (defScope st) .none (.ref D) doc pm an cdv ct) ⟨us, []⟩) (ps.zip (us ++ vs))) : ∃ ds, Vals (ks.map fun _ => V.non) ds ∧ Binds K fd ps ds := by
  have := FunD.binds0 (ps := ps) F.fund n (by simpa using hk) (by simpa using hn) (fun D doc pm an cdv ct us vs h1 h2 => by
    have e : ((ks.map fun k => (k, V.non)).map (·.1)) = ks := by rw [List.map_map]; exact List.map_id ks
    rw [e]
    exact h D doc pm an cdv ct us vs h1 (by simpa using h2))
  have e : ((ks.map fun k => (k, V.non)).map (·.2)) = ks.map fun _ => V.non := by rw [List.map_map]; rfl
  rw [e] at this
  exact this
theorem FunKw.bindsK (F : FunKw K x qual st f fd ks) (n : Nat)
    (h : ∀ (D : Addr) (doc pm : Value) (an : Option Addr) (cdv ct : Value) (us vs : List Value), us.length = n → vs.length = ks.length →
      bindArgs (PySem.W.fnOf x qual (defArgs st) (defBody st) (defScope st) .none (.ref D) doc pm an cdv ct) ⟨us, ks.zip vs⟩ = pure (ps.zip (us ++ vs))) : KBn K fd ps n ks (fun us ws => us ++ ws) (fun us ws => us ++ ws) := by
  obtain ⟨oc, od, D, doc, pm, an, cdv, ct, osl, rfl, l, c, _⟩ := F.ex
  exact ⟨fun s us ws X h1 h2 => .of_eq (h D doc pm an cdv ct us ws h1 h2), fun r1 r2 => r1.append r2⟩
end
structure FnAtK (P : Program) (w : World) (G : Gx) (mg : Str → Option Value) (base : Heap) (C : Call) (k : Nat) (f : Nat) (x : Str) (n : Nat) (ks : List Str) : Prop where
  g : mg x = some (.ref (G.fa f))
  kp : PySem.W.keepIn G.K (.ref (G.fa f)) = true
  ok : ∃ fd ps, FnOk P w G.K mg base (L2.CX P w) k (G.fa f) fd ps (spC G C f) ∧ (∃ ds, Vals (ks.map fun _ => V.non) ds ∧ Binds G.K fd ps ds) ∧ KBn G.K fd ps n ks (fun us ws => us ++ ws) (fun us ws => us ++ ws)
section
variable {X : Cx} {CX : CXT} {k n : Nat} {f : Addr} {fd : FuncData} {ps ks : List Str} {sp : Sp} {E : L2.St → XK} {x : Str} {p pos : Pos} {e : Expr} {es : List Expr} {kws : List Keyword} {t tk : TA} {g : List Value → List Value → List Value} {gV : List V → List V → List V} {dv : List V} {ds : List Value}
theorem run_fnSD {pins : List (Addr × Obj)} {σ : L2.St} {H : Hp} {s : Shared} {Q : VK} {us : List Value} {vs : List V} (F : FnOk X.prog X.w X.K X.mg X.base CX k f fd ps sp) (hr : Room k X.A) (hb : Binds X.K fd ps ds) (hd : Vals dv ds) (hx : PassesAt CX X σ (E σ))
    (I : Inv X pins σ H s) (r : Vals vs us) (h : sp (vs ++ dv) H Q (E σ)) : wpAny (model X.prog X.w) X.A (call (.ref f) us) (EP X pins σ Q) X.xe s := by
  have hl : (us ++ ds).length = ps.length := by
    have := F.len _ _ _ _ h
    rw [List.length_append, ← r.length, ← hd.length, ← List.length_append]; exact this
  have b := hb s us I.kIn hl
  refine wpAny_call (codeAny_mono (F.run X.A X.stack s H ⟨us, []⟩ (us ++ ds) (vs ++ dv) Q (E σ) hr I.env0 b (r.append hd) h) fun r s' hq => ?_)
  cases r with
  | error e => exact hx pins H s e s' I hq
  | ok fl =>
    cases fl with
    | ret u => exact I.after hq
    | next => exact False.elim hq
    | brk => exact False.elim hq
    | cont => exact False.elim hq
def tCallSD (sp : Sp) (dv : List V) (E : L2.St → XK) (t : TA) : TE := fun σ H Q => t σ H fun vs H1 => sp (vs ++ dv) H1 Q (E σ)
theorem pe_callSD (F : FnOk X.prog X.w X.K X.mg X.base CX k f fd ps sp) (hr : Room k X.A) (hg : Gl X x) (hm : X.mg x = some (.ref f)) (hk : PySem.W.keepIn X.K (.ref f) = true) (hb : Binds X.K fd ps ds) (hd : Vals dv ds) (hx : ∀ σ, PassesAt CX X σ (E σ))
    (ha : PA X (e :: es) t) (hdb : (x == ("__debug__" : Str)) = false := by decide) (he : starEach (e :: es) X.env = (false, eval e X.env) :: starEach es X.env := by rfl) (hpl : (backTo pos (starEach es X.env)).any (·.1) = false := by rfl) :
    PE X (.Call (.Name x p) (e :: es) [] pos) (tCallSD sp dv E t) := by
  refine ⟨fun pins s σ H Q I h => ?_⟩
  refine wpAny_Call_Name_kw (ld_glob I hg hm ?_ hdb)
  refine PySem.W.callWith_K (h₀ := X.base) I.ok.mod.kin hk (thn (ha.run pos pins s σ H _ I h) fun us s1 ⟨vs, H1, I1, r, q⟩ => ⟨I1.kIn, ?_⟩) he hpl
  exact run_fnSD F hr hb hd (hx σ) I1 r q
theorem run_fnNS {pins : List (Addr × Obj)} {σ : L2.St} {H : Hp} {s : Shared} {Q : VK} {us ws : List Value} {vs zs : List V} (F : FnOk X.prog X.w X.K X.mg X.base CX k f fd ps sp) (hr : Room k X.A) (hb : KBn X.K fd ps n ks g gV) (hx : PassesAt CX X σ (E σ))
    (I : Inv X pins σ H s) (r : Vals vs us) (rz : Vals zs ws) (l1 : vs.length = n) (l2 : zs.length = ks.length) (h : sp (gV vs zs) H Q (E σ)) : wpAny (model X.prog X.w) X.A (call (.ref f) us (ks.zip ws)) (EP X pins σ Q) X.xe s := by
  have r2 := hb.rel r rz
  refine wpAny_call (codeAny_mono (F.run X.A X.stack s H ⟨us, ks.zip ws⟩ (g us ws) (gV vs zs) Q (E σ) hr I.env0 (hb.to s us ws I.kIn (r.length.symm.trans l1) (rz.length.symm.trans l2)) r2 h) fun r s' hq => ?_)
  cases r with
  | error e => exact hx pins H s e s' I hq
  | ok fl =>
    cases fl with
    | ret u => exact I.after hq
    | next => exact False.elim hq
    | brk => exact False.elim hq
    | cont => exact False.elim hq
def tCallNS (n m : Nat) (sp : Sp) (gV : List V → List V → List V) (E : L2.St → XK) (t tk : TA) : TE := fun σ H Q => t σ H fun vs H1 => tk σ H1 fun zs H2 => vs.length = n ∧ zs.length = m ∧ sp (gV vs zs) H2 Q (E σ)
theorem pe_callNS (F : FnOk X.prog X.w X.K X.mg X.base CX k f fd ps sp) (hr : Room k X.A) (hg : Gl X x) (hm : X.mg x = some (.ref f)) (hk : PySem.W.keepIn X.K (.ref f) = true) (hb : KBn X.K fd ps n ks g gV) (hx : ∀ σ, PassesAt CX X σ (E σ))
    (ha : PA X (e :: es) t) (hkw : PK X kws tk) (hall : (backToKw pos (keywordEach kws X.env)).all (·.1.isSome) = true := by rfl) (hks : (backToKw pos (keywordEach kws X.env)).filterMap (·.1) = ks := by rfl)
    (hdb : (x == ("__debug__" : Str)) = false := by decide) (he : starEach (e :: es) X.env = (false, eval e X.env) :: starEach es X.env := by rfl)
    (hpl : ((backTo pos (starEach (e :: es) X.env)).any (·.1) || (backToKw pos (keywordEach kws X.env)).any (·.1.isNone)) = false := by rfl) :
    PE X (.Call (.Name x p) (e :: es) kws pos) (tCallNS n ks.length sp gV E t tk) := by
  refine ⟨fun pins s σ H Q I h => ?_⟩
  refine wpAny_Call_Name_kw (ld_glob I hg hm ?_ hdb)
  refine PySem.W.callWith_KW (h₀ := X.base) I.ok.mod.kin hk hall (thn (ha.run pos pins s σ H _ I h) fun us s1 ⟨vs, H1, I1, r, q⟩ => ?_) hpl he
  refine thn (hkw.run pos pins s1 σ H1 _ I1 q) fun ws s2 ⟨zs, H2, I2, rz, l1, l2, q2⟩ => ⟨I2.kIn, ?_⟩
  rw [hks]
  exact run_fnNS F hr hb (hx σ) I2 r rz l1 l2 q2
end
/-- a row and what stands behind it -/
def lAdd (l : SL) (ds : List D) : SL := fun C env st => (l C env st).bind fun xs st => .ok (xs ++ ds) st
def lCat (n m : Nat) (l l2 : SL) : SL := fun C env st => (l C env st).bind fun xs st => (l2 C env st).bind fun ys st => if xs.length = n ∧ ys.length = m then .ok (xs ++ ys) st else .stuck
@[simp] theorem lAdd_ap (l : SL) (ds : List D) (C : Call) (env : Env) (st : Sto) : lAdd l ds C env st = (l C env st).bind fun xs st => .ok (xs ++ ds) st := rfl
@[simp] theorem lCat_ap (n m : Nat) (l l2 : SL) (C : Call) (env : Env) (st : Sto) : lCat n m l l2 C env st = (l C env st).bind fun xs st => (l2 C env st).bind fun ys st => if xs.length = n ∧ ys.length = m then .ok (xs ++ ys) st else .stuck := rfl
theorem repL_app {G : Gx} {H : Hp} {ι : List Addr} : ∀ {ds es : List D} {vs us : List V}, RepL G H ι ds vs → RepL G H ι es us → RepL G H ι (ds ++ es) (vs ++ us)
  | [], _, _, _, h, g => by cases h; exact g
  | d :: ds, _, _, _, ⟨v, r, e, h1, h2⟩, g => by subst e; exact ⟨v, _, rfl, h1, repL_app h2 g⟩
theorem repL_nons {G : Gx} {H : Hp} {ι : List Addr} {α : Type} : ∀ ks : List α, RepL G H ι (ks.map fun _ => D.non) (ks.map fun _ => V.non)
  | [] => rfl
  | _ :: ks => ⟨_, _, rfl, rfl, repL_nons ks⟩
theorem de_callD {G : Gx} {X : Cx} {W : WX} {C : Call} {k f n : Nat} {x : Str} {e : Expr} {es : List Expr} {l : SL} {p pos : Pos} {ks : List Str} (hF : FnAtK X.prog X.w G X.mg X.base C k f x n ks) (hK : X.K = G.K) (hr : Room k X.A) (tk : Takes X W) (hg : Gl X x) (ha : DA G X W C (e :: es) l)
    (hdb : (x == ("__debug__" : Str)) = false := by decide) (he : starEach (e :: es) X.env = (false, eval e X.env) :: starEach es X.env := by rfl) (hpl : (backTo pos (starEach es X.env)).any (·.1) = false := by rfl) :
    DE G X W C (.Call (.Name x p) (e :: es) [] pos) (eCall f (lAdd l (ks.map fun _ => D.non))) := by
  obtain ⟨hm, hk, fd, ps, hok, ⟨ds, hd, hb⟩, _⟩ := hF
  rw [← hK] at hk hok hb
  exact pe_imp (pe_callSD hok hr hg hm hk hb hd (fun σ => passAt tk σ) ha hdb he hpl) fun σ H Q ⟨env, ι, st, hR, hp⟩ => by
    have hp : post G (Rep G) _ H ι Q (((l C env st).bind fun xs st => .ok (xs ++ ks.map fun _ => D.non) st).bind fun ds st => C f ds st) := hp
    cases el : l C env st with
    | ok a st1 =>
      rw [el] at hp
      refine ⟨env, ι, st, hR, ?_⟩
      rw [el]
      exact fun vs H1 ι1 e1 s1 r1 => ⟨_, ι1, st1, repL_app r1 (repL_nons ks), s1, hp.ext e1⟩
    | exc c x st1 => rw [el] at hp; exact ⟨env, ι, st, hR, by rw [el]; exact hp⟩
    | stuck => rw [el] at hp; exact hp.elim
theorem pkw_imp {X : Cx} {e : List Keyword} {t t' : TA} (h : PK X e t) (k : ∀ σ H Q, t' σ H Q → t σ H Q) : PK X e t' := ⟨fun pos pins s σ H Q I q => h.run pos pins s σ H Q I (k σ H Q q)⟩
def DKw (G : Gx) (X : Cx) (W : WX) (C : Call) (e : List Keyword) (m : SL) : Prop := PK X e (tA G W C m)
theorem dkw_nil {G : Gx} {X : Cx} {W : WX} {C : Call} : DKw G X W C [] lNil := pkw_imp pk_nil fun σ H Q ⟨env, ι, st, hR, hp⟩ => hp.here hR.sto (v := []) rfl
theorem dkw_cons {G : Gx} {X : Cx} {W : WX} {C : Call} {nm : Option Str} {e : Expr} {kpos : Pos} {es : List Keyword} {m : SE} {l : SL} (ha : DE G X W C e m) (hr : DKw G X W C es l) : DKw G X W C (⟨nm, e, kpos⟩ :: es) (lCons m l) :=
  pkw_imp (pk_cons ha hr) fun σ H Q ⟨env, ι, st, hR, hp⟩ => sqE hR hp fun x st1 v H1 ι1 e1 hR1 r1 hp1 => sqA hR1 hp1 fun xs st2 vs H2 ι2 e2 hR2 r2 hp2 =>
    hp2.here hR2.sto ⟨v, vs, rfl, r1.ext e2 hR1.sto.mut, r2⟩
theorem de_callK {G : Gx} {X : Cx} {W : WX} {C : Call} {k f n m : Nat} {x : Str} {e : Expr} {es : List Expr} {kws : List Keyword} {l l2 : SL} {p pos : Pos} {ks : List Str} (hF : FnAtK X.prog X.w G X.mg X.base C k f x n ks) (hK : X.K = G.K) (hr : Room k X.A) (tk : Takes X W) (hg : Gl X x) (ha : DA G X W C (e :: es) l) (hkw : DKw G X W C kws l2) (hm : ks.length = m := by rfl)
    (hall : (backToKw pos (keywordEach kws X.env)).all (·.1.isSome) = true := by rfl) (hks : (backToKw pos (keywordEach kws X.env)).filterMap (·.1) = ks := by rfl)
    (hdb : (x == ("__debug__" : Str)) = false := by decide) (he : starEach (e :: es) X.env = (false, eval e X.env) :: starEach es X.env := by rfl)
    (hpl : ((backTo pos (starEach (e :: es) X.env)).any (·.1) || (backToKw pos (keywordEach kws X.env)).any (·.1.isNone)) = false := by rfl) :
    DE G X W C (.Call (.Name x p) (e :: es) kws pos) (eCall f (lCat n m l l2)) := by
  obtain ⟨hmg, hk, fd, ps, hok, _, hb⟩ := hF
  rw [← hK] at hk hok hb
  exact pe_imp (pe_callNS hok hr hg hmg hk hb (fun σ => passAt tk σ) ha hkw hall hks hdb he hpl) fun σ H Q ⟨env, ι, st, hR, hp⟩ => by
    have hp : post G (Rep G) _ H ι Q (((l C env st).bind fun xs st => (l2 C env st).bind fun ys st => if xs.length = n ∧ ys.length = m then .ok (xs ++ ys) st else .stuck).bind fun ds st => C f ds st) := hp
    cases el : l C env st with
    | ok a st1 =>
      rw [el] at hp
      refine ⟨env, ι, st, hR, ?_⟩
      rw [el]
      intro vs H1 ι1 e1 s1 r1
      have hR1 := hR.ext e1 s1
      have hp : post G (Rep G) _ H ι Q (((l2 C env st1).bind fun ys st => if a.length = n ∧ ys.length = m then .ok (a ++ ys) st else .stuck).bind fun ds st => C f ds st) := hp
      cases el2 : l2 C env st1 with
      | ok b st2 =>
        rw [el2] at hp
        refine ⟨env, ι1, st1, hR1, ?_⟩
        rw [el2]
        intro zs H2 ι2 e2 s2 r2
        by_cases hh : a.length = n ∧ b.length = m
        · have hp : post G (Rep G) _ H ι Q ((if a.length = n ∧ b.length = m then Res.ok (a ++ b) st2 else .stuck).bind fun ds st => C f ds st) := hp
          rw [if_pos hh] at hp
          exact ⟨r1.length.trans hh.1, r2.length.trans (hh.2.trans hm.symm), _, ι2, st2, repL_app (r1.ext e2 s1.mut) r2, s2, (hp.ext e1).ext e2⟩
        · have hp : post G (Rep G) _ H ι Q ((if a.length = n ∧ b.length = m then Res.ok (a ++ b) st2 else .stuck).bind fun ds st => C f ds st) := hp
          rw [if_neg hh] at hp
          exact hp.elim
      | exc c x st2 => rw [el2] at hp; exact ⟨env, ι1, st1, hR1, by rw [el2]; exact hp.ext e1⟩
      | stuck => rw [el2] at hp; exact hp.elim
    | exc c x st1 => rw [el] at hp; exact ⟨env, ι, st, hR, by rw [el]; exact hp⟩
    | stuck => rw [el] at hp; exact hp.elim
end OH

set_option Elab.async false
set_option linter.all false
set_option maxRecDepth 100000
set_option maxHeartbeats 1000000
/-! OHAug: o[i] op= e. -/
namespace OH
open PySem PySem.Spec PyProof.Rows L2
def getL : Sto → D → D → Res D := fun st x y => match x, y with
  | .ref i, .int k => match lstAt st i with
    | some ds => Res.of (L2.atI ds k) st
    | none => .stuck
  | _, _ => .stuck
@[simp] theorem getL_ref (st : Sto) (i : Nat) (k : Int) : getL st (.ref i) (.int k) = match lstAt st i with | some ds => Res.of (L2.atI ds k) st | none => .stuck := rfl
def sAugS (f : Sto → D → D → Res D) (o i e : SE) : SS := fun C env st => (o C env st).thenS env fun x st => (i C env st).thenS env fun y st => (getL st x y).thenS env fun v st => (e C env st).thenS env fun u st => (f st v u).thenS env fun z st =>
  match putL st x y z with | some st' => .nx env st' | none => .stuck
@[simp] theorem sAugS_ap (f : Sto → D → D → Res D) (o i e : SE) (C : Call) (env : Env) (st : Sto) : sAugS f o i e C env st = (o C env st).thenS env fun x st => (i C env st).thenS env fun y st => (getL st x y).thenS env fun v st => (e C env st).thenS env fun u st => (f st v u).thenS env fun z st =>
  match putL st x y z with | some st' => .nx env st' | none => .stuck := rfl
theorem br_getL {G : Gx} : Br2 G (rIxL G.K) getL := by
  intro W H ι st x y v u Q s rx ry h
  unfold getL at h
  split at h
  · rename_i i k
    cases ry
    split at h
    · rename_i ds e
      obtain ⟨a, xs, k1, k2, k3⟩ := s.lst e
      obtain ⟨d, e2, h⟩ := h.opt
      obtain ⟨w, e3, r2⟩ := k3.atI e2
      obtain ⟨a', ea, rfl⟩ := rx
      rw [k1] at ea
      cases ea
      exact ⟨a, xs, _, w, rfl, rfl, .inl (.inl k2), e3, h.here s r2⟩
    · exact h.elim
  · exact h.elim
theorem get_list {X : Cx} : PGet X (rIxL X.K) := by
  intro pins s σ H x y v u Q I rx ry h
  obtain ⟨p, xs, i, z, rfl, rfl, hq, he, q⟩ := h
  cases rx
  obtain ⟨t, rfl⟩ := ry
  obtain ⟨its, r, pl, hz⟩ := I.list hq
  obtain ⟨j, h1, h2, h3, h4, h5⟩ := atI_get he
  obtain ⟨w, ew, rw'⟩ := r.get h2
  have hl := r.length
  have hn := line63
  have fin : EP X pins σ Q w s := ⟨z, H, I, rw', q⟩
  by_cases h0 : 0 ≤ i
  · have hj : i.toNat = j := by
      rw [seqIndex_of h0 h5] at h1
      exact Option.some.inj h1
    exact wpAny_getItem_list pl.isList h0 (by omega) (by rw [hj]; simpa using ew) fin
  · have hj : (i + (its.toArray.size : Int)).toNat = j := by
      rw [seqIndex_neg (by omega) h4] at h1
      rw [List.size_toArray, ← hl]
      exact Option.some.inj h1
    exact wpAny_getItem_list_neg pl.isList (by omega) (by rw [List.size_toArray] <;> omega) (by omega) (by rw [hj]; simpa using ew) fin
theorem ds_augS {G : Gx} {X : Cx} {W : WX} {C : Call} {s : Stmt} {ti : TIp} {f : Sto → D → D → Res D} {mo mi me : SE} (hK : X.K = G.K) (h : PS X s (tAugS (tE G W C mo) (tE G W C mi) (tE G W C me) (rIxL X.K) ti rSetL)) (br : Br2 G ti f) : DS G X W C s (sAugS f mo mi me) := by
  rw [hK] at h
  exact ps_imp h fun K σ H ⟨env, ι, st, hR, hp⟩ => ssE hR hp fun o st1 ov H1 ι1 e1 hR1 r1 hp1 => ssE hR1 hp1 fun i st2 iv H2 ι2 e2 hR2 r2 hp2 => by
    have r1' := r1.ext e2 hR1.sto.mut
    refine br_getL (fun cls ad H' => W cls ad σ H') H2 ι2 st2 o i ov iv _ hR2.sto r1' r2 ?_
    have hp2 : postS G W K H2 ι2 ((getL st2 o i).thenS env fun v st => (me C env st).thenS env fun u st => (f st v u).thenS env fun z st => match putL st o i z with | some st' => .nx env st' | none => .stuck) := hp2
    generalize getL st2 o i = r at hp2
    cases r with
    | exc c x st3 => exact fun cls ad H3 ι3 e3 s3 r3 => hp2 cls ad σ H3 ι3 e3 (hR2.ext e3 s3) r3
    | stuck => exact hp2
    | ok v st3 =>
      intro vv H3 ι3 e3 s3 r3
      have hR3 := hR2.ext e3 s3
      have hp3 : postS G W K H2 ι2 ((me C env st3).thenS env fun u st => (f st v u).thenS env fun z st => match putL st o i z with | some st' => .nx env st' | none => .stuck) := hp2
      refine ssE hR3 (hp3.ext e3) fun u st4 uv H4 ι4 e4 hR4 r4 hp4 => ?_
      have hp4 : postS G W K H4 ι4 ((f st4 v u).thenS env fun z st => match putL st o i z with | some st' => .nx env st' | none => .stuck) := hp4
      refine br (fun cls ad H' => W cls ad σ H') H4 ι4 st4 v u vv uv _ hR4.sto (r3.ext e4 hR3.sto.mut) r4 ?_
      generalize f st4 v u = r at hp4
      cases r with
      | exc c x st5 => exact fun cls ad H5 ι5 e5 s5 r5 => hp4 cls ad σ H5 ι5 e5 (hR4.ext e5 s5) r5
      | stuck => exact hp4
      | ok z st5 =>
        intro zv H5 ι5 e5 s5 r5
        have hR5 := hR4.ext e5 s5
        have hp5 : postS G W K H4 ι4 (match putL st5 o i z with | some st' => .nx env st' | none => .stuck) := hp4
        cases e : putL st5 o i z with
        | none => rw [e] at hp5; exact hp5.elim
        | some st6 =>
          rw [e] at hp5
          have o5 := ((r1'.ext e3 hR2.sto.mut).ext e4 hR3.sto.mut).ext e5 hR4.sto.mut
          have i5 := ((r2.ext e3 hR2.sto.mut).ext e4 hR3.sto.mut).ext e5 hR4.sto.mut
          exact br_putL H5 ι5 st5 st6 o i z ov iv zv _ hR5.sto o5 i5 r5 e fun H' ι' e' s' => hp5 σ H' ι' (e5.trans e') (hR5.ext e' s')
end OH

set_option Elab.async false
set_option linter.all false
set_option maxRecDepth 100000
set_option maxHeartbeats 1000000
/-! OHRng: range with a step. -/
namespace OH
open PySem PySem.Spec PyProof.Rows L2
noncomputable def rngC (i j c : Int) : Bool := tsd (c ≠ 0 ∧ c.natAbs < 1073741824 ∧ Builtin.Range.small i j c = true)
def rngSz (i j c : Int) : Nat := (Builtin.Range.rangeSize i j c).toNat
noncomputable def siR3 (l : SL) : SI := fun C env st => (l C env st).bind fun ds st => match ds with
  | [.int i, .int j, .int c] => if rngC i j c then .ok ⟨(List.range (rngSz i j c)).map fun (k : Nat) => D.int (i + (k : Int) * c), []⟩ st else .stuck
  | _ => .stuck
@[simp] theorem siR3_ap (l : SL) (C : Call) (env : Env) (st : Sto) : siR3 l C env st = (l C env st).bind fun ds st => match ds with
  | [.int i, .int j, .int c] => if rngC i j c then .ok ⟨(List.range (rngSz i j c)).map fun (k : Nat) => D.int (i + (k : Int) * c), []⟩ st else .stuck
  | _ => .stuck := rfl
theorem range_repC {G : Gx} {H0 H : Hp} {ι : List Addr} (lo : Int) (c : Int) (n : Nat) : repW G H0 H ι ⟨(List.range n).map fun (k : Nat) => D.int (lo + (k : Int) * c), []⟩ (Itc lo c n) := by
  intro H2 ι2 st2 e2 s2 _
  refine ⟨fun i d h => ?_, fun i h => ?_⟩
  · rw [List.getElem?_map] at h
    obtain ⟨k, hk, rfl⟩ := Option.map_eq_some_iff.mp h
    obtain ⟨hi, e⟩ := List.getElem?_eq_some_iff.mp hk
    simp at e hi
    subst e
    refine ⟨hi, fun x H3 hy => ?_⟩
    obtain ⟨rfl, rfl⟩ := hy
    exact ⟨Ext.refl _ _, s2, rfl⟩
  · have : n ≤ i := by simpa using h
    exact this
theorem di_r3 {G : Gx} {X : Cx} {W : WX} {C : Call} {tg e : Expr} {l : SL} (h : PI X tg e (iRng3 (tA G W C l))) : DI G X W C tg e (siR3 l) := pi_imp h fun σ H Q ⟨env, ι, st, hR, hp⟩ => sqA hR hp fun ds st1 vs H1 ι1 e1 hR1 r1 hp1 => by
  split at hp1
  · obtain ⟨_, _, rfl, rfl, _, _, rfl, rfl, _, _, rfl, rfl, rfl⟩ := r1
    split at hp1
    · rename_i i j c hz
      have hz1 := tsd_of hz
      exact ⟨i, j, c, _, rfl, ⟨hz1.1, hz1.2.1, hz1.2.2, rangeSize_toNat i j c⟩, hp1.here hR1.sto (range_repC i c _)⟩
    · exact hp1.elim
  · exact hp1.elim
theorem rngC_down {i j : Int} (ha : -(2 ^ 62) ≤ i) (ha' : i < 2 ^ 62) (hb : -(2 ^ 62) ≤ j) (hb' : j < 2 ^ 62) : rngC i j (-1) = true := of_tsd ⟨by decide, by decide, PySem.W.small_down ha ha' hb hb'⟩
theorem rngSz_down (i j : Int) : rngSz i j (-1) = (i - j).toNat := by unfold rngSz; rw [PySem.W.rangeSize_downNat]; rfl
end OH

set_option Elab.async false
set_option linter.all false
set_option maxRecDepth 100000
set_option maxHeartbeats 1000000
/-! OHTry: try .. except X, try .. except X as e with isinstance(e, Y) in the suite. -/
namespace OH
open PySem PySem.Spec PyProof.Rows L2

/-- is it of the class, by a table of the classes that may come -/
def tbl (tb : List (Nat × Bool)) (c : Nat) : Option Bool := (tb.find? fun p => p.1 == c).map (·.2)
theorem tbl_mem {tb : List (Nat × Bool)} {c : Nat} {b : Bool} (h : tbl tb c = some b) : (c, b) ∈ tb := by
  unfold tbl at h
  obtain ⟨p, h1, h2⟩ := Option.map_eq_some_iff.mp h
  have := List.find?_some h1
  have e : p.1 = c := by simpa using this
  have := List.mem_of_find?_eq_some h1
  rw [← e, ← h2]; exact this
def eIs (tb : List (Nat × Bool)) (c : Nat) : SE := fun _ _ st => match tbl tb c with | some b => .ok (.bl b) st | none => .stuck
def wipeS (i : Nat) : RS → RS
  | .nx env st => .nx (env.set i none) st
  | .brk env st => .brk (env.set i none) st
  | .cnt env st => .cnt (env.set i none) st
  | .ret d st => .ret d st
  | _ => .stuck
def sTryAs (tb : List (Nat × Bool)) (i : Nat) (body : SS) (suite : Nat → SS) : SS := fun C env st => match body C env st with
  | .exc c x env' st' => match tbl tb c with
    | some true => if x = .non ∧ i < env'.length then wipeS i (suite c C (env'.set i none) st') else .stuck
    | some false => .exc c x env' st'
    | none => .stuck
  | r => r
def noXS : RS → RS
  | .exc _ _ _ _ => .stuck
  | r => r
def sTry (tb : List (Nat × Bool)) (body suite : SS) : SS := fun C env st => match body C env st with
  | .exc c x env' st' => match tbl tb c with
    | some true => if x = .non then noXS (suite C env' st') else .stuck
    | some false => .exc c x env' st'
    | none => .stuck
  | r => r
/-- what a suite's meaning promises: slot i holds the exception -/
def tSx (G : Gx) (W : WX) (C : Call) (a : Addr) (i : Nat) (m : SS) : TS := fun K σ H => σ[i]? = some (some (.ref a)) ∧ ∃ env ι st, R G σ H env ι st ∧ postS G W K H ι (m C env st)
def DSsX (G : Gx) (X : Cx) (W : WX) (C : Call) (a : Addr) (i : Nat) (s : List Stmt) (m : SS) : Prop := PSs X s (tSx G W C a i m)
def tEx (G : Gx) (W : WX) (C : Call) (a : Addr) (i : Nat) (m : SE) : TE := fun σ H Q => σ[i]? = some (some (.ref a)) ∧ tE G W C m σ H Q
def DEx (G : Gx) (X : Cx) (W : WX) (C : Call) (a : Addr) (i : Nat) (e : Expr) (m : SE) : Prop := PE X e (tEx G W C a i m)
def tAx (G : Gx) (W : WX) (C : Call) (a : Addr) (i : Nat) (m : SL) : TA := fun σ H Q => σ[i]? = some (some (.ref a)) ∧ tA G W C m σ H Q
def DAx (G : Gx) (X : Cx) (W : WX) (C : Call) (a : Addr) (i : Nat) (e : List Expr) (m : SL) : Prop := PA X e (tAx G W C a i m)
def tTx (G : Gx) (W : WX) (C : Call) (a : Addr) (i : Nat) (m : SL) : TE := fun σ H Q => σ[i]? = some (some (.ref a)) ∧ tT G W C m σ H Q
def DTx (G : Gx) (X : Cx) (W : WX) (C : Call) (a : Addr) (i : Nat) (e : Expr) (m : SL) : Prop := PE X e (tTx G W C a i m)
section
variable {G : Gx} {X : Cx} {W : WX} {C : Call} {a : Addr} {i : Nat}
theorem dex_of {e : Expr} {m : SE} (h : DE G X W C e m) : DEx G X W C a i e m := pe_imp h fun σ H Q ⟨_, h⟩ => h
theorem dax_nil : DAx G X W C a i [] lNil := pa_imp pa_nil fun σ H Q ⟨hσ, env, ι, st, hR, hp⟩ => hp.here hR.sto (v := []) rfl
theorem dax_cons {e : Expr} {es : List Expr} {m : SE} {l : SL} (ha : DEx G X W C a i e m) (hr : DAx G X W C a i es l) (hs : starEach (e :: es) X.env = (false, eval e X.env) :: starEach es X.env := by rfl) : DAx G X W C a i (e :: es) (lCons m l) :=
  pa_imp (pa_cons ha hr hs) fun σ H Q ⟨hσ, env, ι, st, hR, hp⟩ => ⟨hσ, sqE hR hp fun x st1 v H1 ι1 e1 hR1 r1 hp1 => ⟨hσ, sqA hR1 hp1 fun xs st2 vs H2 ι2 e2 hR2 r2 hp2 =>
    hp2.here hR2.sto ⟨v, vs, rfl, r1.ext e2 hR1.sto.mut, r2⟩⟩⟩
theorem dtx_lst {es : List Expr} {l : SL} {pos : Pos} (h : DAx G X W C a i es l) : DTx G X W C a i (.List es pos) (lLst l) :=
  pe_imp (pe_lst h) fun σ H Q ⟨hσ, env, ι, st, hR, hp⟩ => ⟨hσ, sqA hR hp fun ds st1 vs H1 ι1 e1 hR1 r1 hp1 => by
    obtain ⟨ds', e, hp2⟩ := hp1.opt
    dsimp only at e
    split at e
    · rename_i hz
      cases e
      refine ⟨by rw [r1.length]; exact hz, fun p hp => ?_⟩
      refine hp2 _ _ ι1 (ext_new hp) (hR1.sto.fresh hp) ⟨p, vs, rfl, upd_same, hR1.sto.notin hp, ?_, r1.ext (ext_new hp) hR1.sto.mut⟩
      cases q : H p with
      | none => rfl
      | some o =>
        by_cases hm : p ∈ ι
        · have := hR.sto.mut p hm
          obtain ⟨r, rfl⟩ := e1.more
          have m2 := hR1.sto.mut p (by simp [hm])
          rw [hp] at m2
          exact m2.elim
        · have := e1.keep p o q hm
          rw [hp] at this; cases this
    · cases e⟩
theorem dex_new {e : Expr} {l : SL} (h : DTx G X W C a i e l) : DEx G X W C a i e (eNew l) :=
  pe_imp h fun σ H Q ⟨hσ, env, ι, st, hR, hp⟩ => ⟨hσ, sqT hR hp fun ds st1 a xs H1 ι1 e1 hR1 h1 h2 h3 h4 hp1 =>
    hp1 (.ref a) H1 (ι1 ++ [a]) (e1.take h3) (hR1.sto.push h2 ⟨xs, h1, h4.grow _⟩) ⟨a, by rw [← hR1.sto.len]; simp, rfl⟩⟩
theorem dex_add (hK : X.K = G.K) {p q : Expr} {ma mb : SE} {pos : Pos} (ha : DEx G X W C a i p ma) (hb : DEx G X W C a i q mb) : DEx G X W C a i (.BinOp p .Add q pos) (eB2 addR ma mb) :=
  pe_imp (pe_op op_addD ha hb) fun σ H Q ⟨hσ, env, ι, st, hR, hp⟩ => ⟨hσ, sqE hR hp fun x st1 v H1 ι1 e1 hR1 r1 hp1 => ⟨hσ, sqE hR1 hp1 fun y st2 u H2 ι2 e2 hR2 r2 hp2 =>
    br_add X.K hK _ H2 ι2 st2 x y v u Q hR2.sto (r1.ext e2 hR1.sto.mut) r2 hp2⟩⟩
/-- isinstance(e, Y) -/
theorem dex_isi {c : Nat} {oe : Obj} {pn : List (Addr × Obj)} {tb : List (Nat × Bool)} {x y : Str} {ps : Pos} {p1 p2 : Pos} {cv : V} {u : Value} (hE : ExcC X.K (G.ca c)) (hz : Zc (.ref (G.ca c)) none oe) (hf : ∃ vs, oe.data = .fields vs)
    (hk : ∀ b, tbl tb c = some b → PySem.W.kitOne X.K (.ref (G.ca c)) u = some b) (hu : ∀ w, RelV cv w → w = u)
    (hv : PE (X.suite a ((a, oe) :: pn)) (.Name x p1) (tVar i)) (ht : PE (X.suite a ((a, oe) :: pn)) (.Name y p2) (tC cv)) (hg : Gl (X.suite a ((a, oe) :: pn)) "isinstance") (hm : X.mg "isinstance" = none)
    (he : starEach [.Name x p1, .Name y p2] (X.suite a ((a, oe) :: pn)).env = (false, eval (.Name x p1) (X.suite a ((a, oe) :: pn)).env) :: starEach [.Name y p2] (X.suite a ((a, oe) :: pn)).env := by rfl)
    (he2 : starEach [.Name y p2] (X.suite a ((a, oe) :: pn)).env = (false, eval (.Name y p2) (X.suite a ((a, oe) :: pn)).env) :: starEach [] (X.suite a ((a, oe) :: pn)).env := by rfl)
    (hpl : (backTo ps (starEach [.Name y p2] (X.suite a ((a, oe) :: pn)).env)).any (·.1) = false := by rfl) {np : Pos} :
    DEx G (X.suite a ((a, oe) :: pn)) W C a i (.Call (.Name "isinstance" np) [.Name x p1, .Name y p2] [] ps) (eIs tb c) := by
  refine pe_imp (pe_callB (call_isE hE hz hf) hg hm PyProof.Rows.boot_isinstance (pa_cons hv (pa_cons ht pa_nil he2) he) (by decide) (by decide) he hpl) fun σ H Q ⟨hσ, env, ι, st, hR, hp⟩ => ?_
  unfold eIs at hp
  cases e : tbl tb c with
  | none => rw [e] at hp; exact hp.elim
  | some b =>
    rw [e] at hp
    exact ⟨_, hσ, cv, u, b, rfl, hu, hk b e, hp.here hR.sto (v := .bl b) rfl⟩
theorem dssx_nil : DSsX G X W C a i [] sNx := pss_imp pss_nil fun K σ H ⟨hσ, env, ι, st, hR, hp⟩ => hp σ H ι (Ext.refl _ _) hR
theorem dssx_set {s : Stmt} {r : List Stmt} {j : Nat} {m : SE} {mr : SS} (ne : j ≠ i) (h : PS X s (tAsg (tEx G W C a i m) (gName j))) (hr : DSsX G X W C a i r mr) : DSsX G X W C a i (s :: r) (sSeq (sSet j m) mr) :=
  pss_imp (pss_cons h hr) fun K σ H ⟨hσ, env, ι, st, hR, hp⟩ => by
    refine ⟨hσ, env, ι, st, hR, ?_⟩
    have hp : postS G W K H ι (((m C env st).thenS env fun d st => .nx (env.set j (some d)) st).thenS fun env st => mr C env st) := hp
    generalize m C env st = r at hp
    cases r with
    | ok d st1 =>
      intro v H1 ι1 e1 s1 r1
      have hR1 := (hR.ext e1 s1).set r1 j
      refine ⟨by rw [List.getElem?_set_ne ne]; exact hσ, _, ι1, st1, hR1, ?_⟩
      exact hp.ext e1
    | exc c x st1 => exact fun cls ad H1 ι1 e1 s1 r1 => hp cls ad σ H1 ι1 e1 (hR.ext e1 s1) r1
    | stuck => exact hp
theorem R.unset {σ : L2.St} {H : Hp} {ι : List Addr} {env : Env} {st : Sto} (hR : R G σ H env ι st) (i : Nat) (o : Option V) : R G (σ.set i o) H (env.set i none) ι st := by
  refine ⟨by simpa using hR.len, fun j d' h => ?_, hR.sto⟩
  by_cases e : i = j
  · subst e
    have hl := (List.getElem?_eq_some_iff.mp h).1
    simp at hl
    rw [List.getElem?_set_self hl] at h
    cases h
  · rw [List.getElem?_set_ne e] at h
    rw [List.getElem?_set_ne e]
    exact hR.var j d' h
theorem ds_tryAs {x n : Str} {cv : Value} {i : Nat} {body suite : List Stmt} {b₀ : Stmt} {np pos pos' : Pos} {tb : List (Nat × Bool)} {mb : SS} {ms : Nat → SS} (hs : X.stack = X.env :: X.outer) (hf : X.env.frame = some X.env.locals) (hN : X.N.Nodup) (hi : X.N[i]? = some n) (hln : X.env.kindOf n = some .local) (hc : Names X x cv) (tk : Takes X W)
    (hex : ∀ c b, tbl tb c = some b → PySem.W.exmOne X.K (.ref (G.ca c)) cv = some b)
    (hb : ∀ (W : WX) (pn : List (Addr × Obj)) (xe : Value → Shared → Prop), Takes (X.tr pn xe) W → PassesOwn (model X.prog X.w) X.A X.env xe → DSs G (X.tr pn xe) W C body mb)
    (hsu : ∀ (a : Addr) (oe : Obj) (c : Nat) (pn : List (Addr × Obj)), Zc (.ref (G.ca c)) none oe → (∃ vs, oe.data = .fields vs) → tbl tb c = some true → DSsX G (X.suite a ((a, oe) :: pn)) WF C a i (b₀ :: suite) (ms c)) :
    DS G X W C (.Try body [.ExceptHandler (some (.Name x np)) (some n) (b₀ :: suite) pos'] [] [] pos) (sTryAs tb i mb ms) := by
  refine ps_imp (ps_try_as (tb := fun W => tSt G W C mb) (ts := fun a cls d K σ H => ∃ c, cls = .ref (G.ca c) ∧ d = none ∧ tbl tb c = some true ∧ tSx G WF C a i (ms c) K σ H) (Wout := W) hs hf hN hi hln hc tk (fun W pn xe t p => hb W pn xe t p)
    (fun a oe cls d pn hz hf => ⟨fun pins s σ H D I ⟨c, e, ed, hl, q⟩ => by subst e ed; exact (hsu a oe c pn hz hf hl).run pins s σ H D I q⟩)) fun K σ H ⟨env, ι, st, hR, hp⟩ => ?_
  refine ⟨env, ι, st, hR, ?_⟩
  have hp : postS G W K H ι (match mb C env st with
    | .exc c x env' st' => match tbl tb c with
      | some true => if x = .non ∧ i < env'.length then wipeS i (ms c C (env'.set i none) st') else .stuck
      | some false => .exc c x env' st'
      | none => .stuck
    | r => r) := hp
  generalize mb C env st = r at hp
  cases r with
  | nx env' st' => exact hp
  | brk env' st' => exact hp
  | cnt env' st' => exact hp
  | ret d st' => exact hp
  | stuck => exact hp
  | exc c xx env' st' =>
    dsimp only at hp
    intro cls ad σ' H' ι' e' hR' hE
    cases ht : tbl tb c with
    | none => rw [ht] at hp; exact hp.elim
    | some b =>
      rw [ht] at hp
      cases b with
      | false =>
        obtain ⟨e1, e2⟩ := hE
        exact ⟨false, by rw [e1]; exact hex c false ht, (fun z => by cases z), fun _ => hp cls ad σ' H' ι' e' hR' ⟨e1, e2⟩⟩
      | true =>
        dsimp only at hp
        by_cases hh : xx = .non ∧ i < env'.length
        · rw [if_pos hh] at hp
          obtain ⟨hx, hl⟩ := hh
          subst hx
          obtain ⟨e1, e2⟩ := hE
          refine ⟨true, by rw [e1]; exact hex c true ht, fun _ a ha => ⟨c, e1, e2, ht, List.getElem?_set_self (by rw [hR'.len]; exact hl), env'.set i none, ι', st', hR'.unset i _, ?_⟩, fun z => by cases z⟩
          generalize ms c C (env'.set i none) st' = r at hp
          cases r with
          | nx env2 st2 => exact fun σ2 H2 ι2 e2 r2 => hp (σ2.set i none) H2 ι2 (e'.trans e2) (r2.unset i none)
          | brk env2 st2 => exact fun σ2 H2 ι2 e2 r2 => hp (σ2.set i none) H2 ι2 (e'.trans e2) (r2.unset i none)
          | cnt env2 st2 => exact fun σ2 H2 ι2 e2 r2 => hp (σ2.set i none) H2 ι2 (e'.trans e2) (r2.unset i none)
          | ret d st2 => exact fun v H2 ι2 e2 s2 r2 => hp v H2 ι2 (e'.trans e2) s2 r2
          | exc c x env2 st2 => exact hp.elim
          | stuck => exact hp.elim
        · rw [if_neg hh] at hp; exact hp.elim
theorem ds_try {x : Str} {cv : Value} {body suite : List Stmt} {b₀ : Stmt} {np pos pos' : Pos} {tb : List (Nat × Bool)} {mb ms : SS} (hs : X.stack = X.env :: X.outer) (hf : X.env.frame = some X.env.locals) (hc : Names X x cv) (tk : Takes X W)
    (hex : ∀ c b, tbl tb c = some b → PySem.W.exmOne X.K (.ref (G.ca c)) cv = some b)
    (hb : ∀ (W : WX) (pn : List (Addr × Obj)) (xe : Value → Shared → Prop), Takes (X.tr pn xe) W → PassesOwn (model X.prog X.w) X.A X.env xe → DSs G (X.tr pn xe) W C body mb)
    (hsu : ∀ (a : Addr) (oe : Obj) (pn : List (Addr × Obj)), DSs G (X.suite a ((a, oe) :: pn)) WF C (b₀ :: suite) ms) :
    DS G X W C (.Try body [.ExceptHandler (some (.Name x np)) none (b₀ :: suite) pos'] [] [] pos) (sTry tb mb ms) := by
  refine ps_imp (ps_try_only (tb := fun W => tSt G W C mb) (ts := fun a cls d K σ H => tSt G WF C ms K σ H) (Wout := W) hs hf hc tk (fun W pn xe t p => hb W pn xe t p)
    (fun a oe cls d pn hz hf => hsu a oe pn)) fun K σ H ⟨env, ι, st, hR, hp⟩ => ?_
  refine ⟨env, ι, st, hR, ?_⟩
  have hp : postS G W K H ι (match mb C env st with
    | .exc c x env' st' => match tbl tb c with
      | some true => if x = .non then noXS (ms C env' st') else .stuck
      | some false => .exc c x env' st'
      | none => .stuck
    | r => r) := hp
  generalize mb C env st = r at hp
  cases r with
  | nx env' st' => exact hp
  | brk env' st' => exact hp
  | cnt env' st' => exact hp
  | ret d st' => exact hp
  | stuck => exact hp
  | exc c xx env' st' =>
    dsimp only at hp
    intro cls ad σ' H' ι' e' hR' hE
    cases ht : tbl tb c with
    | none => rw [ht] at hp; exact hp.elim
    | some b =>
      rw [ht] at hp
      cases b with
      | false =>
        obtain ⟨e1, e2⟩ := hE
        exact ⟨false, by rw [e1]; exact hex c false ht, (fun z => by cases z), fun _ => hp cls ad σ' H' ι' e' hR' ⟨e1, e2⟩⟩
      | true =>
        dsimp only at hp
        by_cases hh : xx = .non
        · rw [if_pos hh] at hp
          subst hh
          obtain ⟨e1, e2⟩ := hE
          refine ⟨true, by rw [e1]; exact hex c true ht, fun _ a ha => ⟨env', ι', st', hR', ?_⟩, fun z => by cases z⟩
          generalize ms C env' st' = r at hp
          cases r with
          | nx env2 st2 => exact fun σ2 H2 ι2 e2 r2 => hp σ2 H2 ι2 (e'.trans e2) r2
          | brk env2 st2 => exact fun σ2 H2 ι2 e2 r2 => hp σ2 H2 ι2 (e'.trans e2) r2
          | cnt env2 st2 => exact fun σ2 H2 ι2 e2 r2 => hp σ2 H2 ι2 (e'.trans e2) r2
          | ret d st2 => exact fun v H2 ι2 e2 s2 r2 => hp v H2 ι2 (e'.trans e2) s2 r2
          | exc c x env2 st2 => exact hp.elim
          | stuck => exact hp.elim
        · rw [if_neg hh] at hp; exact hp.elim
end
/-! ### str(i) -/
noncomputable def strR : Sto → D → Res D := fun st x => match x with
  | .int i => if tsd (i.natAbs.log2 < 1920) then .ok (.str (toString i)) st else .stuck
  | _ => .stuck
@[simp] theorem strR_int (st : Sto) (i : Int) : strR st (.int i) = if tsd (i.natAbs.log2 < 1920) then .ok (.str (toString i)) st else .stuck := rfl
theorem br_str {G : Gx} : Br1L G (fun xs H Q => ∃ i, xs = [.int i] ∧ i.natAbs.log2 < 1920 ∧ Q (.str (toString i)) H) strR := by
  intro W H ι st x v Q s rx h
  unfold strR at h
  split at h
  · cases rx
    split at h
    · rename_i hz
      exact ⟨_, rfl, tsd_of hz, h.here s (v := .str _) rfl⟩
    · exact h.elim
  · exact h.elim
/-! ### facts by the members of a table -/
theorem tb_nil {P : Nat → Bool → Prop} : ∀ c b, (c, b) ∈ ([] : List (Nat × Bool)) → P c b := fun c b h => by cases h
theorem tb_cons {P : Nat → Bool → Prop} {c0 : Nat} {b0 : Bool} {l : List (Nat × Bool)} (h : P c0 b0) (t : ∀ c b, (c, b) ∈ l → P c b) : ∀ c b, (c, b) ∈ (c0, b0) :: l → P c b := fun c b hm => by
  rcases List.mem_cons.mp hm with e | e
  · cases e; exact h
  · exact t c b e
end OH

set_option Elab.async false
set_option linter.all false
set_option maxRecDepth 100000
set_option maxHeartbeats 1000000
/-! OHHand: try with two handlers. -/
namespace OH
open PySem PySem.Spec PyProof.Rows L2
def sTry2 (t1 t2 : List (Nat × Bool)) (body s1 s2 : SS) : SS := fun C env st => match body C env st with
  | .exc c x env' st' => match tbl t1 c with
    | some true => if x = .non then noXS (s1 C env' st') else .stuck
    | some false => match tbl t2 c with
      | some true => if x = .non then noXS (s2 C env' st') else .stuck
      | some false => .exc c x env' st'
      | none => .stuck
    | none => .stuck
  | r => r
section
variable {G : Gx} {X : Cx} {W : WX} {C : Call} {a : Addr} {i : Nat}
theorem ds_try2 {x y : Str} {cv cv2 : Value} {body suite suite2 : List Stmt} {b₀ b₁ : Stmt} {np pos pos' np2 pos2 : Pos} {t1 t2 : List (Nat × Bool)} {mb m1 m2 : SS} (hs : X.stack = X.env :: X.outer) (hf : X.env.frame = some X.env.locals) (hc : Names X x cv) (hc2 : Names X y cv2) (tk : Takes X W)
    (hex : ∀ c b, tbl t1 c = some b → PySem.W.exmOne X.K (.ref (G.ca c)) cv = some b)
    (hex2 : ∀ c b, tbl t2 c = some b → PySem.W.exmOne X.K (.ref (G.ca c)) cv2 = some b)
    (hb : ∀ (W : WX) (pn : List (Addr × Obj)) (xe : Value → Shared → Prop), Takes (X.tr pn xe) W → PassesOwn (model X.prog X.w) X.A X.env xe → DSs G (X.tr pn xe) W C body mb)
    (hsu : ∀ (a : Addr) (oe : Obj) (pn : List (Addr × Obj)), DSs G (X.suite a ((a, oe) :: pn)) WF C (b₀ :: suite) m1)
    (hsu2 : ∀ (a : Addr) (oe : Obj) (pn : List (Addr × Obj)), DSs G (X.suite a ((a, oe) :: pn)) WF C (b₁ :: suite2) m2) :
    DS G X W C (.Try body [.ExceptHandler (some (.Name x np)) none (b₀ :: suite) pos', .ExceptHandler (some (.Name y np2)) none (b₁ :: suite2) pos2] [] [] pos) (sTry2 t1 t2 mb m1 m2) := by
  refine ps_imp (ps_try_many (tb := fun W => tSt G W C mb) (l := [(cv, fun a cls d K σ H => tSt G WF C m1 K σ H), (cv2, fun a cls d K σ H => tSt G WF C m2 K σ H)]) (Wout := W) hs hf tk (fun W pn xe t p => hb W pn xe t p)
    (.cons hc (fun a oe cls d pn hz hf => hsu a oe pn) (.cons hc2 (fun a oe cls d pn hz hf => hsu2 a oe pn) .nil))) fun K σ H ⟨env, ι, st, hR, hp⟩ => ?_
  refine ⟨env, ι, st, hR, ?_⟩
  have hp : postS G W K H ι (match mb C env st with
    | .exc c x env' st' => match tbl t1 c with
      | some true => if x = .non then noXS (m1 C env' st') else .stuck
      | some false => match tbl t2 c with
        | some true => if x = .non then noXS (m2 C env' st') else .stuck
        | some false => .exc c x env' st'
        | none => .stuck
      | none => .stuck
    | r => r) := hp
  generalize mb C env st = r at hp
  cases r with
  | nx env' st' => exact hp
  | brk env' st' => exact hp
  | cnt env' st' => exact hp
  | ret d st' => exact hp
  | stuck => exact hp
  | exc c xx env' st' =>
    dsimp only at hp
    intro cls ad σ' H' ι' e' hR' hE
    cases ht : tbl t1 c with
    | none => rw [ht] at hp; exact hp.elim
    | some b =>
      rw [ht] at hp
      cases b with
      | false =>
        dsimp only at hp
        obtain ⟨e1, e2⟩ := hE
        refine ⟨false, by rw [e1]; exact hex c false ht, (fun z => by cases z), fun _ => ?_⟩
        cases ht2 : tbl t2 c with
        | none => rw [ht2] at hp; exact hp.elim
        | some b2 =>
          rw [ht2] at hp
          cases b2 with
          | false => exact ⟨false, by rw [e1]; exact hex2 c false ht2, (fun z => by cases z), fun _ => hp cls ad σ' H' ι' e' hR' ⟨e1, e2⟩⟩
          | true =>
            dsimp only at hp
            by_cases hh : xx = .non
            · rw [if_pos hh] at hp
              subst hh
              refine ⟨true, by rw [e1]; exact hex2 c true ht2, fun _ a ha => ⟨env', ι', st', hR', ?_⟩, fun z => by cases z⟩
              generalize m2 C env' st' = r at hp
              cases r with
              | nx env2 st2 => exact fun σ2 H2 ι2 e2 r2 => hp σ2 H2 ι2 (e'.trans e2) r2
              | brk env2 st2 => exact fun σ2 H2 ι2 e2 r2 => hp σ2 H2 ι2 (e'.trans e2) r2
              | cnt env2 st2 => exact fun σ2 H2 ι2 e2 r2 => hp σ2 H2 ι2 (e'.trans e2) r2
              | ret d st2 => exact fun v H2 ι2 e2 s2 r2 => hp v H2 ι2 (e'.trans e2) s2 r2
              | exc c x env2 st2 => exact hp.elim
              | stuck => exact hp.elim
            · rw [if_neg hh] at hp; exact hp.elim
      | true =>
        dsimp only at hp
        by_cases hh : xx = .non
        · rw [if_pos hh] at hp
          subst hh
          obtain ⟨e1, e2⟩ := hE
          refine ⟨true, by rw [e1]; exact hex c true ht, fun _ a ha => ⟨env', ι', st', hR', ?_⟩, fun z => by cases z⟩
          generalize m1 C env' st' = r at hp
          cases r with
          | nx env2 st2 => exact fun σ2 H2 ι2 e2 r2 => hp σ2 H2 ι2 (e'.trans e2) r2
          | brk env2 st2 => exact fun σ2 H2 ι2 e2 r2 => hp σ2 H2 ι2 (e'.trans e2) r2
          | cnt env2 st2 => exact fun σ2 H2 ι2 e2 r2 => hp σ2 H2 ι2 (e'.trans e2) r2
          | ret d st2 => exact fun v H2 ι2 e2 s2 r2 => hp v H2 ι2 (e'.trans e2) s2 r2
          | exc c x env2 st2 => exact hp.elim
          | stuck => exact hp.elim
        · rw [if_neg hh] at hp; exact hp.elim
end
/-! ### list.index of flat items -/
def flV : D → Option V
  | .int i => some (.int i)
  | .str s => some (.str s)
  | _ => none
def flVs : List D → Option (List V)
  | [] => some []
  | d :: ds => (flV d).bind fun v => (flVs ds).map fun vs => v :: vs
section
variable {G : Gx}
theorem fl_rep {H : Hp} {ι : List Addr} {d : D} {v v' : V} (h : flV d = some v) (r : Rep G H ι d v') : v' = v ∧ flatV v = true := by
  cases d with
  | int i => cases h; cases r; exact ⟨rfl, rfl⟩
  | str i => cases h; cases r; exact ⟨rfl, rfl⟩
  | _ => cases h
theorem fls_rep {H : Hp} {ι : List Addr} : ∀ {ds : List D} {vs vs' : List V}, flVs ds = some vs → RepL G H ι ds vs' → vs' = vs ∧ vs.all flatV = true
  | [], vs, vs', h, r => by cases h; cases r; exact ⟨rfl, rfl⟩
  | d :: ds, vs, vs', h, r => by
    obtain ⟨v, w, rfl, r1, r2⟩ := r
    unfold flVs at h
    cases e1 : flV d with
    | none => rw [e1] at h; cases h
    | some u =>
      rw [e1] at h
      cases e2 : flVs ds with
      | none => rw [e2] at h; cases h
      | some us =>
        rw [e2] at h
        cases h
        obtain ⟨rfl, f1⟩ := fl_rep e1 r1
        obtain ⟨rfl, f2⟩ := fls_rep e2 r2
        exact ⟨rfl, by rw [List.all_cons, f1, f2]; rfl⟩
noncomputable def indexR : Sto → D → List D → Res D := fun st x ds => match x, ds with
  | .ref a, [y] => match lstAt st a, flV y with
    | some xs, some u => match flVs xs with
      | some vs => match vs.findIdx? (fun z => eqV z u) with
        | some k => .ok (.int (k : Nat)) st
        | none => .stuck
      | none => .stuck
    | _, _ => .stuck
  | _, _ => .stuck
theorem brm_index : BrM G (rIndex G.K) indexR := by
  intro W H ι st x ds v vs Q s rx rv h
  unfold indexR at h
  split at h
  · split at h
    · rename_i e1 e2
      split at h
      · rename_i ws e3
        split at h
        · rename_i k e4
          obtain ⟨y, _, rfl, ry, rfl⟩ := rv
          obtain ⟨a, xs, k1, k2, k3⟩ := s.lst e1
          obtain ⟨_, k1', rfl⟩ := rx
          rw [k1] at k1'; cases k1'
          obtain ⟨rfl, f1⟩ := fl_rep e2 ry
          obtain ⟨rfl, f2⟩ := fls_rep e3 k3
          obtain ⟨hk, e5, e6⟩ := List.findIdx?_eq_some_iff_getElem.mp e4
          refine ⟨a, _, _, k, _, rfl, rfl, SqL.of k2, f1, f2, List.getElem?_eq_getElem hk, e5, fun m z' hm hz => ?_, h.here s (v := .int _) rfl⟩
          obtain ⟨hm2, rfl⟩ := List.getElem?_eq_some_iff.mp hz
          have := e6 m hm
          simpa using this
        · exact h.elim
      · exact h.elim
    · exact h.elim
  · exact h.elim
end
theorem flVs_ints : ∀ os : List Int, flVs (os.map D.int) = some (os.map V.int)
  | [] => rfl
  | o :: os => by
    show (flV (D.int o)).bind _ = _
    rw [flVs_ints os]; rfl
theorem indexR_ints {st : Sto} {a : Nat} {os : List Int} {i : Int} {k : Nat} (h : lstAt st a = some (os.map D.int)) (hk : os.findIdx? (fun x => x == i) = some k) : indexR st (.ref a) [.int i] = .ok (.int (k : Nat)) st := by
  have e : (os.map V.int).findIdx? (fun z => eqV z (.int i)) = some k := by
    rw [List.findIdx?_map]
    exact hk
  unfold indexR
  simp only [h, flV, flVs_ints, e]
end OH

set_option Elab.async false
set_option linter.all false
set_option maxRecDepth 100000
set_option maxHeartbeats 1000000
/-! OHDct: a dict is never an integer. -/
namespace OH
open PySem PySem.Spec PyProof.Rows L2
section
variable {prog : Program} {w : World} {A : Around} {E : Value → Shared → Prop} {s : Shared}
theorem int_ne_no (b : Int) (u : Tok) (l : Addr) (c : Value) (es : Array DictEntry) (ep : Nat) (dd : Option Addr) (sl : Array (Option Value)) :
    Meets (Builtin.«int.__ne__» ⟨[.int b u, .ref l], []⟩) (fun _ R s => s.heap.get? l = some { cls := c, dict := dd, data := .dict es ep, slots := sl } ∧ R (.ok (.ret .notImplemented)) s) :=
  .of_wp fun prog w A R s h => by
    obtain ⟨hp, g, d, tk, os⟩ := s
    obtain ⟨hl, h⟩ := h
    wp_walk using wpAny_load hl
    exact ⟨_, rfl, h⟩
theorem dict_ne_no {l : Addr} (b : Int) (u : Tok) {Q : Value → Shared → Prop} (hd : s.TypeIs (.ref l) "dict") (h : Q .notImplemented s) :
    wpAny (model prog w) A (call (.builtin "dict.__ne__") [.ref l, .int b u]) Q E s := by
  refine wpAny_call_entry PySem.F.slot_dict_ne hd PySem.F.entry_dict_ne ?_ (PySem.F.args_dict_ne_2 _ _)
  show wpAny _ _ (Builtin.Dict.dictSlotArgs "__ne__" ⟨[.ref l, .int b u], []⟩ >>= _) _ _ s
  refine wpAny_bind ?_
  unfold Builtin.Dict.dictSlotArgs
  refine wpAny_bind (wpAny_notOrdered_dict hd ?_)
  show wpAny _ _ (pure (Value.ref l, Value.int b u)) _ _ s
  refine wpAny_pure ?_
  refine wpAny_bind (wpAny_isInstance (T := "int") (typeIs_int s b u) PySem.F.sub_int_dict ?_)
  simp only [Bool.not_false, if_true]
  exact wpAny_bind (wpAny_rule (wpAny_bind (wpAny_pure (wpAny_pure ⟨_, rfl, h⟩))))
theorem ne_dict_int {l : Addr} {o : Obj} {es : Array DictEntry} {ep : Nat} (b : Int) (u : Tok) {Q : Value → Shared → Prop} (ho : s.heap.get? l = some o) (hc : o.cls = .type "dict") (hda : o.data = .dict es ep) (hu : A.units < cLine) (h : Q (.bool true) s) :
    wpAny (model prog w) A (richCompare .NotEq (.ref l) (.int b u)) Q E s := by
  obtain ⟨cls, dd, data, sl⟩ := o
  simp only at hc hda
  subst hc hda
  have ha : s.TypeIs (.ref l) "dict" := ⟨_, ho, rfl⟩
  have hb : s.TypeIs (.int b u) "int" := typeIs_int s b u
  have h1 := PySem.F.slot_dict_ne
  have h2 := PySem.F.slot_int_ne_refl
  have hne : (Value.type "dict" != Value.type "int") = true := by decide
  rcases hi : cmpInfo CmpOp.NotEq with ⟨sym, f, r⟩
  rw [hi] at h1 h2
  simp only [richCompare, hi, ha.oneThing_none]
  try with_reducible refine wpAny_holding ?_
  refine wpAny_bind (wpAny_cRoomFor_or (.inr hu) ?_)
  refine wpAny_bind (wpAny_typeOf ha (wpAny_bind (wpAny_typeOf hb ?_)))
  simp only [hne, if_true]
  refine wpAny_bind (wpAny_of_eq PySem.F.sub_int_dict ?_)
  simp only [Bool.false_eq_true, if_false, Bool.not_false, if_true]
  refine wpAny_bind (m := tryCompare (.ref l) _ (.int b u)) (wpAny_tryCompare_declines ha h1 (dict_ne_no b u ha ⟨rfl, ?_⟩))
  refine wpAny_bind (m := tryCompare (.int b u) _ (.ref l)) (wpAny_tryCompare_declines hb h2 (call_meets PySem.F.slot_int_ne_refl (typeIs_int s b u) PySem.F.entry_int_ne (PySem.F.args_int_ne_2 _ _) (int_ne_no b u l (.type "dict") es ep dd sl) ⟨ho, ?_⟩))
  refine ⟨rfl, ?_⟩
  exact wpAny_bind (wpAny_rule (wpAny_bind (wpAny_of_eq (rfl : isSame (.ref l) (.int b u) = pure false) (wpAny_pure h))))
end
/-- a dict is not an integer -/
def neX : Sto → D → D → Option Bool := fun st x y => match x, y with
  | .ref i, .int _ => match st[i]? with | some (.dct _) => some true | _ => neB st x y
  | _, _ => neB st x y
section
variable {G : Gx} {X : Cx} {W : WX} {C : Call}
def rNeX : R2 := fun x y H Q => ∃ a i, x = .ref a ∧ y = .int i ∧ ((∃ ks, H a = some (.dK ks)) ∨ ∃ ks, H a = some (.dT ks)) ∧ Q (.bl true) H
theorem op_neX (hu : X.A.units < cLine) : OpR X (compareOp .NotEq) rNeX := by
  intro pins s σ H x y v u Q I rx ry h
  obtain ⟨a, i, rfl, rfl, hd, q⟩ := h
  cases rx
  obtain ⟨t, rfl⟩ := ry
  rcases hd with ⟨ks, e⟩ | ⟨ks, e⟩
  · obtain ⟨_, _, vs, _, o, es, ep, h1, h2, h3, _⟩ := dk_of I.hok e
    exact ne_dict_int i t h1 h2.1 h3 hu ⟨.bl true, H, I, rfl, q⟩
  · obtain ⟨_, _, vs, _, o, es, ep, h1, h2, h3, _⟩ := dt_of I.hok e
    exact ne_dict_int i t h1 h2.1 h3 hu ⟨.bl true, H, I, rfl, q⟩
theorem br_neX : Br2 G (fun x y H Q => rNeD G.K x y H Q ∨ rNeX x y H Q) (cB neX) := by
  intro W H ι st x y v u Q s rx ry h
  have old : ∀ {x y : D}, Rep G H ι x v → Rep G H ι y u → post G (Rep G) W H ι Q (cB neB st x y) → rNeD G.K v u H Q ∨ rNeX v u H Q := fun rx ry h => .inl (br_ne W H ι st _ _ v u Q s rx ry h)
  unfold cB neX at h
  split at h
  · rename_i i j
    split at h
    · rename_i kvs e
      obtain ⟨d, e', h⟩ := h.opt
      cases e'
      obtain ⟨a, ha, hc⟩ := s.at e
      obtain ⟨a', e1, e2⟩ := rx
      rw [ha] at e1
      cases e1
      cases ry
      refine .inr ⟨a, j, e2, rfl, ?_, h.here s (v := .bl _) rfl⟩
      rcases hc with ⟨ks, vs, k, _⟩ | ⟨ks, vs, k, _⟩
      · exact .inl ⟨_, k⟩
      · exact .inr ⟨_, k⟩
    · exact old rx ry h
  · exact old rx ry h
theorem db_neX {a b : Expr} {ma mb : SE} {pos : Pos} (hK : X.K = G.K) (hu : X.A.units + 64 < cLine) (ha : DE G X W C a ma) (hb : DE G X W C b mb) : DB G X W C (.Compare a [.NotEq] [b] pos) (bCmp neX ma mb) := db_cmp ((op_neD hu).or (op_neX (by omega))) (by rw [hK]; exact br_neX) ha hb (nomark _)
end
/-! ### len(set(t)), t a tuple of integers -/
def intL : List D → Option (List Int)
  | [] => some []
  | .int i :: ds => (intL ds).map (i :: ·)
  | _ => none
def setLen (ns : List Int) : Nat := ns.eraseDups.length
noncomputable def lenSetR : Sto → D → Res D := fun st x => match x with
  | .tup ds => match intL ds with
    | some ns => if ns.length < 60 then .ok (.int (setLen ns : Nat)) st else .stuck
    | none => .stuck
  | _ => .stuck
theorem eraseDups_nodup : ∀ (n : Nat) (ns : List Int), ns.length ≤ n → ns.eraseDups.Nodup
  | _, [], _ => by simp
  | 0, a :: l, h => by simp at h
  | n + 1, a :: l, h => by
    rw [List.eraseDups_cons]
    have h2 : (l.filter fun b => !b == a).length ≤ n := Nat.le_trans (List.length_filter_le _ _) (by simpa using h)
    refine List.nodup_cons.mpr ⟨fun hm => ?_, eraseDups_nodup n _ h2⟩
    have := List.mem_eraseDups.mp hm
    simp at this
theorem setLen_of {ns ks : List Int} (nd : ks.Nodup) (h : ∀ k, k ∈ ns ↔ k ∈ ks) : ks.length = setLen ns := by
  have p : List.Perm ks ns.eraseDups := (List.perm_ext_iff_of_nodup nd (eraseDups_nodup _ ns (Nat.le_refl _))).mpr fun a => by rw [List.mem_eraseDups, h]
  exact p.length_eq
section
variable {X : Cx}
def rLenSet (K : PySem.W.Frag) : V → Hp → VK → Prop := fun x H Q => ∃ (l : Addr) (ns : List Int), x = V.ref l ∧ SqT K H l (ns.map V.int) ∧ ns.length < 60 ∧ Q (.int (setLen ns : Nat)) H
theorem pe_lenSetT {a : Expr} {ta : TE} {p p2 q pos : Pos} (hc : X.calm = true) (hg : Gl X "len") (hm : X.mg "len" = none) (hg2 : Gl X "set") (hm2 : X.mg "set" = none) (ha : PE X a ta)
    (na : starEach [a] X.env = (false, eval a X.env) :: starEach [] X.env := by rfl) : PE X (.Call (.Name "len" p) [.Call (.Name "set" p2) [a] [] q] [] pos) (tUn (rLenSet X.K) ta) := by
  refine ⟨fun pins s σ H Q I h => ?_⟩
  refine Call_ (ld_blt I hg hm PySem.boot_len ?_)
  refine PyProof.Rows.callWith_builtin1 (PyProof.Rows.args_cons ?_ rfl) rfl rfl
  refine Call_ (ld_blt I hg2 hm2 PyProof.Rows.boot_set ?_)
  refine PyProof.Rows.callWith_type1 (PyProof.Rows.args_cons (thn (ha.run pins s σ H _ I h) fun v s1 ⟨x, H1, I1, r1, q1⟩ => PyProof.Rows.args_nil ?_) na) na rfl
  obtain ⟨l, ns, rfl, hq, h1, q1⟩ := q1
  cases r1
  obtain ⟨its, r, pl, hz⟩ := I1.tuple hq
  refine call_set_tupI ns (I1.ok.hd hc) pl (by simpa using r.ints) (by unfold scanBound; omega) fun h' tk c hS hc2 hk => ?_
  refine PyProof.Rows.args_nil ?_
  obtain ⟨o, es, ep, t, ho, hex, hd, hg, hnd, hm, hb, hf, hn, _⟩ := hS
  have hl : (es.toList.map keyOf).length = setLen ns := setLen_of hnd fun k => by
    rw [← hm k]
    simp
  have hl2 : es.size = setLen ns := by rw [← hl, List.length_map, Array.length_toList]
  have I2 : Inv X pins σ H1 { s1 with heap := h', toks := tk } := I1.kept fun b o e => hk b o e
  exact call_len_set ho hex hd hf (by omega) ⟨.int (setLen ns : Nat), H1, I2.tok _, ⟨_, by rw [hl2]⟩, q1⟩
end
section
variable {G : Gx} {X : Cx} {W : WX} {C : Call}
theorem intL_rep {H : Hp} {ι : List Addr} : ∀ {ds : List D} {ns : List Int} {vs : List V}, intL ds = some ns → RepL G H ι ds vs → vs = ns.map V.int
  | [], ns, vs, h, r => by cases h; cases r; rfl
  | d :: ds, ns, vs, h, r => by
    obtain ⟨v, w, rfl, r1, r2⟩ := r
    cases d with
    | int i =>
      unfold intL at h
      obtain ⟨ms, h1, rfl⟩ := Option.map_eq_some_iff.mp h
      cases r1
      rw [intL_rep h1 r2] <;> rfl
    | _ => cases h
theorem br_lenSet : Br1 G (rLenSet G.K) lenSetR := by
  intro W H ι st x v Q s rx h
  unfold lenSetR at h
  split at h
  · rename_i ds
    split at h
    · rename_i ns e
      split at h
      · rename_i hl
        obtain ⟨a, xs, e1, e2, e3⟩ := rx
        refine ⟨a, ns, e1, ?_, hl, h.here s (v := .int _) rfl⟩
        rw [← intL_rep e e3]
        exact e2
      · exact h.elim
    · exact h.elim
  · exact h.elim
theorem de_lenSet {a : Expr} {ma : SE} {p p2 q pos : Pos} (hK : X.K = G.K) (hc : X.calm = true) (hg : Gl X "len") (hm : X.mg "len" = none) (hg2 : Gl X "set") (hm2 : X.mg "set" = none) (ha : DE G X W C a ma)
    (na : starEach [a] X.env = (false, eval a X.env) :: starEach [] X.env := by rfl) : DE G X W C (.Call (.Name "len" p) [.Call (.Name "set" p2) [a] [] q] [] pos) (eU1 lenSetR ma) :=
  de_tUn (ma := ma) (pe_lenSetT hc hg hm hg2 hm2 ha na) (by rw [hK]; exact br_lenSet)
end
/-! ### a call of a def that a subscript gives -/
def eCallX (fs : List Nat) (me : SE) (l : SL) : SE := fun C env st => (me C env st).bind fun x st => match x with
  | .fn f => if f ∈ fs then (l C env st).bind fun xs st => C f xs st else .stuck
  | _ => .stuck
@[simp] theorem eCallX_ap (fs : List Nat) (me : SE) (l : SL) (C : Call) (env : Env) (st : Sto) : eCallX fs me l C env st = (me C env st).bind fun x st => match x with
  | .fn f => if f ∈ fs then (l C env st).bind fun xs st => C f xs st else .stuck
  | _ => .stuck := rfl
section
variable {G : Gx} {X : Cx} {W : WX} {C : Call}
def tCallX (G : Gx) (C : Call) (fs : List Nat) (E : L2.St → XK) (tf : TE) (t : TA) : TE := fun σ H Q => tf σ H fun v H1 => ∃ f, v = .ref (G.fa f) ∧ f ∈ fs ∧ t σ H1 fun vs H2 => spC G C f vs H2 Q (E σ)
theorem pe_callX {k : Nat} {fs : List Nat} {a i e : Expr} {es : List Expr} {tf : TE} {t : TA} {p pos : Pos} (hF : ∀ f ∈ fs, ∃ x, FnAt X.prog X.w G X.mg X.base C k f x) (hK : X.K = G.K) (hr : Room k X.A) (tk : Takes X W) (hf : PE X (.Subscript a i p) tf) (ha : PA X (e :: es) t)
    (he : starEach (e :: es) X.env = (false, eval e X.env) :: starEach es X.env := by rfl) (hpl : (backTo pos (starEach es X.env)).any (·.1) = false := by rfl) :
    PE X (.Call (.Subscript a i p) (e :: es) [] pos) (tCallX G C fs (WE W) tf t) := by
  refine ⟨fun pins s σ H Q I h => ?_⟩
  have ev : eval (.Call (.Subscript a i p) (e :: es) [] pos) X.env = (do
      callWith pos (← eval (.Subscript a i p) X.env) [] (backTo pos (starEach (e :: es) X.env)) (backToKw pos (keywordEach [] X.env))) := rfl
  rw [ev]
  refine wpAny_bind (thn (hf.run pins s σ H _ I h) fun u s1 ⟨v, H1, I1, r1, f, e1, hm, q1⟩ => ?_)
  subst e1
  obtain rfl : u = Value.ref (G.fa f) := r1
  obtain ⟨x, hm, hk, fd, ps, hok, hb⟩ := hF f hm
  rw [← hK] at hk hok hb
  refine PySem.W.callWith_K (h₀ := X.base) I1.ok.mod.kin hk (thn (ha.run pos pins s1 σ H1 _ I1 q1) fun us s2 ⟨vs, H2, I2, r, q⟩ => ⟨I2.kIn, ?_⟩) he hpl
  exact run_fnS hok hr hb (E := WE W) (passAt tk σ) I2 r q
theorem de_callX {k : Nat} {fs : List Nat} {a i e : Expr} {es : List Expr} {me : SE} {l : SL} {p pos : Pos} (hF : ∀ f ∈ fs, ∃ x, FnAt X.prog X.w G X.mg X.base C k f x) (hK : X.K = G.K) (hr : Room k X.A) (tk : Takes X W) (hf : DE G X W C (.Subscript a i p) me) (ha : DA G X W C (e :: es) l)
    (he : starEach (e :: es) X.env = (false, eval e X.env) :: starEach es X.env := by rfl) (hpl : (backTo pos (starEach es X.env)).any (·.1) = false := by rfl) :
    DE G X W C (.Call (.Subscript a i p) (e :: es) [] pos) (eCallX fs me l) :=
  pe_imp (pe_callX hF hK hr tk hf ha he hpl) fun σ H Q ⟨env, ι, st, hR, hp⟩ => sqE hR hp fun x st1 v H1 ι1 e1 hR1 r1 hp1 => by
    cases x with
    | fn f =>
      dsimp only at hp1
      by_cases hm : f ∈ fs
      · rw [if_pos hm] at hp1
        refine ⟨f, r1, hm, ?_⟩
        exact sqA hR1 hp1 fun ds st2 vs H2 ι2 e2 hR2 r2 hp2 => ⟨ds, ι2, st2, r2, hR2.sto, hp2⟩
      · rw [if_neg hm] at hp1; exact hp1.elim
    | _ => exact hp1.elim
theorem de_fn {k f : Nat} {x : Str} {pos : Pos} (hF : FnAt X.prog X.w G X.mg X.base C k f x) (hg : Gl X x) (hd : (x == ("__debug__" : Str)) = false := by decide) : DE G X W C (.Name x pos) (eC (.fn f)) :=
  de_glob (pe_glob hg hF.g (v := .ref (G.fa f)) rfl hd) fun _ _ => rfl
end
theorem fnx_nil {P : Program} {w : World} {G : Gx} {mg : Str → Option Value} {base : Heap} {C : Call} {k : Nat} : ∀ f ∈ ([] : List Nat), ∃ x, FnAt P w G mg base C k f x := fun f h => by cases h
theorem fnx_cons {P : Program} {w : World} {G : Gx} {mg : Str → Option Value} {base : Heap} {C : Call} {k g : Nat} {y : Str} {fs : List Nat} (h : FnAt P w G mg base C k g y) (r : ∀ f ∈ fs, ∃ x, FnAt P w G mg base C k f x) : ∀ f ∈ g :: fs, ∃ x, FnAt P w G mg base C k f x := fun f hf => by
  rcases List.mem_cons.mp hf with e | e
  · rw [e]; exact ⟨y, h⟩
  · exact r f e
end OH

set_option Elab.async false
set_option linter.all false
set_option maxRecDepth 100000
set_option maxHeartbeats 1000000
/-! OHIter: enumerate and zip over tuples and lists. -/
namespace OH
open PySem PySem.Spec PyProof.Rows L2
section
open AutoSeq1 (wpAny_loadPart')
open Sem (wp)
theorem meets_enumerate_newT (l : Addr) (items : Array Value) (n : Nat) (dct : Option Addr) (sl : Array (Option Value)) :
    Meets (Builtin.«enumerate.__new__» ⟨[.type "enumerate", .ref l], []⟩) (fun _ R s => s.heap.get? l = some { cls := .type "tuple", dict := dct, data := .seq items n, slots := sl } ∧
      R (.ok (.ret (.ref (s.heap.push { cls := .type "tuple_iterator", data := .fields #[.ref l, .int 0 0] }).objs.size)))
        { s with heap := (s.heap.push { cls := .type "tuple_iterator", data := .fields #[.ref l, .int 0 0] }).push { cls := .type "enumerate", data := .fields #[.none, .bool false, .ref s.heap.objs.size, rawInt 0, .none, .none] } }) :=
  .of_wp fun prog w A R s h => by
    obtain ⟨hp, g, d, tk, os⟩ := s; obtain ⟨hl, h⟩ := h
    have hsub := sub_enumerate
    have hL : Heap.IsTuple (Shared.heap ⟨hp, g, d, tk, os⟩) l items := ⟨_, hl, rfl, n, rfl⟩
    wp_walk using wpAny_loadPart' hl
    refine wpAny_stack_any fun st => wpAny_pure ?_
    split
    · rename_i c _ _ _ _ _
      cases (c == Value.type "enumerate")
      · wp_walk using wpAny_loadPart' hl, wpAny_pyIter_tuple hL
        exact ⟨_, rfl, h⟩
      · wp_walk using wpAny_loadPart' hl, wpAny_pyIter_tuple hL
        exact ⟨_, rfl, h⟩
    · wp_walk using wpAny_loadPart' hl, wpAny_pyIter_tuple hL
      exact ⟨_, rfl, h⟩
end
theorem call_enumerate_tuple {prog : Program} {w : World} {A : Around} {E : Value → Shared → Prop} {s : Shared} {l : Addr} {items : Array Value} {Q : Value → Shared → Prop} (hL : s.heap.IsTuple l items)
    (h : ∀ h', IsEnum h' (s.heap.objs.size + 1) s.heap.objs.size 0 .none → h'.IsTupleIter s.heap.objs.size l 0 → h'.objs.size = s.heap.objs.size + 2 →
      (∀ b o, s.heap.get? b = some o → h'.get? b = some o) → Q (.ref (s.heap.objs.size + 1)) { s with heap := h' }) :
    wpAny (model prog w) A (call (.type "enumerate") [.ref l]) Q E s := by
  obtain ⟨⟨c, dct, dt, sl⟩, hl, hc, n, hd⟩ := hL
  replace hc : c = .type "tuple" := hc
  replace hd : dt = .seq items n := hd
  subst hc hd
  refine callType_new F.called_enumerate (by decide) (F.typeCall_enumerate_1 _) (F.newCall_enumerate_1 _) (fun obj => F.args_object_init_2 obj _) F.entry_enumerate_new
    (meets_enumerate_newT l items n dct sl) ⟨hl, ?_⟩
  have hz : (s.heap.push { cls := .type "tuple_iterator", data := .fields #[.ref l, .int 0 0] }).objs.size = s.heap.objs.size + 1 := Heap.size_push ..
  show _ ∧ _
  rw [hz]
  have he : IsEnum ((s.heap.push { cls := .type "tuple_iterator", data := .fields #[.ref l, .int 0 0] }).push
      { cls := .type "enumerate", data := .fields #[.none, .bool false, .ref s.heap.objs.size, rawInt 0, .none, .none] }) (s.heap.objs.size + 1) s.heap.objs.size 0 .none := by
    have := Heap.get?_push_size (s.heap.push { cls := .type "tuple_iterator", data := .fields #[.ref l, .int 0 0] })
      (o := { cls := .type "enumerate", data := .fields #[.none, .bool false, .ref s.heap.objs.size, rawInt 0, .none, .none] }) rfl
    rw [hz] at this; exact this
  refine ⟨⟨_, he, rfl⟩, h _ he ⟨_, Heap.get?_push_of_some _ (Heap.get?_push_size _ rfl), rfl, rfl⟩ (by rw [Heap.size_push, hz]) fun b o x => Heap.get?_push_of_some _ (Heap.get?_push_of_some _ x)⟩
/-- the items of a tuple, drawn -/
theorem draws_tuple {prog : Program} {w : World} {A : Around} (hh : A.handled = none) (it l : Addr) (hne : l ≠ it) (items : Array Value) :
    Draws prog w A it [it, l] items.size (fun i x => items[i]? = some x) (fun i h => h.IsTupleIter it l i ∧ h.IsTuple l items) where
  live := fun i h st => let ⟨⟨o, e, _⟩, _⟩ := st; ⟨o, e⟩
  frame := fun i h h' st k => ⟨st.1.at fun o q => k it (by simp) o q, let ⟨o, e, c⟩ := st.2; ⟨o, k l (by simp) o e, c⟩⟩
  item := fun i s Q E hi st hQ => by
    refine RZ.nextOf_tuple_item st.1 st.2 (x := items[i]) (by simp [hi]) fun h' hit sb => ?_
    exact hQ items[i] h' s.toks (by simp [hi]) ⟨hit, let ⟨o, e, c⟩ := st.2; ⟨o, (sb.2 l hne).trans e, c⟩⟩ sb
  done := fun s Q E st hE => RZ.nextOf_tuple_end hh st.1 st.2 (by simp) fun h' e eb ho => hE h' e eb ho
end OH
namespace OH
open PySem PySem.Spec PyProof.Rows L2
theorem pyNext_enumT_end {prog : Program} {w : World} {A : Around} {E : Value → Shared → Prop} {s : Shared} {e it l : Addr} {i : Nat} {k : Int} {items : Array Value} {old : Value} {Q : Option Value → Shared → Prop} (hh : A.handled = none)
    (he : IsEnum s.heap e it k old) (hit : s.heap.IsTupleIter it l i) (hl : s.heap.IsTuple l items) (hx : items[i]? = none)
    (hQ : ∀ h', Heap.ExtBut it s.heap h' → Q none { s with heap := h' }) : wpAny (model prog w) A (pyNext (.ref e)) Q E s := by
  have hT : s.TypeIs (.ref e) "enumerate" := ⟨_, he, rfl⟩
  unfold pyNext
  refine wpAny_bind (wpAny_attempt (wpAny_callSpecial?_slot (name := Str.ofString "__next__") hT F.slot_enumerate_next
    (wpAny_call_entry F.slot_enumerate_next hT F.entry_enumerate_next ?_ (F.args_enumerate_next_1 _))))
  show wpAny _ _ (field (.ref e) 2 >>= _) _ _ _
  refine wpAny_bind (wpAny_field he rfl (x := .ref it) rfl ?_)
  refine wpAny_bind (RZ.nextOf_tuple_end hh hit hl hx fun h' x he' hx' => ?_)
  obtain ⟨o, ho, hc⟩ := hx'
  refine wpAny_bind (wpAny_isInstance (T := "StopIteration") (b := true) ⟨o, ho, hc⟩ isSubtype_stop ?_)
  exact wpAny_pure (hQ _ he')
/-- the tuple at a, each item in a new pair -/
def IteT (K : PySem.W.Frag) (a : Addr) : L2.It :=
  ⟨fun i H => ∃ (xs : List V) (x : V), SqT K H a xs ∧ xs[i]? = some x, fun i H v H' => ∃ T x, v = .ref T ∧ H T = none ∧ H' = upd H T (.tup [.int (i : Nat), x]) ∧ ∀ xs, SqT K H a xs → xs[i]? = some x, fun i H => ∃ xs : List V, SqT K H a xs ∧ xs.length ≤ i⟩
theorem turn_enumT {P : Program} {w : World} {K : PySem.W.Frag} {elts : List Expr} {kk : Nat} {tpos : Pos} (a e it : Addr) (hai : a ≠ it) (hae : a ≠ e) :
    Turn P w K (.Tuple elts kk tpos) (IteT K a) [e, it] e (fun i h => (∃ old, IsEnum h e it ((i : Nat) : Int) old) ∧ h.IsTupleIter it a i ∧ e ≠ it) where
  mem := by simp
  obj := fun i h st b hb => by
    obtain ⟨⟨old, he⟩, ⟨o, ho, hc, hd⟩, _⟩ := st
    have e' : b = e ∨ b = it := by simpa using hb
    rcases e' with z | z
    · rw [z]; exact ⟨_, he, fun v q => nomatch q⟩
    · rw [z]; exact ⟨o, ho, fun v q => by rw [hd] at q; cases q⟩
  keep := fun i h h' st k => let ⟨⟨old, he⟩, hi, hne⟩ := st; ⟨⟨old, k e (by simp) _ he⟩, hi.at fun o q => k it (by simp) o q, hne⟩
  item := by
    intro X hP hw hK hc i pins s σ H E I hf st hg
    subst hP hw hK
    obtain ⟨⟨old, he⟩, hit, hne⟩ := st
    obtain ⟨xs, x, hq, hx⟩ := hg
    obtain ⟨its, rv, p, hz⟩ := I.tuple hq
    obtain ⟨u, hu, ru⟩ := rv.get hx
    have hel : e < s.heap.objs.size := Heap.lt_size he
    have hil : it < s.heap.objs.size := by obtain ⟨_, q, _⟩ := hit; exact Heap.lt_size q
    have hilt : i < its.toArray.size := by
      have := (List.getElem?_eq_some_iff.mp hu).1
      simpa using this
    refine wpAny_pyNext_enum_itemD (draws_tuple (prog := X.prog) (w := X.w) (A := X.A.in1) (I.ok.hd hc) it a hai its.toArray) he ⟨hit, p⟩ hilt hne (by simp; exact ⟨hne, hae.symm⟩) fun x' h' tk hx' ho hst hT hsz hk => ?_
    have ex : x' = u := by
      have : its.toArray[i]? = some u := by simpa using hu
      rw [this] at hx'; exact (Option.some.inj hx').symm
    subst ex
    refine ⟨_, rfl, wpAny_letOwnedTupleGo_enum (s := { s with heap := h', toks := tk + 1 }) ho fun h'' he' sb => ?_⟩
    have hT2 : h''.get? s.heap.objs.size = some { cls := .type "tuple", data := .seq #[.int i tk, x'] } := (sb.2 _ (Nat.ne_of_gt hel)).trans hT
    have new : ObjOk X.prog X.w (upd H s.heap.objs.size (.tup [.int (i : Nat), x])) h'' s.heap.objs.size (.tup [.int (i : Nat), x]) :=
      ⟨by show 2 ≤ sizeLine; decide, [.int i tk, x'], .cons ⟨_, rfl⟩ (.cons ru .nil), ⟨_, hT2, rfl, _, rfl⟩⟩
    have I1 : L2.Inv X pins σ (upd H s.heap.objs.size (.tup [.int (i : Nat), x])) { s with heap := h'', toks := tk + 1 } :=
      I.turnedNew (ch := [e, it]) (fun b ob hb q => (sb.2 b (fun z => hb (by simp [z]))).trans (hk b ob (fun z => hb (by simp [z])) (fun z => hb (by simp [z])) q)) hf (Nat.le_refl _) new
    refine ⟨.ref s.heap.objs.size, _, I1, rfl, ⟨_, x, rfl, I.hok.fresh (Nat.le_refl _), rfl, fun ys hy => by rw [I.tuple_inj hy hq]; exact hx⟩, ⟨⟨x', ?_⟩, hst.1.at fun o q => (sb.2 it (Ne.symm hne)).trans q, hne⟩, fun b hb => ?_⟩
    · have e1 : ((i + 1 : Nat) : Int) = (i : Int) + 1 := by omega
      rw [e1]; exact he'
    · have hb' : b < s.heap.objs.size := by
        have e' : b = e ∨ b = it := by simpa using hb
        rcases e' with z | z
        · rw [z]; exact hel
        · rw [z]; exact hil
      rw [upd_ne (Nat.ne_of_lt hb')]
      exact (hf b hb).1
  done := by
    intro X hP hw hK hc i pins s σ H E I hf st hg
    subst hP hw hK
    obtain ⟨⟨old, he⟩, hit, hne⟩ := st
    obtain ⟨xs, hq, hx⟩ := hg
    obtain ⟨its, rv, p, hz⟩ := I.tuple hq
    obtain ⟨f0, f1, f2, f3, f4, f5⟩ := hf it (by simp)
    have hl := rv.length
    exact pyNext_enumT_end (I.ok.hd hc) he hit p (by simp; omega) fun h' eb => ⟨rfl, I.turned (t' := s.toks) (fun b o hb q => eb b o hb q) f0 f1 f3 f4 f5⟩
  self := fun A i s Q E st h => let ⟨⟨_, he⟩, _⟩ := st; wpAny_pyIter_enum he h
/-! ### enumerate, zip as iterables -/
section
variable {G : Gx} {X : Cx} {W : WX} {C : Call}
def tEnumA (K : PySem.W.Frag) (ta : TA) : TI := fun σ H R => ta σ H fun vs H1 => ∃ a, vs = [.ref a] ∧ (((∃ xs, SqL K H1 a xs) ∧ R (Ite K a) H1) ∨ ((∃ xs, SqT K H1 a xs) ∧ R (IteT K a) H1))
theorem two_le {n b : Addr} (h : b = n + 1 ∨ b = n) : n ≤ b := by
  rcases h with z | z
  · rw [z]; exact Nat.le_add_right _ _
  · rw [z]; exact Nat.le_refl _
theorem pi_enumA {e : Expr} {ta : TA} {p pos tpos : Pos} {elts : List Expr} {kk : Nat} (hg : Gl X "enumerate") (hm : X.mg "enumerate" = none) (ha : PA X [e] ta) (hs : starEach [e] X.env = [(false, eval e X.env)] := by rfl) :
    PI X (.Tuple elts kk tpos) (.Call (.Name "enumerate" p) [e] [] pos) (tEnumA X.K ta) := by
  refine ⟨fun pins s σ H R I h => ?_⟩
  refine Call_ (ld_blt I hg hm boot_enumerate (PyProof.Rows.callWith_type1 (thn (ha.run pos pins s σ H _ I h) fun us s1 ⟨vs, H1, I1, r1, q1⟩ => ?_) hs rfl))
  obtain ⟨a, ex, q⟩ := q1
  subst ex
  cases r1 with
  | cons r rr =>
    cases rr
    cases r
    rcases q with ⟨⟨xs, hq⟩, q⟩ | ⟨⟨xs, hq⟩, q⟩
    · obtain ⟨its, rv, p', hz⟩ := I1.list hq
      refine call_enumerate_list p'.isList fun h' he hit hsz hk => wpAny_pyIter_enum he ?_
      have I2 : L2.Inv X pins σ H1 { s1 with heap := h' } := I1.kept (t' := s1.toks) hk
      refine ⟨s1.heap.objs.size + 1, [s1.heap.objs.size + 1, s1.heap.objs.size], _, _, H1, rfl, I2, turn_enum a (s1.heap.objs.size + 1) s1.heap.objs.size, ⟨⟨.none, he⟩, hit, Nat.succ_ne_self _⟩, fun b hb => ?_, q⟩
      have hle : s1.heap.objs.size ≤ b := two_le (by simpa using hb)
      exact I1.fpOk hle (I1.hok.fresh hle)
    · obtain ⟨its, rv, p', hz⟩ := I1.tuple hq
      have hlt : a < s1.heap.objs.size := by obtain ⟨o, e, _⟩ := p'; exact Heap.lt_size e
      refine call_enumerate_tuple p' fun h' he hit hsz hk => wpAny_pyIter_enum he ?_
      have I2 : L2.Inv X pins σ H1 { s1 with heap := h' } := I1.kept (t' := s1.toks) hk
      refine ⟨s1.heap.objs.size + 1, [s1.heap.objs.size + 1, s1.heap.objs.size], _, _, H1, rfl, I2, turn_enumT a (s1.heap.objs.size + 1) s1.heap.objs.size (Nat.ne_of_lt hlt) (Nat.ne_of_lt (Nat.lt_succ_of_lt hlt)), ⟨⟨.none, he⟩, hit, Nat.succ_ne_self _⟩, fun b hb => ?_, q⟩
      have hle : s1.heap.objs.size ≤ b := two_le (by simpa using hb)
      exact I1.fpOk hle (I1.hok.fresh hle)
/-- what is walked: the value itself -/
def repWS (G : Gx) : Hp → Hp → List Addr → Wlk → V → Prop := fun _ H ι w v => ∃ a, v = .ref a ∧ (((∃ xs, SqL G.K H a xs) ∧ ∀ H2 ι2 st2, Ext H ι H2 ι2 → StoRep G H2 ι2 st2 → good w.src st2 = true → ∃ xs, SqL G.K H2 a xs ∧ RepL G H2 ι2 w.ds xs) ∨
  ((∃ xs, SqT G.K H a xs) ∧ ∀ H2 ι2 st2, Ext H ι H2 ι2 → StoRep G H2 ι2 st2 → good w.src st2 = true → ∃ xs, SqT G.K H2 a xs ∧ RepL G H2 ι2 w.ds xs))
def DWk (G : Gx) (X : Cx) (W : WX) (C : Call) (e : Expr) (m : SI) : Prop := PE X e (rG G W C (repWS G) m)
theorem dk_of {e : Expr} {m : SE} (h : DE G X W C e m) : DWk G X W C e (siOf m) := pe_imp h fun σ H Q ⟨env, ι, st, hR, hp⟩ => sqE hR hp fun x st1 v H1 ι1 e1 hR1 r1 hp1 => by
  cases x with
  | tup ds =>
    obtain ⟨a, xs, rfl, q, r⟩ := r1
    exact hp1.here hR1.sto ⟨a, rfl, .inr ⟨⟨xs, q⟩, fun H2 ι2 st2 e2 s2 _ => ⟨xs, SqT.ext e2 hR1.sto.mut q, r.ext e2 hR1.sto.mut⟩⟩⟩
  | scr ds =>
    obtain ⟨a, xs, rfl, q, r⟩ := r1
    exact hp1.here hR1.sto ⟨a, rfl, .inl ⟨⟨xs, q.sq⟩, fun H2 ι2 st2 e2 s2 _ => ⟨xs, (SqF.ext e2 hR1.sto.mut q).sq, r.ext e2 hR1.sto.mut⟩⟩⟩
  | ref i =>
    dsimp only at hp1
    split at hp1
    · rename_i ds e
      obtain ⟨a, xs, k1, k2, k3⟩ := hR1.sto.lst e
      obtain ⟨_, k1', rfl⟩ := r1
      rw [k1] at k1'; cases k1'
      refine hp1.here hR1.sto ⟨a, rfl, .inl ⟨⟨xs, SqL.of k2⟩, ?_⟩⟩
      intro H2 ι2 st2 e2 s2 hg
      have hl : lstAt st2 i = some ds := by
        unfold good at hg
        simp only [List.all_cons, List.all_nil, Bool.and_true, decide_eq_true_eq] at hg
        exact hg
      obtain ⟨a2, xs2, j1, j2, j3⟩ := s2.lst hl
      rw [e2.get k1] at j1; cases j1
      exact ⟨xs2, SqL.of j2, j3⟩
    · exact hp1.elim
  | _ => exact hp1.elim
theorem dk_tmp {e : Expr} {l : SL} (h : DT G X W C e l) : DWk G X W C e (siT l) := pe_imp h fun σ H Q ⟨env, ι, st, hR, hp⟩ => by
  refine rG.seq (rep := repT G) hR hp fun ds st1 v H1 ι1 e1 hR1 ⟨a, xs, ev, h1, h2, h3, h4⟩ hp1 => ?_
  subst ev
  exact hp1.here hR1.sto ⟨a, rfl, .inl ⟨⟨xs, SqL.of h1⟩, fun H2 ι2 st2 e2 s2 _ => ⟨xs, SqL.of (e2.keep a _ h1 h2), h4.ext e2 hR1.sto.mut⟩⟩⟩
def enumD (n : Nat) : List D → List D
  | [] => []
  | d :: ds => .tup [.int n, d] :: enumD (n + 1) ds
theorem enumD_get : ∀ {ds : List D} {n i : Nat} {d : D}, (enumD n ds)[i]? = some d → ∃ x, ds[i]? = some x ∧ d = .tup [.int ((n + i : Nat) : Int), x]
  | [], n, i, d, h => by simp [enumD] at h
  | x :: ds, n, 0, d, h => by simp [enumD] at h; exact ⟨x, rfl, by simp [h]⟩
  | x :: ds, n, i + 1, d, h => by
    simp only [enumD, List.getElem?_cons_succ] at h
    obtain ⟨y, h1, h2⟩ := enumD_get h
    exact ⟨y, by simpa using h1, by rw [h2, show n + 1 + i = n + (i + 1) by omega]⟩
theorem enumD_length : ∀ (ds : List D) (n : Nat), (enumD n ds).length = ds.length
  | [], _ => rfl
  | _ :: ds, n => by simp [enumD, enumD_length ds]
def siEnum (a : SI) : SI := fun C env st => (a C env st).bind fun w st => .ok ⟨enumD 0 w.ds, w.src⟩ st
theorem pair_rep {H : Hp} {ι : List Addr} {st : Sto} {T : Addr} {x y : D} {v u : V} (s : StoRep G H ι st) (hT : H T = none) (rx : Rep G H ι x v) (ry : Rep G H ι y u) :
    Ext H ι (upd H T (.tup [v, u])) ι ∧ StoRep G (upd H T (.tup [v, u])) ι st ∧ Rep G (upd H T (.tup [v, u])) ι (.tup [x, y]) (.ref T) :=
  ⟨ext_new hT, s.fresh hT, T, _, rfl, SqT.of upd_same, _, _, rfl, rx.ext (ext_new hT) s.mut, _, _, rfl, ry.ext (ext_new hT) s.mut, rfl⟩
theorem di_enum {e : Expr} {m : SI} {p pos tpos : Pos} {elts : List Expr} {kk : Nat} (hK : X.K = G.K) (hm : X.mg "enumerate" = none) (he : DWk G X W C e m) (hg : Gl X "enumerate" := by rfl) (hs : starEach [e] X.env = [(false, eval e X.env)] := by rfl) (hs2 : starEach [e] X.env = (false, eval e X.env) :: starEach [] X.env := by rfl) :
    DI G X W C (.Tuple elts kk tpos) (.Call (.Name "enumerate" p) [e] [] pos) (siEnum m) := pi_imp (pi_enumA hg hm (pa_cons he pa_nil hs2) hs) fun σ H Q ⟨env, ι, st, hR, hp⟩ => by
  refine rG.seq (rep := repWS G) hR hp fun w st1 v H1 ι1 e1 hR1 ⟨a, ev, q⟩ hp1 => ?_
  subst ev
  rw [hK]
  rcases q with ⟨⟨xs, hq⟩, q⟩ | ⟨⟨xs, hq⟩, q⟩
  · refine ⟨a, rfl, .inl ⟨⟨xs, hq⟩, hp1.here hR1.sto ?_⟩⟩
    intro H2 ι2 st2 e2 s2 hg
    obtain ⟨ys, h1, h2⟩ := q H2 ι2 st2 e2 s2 hg
    refine ⟨fun i d hd => ?_, fun i hi => ⟨ys, h1, by rw [h2.length]; simpa [enumD_length] using hi⟩⟩
    obtain ⟨x, hx, rfl⟩ := enumD_get hd
    obtain ⟨vx, g1, g2⟩ := h2.get hx
    refine ⟨⟨ys, vx, h1, g1⟩, fun z H3 ⟨T, y, ez, hT, eH, hy⟩ => ?_⟩
    subst ez; subst eH
    have := hy ys h1
    rw [g1] at this; cases this
    rw [Nat.zero_add]
    exact pair_rep s2 hT (x := .int i) (v := .int i) rfl g2
  · refine ⟨a, rfl, .inr ⟨⟨xs, hq⟩, hp1.here hR1.sto ?_⟩⟩
    intro H2 ι2 st2 e2 s2 hg
    obtain ⟨ys, h1, h2⟩ := q H2 ι2 st2 e2 s2 hg
    refine ⟨fun i d hd => ?_, fun i hi => ⟨ys, h1, by rw [h2.length]; simpa [enumD_length] using hi⟩⟩
    obtain ⟨x, hx, rfl⟩ := enumD_get hd
    obtain ⟨vx, g1, g2⟩ := h2.get hx
    refine ⟨⟨ys, vx, h1, g1⟩, fun z H3 ⟨T, y, ez, hT, eH, hy⟩ => ?_⟩
    subst ez; subst eH
    have := hy ys h1
    rw [g1] at this; cases this
    rw [Nat.zero_add]
    exact pair_rep s2 hT (x := .int i) (v := .int i) rfl g2
def zipD : List D → List D → List D
  | a :: as, b :: bs => .tup [a, b] :: zipD as bs
  | _, _ => []
theorem zipD_get : ∀ {as bs : List D} {i : Nat} {d : D}, (zipD as bs)[i]? = some d → ∃ x y, as[i]? = some x ∧ bs[i]? = some y ∧ d = .tup [x, y]
  | [], bs, i, d, h => by simp [zipD] at h
  | a :: as, [], i, d, h => by simp [zipD] at h
  | a :: as, b :: bs, 0, d, h => by simp [zipD] at h; exact ⟨a, b, rfl, rfl, h.symm⟩
  | a :: as, b :: bs, i + 1, d, h => by
    simp only [zipD, List.getElem?_cons_succ] at h
    simpa using zipD_get h
theorem zipD_length : ∀ (as bs : List D), (zipD as bs).length = min as.length bs.length
  | [], bs => by simp [zipD]
  | a :: as, [] => by simp [zipD]
  | a :: as, b :: bs => by simp [zipD, zipD_length as bs, Nat.succ_min_succ]
end
end OH

set_option Elab.async false
set_option linter.all false
set_option maxRecDepth 100000
set_option maxHeartbeats 1000000
/-! OHSort: sorted, of a list or a tuple of data. -/
namespace OH
open PySem PySem.Spec PyProof.Rows L2
section
variable {prog : Program} {w : World} {A : Around} {E : Value → Shared → Prop} {s : Shared}
/-- the items of a list or tuple, gathered -/
theorem collect_seq {l : Addr} {T : String} {vs : List Value} {n : Nat} {o : Obj} {Q : List Value → Shared → Prop} (hT : T = "list" ∨ T = "tuple") (ho : s.heap.get? l = some o) (hc : o.cls = .type T) (hd : o.data = .seq vs.toArray n) (hz : vs.length ≤ sizeLine)
    (h : Q vs { s with heap := (s.heap.push (seqObj "list" #[] 0)).update s.heap.objs.size (Obj.mapSeq (· ++ vs.toArray)) }) : wpAny (model prog w) A (collect (.ref l)) Q E s := by
  have at0 : (s.heap.push (seqObj "list" #[] 0)).get? s.heap.objs.size = some (seqObj "list" #[] 0) := Heap.get?_push_size _ rfl
  have at1 : (s.heap.push (seqObj "list" #[] 0)).get? l = some o := Heap.get?_push_of_some _ ho
  have ht : ((Value.type T == Value.type "list") || (Value.type T == Value.type "tuple")) = true := by rcases hT with rfl | rfl <;> rfl
  unfold collect
  apply wpAny_bind
  apply wpAny_runValue
  refine codeAny_builtin entry_proto_collect' (wpAny_bind (wpAny_newList (wpAny_pure ⟨Code.quiet_builtin _ (by decide +kernel), codeAny_builtin entry_list_iadd' ?_⟩)))
  show wpAny _ _ (Builtin.List.listExtendWith (.ref s.heap.objs.size) (.ref l) (.ref s.heap.objs.size)) _ _ { s with heap := s.heap.push (seqObj "list" #[] 0) }
  unfold Builtin.List.listExtendWith
  refine wpAny_bind (wpAny_typeOf (T := T) ⟨o, at1, hc⟩ ?_)
  rw [if_pos (by rw [Bool.or_assoc, ht, Bool.or_true])]
  refine wpAny_bind (listItems_at at1 hd (wpAny_bind (listItems_at at0 rfl ?_)))
  rw [if_neg (by simp)]
  have hz2 : ((#[] : Array Value) ++ vs.toArray).size ≤ sizeLine + 1 := by simp; omega
  refine wpAny_bind (listUpdate_at at0 rfl (wpAny_pure ?_) (Nat.zero_le _) hz2)
  refine wpAny_bind (wpAny_load (get?_update_seq at0 _) ?_)
  have e : ((#[] : Array Value) ++ vs.toArray).toList = vs := by simp
  show wpAny _ _ (pure (((#[] : Array Value) ++ vs.toArray).toList)) Q E _
  rw [e]
  exact wpAny_pure h
open PySem.W in
/-- sorted of a list or tuple of data -/
theorem sorted_seq {β : Type} {l : Addr} {T : String} {vs : List Value} {bs : List β} {enc : β → PyData} {R : Value → β → Prop} {n : Nat} {o : Obj} {Q : Value → Shared → Prop} (hT : T = "list" ∨ T = "tuple") (ho : s.heap.get? l = some o) (hc : o.cls = .type T) (hd : o.data = .seq vs.toArray n)
    (e : EachIs R vs bs) (er : EachIs (fun v b => ∃ as, Reads s.heap v (enc b) as) vs bs) (hal : AllAlike (bs.map enc)) (hk : Sortable (bs.map enc)) (hL : bs.length ≤ sizeLine) (hu : ∀ b, b ∈ bs → A.units + 2 + (enc b).depth < cLine)
    (h : ∀ out, out.length = bs.length → EachIs R out (bs.mergeSort (dataLe false enc)) → Q (.ref (s.heap.objs.size + 1)) { s with heap := sortedAll s.heap vs (List.toArray out) }) : wpAny (model prog w) A (call (.builtin "sorted") [.ref l]) Q E s := by
  have hz : vs.length ≤ sizeLine := by rw [e.length]; exact hL
  have er2 : EachIs (fun v b => ∃ as, Reads (sortingHeap (copyHeap s.heap vs) (s.heap.objs.size + 1) vs) v (enc b) as) vs bs := er.mono fun _ _ ⟨as, r⟩ => ⟨as, PyProof.Rows.Reads.keeps (fun _ _ => sorting_copy_old) r⟩
  have S := SortsAt.data (prog := prog) (w := w) (A := A.in1.in1) (s := { s with heap := sortingHeap (copyHeap s.heap vs) (s.heap.objs.size + 1) vs }) (each_map (R := fun v d => ∃ as, Reads (sortingHeap (copyHeap s.heap vs) (s.heap.objs.size + 1) vs) v d as) enc er2) hal hk (bound_map hu)
  have fin := h _ (by rw [sortVals_length false rfl]; exact e.length) (sortVals_data false e er2 hal)
  have size1 : ((s.heap.push (seqObj "list" #[] 0)).update s.heap.objs.size (Obj.mapSeq (· ++ vs.toArray))).objs.size = s.heap.objs.size + 1 := (Heap.size_update ..).trans (size_push' ..)
  refine call_function_entry_kw kind_sorted plain_sorted entry_sorted (args_sorted1 _) ?_
  unfold Builtin.«sorted»
  refine wpAny_bind (m := checkCount "sorted" 1 1 _) (wpAny_pure (wpAny_bind (collect_seq hT ho hc hd hz (wpAny_bind (wpAny_newList ?_ hz)))))
  show wpAny (model prog w) _ _ _ _ { s with heap := copyHeap s.heap vs }
  rw [size1]
  refine wpAny_bind (wpAny_holding (wpAny_call_entry_kw slot_list_sort ⟨_, copyHeap_at s.heap vs, rfl⟩ entry_list_sort ?body (args_list_sort _)))
  exact wpAny_mono (list_sort_vals (P := fun f s' => f = .done (.ret .none) ∧ Q (.ref (s.heap.objs.size + 1)) s') (s := { s with heap := copyHeap s.heap vs }) (copyHeap_at s.heap vs) S hz ⟨rfl, fin⟩)
    (fun f s' hf => by obtain ⟨rfl, hq⟩ := hf; exact ⟨_, rfl, wpAny_pure ⟨_, rfl, hq⟩⟩) fun _ _ e => e
end
open PySem.W (dataLe AllAlike Sortable EachIs)
/-- a datum as the model's data -/
def encD (d : D) : PyData := (datP (fun _ => none) d).getD .none
def leS : D → D → Bool := dataLe false encD
def SortOk (ds : List D) : Prop := (∀ d, d ∈ ds → (datP (fun _ => none) d).isSome = true) ∧ AllAlike (ds.map encD) ∧ Sortable (ds.map encD) ∧ ∀ d, d ∈ ds → (encD d).depth ≤ 20
open Classical in
noncomputable def sortO (ds : List D) : Option (List D) := if SortOk ds then some (ds.mergeSort leS) else none
noncomputable def lSorted (l : SL) : SL := lMap (fun _ => sortO) l
theorem encD_rep {G : Gx} {H : Hp} {ι : List Addr} {d : D} {v : V} (h : (datP (fun _ => none) d).isSome = true) (r : Rep G H ι d v) : Dp G.K H v (encD d) := by
  obtain ⟨p, e⟩ := Option.isSome_iff_exists.mp h
  unfold encD
  rw [e]
  exact datP_rep (fun _ _ _ z => by cases z) r e
/-- sorted(xs): ds, vs say what xs holds -/
def rSortD (G : Gx) : List V → Hp → VK → Prop := fun vs H Q => ∃ (a : Addr) (ι : List Addr) (ds : List D) (xs : List V), vs = [V.ref a] ∧ (SqL G.K H a xs ∨ SqT G.K H a xs) ∧ RepL G H ι ds xs ∧ SortOk ds ∧
  ∀ ys p, RepL G H ι (ds.mergeSort leS) ys → H p = none → Q (.ref p) (upd H p (.lst ys))
theorem repL_pairs {G : Gx} {H : Hp} {ι : List Addr} : ∀ {ps : List (D × V)}, (∀ p, p ∈ ps → Rep G H ι p.1 p.2) → RepL G H ι (ps.map (·.1)) (ps.map (·.2))
  | [], _ => rfl
  | p :: ps, h => ⟨p.2, ps.map (·.2), rfl, h p List.mem_cons_self, repL_pairs fun q hq => h q (List.mem_cons_of_mem _ hq)⟩
theorem repL_zip {G : Gx} {H : Hp} {ι : List Addr} : ∀ {ds : List D} {xs : List V}, RepL G H ι ds xs → (∀ p, p ∈ ds.zip xs → Rep G H ι p.1 p.2) ∧ (ds.zip xs).map (·.1) = ds ∧ (ds.zip xs).map (·.2) = xs
  | [], xs, h => by cases h; exact ⟨fun p hp => absurd hp (by simp), rfl, rfl⟩
  | d :: ds, xs, ⟨v, r, e, h1, h2⟩ => by
    subst e
    obtain ⟨k1, k2, k3⟩ := repL_zip h2
    refine ⟨fun p hp => ?_, by simp [k2], by simp [k3]⟩
    rw [List.zip_cons_cons] at hp
    rcases List.mem_cons.mp hp with rfl | hp
    · exact h1
    · exact k1 p hp
theorem each_pairs {P : Value → D × V → Prop} : ∀ {ps : List (D × V)} {us : List Value}, Vals (ps.map (·.2)) us → (∀ p u, p ∈ ps → RelV p.2 u → P u p) → EachIs P us ps
  | [], us, h, _ => by cases h; exact .nil
  | p :: ps, us, h, hp => by
    cases h with
    | cons h1 h2 => exact .cons (hp p _ List.mem_cons_self h1) (each_pairs h2 fun q u hq => hp q u (List.mem_cons_of_mem _ hq))
theorem vals_each : ∀ {ps : List (D × V)} {us : List Value}, EachIs (fun u p => RelV p.2 u) us ps → Vals (ps.map (·.2)) us
  | _, _, .nil => .nil
  | _, _, .cons h1 t => .cons h1 (vals_each t)
theorem cr_sortD {G : Gx} {X : Cx} {k : Nat} (hK : X.K = G.K) (hr : Room k X.A) : CallR X (.builtin "sorted") (rSortD G) := by
  intro pins s σ H vs us Q I r h
  obtain ⟨a, ι, ds, xs, rfl, hs, rx, ⟨o1, o2, o3, o4⟩, q⟩ := h
  rw [Vals.ref1 r]
  obtain ⟨k1, k2, k3⟩ := repL_zip rx
  have hu := hr.un
  have key : ∀ (its : List Value) (T : String) (n : Nat) (o : Obj), (T = "list" ∨ T = "tuple") → s.heap.get? a = some o → o.cls = .type T → o.data = .seq its.toArray n → Vals xs its → xs.length ≤ sizeLine → wpAny (model X.prog X.w) X.A (call (.builtin "sorted") [.ref a]) (EP X pins σ Q) X.xe s := by
    intro its T n o hT ho hc hd rv hz
    have rv' : Vals ((ds.zip xs).map (·.2)) its := by rw [k3]; exact rv
    have em : (ds.zip xs).map (fun p => encD p.1) = ds.map encD := by rw [← k2, List.map_map]; simp [k2, Function.comp_def]
    have md : ∀ p, p ∈ ds.zip xs → p.1 ∈ ds := fun p hp => by rw [← k2]; exact List.mem_map.mpr ⟨p, hp, rfl⟩
    refine sorted_seq (β := D × V) (bs := ds.zip xs) (enc := fun p => encD p.1) (R := fun u p => RelV p.2 u) hT ho hc hd (each_pairs rv' fun _ _ _ h => h)
      (each_pairs rv' fun p u hp ru => Dp.reads I _ _ _ (by rw [hK]; exact encD_rep (o1 p.1 (md p hp)) (k1 p hp)) ru) (by rw [em]; exact o2) (by rw [em]; exact o3) ?_ (fun p hp => ?_) fun out hl ho' => ?_
    · have := rx.length
      rw [List.length_zip]
      omega
    · have := o4 p.1 (md p hp)
      show X.A.units + 2 + (encD p.1).depth < _
      omega
    · have e1 : ((ds.zip xs).mergeSort (dataLe false fun p => encD p.1)).map (·.1) = ds.mergeSort leS := by
        refine (List.map_mergeSort (r := dataLe false fun p : D × V => encD p.1) (s := leS) (f := fun p : D × V => p.1) (l := ds.zip xs) (fun _ _ _ _ => rfl)).trans ?_
        rw [k2]
      have rr := repL_pairs (G := G) (H := H) (ι := ι) (ps := (ds.zip xs).mergeSort (dataLe false fun p => encD p.1)) fun p hp => k1 p (List.mem_mergeSort.mp hp)
      rw [e1] at rr
      obtain ⟨ep, he⟩ := PyProof.Rows.sortedAll_at s.heap its out.toArray
      have hv := vals_each ho'
      have hlen : (((ds.zip xs).mergeSort (dataLe false fun p => encD p.1)).map (·.2)).length ≤ sizeLine := by
        rw [List.length_map, List.length_mergeSort, List.length_zip]
        omega
      exact ⟨.ref _, upd H (s.heap.objs.size + 1) (.lst (((ds.zip xs).mergeSort (dataLe false fun p => encD p.1)).map (·.2))), I.laid (t' := s.toks) (fun _ _ => PyProof.Rows.sortedAll_old) (Nat.le_succ _) ⟨hlen, out, ep, hv, he⟩, rfl, q _ _ rr (I.hok.fresh (Nat.le_succ _))⟩
  rw [← hK] at hs
  rcases hs with hs | hs
  · obtain ⟨its, rv, hl, hz⟩ := I.list hs
    obtain ⟨o, ho, hc, n, hd⟩ := hl.isList
    exact key its "list" n o (.inl rfl) ho hc hd rv hz
  · obtain ⟨its, rv, hl, hz⟩ := I.tuple hs
    obtain ⟨o, ho, hc, n, hd⟩ := hl
    exact key its "tuple" n o (.inr rfl) ho hc hd rv hz
theorem dt_sorted {G : Gx} {X : Cx} {W : WX} {C : Call} {e : Expr} {l : SL} (h : PE X e (tCB (rSortD G) (tCons (tS G W C l) tNil))) : DT G X W C e (lSorted l) :=
  dt_cQ h fun H ι st ds es a xs Q s q r e k => by
    unfold sortO at e
    split at e
    · rename_i ok
      cases e
      exact ⟨a, ι, ds, xs, rfl, q, r, ok, k⟩
    · cases e
end OH

set_option Elab.async false
set_option linter.all false
set_option maxRecDepth 100000
set_option maxHeartbeats 1000000
/-! OHZip: zip of two lists or two tuples. -/
namespace OH
open PySem PySem.Spec PyProof.Rows L2
section
variable {G : Gx} {X : Cx} {W : WX} {C : Call}
/-- what is walked, and whether it is a list -/
abbrev SK := Call → Env → Sto → Res (Bool × Wlk)
def kOf (m : SE) : SK := fun C env st => (m C env st).bind fun x st => match x with
  | .tup ds => .ok (false, ⟨ds, []⟩) st
  | .scr ds => .ok (true, ⟨ds, []⟩) st
  | .ref i => match lstAt st i with | some ds => .ok (true, ⟨ds, [(i, ds)]⟩) st | none => .stuck
  | _ => .stuck
def kT (l : SL) : SK := fun C env st => (l C env st).bind fun ds st => .ok (true, ⟨ds, []⟩) st
def SqK (K : PySem.W.Frag) (k : Bool) (H : Hp) (a : Addr) (xs : List V) : Prop := if k then SqL K H a xs else SqT K H a xs
def repWK (G : Gx) : Hp → Hp → List Addr → Bool × Wlk → V → Prop := fun _ H ι w v => ∃ a, v = .ref a ∧ ∀ H2 ι2 st2, Ext H ι H2 ι2 → StoRep G H2 ι2 st2 → good w.2.src st2 = true → ∃ xs, SqK G.K w.1 H2 a xs ∧ RepL G H2 ι2 w.2.ds xs
def DK (G : Gx) (X : Cx) (W : WX) (C : Call) (e : Expr) (m : SK) : Prop := PE X e (rG G W C (repWK G) m)
theorem kk_of {e : Expr} {m : SE} (h : DE G X W C e m) : DK G X W C e (kOf m) := pe_imp h fun σ H Q ⟨env, ι, st, hR, hp⟩ => sqE hR hp fun x st1 v H1 ι1 e1 hR1 r1 hp1 => by
  cases x with
  | tup ds =>
    obtain ⟨a, xs, rfl, q, r⟩ := r1
    exact hp1.here hR1.sto ⟨a, rfl, fun H2 ι2 st2 e2 s2 _ => ⟨xs, SqT.ext e2 hR1.sto.mut q, r.ext e2 hR1.sto.mut⟩⟩
  | scr ds =>
    obtain ⟨a, xs, rfl, q, r⟩ := r1
    exact hp1.here hR1.sto ⟨a, rfl, fun H2 ι2 st2 e2 s2 _ => ⟨xs, (SqF.ext e2 hR1.sto.mut q).sq, r.ext e2 hR1.sto.mut⟩⟩
  | ref i =>
    dsimp only at hp1
    split at hp1
    · rename_i ds e
      obtain ⟨a, xs, k1, k2, k3⟩ := hR1.sto.lst e
      obtain ⟨_, k1', rfl⟩ := r1
      rw [k1] at k1'; cases k1'
      refine hp1.here hR1.sto ⟨a, rfl, fun H2 ι2 st2 e2 s2 hg => ?_⟩
      have hl : lstAt st2 i = some ds := by
        unfold good at hg
        simp only [List.all_cons, List.all_nil, Bool.and_true, decide_eq_true_eq] at hg
        exact hg
      obtain ⟨a2, xs2, j1, j2, j3⟩ := s2.lst hl
      rw [e2.get k1] at j1; cases j1
      exact ⟨xs2, SqL.of j2, j3⟩
    · exact hp1.elim
  | _ => exact hp1.elim
theorem kk_tmp {e : Expr} {l : SL} (h : DT G X W C e l) : DK G X W C e (kT l) := pe_imp h fun σ H Q ⟨env, ι, st, hR, hp⟩ => by
  refine rG.seq (rep := repT G) hR hp fun ds st1 v H1 ι1 e1 hR1 ⟨a, xs, ev, h1, h2, h3, h4⟩ hp1 => ?_
  subst ev
  exact hp1.here hR1.sto ⟨a, rfl, fun H2 ι2 st2 e2 s2 _ => ⟨xs, SqL.of (e2.keep a _ h1 h2), h4.ext e2 hR1.sto.mut⟩⟩
def siZip (a b : SK) : SI := fun C env st => (a C env st).bind fun w st => (b C env st).bind fun u st => if (w.1 == u.1) && good w.2.src st && good u.2.src st then .ok ⟨zipD w.2.ds u.2.ds, w.2.src ++ u.2.src⟩ st else .stuck
theorem di_zip {e e2 : Expr} {m m2 : SK} {p pos tpos : Pos} {elts : List Expr} {kk : Nat} (hK : X.K = G.K) (hm : X.mg "zip" = none) (h1 : DK G X W C e m) (h2 : DK G X W C e2 m2) (hg : Gl X "zip" := by rfl)
    (hpl : (backTo pos (starEach [e2] X.env)).any (·.1) = false := by rfl) (ht1 : starEach [e, e2] X.env = (false, eval e X.env) :: starEach [e2] X.env := by rfl) (ht2 : starEach [e2] X.env = (false, eval e2 X.env) :: starEach [] X.env := by rfl) :
    DI G X W C (.Tuple elts kk tpos) (.Call (.Name "zip" p) [e, e2] [] pos) (siZip m m2) := pi_imp (RZ.pi_zipA hg hm (pa_cons h1 (pa_cons h2 pa_nil ht2) ht1) ht1 hpl) fun σ H Q ⟨env, ι, st, hR, hp⟩ => by
  refine rG.seq (rep := repWK G) hR hp fun w st1 v H1 ι1 e1 hR1 ⟨a, ev, q1⟩ hp1 => ?_
  refine rG.seq (rep := repWK G) hR1 hp1 fun u st2 v2 H2 ι2 e2' hR2 ⟨b, ev2, q2⟩ hp2 => ?_
  subst ev ev2
  rw [hK]
  by_cases hc : ((w.1 == u.1) && good w.2.src st2 && good u.2.src st2) = true
  · rw [if_pos hc] at hp2
    simp only [Bool.and_eq_true, beq_iff_eq] at hc
    obtain ⟨⟨hk, g1⟩, g2⟩ := hc
    obtain ⟨xs, x1, x2⟩ := q1 H2 ι2 st2 e2' hR2.sto g1
    obtain ⟨ys, y1, y2⟩ := q2 H2 ι2 st2 (Ext.refl _ _) hR2.sto g2
    have key : ∀ H3 ι3 st3, Ext H2 ι2 H3 ι3 → StoRep G H3 ι3 st3 → good (w.2.src ++ u.2.src) st3 = true → ∃ xs ys, SqK G.K w.1 H3 a xs ∧ RepL G H3 ι3 w.2.ds xs ∧ SqK G.K w.1 H3 b ys ∧ RepL G H3 ι3 u.2.ds ys := fun H3 ι3 st3 e3 s3 g3 => by
      unfold good at g3
      rw [List.all_append, Bool.and_eq_true] at g3
      obtain ⟨xs, x1, x2⟩ := q1 H3 ι3 st3 (e2'.trans e3) s3 g3.1
      obtain ⟨ys, y1, y2⟩ := q2 H3 ι3 st3 e3 s3 g3.2
      rw [← hk] at y1
      exact ⟨xs, ys, x1, x2, y1, y2⟩
    rw [← hk] at y1
    refine ⟨a, b, xs, ys, rfl, ?_⟩
    unfold SqK at x1 y1 key
    by_cases hl : w.1 = true
    · simp only [if_pos hl] at x1 y1 key
      refine .inl ⟨x1, y1, hp2.here hR2.sto ?_⟩
      intro H3 ι3 st3 e3 s3 hg
      obtain ⟨xs, ys, x1, x2, y1, y2⟩ := key H3 ι3 st3 e3 s3 hg
      refine ⟨fun i d hd => ?_, fun i hi => ⟨xs, ys, x1, y1, by rw [x2.length, y2.length]; rw [zipD_length] at hi; omega⟩⟩
      obtain ⟨x, y, hx, hy, rfl⟩ := zipD_get hd
      obtain ⟨vx, gx, rx⟩ := x2.get hx
      obtain ⟨vy, gy, ry⟩ := y2.get hy
      refine ⟨⟨xs, ys, vx, vy, x1, y1, gx, gy⟩, fun z H4 ⟨T, x', y', ez, hT, eH, hx', hy'⟩ => ?_⟩
      subst ez; subst eH
      have a1 := hx' xs x1
      have a2 := hy' ys y1
      rw [gx] at a1; rw [gy] at a2; cases a1; cases a2
      exact pair_rep s3 hT rx ry
    · simp only [if_neg hl] at x1 y1 key
      refine .inr ⟨x1, y1, hp2.here hR2.sto ?_⟩
      intro H3 ι3 st3 e3 s3 hg
      obtain ⟨xs, ys, x1, x2, y1, y2⟩ := key H3 ι3 st3 e3 s3 hg
      refine ⟨fun i d hd => ?_, fun i hi => ⟨xs, ys, x1, y1, by rw [x2.length, y2.length]; rw [zipD_length] at hi; omega⟩⟩
      obtain ⟨x, y, hx, hy, rfl⟩ := zipD_get hd
      obtain ⟨vx, gx, rx⟩ := x2.get hx
      obtain ⟨vy, gy, ry⟩ := y2.get hy
      refine ⟨⟨xs, ys, vx, vy, x1, y1, gx, gy⟩, fun z H4 ⟨T, x', y', ez, hT, eH, hx', hy'⟩ => ?_⟩
      subst ez; subst eH
      have a1 := hx' xs x1
      have a2 := hy' ys y1
      rw [gx] at a1; rw [gy] at a2; cases a1; cases a2
      exact pair_rep s3 hT rx ry
  · rw [if_neg hc] at hp2
    exact hp2.elim
end
end OH

set_option Elab.async false
set_option linter.all false
set_option maxRecDepth 100000
/-! OHCalc: how meanings are reckoned (simp). -/
namespace OH
open PySem L2
variable {Tbl : Nat → FD} {C : Call} {env : Env} {st : Sto}
/-- bounds as Booleans: else the kernel unfolds them one by one -/
theorem rngI_of {j : Int} (h0 : -1000000000000 ≤ j) (h1 : j ≤ 1000000000000) : rngI j = true := of_tsd ⟨by omega, by omega⟩
theorem rngT_of {j : Int} (h0 : 0 ≤ j) (h1 : j ≤ 16777216) : rngT j = true := of_tsd ⟨h0, h1⟩
theorem divOk_of {j : Int} (h0 : 0 < j) (h1 : j < 1073741824) : divOk j = true := of_tsd ⟨h0, h1⟩
@[simp] theorem pow18 : powOk 10 18 = true := of_tsd (by decide)
@[simp] theorem pow40 : powOk 10 40 = true := of_tsd (by decide)
@[simp] theorem mulOk_lit1 (j : Int) : mulOk 613 j = true := of_tsd (.inl (by decide))
theorem repOk_of {k : Int} {n : Nat} (h0 : 0 ≤ k) (h1 : k ≤ 1000000) (h2 : n * k.toNat ≤ 10000000) : repOk k n = true := of_tsd ⟨by omega, by omega, Nat.le_trans h2 (by decide)⟩
@[simp] theorem mulR_ref (i : Nat) (k : Int) : mulR st (.ref i) (.int k) = match lstAt st i with
    | some xs => if repOk k xs.length then newL (List.replicate k.toNat xs).flatten st else .stuck
    | none => .stuck := rfl
@[simp] theorem addR_ref (i j : Nat) : addR st (.ref i) (.ref j) = match lstAt st i, lstAt st j with
    | some a, some b => if a.length + b.length ≤ sizeLine then newL (a ++ b) st else .stuck
    | _, _ => .stuck := rfl
@[simp] theorem newL_ap (xs : List D) : newL xs st = .ok (.ref st.length) (st ++ [.lst xs]) := rfl
theorem mulOk_l {i j : Int} (h1 : -18446744073709551616 < i) (h2 : i < 18446744073709551616) : mulOk i j = true := of_tsd (.inl ⟨h1, h2⟩)
theorem mulOk_r {i j : Int} (h1 : -18446744073709551616 < j) (h2 : j < 18446744073709551616) : mulOk i j = true := of_tsd (.inr ⟨h1, h2⟩)
theorem popOk_of {i : Int} (h0 : -1000000000 ≤ i) (h1 : i ≤ 1000000000) : popOk i = true := of_tsd ⟨by omega, by omega⟩
theorem insOk_of {i : Int} {n : Nat} (h0 : 0 ≤ i) (h1 : i ≤ 1000000000) (h2 : n < 10000000) : insOk i n = true := of_tsd ⟨Nat.lt_of_lt_of_le h2 (by decide), h0, by omega⟩
theorem callN_succ (Tbl : Nat → FD) (k f : Nat) (ds : List D) (st : Sto) : callN Tbl (k + 1) f ds st = runFn (Tbl f) (callN Tbl k) ds st := rfl
/-- a def's run, its table's entry known -/
theorem run_eq {Tbl : Nat → FD} {k f : Nat} {ds : List D} {st : Sto} {np nl : Nat} {body : SS} (h : Tbl f = ⟨np, nl, body⟩) (hl : ds.length = np) : callN Tbl (k + 1) f ds st = endF st (body (callN Tbl k) (ds.map some ++ List.replicate (nl - np) none) st) := by
  rw [callN_succ, h]
  unfold runFn
  rw [if_pos hl]
@[simp] theorem sNx_ap : sNx C env st = .nx env st := rfl
@[simp] theorem sSeq_ap (a b : SS) : sSeq a b C env st = (a C env st).thenS fun env st => b C env st := rfl
@[simp] theorem sRet_ap (e : SE) : sRet e C env st = (e C env st).thenS env fun d st => .ret d st := rfl
@[simp] theorem sRetN_ap : sRetN C env st = .ret .non st := rfl
@[simp] theorem sExp_ap (e : SE) : sExp e C env st = (e C env st).thenS env fun _ st => .nx env st := rfl
@[simp] theorem sSet_ap (i : Nat) (e : SE) : sSet i e C env st = (e C env st).thenS env fun d st => .nx (env.set i (some d)) st := rfl
@[simp] theorem sIf_ap (c : SB) (a b : SS) : sIf c a b C env st = (c C env st).thenS env fun t st => if t then a C env st else b C env st := rfl
@[simp] theorem sBrk_ap : sBrk C env st = .brk env st := rfl
@[simp] theorem sCnt_ap : sCnt C env st = .cnt env st := rfl
@[simp] theorem sRaise_ap (c : Nat) : sRaise c C env st = .exc c .non env st := rfl
@[simp] theorem sFor_ap (it : SI) (g : SG) (b : SS) : sFor it g b C env st = (it C env st).thenS env fun w st => forGo w.src g b C w.ds env st := rfl
@[simp] theorem sWhile_ap (c : SB) (b : SS) : sWhile c b C env st = whileGo c b C wFuel env st := rfl
@[simp] theorem sAsg_ap (g : SG) (e : SE) : sAsg g e C env st = (e C env st).thenS env fun d st => match g d env with | some env' => .nx env' st | none => .stuck := rfl
@[simp] theorem sPut_ap (f : Sto → D → D → D → Option Sto) (o i e : SE) : sPut f o i e C env st = (e C env st).thenS env fun v st => (o C env st).thenS env fun x st => (i C env st).thenS env fun y st =>
  match f st x y v with | some st' => .nx env st' | none => .stuck := rfl
@[simp] theorem sAug_ap (i : Nat) (f : Sto → D → D → Res D) (e : SE) : sAug i f e C env st = (eV i C env st).thenS env fun x st => (e C env st).thenS env fun y st => (f st x y).thenS env fun z st => .nx (env.set i (some z)) st := rfl
@[simp] theorem sPar_ap (i j : Nat) (l : SL) : sPar i j l C env st = (l C env st).thenS env fun ds st => match ds with
  | [x, y] => .nx ((env.set i (some x)).set j (some y)) st
  | _ => .stuck := rfl
@[simp] theorem eV_ap (i : Nat) : eV i C env st = match env[i]? with | some (some d) => .ok d st | _ => .stuck := rfl
@[simp] theorem eC_ap (d : D) : eC d C env st = .ok d st := rfl
@[simp] theorem eU1_ap (g : Sto → D → Res D) (a : SE) : eU1 g a C env st = (a C env st).bind fun x st => g st x := rfl
@[simp] theorem eB2_ap (g : Sto → D → D → Res D) (a b : SE) : eB2 g a b C env st = (a C env st).bind fun x st => (b C env st).bind fun y st => g st x y := rfl
@[simp] theorem eA_ap (g : Sto → List D → Res D) (l : SL) : eA g l C env st = (l C env st).bind fun xs st => g st xs := rfl
@[simp] theorem eIf_ap (c : SB) (a b : SE) : eIf c a b C env st = (c C env st).bind fun t st => if t then a C env st else b C env st := rfl
@[simp] theorem eAnd_ap (a b : SE) : eAnd a b C env st = (a C env st).bind fun x st => (Res.of (truth st x) st).bind fun t st => if t then b C env st else .ok x st := rfl
@[simp] theorem eOr_ap (a b : SE) : eOr a b C env st = (a C env st).bind fun x st => (Res.of (truth st x) st).bind fun t st => if t then .ok x st else b C env st := rfl
@[simp] theorem eNot_ap (a : SE) : eNot a C env st = (a C env st).bind fun x st => (Res.of (truth st x) st).bind fun t st => .ok (.bl (!t)) st := rfl
@[simp] theorem eTup_ap (l : SL) : eTup l C env st = (l C env st).bind fun ds st => if ds.length ≤ sizeLine then .ok (.tup ds) st else .stuck := rfl
@[simp] theorem eNew_ap (l : SL) : eNew l C env st = (l C env st).bind fun xs st => .ok (.ref st.length) (st ++ [.lst xs]) := rfl
@[simp] theorem eCall_ap (f : Nat) (l : SL) : eCall f l C env st = (l C env st).bind fun xs st => C f xs st := rfl
@[simp] theorem eDct0_ap : eDct0 C env st = .ok (.ref st.length) (st ++ [.dct []]) := rfl
@[simp] theorem eM_ap (g : Sto → D → List D → Res D) (o : SE) (l : SL) : eM g o l C env st = (o C env st).bind fun x st => if isLst st x then (l C env st).bind fun ds st => g st x ds else .stuck := rfl
@[simp] theorem eM0_ap (g : Sto → D → List D → Res D) (o : SE) : eM0 g o C env st = (o C env st).bind fun x st => if isLst st x then g st x [] else .stuck := rfl
@[simp] theorem eTupRng_ap (a : SE) : eTupRng a C env st = (a C env st).bind fun x st => match x with
  | .int n => if rngT n then .ok (.tup (rgD n)) st else .stuck
  | _ => .stuck := rfl
@[simp] theorem bOf_ap (a : SE) : bOf a C env st = (a C env st).bind fun x st => Res.of (truth st x) st := rfl
@[simp] theorem bAnd_ap (a b : SB) : bAnd a b C env st = (a C env st).bind fun t st => if t then b C env st else .ok false st := rfl
@[simp] theorem bOr_ap (a b : SB) : bOr a b C env st = (a C env st).bind fun t st => if t then .ok true st else b C env st := rfl
@[simp] theorem bNot_ap (a : SB) : bNot a C env st = (a C env st).bind fun t st => .ok (!t) st := rfl
@[simp] theorem bTrue_ap : bTrue C env st = .ok true st := rfl
@[simp] theorem bCmp_ap (g : Sto → D → D → Option Bool) (a b : SE) : bCmp g a b C env st = (a C env st).bind fun x st => (b C env st).bind fun y st => Res.of (g st x y) st := rfl
@[simp] theorem lNil_ap : lNil C env st = .ok [] st := rfl
@[simp] theorem lCons_ap (a : SE) (l : SL) : lCons a l C env st = (a C env st).bind fun x st => (l C env st).bind fun xs st => .ok (x :: xs) st := rfl
@[simp] theorem lSeq_ap (a : SE) : lSeq a C env st = (a C env st).bind fun x st => Res.of (items st x) st := rfl
@[simp] theorem lSeqL_ap (a : SE) : lSeqL a C env st = (a C env st).bind fun x st => Res.of (itemsL st x) st := rfl
@[simp] theorem lMap_ap (f : Sto → List D → Option (List D)) (l : SL) : lMap f l C env st = (l C env st).bind fun xs st => Res.of (f st xs) st := rfl
@[simp] theorem lLst_ap (l : SL) : lLst l C env st = (l C env st).bind fun xs st => Res.of (if xs.length ≤ sizeLine then some xs else none) st := rfl
@[simp] theorem lLc_ap (it : SI) (g : SG) (vs : List Nat) (c : SB) (e : SE) : lLc it g vs c e C env st = (it C env st).bind fun w st => if w.ds.length ≤ sizeLine then lcGo w.src g c e C (wipeE env vs) w.ds [] st else .stuck := rfl
@[simp] theorem lRng_ap (a : SE) : lRng a C env st = (a C env st).bind fun x st => match x with
  | .int n => if rngT n then .ok (rgD n) st else .stuck
  | _ => .stuck := rfl
@[simp] theorem siR1_ap (l : SL) : siR1 l C env st = (l C env st).bind fun ds st => match ds with
  | [.int j] => if rngI j then .ok ⟨(List.range j.toNat).map fun (i : Nat) => D.int (i : Int), []⟩ st else .stuck
  | _ => .stuck := rfl
@[simp] theorem siR2_ap (l : SL) : siR2 l C env st = (l C env st).bind fun ds st => match ds with
  | [.int i, .int j] => if rngI i && rngI j then .ok ⟨(List.range (j - i).toNat).map fun (k : Nat) => D.int (i + (k : Int)), []⟩ st else .stuck
  | _ => .stuck := rfl
@[simp] theorem siOf_ap (m : SE) : siOf m C env st = (m C env st).bind fun x st => match x with
  | .tup ds => .ok ⟨ds, []⟩ st
  | .scr ds => .ok ⟨ds, []⟩ st
  | .ref i => match lstAt st i with | some ds => .ok ⟨ds, [(i, ds)]⟩ st | none => .stuck
  | _ => .stuck := rfl
@[simp] theorem siT_ap (l : SL) : siT l C env st = (l C env st).bind fun ds st => .ok ⟨ds, []⟩ st := rfl
@[simp] theorem siEnum_ap (a : SI) : siEnum a C env st = (a C env st).bind fun w st => .ok ⟨enumD 0 w.ds, w.src⟩ st := rfl
@[simp] theorem oNone_ap : oNone C env st = .ok none st := rfl
@[simp] theorem oSome_ap (e : SE) : oSome e C env st = (e C env st).bind fun x st => match x with | .int i => .ok (some i) st | _ => .stuck := rfl
@[simp] theorem eSl_ap (a : SE) (lo hi : SO) : eSl a lo hi C env st = (a C env st).bind fun x st => (lo C env st).bind fun l st => (hi C env st).bind fun u st => match x with
  | .tup ds => .ok (.tup (cutD ds l u)) st
  | .ref i => match lstAt st i with | some ds => newL (cutD ds l u) st | none => .stuck
  | .scr ds => newL (cutD ds l u) st
  | _ => .stuck := rfl
@[simp] theorem gN_ap (i : Nat) (d : D) (env : Env) : gN i d env = some (env.set i (some d)) := rfl
@[simp] theorem gTup_tup (gs : List SG) (ds : List D) (env : Env) : gTup gs (.tup ds) env = gT gs ds env := rfl
@[simp] theorem gT_nil (env : Env) : gT [] [] env = some env := rfl
@[simp] theorem gT_cons (g : SG) (gs : List SG) (d : D) (ds : List D) (env : Env) : gT (g :: gs) (d :: ds) env = (g d env).bind fun env => gT gs ds env := rfl
@[simp] theorem endF_ret (d : D) (st' : Sto) : endF st (.ret d st') = gc st d st' := rfl
@[simp] theorem endF_nx (e : Env) (st' : Sto) : endF st (.nx e st') = gc st .non st' := rfl
@[simp] theorem endF_exc (c : Nat) (x : D) (e : Env) (st' : Sto) : endF st (.exc c x e st') = gcX st c x st' := rfl
@[simp] theorem gc_self' {d : D} : gc st d st = .ok d st := gc_self
@[simp] theorem gcX_self {c : Nat} {st : Sto} : gcX st c .non st = .exc c .non st := by
  have o : OldOk st st := fun i c _ h => .inl h
  unfold gcX
  rw [if_pos ⟨o, rfl⟩]
  simp
@[simp] theorem RS.thenS_brk (e : Env) (st : Sto) (f : Env → Sto → RS) : (RS.brk e st).thenS f = .brk e st := rfl
@[simp] theorem RS.thenS_cnt (e : Env) (st : Sto) (f : Env → Sto → RS) : (RS.cnt e st).thenS f = .cnt e st := rfl
@[simp] theorem RS.thenS_stuck (f : Env → Sto → RS) : RS.stuck.thenS f = .stuck := rfl
@[simp] theorem Res.thenS_stuck {α : Type} (env : Env) (f : α → Sto → RS) : (Res.stuck : Res α).thenS env f = .stuck := rfl
@[simp] theorem Res.of_none {α : Type} (st : Sto) : Res.of (none : Option α) st = .stuck := rfl
@[simp] theorem truth_non : truth st .non = some false := rfl
@[simp] theorem truth_bl (b : Bool) : truth st (.bl b) = some b := rfl
@[simp] theorem truth_int (i : Int) : truth st (.int i) = some (i != 0) := rfl
@[simp] theorem truth_tup (ds : List D) : truth st (.tup ds) = some (!ds.isEmpty) := rfl
@[simp] theorem truth_scr (ds : List D) : truth st (.scr ds) = some (!ds.isEmpty) := rfl
@[simp] theorem truth_ref (i : Nat) : truth st (.ref i) = (lstAt st i).map fun ds => !ds.isEmpty := rfl
@[simp] theorem items_tup (ds : List D) : items st (.tup ds) = some ds := rfl
@[simp] theorem items_scr (ds : List D) : items st (.scr ds) = some ds := rfl
@[simp] theorem items_ref (i : Nat) : items st (.ref i) = lstAt st i := rfl
@[simp] theorem items_int (i : Int) : items st (.int i) = none := rfl
@[simp] theorem items_non : items st .non = none := rfl
@[simp] theorem items_bl (b : Bool) : items st (.bl b) = none := rfl
@[simp] theorem itemsL_ref (i : Nat) : itemsL st (.ref i) = lstAt st i := rfl
@[simp] theorem itemsL_scr (ds : List D) : itemsL st (.scr ds) = some ds := rfl
@[simp] theorem isLst_ref (i : Nat) : isLst st (.ref i) = (lstAt st i).isSome := rfl
@[simp] theorem addR_int (i j : Int) : addR st (.int i) (.int j) = .ok (.int (i + j)) st := rfl
@[simp] theorem addR_tup (a b : List D) : addR st (.tup a) (.tup b) = if a.length + b.length ≤ sizeLine then .ok (.tup (a ++ b)) st else .stuck := rfl
@[simp] theorem subR_int (i j : Int) : subR st (.int i) (.int j) = .ok (.int (i - j)) st := rfl
@[simp] theorem iaddR_int (i j : Int) : iaddR st (.int i) (.int j) = .ok (.int (i + j)) st := rfl
@[simp] theorem mulR_int (i j : Int) : mulR st (.int i) (.int j) = if mulOk i j then .ok (.int (i * j)) st else .stuck := rfl
@[simp] theorem divR_int (i j : Int) : divR st (.int i) (.int j) = if divOk j then .ok (.int (i / j)) st else .stuck := rfl
@[simp] theorem modR_int (i j : Int) : modR st (.int i) (.int j) = if 0 < j then .ok (.int (i % j)) st else .stuck := rfl
@[simp] theorem powR_int (i j : Int) : powR st (.int i) (.int j) = if powOk i j then .ok (.int (i ^ j.toNat)) st else .stuck := rfl
@[simp] theorem xorR_int (i j : Int) : xorR st (.int i) (.int j) = .ok (.int (Builtin.bitXor i j)) st := rfl
@[simp] theorem negR_int (i : Int) : negR st (.int i) = .ok (.int (-i)) st := rfl
@[simp] theorem intR_int (i : Int) : intR st (.int i) = .ok (.int i) st := rfl
@[simp] theorem absR_int (i : Int) : absR st (.int i) = .ok (.int (if i < 0 then -i else i)) st := rfl
@[simp] theorem ltD_int (i j : Int) : ltD st (.int i) (.int j) = some (decide (i < j)) := rfl
@[simp] theorem leD_int (i j : Int) : leD st (.int i) (.int j) = some (decide (i ≤ j)) := rfl
@[simp] theorem gtD_int (i j : Int) : gtD st (.int i) (.int j) = some (decide (j < i)) := rfl
@[simp] theorem geD_int (i j : Int) : geD st (.int i) (.int j) = some (decide (j ≤ i)) := rfl
@[simp] theorem cB_ap (g : Sto → D → D → Option Bool) (x y : D) : cB g st x y = Res.of ((g st x y).map D.bl) st := rfl
def isNon : D → Bool | .non => true | _ => false
def isBl (b : Bool) : D → Bool | .bl c => c == b | _ => false
@[simp] theorem isB_n (x : D) : isB st x .non = some (isNon x) := rfl
@[simp] theorem isB_b (x : D) (b : Bool) : isB st x (.bl b) = some (isBl b x) := rfl
@[simp] theorem isnB_n (x : D) : isnB st x .non = some (!isNon x) := rfl
@[simp] theorem isnB_b (x : D) (b : Bool) : isnB st x (.bl b) = some (!isBl b x) := rfl
@[simp] theorem isNon_non : isNon .non = true := rfl
@[simp] theorem isBl_non (c : Bool) : isBl c .non = false := rfl
@[simp] theorem isNon_bl (b : Bool) : isNon (.bl b) = false := rfl
@[simp] theorem isBl_bl (b c : Bool) : isBl c (.bl b) = (b == c) := rfl
@[simp] theorem isNon_int (i : Int) : isNon (.int i) = false := rfl
@[simp] theorem isBl_int (i : Int) (c : Bool) : isBl c (.int i) = false := rfl
@[simp] theorem isNon_str (s : Str) : isNon (.str s) = false := rfl
@[simp] theorem isBl_str (s : Str) (c : Bool) : isBl c (.str s) = false := rfl
@[simp] theorem isNon_tup (ds : List D) : isNon (.tup ds) = false := rfl
@[simp] theorem isBl_tup (ds : List D) (c : Bool) : isBl c (.tup ds) = false := rfl
@[simp] theorem isNon_ref (a : Nat) : isNon (.ref a) = false := rfl
@[simp] theorem isBl_ref (a : Nat) (c : Bool) : isBl c (.ref a) = false := rfl
@[simp] theorem isNon_scr (ds : List D) : isNon (.scr ds) = false := rfl
@[simp] theorem isBl_scr (ds : List D) (c : Bool) : isBl c (.scr ds) = false := rfl
@[simp] theorem subT_non_bool : subT (Ty.non) (Ty.bool) = false := rfl
@[simp] theorem subT_non_int : subT (Ty.non) (Ty.int) = false := rfl
@[simp] theorem subT_non_str : subT (Ty.non) (Ty.str) = false := rfl
@[simp] theorem subT_non_tup : subT (Ty.non) (Ty.tup) = false := rfl
@[simp] theorem subT_non_lst : subT (Ty.non) (Ty.lst) = false := rfl
@[simp] theorem subT_non_dict : subT (Ty.non) (Ty.dict) = false := rfl
@[simp] theorem subT_bool_non : subT (Ty.bool) (Ty.non) = false := rfl
@[simp] theorem subT_bool_int : subT (Ty.bool) (Ty.int) = true := rfl
@[simp] theorem subT_bool_str : subT (Ty.bool) (Ty.str) = false := rfl
@[simp] theorem subT_bool_tup : subT (Ty.bool) (Ty.tup) = false := rfl
@[simp] theorem subT_bool_lst : subT (Ty.bool) (Ty.lst) = false := rfl
@[simp] theorem subT_bool_dict : subT (Ty.bool) (Ty.dict) = false := rfl
@[simp] theorem subT_int_non : subT (Ty.int) (Ty.non) = false := rfl
@[simp] theorem subT_int_bool : subT (Ty.int) (Ty.bool) = false := rfl
@[simp] theorem subT_int_str : subT (Ty.int) (Ty.str) = false := rfl
@[simp] theorem subT_int_tup : subT (Ty.int) (Ty.tup) = false := rfl
@[simp] theorem subT_int_lst : subT (Ty.int) (Ty.lst) = false := rfl
@[simp] theorem subT_int_dict : subT (Ty.int) (Ty.dict) = false := rfl
@[simp] theorem subT_str_non : subT (Ty.str) (Ty.non) = false := rfl
@[simp] theorem subT_str_bool : subT (Ty.str) (Ty.bool) = false := rfl
@[simp] theorem subT_str_int : subT (Ty.str) (Ty.int) = false := rfl
@[simp] theorem subT_str_tup : subT (Ty.str) (Ty.tup) = false := rfl
@[simp] theorem subT_str_lst : subT (Ty.str) (Ty.lst) = false := rfl
@[simp] theorem subT_str_dict : subT (Ty.str) (Ty.dict) = false := rfl
@[simp] theorem subT_tup_non : subT (Ty.tup) (Ty.non) = false := rfl
@[simp] theorem subT_tup_bool : subT (Ty.tup) (Ty.bool) = false := rfl
@[simp] theorem subT_tup_int : subT (Ty.tup) (Ty.int) = false := rfl
@[simp] theorem subT_tup_str : subT (Ty.tup) (Ty.str) = false := rfl
@[simp] theorem subT_tup_lst : subT (Ty.tup) (Ty.lst) = false := rfl
@[simp] theorem subT_tup_dict : subT (Ty.tup) (Ty.dict) = false := rfl
@[simp] theorem subT_lst_non : subT (Ty.lst) (Ty.non) = false := rfl
@[simp] theorem subT_lst_bool : subT (Ty.lst) (Ty.bool) = false := rfl
@[simp] theorem subT_lst_int : subT (Ty.lst) (Ty.int) = false := rfl
@[simp] theorem subT_lst_str : subT (Ty.lst) (Ty.str) = false := rfl
@[simp] theorem subT_lst_tup : subT (Ty.lst) (Ty.tup) = false := rfl
@[simp] theorem subT_lst_dict : subT (Ty.lst) (Ty.dict) = false := rfl
@[simp] theorem subT_dict_non : subT (Ty.dict) (Ty.non) = false := rfl
@[simp] theorem subT_dict_bool : subT (Ty.dict) (Ty.bool) = false := rfl
@[simp] theorem subT_dict_int : subT (Ty.dict) (Ty.int) = false := rfl
@[simp] theorem subT_dict_str : subT (Ty.dict) (Ty.str) = false := rfl
@[simp] theorem subT_dict_tup : subT (Ty.dict) (Ty.tup) = false := rfl
@[simp] theorem subT_dict_lst : subT (Ty.dict) (Ty.lst) = false := rfl
@[simp] theorem min2_ap (i j : Int) : min2 st [.int i, .int j] = .ok (.int (min i j)) st := by
  have e : (if j < i then j else i) = min i j := by omega
  show Res.ok (D.int (if j < i then j else i)) st = _
  rw [e]
@[simp] theorem max2_ap (i j : Int) : max2 st [.int i, .int j] = .ok (.int (max i j)) st := by
  have e : (if j > i then j else i) = max i j := by omega
  show Res.ok (D.int (if j > i then j else i)) st = _
  rw [e]
theorem eqB_int (i j : Int) : eqB st (.int i) (.int j) = some (decide (i = j)) := by
  unfold eqB dat datP
  simp [SeqAt.shaped, PyData.canLay0, PyData.depth, PyData.eqv]
  by_cases h : i = j <;> simp [h]
@[simp] theorem eqB_int' (i j : Int) : eqB st (.int i) (.int j) = some (decide (i = j)) := eqB_int i j
@[simp] theorem neB_int (i j : Int) : neB st (.int i) (.int j) = some (!decide (i = j)) := by
  unfold neB; rw [eqB_int]; rfl
@[simp] theorem lenR_tup (ds : List D) : lenR st (.tup ds) = .ok (.int ds.length) st := rfl
@[simp] theorem lenR_scr (ds : List D) : lenR st (.scr ds) = .ok (.int ds.length) st := rfl
@[simp] theorem lenR_ref (i : Nat) : lenR st (.ref i) = match lstAt st i with | some ds => .ok (.int ds.length) st | none => .stuck := rfl
@[simp] theorem isiR_ap (T : Ty) (x : D) : isiR T st x = match tyOf st x with | some t => .ok (.bl (subT t T)) st | none => .stuck := rfl
@[simp] theorem tyOf_non : tyOf st .non = some .non := rfl
@[simp] theorem tyOf_bl (b : Bool) : tyOf st (.bl b) = some .bool := rfl
@[simp] theorem tyOf_int (i : Int) : tyOf st (.int i) = some .int := rfl
@[simp] theorem tyOf_str (s : Str) : tyOf st (.str s) = some .str := rfl
@[simp] theorem tyOf_tup (ds : List D) : tyOf st (.tup ds) = some .tup := rfl
@[simp] theorem tyOf_scr (ds : List D) : tyOf st (.scr ds) = some .lst := rfl
@[simp] theorem subT_self (t : Ty) : subT t t = true := by cases t <;> rfl
@[simp] theorem ixR_tup (ds : List D) (k : Int) : ixR st (.tup ds) (.int k) = Res.of (L2.atI ds k) st := rfl
@[simp] theorem ixR_scr (ds : List D) (k : Int) : ixR st (.scr ds) (.int k) = Res.of (L2.atI ds k) st := rfl
@[simp] theorem ixR_ref (i : Nat) (k : Int) : ixR st (.ref i) (.int k) = match lstAt st i with | some ds => Res.of (L2.atI ds k) st | none => .stuck := rfl
theorem atI_nat {α : Type} (xs : List α) (k : Nat) : L2.atI xs (k : Int) = xs[k]? := by
  unfold L2.atI L2.ixN
  by_cases h : k < xs.length
  · simp [h]
  · simp [h]
@[simp] theorem atI_0 {α : Type} (xs : List α) : L2.atI xs 0 = xs[0]? := atI_nat xs 0
@[simp] theorem atI_2 {α : Type} (xs : List α) : L2.atI xs 2 = xs[2]? := atI_nat xs 2
@[simp] theorem atI_3 {α : Type} (xs : List α) : L2.atI xs 3 = xs[3]? := atI_nat xs 3
@[simp] theorem atI_4 {α : Type} (xs : List α) : L2.atI xs 4 = xs[4]? := atI_nat xs 4
@[simp] theorem atI_5 {α : Type} (xs : List α) : L2.atI xs 5 = xs[5]? := atI_nat xs 5
@[simp] theorem atI_6 {α : Type} (xs : List α) : L2.atI xs 6 = xs[6]? := atI_nat xs 6
@[simp] theorem atI_7 {α : Type} (xs : List α) : L2.atI xs 7 = xs[7]? := atI_nat xs 7
@[simp] theorem atI_1 {α : Type} (xs : List α) : L2.atI xs 1 = xs[1]? := atI_nat xs 1
theorem atI_last {α : Type} (xs : List α) (h : xs ≠ []) : L2.atI xs (-1) = xs[xs.length - 1]? := by
  have : 0 < xs.length := List.length_pos_iff.mpr h
  unfold L2.atI L2.ixN
  rw [if_neg (by omega), if_pos (by omega)]
  simp only [Option.bind_some]
  congr 1
  omega
@[simp] theorem tupQ_ap (ds : List D) : tupQ st ds = if ds.length ≤ sizeLine then .ok (.tup ds) st else .stuck := rfl
@[simp] theorem sumQ_ints (ns : List Int) : sumQ st (ns.map D.int) = .ok (.int ns.sum) st := by
  unfold sumQ; rw [intsOf_map]
theorem sumQ_ap (ds : List D) : sumQ st ds = match intsOf ds with | some ns => .ok (.int ns.sum) st | none => .stuck := rfl
@[simp] theorem good_nil : good [] st = true := rfl
@[simp] theorem lo_int (n : Nat) (i : Int) : D.lo n (.int i) = true := rfl
@[simp] theorem lo_bl (n : Nat) (b : Bool) : D.lo n (.bl b) = true := rfl
@[simp] theorem lo_non (n : Nat) : D.lo n .non = true := rfl
@[simp] theorem lo_str (n : Nat) (s : Str) : D.lo n (.str s) = true := rfl
@[simp] theorem lo_tup (n : Nat) (ds : List D) : D.lo n (.tup ds) = D.loL n ds := rfl
@[simp] theorem lo_ref (n i : Nat) : D.lo n (.ref i) = decide (i < n) := rfl
@[simp] theorem loL_nil (n : Nat) : D.loL n [] = true := rfl
@[simp] theorem loL_cons (n : Nat) (d : D) (ds : List D) : D.loL n (d :: ds) = (D.lo n d && D.loL n ds) := rfl
@[simp] theorem loC_lst (n : Nat) (ds : List D) : Cell.lo n (.lst ds) = D.loL n ds := rfl
@[simp] theorem loL_ints (n : Nat) (ns : List Int) : D.loL n (ns.map D.int) = true := by
  induction ns with
  | nil => rfl
  | cons a ns ih => simp [ih]
@[simp] theorem lstAt_app_len (ds : List D) : lstAt (st ++ [.lst ds]) st.length = some ds := by
  unfold lstAt; simp
theorem lstAt_app {i : Nat} (h : i < st.length) (g : Sto) : lstAt (st ++ g) i = lstAt st i := by
  unfold lstAt; rw [List.getElem?_append_left h]
theorem small_size {n : Nat} (h : n ≤ 10000) : n ≤ sizeLine := Nat.le_trans h (by decide)
theorem lstAt_lt {i : Nat} {ds : List D} (h : lstAt st i = some ds) : i < st.length := by
  unfold lstAt at h
  split at h
  · rename_i e; exact (List.getElem?_eq_some_iff.mp e).1
  · cases h
theorem lstAt_set {i : Nat} {ds : List D} (h : i < st.length) : lstAt (st.set i (.lst ds)) i = some ds := by
  unfold lstAt; simp [h]
theorem lstAt_set_ne {i j : Nat} {c : Cell} (h : j ≠ i) : lstAt (st.set i c) j = lstAt st j := by
  unfold lstAt; rw [List.getElem?_set_ne (Ne.symm h)]
end OH

set_option Elab.async false
set_option linter.all false
set_option maxRecDepth 100000
/-! OHData: plain values as data: equality, order, membership, sorting. -/
namespace OH
open PySem L2
open PySem.W (dataLe dataLt AllAlike Sortable alike alikeAll rowLt keyToksAll keyToks)
/-- values of a type as data of depth n at most -/
structure EmbD {α : Type} [DecidableEq α] [LT α] [DecidableLT α] (n : Nat) (f : α → D) : Prop where
  dt : ∀ (r : Nat → Option PyData) x, datP r (f x) = some (encD (f x))
  q : ∀ x y, PyData.eqv (encD (f x)) (encD (f y)) = decide (x = y)
  lay : ∀ x, (encD (f x)).canLay0 = true
  dp : ∀ x, (encD (f x)).depth ≤ n
  ord : ∀ (o : O4) m x y, n ≤ m → ordN o m (f x) (f y) = some (match o with | .lt => decide (x < y) | .le => !decide (y < x) | .gt => decide (y < x) | .ge => !decide (x < y))
  al : ∀ x y, alike (encD (f x)) (encD (f y)) = true
  irr : ∀ x : α, ¬ x < x
  dl : ∀ x y, dataLt (encD (f x)) (encD (f y)) = decide (x < y)
abbrev tupF {α : Type} (f : α → D) (xs : List α) : D := .tup (xs.map f)
theorem embI : EmbD 0 D.int where
  dt r x := rfl
  q x y := by
    show (x == y) = decide (x = y)
    by_cases h : x = y <;> simp [h]
  lay x := rfl
  dp x := Nat.le_refl _
  ord o m x y _ := by
    have e : ordN o m (.int x) (.int y) = some (o.i x y) := by cases m <;> rfl
    rw [e]
    cases o
    · rfl
    · show some (decide (x ≤ y)) = some (!decide (y < x))
      congr 1
      by_cases h : x ≤ y
      · simp [h]
      · simp [h]; omega
    · rfl
    · show some (decide (y ≤ x)) = some (!decide (x < y))
      congr 1
      by_cases h : y ≤ x
      · simp [h]
      · simp [h]; omega
  al x y := by show alike (.int x) (.int y) = true; simp [alike]
  irr x := Int.lt_irrefl x
  dl x y := PySem.W.dataLt_int x y
section
variable {α : Type} [DecidableEq α] [LT α] [DecidableLT α] {n : Nat} {f : α → D}
theorem EmbD.datL (E : EmbD n f) (r : Nat → Option PyData) : ∀ xs : List α, datPL r (xs.map f) = some (xs.map fun x => encD (f x))
  | [] => rfl
  | x :: xs => by
    show ((datP r (f x)).bind fun d => (datPL r (xs.map f)).map fun ds => d :: ds) = _
    rw [E.dt, E.datL r xs]; rfl
theorem EmbD.encT (E : EmbD n f) (xs : List α) : encD (tupF f xs) = .tuple (xs.map fun x => encD (f x)) := by
  unfold encD tupF
  show ((datPL _ (xs.map f)).map PyData.tuple).getD .none = _
  rw [E.datL]; rfl
theorem EmbD.qL (E : EmbD n f) : ∀ xs ys : List α, PyData.eqvAll (xs.map fun x => encD (f x)) (ys.map fun x => encD (f x)) = decide (xs = ys)
  | [], [] => by simp [PyData.eqvAll]
  | [], y :: ys => by simp [PyData.eqvAll]
  | x :: xs, [] => by simp [PyData.eqvAll]
  | x :: xs, y :: ys => by
    simp only [List.map_cons, PyData.eqvAll]
    rw [E.q, E.qL xs ys]
    by_cases h : x = y <;> simp [h]
theorem EmbD.layL (E : EmbD n f) : ∀ xs : List α, PyData.canLayAll0 (xs.map fun x => encD (f x)) = true
  | [] => by simp [PyData.canLayAll0]
  | x :: xs => by simp only [List.map_cons, PyData.canLayAll0, E.lay, E.layL xs, Bool.and_self]
theorem EmbD.dpL (E : EmbD n f) : ∀ xs : List α, PyData.depthAll (xs.map fun x => encD (f x)) ≤ n
  | [] => by simp [PyData.depthAll]
  | x :: xs => by
    have a := E.dp x
    have b := E.dpL xs
    simp only [List.map_cons, PyData.depthAll]
    omega
theorem EmbD.alL (E : EmbD n f) : ∀ xs ys : List α, alikeAll (xs.map fun x => encD (f x)) (ys.map fun x => encD (f x)) = true
  | [], _ => by simp [alikeAll]
  | _ :: _, [] => by simp [alikeAll]
  | x :: xs, y :: ys => by simp only [List.map_cons, alikeAll, E.al, E.alL xs ys, Bool.and_self]
theorem EmbD.shp (E : EmbD n f) (h : n ≤ 64) (x : α) : SeqAt.shaped (encD (f x)) = true := by
  have := E.dp x
  unfold SeqAt.shaped
  rw [E.lay, Bool.true_and, decide_eq_true_eq]
  omega
theorem EmbD.eqP (E : EmbD n f) (h : n ≤ 64) (x y : α) : eqP (f x) (f y) = some (decide (x = y)) := by
  unfold OH.eqP
  rw [E.dt, E.dt]
  simp only [Option.bind_some]
  rw [if_pos ⟨E.shp h x, E.shp h y⟩, E.q]
theorem EmbD.lex (E : EmbD n f) (h : n ≤ 60) (o : O4) (m : Nat) (hm : n ≤ m) : ∀ xs ys : List α, lexD OH.eqP (ordN o m) o.n (xs.map f) (ys.map f) = some (match o with | .lt => decide (xs < ys) | .le => !decide (ys < xs) | .gt => decide (ys < xs) | .ge => !decide (xs < ys))
  | [], [] => by cases o <;> rfl
  | [], y :: ys => by cases o <;> simp [lexD, O4.n]
  | x :: xs, [] => by cases o <;> simp [lexD, O4.n]
  | x :: xs, y :: ys => by
    simp only [List.map_cons, lexD]
    rw [E.eqP (by omega), E.ord o m x y hm, E.lex h o m hm xs ys]
    by_cases e : x = y
    · subst e
      cases o <;> simp [List.cons_lt_cons_iff, E.irr x]
    · have e' : ¬ y = x := fun z => e z.symm
      cases o <;> simp [List.cons_lt_cons_iff, e, e']
theorem EmbD.irrL (E : EmbD n f) : ∀ xs : List α, ¬ xs < xs
  | [] => by simp
  | x :: xs => by
    rw [List.cons_lt_cons_iff]
    rintro (h | h)
    · exact E.irr x h
    · exact E.irrL xs h.2
theorem EmbD.dlL (E : EmbD n f) : ∀ xs ys : List α, rowLt (xs.map fun x => encD (f x)) (ys.map fun x => encD (f x)) = decide (xs < ys)
  | [], [] => by
    have : rowLt [] [] = false := PyProof.Rows.lex_irrefl _
    simp [this]
  | [], y :: ys => by
    have : rowLt [] (encD (f y) :: ys.map fun x => encD (f x)) = true := by
      unfold rowLt
      rw [PySem.W.toks_all_cons]
      simp only [keyToksAll]
      exact (PyProof.Rows.lex_diff (by simp)).trans rfl
    simpa using this
  | x :: xs, [] => by
    have : rowLt (encD (f x) :: xs.map fun x => encD (f x)) [] = false := by
      unfold rowLt
      rw [PySem.W.toks_all_cons]
      simp only [keyToksAll]
      exact (PyProof.Rows.lex_diff (by simp)).trans rfl
    simpa using this
  | x :: xs, y :: ys => by
    simp only [List.map_cons]
    unfold rowLt
    rw [PySem.W.dataLt_cons (E.al x y), E.q, E.dl]
    by_cases h : x = y
    · subst h
      have := E.dlL xs ys
      unfold rowLt at this
      simp [this, List.cons_lt_cons_iff, E.irr x]
    · simp [h, List.cons_lt_cons_iff]
theorem EmbD.list (E : EmbD n f) (hn : n ≤ 20) : EmbD (n + 1) (tupF f) where
  dt r x := by
    rw [E.encT]
    show (datPL r (x.map f)).map PyData.tuple = _
    rw [E.datL]; rfl
  q x y := by rw [E.encT, E.encT]; show PyData.eqvAll _ _ = _; exact E.qL x y
  lay x := by rw [E.encT]; show PyData.canLayAll0 _ = _; exact E.layL x
  dp x := by rw [E.encT]; show PyData.depthAll _ + 1 ≤ _; exact Nat.succ_le_succ (E.dpL x)
  ord o m x y h := by
    obtain ⟨k, rfl⟩ : ∃ k, m = k + 1 := ⟨m - 1, by omega⟩
    show lexD OH.eqP (ordN o k) o.n (x.map f) (y.map f) = _
    exact E.lex (by omega) o k (by omega) x y
  al x y := by rw [E.encT, E.encT]; show alike (.tuple _) (.tuple _) = _; simp only [alike]; exact E.alL x y
  irr x := E.irrL x
  dl x y := by rw [E.encT, E.encT, PySem.W.dataLt_tuple]; exact E.dlL x y
/-! ### what follows -/
theorem EmbD.dat (E : EmbD n f) (st : Sto) (k : Nat) (x : α) : dat st k (f x) = some (encD (f x)) := by cases k <;> exact E.dt _ x
theorem EmbD.eqB (E : EmbD n f) (h : n ≤ 20) (st : Sto) (x y : α) : eqB st (f x) (f y) = some (decide (x = y)) := by
  unfold OH.eqB
  rw [E.dat, E.dat]
  simp only [Option.bind_some]
  rw [if_pos ⟨E.shp (by omega) x, E.shp (by omega) y⟩, E.q]
theorem EmbD.neB (E : EmbD n f) (h : n ≤ 20) (st : Sto) (x y : α) : neB st (f x) (f y) = some (!decide (x = y)) := by
  unfold OH.neB; rw [E.eqB h]; rfl
theorem EmbD.lt (E : EmbD n f) (h : n ≤ 4) (st : Sto) (x y : α) : ltD st (f x) (f y) = some (decide (x < y)) := E.ord .lt 4 x y h
theorem EmbD.gt (E : EmbD n f) (h : n ≤ 4) (st : Sto) (x y : α) : gtD st (f x) (f y) = some (decide (y < x)) := E.ord .gt 4 x y h
theorem EmbD.le (E : EmbD n f) (h : n ≤ 4) (st : Sto) (x y : α) : leD st (f x) (f y) = some (!decide (y < x)) := E.ord .le 4 x y h
theorem EmbD.ge (E : EmbD n f) (h : n ≤ 4) (st : Sto) (x y : α) : geD st (f x) (f y) = some (!decide (x < y)) := E.ord .ge 4 x y h
theorem EmbD.any (E : EmbD n f) (x : α) : ∀ ys : List α, (ys.map fun y => encD (f y)).any (fun z => PyData.eqv z (encD (f x))) = decide (x ∈ ys)
  | [] => by simp
  | y :: ys => by
    rw [List.map_cons, List.any_cons, E.q, E.any x ys]
    by_cases h : x = y
    · simp [h]
    · have h' : ¬ y = x := fun e => h e.symm
      simp [h, h']
theorem EmbD.notStr (E : EmbD n f) (x : α) (h : ∀ s, f x ≠ .str s) (st : Sto) (y : D) : inB st (f x) y = (OH.dat st 4 (f x)).bind fun d => (OH.dat st 4 y).bind fun e => match e with
    | .list ds => if SeqAt.shaped d = true ∧ SeqAt.shaped (.list ds) = true then some (ds.any fun z => PyData.eqv z d) else none
    | .tuple ds => if SeqAt.shaped d = true ∧ SeqAt.shaped (.tuple ds) = true then some (ds.any fun z => PyData.eqv z d) else none
    | _ => none := by
  unfold inB
  split
  · rename_i a b e; exact absurd e (h a)
  · rfl
theorem EmbD.shpT (E : EmbD n f) (h : n ≤ 20) (xs : List α) : SeqAt.shaped (.tuple (xs.map fun x => encD (f x))) = true := by
  have := (E.list h).shp (by omega) xs
  rwa [E.encT] at this
theorem EmbD.inT (E : EmbD n f) (h : n ≤ 20) (x : α) (hs : ∀ s, f x ≠ .str s) (st : Sto) (ys : List α) : inB st (f x) (.tup (ys.map f)) = some (decide (x ∈ ys)) := by
  rw [E.notStr x hs, E.dat]
  have e : OH.dat st 4 (.tup (ys.map f)) = some (.tuple (ys.map fun y => encD (f y))) := by
    have := (E.list h).dat st 4 ys
    rwa [E.encT] at this
  rw [e]
  simp only [Option.bind_some]
  rw [if_pos ⟨E.shp (by omega) x, E.shpT h ys⟩, E.any]
theorem EmbD.datR (E : EmbD n f) (st : Sto) (i : Nat) (ys : List α) (hi : lstAt st i = some (ys.map f)) : OH.dat st 4 (.ref i) = some (.list (ys.map fun y => encD (f y))) := by
  show ((lstAt st i).bind fun ds => (ds.mapM (OH.dat st 3)).map PyData.list) = _
  rw [hi]
  have : (ys.map f).mapM (OH.dat st 3) = some (ys.map fun y => encD (f y)) := by
    induction ys with
    | nil => rfl
    | cons y ys ih => 
      have : ∀ zs : List α, (zs.map f).mapM (OH.dat st 3) = some (zs.map fun y => encD (f y)) := fun zs => by
        induction zs with
        | nil => rfl
        | cons z zs ih => rw [List.map_cons, List.mapM_cons, E.dat, ih]; rfl
      exact this (y :: ys)
  simp [this]
theorem EmbD.inL (E : EmbD n f) (h : n ≤ 20) (x : α) (hs : ∀ s, f x ≠ .str s) (st : Sto) (i : Nat) (ys : List α) (hi : lstAt st i = some (ys.map f)) : inB st (f x) (.ref i) = some (decide (x ∈ ys)) := by
  rw [E.notStr x hs, E.dat, E.datR st i ys hi]
  simp only [Option.bind_some]
  have : SeqAt.shaped (.list (ys.map fun y => encD (f y))) = true := E.shpT h ys
  rw [if_pos ⟨E.shp (by omega) x, this⟩, E.any]
theorem EmbD.leS (E : EmbD n f) (x y : α) : leS (f x) (f y) = !decide (y < x) := by
  show (!dataLt (encD (f y)) (encD (f x))) = _
  rw [E.dl]
theorem EmbD.sort (E : EmbD n f) (h : n ≤ 20) (xs : List α) (hs : Sortable (xs.map fun x => encD (f x))) : sortO (xs.map f) = some ((xs.mergeSort fun a b => !decide (b < a)).map f) := by
  unfold sortO
  have e : (xs.map f).map encD = xs.map fun x => encD (f x) := by rw [List.map_map]; rfl
  have ok : SortOk (xs.map f) := by
    refine ⟨fun d hd => ?_, ?_, by rw [e]; exact hs, fun d hd => ?_⟩
    · obtain ⟨x, _, rfl⟩ := List.mem_map.mp hd
      rw [E.dt]; rfl
    · rw [e]
      intro d hd d' hd'
      obtain ⟨x, _, rfl⟩ := List.mem_map.mp hd
      obtain ⟨y, _, rfl⟩ := List.mem_map.mp hd'
      exact E.al x y
    · obtain ⟨x, _, rfl⟩ := List.mem_map.mp hd
      have := E.dp x
      omega
  rw [if_pos ok]
  congr 1
  exact (List.map_mergeSort (r := fun a b => !decide (b < a)) (s := OH.leS) (f := f) (l := xs) (fun a _ b _ => (E.leS a b).symm)).symm
end
theorem sortI (xs : List Int) : sortO (xs.map D.int) = some ((xs.mergeSort fun a b => !decide (b < a)).map D.int) := embI.sort (by decide) xs (.inr fun d hd => by
  obtain ⟨x, _, rfl⟩ := List.mem_map.mp hd
  exact ⟨by simp [encD, datP], by simp [encD, datP]⟩)
theorem EmbD.sortL {α : Type} [DecidableEq α] [LT α] [DecidableLT α] {n : Nat} {f : α → D} (E : EmbD n f) (h : n ≤ 19) (xs : List (List α)) (hx : ∀ x, x ∈ xs → x ≠ []) : sortO (xs.map (tupF f)) = some ((xs.mergeSort fun a b => !decide (b < a)).map (tupF f)) :=
  (E.list (by omega)).sort (by omega) xs (.inl fun d hd => by
    obtain ⟨x, hx', rfl⟩ := List.mem_map.mp hd
    rw [E.encT]
    cases x with
    | nil => exact absurd rfl (hx _ hx')
    | cons y ys => exact ⟨_, _, rfl⟩)
abbrev dT : List Int → D := tupF D.int
abbrev dTT : List (List Int) → D := tupF dT
theorem embT : EmbD 1 dT := embI.list (by decide)
theorem embTT : EmbD 2 dTT := embT.list (by decide)
theorem embTTT : EmbD 3 (tupF dTT) := embTT.list (by decide)
end OH

set_option Elab.async false
set_option linter.all false
/-! OHComb: rows of so many cards out of an ascending row (plain Lean). -/
namespace OH
def okNext (row : List Int) (c : Int) : Bool := row.isEmpty || decide (row.getLast?.getD 0 < c)
def rowsOut (cards : List Int) : Nat → List (List Int)
  | 0 => [[]]
  | k + 1 => (rowsOut cards k).flatMap fun row => (cards.filter (okNext row)).map fun c => row ++ [c]
def combs : Nat → List Int → List (List Int)
  | 0, _ => [[]]
  | _ + 1, [] => []
  | k + 1, c :: cs => (combs k cs).map (c :: ·) ++ combs (k + 1) cs
def chooseN : Nat → Nat → Nat
  | _, 0 => 1
  | 0, _ + 1 => 0
  | n + 1, k + 1 => chooseN n k + chooseN n (k + 1)
theorem combs_zero (cs : List Int) : combs 0 cs = [[]] := by cases cs <;> rfl
theorem combs_len : ∀ (k : Nat) (cs : List Int), (combs k cs).length = chooseN cs.length k
  | 0, cs => by rw [combs_zero]; cases cs <;> rfl
  | k + 1, [] => rfl
  | k + 1, c :: cs => by simp [combs, chooseN, combs_len k cs, combs_len (k + 1) cs]
theorem combs_mem : ∀ (k : Nat) (cs : List Int) (r : List Int), r ∈ combs k cs → r.length = k ∧ r.Sublist cs
  | 0, cs, r, h => by
    rw [combs_zero] at h
    simp at h
    subst h
    exact ⟨rfl, List.nil_sublist _⟩
  | k + 1, [], r, h => by cases h
  | k + 1, c :: cs, r, h => by
    simp only [combs, List.mem_append, List.mem_map] at h
    rcases h with ⟨r', h, rfl⟩ | h
    · obtain ⟨a, b⟩ := combs_mem k cs r' h
      exact ⟨by simp [a], b.cons_cons c⟩
    · obtain ⟨a, b⟩ := combs_mem (k + 1) cs r h
      exact ⟨a, b.cons c⟩
theorem mem_combs : ∀ (cs : List Int) (r : List Int), r.Sublist cs → r ∈ combs r.length cs
  | cs, [], _ => by rw [List.length_nil, combs_zero]; simp
  | [], _ :: _, h => by cases h
  | c :: cs, x :: r, h => by
    simp only [List.length_cons, combs, List.mem_append, List.mem_map]
    cases h with
    | cons _ h => exact .inr (mem_combs cs (x :: r) h)
    | cons_cons _ h => exact .inl ⟨r, mem_combs cs r h, rfl⟩
theorem choose_le : ∀ n k, chooseN n k ≤ 2 ^ n
  | n, 0 => by cases n <;> exact Nat.one_le_two_pow
  | 0, _ + 1 => by simp [chooseN]
  | n + 1, k + 1 => by
    have a := choose_le n k
    have b := choose_le n (k + 1)
    rw [Nat.pow_succ]
    simp only [chooseN]
    omega
/-- ascending, without duplicates -/
abbrev Asc (cs : List Int) : Prop := cs.Pairwise (· < ·)
theorem okNext_cons {c : Int} {cs r : List Int} (h : Asc (c :: cs)) (hr : r.Sublist cs) : (c :: cs).filter (okNext (c :: r)) = cs.filter (okNext r) := by
  obtain ⟨h1, h2⟩ := List.pairwise_cons.mp h
  have hl : ∀ x, okNext (c :: r) x = decide ((c :: r).getLast?.getD 0 < x) := fun x => by simp [okNext]
  cases r with
  | nil =>
    have e : ∀ x, okNext [c] x = decide (c < x) := fun x => by simp [okNext]; rfl
    have e0 : ∀ x, okNext [] x = true := fun x => by simp [okNext]
    rw [List.filter_cons, e]
    simp only [Int.lt_irrefl, decide_false, Bool.false_eq_true, if_false]
    apply List.filter_congr
    intro x hx
    rw [e, e0]
    simpa using h1 x hx
  | cons y r =>
    have e : ∀ x, okNext (c :: y :: r) x = okNext (y :: r) x := fun x => by simp [okNext, List.getLast?_cons_cons]
    have hc : okNext (c :: y :: r) c = false := by
      rw [e]
      simp only [okNext, List.isEmpty_cons, Bool.false_or, decide_eq_false_iff_not]
      have hm : (y :: r).getLast?.getD 0 ∈ cs := by
        rw [List.getLast?_eq_some_getLast (by simp)]
        exact hr.subset (List.getLast_mem _)
      have := h1 _ hm
      omega
    rw [List.filter_cons, hc]
    simp only [Bool.false_eq_true, if_false]
    exact List.filter_congr fun x _ => e x
theorem okNext_skip {c : Int} {cs r : List Int} (h : Asc (c :: cs)) (hr : r.Sublist cs) (hn : r ≠ []) : (c :: cs).filter (okNext r) = cs.filter (okNext r) := by
  obtain ⟨h1, h2⟩ := List.pairwise_cons.mp h
  have hc : okNext r c = false := by
    cases r with
    | nil => exact absurd rfl hn
    | cons y r =>
      simp only [okNext, List.isEmpty_cons, Bool.false_or, decide_eq_false_iff_not]
      have hm : (y :: r).getLast?.getD 0 ∈ cs := by
        rw [List.getLast?_eq_some_getLast (by simp)]
        exact hr.subset (List.getLast_mem _)
      have := h1 _ hm
      omega
  rw [List.filter_cons, hc]
  simp
theorem flatMap_congr' {α β : Type} {f g : α → List β} : ∀ {l : List α}, (∀ x, x ∈ l → f x = g x) → l.flatMap f = l.flatMap g
  | [], _ => rfl
  | a :: l, h => by
    rw [List.flatMap_cons, List.flatMap_cons, h a List.mem_cons_self, flatMap_congr' fun x hx => h x (List.mem_cons_of_mem _ hx)]
theorem combs_succ : ∀ (k : Nat) (cs : List Int), Asc cs → combs (k + 1) cs = (combs k cs).flatMap fun row => (cs.filter (okNext row)).map fun c => row ++ [c]
  | 0, [], _ => rfl
  | k + 1, [], _ => rfl
  | 0, c :: cs, h => by
    have ih := combs_succ 0 cs (List.pairwise_cons.mp h).2
    rw [combs_zero] at ih
    have e : ∀ l : List Int, l.filter (okNext []) = l := fun l => by
      apply List.filter_eq_self.mpr
      intro x _
      rfl
    simp only [combs, combs_zero, List.flatMap_cons, List.flatMap_nil, e] at ih ⊢
    rw [ih]
    simp
  | k + 1, c :: cs, h => by
    have h2 := (List.pairwise_cons.mp h).2
    have i1 := combs_succ k cs h2
    have i2 := combs_succ (k + 1) cs h2
    show (combs (k + 1) cs).map (c :: ·) ++ combs (k + 2) cs = ((combs k cs).map (c :: ·) ++ combs (k + 1) cs).flatMap _
    rw [List.flatMap_append]
    congr 1
    · rw [i1, List.flatMap_map, List.map_flatMap]
      apply flatMap_congr'
      intro r hr
      rw [okNext_cons h (combs_mem k cs r hr).2, List.map_map]
      rfl
    · rw [i2]
      apply flatMap_congr'
      intro r hr
      obtain ⟨a, b⟩ := combs_mem (k + 1) cs r hr
      rw [okNext_skip h b (by intro e; rw [e] at a; cases a)]
theorem rowsOut_eq {cs : List Int} (h : Asc cs) : ∀ k, rowsOut cs k = combs k cs
  | 0 => (combs_zero cs).symm
  | k + 1 => by rw [combs_succ k cs h, ← rowsOut_eq h k]; rfl
/-- in order, without duplicates -/
theorem combs_asc : ∀ (k : Nat) (cs : List Int), Asc cs → (combs k cs).Pairwise (· < ·)
  | 0, cs, _ => by rw [combs_zero]; simp
  | k + 1, [], _ => List.Pairwise.nil
  | k + 1, c :: cs, h => by
    obtain ⟨h1, h2⟩ := List.pairwise_cons.mp h
    simp only [combs]
    refine List.pairwise_append.mpr ⟨List.pairwise_map.mpr ((combs_asc k cs h2).imp fun {a b} hab => ?_), combs_asc (k + 1) cs h2, fun a ha b hb => ?_⟩
    · rw [List.cons_lt_cons_iff]; exact .inr ⟨rfl, hab⟩
    · obtain ⟨r, hr, rfl⟩ := List.mem_map.mp ha
      obtain ⟨e, s⟩ := combs_mem (k + 1) cs b hb
      cases b with
      | nil => cases e
      | cons y b =>
        rw [List.cons_lt_cons_iff]
        exact .inl (h1 y (s.subset List.mem_cons_self))
end OH

set_option Elab.async false
set_option linter.all false
set_option maxRecDepth 100000
set_option maxHeartbeats 4000000
namespace OH
open PySem PySem.Spec
/-- _law_source -/
noncomputable def fd_law_source : FD := { np := 1, nl := 1, body := (sSeq (sRet (eNew (lLst (lCons (eNew (lMap (fun _ ds => some ds) (lSeq (eV 0)))) (lCons (eC (.int 0)) (lCons (eC (.int 0)) (lCons (eC (.int 0)) (lCons (eC (.int 0)) lNil)))))))) sNx) }
/-- _law_pick -/
noncomputable def fd_law_pick : FD := { np := 2, nl := 5, body := (sSeq (sPut putL (eV 0) (eC (.int 3)) (eB2 addR (eB2 ixR (eV 0) (eC (.int 3))) (eC (.int 1)))) (sSeq (sIf (bAnd (bCmp eqB (eB2 ixR (eV 0) (eC (.int 2))) (eC (.int 0))) (bCmp ltD (eB2 ixR (eV 0) (eC (.int 1))) (eU1 lenR (eB2 ixR (eV 0) (eC (.int 0)))))) (sSeq (sSet 2 (eB2 ixR (eB2 ixR (eV 0) (eC (.int 0))) (eB2 ixR (eV 0) (eC (.int 1))))) (sSeq (sPut putL (eV 0) (eC (.int 1)) (eB2 addR (eB2 ixR (eV 0) (eC (.int 1))) (eC (.int 1)))) (sSeq (sIf (bCmp geD (eV 2) (eB2 powR (eC (.int 10)) (eC (.int 18)))) (sSeq (sPut putL (eV 0) (eC (.int 2)) (eV 2)) sNx) (sSeq (sPut putL (eV 0) (eC (.int 4)) (eB2 modR (eU1 intR (eB2 addR (eB2 addR (eB2 mulR (eB2 ixR (eV 0) (eC (.int 4))) (eC (.int 31))) (eV 2)) (eC (.int 17)))) (eC (.int 1000000007)))) sNx)) sNx))) sNx) (sSeq (sIf (bCmp gtD (eB2 ixR (eV 0) (eC (.int 2))) (eC (.int 0))) (sSeq (sSet 3 (eB2 modR (eU1 intR (eB2 ixR (eV 0) (eC (.int 2)))) (eV 1))) (sSeq (sPut putL (eV 0) (eC (.int 2)) (eB2 divR (eB2 ixR (eV 0) (eC (.int 2))) (eV 1))) (sSeq (sRet (eV 3)) sNx))) sNx) (sSeq (sSet 4 (eB2 addR (eB2 addR (eB2 ixR (eV 0) (eC (.int 4))) (eB2 mulR (eB2 mulR (eC (.int 613)) (eB2 ixR (eV 0) (eC (.int 3)))) (eB2 ixR (eV 0) (eC (.int 3))))) (eC (.int 29)))) (sSeq (sSet 4 (eB2 modR (eU1 intR (eB2 addR (eB2 mulR (eV 4) (eV 4)) (eB2 mulR (eC (.int 8191)) (eV 4)))) (eC (.int 1000003937)))) (sSeq (sSet 4 (eB2 modR (eU1 intR (eB2 mulR (eB2 addR (eV 4) (eB2 ixR (eV 0) (eC (.int 3)))) (eB2 addR (eV 4) (eC (.int 977))))) (eC (.int 998244353)))) (sSeq (sRet (eB2 modR (eB2 divR (eV 4) (eC (.int 5))) (eV 1))) sNx))))))) }
/-- _law_any_setting -/
noncomputable def fd_law_any_setting : FD := { np := 1, nl := 3, body := (sSeq (sSet 1 (eB2 addR (eC (.int 1)) (eCall 7 (lCons (eV 0) (lCons (eC (.int 11)) lNil))))) (sSeq (sSet 2 (eB2 addR (eC (.int 1)) (eCall 7 (lCons (eV 0) (lCons (eB2 subR (eC (.int 12)) (eV 1)) lNil))))) (sSeq (sRet (eTup (lCons (eV 1) (lCons (eV 2) (lCons (eB2 addR (eC (.int 1)) (eCall 7 (lCons (eV 0) (lCons (eB2 subR (eB2 subR (eC (.int 13)) (eV 1)) (eV 2)) lNil)))) lNil))))) sNx))) }
/-- _law_bad_row -/
noncomputable def fd_law_bad_row : FD := { np := 3, nl := 7, body := (sSeq (sSet 3 (eNew (lMap (fun _ ds => some ds) (lSeq (eV 1))))) (sSeq (sSet 4 (eCall 7 (lCons (eV 0) (lCons (eU1 lenR (eV 3)) lNil)))) (sSeq (sSet 5 (eCall 7 (lCons (eV 0) (lCons (eC (.int 6)) lNil)))) (sSeq (sIf (bCmp eqB (eV 5) (eC (.int 4))) (sSeq (sRet (eV 3)) sNx) sNx) (sSeq (sIf (bCmp eqB (eV 5) (eC (.int 3))) (sSeq (sPut putL (eV 3) (eV 4) (eB2 ixR (eNew (lLst (lCons (eC (.bl true)) (lCons (eC (.bl false)) (lCons (eC .non) (lCons (eU1 strR (eB2 ixR (eV 3) (eV 4))) (lCons (eTup (lCons (eB2 ixR (eV 3) (eV 4)) lNil)) (lCons (eNew (lLst (lCons (eB2 ixR (eV 3) (eV 4)) lNil))) lNil)))))))) (eCall 7 (lCons (eV 0) (lCons (eC (.int 6)) lNil))))) sNx) (sSeq (sIf (bAnd (bCmp eqB (eV 5) (eC (.int 1))) (bCmp gtD (eU1 lenR (eV 3)) (eC (.int 1)))) (sSeq (sSet 3 (eB2 addR (eSl (eV 3) oNone (oSome (eC (.int 1)))) (eSl (eV 3) oNone (oSome (eB2 subR (eU1 lenR (eV 3)) (eC (.int 1))))))) sNx) (sSeq (sIf (bAnd (bCmp eqB (eV 5) (eC (.int 2))) (bCmp gtD (eU1 lenR (eV 3)) (eC (.int 1)))) (sSeq (sSet 3 (eNew (lLc (siR1 (lCons (eU1 lenR (eV 3)) lNil)) (gN 6) [6] bTrue (eB2 ixR (eV 3) (eB2 subR (eB2 subR (eU1 lenR (eV 3)) (eC (.int 1))) (eV 6)))))) sNx) (sSeq (sPut putL (eV 3) (eV 4) (eB2 ixR (eNew (lLst (lCons (eB2 subR (eC (.int 0)) (eC (.int 1))) (lCons (eV 2) (lCons (eB2 addR (eV 2) (eC (.int 7))) (lCons (eB2 powR (eC (.int 10)) (eC (.int 30))) lNil)))))) (eCall 7 (lCons (eV 0) (lCons (eC (.int 4)) lNil))))) sNx)) sNx)) sNx)) (sSeq (sRet (eA tupQ (lSeq (eV 3)))) sNx)))))) }
/-- _law_spoilt -/
noncomputable def fd_law_spoilt : FD := { np := 3, nl := 7, body := (sSeq (sSet 3 (eCall 7 (lCons (eV 0) (lCons (eC (.int 16)) lNil)))) (sSeq (sSet 4 (eCall 7 (lCons (eV 0) (lCons (eU1 lenR (eV 1)) lNil)))) (sSeq (sSet 5 (eNew (lMap (fun _ ds => some ds) (lSeq (eV 1))))) (sSeq (sIf (bCmp eqB (eV 3) (eC (.int 0))) (sSeq (sSet 5 (eB2 addR (eB2 addR (eSl (eV 5) oNone (oSome (eV 4))) (eSl (eV 5) (oSome (eB2 addR (eV 4) (eC (.int 1)))) oNone)) (eNew (lLst (lCons (eB2 ixR (eV 5) (eV 4)) lNil))))) sNx) sNx) (sSeq (sIf (bCmp eqB (eV 3) (eC (.int 1))) (sSeq (sExp (eM insertR (eV 5) (lCons (eV 4) (lCons (eB2 ixR (eV 5) (eV 4)) lNil)))) sNx) sNx) (sSeq (sIf (bCmp eqB (eV 3) (eC (.int 2))) (sSeq (sPut putL (eV 5) (eV 4) (eB2 ixR (eNew (lLst (lCons (eB2 subR (eC (.int 0)) (eC (.int 1))) (lCons (eV 2) (lCons (eB2 addR (eV 2) (eC (.int 1))) (lCons (eB2 powR (eC (.int 10)) (eC (.int 30))) lNil)))))) (eCall 7 (lCons (eV 0) (lCons (eC (.int 4)) lNil))))) sNx) sNx) (sSeq (sIf (bCmp eqB (eV 3) (eC (.int 3))) (sSeq (sSet 5 (eNew (lLc (siOf (eV 5)) (gN 6) [6] bTrue (eIf (bCmp ltD (eV 6) (eC (.int 2))) (eB2 (cB eqB) (eV 6) (eC (.int 1))) (eV 6))))) sNx) sNx) (sSeq (sIf (bCmp eqB (eV 3) (eC (.int 4))) (sSeq (sExp (eM popAtR (eV 5) (lCons (eV 4) lNil))) sNx) sNx) (sSeq (sIf (bCmp eqB (eV 3) (eC (.int 5))) (sSeq (sSet 5 (eNew (lSorted (lSeq (eB2 addR (eV 5) (eNew (lLst (lCons (eCall 7 (lCons (eV 0) (lCons (eV 2) lNil))) lNil)))))))) sNx) sNx) (sSeq (sIf (bCmp eqB (eV 3) (eC (.int 6))) (sSeq (sRet (eV 5)) sNx) sNx) (sSeq (sIf (bCmp eqB (eV 3) (eC (.int 7))) (sSeq (sRet (eB2 ixR (eNew (lLst (lCons (eC .non) (lCons (eC (.int 3)) (lCons (eC (.str "012")) (lCons (eTup lNil) (lCons (eC (.str "")) (lCons eDct0 (lCons (eTup (lCons (eTup (lCons (eC (.int 0)) (lCons (eC (.int 1)) lNil))) lNil)) (lCons (eC (.bl true)) lNil)))))))))) (eCall 7 (lCons (eV 0) (lCons (eC (.int 8)) lNil))))) sNx) sNx) (sSeq (sIf (bOr (bCmp eqB (eV 3) (eC (.int 8))) (bOr (bCmp eqB (eV 3) (eC (.int 9))) (bCmp eqB (eV 3) (eC (.int 10))))) (sSeq (sRet (eCall 148 (lCons (eV 0) (lCons (eV 1) (lCons (eV 2) lNil))))) sNx) sNx) (sSeq (sRet (eA tupQ (lSeq (eV 5)))) sNx))))))))))))) }
/-- _law_rows_of -/
noncomputable def fd_law_rows_of : FD := { np := 2, nl := 7, body := (sSeq (sSet 2 (eNew (lRng (eA sumQ (lSeq (eV 1)))))) (sSeq (sSet 3 (eNew (lLst lNil))) (sSeq (sFor (siOf (eV 1)) (gN 4) (sSeq (sSet 5 (eNew (lLst lNil))) (sSeq (sFor (siR1 (lCons (eV 4) lNil)) (gN 6) (sSeq (sExp (eM appendR (eV 5) (lCons (eM popAtR (eV 2) (lCons (eCall 7 (lCons (eV 0) (lCons (eU1 lenR (eV 2)) lNil))) lNil)) lNil))) sNx)) (sSeq (sExp (eM appendR (eV 3) (lCons (eA tupQ (lSorted (lSeq (eV 5)))) lNil))) sNx)))) (sSeq (sRet (eV 3)) sNx)))) }
/-- _law_deal -/
noncomputable def fd_law_deal : FD := { np := 2, nl := 6, body := (sSeq (sSet 2 (eCall 209 (lCons (eV 0) (lCons (eV 1) lNil)))) (sSeq (sSet 3 (eCall 7 (lCons (eV 0) (lCons (eC (.int 9)) lNil)))) (sSeq (sSet 4 (eCall 7 (lCons (eV 0) (lCons (eC (.int 3)) lNil)))) (sSeq (sSet 5 (eB2 modR (eU1 intR (eB2 addR (eB2 addR (eV 4) (eC (.int 1))) (eCall 7 (lCons (eV 0) (lCons (eC (.int 2)) lNil))))) (eC (.int 3)))) (sSeq (sIf (bCmp eqB (eV 3) (eC (.int 0))) (sSeq (sSet 2 (eB2 addR (eSl (eV 2) (oSome (eC (.int 1))) oNone) (eSl (eV 2) oNone (oSome (eC (.int 1)))))) sNx) sNx) (sSeq (sIf (bCmp eqB (eV 3) (eC (.int 1))) (sSeq (sSet 2 (eSl (eV 2) oNone (oSome (eC (.int 2))))) sNx) sNx) (sSeq (sIf (bCmp eqB (eV 3) (eC (.int 2))) (sSeq (sSet 2 (eB2 addR (eV 2) (eNew (lLst (lCons (eTup lNil) lNil))))) sNx) sNx) (sSeq (sIf (bCmp eqB (eV 3) (eC (.int 3))) (sSeq (sPut putL (eV 2) (eV 4) (eA tupQ (lSorted (lSeq (eB2 addR (eNew (lMap (fun _ ds => some ds) (lSeq (eSl (eB2 ixR (eV 2) (eV 4)) (oSome (eC (.int 1))) oNone)))) (eNew (lLst (lCons (eB2 ixR (eB2 ixR (eV 2) (eV 5)) (eC (.int 0))) lNil)))))))) sNx) sNx) (sSeq (sIf (bOr (bCmp eqB (eV 3) (eC (.int 4))) (bCmp eqB (eV 3) (eC (.int 5)))) (sSeq (sPut putL (eV 2) (eV 4) (eCall 208 (lCons (eV 0) (lCons (eB2 ixR (eV 2) (eV 4)) (lCons (eA sumQ (lSeq (eV 1))) lNil))))) sNx) sNx) (sSeq (sIf (bCmp eqB (eV 3) (eC (.int 6))) (sSeq (sRet (eV 2)) sNx) sNx) (sSeq (sRet (eA tupQ (lSeq (eV 2)))) sNx))))))))))) }
/-- _law_same -/
noncomputable def fd_law_same : FD := { np := 2, nl := 3, body := (sSeq (sIf (bCmp isB (eV 1) (eC .non)) (sSeq (sRet (eB2 (cB isB) (eV 0) (eC .non))) sNx) sNx) (sSeq (sIf (bCmp isB (eV 1) (eC (.bl true))) (sSeq (sRet (eB2 (cB isB) (eV 0) (eC (.bl true)))) sNx) sNx) (sSeq (sIf (bCmp isB (eV 1) (eC (.bl false))) (sSeq (sRet (eB2 (cB isB) (eV 0) (eC (.bl false)))) sNx) sNx) (sSeq (sIf (bOf (eU1 (isiR .int) (eV 1))) (sSeq (sRet (eAnd (eU1 (isiR .int) (eV 0)) (eAnd (eNot (eU1 (isiR .bool) (eV 0))) (eB2 (cB eqB) (eV 0) (eV 1))))) sNx) sNx) (sSeq (sIf (bOf (eU1 (isiR .str) (eV 1))) (sSeq (sRet (eAnd (eU1 (isiR .str) (eV 0)) (eB2 (cB eqB) (eV 0) (eV 1)))) sNx) sNx) (sSeq (sIf (bAnd (bOf (eU1 (isiR .tup) (eV 1))) (bNot (bOf (eU1 (isiR .tup) (eV 0))))) (sSeq (sRet (eC (.bl false))) sNx) sNx) (sSeq (sIf (bAnd (bOf (eU1 (isiR .lst) (eV 1))) (bNot (bOf (eU1 (isiR .lst) (eV 0))))) (sSeq (sRet (eC (.bl false))) sNx) sNx) (sSeq (sIf (bCmp neB (eU1 lenR (eV 0)) (eU1 lenR (eV 1))) (sSeq (sRet (eC (.bl false))) sNx) sNx) (sSeq (sFor (siR1 (lCons (eU1 lenR (eV 1)) lNil)) (gN 2) (sSeq (sIf (bNot (bOf (eCall 8 (lCons (eB2 ixR (eV 0) (eV 2)) (lCons (eB2 ixR (eV 1) (eV 2)) lNil))))) (sSeq (sRet (eC (.bl false))) sNx) sNx) sNx)) (sSeq (sRet (eC (.bl true))) sNx)))))))))) }
/-- is_integer -/
noncomputable def fd_is_integer : FD := { np := 1, nl := 1, body := (sSeq (sRet (eAnd (eU1 (isiR .int) (eV 0)) (eNot (eU1 (isiR .bool) (eV 0))))) sNx) }
/-- is_setting -/
noncomputable def fd_is_setting : FD := { np := 1, nl := 2, body := (sSeq (sIf (bOr (bNot (bOf (eU1 (isiR .tup) (eV 0)))) (bCmp neB (eU1 lenR (eV 0)) (eC (.int 3)))) (sSeq (sRet (eC (.bl false))) sNx) sNx) (sSeq (sFor (siOf (eV 0)) (gN 1) (sSeq (sIf (bOr (bNot (bOf (eCall 0 (lCons (eV 1) lNil)))) (bCmp ltD (eV 1) (eC (.int 1)))) (sSeq (sRet (eC (.bl false))) sNx) sNx) sNx)) (sSeq (sRet (eB2 (cB leD) (eA sumQ (lSeq (eV 0))) (eC (.int 13)))) sNx))) }
/-- check_setting -/
noncomputable def fd_check_setting : FD := { np := 1, nl := 1, body := (sSeq (sIf (bNot (bOf (eCall 1 (lCons (eV 0) lNil)))) (sSeq (sRaise 1) sNx) sNx) sNx) }
/-- is_row -/
noncomputable def fd_is_row : FD := { np := 2, nl := 4, body := (sSeq (sIf (bNot (bOf (eU1 (isiR .tup) (eV 0)))) (sSeq (sRet (eC (.bl false))) sNx) sNx) (sSeq (sSet 2 (eU1 negR (eC (.int 1)))) (sSeq (sFor (siOf (eV 0)) (gN 3) (sSeq (sIf (bOr (bNot (bOf (eCall 0 (lCons (eV 3) lNil)))) (bOr (bCmp leD (eV 3) (eV 2)) (bCmp geD (eV 3) (eV 1)))) (sSeq (sRet (eC (.bl false))) sNx) sNx) (sSeq (sSet 2 (eV 3)) sNx))) (sSeq (sRet (eC (.bl true))) sNx)))) }
/-- is_hand -/
noncomputable def fd_is_hand : FD := { np := 2, nl := 2, body := (sSeq (sExp (eCall 2 (lCons (eV 0) lNil))) (sSeq (sRet (eAnd (eCall 15 (lCons (eV 1) (lCons (eA sumQ (lSeq (eV 0))) lNil))) (eB2 (cB eqB) (eU1 lenR (eV 1)) (eB2 ixR (eV 0) (eC (.int 0)))))) sNx)) }
/-- _law_is_row -/
noncomputable def fd_law_is_row : FD := { np := 3, nl := 5, body := (sSeq (sIf (bOr (bNot (bOf (eU1 (isiR .tup) (eV 0)))) (bCmp neB (eU1 lenR (eV 0)) (eV 1))) (sSeq (sRet (eC (.bl false))) sNx) sNx) (sSeq (sSet 3 (eC (.int 0))) (sSeq (sFor (siOf (eV 0)) (gN 4) (sSeq (sIf (bOr (bOf (eU1 (isiR .bool) (eV 4))) (bOr (bNot (bOf (eU1 (isiR .int) (eV 4)))) (bOr (bCmp ltD (eV 4) (eV 3)) (bCmp geD (eV 4) (eV 2))))) (sSeq (sRet (eC (.bl false))) sNx) sNx) (sSeq (sSet 3 (eB2 addR (eV 4) (eC (.int 1)))) sNx))) (sSeq (sRet (eC (.bl true))) sNx)))) }
/-- is_deal -/
noncomputable def fd_is_deal : FD := { np := 2, nl := 5, body := (sSeq (sExp (eCall 2 (lCons (eV 0) lNil))) (sSeq (sIf (bOr (bNot (bOf (eU1 (isiR .tup) (eV 1)))) (bCmp neB (eU1 lenR (eV 1)) (eC (.int 3)))) (sSeq (sRet (eC (.bl false))) sNx) sNx) (sSeq (sSet 2 (eA sumQ (lSeq (eV 0)))) (sSeq (sFor (siZip (kOf (eV 1)) (kOf (eV 0))) (gTup [(gN 3), (gN 4)]) (sSeq (sIf (bOr (bNot (bOf (eCall 15 (lCons (eV 3) (lCons (eV 2) lNil))))) (bCmp neB (eU1 lenR (eV 3)) (eV 4))) (sSeq (sRet (eC (.bl false))) sNx) sNx) sNx)) (sSeq (sRet (eB2 (cB eqB) (eU1 lenSetR (eB2 addR (eB2 addR (eB2 ixR (eV 1) (eC (.int 0))) (eB2 ixR (eV 1) (eC (.int 1)))) (eB2 ixR (eV 1) (eC (.int 2))))) (eV 2))) sNx))))) }
/-- _law_is_deal -/
noncomputable def fd_law_is_deal_v2 : FD := { np := 2, nl := 4, body := (sSeq (sIf (bOr (bNot (bOf (eU1 (isiR .tup) (eV 0)))) (bCmp neB (eU1 lenR (eV 0)) (eC (.int 3)))) (sSeq (sRet (eC (.bl false))) sNx) sNx) (sSeq (sSet 2 (eNew (lLst lNil))) (sSeq (sFor (siR1 (lCons (eC (.int 3)) lNil)) (gN 3) (sSeq (sIf (bNot (bOf (eCall 158 (lCons (eB2 ixR (eV 0) (eV 3)) (lCons (eB2 ixR (eV 1) (eV 3)) (lCons (eA sumQ (lSeq (eV 1))) lNil)))))) (sSeq (sRet (eC (.bl false))) sNx) sNx) (sSeq (sSet 2 (eB2 addR (eV 2) (eNew (lMap (fun _ ds => some ds) (lSeq (eB2 ixR (eV 0) (eV 3))))))) sNx))) (sSeq (sRet (eB2 (cB eqB) (eNew (lSorted (lSeq (eV 2)))) (eNew (lRng (eA sumQ (lSeq (eV 1))))))) sNx)))) }
/-- law -/
noncomputable def fd_law_v42 : FD := { np := 1, nl := 7, body := (sSeq (sSet 1 (eCall 6 (lCons (eV 0) lNil))) (sSeq (sFor (siR1 (lCons (eB2 addR (eC (.int 1)) (eA min2 (lCons (eC (.int 3)) (lCons (eB2 divR (eU1 lenR (eV 0)) (eC (.int 6))) lNil)))) lNil)) (gN 2) (sSeq (sSet 3 (eCall 9 (lCons (eV 1) lNil))) (sSeq (sSet 4 (eCall 208 (lCons (eV 1) (lCons (eB2 ixR (eCall 209 (lCons (eV 1) (lCons (eV 3) lNil))) (eC (.int 0))) (lCons (eA sumQ (lSeq (eV 3))) lNil))))) (sSeq (sSet 5 (eCall 210 (lCons (eV 1) (lCons (eV 3) lNil)))) (sSeq (sFor (siR1 (lCons (eC (.int 2)) lNil)) (gN 6) (sSeq (sIf (bNot (bOf (eCall 8 (lCons (eCall 16 (lCons (eV 3) (lCons (eV 4) lNil))) (lCons (eCall 158 (lCons (eV 4) (lCons (eB2 ixR (eV 3) (eC (.int 0))) (lCons (eA sumQ (lSeq (eV 3))) lNil)))) lNil))))) (sSeq (sRet (eC (.bl false))) sNx) sNx) (sSeq (sIf (bNot (bOf (eCall 8 (lCons (eCall 211 (lCons (eV 3) (lCons (eV 5) lNil))) (lCons (eCall 212 (lCons (eV 5) (lCons (eV 3) lNil))) lNil))))) (sSeq (sRet (eC (.bl false))) sNx) sNx) sNx))) sNx))))) (sSeq (sRet (eC (.bl true))) sNx))) }
abbrev n_law_source : Nat := 6
abbrev n_law_pick : Nat := 7
abbrev n_law_any_setting : Nat := 9
abbrev n_law_bad_row : Nat := 148
abbrev n_law_spoilt : Nat := 208
abbrev n_law_rows_of : Nat := 209
abbrev n_law_deal : Nat := 210
abbrev n_law_same : Nat := 8
abbrev n_is_integer : Nat := 0
abbrev n_is_setting : Nat := 1
abbrev n_check_setting : Nat := 2
abbrev n_is_row : Nat := 15
abbrev n_is_hand : Nat := 16
abbrev n_law_is_row : Nat := 158
abbrev n_is_deal : Nat := 211
abbrev n_law_is_deal_v2 : Nat := 212
abbrev n_law_v42 : Nat := 213
noncomputable def Tbl : Nat → FD
  | 6 => fd_law_source
  | 7 => fd_law_pick
  | 9 => fd_law_any_setting
  | 148 => fd_law_bad_row
  | 208 => fd_law_spoilt
  | 209 => fd_law_rows_of
  | 210 => fd_law_deal
  | 8 => fd_law_same
  | 0 => fd_is_integer
  | 1 => fd_is_setting
  | 2 => fd_check_setting
  | 15 => fd_is_row
  | 16 => fd_is_hand
  | 158 => fd_law_is_row
  | 211 => fd_is_deal
  | 212 => fd_law_is_deal_v2
  | 213 => fd_law_v42
  | _ => ⟨0, 0, sNx⟩
/-- the law's source of numbers: at most N were drawn -/
structure Src (st : Sto) (s N : Nat) : Prop where
  ex : ∃ (c : Nat) (xs : List Int) (pos : Nat) (left step stir : Int), st[s]? = some (.lst [.ref c, .int pos, .int left, .int step, .int stir]) ∧ lstAt st c = some (xs.map D.int) ∧ c < s ∧
    pos ≤ xs.length ∧ 0 ≤ left ∧ 0 ≤ step ∧ step ≤ N ∧ 0 ≤ stir ∧ stir < 1000000007
theorem lstAt_of {st : Sto} {i : Nat} {ds : List D} (h : st[i]? = some (.lst ds)) : lstAt st i = some ds := by unfold lstAt; rw [h]
theorem putL_ref {st : Sto} {a : Nat} {k : Int} {v : D} : putL st (.ref a) (.int k) v = match lstAt st a with
    | some ds => (L2.ixN ds.length k).map fun j => st.set a (.lst (ds.set j v))
    | none => none := rfl
theorem pick_spec (k : Nat) {st : Sto} {s N : Nat} {m : Int} (h : Src st s N) (hN : N < 10000000) (h0 : 0 < m) (h1 : m < 1073741824) :
    ∃ r c, callN Tbl (k + 1) n_law_pick [.ref s, .int m] st = .ok (.int r) (st.set s c) ∧ 0 ≤ r ∧ r < m ∧ Src (st.set s c) s (N + 1) := by
  obtain ⟨c, xs, pos, left, step, stir, e1, e2, hc, p1, l0, s0, s1, t0, t1⟩ := h.ex
  have hs : s < st.length := (List.getElem?_eq_some_iff.mp e1).1
  have g1 := lstAt_of e1
  have ls : ∀ L : List D, lstAt (st.set s (.lst L)) s = some L := fun L => lstAt_set hs
  have lc : ∀ L : List D, lstAt (st.set s (.lst L)) c = some (xs.map D.int) := fun L => (lstAt_set_ne (Nat.ne_of_lt hc)).trans e2
  have key : ∀ (pos' : Nat) (left' stir' : Int), pos' ≤ xs.length → 0 ≤ left' → 0 ≤ stir' → stir' < 1000000007 → Src (st.set s (.lst [.ref c, .int pos', .int left', .int (step + 1), .int stir'])) s (N + 1) := fun pos' left' stir' a1 a2 a3 a4 =>
    ⟨c, xs, pos', left', step + 1, stir', by simp [hs], lc _, hc, a1, a2, by omega, by omega, a3, a4⟩
  have fin : ∀ (L : List D) (d : D), gc st d (st.set s (.lst L)) = gc st d (st.set s (.lst L)) := fun _ _ => rfl
  rw [run_eq (Tbl := Tbl) (f := n_law_pick) rfl rfl]
  have m0 : ∀ t : Int, 0 ≤ t → t < 1000000007 → mulOk t 31 = true := fun t a b => mulOk_l (by omega) (by omega)
  have m1 : mulOk 613 (step + 1) = true := mulOk_l (by omega) (by omega)
  have m2 : mulOk (613 * (step + 1)) (step + 1) = true := mulOk_r (by omega) (by omega)
  have q1 : 613 * (step + 1) * (step + 1) ≤ 6130000000 * 10000000 := Int.mul_le_mul (by omega) (by omega) (by omega) (by omega)
  have q0 : 0 ≤ 613 * (step + 1) * (step + 1) := Int.mul_nonneg (by omega) (by omega)
  have m3 : ∀ t : Int, 0 ≤ t → t < 1000000007 → mulOk (t + 613 * (step + 1) * (step + 1) + 29) (t + 613 * (step + 1) * (step + 1) + 29) = true := fun t a b => mulOk_l (by omega) (by omega)
  have m4 : ∀ t : Int, mulOk 8191 t = true := fun t => mulOk_l (by omega) (by omega)
  have m5 : ∀ t u : Int, mulOk (t % 1000003937 + (step + 1)) u = true := fun t u => by
    have a := Int.emod_nonneg t (show (1000003937 : Int) ≠ 0 by decide)
    have b := Int.emod_lt_of_pos t (show (0 : Int) < 1000003937 by decide)
    exact mulOk_l (by omega) (by omega)
  have g0 : ∀ p l t u v : Int, gc st (.int v) (st.set s (.lst [.ref c, .int p, .int l, .int t, .int u])) = .ok (.int v) (st.set s (.lst [.ref c, .int p, .int l, .int t, .int u])) := fun p l t u v => by
    have := gc_set (st := st) (g := []) (i := s) (c := .lst [.ref c, .int p, .int l, .int t, .int u]) (d := .int v) (by simp; omega) rfl
    rwa [List.append_nil] at this
  have r0 : ∀ t : Int, 0 ≤ t % m := fun t => Int.emod_nonneg t (by omega)
  have r1 : ∀ t : Int, t % m < m := fun t => Int.emod_lt_of_pos t h0
  by_cases a : left = 0 ∧ pos < xs.length
  · obtain ⟨rfl, a2⟩ := a
    by_cases b : 1000000000000000000 ≤ xs[pos]
    · have b2 : 0 < xs[pos] := by omega
      simp [g1, putL_ref, ls, lc, L2.ixN, atI_nat, a2, b, hs, h0, h1, divOk_of h0 h1, b2]
      exact ⟨_, _, g0 _ _ _ _ _, r0 _, r1 _, key (pos + 1) _ _ (by omega) (Int.ediv_nonneg (by omega) (by omega)) t0 t1⟩
    · have v0 := Int.emod_nonneg (stir * 31 + xs[pos] + 17) (show (1000000007 : Int) ≠ 0 by decide)
      have v1 := Int.emod_lt_of_pos (stir * 31 + xs[pos] + 17) (show (0 : Int) < 1000000007 by decide)
      simp [g1, putL_ref, ls, lc, L2.ixN, atI_nat, a2, b, hs, m0 _ t0 t1, m1, m2, m3 _ v0 v1, m4, m5, h0, divOk_of (j := 5) (by decide) (by decide)]
      exact ⟨_, _, g0 _ _ _ _ _, r0 _, r1 _, key (pos + 1) _ _ (by omega) (by omega) v0 v1⟩
  · by_cases b : 0 < left
    · have b' : left ≠ 0 := by omega
      simp [g1, putL_ref, ls, lc, L2.ixN, atI_nat, b, b', hs, h0, h1, divOk_of h0 h1]
      exact ⟨_, _, g0 _ _ _ _ _, r0 _, r1 _, key pos _ _ p1 (Int.ediv_nonneg (by omega) (by omega)) t0 t1⟩
    · have b' : left = 0 := by omega
      subst b'
      have a' : ¬ pos < xs.length := fun e => a ⟨rfl, e⟩
      simp [g1, putL_ref, ls, lc, L2.ixN, atI_nat, a', hs, m1, m2, m3 _ t0 t1, m4, m5, h0, divOk_of (j := 5) (by decide) (by decide)]
      exact ⟨_, _, g0 _ _ _ _ _, r0 _, r1 _, key pos _ _ p1 (by omega) t0 t1⟩

theorem forGo_inv {src : List (Nat × List D)} {g : SG} {b : SS} {C : Call} (I : Nat → Env → Sto → Prop) : ∀ (ds : List D) (n : Nat),
    (∀ (i : Nat) (d : D), ds[i]? = some d → ∀ env st, I (n + i) env st → good src st = true ∧ ∃ env', g d env = some env' ∧ ∃ env2 st2, b C env' st = .nx env2 st2 ∧ I (n + i + 1) env2 st2) →
    (∀ env st, I (n + ds.length) env st → good src st = true) → ∀ env st, I n env st → ∃ env2 st2, forGo src g b C ds env st = .nx env2 st2 ∧ I (n + ds.length) env2 st2
  | [], n, _, he, env, st, h => ⟨env, st, by simp [forGo, he env st h], h⟩
  | d :: ds, n, hs, he, env, st, h => by
    obtain ⟨g0, env', g1, env2, st2, b1, i1⟩ := hs 0 d rfl env st h
    obtain ⟨env3, st3, r1, r2⟩ := forGo_inv I ds (n + 1) (fun i d' hd env st hi => by
      have := hs (i + 1) d' (by simpa using hd) env st (by rwa [show n + (i + 1) = n + 1 + i by omega])
      rwa [show n + (i + 1) + 1 = n + 1 + i + 1 by omega] at this) (fun env st hi => he env st (by rwa [List.length_cons, show n + (ds.length + 1) = n + 1 + ds.length by omega])) env2 st2 i1
    refine ⟨env3, st3, ?_, by rwa [List.length_cons, show n + (ds.length + 1) = n + 1 + ds.length by omega]⟩
    unfold forGo
    simp [g0, g1, b1, r1]
theorem rngItem {n i : Nat} {d : D} (h : ((List.range n).map fun (i : Nat) => D.int (i : Int))[i]? = some d) : i < n ∧ d = .int i := by
  rw [List.getElem?_map] at h
  by_cases hi : i < n
  · rw [List.getElem?_range hi] at h
    simp at h
    exact ⟨hi, h.symm⟩
  · rw [List.getElem?_eq_none (by simpa using hi)] at h
    cases h
theorem source_spec (k : Nat) (ns : List Int) : ∃ s st, callN Tbl (k + 1) n_law_source [.scr (ns.map D.int)] [] = .ok (.ref s) st ∧ Src st s 0 := by
  refine ⟨1, [.lst (ns.map D.int), .lst [.ref 0, .int 0, .int 0, .int 0, .int 0]], ?_, ⟨0, ns, 0, 0, 0, 0, rfl, rfl, by decide, by omega, by omega, by omega, by omega, by omega, by omega⟩⟩
  rw [run_eq (Tbl := Tbl) (f := n_law_source) rfl rfl]
  have h5 : 5 ≤ sizeLine := small_size (by decide)
  have e : ∀ st' : Sto, gc [] (.ref 1) [.lst (ns.map D.int), .lst [.ref 0, .int 0, .int 0, .int 0, .int 0]] = .ok (.ref 1) [.lst (ns.map D.int), .lst [.ref 0, .int 0, .int 0, .int 0, .int 0]] := fun _ => by
    unfold gc
    rw [if_pos (show OldOk [] _ from fun i c hi => absurd hi (by simp))]
    simp
  simp [h5]
  exact e []
theorem any_setting_spec (k : Nat) {st : Sto} {s N : Nat} (h : Src st s N) (hN : N + 3 < 10000000) :
    ∃ (a b c : Int) (l : Cell), callN Tbl (k + 2) n_law_any_setting [.ref s] st = .ok (.tup [.int a, .int b, .int c]) (st.set s l) ∧ 1 ≤ a ∧ 1 ≤ b ∧ 1 ≤ c ∧ a + b + c ≤ 13 ∧ Src (st.set s l) s (N + 3) := by
  obtain ⟨r1, c1, e1, p1, q1, s1⟩ := pick_spec k h (m := 11) (by omega) (by omega) (by omega)
  obtain ⟨r2, c2, e2, p2, q2, s2⟩ := pick_spec k s1 (m := 12 - (1 + r1)) (by omega) (by omega) (by omega)
  obtain ⟨r3, c3, e3, p3, q3, s3⟩ := pick_spec k s2 (m := 13 - (1 + r1) - (1 + r2)) (by omega) (by omega) (by omega)
  simp only [List.set_set] at e2 e3 s2 s3
  have h3 : 3 ≤ sizeLine := small_size (by decide)
  refine ⟨1 + r1, 1 + r2, 1 + r3, c3, ?_, by omega, by omega, by omega, by omega, s3⟩
  rw [run_eq (Tbl := Tbl) (f := n_law_any_setting) rfl rfl]
  simp [e1, e2, e3, h3]
  have hs : s < st.length := by
    obtain ⟨c, xs, pos, left, step, stir, e1, _⟩ := h.ex
    exact (List.getElem?_eq_some_iff.mp e1).1
  have hc : c3.lo st.length = true := by
    obtain ⟨c, xs, pos, left, step, stir, e1, _, hc, _⟩ := s3.ex
    simp [hs] at e1
    rw [e1]; simp; omega
  have := gc_set (st := st) (g := []) (i := s) (c := c3) (d := .tup [.int (1 + r1), .int (1 + r2), .int (1 + r3)]) hc (by simp)
  rwa [List.append_nil] at this
theorem same_bl (k : Nat) {st : Sto} (a b : Bool) : callN Tbl (k + 1) n_law_same [.bl a, .bl b] st = .ok (.bl (a == b)) st := by
  rw [run_eq (Tbl := Tbl) (f := n_law_same) rfl rfl]
  cases a <;> cases b <;> simp
theorem isint_int (k : Nat) {st : Sto} (a : Int) : callN Tbl (k + 1) n_is_integer [.int a] st = .ok (.bl true) st := by
  rw [run_eq (Tbl := Tbl) (f := n_is_integer) rfl rfl]
  simp
theorem setting_ok (k : Nat) {st : Sto} (a b c : Int) (ha : 1 ≤ a) (hb : 1 ≤ b) (hc : 1 ≤ c) (h : a + b + c ≤ 13) : callN Tbl (k + 2) n_is_setting [.tup [.int a, .int b, .int c]] st = .ok (.bl true) st := by
  rw [run_eq (Tbl := Tbl) (f := n_is_setting) rfl rfl]
  have ha' : ¬ a < 1 := by omega
  have hb' : ¬ b < 1 := by omega
  have hc' : ¬ c < 1 := by omega
  simp [forGo, isint_int, ha', hb', hc', sumQ, intsOf]
  omega
theorem check_ok (k : Nat) {st : Sto} (a b c : Int) (ha : 1 ≤ a) (hb : 1 ≤ b) (hc : 1 ≤ c) (h : a + b + c ≤ 13) : callN Tbl (k + 3) n_check_setting [.tup [.int a, .int b, .int c]] st = .ok .non st := by
  rw [run_eq (Tbl := Tbl) (f := n_check_setting) rfl rfl]
  simp [setting_ok k a b c ha hb hc h]
theorem gc_bl (st st' : Sto) (b : Bool) : ∃ s, gc st (.bl b) st' = .ok (.bl b) s := by
  unfold gc
  split
  · exact ⟨_, if_pos rfl⟩
  · exact ⟨_, rfl⟩
def tyOk (st : Sto) (d : D) : Prop := (∃ t, tyOf st d = some t) ∧ ∀ ds, d = .tup ds → ∀ x, x ∈ ds → ∃ t, tyOf st x = some t
theorem isint_any (k : Nat) {st : Sto} {d : D} {t : Ty} (h : tyOf st d = some t) : callN Tbl (k + 1) n_is_integer [d] st = .ok (.bl (decide (t = .int))) st := by
  rw [run_eq (Tbl := Tbl) (f := n_is_integer) rfl rfl]
  simp [h]
  cases t <;> simp
theorem tyInt {st : Sto} {d : D} (h : tyOf st d = some .int) : ∃ i, d = .int i := by
  cases d with
  | int i => exact ⟨i, rfl⟩
  | ref a =>
    simp only [tyOf] at h
    split at h <;> cases h
  | _ => cases h
theorem tyTup {st : Sto} {d : D} (h : tyOf st d = some .tup) : ∃ ds, d = .tup ds := by
  cases d with
  | tup ds => exact ⟨ds, rfl⟩
  | ref a =>
    simp only [tyOf] at h
    split at h <;> cases h
  | _ => cases h
theorem lcGo_nil {src : List (Nat × List D)} {g : SG} {c : SB} {e : SE} {C : Call} {env : Env} {acc : List D} {st : Sto} : lcGo src g c e C env [] acc st = if good src st then .ok acc st else .stuck := rfl
theorem lcGo_cons {src : List (Nat × List D)} {g : SG} {c : SB} {e : SE} {C : Call} {env : Env} {d : D} {ds acc : List D} {st : Sto} : lcGo src g c e C env (d :: ds) acc st = if good src st then
      match g d env with
      | none => .stuck
      | some env' => (c C env' st).noX.bind fun t st => if t then (e C env' st).noX.bind fun x st => lcGo src g c e C env ds (acc ++ [x]) st else lcGo src g c e C env ds acc st
    else .stuck := rfl
theorem Src.app {st : Sto} {s N : Nat} (h : Src st s N) (g : Sto) : Src (st ++ g) s N := by
  obtain ⟨c, xs, pos, left, step, stir, e1, e2, hc, p⟩ := h.ex
  have hs : s < st.length := (List.getElem?_eq_some_iff.mp e1).1
  exact ⟨c, xs, pos, left, step, stir, by rw [List.getElem?_append_left hs]; exact e1, by rw [lstAt_app (by omega)]; exact e2, hc, p⟩
theorem Src.lt {st : Sto} {s N : Nat} (h : Src st s N) : s < st.length := by
  obtain ⟨c, xs, pos, left, step, stir, e1, _⟩ := h.ex
  exact (List.getElem?_eq_some_iff.mp e1).1
theorem Src.mono {st : Sto} {s N M : Nat} (h : Src st s N) (hm : N ≤ M) : Src st s M := by
  obtain ⟨c, xs, pos, left, step, stir, e1, e2, hc, p1, l0, s0, s1, p⟩ := h.ex
  exact ⟨c, xs, pos, left, step, stir, e1, e2, hc, p1, l0, s0, by omega, p⟩
@[simp] theorem bTrue_ap' {C : Call} {env : Env} {st : Sto} : bTrue C env st = .ok true st := rfl
@[simp] theorem wipeE_nil {env : Env} : wipeE env [] = env := rfl
@[simp] theorem wipeE_cons {env : Env} {v : Nat} {vs : List Nat} : wipeE env (v :: vs) = (wipeE env vs).set v none := rfl
theorem Src.lo {st : Sto} {s N : Nat} {c : Cell} (h : Src (st.set s c) s N) (hs : s < st.length) : c.lo st.length = true := by
  obtain ⟨a, xs, pos, left, step, stir, e1, _, hc, _⟩ := h.ex
  simp [hs] at e1
  rw [e1]; simp; omega
theorem sz {n : Nat} (h : n ≤ 100) : n ≤ sizeLine := small_size (by omega)
inductive Seq (st : Sto) : D → List D → Prop
  | tup (ds : List D) : Seq st (.tup ds) ds
  | scr (ds : List D) : Seq st (.scr ds) ds
  | ref (i : Nat) (ds : List D) : lstAt st i = some ds → Seq st (.ref i) ds
theorem Seq.app {st : Sto} {x : D} {ds : List D} (hs : Seq st x ds) (g : Sto) : Seq (st ++ g) x ds := by
  cases hs with
  | tup => exact .tup _
  | scr => exact .scr _
  | ref j ds h => exact .ref j ds (by rw [lstAt_app (lstAt_lt h)]; exact h)
theorem Seq.lt {st : Sto} {x : D} {ds : List D} (hs : Seq st x ds) {j : Nat} (e : x = .ref j) : j < st.length := by
  subst e
  cases hs with
  | ref i ds h => exact lstAt_lt h
theorem appendR_ref {st : Sto} {i : Nat} {L : List D} {y : D} (h : lstAt st i = some L) (hz : L.length < sizeLine) : appendR st (.ref i) [y] = .ok .non (st.set i (.lst (L ++ [y]))) := by
  unfold appendR mutL
  simp [h, hz]
theorem forGo_step {src : List (Nat × List D)} {g : SG} {b : SS} {C : Call} {d : D} {ds : List D} {env env' env2 : Env} {st st2 : Sto} (h : good src st = true) (hg : g d env = some env') (hb : b C env' st = .nx env2 st2) : forGo src g b C (d :: ds) env st = forGo src g b C ds env2 st2 := by
  rw [forGo]; simp [h, hg, hb]
theorem loL_rows (n : Nat) : ∀ rows : List (List Int), D.loL n (rows.map dT) = true
  | [] => rfl
  | r :: rows => by simp [loL_rows n rows]
theorem lstAt_add (st G : Sto) (x : Nat) : lstAt (st ++ G) (st.length + x) = lstAt G x := by
  unfold lstAt
  rw [List.getElem?_append_right (by omega), Nat.add_sub_cancel_left]
theorem lstAt_len (st G : Sto) : lstAt (st ++ G) st.length = lstAt G 0 := lstAt_add st G 0
/-- a comprehension whose steps change nothing -/
theorem lcGo_of {α : Type} {src : List (Nat × List D)} {g : SG} {c : SB} {e : SE} {C : Call} {env : Env} {st : Sto} (h : α → D) (p : α → Bool) (F : α → D) (hg : good src st = true) : ∀ (l : List α) (acc : List D),
    (∀ a, a ∈ l → ∃ env', g (h a) env = some env' ∧ c C env' st = .ok (p a) st ∧ (p a = true → e C env' st = .ok (F a) st)) → lcGo src g c e C env (l.map h) acc st = .ok (acc ++ (l.filter p).map F) st
  | [], acc, _ => by simp [lcGo_nil, hg]
  | d :: ds, acc, q => by
    obtain ⟨env', h1, h2, h3⟩ := q d List.mem_cons_self
    rw [List.map_cons, lcGo_cons]
    by_cases hp : p d = true
    · simp [hg, h1, h2, hp, h3 hp, lcGo_of h p F hg ds (acc ++ [F d]) fun d' hd => q d' (List.mem_cons_of_mem _ hd)]
    · simp [hg, h1, h2, hp, lcGo_of h p F hg ds acc fun d' hd => q d' (List.mem_cons_of_mem _ hd)]
theorem filter_true {α : Type} (l : List α) : l.filter (fun _ => true) = l := List.filter_eq_self.mpr fun _ _ => rfl
def iota (n : Nat) : List Int := (List.range n).map fun (i : Nat) => (i : Int)
theorem rgD_iota (n : Nat) : rgD (n : Int) = (iota n).map D.int := by
  unfold rgD iota
  rw [List.map_map]
  rfl
theorem iota_asc (n : Nat) : Asc (iota n) := by
  unfold iota
  exact List.pairwise_map.mpr (List.pairwise_lt_range.imp fun h => by omega)
theorem iota_len (n : Nat) : (iota n).length = n := by simp [iota]
theorem mem_iota {n : Nat} {x : Int} : x ∈ iota n ↔ 0 ≤ x ∧ x < n := by
  unfold iota
  rw [List.mem_map]
  constructor
  · rintro ⟨i, hi, rfl⟩
    have := List.mem_range.mp hi
    omega
  · intro h
    exact ⟨x.toNat, List.mem_range.mpr (by omega), by omega⟩
/-- all hands of a setting -/
def hands (a b c : Nat) : List (List Int) := combs a (iota (a + b + c))
abbrev setD (a b c : Nat) : D := .tup [.int a, .int b, .int c]
theorem sum3 {st : Sto} (a b c : Nat) : sumQ st [.int a, .int b, .int c] = .ok (.int ((a + b + c : Nat) : Int)) st := by
  simp [sumQ, intsOf, Int.add_assoc]
theorem cut_drop (ds : List D) (k : Nat) : cutD ds (some (k : Int)) none = ds.drop k := by
  unfold cutD
  rw [HT.sIx_nat, HT.sIx_none]
  by_cases h : k ≤ ds.length
  · rw [Nat.min_eq_left h, List.take_of_length_le (by simp)]
  · rw [Nat.min_eq_right (by omega), List.drop_length, List.drop_eq_nil_of_le (by omega)]; simp
theorem cut_take (ds : List D) (k : Nat) : cutD ds none (some (k : Int)) = ds.take k := by
  unfold cutD
  rw [HT.sIx_nat, HT.sIx_none, Nat.sub_zero, List.drop_zero]
  by_cases h : k ≤ ds.length
  · rw [Nat.min_eq_left h]
  · rw [Nat.min_eq_right (by omega), List.take_of_length_le (Nat.le_refl _), List.take_of_length_le (by omega)]
/-- a setting, in numbers -/
structure Stg (a b c n : Nat) : Prop where
  a1 : 1 ≤ a
  b1 : 1 ≤ b
  c1 : 1 ≤ c
  sum : a + b + c = n
  le : n ≤ 13
theorem Stg.chk {a b c n : Nat} (h : Stg a b c n) (k : Nat) (st : Sto) : callN Tbl (k + 3) n_check_setting [setD a b c] st = .ok .non st :=
  check_ok k (st := st) a b c (by have := h.a1; omega) (by have := h.b1; omega) (by have := h.c1; omega) (by have := h.sum; have := h.le; omega)
theorem Stg.sm {a b c n : Nat} (h : Stg a b c n) (st : Sto) : sumQ st [.int a, .int b, .int c] = .ok (.int n) st := by
  rw [sum3, h.sum]
def rowB (total : Int) : Int → List D → Bool
  | _, [] => true
  | last, .int i :: ds => decide (last < i) && decide (i < total) && rowB total i ds
  | _, _ :: _ => false
def isRowD (total : Int) : D → Bool
  | .tup ds => rowB total (-1) ds
  | _ => false
abbrev rowBody : SS := (sSeq (sIf (bOr (bNot (bOf (eCall 0 (lCons (eV 3) lNil)))) (bOr (bCmp leD (eV 3) (eV 2)) (bCmp geD (eV 3) (eV 1)))) (sSeq (sRet (eC (.bl false))) sNx) sNx) (sSeq (sSet 2 (eV 3)) sNx))
theorem row_loop (k : Nat) {st : Sto} (total : Int) (x : Option D) : ∀ (ds : List D) (last : Int) (y : Option D), (∀ d, d ∈ ds → ∃ t, tyOf st d = some t) →
    if rowB total last ds then ∃ env2, forGo [] (gN 3) rowBody (callN Tbl (k + 1)) ds [x, some (.int total), some (.int last), y] st = .nx env2 st else forGo [] (gN 3) rowBody (callN Tbl (k + 1)) ds [x, some (.int total), some (.int last), y] st = .ret (.bl false) st
  | [], last, y, _ => by simp [rowB, forGo]
  | d :: ds, last, y, h => by
    obtain ⟨t, ht⟩ := h d List.mem_cons_self
    by_cases ei : t = .int
    · subst ei
      obtain ⟨i, rfl⟩ := tyInt ht
      by_cases h1 : last < i
      · by_cases h2 : i < total
        · have ih := row_loop k total x ds i (some (.int i)) fun d' hd => h d' (List.mem_cons_of_mem _ hd)
          have e1 : ¬ i ≤ last := by omega
          have e2 : ¬ total ≤ i := by omega
          have q : rowBody (callN Tbl (k + 1)) [x, some (.int total), some (.int last), some (.int i)] st = .nx [x, some (.int total), some (.int i), some (.int i)] st := by simp [isint_int, e1, e2]
          rw [forGo_step rfl rfl q]
          simp only [rowB, h1, h2, decide_true, Bool.true_and]
          exact ih
        · have e1 : ¬ i ≤ last := by omega
          have e2 : total ≤ i := by omega
          simp [rowB, h2, forGo, isint_int, e1, e2]
      · have e1 : i ≤ last := by omega
        simp [rowB, h1, forGo, isint_int, e1]
    · have : rowB total last (d :: ds) = false := by
        cases d <;> first | rfl | skip
        simp at ht; exact absurd ht.symm ei
      simp [this, forGo, isint_any k ht, ei]
theorem is_row_any (k : Nat) {st : Sto} {d : D} (total : Int) (h : tyOk st d) : callN Tbl (k + 2) n_is_row [d, .int total] st = .ok (.bl (isRowD total d)) st := by
  rw [run_eq (Tbl := Tbl) (f := n_is_row) rfl rfl]
  obtain ⟨⟨t, ht⟩, hx⟩ := h
  by_cases e : t = .tup
  · subst e
    obtain ⟨ds, rfl⟩ := tyTup ht
    have q := row_loop k total (some (.tup ds)) ds (-1) none (hx ds rfl)
    by_cases hb : rowB total (-1) ds = true
    · rw [if_pos hb] at q
      obtain ⟨env2, q⟩ := q
      simp [q, isRowD, hb]
    · rw [if_neg hb] at q
      simp [q, isRowD, hb]
  · have : isRowD total d = false := by
      cases d <;> first | rfl | skip
      simp at ht; exact absurd ht.symm e
    have e2 : subT t .tup = false := by cases t <;> first | rfl | exact absurd rfl e
    simp [ht, e2, this]
def isHandD (a n : Nat) : D → Bool
  | .tup ds => rowB n (-1) ds && decide (ds.length = a)
  | _ => false
theorem is_hand_any (k : Nat) {st : Sto} {d : D} {a b c n : Nat} (S : Stg a b c n) (h : tyOk st d) : callN Tbl (k + 4) n_is_hand [setD a b c, d] st = .ok (.bl (isHandD a n d)) st := by
  rw [run_eq (Tbl := Tbl) (f := n_is_hand) rfl rfl]
  have h1 := S.chk k st
  have h2 := is_row_any (k + 1) (n : Int) h
  by_cases hr : isRowD n d = true
  · cases d with
    | tup ds =>
      simp [isRowD] at hr
      simp [h1, S.sm, h2, isRowD, hr, isHandD]
      exact Int.ofNat_inj
    | _ => cases hr
  · have : isHandD a n d = false := by
      cases d with
      | tup ds => simp [isRowD] at hr; simp [isHandD, hr]
      | _ => rfl
    simp [h1, S.sm, h2, hr, this]
theorem rowB_ok {n : Nat} : ∀ {r : List Int} {last : Int}, Asc r → (∀ x, x ∈ r → last < x ∧ x < n) → rowB n last (r.map D.int) = true
  | [], _, _, _ => rfl
  | x :: r, last, h, hm => by
    obtain ⟨h1, h2⟩ := List.pairwise_cons.mp h
    have m := hm x List.mem_cons_self
    simp only [List.map_cons, rowB, m.1, m.2, decide_true, Bool.true_and]
    exact rowB_ok h2 fun y hy => ⟨h1 y hy, (hm y (List.mem_cons_of_mem _ hy)).2⟩
theorem rowB_back {n : Nat} : ∀ {ds : List D} {last : Int}, rowB n last ds = true → ∃ r : List Int, ds = r.map D.int ∧ Asc r ∧ ∀ x, x ∈ r → last < x ∧ x < n
  | [], _, _ => ⟨[], rfl, List.Pairwise.nil, fun x h => by cases h⟩
  | d :: ds, last, h => by
    cases d with
    | int i =>
      simp only [rowB, Bool.and_eq_true, decide_eq_true_eq] at h
      obtain ⟨r, rfl, h1, h2⟩ := rowB_back h.2
      refine ⟨i :: r, rfl, List.pairwise_cons.mpr ⟨fun y hy => (h2 y hy).1, h1⟩, fun y hy => ?_⟩
      rcases List.mem_cons.mp hy with rfl | hy
      · exact h.1
      · have := h2 y hy; omega
    | _ => cases h
/-- a hand, in numbers -/
def IsHand (a n : Nat) (r : List Int) : Prop := r.length = a ∧ Asc r ∧ ∀ x, x ∈ r → 0 ≤ x ∧ x < n
theorem IsHand.ok {a n : Nat} {r : List Int} (h : IsHand a n r) : isHandD a n (dT r) = true := by
  simp only [isHandD, Bool.and_eq_true, decide_eq_true_eq]
  exact ⟨rowB_ok h.2.1 fun x hx => by have := h.2.2 x hx; omega, by simp [h.1]⟩
theorem tyOk_row {st : Sto} (r : List Int) : tyOk st (dT r) := ⟨⟨_, rfl⟩, fun ds e x hx => by
  cases e
  obtain ⟨i, _, rfl⟩ := List.mem_map.mp hx
  exact ⟨_, rfl⟩⟩
@[simp] theorem kOf_ap (m : SE) (C : Call) (env : Env) (st : Sto) : kOf m C env st = (m C env st).bind fun x st => match x with
  | .tup ds => .ok (false, ⟨ds, []⟩) st
  | .scr ds => .ok (true, ⟨ds, []⟩) st
  | .ref i => match lstAt st i with | some ds => .ok (true, ⟨ds, [(i, ds)]⟩) st | none => .stuck
  | _ => .stuck := rfl
@[simp] theorem siZip_ap (a b : SK) (C : Call) (env : Env) (st : Sto) : siZip a b C env st = (a C env st).bind fun w st => (b C env st).bind fun u st => if (w.1 == u.1) && good w.2.src st && good u.2.src st then .ok ⟨zipD w.2.ds u.2.ds, w.2.src ++ u.2.src⟩ st else .stuck := rfl
def KeepS (s : Nat) (st st' : Sto) : Prop := st.length ≤ st'.length ∧ ∀ j, j < st.length → j ≠ s → st'[j]? = st[j]?
theorem KeepS.refl (s : Nat) (st : Sto) : KeepS s st st := ⟨Nat.le_refl _, fun _ _ _ => rfl⟩
theorem KeepS.trans {s : Nat} {a b c : Sto} (h : KeepS s a b) (g : KeepS s b c) : KeepS s a c := ⟨Nat.le_trans h.1 g.1, fun j hj hs => (g.2 j (Nat.lt_of_lt_of_le hj h.1) hs).trans (h.2 j hj hs)⟩
theorem KeepS.set (s : Nat) (st : Sto) (c : Cell) : KeepS s st (st.set s c) := ⟨by simp, fun j _ hs => List.getElem?_set_ne (Ne.symm hs)⟩
theorem KeepS.app (s : Nat) (st g : Sto) : KeepS s st (st ++ g) := ⟨by simp, fun j hj _ => List.getElem?_append_left hj⟩
theorem KeepS.put {s : Nat} {st st' : Sto} (h : KeepS s st st') {i : Nat} (hi : st.length ≤ i) (c : Cell) : KeepS s st (st'.set i c) :=
  ⟨by simpa using h.1, fun j hj hs => by rw [List.getElem?_set_ne (by omega)]; exact h.2 j hj hs⟩
theorem KeepS.lst {s : Nat} {st st' : Sto} (h : KeepS s st st') {i : Nat} {ds : List D} (hi : lstAt st i = some ds) (hs : i ≠ s) : lstAt st' i = some ds := by
  have := h.2 i (lstAt_lt hi) hs
  unfold lstAt at hi ⊢
  rw [this]
  exact hi
theorem KeepS.seq {s : Nat} {st st' : Sto} (h : KeepS s st st') {x : D} {ds : List D} (hx : Seq st x ds) (hs : ∀ i, x = .ref i → i ≠ s) : Seq st' x ds := by
  cases hx with
  | tup => exact .tup _
  | scr => exact .scr _
  | ref i ds hi => exact .ref i ds (h.lst hi (hs i rfl))
theorem KeepS.old {s : Nat} {st st' : Sto} (h : KeepS s st st') (hc : ∀ c, st'[s]? = some c → s < st.length → c.lo st.length = true) : OldOk st st' := fun i c hi e => by
  by_cases hs : i = s
  · subst hs; exact .inr (hc c e hi)
  · rw [h.2 i hi hs] at e; exact .inl e
theorem gc_val {st st' : Sto} {d : D} (o : OldOk st st') (h : d.lo st.length = true) : gc st d st' = .ok d (st'.take st.length) := by
  unfold gc
  rw [if_pos o, if_pos h]
theorem gc_lst {st st' : Sto} {k : Nat} {c : Cell} (o : OldOk st st') (hk : st.length ≤ k) (e : st'[k]? = some c) (h : c.lo st.length = true) : gc st (.ref k) st' = .ok (.ref st.length) (st'.take st.length ++ [c]) := by
  unfold gc
  rw [if_pos o, if_neg (by simp [D.lo]; omega)]
  simp only [e, h, if_true]
/-- nothing changed -/
abbrev Keep (st st' : Sto) : Prop := KeepS st.length st st'
theorem Keep.take {st st' : Sto} (h : Keep st st') : st'.take st.length = st := by
  apply List.ext_getElem?
  intro j
  by_cases hj : j < st.length
  · rw [List.getElem?_take_of_lt hj]; exact h.2 j hj (by omega)
  · rw [List.getElem?_eq_none (by simp; omega), List.getElem?_eq_none (by omega)]
theorem Keep.old {st st' : Sto} (h : Keep st st') : OldOk st st' := KeepS.old h fun c _ hs => absurd hs (Nat.lt_irrefl _)
theorem gc_keep {st st' : Sto} {d : D} (k : Keep st st') (h : d.lo st.length = true) : gc st d st' = .ok d st := by rw [gc_val k.old h, k.take]
theorem KeepS.keep {s : Nat} {st st' : Sto} (h : KeepS s st st') (hs : st.length ≤ s) : Keep st st' := ⟨h.1, fun j hj _ => h.2 j hj (by omega)⟩
theorem KeepS.mono {s : Nat} {a b c : Sto} (h : KeepS s b c) (hs : a.length ≤ s) (k : Keep a b) : Keep a c := ⟨Nat.le_trans k.1 h.1, fun j hj _ => (h.2 j (Nat.lt_of_lt_of_le hj k.1) (by omega)).trans (k.2 j hj (by omega))⟩

@[simp] theorem lSorted_ap (l : SL) (C : Call) (env : Env) (st : Sto) : lSorted l C env st = (l C env st).bind fun xs st => Res.of (sortO xs) st := rfl
/-- after some drawings: the source, the rest as it was -/
structure Drew (st : Sto) (s N : Nat) (st' : Sto) : Prop where
  src : Src st' s N
  keep : KeepS s st st'
  len : st'.length = st.length
theorem Drew.lst {st st' : Sto} {s N i : Nat} {ds : List D} (h : Drew st s N st') (hi : lstAt st i = some ds) (hs : i ≠ s) : lstAt st' i = some ds := h.keep.lst hi hs
theorem pickK (k : Nat) {st : Sto} {s N : Nat} {m : Int} (h : Src st s N) (hN : N < 10000000) (h0 : 0 < m) (h1 : m < 1073741824) :
    ∃ r st', callN Tbl (k + 1) n_law_pick [.ref s, .int m] st = .ok (.int r) st' ∧ 0 ≤ r ∧ r < m ∧ Drew st s (N + 1) st' := by
  obtain ⟨r, c, e, a, b, q⟩ := pick_spec k h hN h0 h1
  exact ⟨r, _, e, a, b, q, KeepS.set _ _ _, by simp⟩
theorem Src.take {st : Sto} {s N n : Nat} (h : Src st s N) (hs : s < n) : Src (st.take n) s N := by
  obtain ⟨c, xs, pos, left, step, stir, e1, e2, hc, p⟩ := h.ex
  refine ⟨c, xs, pos, left, step, stir, by rw [List.getElem?_take_of_lt hs]; exact e1, ?_, hc, p⟩
  unfold lstAt at e2 ⊢
  rw [List.getElem?_take_of_lt (by omega)]
  exact e2
theorem Src.old {st st2 : Sto} {s N : Nat} (h : Src st2 s N) (hs : s < st.length) (k : KeepS s st st2) : OldOk st st2 := k.old fun c e _ => by
  obtain ⟨a, xs, pos, left, step, stir, e1, _, hc, _⟩ := h.ex
  rw [e1] at e
  cases e
  simp; omega
theorem Drew.of {st st2 : Sto} {s N : Nat} (h : Src st2 s N) (hs : s < st.length) (k : KeepS s st st2) : Drew st s N (st2.take st.length) :=
  ⟨h.take hs, ⟨by simp; have := k.1; omega, fun j hj hs => by rw [List.getElem?_take_of_lt hj]; exact k.2 j hj hs⟩, by simp; have := k.1; omega⟩
/-- the end of a def that draws -/
theorem gc_drew {st st2 : Sto} {s N : Nat} {d : D} (h : Src st2 s N) (hs : s < st.length) (k : KeepS s st st2) (hd : d.lo st.length = true) : ∃ st', gc st d st2 = .ok d st' ∧ Drew st s N st' :=
  ⟨_, gc_val (h.old hs k) hd, Drew.of h hs k⟩
/-- .. with a new list -/
theorem gc_drewL {st st2 : Sto} {s N i : Nat} {ds : List D} (h : Src st2 s N) (hs : s < st.length) (k : KeepS s st st2) (hi : st.length ≤ i) (e : lstAt st2 i = some ds) (hd : D.loL st.length ds = true) :
    ∃ st', gc st (.ref i) st2 = .ok (.ref st.length) (st' ++ [.lst ds]) ∧ Drew st s N st' := by
  have e' : st2[i]? = some (.lst ds) := by
    unfold lstAt at e
    split at e
    · rename_i q; cases e; exact q
    · cases e
  exact ⟨_, gc_lst (h.old hs k) hi e' hd, Drew.of h hs k⟩
theorem Drew.trans {a b c : Sto} {s N M : Nat} (h : Drew a s N b) (g : Drew b s M c) : Drew a s M c := ⟨g.src, h.keep.trans g.keep, g.len.trans h.len⟩
def leZ (a b : Int) : Bool := !decide (b < a)
theorem leZ_iff {a b : Int} : leZ a b = true ↔ a ≤ b := by
  unfold leZ
  rw [Bool.not_eq_true', decide_eq_false_iff_not]
  omega
theorem sortI_pw (l : List Int) : (l.mergeSort leZ).Pairwise (· ≤ ·) :=
  (List.pairwise_mergeSort (le := leZ) (fun a b c h g => leZ_iff.mpr (by have := leZ_iff.mp h; have := leZ_iff.mp g; omega))
    (fun a b => by rw [Bool.or_eq_true, leZ_iff, leZ_iff]; omega) l).imp fun h => leZ_iff.mp h
theorem asc_of : ∀ {l : List Int}, l.Pairwise (· ≤ ·) → l.Nodup → Asc l
  | [], _, _ => List.Pairwise.nil
  | x :: l, h, n => by
    obtain ⟨h1, h2⟩ := List.pairwise_cons.mp h
    obtain ⟨n1, n2⟩ := List.nodup_cons.mp n
    refine List.pairwise_cons.mpr ⟨fun y hy => ?_, asc_of h2 n2⟩
    have := h1 y hy
    have : x ≠ y := fun e => n1 (e ▸ hy)
    omega
theorem sort_hand {a n : Nat} {l : List Int} (hl : l.length = a) (hn : l.Nodup) (hm : ∀ x, x ∈ l → 0 ≤ x ∧ x < n) : IsHand a n (l.mergeSort leZ) :=
  ⟨by rw [List.length_mergeSort, hl], asc_of (sortI_pw l) ((List.mergeSort_perm l leZ).nodup_iff.mpr hn), fun x hx => hm x (List.mem_mergeSort.mp hx)⟩
theorem asc_nodup {l : List Int} (h : Asc l) : l.Nodup := h.imp fun h => by omega
def common (h o : List Int) : Nat := (h.filter fun c => decide (c ∈ o)).length
abbrev allH (a n : Nat) : List (List Int) := combs a (iota n)
theorem sortZ (xs : List Int) : sortO (xs.map D.int) = some ((xs.mergeSort leZ).map D.int) := sortI xs
theorem tup_ok {st : Sto} {a n : Nat} {r : List Int} (h : IsHand a n r) (ha : a ≤ 100) : tupQ st (r.map D.int) = .ok (dT r) st := by
  have : r.length ≤ sizeLine := sz (by rw [h.1]; exact ha)
  simp [this, dT, tupF]
noncomputable abbrev L1b : SS := (sSeq (sExp (eM appendR (eV 5) (lCons (eA tupQ (lSorted (lLc (siOf (eV 7)) (gN 13) [13] bTrue (eB2 modR (eU1 intR (eB2 addR (eV 13) (eV 8))) (eV 2))))) lNil))) sNx)
noncomputable abbrev L1 : SS := (sIf (bCmp eqB (eV 4) (eC (.int 1))) (sSeq (sSet 7 (eB2 ixR (eV 3) (eCall 7 (lCons (eV 0) (lCons (eU1 lenR (eV 3)) lNil))))) (sSeq (sFor (siR1 (lCons (eV 2) lNil)) (gN 8) L1b) sNx)) sNx)
theorem Src.put {st : Sto} {s N f : Nat} {c : Cell} (h : Src st s N) (hf : s < f) : Src (st.set f c) s N := by
  obtain ⟨c', xs, pos, left, step, stir, e1, e2, hc, p⟩ := h.ex
  exact ⟨c', xs, pos, left, step, stir, by rw [List.getElem?_set_ne (by omega)]; exact e1, by rw [lstAt_set_ne (by omega)]; exact e2, hc, p⟩
/-- the lists within _law_lot -/
structure LF (st0 : Sto) (s a n N p f : Nat) (L : List (List Int)) (st : Sto) : Prop where
  hp : lstAt st p = some ((allH a n).map dT)
  hf : lstAt st f = some (L.map dT)
  src : Src st s N
  keep : KeepS s st0 st
  p0 : st0.length ≤ p
  f0 : st0.length ≤ f
  ne : p ≠ f
  s0 : s < st0.length
theorem LF.put {st0 : Sto} {s a n N p f : Nat} {L : List (List Int)} {st : Sto} (h : LF st0 s a n N p f L st) (L' : List (List Int)) : LF st0 s a n N p f L' (st.set f (.lst (L'.map dT))) :=
  ⟨by rw [lstAt_set_ne h.ne]; exact h.hp, lstAt_set (lstAt_lt h.hf), h.src.put (by have := h.f0; have := h.s0; omega), h.keep.put h.f0 _, h.p0, h.f0, h.ne, h.s0⟩
theorem LF.mono {st0 : Sto} {s a n N M p f : Nat} {L : List (List Int)} {st : Sto} (h : LF st0 s a n N p f L st) (hm : N ≤ M) : LF st0 s a n M p f L st := ⟨h.hp, h.hf, h.src.mono hm, h.keep, h.p0, h.f0, h.ne, h.s0⟩
abbrev L2b : SS := (sSeq (sExp (eM appendR (eV 5) (lCons (eB2 ixR (eV 3) (eCall 7 (lCons (eV 0) (lCons (eU1 lenR (eV 3)) lNil)))) lNil))) sNx)
noncomputable abbrev S2 : SS := (sIf (bCmp eqB (eV 4) (eC (.int 2))) (sSeq (sFor (siR1 (lCons (eB2 addR (eC (.int 1)) (eCall 7 (lCons (eV 0) (lCons (eC (.int 8)) lNil)))) lNil)) (gN 9) L2b) sNx) sNx)
noncomputable abbrev S3b : SS := (sSeq (sSet 12 (eB2 ixR (eV 3) (eB2 modR (eU1 intR (eB2 addR (eV 10) (eB2 mulR (eV 11) (eV 8)))) (eU1 lenR (eV 3))))) (sSeq (sIf (bOf (eCall 43 (lCons (eV 5) (lCons (eV 12) (lCons (eB2 subR (eB2 ixR (eV 1) (eC (.int 0))) (eB2 ixR (eV 1) (eC (.int 2)))) lNil))))) (sSeq (sExp (eM appendR (eV 5) (lCons (eV 12) lNil))) sNx) sNx) sNx))
noncomputable abbrev S3 : SS := (sIf (bCmp gtD (eV 4) (eC (.int 2))) (sSeq (sSet 10 (eCall 7 (lCons (eV 0) (lCons (eU1 lenR (eV 3)) lNil)))) (sSeq (sSet 8 (eB2 addR (eC (.int 1)) (eCall 7 (lCons (eV 0) (lCons (eU1 lenR (eV 3)) lNil))))) (sSeq (sFor (siR1 (lCons (eU1 lenR (eV 3)) lNil)) (gN 11) S3b) sNx))) sNx)
abbrev S5 : SS := (sIf (bCmp eqB (eV 4) (eC (.int 5))) (sSeq (sExp (eM appendR (eV 5) (lCons (eB2 ixR (eV 3) (eCall 7 (lCons (eV 0) (lCons (eU1 lenR (eV 3)) lNil)))) lNil))) sNx) sNx)
theorem map_erase {α β : Type} (f : α → β) (l : List α) (i : Nat) : (l.map f).eraseIdx i = (l.eraseIdx i).map f := by
  rw [List.eraseIdx_eq_take_drop_succ, List.eraseIdx_eq_take_drop_succ, List.map_append, List.map_take, List.map_drop]
theorem popAt_gen {α : Type} {st : Sto} {f : Nat} {F : α → D} {L : List α} {i : Int} (h : lstAt st f = some (L.map F)) (h0 : 0 ≤ i) (h1 : i < L.length) (hz : L.length ≤ 10000) : ∃ r, L[i.toNat]? = some r ∧ popAtR st (.ref f) [.int i] = .ok (F r) (st.set f (.lst ((L.eraseIdx i.toNat).map F))) := by
  have hp : popOk i = true := popOk_of (by omega) (by omega)
  obtain ⟨j, rfl⟩ : ∃ j : Nat, i = j := ⟨i.toNat, by omega⟩
  have hj : j < L.length := by omega
  have e : L2.ixN L.length (j : Int) = some j := by simp [L2.ixN, hj]
  refine ⟨L[j], by simp [hj], ?_⟩
  unfold popAtR mutL
  simp [h, hp, e, hj, map_erase]
/-- hands that are lists or tuples -/
def HandsAt (st : Sto) (hs : List D) (rows : List (List Int)) : Prop := hs.length = rows.length ∧ ∀ (i : Nat) (d : D) (r : List Int), hs[i]? = some d → rows[i]? = some r → Seq st d (r.map D.int)
theorem HandsAt.keep {s : Nat} {st st' : Sto} {hs : List D} {rows : List (List Int)} (h : HandsAt st hs rows) (hn : ∀ d, d ∈ hs → d ≠ .ref s) (k : KeepS s st st') : HandsAt st' hs rows :=
  ⟨h.1, fun i d r h1 h2 => k.seq (h.2 i d r h1 h2) fun j e ej => hn d (List.mem_of_getElem? h1) (by rw [e, ej])⟩
noncomputable abbrev K0 : SS := (sSeq (sSet 2 (eTup (lCons (eC (.int 5)) (lCons (eC (.int 5)) (lCons (eC (.int 1)) lNil))))) (sSeq (sSet 3 (eNew (lLc (siR1 (lCons (eC (.int 11)) lNil)) (gN 6) [6] bTrue (eNew (lLc (siT (lLst (lCons (eC (.int 1)) (lCons (eC (.int 3)) (lCons (eC (.int 4)) (lCons (eC (.int 5)) (lCons (eC (.int 9)) lNil))))))) (gN 7) [7] bTrue (eB2 modR (eU1 intR (eB2 addR (eV 7) (eV 6))) (eC (.int 11)))))))) sNx))
noncomputable abbrev K1 : SS := (sSeq (sSet 2 (eTup (lCons (eC (.int 4)) (lCons (eC (.int 8)) (lCons (eC (.int 1)) lNil))))) (sSeq (sSet 3 (eNew (lLc (siR1 (lCons (eC (.int 13)) lNil)) (gN 6) [6] bTrue (eNew (lLc (siT (lLst (lCons (eC (.int 0)) (lCons (eC (.int 1)) (lCons (eC (.int 3)) (lCons (eC (.int 9)) lNil)))))) (gN 7) [7] bTrue (eB2 modR (eU1 intR (eB2 addR (eV 7) (eV 6))) (eC (.int 13)))))))) sNx))
noncomputable abbrev K2 : SS := (sSeq (sSet 2 (eTup (lCons (eC (.int 3)) (lCons (eC (.int 5)) (lCons (eC (.int 1)) lNil))))) (sSeq (sSet 3 (eNew (lLc (siOf (eCall 41 (lCons (eNew (lRng (eC (.int 9)))) (lCons (eC (.int 3)) lNil)))) (gN 8) [8] (bOf (eCall 51 (lCons (eV 8) lNil))) (eV 8)))) sNx))
noncomputable abbrev K3 : SS := (sSeq (sSet 2 (eTup (lCons (eC (.int 5)) (lCons (eC (.int 5)) (lCons (eC (.int 1)) lNil))))) (sSeq (sSet 4 (eCall 7 (lCons (eV 0) (lCons (eC (.int 11)) lNil)))) (sSeq (sSet 3 (eNew (lLc (siOf (eCall 41 (lCons (eNew (lRng (eC (.int 11)))) (lCons (eC (.int 5)) lNil)))) (gN 8) [8] (bCmp eqB (eB2 modR (eU1 intR (eA sumQ (lSeq (eV 8)))) (eC (.int 11))) (eV 4)) (eV 8)))) sNx)))
noncomputable abbrev K4 : SS := (sSeq (sSet 5 (eB2 addR (eC (.int 1)) (eCall 7 (lCons (eV 0) (lCons (eC (.int 3)) lNil))))) (sSeq (sSet 2 (eTup (lCons (eC (.int 4)) (lCons (eB2 subR (eC (.int 4)) (eV 5)) (lCons (eV 5) lNil))))) (sSeq (sSet 3 (eNew (lLc (siOf (eCall 41 (lCons (eNew (lRng (eC (.int 8)))) (lCons (eC (.int 4)) lNil)))) (gN 8) [8] (bCmp eqB (eB2 xorR (eB2 xorR (eB2 xorR (eB2 ixR (eV 8) (eC (.int 0))) (eB2 ixR (eV 8) (eC (.int 1)))) (eB2 ixR (eV 8) (eC (.int 2)))) (eB2 ixR (eV 8) (eC (.int 3)))) (eC (.int 0))) (eV 8)))) sNx)))
theorem nodup_le : ∀ {l m : List Int}, l.Nodup → (∀ x, x ∈ l → x ∈ m) → l.length ≤ m.length
  | [], m, _, _ => Nat.zero_le _
  | x :: l, m, hn, hs => by
    obtain ⟨n1, n2⟩ := List.nodup_cons.mp hn
    have hx := hs x List.mem_cons_self
    have ih := nodup_le (l := l) (m := m.erase x) n2 fun y hy => (List.mem_erase_of_ne (fun e : y = x => n1 (e ▸ hy))).mpr (hs y (List.mem_cons_of_mem _ hy))
    have := List.length_erase_of_mem hx
    have := List.length_pos_of_mem hx
    simp only [List.length_cons]
    omega
theorem Src.keep {st st' : Sto} {s N : Nat} (h : Src st s N) (k : Keep st st') : Src st' s N := by
  have hs := h.lt
  obtain ⟨c, xs, pos, left, step, stir, e1, e2, hc, r⟩ := h.ex
  refine ⟨c, xs, pos, left, step, stir, ?_, ?_, hc, r⟩
  · rw [k.2 s hs (by omega)]; exact e1
  · unfold lstAt at e2 ⊢
    rw [k.2 c (by omega) (by omega)]; exact e2
theorem asc_ext : ∀ {l m : List Int}, Asc l → Asc m → (∀ x, x ∈ l ↔ x ∈ m) → l = m
  | [], [], _, _, _ => rfl
  | [], y :: m, _, _, h => by have := (h y).mpr (by simp); cases this
  | x :: l, [], _, _, h => by have := (h x).mp (by simp); cases this
  | x :: l, y :: m, hl, hm, h => by
    obtain ⟨l1, l2⟩ := List.pairwise_cons.mp hl
    obtain ⟨m1, m2⟩ := List.pairwise_cons.mp hm
    have hxy : x = y := by
      rcases List.mem_cons.mp ((h x).mp (by simp)) with e | e
      · exact e
      · rcases List.mem_cons.mp ((h y).mpr (by simp)) with e2 | e2
        · exact e2.symm
        · have := m1 x e; have := l1 y e2; omega
    subst hxy
    rw [asc_ext l2 m2 fun z => ?_]
    constructor
    · intro hz
      rcases List.mem_cons.mp ((h z).mp (by simp [hz])) with e | e
      · subst e; have := l1 z hz; omega
      · exact e
    · intro hz
      rcases List.mem_cons.mp ((h z).mpr (by simp [hz])) with e | e
      · subst e; have := m1 z hz; omega
      · exact e
theorem ty_lst {st : Sto} {i : Nat} {ds : List D} (h : lstAt st i = some ds) : tyOf st (.ref i) = some .lst := by
  unfold lstAt at h
  show (match st[i]? with | some (.lst _) => some Ty.lst | some (.dct _) => some Ty.dict | none => none) = _
  split at h
  · rename_i e; rw [e]
  · cases h
theorem rowB_int {n : Int} : ∀ {pre : List D} {last x : Int} {post : List D}, rowB n last (pre ++ .int x :: post) = true → last < x ∧ x < n
  | [], last, x, post, h => by
    simp only [List.nil_append, rowB, Bool.and_eq_true, decide_eq_true_eq] at h
    exact ⟨h.1.1, h.1.2⟩
  | .int i :: pre, last, x, post, h => by
    simp only [List.cons_append, rowB, Bool.and_eq_true, decide_eq_true_eq] at h
    have := rowB_int h.2
    omega
  | .non :: pre, last, x, post, h => by simp [rowB] at h
  | .bl _ :: pre, last, x, post, h => by simp [rowB] at h
  | .str _ :: pre, last, x, post, h => by simp [rowB] at h
  | .tup _ :: pre, last, x, post, h => by simp [rowB] at h
  | .ref _ :: pre, last, x, post, h => by simp [rowB] at h
  | .fn _ :: pre, last, x, post, h => by simp [rowB] at h
  | .scr _ :: pre, last, x, post, h => by simp [rowB] at h
theorem rowB_odd {n : Int} {v : D} (hv : ∀ i, v ≠ .int i) : ∀ {pre : List D} {last : Int} {post : List D}, rowB n last (pre ++ v :: post) = false
  | [], last, post => by
    cases v with
    | int i => exact absurd rfl (hv i)
    | _ => rfl
  | .int i :: pre, last, post => by
    simp only [List.cons_append, rowB, rowB_odd hv (pre := pre), Bool.and_false]
  | .non :: pre, last, post => rfl
  | .bl _ :: pre, last, post => rfl
  | .str _ :: pre, last, post => rfl
  | .tup _ :: pre, last, post => rfl
  | .ref _ :: pre, last, post => rfl
  | .fn _ :: pre, last, post => rfl
  | .scr _ :: pre, last, post => rfl
theorem set_split {ds : List D} {j : Nat} (h : j < ds.length) (v : D) : ds.set j v = ds.take j ++ v :: ds.drop (j + 1) := by
  rw [List.set_eq_take_append_cons_drop, if_pos h]
theorem gc_tupR {st st2 : Sto} {s N : Nat} {d : D} (h : Src st2 s N) (hs : s < st.length) (k : KeepS s st st2) (hd : ∀ i, d ≠ .ref i) : ∃ st', gc st d st2 = .ok d st' ∧ Src st' s N ∧ KeepS s st st' ∧ (st' = st2 ∨ d.lo st.length = true) := by
  have old := h.old hs k
  by_cases c : d.lo st.length = true
  · obtain ⟨st', g, D'⟩ := gc_drew h hs k c
    exact ⟨st', g, D'.src, D'.keep, .inr c⟩
  · refine ⟨st2, ?_, h, k, .inl rfl⟩
    unfold gc
    rw [if_pos old, if_neg c]
    cases d with
    | ref i => exact absurd rfl (hd i)
    | _ => rfl
theorem str_ok {x : Int} (h0 : 0 ≤ x) (h1 : x < 14) : tsd (x.natAbs.log2 < 1920) = true := of_tsd (by
  by_cases c : x.natAbs = 0
  · rw [c]; decide
  · have : x.natAbs.log2 < 4 := (Nat.log2_lt c).mpr (by omega)
    omega)
theorem ty_ints {st : Sto} {l : List Int} : ∀ e, e ∈ l.map D.int → ∃ t, tyOf st e = some t := fun e he => by
  obtain ⟨i, _, rfl⟩ := List.mem_map.mp he
  exact ⟨_, rfl⟩
/-- what the law's maker of bad rows gives -/
def BadOut (st : Sto) (s n N : Nat) (r : Res D) : Prop := ∃ d st', r = .ok d st' ∧ tyOk st' d ∧ isRowD n d = false ∧ Src st' s N ∧ KeepS s st st'
theorem mem_set_or {ds : List D} {j : Nat} {v e : D} (h : e ∈ ds.set j v) : e ∈ ds ∨ e = v := by
  rcases List.mem_or_eq_of_mem_set h with q | q
  · exact .inl q
  · exact .inr q
/-- no row of so many cards -/
def BadC (st : Sto) (n most : Nat) (d : D) : Prop := tyOk st d ∧ (isRowD n d = false ∨ ∃ r m, d = dT r ∧ IsHand m n r ∧ most < m)
theorem ty_take {st2 : Sto} {n i : Nat} (h : i < n) : tyOf (st2.take n) (.ref i) = tyOf st2 (.ref i) := by
  have e : ∀ s : Sto, tyOf s (.ref i) = (match s[i]? with | some (.lst _) => some Ty.lst | some (.dct _) => some Ty.dict | none => none) := fun _ => rfl
  rw [e, e, List.getElem?_take_of_lt h]
theorem loL_memX {n : Nat} : ∀ {ds : List D} {x : D}, D.loL n ds = true → x ∈ ds → D.lo n x = true
  | d :: ds, x, h, hx => by
    have h : (D.lo n d && D.loL n ds) = true := h
    rw [Bool.and_eq_true] at h
    rcases List.mem_cons.mp hx with e | e
    · rw [e]; exact h.1
    · exact loL_memX h.2 e
theorem ty_lo {st2 : Sto} {n : Nat} {x : D} {t : Ty} (hl : D.lo n x = true) (h : tyOf st2 x = some t) : tyOf (st2.take n) x = some t := by
  cases x with
  | ref i =>
    have : i < n := by
      have : decide (i < n) = true := hl
      exact of_decide_eq_true this
    rw [ty_take this]; exact h
  | _ => exact h
theorem gc_odd {st st2 : Sto} {s n N : Nat} {d : D} (h : Src st2 s N) (hs : s < st.length) (k : KeepS s st st2) (ht : tyOk st2 d) (hb : isRowD n d = false) : BadOut st s n N (gc st d st2) := by
  have old := h.old hs k
  have tkS : Src (st2.take st.length) s N := h.take hs
  have tkK : KeepS s st (st2.take st.length) := ⟨by rw [List.length_take]; have := k.1; omega, fun j hj hjs => by rw [List.getElem?_take_of_lt hj]; exact k.2 j hj hjs⟩
  by_cases c : d.lo st.length = true
  · refine ⟨d, st2.take st.length, gc_val old c, ?_, hb, tkS, tkK⟩
    obtain ⟨⟨t, h1⟩, hx⟩ := ht
    refine ⟨⟨t, ty_lo c h1⟩, fun ds e x hxx => ?_⟩
    obtain ⟨t2, h2⟩ := hx ds e x hxx
    subst e
    exact ⟨t2, ty_lo (loL_memX c hxx) h2⟩
  · by_cases hr : ∃ i, d = .ref i
    · obtain ⟨i, rfl⟩ := hr
      obtain ⟨⟨t, h1⟩, _⟩ := ht
      have e : ∀ s : Sto, ∀ i, tyOf s (.ref i) = (match s[i]? with | some (.lst _) => some Ty.lst | some (.dct _) => some Ty.dict | none => none) := fun _ _ => rfl
      cases hc : st2[i]? with
      | none => rw [e, hc] at h1; cases h1
      | some cc =>
        by_cases cl : cc.lo st.length = true
        · have hi : st.length ≤ i := by
            have : ¬ decide (i < st.length) = true := c
            simpa using this
          refine ⟨.ref st.length, st2.take st.length ++ [cc], gc_lst old hi hc cl, ⟨⟨t, ?_⟩, fun ds e => by cases e⟩, rfl, tkS.app _, tkK.trans (KeepS.app _ _ _)⟩
          have ln : (st2.take st.length).length = st.length := by rw [List.length_take]; have := k.1; omega
          rw [e, List.getElem?_append_right (by omega), ln]
          rw [e, hc] at h1
          simpa using h1
        · refine ⟨.ref i, st2, ?_, ⟨⟨t, h1⟩, fun ds e => by cases e⟩, rfl, h, k⟩
          unfold gc
          rw [if_pos old, if_neg c]
          simp only [hc]
          rw [if_neg cl]
    · refine ⟨d, st2, ?_, ht, hb, h, k⟩
      unfold gc
      rw [if_pos old, if_neg c]
      cases d with
      | ref i => exact absurd ⟨i, rfl⟩ hr
      | _ => rfl
theorem BadC.app {st : Sto} {n most : Nat} {d : D} (h : BadC st n most d) (g : Sto) : BadC (st ++ g) n most d := by
  obtain ⟨⟨⟨t, ht⟩, hx⟩, o⟩ := h
  have up : ∀ x t, tyOf st x = some t → tyOf (st ++ g) x = some t := fun x t h => by
    cases x with
    | ref i =>
      have e : ∀ s : Sto, tyOf s (.ref i) = (match s[i]? with | some (.lst _) => some Ty.lst | some (.dct _) => some Ty.dict | none => none) := fun _ => rfl
      rw [e] at h ⊢
      cases hi : st[i]? with
      | none => rw [hi] at h; cases h
      | some c => rw [List.getElem?_append_left (List.getElem?_eq_some_iff.mp hi).1, hi]; rw [hi] at h; exact h
    | _ => exact h
  exact ⟨⟨⟨t, up _ _ ht⟩, fun ds e x hxx => by obtain ⟨t, h⟩ := hx ds e x hxx; exact ⟨t, up _ _ h⟩⟩, o⟩
/-- no row of m cards -/
def BadM (st : Sto) (n m : Nat) (d : D) : Prop := tyOk st d ∧ (isRowD n d = false ∨ ∃ r m', d = dT r ∧ IsHand m' n r ∧ m' ≠ m)
theorem tyOk_app {st : Sto} {d : D} (h : tyOk st d) (g : Sto) : tyOk (st ++ g) d := by
  obtain ⟨⟨t, ht⟩, hx⟩ := h
  have up : ∀ x t, tyOf st x = some t → tyOf (st ++ g) x = some t := fun x t h => by
    cases x with
    | ref i =>
      have e : ∀ s : Sto, tyOf s (.ref i) = (match s[i]? with | some (.lst _) => some Ty.lst | some (.dct _) => some Ty.dict | none => none) := fun _ => rfl
      rw [e] at h ⊢
      cases hi : st[i]? with
      | none => rw [hi] at h; cases h
      | some c => rw [List.getElem?_append_left (List.getElem?_eq_some_iff.mp hi).1, hi]; rw [hi] at h; exact h
    | _ => exact h
  exact ⟨⟨t, up _ _ ht⟩, fun ds e x hxx => by obtain ⟨t, h⟩ := hx ds e x hxx; exact ⟨t, up _ _ h⟩⟩
theorem tyOk_keep {st st' : Sto} {s N N' : Nat} {d : D} (h : tyOk st d) (k : KeepS s st st') (S : Src st s N) (S' : Src st' s N') : tyOk st' d := by
  obtain ⟨⟨t, ht⟩, hx⟩ := h
  have up : ∀ x t, tyOf st x = some t → tyOf st' x = some t := fun x t h => by
    cases x with
    | ref i =>
      have e : ∀ s : Sto, tyOf s (.ref i) = (match s[i]? with | some (.lst _) => some Ty.lst | some (.dct _) => some Ty.dict | none => none) := fun _ => rfl
      rw [e] at h ⊢
      by_cases c : i = s
      · subst c
        obtain ⟨_, _, _, _, _, _, e1, e2, _, _⟩ := S.ex
        obtain ⟨_, _, _, _, _, _, e1', e2', _, _⟩ := S'.ex
        rw [e1] at h
        rw [e1']
        first
          | exact h
          | (subst e2; subst e2'; exact h)
      · cases hi : st[i]? with
        | none => rw [hi] at h; cases h
        | some cc => rw [k.2 i (List.getElem?_eq_some_iff.mp hi).1 c, hi]; rw [hi] at h; exact h
    | _ => exact h
  exact ⟨⟨t, up _ _ ht⟩, fun ds e x hxx => by obtain ⟨t, h⟩ := hx ds e x hxx; exact ⟨t, up _ _ h⟩⟩
theorem BadM.app {st : Sto} {n m : Nat} {d : D} (h : BadM st n m d) (g : Sto) : BadM (st ++ g) n m d := ⟨tyOk_app h.1 g, h.2⟩
theorem insertR_ref {st : Sto} {i : Nat} {L : List D} {p : Int} {y : D} (h : lstAt st i = some L) (hz : insOk p L.length = true) : insertR st (.ref i) [.int p, y] = .ok .non (st.set i (.lst (L.take p.toNat ++ [y] ++ L.drop p.toNat))) := by
  unfold insertR mutL
  simp [h, hz]
/-- all the cards below n, in some order -/
def OrdL (n : Nat) (os : List Int) : Prop := os.length = n ∧ os.Nodup ∧ ∀ x, x ∈ os → 0 ≤ x ∧ x < n
def Cov (a c : Nat) (L : List (List Int)) (h : List Int) : Prop := h ∈ L ∨ ∃ l, l ∈ L ∧ (a : Int) - c ≤ common l h
theorem Cov.app {a c : Nat} {L : List (List Int)} {h : List Int} (q : Cov a c L h) (M : List (List Int)) : Cov a c (L ++ M) h := by
  rcases q with e | ⟨l, h1, h2⟩
  · exact .inl (List.mem_append_left _ e)
  · exact .inr ⟨l, List.mem_append_left _ h1, h2⟩
theorem ord_all {n : Nat} {os : List Int} (O : OrdL n os) {x : Int} (hx : 0 ≤ x ∧ x < n) : x ∈ os := by
  apply Classical.byContradiction
  intro q
  have := nodup_le (l := x :: os) (m := iota n) (List.nodup_cons.mpr ⟨q, O.2.1⟩) fun y hy => by
    rcases List.mem_cons.mp hy with e | e
    · rw [e]; exact mem_iota.mpr hx
    · exact mem_iota.mpr (O.2.2 y e)
  rw [iota_len, List.length_cons, O.1] at this
  omega
theorem eqB_ints {st : Sto} {i j : Nat} {xs ys : List Int} (hi : lstAt st i = some (xs.map D.int)) (hj : lstAt st j = some (ys.map D.int)) : eqB st (.ref i) (.ref j) = some (decide (xs = ys)) := by
  unfold eqB
  rw [embI.datR st i xs hi, embI.datR st j ys hj]
  simp only [Option.bind_some]
  have s1 : SeqAt.shaped (.list (xs.map fun y => encD (D.int y))) = true := embI.shpT (by decide) xs
  have s2 : SeqAt.shaped (.list (ys.map fun y => encD (D.int y))) = true := embI.shpT (by decide) ys
  rw [if_pos ⟨s1, s2⟩]
  congr 1
  exact embI.qL xs ys
theorem ord_sort {n : Nat} {os : List Int} (O : OrdL n os) : os.mergeSort leZ = iota n :=
  asc_ext (sort_hand (a := n) (n := n) O.1 O.2.1 O.2.2).2.1 (iota_asc n) fun x => by
    rw [List.mem_mergeSort, mem_iota]
    exact ⟨fun h => O.2.2 x h, fun h => ord_all O h⟩
noncomputable abbrev lrow : SS := (sSeq (sIf (bOr (bOf (eU1 (isiR .bool) (eV 4))) (bOr (bNot (bOf (eU1 (isiR .int) (eV 4)))) (bOr (bCmp ltD (eV 4) (eV 3)) (bCmp geD (eV 4) (eV 2))))) (sSeq (sRet (eC (.bl false))) sNx) sNx) (sSeq (sSet 3 (eB2 addR (eV 4) (eC (.int 1)))) sNx))
def tyE (st : Sto) (d : D) : Prop := tyOk st d ∧ ∀ ds, d = .tup ds → ds.length ≤ 100
def TyL (st : Sto) (d : D) : Prop := (∃ t, tyOf st d = some t) ∧ ∀ ds, d = .tup ds → ds.length ≤ 10000 ∧ ∀ e, e ∈ ds → tyE st e
def BadOutL (st : Sto) (s n N : Nat) (r : Res D) : Prop := ∃ d st', r = .ok d st' ∧ tyOk st' d ∧ isRowD n d = false ∧ Src st' s N ∧ KeepS s st st' ∧ ∀ ds, d = .tup ds → ds.length ≤ 100
theorem bad_tupL {st st2 : Sto} {s n N : Nat} {ds : List D} (hl : ds.length ≤ 100) (h : Src st2 s N) (hs : s < st.length) (k : KeepS s st st2) (hb : rowB n (-1) ds = false) (ht : ∀ st' : Sto, (st' = st2 ∨ D.lo st.length (.tup ds) = true) → ∀ e, e ∈ ds → ∃ t, tyOf st' e = some t) : BadOutL st s n N (gc st (.tup ds) st2) := by
  obtain ⟨st', g, S', K', o⟩ := gc_tupR (d := .tup ds) h hs k (fun i e => by cases e)
  refine ⟨.tup ds, st', g, ⟨⟨_, rfl⟩, fun ds' e x hx => ?_⟩, hb, S', K', fun es e => by cases e; exact hl⟩
  cases e
  exact ht st' o x hx
theorem law_bad_rowL_spec (k : Nat) {st : Sto} {s N m n : Nat} {r : List Int} (h : Src st s N) (hN : N + 10 < 10000000) (hr : IsHand m n r) (hm : 1 ≤ m) (hn : n ≤ 13) : BadOutL st s n (N + 3) (callN Tbl (k + 2) n_law_bad_row [.ref s, dT r, .int n] st) := by
  have hs := h.lt
  have rl := hr.1
  have mn : m ≤ n := by
    have := nodup_le (asc_nodup hr.2.1) fun x hx => mem_iota.mpr (hr.2.2 x hx)
    rw [hr.1, iota_len] at this; exact this
  have zr : r.length ≤ sizeLine := sz (by omega)
  obtain ⟨j', st1, e1, p1, q1, D1⟩ := pickK k (h.app [.lst (r.map D.int)]) (m := r.length) (by omega) (by omega) (by omega)
  obtain ⟨j, rfl⟩ : ∃ j : Nat, j' = j := ⟨j'.toNat, by omega⟩
  obtain ⟨kd, st2, e2, p2, q2, D2⟩ := pickK k D1.src (m := 6) (by omega) (by omega) (by omega)
  have hj : j < r.length := by omega
  have l1 : lstAt st1 st.length = some (r.map D.int) := D1.lst (lstAt_app_len _) (by omega)
  have l2 : lstAt st2 st.length = some (r.map D.int) := D2.lst l1 (by omega)
  have K2 : KeepS s st st2 := (KeepS.app s st _).trans (D1.keep.trans D2.keep)
  have aj : L2.atI (r.map D.int) (j : Int) = some (.int r[j]) := by rw [atI_nat, List.getElem?_map, List.getElem?_eq_getElem hj]; rfl
  have ij : L2.ixN (r.map D.int).length (j : Int) = some j := by unfold L2.ixN; rw [List.length_map, if_pos (by omega)]; simp [hj]
  have rj := hr.2.2 r[j] (List.getElem_mem hj)
  have z6 : 6 ≤ sizeLine := sz (by decide)
  have z4 : 4 ≤ sizeLine := sz (by decide)
  have z1 : 1 ≤ sizeLine := sz (by decide)
  have so := str_ok rj.1 (by omega)
  rw [run_eq (Tbl := Tbl) (f := n_law_bad_row) rfl rfl]
  have setlen : ∀ v : D, ((r.map D.int).set j v).length ≤ sizeLine := fun v => by rw [List.length_set, List.length_map]; exact zr
  have split : ∀ v : D, (r.map D.int).set j v = (r.map D.int).take j ++ v :: (r.map D.int).drop (j + 1) := fun v => set_split (by simpa using hj) v
  by_cases k4 : kd = 4
  · subst k4
    obtain ⟨st', g, D'⟩ := gc_drewL (st := st) (st2 := st2) (i := st.length) (ds := r.map D.int) (D2.src.mono (M := N + 3) (by omega)) hs K2 (Nat.le_refl _) l2 (loL_ints _ _)
    have : BadOutL st s n (N + 3) (gc st (.ref st.length) st2) := by
      refine ⟨_, _, g, ⟨⟨.lst, ?_⟩, fun ds e => by cases e⟩, rfl, D'.src.app _, D'.keep.trans (KeepS.app _ _ _), fun ds e => by cases e⟩
      · have := lstAt_app_len (st := st') (r.map D.int)
        rw [D'.len] at this
        exact ty_lst this
    simp [zr, newL, e1, e2]
    exact this
  · by_cases k3 : kd = 3
    · subst k3
      let vs : List D := [.bl true, .bl false, .non, .str (Str.ofString r[j].repr), .tup [.int r[j]], .ref st2.length]
      obtain ⟨vi, st3, e3, p3, q3, D3⟩ := pickK k (D2.src.app [.lst [.int r[j]], .lst vs]) (m := 6) (by omega) (by omega) (by omega)
      have l3 : lstAt st3 st.length = some (r.map D.int) := D3.lst (by rw [lstAt_app (lstAt_lt l2)]; exact l2) (by omega)
      have lv : lstAt st3 (st2.length + 1) = some vs := D3.lst (lstAt_add st2 _ 1) (by have := K2.1; omega)
      have lr : lstAt st3 st2.length = some [.int r[j]] := D3.lst (by rw [lstAt_len]; rfl) (by have := K2.1; omega)
      have K3 : KeepS s st st3 := K2.trans ((KeepS.app s st2 _).trans D3.keep)
      obtain ⟨v, av, hv, tv⟩ : ∃ v, L2.atI vs vi = some v ∧ (∀ i, v ≠ .int i) ∧ ((∀ st' : Sto, ∃ t, tyOf st' v = some t) ∨ v = .ref st2.length) := by
        have : vi = 0 ∨ vi = 1 ∨ vi = 2 ∨ vi = 3 ∨ vi = 4 ∨ vi = 5 := by omega
        rcases this with rfl | rfl | rfl | rfl | rfl | rfl
        · exact ⟨.bl true, rfl, (fun i e => by cases e), .inl fun _ => ⟨_, rfl⟩⟩
        · exact ⟨.bl false, rfl, (fun i e => by cases e), .inl fun _ => ⟨_, rfl⟩⟩
        · exact ⟨.non, rfl, (fun i e => by cases e), .inl fun _ => ⟨_, rfl⟩⟩
        · exact ⟨.str (Str.ofString r[j].repr), rfl, (fun i e => by cases e), .inl fun _ => ⟨_, rfl⟩⟩
        · exact ⟨.tup [.int r[j]], rfl, (fun i e => by cases e), .inl fun _ => ⟨_, rfl⟩⟩
        · exact ⟨.ref st2.length, rfl, (fun i e => by cases e), .inr rfl⟩
      have sl := setlen v
      have this := bad_tupL (hl := by simp; omega) (st := st) (st2 := st3.set st.length (.lst ((r.map D.int).set j v))) (n := n) (N := N + 3) (ds := (r.map D.int).set j v) ((D3.src.put (by omega)).mono (by omega)) hs (K3.put (Nat.le_refl _) _) (by rw [split]; exact rowB_odd hv) (fun st' o e he => by
        rcases mem_set_or he with q | q
        · exact ty_ints e q
        · rcases tv with tv | tv
          · rw [q]; exact tv st'
          · rcases o with o | o
            · rw [q, tv, o]
              exact ⟨_, ty_lst (by rw [lstAt_set_ne (by have := K2.1; have := lstAt_lt l2; omega)]; exact lr)⟩
            · exfalso
              have : D.loL st.length ((r.map D.int).set j v) = true := o
              rw [split, tv] at this
              have lo : ∀ (p q : List D), D.loL st.length (p ++ .ref st2.length :: q) = false := fun p q => by
                induction p with
                | nil =>
                  show (D.lo st.length (.ref st2.length) && _) = false
                  have : D.lo st.length (.ref st2.length) = false := by show decide (st2.length < st.length) = false; have := K2.1; simp; omega
                  rw [this]; rfl
                | cons x p ih =>
                  show (D.lo st.length x && D.loL st.length (p ++ .ref st2.length :: q)) = false
                  rw [ih]; simp
              rw [lo] at this; cases this)
      rw [List.length_map] at ij
      rw [List.length_set, List.length_map] at sl
      have l4 : lstAt (st3.set st.length (.lst ((r.map D.int).set j v))) st.length = some ((r.map D.int).set j v) := lstAt_set (lstAt_lt l3)
      simp [zr, newL, e1, e2, l2, aj, so, z6, z1, e3, lv, vs, av, l3, putL_ref, ij, l4, sl]
      exact this
    · obtain ⟨c0, ct, hcons⟩ : ∃ c0 ct, r = c0 :: ct := by
        cases r with
        | nil => simp at rl; omega
        | cons x t => exact ⟨x, t, rfl⟩
      by_cases k1 : kd = 1 ∧ 1 < r.length
      · -- a card twice
        obtain ⟨k1, len⟩ := k1
        subst k1
        have leni : (1 : Int) < (r.length : Nat) := by omega
        have c1 := cut_take (r.map D.int) 1
        have c2 := cut_take (r.map D.int) (r.length - 1)
        rw [show ((r.length - 1 : Nat) : Int) = (r.length : Int) - 1 by omega] at c2
        have ds0 : (r.map D.int).take 1 ++ (r.map D.int).take (r.length - 1) = .int c0 :: .int c0 :: (ct.map D.int).take (r.length - 2) := by
          rw [hcons]
          have : (c0 :: ct).length - 1 = ((c0 :: ct).length - 2) + 1 := by rw [← hcons]; omega
          rw [this]
          simp
        have this := bad_tupL (hl := by simp; omega) (st := st) (st2 := st2 ++ [.lst ((r.map D.int).take 1), .lst ((r.map D.int).take (r.length - 1)), .lst ((r.map D.int).take 1 ++ (r.map D.int).take (r.length - 1))]) (n := n) (N := N + 3) (ds := (r.map D.int).take 1 ++ (r.map D.int).take (r.length - 1)) ((D2.src.app _).mono (by omega)) hs (K2.trans (KeepS.app _ _ _)) (by rw [ds0]; simp [rowB]) (fun st' o e he => by
          rw [← List.map_take, ← List.map_take, ← List.map_append] at he
          exact ty_ints e he)
        have zz : ((r.map D.int).take 1).length + ((r.map D.int).take (r.length - 1)).length ≤ sizeLine := by
          rw [List.length_take, List.length_take, List.length_map]; exact sz (by omega)
        have c1' : cutD (r.map D.int) none (some 1) = (r.map D.int).take 1 := c1
        have l3 : lstAt (st2 ++ [.lst ((r.map D.int).take 1)]) st.length = some (r.map D.int) := by rw [lstAt_app (lstAt_lt l2)]; exact l2
        have l4 : lstAt (st2 ++ [.lst ((r.map D.int).take 1), .lst ((r.map D.int).take (r.length - 1))]) st2.length = some ((r.map D.int).take 1) := by rw [lstAt_len]; rfl
        have l5 : lstAt (st2 ++ [.lst ((r.map D.int).take 1), .lst ((r.map D.int).take (r.length - 1))]) (st2.length + 1) = some ((r.map D.int).take (r.length - 1)) := lstAt_add st2 _ 1
        have l6 : lstAt (st2 ++ [.lst ((r.map D.int).take 1), .lst ((r.map D.int).take (r.length - 1)), .lst ((r.map D.int).take 1 ++ (r.map D.int).take (r.length - 1))]) (st2.length + 2) = some ((r.map D.int).take 1 ++ (r.map D.int).take (r.length - 1)) := lstAt_add st2 _ 2
        generalize (r.map D.int).take 1 = A at *
        generalize (r.map D.int).take (r.length - 1) = B at *
        simp [zr, newL, e1, e2, leni, l2, c1', c2, l3, l4, l5, l6, zz]
        exact this
      · by_cases k2 : kd = 2 ∧ 1 < r.length
        · -- turned about
          obtain ⟨k2, len⟩ := k2
          subst k2
          have leni : (1 : Int) < (r.length : Nat) := by omega
          have bI : rngI ((r.length : Nat) : Int) = true := rngI_of (by omega) (by omega)
          have lc := lcGo_of (src := []) (g := gN 6) (c := bTrue) (e := eB2 ixR (eV 3) (eB2 subR (eB2 subR (eU1 lenR (eV 3)) (eC (.int 1))) (eV 6))) (C := callN Tbl (k + 1)) (env := [some (.ref s), some (dT r), some (.int n), some (.ref st.length), some (.int j), some (.int 2), none]) (st := st2) (fun (i : Nat) => D.int (i : Int)) (fun _ => true) (fun (i : Nat) => D.int (r.getD (r.length - 1 - i) 0)) rfl (List.range r.length) [] (fun i hi => by
            refine ⟨_, rfl, rfl, fun _ => ?_⟩
            have hi := List.mem_range.mp hi
            have ai : L2.atI (r.map D.int) ((r.length : Int) - 1 - (i : Int)) = some (.int (r.getD (r.length - 1 - i) 0)) := by
              rw [show (r.length : Int) - 1 - (i : Int) = ((r.length - 1 - i : Nat) : Int) by omega, atI_nat, List.getElem?_map, List.getD_eq_getElem?_getD, List.getElem?_eq_getElem (by omega)]; rfl
            simp [l2, ai])
          rw [filter_true, List.nil_append] at lc
          obtain ⟨m2, hm2⟩ : ∃ m2, r.length = m2 + 1 + 1 := ⟨r.length - 2, by omega⟩
          have rows : (List.range r.length).map (fun (i : Nat) => D.int (r.getD (r.length - 1 - i) 0)) = .int (r.getD (m2 + 1) 0) :: .int (r.getD m2 0) :: (List.range m2).map fun (i : Nat) => D.int (r.getD (r.length - 1 - (i + 1 + 1)) 0) := by
            rw [hm2, List.range_succ_eq_map, List.map_cons, List.map_map, List.range_succ_eq_map, List.map_cons, List.map_map]
            rfl
          have desc : r.getD m2 0 < r.getD (m2 + 1) 0 := by
            rw [List.getD_eq_getElem?_getD, List.getD_eq_getElem?_getD, List.getElem?_eq_getElem (by omega), List.getElem?_eq_getElem (by omega)]
            exact List.pairwise_iff_getElem.mp hr.2.1 m2 (m2 + 1) (by omega) (by omega) (by omega)
          have this := bad_tupL (hl := by simp; omega) (st := st) (st2 := st2 ++ [.lst ((List.range r.length).map (fun (i : Nat) => D.int (r.getD (r.length - 1 - i) 0)))]) (n := n) (N := N + 3) (ds := (List.range r.length).map (fun (i : Nat) => D.int (r.getD (r.length - 1 - i) 0))) ((D2.src.app _).mono (by omega)) hs (K2.trans (KeepS.app _ _ _)) (by
            rw [rows, ← Bool.not_eq_true]
            intro z
            simp only [rowB, Bool.and_eq_true, decide_eq_true_eq] at z
            omega) (fun st' o e he => by
              obtain ⟨i, _, rfl⟩ := List.mem_map.mp he
              exact ⟨_, rfl⟩)
          have gl : ((List.range r.length).map (fun (i : Nat) => D.int (r.getD (r.length - 1 - i) 0))).length ≤ sizeLine := by rw [List.length_map, List.length_range]; exact zr
          have l3 := lstAt_app_len (st := st2) ((List.range r.length).map (fun (i : Nat) => D.int (r.getD (r.length - 1 - i) 0)))
          generalize (List.range r.length).map (fun (i : Nat) => D.int (r.getD (r.length - 1 - i) 0)) = G at *
          simp only [dT, tupF] at lc
          simp [zr, newL, e1, e2, leni, l2, bI, lc, l3, gl]
          exact this
        · -- out of range
          let vs : List D := [.int (-1), .int n, .int ((n : Int) + 7), .int 1000000000000000000000000000000]
          obtain ⟨vi, st3, e3, p3, q3, D3⟩ := pickK k (D2.src.app [.lst vs]) (m := 4) (by omega) (by omega) (by omega)
          have l3 : lstAt st3 st.length = some (r.map D.int) := D3.lst (by rw [lstAt_app (lstAt_lt l2)]; exact l2) (by omega)
          have lv : lstAt st3 st2.length = some vs := D3.lst (lstAt_app_len _) (by have := K2.1; omega)
          have K3 : KeepS s st st3 := K2.trans ((KeepS.app s st2 _).trans D3.keep)
          obtain ⟨x, av, hv⟩ : ∃ x : Int, L2.atI vs vi = some (.int x) ∧ ¬ (-1 < x ∧ x < (n : Int)) := by
            have : vi = 0 ∨ vi = 1 ∨ vi = 2 ∨ vi = 3 := by omega
            rcases this with rfl | rfl | rfl | rfl
            · exact ⟨-1, rfl, by omega⟩
            · exact ⟨n, rfl, by omega⟩
            · exact ⟨(n : Int) + 7, rfl, by omega⟩
            · exact ⟨1000000000000000000000000000000, rfl, by omega⟩
          have sl := setlen (.int x)
          have this := bad_tupL (hl := by simp; omega) (st := st) (st2 := st3.set st.length (.lst ((r.map D.int).set j (.int x)))) (n := n) (N := N + 3) (ds := (r.map D.int).set j (.int x)) ((D3.src.put (by omega)).mono (by omega)) hs (K3.put (Nat.le_refl _) _) (by
            rw [← Bool.not_eq_true, split]
            intro z
            exact hv (rowB_int z)) (fun st' o e he => by
              rcases mem_set_or he with q | q
              · exact ty_ints e q
              · rw [q]; exact ⟨_, rfl⟩)
          rw [List.length_map] at ij
          rw [List.length_set, List.length_map] at sl
          have l4 : lstAt (st3.set st.length (.lst ((r.map D.int).set j (.int x)))) st.length = some ((r.map D.int).set j (.int x)) := lstAt_set (lstAt_lt l3)
          have pow : powOk 10 30 = true := of_tsd (by decide)
          have kk : kd = 0 ∨ kd = 5 ∨ ((kd = 1 ∨ kd = 2) ∧ ¬ (1 : Int) < (r.length : Nat)) := by omega
          rcases kk with rfl | rfl | ⟨rfl | rfl, nl⟩
          · simp [zr, newL, e1, e2, l2, z4, pow, e3, lv, vs, av, l3, putL_ref, ij, l4, sl]
            exact this
          · simp [zr, newL, e1, e2, l2, z4, pow, e3, lv, vs, av, l3, putL_ref, ij, l4, sl]
            exact this
          · simp [zr, newL, e1, e2, l2, z4, pow, e3, lv, vs, av, l3, putL_ref, ij, l4, sl, nl]
            exact this
          · simp [zr, newL, e1, e2, l2, z4, pow, e3, lv, vs, av, l3, putL_ref, ij, l4, sl, nl]
            exact this

def ThOut (st : Sto) (s N : Nat) (r : Res D) : Prop := ∃ d st', r = .ok d st' ∧ TyL st' d ∧ Src st' s N ∧ KeepS s st st'
theorem tyE_lo {st2 : Sto} {n : Nat} {x : D} (hl : D.lo n x = true) (h : tyE st2 x) : tyE (st2.take n) x := by
  obtain ⟨⟨⟨t, h1⟩, h2⟩, h3⟩ := h
  refine ⟨⟨⟨t, ty_lo hl h1⟩, fun ds e y hy => ?_⟩, h3⟩
  obtain ⟨t2, q⟩ := h2 ds e y hy
  subst e
  exact ⟨t2, ty_lo (loL_memX hl hy) q⟩
theorem thing_gcL {st st2 : Sto} {s N : Nat} {d : D} (h : Src st2 s N) (hs : s < st.length) (k : KeepS s st st2) (ht : TyL st2 d) : ThOut st s N (gc st d st2) := by
  have old := h.old hs k
  obtain ⟨⟨t, h1⟩, h2⟩ := ht
  by_cases c : d.lo st.length = true
  · refine ⟨d, st2.take st.length, gc_val old c, ⟨⟨t, ty_lo c h1⟩, fun ds e => ?_⟩, h.take hs, ⟨by rw [List.length_take]; have := k.1; omega, fun j hj hjs => by rw [List.getElem?_take_of_lt hj]; exact k.2 j hj hjs⟩⟩
    obtain ⟨q1, q2⟩ := h2 ds e
    subst e
    exact ⟨q1, fun x hx => tyE_lo (loL_memX c hx) (q2 x hx)⟩
  · by_cases hr : ∃ i, d = .ref i
    · obtain ⟨i, rfl⟩ := hr
      obtain ⟨d', st', g, t', b', S', K'⟩ := gc_odd (n := 0) h hs k ⟨⟨t, h1⟩, fun ds e => by cases e⟩ rfl
      refine ⟨d', st', g, ⟨t'.1, fun ds e => ?_⟩, S', K'⟩
      subst e
      exfalso
      unfold gc at g
      rw [if_pos old, if_neg c] at g
      cases hc : st2[i]? with
      | none =>
        rw [show tyOf st2 (.ref i) = (match st2[i]? with | some (.lst _) => some Ty.lst | some (.dct _) => some Ty.dict | none => none) from rfl, hc] at h1
        cases h1
      | some cc =>
        simp only [hc] at g
        split at g <;> cases g
    · refine ⟨d, st2, ?_, ⟨⟨t, h1⟩, h2⟩, h, k⟩
      unfold gc
      rw [if_pos old, if_neg c]
      cases d with
      | ref i => exact absurd ⟨i, rfl⟩ hr
      | _ => rfl

theorem tyE_row {st : Sto} {r : List Int} (h : r.length ≤ 100) : tyE st (dT r) := ⟨tyOk_row r, fun ds e => by cases e; rw [List.length_map]; exact h⟩
theorem tyL_rows {st : Sto} {L : List (List Int)} (h : ∀ r, r ∈ L → r.length ≤ 100) (hl : L.length ≤ 10000) : TyL st (dTT L) := ⟨⟨_, rfl⟩, fun ds e => by
  cases e
  refine ⟨by rw [List.length_map]; exact hl, fun d hd => ?_⟩
  obtain ⟨r, hr, rfl⟩ := List.mem_map.mp hd
  exact tyE_row (h r hr)⟩
theorem tyL_set {st : Sto} {L : List (List Int)} {j : Nat} {v : D} (h : ∀ r, r ∈ L → r.length ≤ 100) (hl : L.length ≤ 10000) (hv : tyE st v) : TyL st (.tup ((L.map dT).set j v)) := ⟨⟨_, rfl⟩, fun ds e => by
  cases e
  refine ⟨by rw [List.length_set, List.length_map]; exact hl, fun d hd => ?_⟩
  rcases mem_set_or hd with q | q
  · obtain ⟨r, hr, rfl⟩ := List.mem_map.mp q
    exact tyE_row (h r hr)
  · rw [q]; exact hv⟩
theorem ty_setL {W : Sto} {f : Nat} {ds es : List D} (h : lstAt W f = some ds) {x : D} {t : Ty} (ht : tyOf W x = some t) : tyOf (W.set f (.lst es)) x = some t := by
  cases x with
  | ref i =>
    have e : ∀ s : Sto, tyOf s (.ref i) = (match s[i]? with | some (.lst _) => some Ty.lst | some (.dct _) => some Ty.dict | none => none) := fun _ => rfl
    by_cases q : i = f
    · subst q
      have t1 := ty_lst h
      rw [t1] at ht; cases ht
      exact ty_lst (lstAt_set (lstAt_lt h))
    · rw [e] at ht ⊢
      rw [List.getElem?_set_ne (Ne.symm q)]
      exact ht
  | _ => exact ht
theorem tyE_setL {W : Sto} {f : Nat} {ds es : List D} (h : lstAt W f = some ds) {x : D} (hx : tyE W x) : tyE (W.set f (.lst es)) x := by
  obtain ⟨⟨⟨t, h1⟩, h2⟩, h3⟩ := hx
  exact ⟨⟨⟨t, ty_setL h h1⟩, fun ds e y hy => by obtain ⟨t2, q⟩ := h2 ds e y hy; exact ⟨t2, ty_setL h q⟩⟩, h3⟩
theorem tyE_nil {W : Sto} : tyE W (.tup []) := ⟨⟨⟨_, rfl⟩, fun ds e x hx => by cases e; cases hx⟩, fun ds e => by cases e; simp⟩
theorem lrow_any {C : Call} {st : Sto} {x0 x1 : Option D} {n : Nat} : ∀ (ds : List D) (last : Int) (y : Option D), (∀ d, d ∈ ds → ∃ t, tyOf st d = some t) →
    if rowB n last ds then ∃ env2, forGo [] (gN 4) lrow C ds [x0, x1, some (.int n), some (.int (last + 1)), y] st = .nx env2 st else forGo [] (gN 4) lrow C ds [x0, x1, some (.int n), some (.int (last + 1)), y] st = .ret (.bl false) st
  | [], last, y, _ => by simp [rowB, forGo]
  | d :: ds, last, y, h => by
    obtain ⟨t, ht⟩ := h d List.mem_cons_self
    by_cases ei : t = .int
    · subst ei
      obtain ⟨i, rfl⟩ := tyInt ht
      by_cases h1 : last < i
      · by_cases h2 : i < n
        · have ih := lrow_any (C := C) (st := st) (x0 := x0) (x1 := x1) (n := n) ds i (some (.int i)) fun d' hd => h d' (List.mem_cons_of_mem _ hd)
          have e1 : ¬ i < last + 1 := by omega
          have e2 : ¬ (n : Int) ≤ i := by omega
          have q : lrow C [x0, x1, some (.int n), some (.int (last + 1)), some (.int i)] st = .nx [x0, x1, some (.int n), some (.int (i + 1)), some (.int i)] st := by
            simp [subT, e1, e2]
          rw [forGo_step rfl rfl q]
          simp only [rowB, h1, h2, decide_true, Bool.true_and]
          exact ih
        · have e1 : ¬ i < last + 1 := by omega
          have e2 : (n : Int) ≤ i := by omega
          simp [rowB, h2, forGo, subT, e1, e2]
      · have e1 : i < last + 1 := by omega
        simp [rowB, h1, forGo, subT, e1]
    · have rb : rowB n last (d :: ds) = false := by
        cases d <;> first | rfl | skip
        simp at ht; exact absurd ht.symm ei
      by_cases eb : t = .bool
      · subst eb
        simp [rb, forGo, ht, subT]
      · have s1 : subT t .bool = false := by cases t <;> first | rfl | exact absurd rfl eb
        have s2 : subT t .int = false := by cases t <;> first | rfl | exact absurd rfl ei | exact absurd rfl eb
        simp [rb, forGo, ht, s1, s2]
theorem lis_row_any (k : Nat) {st : Sto} {d : D} {m n : Nat} (h : tyE st d) : callN Tbl (k + 1) n_law_is_row [d, .int m, .int n] st = .ok (.bl (isHandD m n d)) st := by
  rw [run_eq (Tbl := Tbl) (f := n_law_is_row) (body := (sSeq (sIf (bOr (bNot (bOf (eU1 (isiR .tup) (eV 0)))) (bCmp neB (eU1 lenR (eV 0)) (eV 1))) (sSeq (sRet (eC (.bl false))) sNx) sNx) (sSeq (sSet 3 (eC (.int 0))) (sSeq (sFor (siOf (eV 0)) (gN 4) lrow) (sSeq (sRet (eC (.bl true))) sNx))))) rfl rfl]
  obtain ⟨⟨⟨t, ht⟩, hx⟩, hl⟩ := h
  have gk : ∀ b, gc st (.bl b) st = .ok (.bl b) st := fun b => gc_keep (KeepS.refl _ _) rfl
  by_cases e : t = .tup
  · subst e
    obtain ⟨ds, rfl⟩ := tyTup ht
    have zl : ds.length ≤ sizeLine := sz (hl ds rfl)
    by_cases hn : ds.length = m
    · have q := lrow_any (C := callN Tbl k) (st := st) (x0 := some (.tup ds)) (x1 := some (.int m)) (n := n) ds (-1) none (hx ds rfl)
      have q0 : (-1 : Int) + 1 = 0 := rfl
      rw [q0] at q
      by_cases hb : rowB n (-1) ds = true
      · rw [if_pos hb] at q
        obtain ⟨env2, q⟩ := q
        generalize lrow = B at q ⊢
        simp [zl, hn, q, gk, isHandD, hb]
      · rw [if_neg hb] at q
        rw [Bool.not_eq_true] at hb
        generalize lrow = B at q ⊢
        simp [zl, hn, q, gk, isHandD, hb]
    · have hn' : ¬ ((ds.length : Nat) : Int) = (m : Nat) := by omega
      have : isHandD m n (.tup ds) = false := by simp [isHandD, hn]
      simp [zl, hn, hn', gk, this]
  · have e2 : subT t .tup = false := by cases t <;> first | rfl | exact absurd rfl e
    have : isHandD m n d = false := by
      cases d <;> first | rfl | skip
      simp at ht; exact absurd ht.symm e
    simp [ht, e2, this, gk]
/-- no size at all: below 0, or m and more; or no integer -/
inductive Sz (st : Sto) (m : Nat) : D → Prop
  | int (i : Int) (h : i < 0 ∨ (m : Int) ≤ i) : Sz st m (.int i)
  | bl (b : Bool) : Sz st m (.bl b)
  | str (x : Str) (h : SeqAt.shaped (.str x) = true) : Sz st m (.str x)
  | tup : Sz st m (.tup [.int 1])
  | lst (i : Nat) (h : lstAt st i = some [.int 1]) : Sz st m (.ref i)
  | dct (i : Nat) (h : st[i]? = some (.dct [])) : Sz st m (.ref i)
theorem Sz.app {st : Sto} {m : Nat} {d : D} (h : Sz st m d) (g : Sto) : Sz (st ++ g) m d := by
  cases h with
  | int i h => exact .int i h
  | bl b => exact .bl b
  | str x h => exact .str x h
  | tup => exact .tup
  | lst i h => exact .lst i (by rw [lstAt_app (lstAt_lt h)]; exact h)
  | dct i h => exact .dct i (by rw [List.getElem?_append_left (List.getElem?_eq_some_iff.mp h).1]; exact h)
theorem ty_dct {st : Sto} {i : Nat} {ks : List (D × D)} (h : st[i]? = some (.dct ks)) : tyOf st (.ref i) = some .dict := by
  have e : tyOf st (.ref i) = (match st[i]? with | some (.lst _) => some Ty.lst | some (.dct _) => some Ty.dict | none => none) := rfl
  rw [e, h]
noncomputable abbrev a4 (w x y z : SE) : SL := lCons w (lCons x (lCons y (lCons z lNil)))
section
variable {a b c n : Nat} {lot : List (List Int)} {x0 x1 x5 : Option D} {d : D} {st : Sto}
end

section
variable {a b c n : Nat} {lot : List (List Int)} {x0 x1 x5 : Option D} {d : D} {st : Sto}
end
section
variable {st : Sto} {x y : D}
end
theorem tyOk_tup {st : Sto} {ds : List D} (h : ∀ x, x ∈ ds → ∃ t, tyOf st x = some t) : tyOk st (.tup ds) := ⟨⟨_, rfl⟩, fun es e x hx => by cases e; exact h x hx⟩
theorem intL_map : ∀ r : List Int, intL (r.map D.int) = some r
  | [] => rfl
  | x :: r => by
    show (intL (r.map D.int)).map (x :: ·) = _
    rw [intL_map r]; rfl
def intsD : D → List Int
  | .tup ds => (intL ds).getD []
  | _ => []
theorem intsD_row (r : List Int) : intsD (dT r) = r := by
  show (intL (r.map D.int)).getD [] = r
  rw [intL_map]; rfl
/-- three rows that share out all cards -/
def dealB (a b c n : Nat) : D → Bool
  | .tup [x, y, z] => isHandD a n x && (isHandD b n y && (isHandD c n z && decide (setLen (intsD x ++ intsD y ++ intsD z) = n)))
  | _ => false
theorem handD_back {a n : Nat} {d : D} (h : isHandD a n d = true) : ∃ r, d = dT r ∧ IsHand a n r := by
  cases d with
  | tup ds =>
    simp only [isHandD, Bool.and_eq_true, decide_eq_true_eq] at h
    obtain ⟨r, rfl, h1, h2⟩ := rowB_back h.1
    exact ⟨r, rfl, by simpa using h.2, h1, fun x hx => by have := h2 x hx; omega⟩
  | _ => cases h
noncomputable abbrev dealBody : SS := (sSeq (sIf (bOr (bNot (bOf (eCall 15 (lCons (eV 3) (lCons (eV 2) lNil))))) (bCmp neB (eU1 lenR (eV 3)) (eV 4))) (sSeq (sRet (eC (.bl false))) sNx) sNx) sNx)
theorem deal_step (k : Nat) {st : Sto} {x0 x1 : Option D} {x : D} {m n : Nat} (h : tyOk st x) : dealBody (callN Tbl (k + 2)) [x0, x1, some (.int n), some x, some (.int m)] st = if isHandD m n x then .nx [x0, x1, some (.int n), some x, some (.int m)] st else .ret (.bl false) st := by
  have h2 : callN Tbl (k + 2) 15 [x, .int n] st = .ok (.bl (isRowD n x)) st := is_row_any k (n : Int) h
  by_cases hr : isRowD n x = true
  · cases x with
    | tup ds =>
      simp only [isRowD] at hr
      have nb : neB st (.int (ds.length : Nat)) (.int m) = some (!decide ((ds.length : Int) = m)) := by unfold neB; rw [eqB_int]; rfl
      by_cases hl : ds.length = m
      · subst hl
        simp [h2, isRowD, hr, isHandD]
      · have hl' : ¬ (ds.length : Int) = m := by omega
        simp [h2, isRowD, hr, isHandD, hl, hl']
    | _ => cases hr
  · have hf : isHandD m n x = false := by
      cases x with
      | tup ds => simp [isRowD] at hr; simp [isHandD, hr]
      | _ => rfl
    simp [h2, hr, hf]
/-- a thing and, if it is a tuple, its parts: of known types -/
def tyDeal (st : Sto) (d : D) : Prop := (∃ t, tyOf st d = some t) ∧ ∀ ds, d = .tup ds → ∀ x, x ∈ ds → tyOk st x
theorem is_deal_any (k : Nat) {st : Sto} {a b c n : Nat} (S : Stg a b c n) {d : D} (h : tyDeal st d) : callN Tbl (k + 4) n_is_deal [setD a b c, d] st = .ok (.bl (dealB a b c n d)) st := by
  rw [run_eq (Tbl := Tbl) (f := n_is_deal) (body := (sSeq (sExp (eCall 2 (lCons (eV 0) lNil))) (sSeq (sIf (bOr (bNot (bOf (eU1 (isiR .tup) (eV 1)))) (bCmp neB (eU1 lenR (eV 1)) (eC (.int 3)))) (sSeq (sRet (eC (.bl false))) sNx) sNx) (sSeq (sSet 2 (eA sumQ (lSeq (eV 0)))) (sSeq (sFor (siZip (kOf (eV 1)) (kOf (eV 0))) (gTup [(gN 3), (gN 4)]) dealBody) (sSeq (sRet (eB2 (cB eqB) (eU1 lenSetR (eB2 addR (eB2 addR (eB2 ixR (eV 1) (eC (.int 0))) (eB2 ixR (eV 1) (eC (.int 1)))) (eB2 ixR (eV 1) (eC (.int 2))))) (eV 2))) sNx)))))) rfl rfl]
  have sum := S.sum; have le := S.le
  have ck := S.chk k st
  obtain ⟨⟨t, ht⟩, hx⟩ := h
  by_cases e : ∃ ds, d = .tup ds
  · obtain ⟨ds, rfl⟩ := e
    by_cases hl : ds.length = 3
    · obtain ⟨x, y, z, rfl⟩ : ∃ x y z, ds = [x, y, z] := by
        match ds, hl with
        | [x, y, z], _ => exact ⟨x, y, z, rfl⟩
      have hx := hx _ rfl
      have s1 := fun x0 x1 => deal_step (k + 1) (x0 := x0) (x1 := x1) (m := a) (n := n) (hx x (by simp))
      have s2 := fun x0 x1 => deal_step (k + 1) (x0 := x0) (x1 := x1) (m := b) (n := n) (hx y (by simp))
      have s3 := fun x0 x1 => deal_step (k + 1) (x0 := x0) (x1 := x1) (m := c) (n := n) (hx z (by simp))
      have loop : ∀ x0 x1 x3 x4, forGo [] (gTup [(gN 3), (gN 4)]) dealBody (callN Tbl (k + 3)) [.tup [x, .int a], .tup [y, .int b], .tup [z, .int c]] [x0, x1, some (.int n), x3, x4] st = if isHandD a n x && (isHandD b n y && isHandD c n z) then .nx [x0, x1, some (.int n), some z, some (.int c)] st else .ret (.bl false) st := by
        intro x0 x1 x3 x4
        have s1 := s1 x0 x1
        have s2 := s2 x0 x1
        have s3 := s3 x0 x1
        generalize dealBody = B at *
        by_cases q1 : isHandD a n x = true
        · rw [if_pos q1] at s1
          by_cases q2 : isHandD b n y = true
          · rw [if_pos q2] at s2
            by_cases q3 : isHandD c n z = true
            · rw [if_pos q3] at s3
              simp [forGo, s1, s2, s3, q1, q2, q3]
            · rw [if_neg q3] at s3
              simp [forGo, s1, s2, s3, q1, q2, q3]
          · rw [if_neg q2] at s2
            simp [forGo, s1, s2, q1, q2]
        · rw [if_neg q1] at s1
          simp [forGo, s1, q1]
      have z3 : 3 ≤ sizeLine := sz (by decide)
      have zz : zipD [x, y, z] [.int a, .int b, .int c] = [.tup [x, .int a], .tup [y, .int b], .tup [z, .int c]] := rfl
      by_cases q : (isHandD a n x && (isHandD b n y && isHandD c n z)) = true
      · have lp := loop (some (setD a b c)) (some (.tup [x, y, z])) none none
        rw [if_pos q] at lp
        simp only [Bool.and_eq_true] at q
        obtain ⟨q1, q2, q3⟩ := q
        obtain ⟨r1, rfl, h1⟩ := handD_back q1
        obtain ⟨r2, rfl, h2⟩ := handD_back q2
        obtain ⟨r3, rfl, h3⟩ := handD_back q3
        have z1 : r1.length + r2.length ≤ sizeLine := sz (by have := h1.1; have := h2.1; omega)
        have z2 : r1.length + r2.length + r3.length ≤ sizeLine := sz (by have := h1.1; have := h2.1; have := h3.1; omega)
        have il : intL (r1.map D.int ++ (r2.map D.int ++ r3.map D.int)) = some (r1 ++ (r2 ++ r3)) := by
          rw [← List.map_append, ← List.map_append, intL_map]
        have l60 : r1.length + (r2.length + r3.length) < 60 := by have := h1.1; have := h2.1; have := h3.1; omega
        simp only [dealB, q1, q2, q3, intsD_row, Bool.true_and]
        generalize dealBody = B at lp ⊢
        simp only [dT, tupF] at lp ⊢
        simp [ck, S.sm, zz, lp, z1, z2, lenSetR, il, l60]
        exact Int.ofNat_inj
      · have lp := loop (some (setD a b c)) (some (.tup [x, y, z])) none none
        rw [if_neg q] at lp
        have : dealB a b c n (.tup [x, y, z]) = false := by
          simp only [dealB]
          revert q
          cases isHandD a n x <;> cases isHandD b n y <;> cases isHandD c n z <;> simp
        generalize dealBody = B at lp ⊢
        simp [ck, S.sm, zz, lp, this]
    · have hl' : ¬ (ds.length : Int) = 3 := by omega
      have : dealB a b c n (.tup ds) = false := by
        match ds, hl with
        | [], _ => rfl
        | [_], _ => rfl
        | [_, _], _ => rfl
        | [_, _, _], h => exact absurd rfl h
        | _ :: _ :: _ :: _ :: _, _ => rfl
      simp [ck, hl', this]
  · have : dealB a b c n d = false := by
      cases d with
      | tup ds => exact absurd ⟨ds, rfl⟩ e
      | _ => rfl
    have e2 : subT t .tup = false := by
      cases d with
      | tup ds => exact absurd ⟨ds, rfl⟩ e
      | ref i =>
        have : t = .lst ∨ t = .dict := by
          unfold tyOf at ht
          simp only at ht
          split at ht <;> cases ht
          · exact .inl rfl
          · exact .inr rfl
        rcases this with rfl | rfl <;> rfl
      | _ => cases ht <;> rfl
    simp [ck, ht, e2, this]

section
variable (st : Sto)
end
theorem tyE_app {st : Sto} {d : D} (h : tyE st d) (g : Sto) : tyE (st ++ g) d := ⟨tyOk_app h.1 g, h.2⟩
theorem eraseDups_le : ∀ (m : Nat) (l : List Int), l.length ≤ m → l.eraseDups.length ≤ l.length
  | _, [], _ => by simp
  | 0, a :: l, h => by simp at h
  | m + 1, a :: l, h => by
    rw [List.eraseDups_cons, List.length_cons, List.length_cons]
    have h1 : (l.filter fun b => !b == a).length ≤ l.length := List.length_filter_le _ _
    have := eraseDups_le m (l.filter fun b => !b == a) (Nat.le_trans h1 (by simpa using h))
    omega
theorem nodup_of_dups : ∀ (m : Nat) (l : List Int), l.length ≤ m → l.eraseDups.length = l.length → l.Nodup
  | _, [], _, _ => List.nodup_nil
  | 0, a :: l, h, _ => by simp at h
  | m + 1, a :: l, h, e => by
    rw [List.eraseDups_cons, List.length_cons, List.length_cons] at e
    have h1 : (l.filter fun b => !b == a).length ≤ l.length := List.length_filter_le _ _
    have h2 : l.length ≤ m := by simpa using h
    have h3 := eraseDups_le m (l.filter fun b => !b == a) (Nat.le_trans h1 h2)
    have h4 : (l.filter fun b => !b == a).length = l.length := by omega
    have h5 : l.filter (fun b => !b == a) = l := (List.filter_sublist (l := l)).eq_of_length h4
    rw [h5] at e
    refine List.nodup_cons.mpr ⟨fun hm => ?_, nodup_of_dups m l h2 (by omega)⟩
    rw [← h5] at hm
    simp at hm
/-- as many unlike cards as there are: sorted, they are all cards -/
theorem deal_all {n : Nat} {l : List Int} (hl : l.length = n) (hr : ∀ x, x ∈ l → 0 ≤ x ∧ x < n) : decide (l.mergeSort leZ = iota n) = decide (setLen l = n) := by
  have : l.mergeSort leZ = iota n ↔ setLen l = n := by
    constructor
    · intro e
      have p : l.Perm (iota n) := by rw [← e]; exact (List.mergeSort_perm l leZ).symm
      have nd : l.Nodup := p.nodup_iff.mpr (asc_nodup (iota_asc n))
      have := setLen_of nd (fun k => Iff.rfl)
      omega
    · intro e
      have nd : l.Nodup := nodup_of_dups _ l (Nat.le_refl _) (by unfold setLen at e; omega)
      exact ord_sort ⟨hl, nd, hr⟩
  by_cases c : setLen l = n
  · rw [decide_eq_true c, decide_eq_true (this.mpr c)]
  · rw [decide_eq_false c, decide_eq_false fun h => c (this.mp h)]
noncomputable abbrev dlB : SS := (sSeq (sIf (bNot (bOf (eCall 158 (lCons (eB2 ixR (eV 0) (eV 3)) (lCons (eB2 ixR (eV 1) (eV 3)) (lCons (eA sumQ (lSeq (eV 1))) lNil)))))) (sSeq (sRet (eC (.bl false))) sNx) sNx) (sSeq (sSet 2 (eB2 addR (eV 2) (eNew (lMap (fun _ ds => some ds) (lSeq (eB2 ixR (eV 0) (eV 3))))))) sNx))
section
variable {C : Call} {G : Sto} {d SD v : D} {f j m n : Nat} {acc r : List Int}
theorem dl_t {L : Nat} {ss : List D} (hd : ixR G d (.int j) = .ok v G) (hs : ixR G SD (.int j) = .ok (.int m) G) (si : items G SD = some ss) (sm : sumQ G ss = .ok (.int n) G) (hc : C 158 [v, .int m, .int n] G = .ok (.bl true) G) (hv : v = dT r) (hf : lstAt G f = some (acc.map D.int)) (hl : acc.length + r.length ≤ 100) (hL : G.length = L) : dlB C [some d, some SD, some (.ref f), some (.int j)] G = .nx [some d, some SD, some (.ref (L + 1)), some (.int j)] (G ++ [.lst (r.map D.int), .lst ((acc ++ r).map D.int)]) := by
  have z : r.length ≤ sizeLine := sz (by omega)
  have z2 : acc.length + r.length ≤ sizeLine := sz hl
  have l1 : lstAt (G ++ [.lst (r.map D.int)]) f = some (acc.map D.int) := by rw [lstAt_app (lstAt_lt hf)]; exact hf
  subst hv
  subst hL
  simp only [dT, tupF] at hc hd
  simp [-ixR_ref, -sumQ_ints, hd, hs, si, sm, hc, newL, z, z2, l1]
theorem dl_f {ss : List D} (hd : ixR G d (.int j) = .ok v G) (hs : ixR G SD (.int j) = .ok (.int m) G) (si : items G SD = some ss) (sm : sumQ G ss = .ok (.int n) G) (hc : C 158 [v, .int m, .int n] G = .ok (.bl false) G) : dlB C [some d, some SD, some (.ref f), some (.int j)] G = .ret (.bl false) G := by
  simp [-ixR_ref, -sumQ_ints, hd, hs, si, sm, hc]
end
theorem forGo_ret {src : List (Nat × List D)} {g : SG} {b : SS} {C : Call} {d v : D} {ds : List D} {env env' : Env} {st st2 : Sto} (h : good src st = true) (hg : g d env = some env') (hb : b C env' st = .ret v st2) : forGo src g b C (d :: ds) env st = .ret v st2 := by
  rw [forGo]; simp [h, hg, hb]
/-- the loop over the three rows -/
theorem dl_loop (k : Nat) {st : Sto} {a b c n : Nat} (S : Stg a b c n) {x y z : D} (hx : ∀ e, e ∈ [x, y, z] → tyE st e) :
    (isHandD a n x && (isHandD b n y && isHandD c n z)) = true ∧ (∃ r1 r2 r3 G, x = dT r1 ∧ y = dT r2 ∧ z = dT r3 ∧ IsHand a n r1 ∧ IsHand b n r2 ∧ IsHand c n r3 ∧ lstAt G (st.length + 6) = some ((r1 ++ r2 ++ r3).map D.int) ∧ Keep st G ∧
      forGo [] (gN 3) dlB (callN Tbl (k + 1)) [.int (0 : Nat), .int (1 : Nat), .int (2 : Nat)] [some (.tup [x, y, z]), some (setD a b c), some (.ref st.length), none] (st ++ [.lst []]) = .nx [some (.tup [x, y, z]), some (setD a b c), some (.ref (st.length + 6)), some (.int (2 : Nat))] G) ∨
    (isHandD a n x && (isHandD b n y && isHandD c n z)) = false ∧ ∃ g, forGo [] (gN 3) dlB (callN Tbl (k + 1)) [.int (0 : Nat), .int (1 : Nat), .int (2 : Nat)] [some (.tup [x, y, z]), some (setD a b c), some (.ref st.length), none] (st ++ [.lst []]) = .ret (.bl false) (st ++ g) := by
  have sum := S.sum; have le := S.le
  have c0 : ∀ g, callN Tbl (k + 1) 158 [x, .int a, .int n] (st ++ g) = .ok (.bl (isHandD a n x)) (st ++ g) := fun g => lis_row_any k (tyE_app (hx x (by simp)) g)
  have c1 : ∀ g, callN Tbl (k + 1) 158 [y, .int b, .int n] (st ++ g) = .ok (.bl (isHandD b n y)) (st ++ g) := fun g => lis_row_any k (tyE_app (hx y (by simp)) g)
  have c2 : ∀ g, callN Tbl (k + 1) 158 [z, .int c, .int n] (st ++ g) = .ok (.bl (isHandD c n z)) (st ++ g) := fun g => lis_row_any k (tyE_app (hx z (by simp)) g)
  have l0 : lstAt (st ++ [.lst []]) st.length = some (([] : List Int).map D.int) := lstAt_app_len _
  have c0 := c0 [.lst []]
  by_cases q1 : isHandD a n x = true
  · obtain ⟨r1, e1, h1⟩ := handD_back q1
    rw [q1] at c0
    have s1 := dl_t (f := st.length) (j := 0) (r := r1) (acc := []) (C := callN Tbl (k + 1)) (SD := setD a b c) (m := a) (n := n) (d := .tup [x, y, z]) (L := st.length + 1) rfl rfl rfl (S.sm _) c0 e1 l0 (by have := h1.1; simp; omega) (by simp)
    have c1 := c1 ([.lst []] ++ [.lst (r1.map D.int), .lst (([] ++ r1).map D.int)])
    have l1 : lstAt (st ++ ([.lst []] ++ [.lst (r1.map D.int), .lst (([] ++ r1).map D.int)])) (st.length + 1 + 1) = some (([] ++ r1).map D.int) := lstAt_add st _ 2
    rw [← List.append_assoc] at c1 l1
    by_cases q2 : isHandD b n y = true
    · obtain ⟨r2, e2, h2⟩ := handD_back q2
      rw [q2] at c1
      have s2 := dl_t (f := st.length + 1 + 1) (j := 1) (r := r2) (acc := [] ++ r1) (C := callN Tbl (k + 1)) (SD := setD a b c) (m := b) (n := n) (d := .tup [x, y, z]) (L := st.length + 3) rfl rfl rfl (S.sm _) c1 e2 l1 (by have := h1.1; have := h2.1; simp; omega) (by simp)
      have c2 := c2 ([.lst []] ++ [.lst (r1.map D.int), .lst (([] ++ r1).map D.int)] ++ [.lst (r2.map D.int), .lst (([] ++ r1 ++ r2).map D.int)])
      have l2 : lstAt (st ++ ([.lst []] ++ [.lst (r1.map D.int), .lst (([] ++ r1).map D.int)] ++ [.lst (r2.map D.int), .lst (([] ++ r1 ++ r2).map D.int)])) (st.length + 3 + 1) = some (([] ++ r1 ++ r2).map D.int) := lstAt_add st _ 4
      rw [← List.append_assoc, ← List.append_assoc] at c2 l2
      by_cases q3 : isHandD c n z = true
      · obtain ⟨r3, e3, h3⟩ := handD_back q3
        rw [q3] at c2
        have s3 := dl_t (f := st.length + 3 + 1) (j := 2) (r := r3) (acc := [] ++ r1 ++ r2) (C := callN Tbl (k + 1)) (SD := setD a b c) (m := c) (n := n) (d := .tup [x, y, z]) (L := st.length + 5) rfl rfl rfl (S.sm _) c2 e3 l2 (by have := h1.1; have := h2.1; have := h3.1; simp; omega) (by simp)
        refine .inl ⟨by rw [q1, q2, q3]; rfl, r1, r2, r3, st ++ [Cell.lst []] ++ [.lst (r1.map D.int), .lst (([] ++ r1).map D.int)] ++ [.lst (r2.map D.int), .lst (([] ++ r1 ++ r2).map D.int)] ++ [.lst (r3.map D.int), .lst (([] ++ r1 ++ r2 ++ r3).map D.int)], e1, e2, e3, h1, h2, h3, ?_, ?_, ?_⟩
        · rw [List.append_assoc, List.append_assoc, List.append_assoc]
          have := lstAt_add st ([Cell.lst []] ++ ([.lst (r1.map D.int), .lst (([] ++ r1).map D.int)] ++ ([.lst (r2.map D.int), .lst (([] ++ r1 ++ r2).map D.int)] ++ [.lst (r3.map D.int), .lst (([] ++ r1 ++ r2 ++ r3).map D.int)]))) 6
          rw [this]
          simp [lstAt]
        · rw [List.append_assoc, List.append_assoc, List.append_assoc]
          exact KeepS.app _ _ _
        · rw [forGo_step rfl rfl s1, forGo_step rfl rfl s2, forGo_step rfl rfl s3]
          simp [forGo, good]
      · rw [Bool.not_eq_true] at q3
        rw [q3] at c2
        have s3 := dl_f (f := st.length + 3 + 1) (j := 2) (C := callN Tbl (k + 1)) (SD := setD a b c) (m := c) (n := n) (d := .tup [x, y, z]) rfl rfl rfl (S.sm _) c2
        refine .inr ⟨by rw [q1, q2, q3]; rfl, [Cell.lst []] ++ ([.lst (r1.map D.int), .lst (([] ++ r1).map D.int)] ++ [.lst (r2.map D.int), .lst (([] ++ r1 ++ r2).map D.int)]), ?_⟩
        · rw [forGo_step rfl rfl s1, forGo_step rfl rfl s2, ← List.append_assoc, ← List.append_assoc]
          exact forGo_ret rfl rfl s3
    · rw [Bool.not_eq_true] at q2
      rw [q2] at c1
      have s2 := dl_f (f := st.length + 1 + 1) (j := 1) (C := callN Tbl (k + 1)) (SD := setD a b c) (m := b) (n := n) (d := .tup [x, y, z]) rfl rfl rfl (S.sm _) c1
      refine .inr ⟨by rw [q1, q2]; rfl, [Cell.lst []] ++ [.lst (r1.map D.int), .lst (([] ++ r1).map D.int)], ?_⟩
      · rw [forGo_step rfl rfl s1, ← List.append_assoc]
        exact forGo_ret rfl rfl s2
  · rw [Bool.not_eq_true] at q1
    rw [q1] at c0
    have s1 := dl_f (f := st.length) (j := 0) (C := callN Tbl (k + 1)) (SD := setD a b c) (m := a) (n := n) (d := .tup [x, y, z]) rfl rfl rfl (S.sm _) c0
    refine .inr ⟨by rw [q1]; rfl, [Cell.lst []], ?_⟩
    exact forGo_ret rfl rfl s1
theorem law_deal_any (k : Nat) {st : Sto} {a b c n : Nat} (S : Stg a b c n) {d : D} (h : TyL st d) : callN Tbl (k + 2) n_law_is_deal_v2 [d, setD a b c] st = .ok (.bl (dealB a b c n d)) st := by
  rw [run_eq (Tbl := Tbl) (f := n_law_is_deal_v2) (body := (sSeq (sIf (bOr (bNot (bOf (eU1 (isiR .tup) (eV 0)))) (bCmp neB (eU1 lenR (eV 0)) (eC (.int 3)))) (sSeq (sRet (eC (.bl false))) sNx) sNx) (sSeq (sSet 2 (eNew (lLst lNil))) (sSeq (sFor (siR1 (lCons (eC (.int 3)) lNil)) (gN 3) dlB) (sSeq (sRet (eB2 (cB eqB) (eNew (lSorted (lSeq (eV 2)))) (eNew (lRng (eA sumQ (lSeq (eV 1))))))) sNx))))) rfl rfl]
  have sum := S.sum; have le := S.le
  obtain ⟨⟨t, ht⟩, hx⟩ := h
  have z0 : 0 ≤ sizeLine := Nat.zero_le _
  have b3 : rngI 3 = true := rngI_of (by decide) (by decide)
  have rg : ((List.range 3).map fun (i : Nat) => D.int (i : Int)) = [.int 0, .int 1, .int 2] := rfl
  have gk : ∀ p g, gc st (.bl p) (st ++ g) = .ok (.bl p) st := fun p g => gc_keep (KeepS.app _ _ _) rfl
  by_cases e : ∃ ds, d = .tup ds
  · obtain ⟨ds, rfl⟩ := e
    by_cases hl : ds.length = 3
    · obtain ⟨x, y, z, rfl⟩ : ∃ x y z, ds = [x, y, z] := by
        match ds, hl with
        | [x, y, z], _ => exact ⟨x, y, z, rfl⟩
      have hx := (hx _ rfl).2
      rcases dl_loop k S hx with ⟨q, r1, r2, r3, G, e1, e2, e3, h1, h2, h3, lG, kG, lp⟩ | ⟨q, g, lp⟩
      · have lp : forGo [] (gN 3) dlB (callN Tbl (k + 1)) [.int 0, .int 1, .int 2] [some (.tup [x, y, z]), some (setD a b c), some (.ref st.length), none] (st ++ [.lst []]) = .nx [some (.tup [x, y, z]), some (setD a b c), some (.ref (st.length + 6)), some (.int 2)] G := lp
        have br : rngT n = true := rngT_of (by omega) (by omega)
        have hri := rgD_iota n
        have zn : n ≤ sizeLine := sz (by omega)
        have io : (iota n).map D.int = (List.range n).map fun (i : Nat) => D.int (i : Int) := by simp [iota]
        have hlen : (r1 ++ r2 ++ r3).length = n := by have := h1.1; have := h2.1; have := h3.1; simp; omega
        have hmem : ∀ x, x ∈ r1 ++ r2 ++ r3 → 0 ≤ x ∧ x < n := fun x hx => by
          rw [List.mem_append, List.mem_append] at hx
          rcases hx with (z | z) | z
          · exact h1.2.2 x z
          · exact h2.2.2 x z
          · exact h3.2.2 x z
        have da := deal_all hlen hmem
        have vd : dealB a b c n (.tup [x, y, z]) = decide (setLen (r1 ++ r2 ++ r3) = n) := by
          subst e1 e2 e3
          simp only [Bool.and_eq_true] at q
          simp only [dealB, q.1, q.2.1, q.2.2, intsD_row, Bool.true_and]
        rw [vd, ← da]
        generalize hT : r1 ++ r2 ++ r3 = T at *
        have so := sortZ T
        have sl : (T.mergeSort leZ).length = n := by rw [List.length_mergeSort, hlen]
        have l1 : lstAt (G ++ [Cell.lst ((T.mergeSort leZ).map D.int), .lst ((iota n).map D.int)]) G.length = some ((T.mergeSort leZ).map D.int) := lstAt_add G _ 0
        have l2 : lstAt (G ++ [Cell.lst ((T.mergeSort leZ).map D.int), .lst ((iota n).map D.int)]) (G.length + 1) = some ((iota n).map D.int) := lstAt_add G _ 1
        have eq := eqB_ints l1 l2
        have gk : ∀ p, gc st (.bl p) (G ++ [Cell.lst ((T.mergeSort leZ).map D.int), .lst ((iota n).map D.int)]) = .ok (.bl p) st := fun p => gc_keep (kG.trans (KeepS.app _ _ _)) rfl
        generalize T.mergeSort leZ = M at *
        generalize dlB = B at lp ⊢
        unfold setD at lp ⊢
        simp [newL, z0, b3, rg, lp, lG, so, S.sm, br, hri, zn, sl, eq, gk]
      · have lp : forGo [] (gN 3) dlB (callN Tbl (k + 1)) [.int 0, .int 1, .int 2] [some (.tup [x, y, z]), some (setD a b c), some (.ref st.length), none] (st ++ [.lst []]) = .ret (.bl false) (st ++ g) := lp
        have vd : dealB a b c n (.tup [x, y, z]) = false := by
          simp only [dealB]
          revert q
          cases isHandD a n x <;> cases isHandD b n y <;> cases isHandD c n z <;> simp
        generalize dlB = B at lp ⊢
        unfold setD at lp ⊢
        simp [newL, z0, b3, rg, lp, vd, gk]
    · have hl' : ¬ (ds.length : Int) = 3 := by omega
      have : dealB a b c n (.tup ds) = false := by
        match ds, hl with
        | [], _ => rfl
        | [_], _ => rfl
        | [_, _], _ => rfl
        | [_, _, _], h => exact absurd rfl h
        | _ :: _ :: _ :: _ :: _, _ => rfl
      simp [hl', this]
  · have : dealB a b c n d = false := by
      cases d with
      | tup ds => exact absurd ⟨ds, rfl⟩ e
      | _ => rfl
    have e2 : subT t .tup = false := by
      cases d with
      | tup ds => exact absurd ⟨ds, rfl⟩ e
      | ref i =>
        have : t = .lst ∨ t = .dict := by
          unfold tyOf at ht
          simp only at ht
          split at ht <;> cases ht
          · exact .inl rfl
          · exact .inr rfl
        rcases this with rfl | rfl <;> rfl
      | _ => cases ht <;> rfl
    simp [ht, e2, this]

noncomputable abbrev rpB : SS := (sSeq (sExp (eM appendR (eV 5) (lCons (eM popAtR (eV 2) (lCons (eCall 7 (lCons (eV 0) (lCons (eU1 lenR (eV 2)) lNil))) lNil)) lNil))) sNx)
noncomputable abbrev roB : SS := (sSeq (sSet 5 (eNew (lLst lNil))) (sSeq (sFor (siR1 (lCons (eV 4) lNil)) (gN 6) rpB) (sSeq (sExp (eM appendR (eV 3) (lCons (eA tupQ (lSorted (lSeq (eV 5)))) lNil))) sNx)))
structure Pop (st0 : Sto) (s l R f n M : Nat) (rows : List (List Int)) (lf row : List Int) (V : Sto) : Prop where
  ll : lstAt V l = some (lf.map D.int)
  lr : lstAt V f = some (row.map D.int)
  lR : lstAt V R = some (rows.map dT)
  src : Src V s M
  keep : KeepS s st0 V
  nd : (row ++ lf).Nodup
  mem : ∀ x, x ∈ row ++ lf → 0 ≤ x ∧ x < n
theorem pop_nd {lf row : List Int} {j : Nat} {x : Int} (h : lf[j]? = some x) : (row ++ [x] ++ lf.eraseIdx j).Perm (row ++ lf) := by
  obtain ⟨hlt, e⟩ := List.getElem?_eq_some_iff.mp h
  have e3 : lf = lf.take j ++ x :: lf.drop (j + 1) := by
    rw [← e, ← List.drop_eq_getElem_cons hlt, List.take_append_drop]
  have p : (x :: lf.eraseIdx j).Perm lf := by
    rw [List.eraseIdx_eq_take_drop_succ]
    exact List.perm_middle.symm.trans (.of_eq e3.symm)
  rw [List.append_assoc]
  exact p.append_left row
theorem pop_step (k : Nat) {st0 : Sto} {s l R f n M : Nat} {rows : List (List Int)} {lf row : List Int} {V : Sto} {x1 x4 x6 : Option D} (P : Pop st0 s l R f n M rows lf row V) (hM : M < 10000000) (h0 : s < st0.length) (hl : st0.length ≤ l) (hR : st0.length ≤ R) (hf : st0.length ≤ f) (nlR : l ≠ R) (nlf : l ≠ f) (nRf : R ≠ f) (h1 : 1 ≤ lf.length) (h2 : lf.length ≤ 100) (h3 : row.length ≤ 100) :
    ∃ (x : Int) (j : Nat) (V' : Sto), rpB (callN Tbl (k + 1)) [some (.ref s), x1, some (.ref l), some (.ref R), x4, some (.ref f), x6] V = .nx [some (.ref s), x1, some (.ref l), some (.ref R), x4, some (.ref f), x6] V' ∧ lf[j]? = some x ∧ Pop st0 s l R f n (M + 1) rows (lf.eraseIdx j) (row ++ [x]) V' := by
  obtain ⟨r1, st1, e1, p1, q1, D1⟩ := pickK k P.src (m := lf.length) (by omega) (by omega) (by omega)
  have g1 := D1.lst P.ll (by omega)
  have g2 := D1.lst P.lr (by omega)
  have g4 := D1.lst P.lR (by omega)
  obtain ⟨x, hx, pe⟩ := popAt_gen (F := D.int) g1 p1 q1 (by omega)
  have g3 : lstAt (st1.set l (.lst ((lf.eraseIdx r1.toNat).map D.int))) f = some (row.map D.int) := by rw [lstAt_set_ne (Ne.symm nlf)]; exact g2
  have ap := appendR_ref (y := .int x) g3 (by rw [List.length_map]; exact Nat.lt_of_lt_of_le (show row.length < 1000 by omega) (small_size (by decide)))
  have pm := pop_nd (row := row) hx
  refine ⟨x, r1.toNat, (st1.set l (.lst ((lf.eraseIdx r1.toNat).map D.int))).set f (.lst (row.map D.int ++ [.int x])), ?_, hx, ⟨?_, ?_, ?_, (D1.src.put (by omega)).put (by omega), ?_, pm.nodup_iff.mpr P.nd, fun y hy => P.mem y (pm.mem_iff.mp hy)⟩⟩
  · have pl := P.lr
    have pl2 := P.ll
    simp [pl, pl2, e1, pe, ap]
  · rw [lstAt_set_ne nlf]; exact lstAt_set (lstAt_lt g1)
  · rw [lstAt_set (by simpa using lstAt_lt g2)]; simp
  · rw [lstAt_set_ne nRf, lstAt_set_ne (Ne.symm nlR)]; exact g4
  · exact ((P.keep.trans D1.keep).put hl _).put hf _
theorem rows_step (k : Nat) {st0 : Sto} {s l R n M m : Nat} {rows : List (List Int)} {lf : List Int} {V : Sto} {x1 x5 x6 : Option D} (ll : lstAt V l = some (lf.map D.int)) (lR : lstAt V R = some (rows.map dT)) (hS : Src V s M) (hK : KeepS s st0 V) (nd : lf.Nodup) (mem : ∀ x, x ∈ lf → 0 ≤ x ∧ x < n) (hM : M + 100 < 10000000) (h0 : s < st0.length) (hl : st0.length ≤ l) (hR : st0.length ≤ R) (nlR : l ≠ R) (hm : m ≤ lf.length) (h2 : lf.length ≤ 13) (hr : rows.length ≤ 3) :
    ∃ (r lf' : List Int) (V' : Sto) (y z : Option D), roB (callN Tbl (k + 1)) [some (.ref s), x1, some (.ref l), some (.ref R), some (.int m), x5, x6] V = .nx [some (.ref s), x1, some (.ref l), some (.ref R), some (.int m), y, z] V' ∧ IsHand m n r ∧ lf'.length + m = lf.length ∧ lf'.Nodup ∧ (∀ x, x ∈ lf' → 0 ≤ x ∧ x < n) ∧ lstAt V' l = some (lf'.map D.int) ∧ lstAt V' R = some ((rows ++ [r]).map dT) ∧ Src V' s (M + m) ∧ KeepS s st0 V' := by
  have hlV := lstAt_lt ll
  have hRV := lstAt_lt lR
  have z0 : 0 ≤ sizeLine := Nat.zero_le _
  have bm : rngI m = true := rngI_of (by omega) (by omega)
  have P0 : Pop st0 s l R V.length n M rows lf [] (V ++ [.lst []]) := ⟨by rw [lstAt_app hlV]; exact ll, lstAt_app_len _, by rw [lstAt_app hRV]; exact lR, hS.app _, hK.trans (KeepS.app _ _ _), by simpa using nd, by simpa using mem⟩
  have hV : st0.length ≤ V.length := hK.1
  have loop := forGo_inv (src := []) (g := gN 6) (C := callN Tbl (k + 1)) (b := rpB)
    (fun i env V' => ∃ lf' row y, env = [some (.ref s), x1, some (.ref l), some (.ref R), some (.int m), some (.ref V.length), y] ∧ Pop st0 s l R V.length n (M + i) rows lf' row V' ∧ row.length = i ∧ lf'.length + i = lf.length) ((List.range m).map fun (i : Nat) => D.int (i : Int)) 0
    (fun i d hd env V' ⟨lf', row, y, e, P, hrow, hlen⟩ => by
      obtain ⟨hi, rfl⟩ := rngItem hd
      subst e
      refine ⟨rfl, _, rfl, ?_⟩
      obtain ⟨x, j, V2, q, hj, P2⟩ := pop_step k (x1 := x1) (x4 := some (.int m)) (x6 := some (.int (i : Int))) P (by omega) h0 hl hR hV nlR (by omega) (by omega) (by omega) (by omega) (by omega)
      have hj2 := (List.getElem?_eq_some_iff.mp hj).1
      exact ⟨_, V2, q, _, _, _, rfl, P2, by simp; omega, by rw [List.length_eraseIdx_of_lt hj2]; omega⟩) (fun _ _ _ => rfl)
  obtain ⟨env2, V2, q, lf', row, y, e2, P2, hrow, hlen⟩ := loop [some (.ref s), x1, some (.ref l), some (.ref R), some (.int m), some (.ref V.length), x6] (V ++ [.lst []]) ⟨lf, [], x6, rfl, P0, rfl, rfl⟩
  rw [Nat.zero_add, List.length_map, List.length_range] at P2 hrow hlen
  subst e2
  obtain ⟨nd1, nd2, _⟩ := List.nodup_append.mp P2.nd
  have hh : IsHand m n (row.mergeSort leZ) := sort_hand hrow nd1 fun x hx => P2.mem x (List.mem_append_left _ hx)
  have so := sortZ row
  have tq := tup_ok (st := V2) hh (by omega)
  have ap := appendR_ref (y := dT (row.mergeSort leZ)) P2.lR (by rw [List.length_map]; exact Nat.lt_of_lt_of_le (show rows.length < 1000 by omega) (small_size (by decide)))
  refine ⟨row.mergeSort leZ, lf', V2.set R (.lst (rows.map dT ++ [dT (row.mergeSort leZ)])), some (.ref V.length), y, ?_, hh, hlen, nd2, fun x hx => P2.mem x (List.mem_append_right _ hx), ?_, ?_, P2.src.put (by omega), P2.keep.put hR _⟩
  · have pl := P2.lr
    have pR := P2.lR
    unfold roB
    generalize rpB = B at q ⊢
    generalize row.mergeSort leZ = T at *
    generalize rows.map dT = RR at *
    simp only [dT, tupF] at tq ap ⊢
    simp [newL, z0, bm, q, pl, so, -tupQ_ap, tq, pR, ap]
  · rw [lstAt_set_ne nlR]; exact P2.ll
  · rw [lstAt_set (lstAt_lt P2.lR)]; simp
theorem law_rows_of_spec (k : Nat) {st : Sto} {s N a b c n : Nat} (S : Stg a b c n) (h : Src st s N) (hN : N + 300 < 10000000) :
    ∃ (r0 r1 r2 : List Int) (st' : Sto), callN Tbl (k + 2) n_law_rows_of [.ref s, setD a b c] st = .ok (.ref st.length) (st' ++ [.lst ([r0, r1, r2].map dT)]) ∧ IsHand a n r0 ∧ IsHand b n r1 ∧ IsHand c n r2 ∧ Drew st s (N + 60) st' := by
  have hs := h.lt
  have sum := S.sum; have le := S.le; have a1 := S.a1; have b1 := S.b1; have c1 := S.c1
  have br : rngT n = true := rngT_of (by omega) (by omega)
  have hri := rgD_iota n
  have zn : n ≤ sizeLine := sz (by omega)
  have z0 : 0 ≤ sizeLine := Nat.zero_le _
  have il := iota_len n
  have l1 : lstAt (st ++ [.lst ((iota n).map D.int), .lst []]) st.length = some ((iota n).map D.int) := by rw [lstAt_len]; rfl
  have l2 : lstAt (st ++ [.lst ((iota n).map D.int), .lst []]) (st.length + 1) = some (([] : List (List Int)).map dT) := lstAt_add st _ 1
  obtain ⟨r0, f0, V0, y0, w0, q0, h0, n0, d0, m0, ll0, lR0, S0, K0⟩ := rows_step k (m := a) (n := n) (x1 := some (setD a b c)) (x5 := none) (x6 := none) l1 l2 (h.app _) (KeepS.app _ _ _) (asc_nodup (iota_asc n)) (fun x hx => mem_iota.mp hx) (by omega) hs (Nat.le_refl _) (by omega) (by omega) (by omega) (by omega) (by simp)
  obtain ⟨r1, f1, V1, y1, w1, q1, h1, n1, d1, m1, ll1, lR1, S1, K1⟩ := rows_step k (m := b) (n := n) (x1 := some (setD a b c)) (x5 := y0) (x6 := w0) ll0 lR0 S0 K0 d0 m0 (by omega) hs (Nat.le_refl _) (by omega) (by omega) (by omega) (by omega) (by simp)
  obtain ⟨r2, f2, V2, y2, w2, q2, h2, n2, d2, m2, ll2, lR2, S2, K2⟩ := rows_step k (m := c) (n := n) (x1 := some (setD a b c)) (x5 := y1) (x6 := w1) ll1 lR1 S1 K1 d1 m1 (by omega) hs (Nat.le_refl _) (by omega) (by omega) (by omega) (by omega) (by simp)
  have lR : lstAt V2 (st.length + 1) = some ([r0, r1, r2].map dT) := lR2
  have lo : D.loL st.length ([r0, r1, r2].map dT) = true := loL_rows _ _
  obtain ⟨st', g, D'⟩ := gc_drewL (st := st) (st2 := V2) (i := st.length + 1) (S2.mono (M := N + 60) (by omega)) hs K2 (by omega) lR lo
  refine ⟨r0, r1, r2, st', ?_, h0, h1, h2, D'⟩
  rw [run_eq (Tbl := Tbl) (f := n_law_rows_of) (body := (sSeq (sSet 2 (eNew (lRng (eA sumQ (lSeq (eV 1)))))) (sSeq (sSet 3 (eNew (lLst lNil))) (sSeq (sFor (siOf (eV 1)) (gN 4) roB) (sSeq (sRet (eV 3)) sNx))))) rfl rfl]
  have lp : forGo [] (gN 4) roB (callN Tbl (k + 1)) [.int a, .int b, .int c] [some (.ref s), some (setD a b c), some (.ref st.length), some (.ref (st.length + 1)), none, none, none] (st ++ [.lst ((iota n).map D.int), .lst []]) = .nx [some (.ref s), some (setD a b c), some (.ref st.length), some (.ref (st.length + 1)), some (.int c), y2, w2] V2 := by
    rw [forGo_step rfl rfl q0, forGo_step rfl rfl q1, forGo_step rfl rfl q2]
    simp [forGo, good]
  generalize roB = B at lp ⊢
  generalize [r0, r1, r2].map dT = RR at *
  unfold setD at lp ⊢
  simp [newL, z0, S.sm, br, hri, zn, lp]
  exact g

def SpOut (st : Sto) (s N : Nat) (r : Res D) : Prop := ∃ d st', r = .ok d st' ∧ tyOk st' d ∧ (∀ ds, d = .tup ds → ds.length ≤ 100) ∧ Src st' s N ∧ KeepS s st st'
theorem spo_gc {st st2 : Sto} {s N : Nat} {d : D} (h : Src st2 s N) (hs : s < st.length) (k : KeepS s st st2) (ht : tyOk st2 d) (hb : ∀ ds, d = .tup ds → ds.length ≤ 100) : SpOut st s N (gc st d st2) := by
  have old := h.old hs k
  have tkS : Src (st2.take st.length) s N := h.take hs
  have tkK : KeepS s st (st2.take st.length) := ⟨by rw [List.length_take]; have := k.1; omega, fun j hj hjs => by rw [List.getElem?_take_of_lt hj]; exact k.2 j hj hjs⟩
  by_cases c : d.lo st.length = true
  · refine ⟨d, st2.take st.length, gc_val old c, ?_, hb, tkS, tkK⟩
    obtain ⟨⟨t, h1⟩, hx⟩ := ht
    refine ⟨⟨t, ty_lo c h1⟩, fun ds e x hxx => ?_⟩
    obtain ⟨t2, h2⟩ := hx ds e x hxx
    subst e
    exact ⟨t2, ty_lo (loL_memX c hxx) h2⟩
  · by_cases hr : ∃ i, d = .ref i
    · obtain ⟨i, rfl⟩ := hr
      obtain ⟨⟨t, h1⟩, _⟩ := ht
      have e : ∀ s : Sto, ∀ i, tyOf s (.ref i) = (match s[i]? with | some (.lst _) => some Ty.lst | some (.dct _) => some Ty.dict | none => none) := fun _ _ => rfl
      cases hc : st2[i]? with
      | none => rw [e, hc] at h1; cases h1
      | some cc =>
        by_cases cl : cc.lo st.length = true
        · have hi : st.length ≤ i := by
            have : ¬ decide (i < st.length) = true := c
            simpa using this
          refine ⟨.ref st.length, st2.take st.length ++ [cc], gc_lst old hi hc cl, ⟨⟨t, ?_⟩, fun ds e => by cases e⟩, (fun ds e => by cases e), tkS.app _, tkK.trans (KeepS.app _ _ _)⟩
          have ln : (st2.take st.length).length = st.length := by rw [List.length_take]; have := k.1; omega
          rw [e, List.getElem?_append_right (by omega), ln]
          rw [e, hc] at h1
          simpa using h1
        · refine ⟨.ref i, st2, ?_, ⟨⟨t, h1⟩, fun ds e => by cases e⟩, (fun ds e => by cases e), h, k⟩
          unfold gc
          rw [if_pos old, if_neg c]
          simp only [hc]
          rw [if_neg cl]
    · refine ⟨d, st2, ?_, ht, hb, h, k⟩
      unfold gc
      rw [if_pos old, if_neg c]
      cases d with
      | ref i => exact absurd ⟨i, rfl⟩ hr
      | _ => rfl
theorem spo_ints {st st2 : Sto} {s N : Nat} {X : List Int} (hl : X.length ≤ 100) (h : Src st2 s N) (hs : s < st.length) (k : KeepS s st st2) : SpOut st s N (gc st (.tup (X.map D.int)) st2) :=
  spo_gc h hs k (tyOk_row X) fun ds e => by cases e; rw [List.length_map]; exact hl
theorem law_spoilt_spec (k : Nat) {st : Sto} {s N m n : Nat} {r : List Int} (h : Src st s N) (hN : N + 20 < 10000000) (hr : IsHand m n r) (hm : 1 ≤ m) (hn : n ≤ 13) : SpOut st s (N + 10) (callN Tbl (k + 3) n_law_spoilt [.ref s, dT r, .int n] st) := by
  have hs := h.lt
  have rl := hr.1
  have mn : m ≤ n := by
    have := nodup_le (asc_nodup hr.2.1) fun x hx => mem_iota.mpr (hr.2.2 x hx)
    rw [hr.1, iota_len] at this; exact this
  have zr : r.length ≤ sizeLine := sz (by omega)
  obtain ⟨kd, st1, e1, p1, q1, D1⟩ := pickK (k + 1) h (m := 16) (by omega) (by omega) (by omega)
  obtain ⟨j', st2, e2, p2, q2, D2⟩ := pickK (k + 1) D1.src (m := r.length) (by omega) (by omega) (by omega)
  obtain ⟨j, rfl⟩ : ∃ j : Nat, j' = j := ⟨j'.toNat, by omega⟩
  have hj : j < r.length := by omega
  have L2' : st2.length = st.length := by rw [D2.len, D1.len]
  have K2 : KeepS s st st2 := D1.keep.trans D2.keep
  have K3 : ∀ g, KeepS s st (st2 ++ g) := fun g => K2.trans (KeepS.app _ _ _)
  have S3 : ∀ g, Src (st2 ++ g) s (N + 10) := fun g => (D2.src.app g).mono (by omega)
  have l3 : ∀ g, lstAt (st2 ++ .lst (r.map D.int) :: g) st2.length = some (r.map D.int) := fun g => by rw [lstAt_len]; rfl
  have aj : L2.atI (r.map D.int) (j : Int) = some (.int r[j]) := by rw [atI_nat, List.getElem?_map, List.getElem?_eq_getElem hj]; rfl
  have ij : L2.ixN (r.map D.int).length (j : Int) = some j := by unfold L2.ixN; rw [List.length_map, if_pos (by omega)]; simp [hj]
  have z8 : 8 ≤ sizeLine := sz (by decide)
  have z4 : 4 ≤ sizeLine := sz (by decide)
  have z2 : 2 ≤ sizeLine := sz (by decide)
  have z1 : 1 ≤ sizeLine := sz (by decide)
  have z0 : 0 ≤ sizeLine := Nat.zero_le _
  rw [run_eq (Tbl := Tbl) (f := n_law_spoilt) rfl rfl]
  by_cases k0 : kd = 0
  · subst k0
    have c1 : cutD (r.map D.int) none (some (j : Int)) = (r.take j).map D.int := by rw [List.map_take]; exact cut_take _ j
    have c2 : cutD (r.map D.int) (some ((j : Int) + 1)) none = (r.drop (j + 1)).map D.int := by rw [List.map_drop]; exact cut_drop _ (j + 1)
    have zA : ((r.take j).map D.int).length + ((r.drop (j + 1)).map D.int).length ≤ 20 := by simp; omega
    have this := spo_ints (st := st) (st2 := st2 ++ [.lst (r.map D.int), .lst ((r.take j).map D.int), .lst ((r.drop (j + 1)).map D.int), .lst ((r.take j).map D.int ++ (r.drop (j + 1)).map D.int), .lst [.int r[j]], .lst ((r.take j).map D.int ++ ((r.drop (j + 1)).map D.int ++ [.int r[j]]))]) (s := s) (N := N + 10) (X := r.take j ++ (r.drop (j + 1) ++ [r[j]])) (by simp; omega) (S3 _) hs (K3 _)
    rw [List.map_append, List.map_append] at this
    generalize (r.take j).map D.int = A at *
    generalize (r.drop (j + 1)).map D.int = B at *
    have z5 : A.length + B.length ≤ sizeLine := sz (by omega)
    have z6 : A.length + B.length + 1 ≤ sizeLine := sz (by omega)
    have z7 : A.length + (B.length + 1) ≤ sizeLine := sz (by omega)
    have la : ∀ (x : Cell) g, lstAt (st2 ++ x :: .lst A :: g) (st2.length + 1) = some A := fun x g => lstAt_add st2 _ 1
    have lb : ∀ (x y : Cell) g, lstAt (st2 ++ x :: y :: .lst B :: g) (st2.length + 2) = some B := fun x y g => lstAt_add st2 _ 2
    have lc : ∀ (x y z : Cell) (C : List D) g, lstAt (st2 ++ x :: y :: z :: .lst C :: g) (st2.length + 3) = some C := fun x y z C g => lstAt_add st2 _ 3
    have ld : ∀ (x y z u : Cell) (C : List D) g, lstAt (st2 ++ x :: y :: z :: u :: .lst C :: g) (st2.length + 4) = some C := fun x y z u C g => lstAt_add st2 _ 4
    have le : ∀ (x y z u w : Cell) (C : List D) g, lstAt (st2 ++ x :: y :: z :: u :: w :: .lst C :: g) (st2.length + 5) = some C := fun x y z u w C g => lstAt_add st2 _ 5
    simp [e1, e2, zr, newL, l3, c1, c2, la, lb, lc, ld, le, aj, z5, z6, z7, z1, Nat.add_assoc]
    exact this
  · by_cases k1 : kd = 1
    · subst k1
      have ins := insertR_ref (y := .int r[j]) (p := (j : Int)) (l3 []) (insOk_of (by omega) (by omega) (by rw [List.length_map]; omega))
      have this := spo_ints (st := st) (st2 := (st2 ++ [Cell.lst (r.map D.int)]).set st2.length (.lst ((r.take j ++ [r[j]] ++ r.drop j).map D.int))) (s := s) (N := N + 10) (X := r.take j ++ [r[j]] ++ r.drop j) (by simp; omega) ((S3 _).put (by omega)) hs ((K3 _).put (by omega) _)
      have l6 : lstAt ((st2 ++ [Cell.lst (r.map D.int)]).set st2.length (.lst ((r.take j ++ [r[j]] ++ r.drop j).map D.int))) st2.length = some ((r.take j ++ [r[j]] ++ r.drop j).map D.int) := lstAt_set (by simp)
      have sl : (r.take j ++ [r[j]] ++ r.drop j).length ≤ sizeLine := sz (by simp; omega)
      have ms : (r.map D.int).take (j : Int).toNat ++ [.int r[j]] ++ (r.map D.int).drop (j : Int).toNat = (r.take j ++ [r[j]] ++ r.drop j).map D.int := by
        rw [List.map_append, List.map_append, List.map_take, List.map_drop]; rfl
      rw [ms] at ins
      generalize r.take j ++ [r[j]] ++ r.drop j = X at *
      generalize (st2 ++ [Cell.lst (r.map D.int)]).set st2.length (.lst (X.map D.int)) = W at *
      simp [e1, e2, zr, newL, l3, aj, ins, l6, sl]
      exact this
    · by_cases k2 : kd = 2
      · subst k2
        let vs : List D := [.int (-1), .int n, .int ((n : Int) + 1), .int 1000000000000000000000000000000]
        obtain ⟨vi, st5, e5, p5, q5, D5⟩ := pickK (k + 1) (D2.src.app [.lst (r.map D.int), .lst vs]) (m := 4) (by omega) (by omega) (by omega)
        have lv : lstAt st5 (st2.length + 1) = some vs := D5.lst (lstAt_add st2 _ 1) (by omega)
        have l5 : lstAt st5 st2.length = some (r.map D.int) := D5.lst (l3 _) (by omega)
        have pow : powOk 10 30 = true := of_tsd (by decide)
        obtain ⟨x, av⟩ : ∃ x : Int, L2.atI vs vi = some (.int x) := by
          have : vi = 0 ∨ vi = 1 ∨ vi = 2 ∨ vi = 3 := by omega
          rcases this with rfl | rfl | rfl | rfl <;> exact ⟨_, rfl⟩
        have this := spo_ints (st := st) (st2 := st5.set st2.length (.lst ((r.set j x).map D.int))) (s := s) (N := N + 10) (X := r.set j x) (by rw [List.length_set]; omega) ((D5.src.put (by omega)).mono (by omega)) hs (((K3 _).trans D5.keep).put (by omega) _)
        have l6 : lstAt (st5.set st2.length (.lst ((r.set j x).map D.int))) st2.length = some ((r.set j x).map D.int) := lstAt_set (lstAt_lt l5)
        have sl : (r.set j x).length ≤ sizeLine := by rw [List.length_set]; exact zr
        have ms : (r.map D.int).set j (.int x) = (r.set j x).map D.int := List.map_set.symm
        rw [List.length_map] at ij
        generalize r.set j x = X at *
        simp [e1, e2, zr, newL, l3, z4, pow, e5, lv, vs, av, l5, putL_ref, ij, ms, l6, sl]
        exact this
      · by_cases k3 : kd = 3
        · subst k3
          have F : ∀ x ∈ r, True := fun _ _ => trivial
          have lc := lcGo_of (src := [(st2.length, r.map D.int)]) (g := gN 6) (c := bTrue) (e := (eIf (bCmp ltD (eV 6) (eC (.int 2))) (eB2 (cB eqB) (eV 6) (eC (.int 1))) (eV 6))) (C := callN Tbl (k + 2)) (env := [some (.ref s), some (dT r), some (.int n), some (.int 3), some (.int j), some (.ref st2.length), none]) (st := st2 ++ [.lst (r.map D.int)]) D.int (fun _ => true) (fun x => if x < 2 then D.bl (decide (x = 1)) else .int x) (by simp [good]) r [] (fun x hx => by
            refine ⟨_, rfl, rfl, fun _ => ?_⟩
            by_cases q : x < 2
            · simp [q]
            · simp [q])
          rw [filter_true, List.nil_append] at lc
          have gl : (r.map fun x => if x < 2 then D.bl (decide (x = 1)) else .int x).length ≤ sizeLine := by rw [List.length_map]; exact zr
          have this := spo_gc (st := st) (st2 := st2 ++ [.lst (r.map D.int), .lst (r.map fun x => if x < 2 then D.bl (decide (x = 1)) else .int x)]) (s := s) (N := N + 10) (d := .tup (r.map fun x => if x < 2 then D.bl (decide (x = 1)) else .int x)) (S3 _) hs (K3 _) (tyOk_tup fun x hx => by
            obtain ⟨y, _, rfl⟩ := List.mem_map.mp hx
            by_cases q : y < 2
            · rw [if_pos q]; exact ⟨_, rfl⟩
            · rw [if_neg q]; exact ⟨_, rfl⟩) (fun ds e => by cases e; rw [List.length_map]; omega)
          generalize (r.map fun x => if x < 2 then D.bl (decide (x = 1)) else .int x) = X at *
          have lx : ∀ g, lstAt (st2 ++ .lst (r.map D.int) :: .lst X :: g) (st2.length + 1) = some X := fun g => lstAt_add st2 _ 1
          simp only [dT, tupF] at lc
          simp [e1, e2, zr, newL, l3, lc, lx, gl]
          exact this
        · by_cases k4 : kd = 4
          · subst k4
            obtain ⟨x, hx, pe⟩ := popAt_gen (F := D.int) (l3 []) (i := (j : Int)) (by omega) (by omega) (by omega)
            have this := spo_ints (st := st) (st2 := (st2 ++ [Cell.lst (r.map D.int)]).set st2.length (.lst ((r.eraseIdx (j : Int).toNat).map D.int))) (s := s) (N := N + 10) (X := r.eraseIdx (j : Int).toNat) (by have := List.length_eraseIdx_le r (j : Int).toNat; omega) ((S3 _).put (by omega)) hs ((K3 _).put (by omega) _)
            have l6 : lstAt ((st2 ++ [Cell.lst (r.map D.int)]).set st2.length (.lst ((r.eraseIdx (j : Int).toNat).map D.int))) st2.length = some ((r.eraseIdx (j : Int).toNat).map D.int) := lstAt_set (by simp)
            have sl : (r.eraseIdx (j : Int).toNat).length ≤ sizeLine := sz (by have := List.length_eraseIdx_le r (j : Int).toNat; omega)
            generalize r.eraseIdx (j : Int).toNat = X at *
            generalize (st2 ++ [Cell.lst (r.map D.int)]).set st2.length (.lst (X.map D.int)) = W at *
            simp [e1, e2, zr, newL, l3, pe, l6, sl]
            exact this
          · by_cases k5 : kd = 5
            · subst k5
              obtain ⟨p, st5, e5, p5, q5, D5⟩ := pickK (k + 1) (D2.src.app [.lst (r.map D.int)]) (m := n) (by omega) (by omega) (by omega)
              have L5 : st5.length = st2.length + 1 := by rw [D5.len]; simp
              have l5 : lstAt st5 st2.length = some (r.map D.int) := D5.lst (l3 []) (by omega)
              have so := sortZ (r ++ [p])
              have la : lstAt (st5 ++ [.lst [.int p]]) st2.length = some (r.map D.int) := by rw [lstAt_app (lstAt_lt l5)]; exact l5
              have lb := lstAt_app_len (st := st5) [.int p]
              rw [List.map_append] at so
              have lc : lstAt (st5 ++ [.lst [.int p], .lst (r.map D.int ++ [.int p])]) (st5.length + 1) = some (r.map D.int ++ [.int p]) := lstAt_add st5 _ 1
              have ld : lstAt (st5 ++ [.lst [.int p], .lst (r.map D.int ++ [.int p]), .lst (((r ++ [p]).mergeSort leZ).map D.int)]) (st5.length + 2) = some (((r ++ [p]).mergeSort leZ).map D.int) := lstAt_add st5 _ 2
              have zs : ((r ++ [p]).mergeSort leZ).length = r.length + 1 := by rw [List.length_mergeSort]; simp
              have this := spo_ints (st := st) (st2 := st5 ++ [.lst [.int p], .lst (r.map D.int ++ [.int p]), .lst (((r ++ [p]).mergeSort leZ).map D.int)]) (s := s) (N := N + 10) (X := (r ++ [p]).mergeSort leZ) (by omega) ((D5.src.app _).mono (by omega)) hs (((K3 _).trans D5.keep).trans (KeepS.app _ _ _))
              have z9 : r.length + 1 ≤ sizeLine := sz (by omega)
              generalize (r ++ [p]).mergeSort leZ = X at *
              have so : sortO (r.map D.int ++ [.int p]) = some (X.map D.int) := so
              simp [e1, e2, zr, newL, l3, e5, z1, la, lb, lc, so, ld, zs, z9]
              exact this
            · by_cases k6 : kd = 6
              · subst k6
                have this := spo_gc (st := st) (st2 := st2 ++ [.lst (r.map D.int)]) (s := s) (N := N + 10) (d := .ref st2.length) (S3 _) hs (K3 _) ⟨⟨_, ty_lst (l3 [])⟩, fun ds e => by cases e⟩ (fun ds e => by cases e)
                simp [e1, e2, zr, newL]
                exact this
              · by_cases k7 : kd = 7
                · subst k7
                  let vs : List D := [.non, .int 3, .str (Str.ofString "012"), .tup [], .str (Str.ofString ""), .ref (st2.length + 1), .tup [.tup [.int 0, .int 1]], .bl true]
                  obtain ⟨vi, st5, e5, p5, q5, D5⟩ := pickK (k + 1) (D2.src.app [.lst (r.map D.int), .dct [], .lst vs]) (m := 8) (by omega) (by omega) (by omega)
                  have lv : lstAt st5 (st2.length + 2) = some vs := D5.lst (lstAt_add st2 _ 2) (by omega)
                  have ld : tyOf st5 (.ref (st2.length + 1)) = some .dict := by
                    have := D5.keep.2 (st2.length + 1) (by simp) (by omega)
                    rw [List.getElem?_append_right (by omega)] at this
                    simp at this
                    exact ty_dct this
                  obtain ⟨v, av, tv, hv⟩ : ∃ v, L2.atI vs vi = some v ∧ tyOk st5 v ∧ ∀ ds, v = .tup ds → ds.length ≤ 100 := by
                    have : vi = 0 ∨ vi = 1 ∨ vi = 2 ∨ vi = 3 ∨ vi = 4 ∨ vi = 5 ∨ vi = 6 ∨ vi = 7 := by omega
                    rcases this with rfl | rfl | rfl | rfl | rfl | rfl | rfl | rfl
                    · exact ⟨_, rfl, ⟨⟨_, rfl⟩, fun ds e => by cases e⟩, fun ds e => by cases e⟩
                    · exact ⟨_, rfl, ⟨⟨_, rfl⟩, fun ds e => by cases e⟩, fun ds e => by cases e⟩
                    · exact ⟨_, rfl, ⟨⟨_, rfl⟩, fun ds e => by cases e⟩, fun ds e => by cases e⟩
                    · exact ⟨_, rfl, (tyOk_tup fun x hx => by cases hx), fun ds e => by cases e; decide⟩
                    · exact ⟨_, rfl, ⟨⟨_, rfl⟩, fun ds e => by cases e⟩, fun ds e => by cases e⟩
                    · exact ⟨_, rfl, ⟨⟨_, ld⟩, fun ds e => by cases e⟩, fun ds e => by cases e⟩
                    · exact ⟨_, rfl, (tyOk_tup fun x hx => by simp at hx; rw [hx]; exact ⟨_, rfl⟩), fun ds e => by cases e; decide⟩
                    · exact ⟨_, rfl, ⟨⟨_, rfl⟩, fun ds e => by cases e⟩, fun ds e => by cases e⟩
                  have this := spo_gc (st := st) (st2 := st5) (s := s) (N := N + 10) (d := v) (D5.src.mono (by omega)) hs ((K3 _).trans D5.keep) tv hv
                  simp only [vs] at e5 lv av
                  simp [e1, e2, zr, newL, z8, z2, z1, z0, e5, lv, av]
                  exact this
                · by_cases k8 : kd = 8 ∨ kd = 9 ∨ kd = 10
                  · have hb := law_bad_rowL_spec k (st := st2 ++ [.lst (r.map D.int)]) (D2.src.app _) (by omega) hr hm hn
                    obtain ⟨d, st5, e5, t5, _, S5, K5, l5⟩ := hb
                    have e5 : callN Tbl (k + 2) 148 [.ref s, dT r, .int n] (st2 ++ [.lst (r.map D.int)]) = .ok d st5 := e5
                    have this := spo_gc (st := st) (st2 := st5) (s := s) (N := N + 10) (d := d) (S5.mono (by omega)) hs ((K3 _).trans K5) t5 l5
                    simp only [dT, tupF] at e5
                    rcases k8 with rfl | rfl | rfl
                    · simp [e1, e2, zr, newL, e5]
                      exact this
                    · simp [e1, e2, zr, newL, e5]
                      exact this
                    · simp [e1, e2, zr, newL, e5]
                      exact this
                  · have k8' : ¬ kd = 8 := fun e => k8 (.inl e)
                    have k9' : ¬ kd = 9 := fun e => k8 (.inr (.inl e))
                    have k10' : ¬ kd = 10 := fun e => k8 (.inr (.inr e))
                    have this := spo_ints (st := st) (st2 := st2 ++ [.lst (r.map D.int)]) (s := s) (N := N + 10) (X := r) (by omega) (S3 _) hs (K3 _)
                    simp [e1, e2, zr, newL, k0, k1, k2, k3, k4, k5, k6, k7, k8', k9', k10', l3]
                    exact this

theorem law_deal_spec (k : Nat) {st : Sto} {s N a b c n : Nat} (S : Stg a b c n) (h : Src st s N) (hN : N + 500 < 10000000) : ThOut st s (N + 100) (callN Tbl (k + 4) n_law_deal [.ref s, setD a b c] st) := by
  have hs := h.lt
  have sum := S.sum; have le := S.le; have a1 := S.a1; have b1 := S.b1; have c1 := S.c1
  obtain ⟨r0, r1, r2, st1, e1, h0, h1, h2, D1⟩ := law_rows_of_spec (k + 1) S h (by omega)
  have L1 := D1.len
  obtain ⟨kd, st2, e2, p2, q2, D2⟩ := pickK (k + 2) (D1.src.app [.lst ([r0, r1, r2].map dT)]) (m := 9) (by omega) (by omega) (by omega)
  obtain ⟨one, st3, e3, p3, q3, D3⟩ := pickK (k + 2) D2.src (m := 3) (by omega) (by omega) (by omega)
  obtain ⟨ot, st4, e4, p4, q4, D4⟩ := pickK (k + 2) D3.src (m := 2) (by omega) (by omega) (by omega)
  have L4 : st4.length = st.length + 1 := by rw [D4.len, D3.len, D2.len]; simp [L1]
  have l1 : lstAt (st1 ++ [.lst ([r0, r1, r2].map dT)]) st.length = some ([r0, r1, r2].map dT) := by rw [← L1]; exact lstAt_app_len _
  have l4 : lstAt st4 st.length = some ([r0, r1, r2].map dT) := D4.lst (D3.lst (D2.lst l1 (by omega)) (by omega)) (by omega)
  have K4 : KeepS s st st4 := (((D1.keep.trans (KeepS.app _ _ _)).trans D2.keep).trans D3.keep).trans D4.keep
  have S4 : ∀ g, Src (st4 ++ g) s (N + 100) := fun g => (D4.src.app g).mono (by omega)
  have S40 : Src st4 s (N + 100) := D4.src.mono (by omega)
  have rle : ∀ r, r ∈ [r0, r1, r2] → 1 ≤ r.length ∧ r.length ≤ 13 ∧ ∃ m, IsHand m n r ∧ 1 ≤ m := fun r hr => by
    simp only [List.mem_cons, List.not_mem_nil, or_false] at hr
    rcases hr with rfl | rfl | rfl
    · exact ⟨by have := h0.1; omega, by have := h0.1; omega, a, h0, a1⟩
    · exact ⟨by have := h1.1; omega, by have := h1.1; omega, b, h1, b1⟩
    · exact ⟨by have := h2.1; omega, by have := h2.1; omega, c, h2, c1⟩
  have r100 : ∀ r, r ∈ [r0, r1, r2] → r.length ≤ 100 := fun r hr => by have := (rle r hr).2.1; omega
  obtain ⟨ro, ao, mo⟩ : ∃ ro, L2.atI ([r0, r1, r2].map dT) one = some (dT ro) ∧ ro ∈ [r0, r1, r2] := by
    have : one = 0 ∨ one = 1 ∨ one = 2 := by omega
    rcases this with rfl | rfl | rfl
    · exact ⟨r0, rfl, by simp⟩
    · exact ⟨r1, rfl, by simp⟩
    · exact ⟨r2, rfl, by simp⟩
  obtain ⟨rr, ar, mr⟩ : ∃ rr, L2.atI ([r0, r1, r2].map dT) ((one + 1 + ot) % 3) = some (dT rr) ∧ rr ∈ [r0, r1, r2] := by
    have : (one + 1 + ot) % 3 = 0 ∨ (one + 1 + ot) % 3 = 1 ∨ (one + 1 + ot) % 3 = 2 := by omega
    rcases this with e | e | e
    · exact ⟨r0, by rw [e]; rfl, by simp⟩
    · exact ⟨r1, by rw [e]; rfl, by simp⟩
    · exact ⟨r2, by rw [e]; rfl, by simp⟩
  obtain ⟨y, ry, hrr⟩ : ∃ y ry, rr = y :: ry := by
    have := (rle rr mr).1
    cases rr with
    | nil => simp at this
    | cons y ry => exact ⟨y, ry, rfl⟩
  subst hrr
  have io : L2.ixN 3 one = some one.toNat := by
    have : one = 0 ∨ one = 1 ∨ one = 2 := by omega
    rcases this with rfl | rfl | rfl <;> rfl
  have z3 : 3 ≤ sizeLine := sz (by decide)
  have z4 : 4 ≤ sizeLine := sz (by decide)
  have z2 : 2 ≤ sizeLine := sz (by decide)
  have z1 : 1 ≤ sizeLine := sz (by decide)
  have z0 : 0 ≤ sizeLine := Nat.zero_le _
  have z20 : 2 + 1 ≤ sizeLine := sz (by decide)
  rw [run_eq (Tbl := Tbl) (f := n_law_deal) rfl rfl]
  have m012 : ∀ r : List Int, r = r0 ∨ r = r1 ∨ r = r2 → r.length ≤ 100 := fun r hr => r100 r (by simpa using hr)
  by_cases k0 : kd = 0
  · subst k0
    have this := thing_gcL (st := st) (st2 := st4 ++ [.lst ([r1, r2].map dT), .lst ([r0].map dT), .lst ([r1, r2, r0].map dT)]) (s := s) (N := N + 100) (d := dTT [r1, r2, r0]) (S4 _) hs (K4.trans (KeepS.app _ _ _)) (tyL_rows (L := [r1, r2, r0]) (fun r hr => m012 r (by
      simp only [List.mem_cons, List.not_mem_nil, or_false] at hr
      rcases hr with h | h | h
      · exact .inr (.inl h)
      · exact .inr (.inr h)
      · exact .inl h)) (by simp))
    simp only [List.map_cons, List.map_nil] at l4 e2 this
    have c1 : cutD [dT r0, dT r1, dT r2] (some 1) none = [dT r1, dT r2] := rfl
    have c2 : cutD [dT r0, dT r1, dT r2] none (some 1) = [dT r0] := rfl
    have la : ∀ g, lstAt (st4 ++ g) st.length = some [dT r0, dT r1, dT r2] := fun g => by rw [lstAt_app (lstAt_lt l4)]; exact l4
    have lb : ∀ (A : List D) g, lstAt (st4 ++ .lst A :: g) st4.length = some A := fun A g => by rw [lstAt_len]; rfl
    have lc : ∀ (x : Cell) (A : List D) g, lstAt (st4 ++ x :: .lst A :: g) (st4.length + 1) = some A := fun x A g => lstAt_add st4 _ 1
    have ld : ∀ (x y : Cell) (A : List D) g, lstAt (st4 ++ x :: y :: .lst A :: g) (st4.length + 2) = some A := fun x y A g => lstAt_add st4 _ 2
    simp [e1, e2, e3, e4, l4, la, c1, c2, lb, lc, ld, z3, z20]
    exact this
  · by_cases k1 : kd = 1
    · subst k1
      have this := thing_gcL (st := st) (st2 := st4 ++ [.lst ([r0, r1].map dT)]) (s := s) (N := N + 100) (d := dTT [r0, r1]) (S4 _) hs (K4.trans (KeepS.app _ _ _)) (tyL_rows (L := [r0, r1]) (fun r hr => m012 r (by
        simp only [List.mem_cons, List.not_mem_nil, or_false] at hr
        rcases hr with h | h
        · exact .inl h
        · exact .inr (.inl h))) (by simp))
      simp only [List.map_cons, List.map_nil] at l4 e2 this
      have c2 : cutD [dT r0, dT r1, dT r2] none (some 2) = [dT r0, dT r1] := rfl
      have lb : ∀ (A : List D) g, lstAt (st4 ++ .lst A :: g) st4.length = some A := fun A g => by rw [lstAt_len]; rfl
      simp [e1, e2, e3, e4, l4, c2, lb, z2]
      exact this
    · by_cases k2 : kd = 2
      · subst k2
        have this := thing_gcL (st := st) (st2 := st4 ++ [.lst [.tup []], .lst [dT r0, dT r1, dT r2, .tup []]]) (s := s) (N := N + 100) (d := .tup [dT r0, dT r1, dT r2, .tup []]) (S4 _) hs (K4.trans (KeepS.app _ _ _)) ⟨⟨_, rfl⟩, fun ds e => by
          cases e
          refine ⟨by simp, fun e he => ?_⟩
          simp only [List.mem_cons, List.not_mem_nil, or_false] at he
          rcases he with rfl | rfl | rfl | rfl
          · exact tyE_row (m012 _ (.inl rfl))
          · exact tyE_row (m012 _ (.inr (.inl rfl)))
          · exact tyE_row (m012 _ (.inr (.inr rfl)))
          · exact tyE_nil⟩
        simp only [List.map_cons, List.map_nil] at l4 e2
        have la : ∀ g, lstAt (st4 ++ g) st.length = some [dT r0, dT r1, dT r2] := fun g => by rw [lstAt_app (lstAt_lt l4)]; exact l4
        have lb : ∀ (A : List D) g, lstAt (st4 ++ .lst A :: g) st4.length = some A := fun A g => by rw [lstAt_len]; rfl
        have lc : ∀ (x : Cell) (A : List D) g, lstAt (st4 ++ x :: .lst A :: g) (st4.length + 1) = some A := fun x A g => lstAt_add st4 _ 1
        have z31 : 3 + 1 ≤ sizeLine := sz (by decide)
        simp [e1, e2, e3, e4, l4, la, lb, lc, newL, z0, z1, z4, z31]
        exact this
      · by_cases k3 : kd = 3
        · subst k3
          have so := sortZ (ro.drop 1 ++ [y])
          have rol := (rle ro mo).2.1
          have xl : ((ro.drop 1 ++ [y]).mergeSort leZ).length ≤ 100 := by rw [List.length_mergeSort]; simp; omega
          have xz : ((ro.drop 1 ++ [y]).mergeSort leZ).length ≤ sizeLine := sz xl
          have c1 : cutD (ro.map D.int) (some 1) none = (ro.drop 1).map D.int := by rw [List.map_drop]; exact cut_drop _ 1
          have zd : (ro.drop 1).length ≤ sizeLine := sz (by simp; omega)
          have zd1 : (ro.drop 1).length + 1 ≤ sizeLine := sz (by simp; omega)
          have hz : (ro.drop 1).length + 1 = ((ro.drop 1 ++ [y]).mergeSort leZ).length := by rw [List.length_mergeSort]; simp
          rw [List.map_append] at so
          have this := fun W (hW : Src W s (N + 100)) (kW : KeepS s st W) => thing_gcL (st := st) (st2 := W) (s := s) (N := N + 100) (d := .tup (([r0, r1, r2].map dT).set one.toNat (dT ((ro.drop 1 ++ [y]).mergeSort leZ)))) hW hs kW (tyL_set r100 (by simp) (tyE_row xl))
          generalize (ro.drop 1 ++ [y]).mergeSort leZ = X at *
          generalize ro.drop 1 = O at *
          have so : sortO (O.map D.int ++ [.int y]) = some (X.map D.int) := so
          have l5 : ∀ g, lstAt (st4 ++ g) st.length = some ([r0, r1, r2].map dT) := fun g => by rw [lstAt_app (lstAt_lt l4)]; exact l4
          have lb : ∀ (A : List D) g, lstAt (st4 ++ .lst A :: g) st4.length = some A := fun A g => by rw [lstAt_len]; rfl
          have lc : ∀ (x : Cell) (A : List D) g, lstAt (st4 ++ x :: .lst A :: g) (st4.length + 1) = some A := fun x A g => lstAt_add st4 _ 1
          have ld : ∀ (x y : Cell) (A : List D) g, lstAt (st4 ++ x :: y :: .lst A :: g) (st4.length + 2) = some A := fun x y A g => lstAt_add st4 _ 2
          have rl3 : ([r0, r1, r2].map dT).length = 3 := rfl
          generalize [r0, r1, r2].map dT = RR at *
          have T := this ((st4 ++ [Cell.lst (O.map D.int), .lst [.int y], .lst (O.map D.int ++ [.int y])]).set st.length (.lst (RR.set one.toNat (dT X)))) ((S4 _).put (by omega)) ((K4.trans (KeepS.app _ _ _)).put (Nat.le_refl _) _)
          have l6 : lstAt ((st4 ++ [Cell.lst (O.map D.int), .lst [.int y], .lst (O.map D.int ++ [.int y])]).set st.length (.lst (RR.set one.toNat (dT X)))) st.length = some (RR.set one.toNat (dT X)) := lstAt_set (by simp; omega)
          simp only [dT, tupF] at ao ar T l6 ⊢
          simp [e1, e2, e3, e4, l4, ao, ar, c1, newL, zd, z1, l5, lb, lc, ld, zd1, so, xz, putL_ref, rl3, io, l6, z3]
          exact T
        · by_cases k4 : kd = 4 ∨ kd = 5
          · obtain ⟨m, hro, hm1⟩ := (rle ro mo).2.2
            obtain ⟨v, st5, e5, t5, v5, S5, K5⟩ := law_spoilt_spec k D4.src (by omega) hro hm1 le
            have e5 : callN Tbl (k + 3) 208 [.ref s, dT ro, .int n] st4 = .ok v st5 := e5
            have l5 : lstAt st5 st.length = some ([r0, r1, r2].map dT) := K5.lst l4 (by omega)
            have te : tyE st5 v := ⟨t5, v5⟩
            have this := thing_gcL (st := st) (st2 := st5.set st.length (.lst (([r0, r1, r2].map dT).set one.toNat v))) (s := s) (N := N + 100) (d := .tup (([r0, r1, r2].map dT).set one.toNat v)) ((S5.put (by omega)).mono (by omega)) hs ((K4.trans K5).put (Nat.le_refl _) _) (tyL_set r100 (by simp) (tyE_setL l5 te))
            have l6 : lstAt (st5.set st.length (.lst (([r0, r1, r2].map dT).set one.toNat v))) st.length = some (([r0, r1, r2].map dT).set one.toNat v) := lstAt_set (lstAt_lt l5)
            have rl3 : ([r0, r1, r2].map dT).length = 3 := rfl
            generalize [r0, r1, r2].map dT = RR at *
            have sm := S.sm st4
            unfold setD at *
            rcases k4 with rfl | rfl
            · simp [e1, e2, e3, e4, l4, ao, sm, e5, l5, putL_ref, rl3, io, l6, z3]
              exact this
            · simp [e1, e2, e3, e4, l4, ao, sm, e5, l5, putL_ref, rl3, io, l6, z3]
              exact this
          · have k4' : ¬ kd = 4 := fun e => k4 (.inl e)
            have k5' : ¬ kd = 5 := fun e => k4 (.inr e)
            by_cases k6 : kd = 6
            · subst k6
              have this := thing_gcL (st := st) (st2 := st4) (s := s) (N := N + 100) (d := .ref st.length) S40 hs K4 ⟨⟨_, ty_lst l4⟩, fun ds e => by cases e⟩
              simp only [List.map_cons, List.map_nil] at e2
              simp [e1, e2, e3, e4]
              exact this
            · have this := thing_gcL (st := st) (st2 := st4) (s := s) (N := N + 100) (d := dTT [r0, r1, r2]) S40 hs K4 (tyL_rows r100 (by simp))
              simp only [List.map_cons, List.map_nil] at l4 e2
              simp [e1, e2, e3, e4, k0, k1, k2, k3, k4', k5', k6, l4, z3]
              exact this

noncomputable abbrev k01I : SS := (sSeq (sIf (bNot (bOf (eCall 8 (lCons (eCall 16 (lCons (eV 3) (lCons (eV 4) lNil))) (lCons (eCall 158 (lCons (eV 4) (lCons (eB2 ixR (eV 3) (eC (.int 0))) (lCons (eA sumQ (lSeq (eV 3))) lNil)))) lNil))))) (sSeq (sRet (eC (.bl false))) sNx) sNx) (sSeq (sIf (bNot (bOf (eCall 8 (lCons (eCall 211 (lCons (eV 3) (lCons (eV 5) lNil))) (lCons (eCall 212 (lCons (eV 5) (lCons (eV 3) lNil))) lNil))))) (sSeq (sRet (eC (.bl false))) sNx) sNx) sNx))
noncomputable abbrev k01F : SS := (sFor (siR1 (lCons (eC (.int 2)) lNil)) (gN 6) k01I)
noncomputable abbrev k01B : SS := (sSeq (sSet 3 (eCall 9 (lCons (eV 1) lNil))) (sSeq (sSet 4 (eCall 208 (lCons (eV 1) (lCons (eB2 ixR (eCall 209 (lCons (eV 1) (lCons (eV 3) lNil))) (eC (.int 0))) (lCons (eA sumQ (lSeq (eV 3))) lNil))))) (sSeq (sSet 5 (eCall 210 (lCons (eV 1) (lCons (eV 3) lNil)))) (sSeq k01F sNx))))
theorem k01_f {st : Sto} {x0 x1 x2 x6 : Option D} {a b c n : Nat} (S : Stg a b c n) {v d : D} (hv : tyE st v) (hd : TyL st d) : ∃ z, k01F (callN Tbl 59) [x0, x1, x2, some (setD a b c), some v, some d, x6] st = .nx [x0, x1, x2, some (setD a b c), some v, some d, z] st := by
  have b2 : rngI 2 = true := rngI_of (by decide) (by decide)
  have e1 : callN Tbl 59 n_is_hand [setD a b c, v] st = .ok (.bl (isHandD a n v)) st := is_hand_any 55 S hv.1
  have e2 : callN Tbl 59 n_law_is_row [v, .int a, .int n] st = .ok (.bl (isHandD a n v)) st := lis_row_any 58 hv
  have e3 : callN Tbl 59 n_is_deal [setD a b c, d] st = .ok (.bl (dealB a b c n d)) st := is_deal_any 55 S ⟨hd.1, fun ds e x hx => ((hd.2 ds e).2 x hx).1⟩
  have e4 : callN Tbl 59 n_law_is_deal_v2 [d, setD a b c] st = .ok (.bl (dealB a b c n d)) st := law_deal_any 57 S hd
  have e5 : ∀ (p : Bool), callN Tbl 59 n_law_same [.bl p, .bl p] st = .ok (.bl true) st := fun p => by
    have := same_bl 58 (st := st) p p
    simpa using this
  have sm := S.sm st
  have loop := forGo_inv (src := []) (g := gN 6) (C := callN Tbl 59) (b := k01I)
    (fun i env st' => ∃ z, env = [x0, x1, x2, some (setD a b c), some v, some d, z] ∧ st' = st) ((List.range 2).map fun (i : Nat) => D.int (i : Int)) 0
    (fun i e he env st' ⟨z, q1, q2⟩ => by
      obtain ⟨hi, rfl⟩ := rngItem he
      subst q1
      subst q2
      refine ⟨rfl, _, rfl, ?_⟩
      refine ⟨[x0, x1, x2, some (setD a b c), some v, some d, some (.int (i : Int))], st', ?_, _, rfl, rfl⟩
      · generalize isHandD a n v = p1 at *
        generalize dealB a b c n d = p2 at *
        unfold setD at *
        simp [e1, e2, e3, e4, e5, sm]) (fun _ _ _ => rfl)
  obtain ⟨env2, st2, r1, z, r2, r3⟩ := loop [x0, x1, x2, some (setD a b c), some v, some d, x6] st ⟨_, rfl, rfl⟩
  subst r2
  subst r3
  refine ⟨z, ?_⟩
  unfold k01F
  generalize k01I = W at *
  unfold setD at *
  simp [b2, r1]
theorem k01_b {st : Sto} {s N : Nat} (h : Src st s N) (hN : N + 2000 < 10000000) {x0 x2 x3 x4 x5 x6 : Option D} : ∃ st' w3 w4 w5 w6, k01B (callN Tbl 59) [x0, some (.ref s), x2, x3, x4, x5, x6] st = .nx [x0, some (.ref s), x2, w3, w4, w5, w6] st' ∧ Src st' s (N + 300) := by
  obtain ⟨a', b', c', l, e1, a1, b1, c1, h13, S1⟩ := any_setting_spec 57 h (by omega)
  obtain ⟨a, rfl⟩ : ∃ a : Nat, a' = a := ⟨a'.toNat, by omega⟩
  obtain ⟨b, rfl⟩ : ∃ b : Nat, b' = b := ⟨b'.toNat, by omega⟩
  obtain ⟨c, rfl⟩ : ∃ c : Nat, c' = c := ⟨c'.toNat, by omega⟩
  have S : Stg a b c (a + b + c) := ⟨by omega, by omega, by omega, rfl, by omega⟩
  have e1 : callN Tbl 59 9 [.ref s] st = .ok (setD a b c) (st.set s l) := e1
  generalize hst : st.set s l = st1 at e1 S1
  obtain ⟨r0, r1, r2, st2, e2, h0, h1, h2, D2⟩ := law_rows_of_spec 57 S S1 (by omega)
  have e2 : callN Tbl 59 209 [.ref s, setD a b c] st1 = .ok (.ref st1.length) (st2 ++ [.lst ([r0, r1, r2].map dT)]) := e2
  have l2 : lstAt (st2 ++ [.lst ([r0, r1, r2].map dT)]) st1.length = some ([r0, r1, r2].map dT) := by rw [← D2.len]; exact lstAt_app_len _
  obtain ⟨v, st3, e3, t3, v3, S3, K3⟩ := law_spoilt_spec 56 (D2.src.app [.lst ([r0, r1, r2].map dT)]) (by omega) h0 (by omega) (by omega)
  have e3 : callN Tbl 59 208 [.ref s, dT r0, .int ((a + b + c : Nat) : Int)] (st2 ++ [.lst ([r0, r1, r2].map dT)]) = .ok v st3 := e3
  obtain ⟨d, st4, e4, t4, S4, K4⟩ := law_deal_spec 55 S S3 (by omega)
  have e4 : callN Tbl 59 210 [.ref s, setD a b c] st3 = .ok d st4 := e4
  have tv : tyE st4 v := ⟨tyOk_keep t3 K4 S3 S4, v3⟩
  obtain ⟨z, eF⟩ := k01_f (x0 := x0) (x1 := some (.ref s)) (x2 := x2) (x6 := x6) S tv t4
  have sm : ∀ st, sumQ st [.int a, .int b, .int c] = .ok (.int ((a + b + c : Nat) : Int)) st := fun st => S.sm st
  generalize ((a + b + c : Nat) : Int) = n at sm e3
  refine ⟨st4, some (setD a b c), some v, some d, z, ?_, S4.mono (by omega)⟩
  have ix : L2.atI ([r0, r1, r2].map dT) 0 = some (dT r0) := rfl
  generalize dT r0 = R0 at *
  unfold k01B
  generalize k01F = F at *
  generalize [r0, r1, r2].map dT = RR at *
  unfold setD at *
  simp [e1, e2, l2, ix, sm, e3, e4, eF]
theorem k01_true (ns : List Int) (_ : ns.length ≤ 63) : ∃ st, callN Tbl 60 n_law_v42 [.scr (ns.map D.int)] [] = .ok (.bl true) st := by
  obtain ⟨s, st0, e0, h0⟩ := source_spec 58 ns
  rw [run_eq (Tbl := Tbl) (f := n_law_v42) (body := (sSeq (sSet 1 (eCall 6 (lCons (eV 0) lNil))) (sSeq (sFor (siR1 (lCons (eB2 addR (eC (.int 1)) (eA min2 (lCons (eC (.int 3)) (lCons (eB2 divR (eU1 lenR (eV 0)) (eC (.int 6))) lNil)))) lNil)) (gN 2) k01B) (sSeq (sRet (eC (.bl true))) sNx)))) rfl rfl]
  have hb : rngI (1 + min 3 ((ns.length : Int) / 6)) = true := rngI_of (by omega) (by omega)
  have hl : (1 + min 3 ((ns.length : Int) / 6)).toNat ≤ 4 := by omega
  have d9 : divOk 6 = true := divOk_of (by decide) (by decide)
  generalize hn : (1 + min 3 ((ns.length : Int) / 6)).toNat = m at hl
  have loop := forGo_inv (src := []) (g := gN 2) (C := callN Tbl 59) (b := k01B)
    (fun i env st' => ∃ x y z w v, env = [some (.scr (ns.map D.int)), some (.ref s), x, y, z, w, v] ∧ Src st' s (300 * i)) ((List.range m).map fun (i : Nat) => D.int (i : Int)) 0
    (fun i d hd env st' ⟨x, y, z, w, v, e, hS⟩ => by
      obtain ⟨ha, rfl⟩ := rngItem hd
      subst e
      refine ⟨rfl, _, rfl, ?_⟩
      obtain ⟨st'', w3, w4, w5, w6, q, S'⟩ := k01_b (x0 := some (.scr (ns.map D.int))) (x2 := some (.int (i : Int))) (x3 := y) (x4 := z) (x5 := w) (x6 := v) hS (by omega)
      exact ⟨_, st'', q, _, _, _, _, _, rfl, S'.mono (by omega)⟩) (fun _ _ _ => rfl)
  obtain ⟨env2, st2, r1, x, y, z, w, v, r2, _⟩ := loop [some (.scr (ns.map D.int)), some (.ref s), none, none, none, none, none] st0 ⟨_, _, _, _, _, rfl, h0⟩
  subst r2
  generalize k01B = B at r1 ⊢
  simp [e0, hb, hn, d9, r1]
  exact gc_bl _ _ _

end OH
namespace OH
open PySem PySem.Spec PyProof.Rows L2
def topS (i : Nat) : Stmt := PySem.Challenge.pw_openhands_k01_hands_and_deals.main.body.getD i (.Pass ⟨0, 0, 0, 0⟩)
abbrev s_law_source : Stmt := topS 12
theorem sc_law_source : FnScope ["script"] ["script"] (defScope s_law_source) := ⟨rfl, rfl, rfl, by decide +kernel, rfl, by decide +kernel, by decide +kernel⟩
theorem ok_law_source {P : Program} {w : World} {G : Gx} {mg : Str → Option Value} {base : Heap} {Tbl : Nat → FD} {k : Nat} {fd : FuncData} (F : Fun G.K "_law_source" "_law_source" s_law_source (G.fa 6) fd) (hTbl : Tbl 6 = fd_law_source) (b_list : mg "list" = none) : FnOk P w G.K mg base (L2.CX P w) (k + 1) (G.fa 6) fd ["script"] (spC G (callN Tbl (k + 1)) 6) :=
  fn_ok (C := callN Tbl k) fd_law_source F sc_law_source rfl rfl (fun ds st => by simp only [callN, hTbl]) (fun cdv A outer s H E hr tk po =>
    show DSs G _ _ (callN Tbl k) _ ((sSeq (sRet (eNew (lLst (lCons (eNew (lMap (fun _ ds => some ds) (lSeq (eV 0)))) (lCons (eC (.int 0)) (lCons (eC (.int 0)) (lCons (eC (.int 0)) (lCons (eC (.int 0)) lNil)))))))) sNx)) from
    (dss_cons (by exact (ds_ret (de_new (dt_lst (da_cons (de_new (dt_list rfl (pe_callTy call_list_of (by rfl) b_list PyProof.Rows.boot_list (pa_cons (dq_of (de_var (pv 0))) pa_nil)))) (da_cons de_int (da_cons de_int (da_cons de_int (da_cons de_int da_nil))))))))) (by exact dss_nil)))
abbrev s_law_pick : Stmt := topS 13
theorem sc_law_pick : FnScope ["source", "many", "cell", "found", "mark"] ["source", "many"] (defScope s_law_pick) := ⟨rfl, rfl, rfl, by decide +kernel, rfl, by decide +kernel, by decide +kernel⟩
theorem ok_law_pick {P : Program} {w : World} {G : Gx} {mg : Str → Option Value} {base : Heap} {Tbl : Nat → FD} {k : Nat} {fd : FuncData} (F : Fun G.K "_law_pick" "_law_pick" s_law_pick (G.fa 7) fd) (hTbl : Tbl 7 = fd_law_pick) (b_len : mg "len" = none) (b_int : mg "int" = none) : FnOk P w G.K mg base (L2.CX P w) (k + 1) (G.fa 7) fd ["source", "many"] (spC G (callN Tbl (k + 1)) 7) :=
  fn_ok (C := callN Tbl k) fd_law_pick F sc_law_pick rfl rfl (fun ds st => by simp only [callN, hTbl]) (fun cdv A outer s H E hr tk po =>
    show DSs G _ _ (callN Tbl k) _ ((sSeq (sPut putL (eV 0) (eC (.int 3)) (eB2 addR (eB2 ixR (eV 0) (eC (.int 3))) (eC (.int 1)))) (sSeq (sIf (bAnd (bCmp eqB (eB2 ixR (eV 0) (eC (.int 2))) (eC (.int 0))) (bCmp ltD (eB2 ixR (eV 0) (eC (.int 1))) (eU1 lenR (eB2 ixR (eV 0) (eC (.int 0)))))) (sSeq (sSet 2 (eB2 ixR (eB2 ixR (eV 0) (eC (.int 0))) (eB2 ixR (eV 0) (eC (.int 1))))) (sSeq (sPut putL (eV 0) (eC (.int 1)) (eB2 addR (eB2 ixR (eV 0) (eC (.int 1))) (eC (.int 1)))) (sSeq (sIf (bCmp geD (eV 2) (eB2 powR (eC (.int 10)) (eC (.int 18)))) (sSeq (sPut putL (eV 0) (eC (.int 2)) (eV 2)) sNx) (sSeq (sPut putL (eV 0) (eC (.int 4)) (eB2 modR (eU1 intR (eB2 addR (eB2 addR (eB2 mulR (eB2 ixR (eV 0) (eC (.int 4))) (eC (.int 31))) (eV 2)) (eC (.int 17)))) (eC (.int 1000000007)))) sNx)) sNx))) sNx) (sSeq (sIf (bCmp gtD (eB2 ixR (eV 0) (eC (.int 2))) (eC (.int 0))) (sSeq (sSet 3 (eB2 modR (eU1 intR (eB2 ixR (eV 0) (eC (.int 2)))) (eV 1))) (sSeq (sPut putL (eV 0) (eC (.int 2)) (eB2 divR (eB2 ixR (eV 0) (eC (.int 2))) (eV 1))) (sSeq (sRet (eV 3)) sNx))) sNx) (sSeq (sSet 4 (eB2 addR (eB2 addR (eB2 ixR (eV 0) (eC (.int 4))) (eB2 mulR (eB2 mulR (eC (.int 613)) (eB2 ixR (eV 0) (eC (.int 3)))) (eB2 ixR (eV 0) (eC (.int 3))))) (eC (.int 29)))) (sSeq (sSet 4 (eB2 modR (eU1 intR (eB2 addR (eB2 mulR (eV 4) (eV 4)) (eB2 mulR (eC (.int 8191)) (eV 4)))) (eC (.int 1000003937)))) (sSeq (sSet 4 (eB2 modR (eU1 intR (eB2 mulR (eB2 addR (eV 4) (eB2 ixR (eV 0) (eC (.int 3)))) (eB2 addR (eV 4) (eC (.int 977))))) (eC (.int 998244353)))) (sSeq (sRet (eB2 modR (eB2 divR (eV 4) (eC (.int 5))) (eV 1))) sNx)))))))) from
    (dss_cons (by exact (ds_put (ps_asg (de_add rfl (de_ix rfl (de_var (pv 0)) de_int) de_int) (pg_sub (de_var (pv 0)) de_int set_list)) br_putL)) (by exact (dss_cons (by exact (ds_if (db_w (dw_and (db_eq rfl (hu64 hr) (de_ix rfl (de_var (pv 0)) de_int) de_int) (dw_and1 (db_lt rfl hr (de_ix rfl (de_var (pv 0)) de_int) (de_len rfl (pe_callB call_lenA (by rfl) b_len PySem.boot_len (pa_cons (de_ix rfl (de_var (pv 0)) de_int) pa_nil))))))) (dss_cons (by exact (ds_set (ps_set (i := 2) sc_law_pick.nd rfl (Or.inl rfl) (de_ix rfl (de_ix rfl (de_var (pv 0)) de_int) (de_ix rfl (de_var (pv 0)) de_int))))) (by exact (dss_cons (by exact (ds_put (ps_asg (de_add rfl (de_ix rfl (de_var (pv 0)) de_int) de_int) (pg_sub (de_var (pv 0)) de_int set_list)) br_putL)) (by exact (dss_cons (by exact (ds_if (db_ge rfl hr (de_var (pv 2)) (de_pow de_int de_int)) (dss_cons (by exact (ds_put (ps_asg (de_var (pv 2)) (pg_sub (de_var (pv 0)) de_int set_list)) br_putL)) (by exact dss_nil)) (dss_cons (by exact (ds_put (ps_asg (de_mod (de_c1 (pe_callTy call_int1 (by rfl) b_int PyProof.Rows.boot_int (pa_cons (de_add rfl (de_add rfl (de_mul (de_ix rfl (de_var (pv 0)) de_int) de_int) (de_var (pv 2))) de_int) pa_nil)) br_int) de_int) (pg_sub (de_var (pv 0)) de_int set_list)) br_putL)) (by exact dss_nil)))) (by exact dss_nil)))))) dss_nil)) (by exact (dss_cons (by exact (ds_if (db_gt rfl hr (de_ix rfl (de_var (pv 0)) de_int) de_int) (dss_cons (by exact (ds_set (ps_set (i := 3) sc_law_pick.nd rfl (Or.inl rfl) (de_mod (de_c1 (pe_callTy call_int1 (by rfl) b_int PyProof.Rows.boot_int (pa_cons (de_ix rfl (de_var (pv 0)) de_int) pa_nil)) br_int) (de_var (pv 1)))))) (by exact (dss_cons (by exact (ds_put (ps_asg (de_div (de_ix rfl (de_var (pv 0)) de_int) (de_var (pv 1))) (pg_sub (de_var (pv 0)) de_int set_list)) br_putL)) (by exact (dss_cons (by exact (ds_ret (de_var (pv 3)))) (by exact dss_nil)))))) dss_nil)) (by exact (dss_cons (by exact (ds_set (ps_set (i := 4) sc_law_pick.nd rfl (Or.inl rfl) (de_add rfl (de_add rfl (de_ix rfl (de_var (pv 0)) de_int) (de_mul (de_mul de_int (de_ix rfl (de_var (pv 0)) de_int)) (de_ix rfl (de_var (pv 0)) de_int))) de_int)))) (by exact (dss_cons (by exact (ds_set (ps_set (i := 4) sc_law_pick.nd rfl (Or.inl rfl) (de_mod (de_c1 (pe_callTy call_int1 (by rfl) b_int PyProof.Rows.boot_int (pa_cons (de_add rfl (de_mul (de_var (pv 4)) (de_var (pv 4))) (de_mul de_int (de_var (pv 4)))) pa_nil)) br_int) de_int)))) (by exact (dss_cons (by exact (ds_set (ps_set (i := 4) sc_law_pick.nd rfl (Or.inl rfl) (de_mod (de_c1 (pe_callTy call_int1 (by rfl) b_int PyProof.Rows.boot_int (pa_cons (de_mul (de_add rfl (de_var (pv 4)) (de_ix rfl (de_var (pv 0)) de_int)) (de_add rfl (de_var (pv 4)) de_int)) pa_nil)) br_int) de_int)))) (by exact (dss_cons (by exact (ds_ret (de_mod (de_div (de_var (pv 4)) de_int) (de_var (pv 1))))) (by exact dss_nil)))))))))))))))
abbrev s_law_any_setting : Stmt := topS 15
theorem sc_law_any_setting : FnScope ["source", "own", "bill"] ["source"] (defScope s_law_any_setting) := ⟨rfl, rfl, rfl, by decide +kernel, rfl, by decide +kernel, by decide +kernel⟩
theorem ok_law_any_setting {P : Program} {w : World} {G : Gx} {mg : Str → Option Value} {base : Heap} {Tbl : Nat → FD} {k : Nat} {fd : FuncData} (F : Fun G.K "_law_any_setting" "_law_any_setting" s_law_any_setting (G.fa 9) fd) (hTbl : Tbl 9 = fd_law_any_setting) (h_law_pick : FnAt P w G mg base (callN Tbl k) k 7 "_law_pick") : FnOk P w G.K mg base (L2.CX P w) (k + 1) (G.fa 9) fd ["source"] (spC G (callN Tbl (k + 1)) 9) :=
  fn_ok (C := callN Tbl k) fd_law_any_setting F sc_law_any_setting rfl rfl (fun ds st => by simp only [callN, hTbl]) (fun cdv A outer s H E hr tk po =>
    show DSs G _ _ (callN Tbl k) _ ((sSeq (sSet 1 (eB2 addR (eC (.int 1)) (eCall 7 (lCons (eV 0) (lCons (eC (.int 11)) lNil))))) (sSeq (sSet 2 (eB2 addR (eC (.int 1)) (eCall 7 (lCons (eV 0) (lCons (eB2 subR (eC (.int 12)) (eV 1)) lNil))))) (sSeq (sRet (eTup (lCons (eV 1) (lCons (eV 2) (lCons (eB2 addR (eC (.int 1)) (eCall 7 (lCons (eV 0) (lCons (eB2 subR (eB2 subR (eC (.int 13)) (eV 1)) (eV 2)) lNil)))) lNil))))) sNx)))) from
    (dss_cons (by exact (ds_set (ps_set (i := 1) sc_law_any_setting.nd rfl (Or.inl rfl) (de_add rfl de_int (de_call h_law_pick rfl hr tk (by rfl) (da_cons (de_var (pv 0)) (da_cons de_int da_nil))))))) (by exact (dss_cons (by exact (ds_set (ps_set (i := 2) sc_law_any_setting.nd rfl (Or.inl rfl) (de_add rfl de_int (de_call h_law_pick rfl hr tk (by rfl) (da_cons (de_var (pv 0)) (da_cons (de_sub de_int (de_var (pv 1))) da_nil))))))) (by exact (dss_cons (by exact (ds_ret (de_tup (da_cons (de_var (pv 1)) (da_cons (de_var (pv 2)) (da_cons (de_add rfl de_int (de_call h_law_pick rfl hr tk (by rfl) (da_cons (de_var (pv 0)) (da_cons (de_sub (de_sub de_int (de_var (pv 1))) (de_var (pv 2))) da_nil)))) da_nil)))))) (by exact dss_nil)))))))
abbrev s_law_bad_row : Stmt := topS 17
theorem sc_law_bad_row : FnScope ["source", "row", "total", "cards", "at", "kind", "k"] ["source", "row", "total"] (defScope s_law_bad_row) := ⟨rfl, rfl, rfl, by decide +kernel, rfl, by decide +kernel, by decide +kernel⟩
theorem ok_law_bad_row {P : Program} {w : World} {G : Gx} {mg : Str → Option Value} {base : Heap} {Tbl : Nat → FD} {k : Nat} {fd : FuncData} (F : Fun G.K "_law_bad_row" "_law_bad_row" s_law_bad_row (G.fa 148) fd) (hTbl : Tbl 148 = fd_law_bad_row) (h_law_pick : FnAt P w G mg base (callN Tbl k) k 7 "_law_pick") (b_list : mg "list" = none) (b_len : mg "len" = none) (b_str : mg "str" = none) (b_range : mg "range" = none) (b_tuple : mg "tuple" = none) : FnOk P w G.K mg base (L2.CX P w) (k + 1) (G.fa 148) fd ["source", "row", "total"] (spC G (callN Tbl (k + 1)) 148) :=
  fn_ok (C := callN Tbl k) fd_law_bad_row F sc_law_bad_row rfl rfl (fun ds st => by simp only [callN, hTbl]) (fun cdv A outer s H E hr tk po =>
    show DSs G _ _ (callN Tbl k) _ ((sSeq (sSet 3 (eNew (lMap (fun _ ds => some ds) (lSeq (eV 1))))) (sSeq (sSet 4 (eCall 7 (lCons (eV 0) (lCons (eU1 lenR (eV 3)) lNil)))) (sSeq (sSet 5 (eCall 7 (lCons (eV 0) (lCons (eC (.int 6)) lNil)))) (sSeq (sIf (bCmp eqB (eV 5) (eC (.int 4))) (sSeq (sRet (eV 3)) sNx) sNx) (sSeq (sIf (bCmp eqB (eV 5) (eC (.int 3))) (sSeq (sPut putL (eV 3) (eV 4) (eB2 ixR (eNew (lLst (lCons (eC (.bl true)) (lCons (eC (.bl false)) (lCons (eC .non) (lCons (eU1 strR (eB2 ixR (eV 3) (eV 4))) (lCons (eTup (lCons (eB2 ixR (eV 3) (eV 4)) lNil)) (lCons (eNew (lLst (lCons (eB2 ixR (eV 3) (eV 4)) lNil))) lNil)))))))) (eCall 7 (lCons (eV 0) (lCons (eC (.int 6)) lNil))))) sNx) (sSeq (sIf (bAnd (bCmp eqB (eV 5) (eC (.int 1))) (bCmp gtD (eU1 lenR (eV 3)) (eC (.int 1)))) (sSeq (sSet 3 (eB2 addR (eSl (eV 3) oNone (oSome (eC (.int 1)))) (eSl (eV 3) oNone (oSome (eB2 subR (eU1 lenR (eV 3)) (eC (.int 1))))))) sNx) (sSeq (sIf (bAnd (bCmp eqB (eV 5) (eC (.int 2))) (bCmp gtD (eU1 lenR (eV 3)) (eC (.int 1)))) (sSeq (sSet 3 (eNew (lLc (siR1 (lCons (eU1 lenR (eV 3)) lNil)) (gN 6) [6] bTrue (eB2 ixR (eV 3) (eB2 subR (eB2 subR (eU1 lenR (eV 3)) (eC (.int 1))) (eV 6)))))) sNx) (sSeq (sPut putL (eV 3) (eV 4) (eB2 ixR (eNew (lLst (lCons (eB2 subR (eC (.int 0)) (eC (.int 1))) (lCons (eV 2) (lCons (eB2 addR (eV 2) (eC (.int 7))) (lCons (eB2 powR (eC (.int 10)) (eC (.int 30))) lNil)))))) (eCall 7 (lCons (eV 0) (lCons (eC (.int 4)) lNil))))) sNx)) sNx)) sNx)) (sSeq (sRet (eA tupQ (lSeq (eV 3)))) sNx))))))) from
    (dss_cons (by exact (ds_set (ps_set (i := 3) sc_law_bad_row.nd rfl (Or.inr rfl) (de_new (dt_list rfl (pe_callTy call_list_of (by rfl) b_list PyProof.Rows.boot_list (pa_cons (dq_of (de_var (pv 1))) pa_nil))))))) (by exact (dss_cons (by exact (ds_set (ps_set (i := 4) sc_law_bad_row.nd rfl (Or.inl rfl) (de_call h_law_pick rfl hr tk (by rfl) (da_cons (de_var (pv 0)) (da_cons (de_len rfl (pe_callB call_lenA (by rfl) b_len PySem.boot_len (pa_cons (de_var (pv 3)) pa_nil))) da_nil)))))) (by exact (dss_cons (by exact (ds_set (ps_set (i := 5) sc_law_bad_row.nd rfl (Or.inl rfl) (de_call h_law_pick rfl hr tk (by rfl) (da_cons (de_var (pv 0)) (da_cons de_int da_nil)))))) (by exact (dss_cons (by exact (ds_if (db_eq rfl (hu64 hr) (de_var (pv 5)) de_int) (dss_cons (by exact (ds_ret (de_var (pv 3)))) (by exact dss_nil)) dss_nil)) (by exact (dss_cons (by exact (ds_if (db_eq rfl (hu64 hr) (de_var (pv 5)) de_int) (dss_cons (by exact (ds_put (ps_asg (de_ix rfl (de_new (dt_lst (da_cons de_bl (da_cons de_bl (da_cons de_non (da_cons (de_c1 (pe_callTy call_str_int (by rfl) b_str PyProof.Rows.boot_str (pa_cons (de_ix rfl (de_var (pv 3)) (de_var (pv 4))) pa_nil)) br_str) (da_cons (de_tup (da_cons (de_ix rfl (de_var (pv 3)) (de_var (pv 4))) da_nil)) (da_cons (de_new (dt_lst (da_cons (de_ix rfl (de_var (pv 3)) (de_var (pv 4))) da_nil))) da_nil)))))))) (de_call h_law_pick rfl hr tk (by rfl) (da_cons (de_var (pv 0)) (da_cons de_int da_nil)))) (pg_sub (de_var (pv 3)) (de_var (pv 4)) set_list)) br_putL)) (by exact dss_nil)) (dss_cons (by exact (ds_if (db_w (dw_and (db_eq rfl (hu64 hr) (de_var (pv 5)) de_int) (dw_and1 (db_gt rfl hr (de_len rfl (pe_callB call_lenA (by rfl) b_len PySem.boot_len (pa_cons (de_var (pv 3)) pa_nil))) de_int)))) (dss_cons (by exact (ds_set (ps_set (i := 3) sc_law_bad_row.nd rfl (Or.inr rfl) (de_add rfl (de_sl rfl (de_var (pv 3)) do_none (do_some de_int)) (de_sl rfl (de_var (pv 3)) do_none (do_some (de_sub (de_len rfl (pe_callB call_lenA (by rfl) b_len PySem.boot_len (pa_cons (de_var (pv 3)) pa_nil))) de_int))))))) (by exact dss_nil)) (dss_cons (by exact (ds_if (db_w (dw_and (db_eq rfl (hu64 hr) (de_var (pv 5)) de_int) (dw_and1 (db_gt rfl hr (de_len rfl (pe_callB call_lenA (by rfl) b_len PySem.boot_len (pa_cons (de_var (pv 3)) pa_nil))) de_int)))) (dss_cons (by exact (ds_set (ps_set (i := 3) sc_law_bad_row.nd rfl (Or.inr rfl) (de_new (dt_lc rfl sc_law_bad_row.nd (di_r1 (pi_range1 (by rfl) b_range (da_cons (de_len rfl (pe_callB call_lenA (by rfl) b_len PySem.boot_len (pa_cons (de_var (pv 3)) pa_nil))) da_nil))) (blkOk_by (own := [("k", 6)]) (by rfl)) (by decide) (fun _ _ _ _ _ => (dg_name (pg_name (i := 6) sc_law_bad_row.nd rfl (Or.inl rfl)))) (fun _ _ _ _ _ => dts_nil) (fun _ _ _ _ _ => (de_ix rfl (de_var (pv 3)) (de_sub (de_sub (de_len rfl (pe_callB call_lenA (by rfl) b_len PySem.boot_len (pa_cons (de_var (pv 3)) pa_nil))) de_int) (de_var (pv 6)))))))))) (by exact dss_nil)) (dss_cons (by exact (ds_put (ps_asg (de_ix rfl (de_new (dt_lst (da_cons (de_sub de_int de_int) (da_cons (de_var (pv 2)) (da_cons (de_add rfl (de_var (pv 2)) de_int) (da_cons (de_pow de_int de_int) da_nil)))))) (de_call h_law_pick rfl hr tk (by rfl) (da_cons (de_var (pv 0)) (da_cons de_int da_nil)))) (pg_sub (de_var (pv 3)) (de_var (pv 4)) set_list)) br_putL)) (by exact dss_nil)))) (by exact dss_nil)))) (by exact dss_nil)))) (by exact (dss_cons (by exact (ds_ret (de_tupQ rfl (pe_callTy call_tuple_of (by rfl) b_tuple PyProof.Rows.boot_tuple (pa_cons (dq_of (de_var (pv 3))) pa_nil))))) (by exact dss_nil)))))))))))))
abbrev s_law_spoilt : Stmt := topS 18
theorem sc_law_spoilt : FnScope ["source", "row", "total", "kind", "at", "cards", "card"] ["source", "row", "total"] (defScope s_law_spoilt) := ⟨rfl, rfl, rfl, by decide +kernel, rfl, by decide +kernel, by decide +kernel⟩
theorem ok_law_spoilt {P : Program} {w : World} {G : Gx} {mg : Str → Option Value} {base : Heap} {Tbl : Nat → FD} {k : Nat} {fd : FuncData} (F : Fun G.K "_law_spoilt" "_law_spoilt" s_law_spoilt (G.fa 208) fd) (hTbl : Tbl 208 = fd_law_spoilt) (h_law_pick : FnAt P w G mg base (callN Tbl k) k 7 "_law_pick") (h_law_bad_row : FnAt P w G mg base (callN Tbl k) k 148 "_law_bad_row") (b_len : mg "len" = none) (b_list : mg "list" = none) (b_sorted : mg "sorted" = none) (b_tuple : mg "tuple" = none) : FnOk P w G.K mg base (L2.CX P w) (k + 1) (G.fa 208) fd ["source", "row", "total"] (spC G (callN Tbl (k + 1)) 208) :=
  fn_ok (C := callN Tbl k) fd_law_spoilt F sc_law_spoilt rfl rfl (fun ds st => by simp only [callN, hTbl]) (fun cdv A outer s H E hr tk po =>
    show DSs G _ _ (callN Tbl k) _ ((sSeq (sSet 3 (eCall 7 (lCons (eV 0) (lCons (eC (.int 16)) lNil)))) (sSeq (sSet 4 (eCall 7 (lCons (eV 0) (lCons (eU1 lenR (eV 1)) lNil)))) (sSeq (sSet 5 (eNew (lMap (fun _ ds => some ds) (lSeq (eV 1))))) (sSeq (sIf (bCmp eqB (eV 3) (eC (.int 0))) (sSeq (sSet 5 (eB2 addR (eB2 addR (eSl (eV 5) oNone (oSome (eV 4))) (eSl (eV 5) (oSome (eB2 addR (eV 4) (eC (.int 1)))) oNone)) (eNew (lLst (lCons (eB2 ixR (eV 5) (eV 4)) lNil))))) sNx) sNx) (sSeq (sIf (bCmp eqB (eV 3) (eC (.int 1))) (sSeq (sExp (eM insertR (eV 5) (lCons (eV 4) (lCons (eB2 ixR (eV 5) (eV 4)) lNil)))) sNx) sNx) (sSeq (sIf (bCmp eqB (eV 3) (eC (.int 2))) (sSeq (sPut putL (eV 5) (eV 4) (eB2 ixR (eNew (lLst (lCons (eB2 subR (eC (.int 0)) (eC (.int 1))) (lCons (eV 2) (lCons (eB2 addR (eV 2) (eC (.int 1))) (lCons (eB2 powR (eC (.int 10)) (eC (.int 30))) lNil)))))) (eCall 7 (lCons (eV 0) (lCons (eC (.int 4)) lNil))))) sNx) sNx) (sSeq (sIf (bCmp eqB (eV 3) (eC (.int 3))) (sSeq (sSet 5 (eNew (lLc (siOf (eV 5)) (gN 6) [6] bTrue (eIf (bCmp ltD (eV 6) (eC (.int 2))) (eB2 (cB eqB) (eV 6) (eC (.int 1))) (eV 6))))) sNx) sNx) (sSeq (sIf (bCmp eqB (eV 3) (eC (.int 4))) (sSeq (sExp (eM popAtR (eV 5) (lCons (eV 4) lNil))) sNx) sNx) (sSeq (sIf (bCmp eqB (eV 3) (eC (.int 5))) (sSeq (sSet 5 (eNew (lSorted (lSeq (eB2 addR (eV 5) (eNew (lLst (lCons (eCall 7 (lCons (eV 0) (lCons (eV 2) lNil))) lNil)))))))) sNx) sNx) (sSeq (sIf (bCmp eqB (eV 3) (eC (.int 6))) (sSeq (sRet (eV 5)) sNx) sNx) (sSeq (sIf (bCmp eqB (eV 3) (eC (.int 7))) (sSeq (sRet (eB2 ixR (eNew (lLst (lCons (eC .non) (lCons (eC (.int 3)) (lCons (eC (.str "012")) (lCons (eTup lNil) (lCons (eC (.str "")) (lCons eDct0 (lCons (eTup (lCons (eTup (lCons (eC (.int 0)) (lCons (eC (.int 1)) lNil))) lNil)) (lCons (eC (.bl true)) lNil)))))))))) (eCall 7 (lCons (eV 0) (lCons (eC (.int 8)) lNil))))) sNx) sNx) (sSeq (sIf (bOr (bCmp eqB (eV 3) (eC (.int 8))) (bOr (bCmp eqB (eV 3) (eC (.int 9))) (bCmp eqB (eV 3) (eC (.int 10))))) (sSeq (sRet (eCall 148 (lCons (eV 0) (lCons (eV 1) (lCons (eV 2) lNil))))) sNx) sNx) (sSeq (sRet (eA tupQ (lSeq (eV 5)))) sNx)))))))))))))) from
    (dss_cons (by exact (ds_set (ps_set (i := 3) sc_law_spoilt.nd rfl (Or.inl rfl) (de_call h_law_pick rfl hr tk (by rfl) (da_cons (de_var (pv 0)) (da_cons de_int da_nil)))))) (by exact (dss_cons (by exact (ds_set (ps_set (i := 4) sc_law_spoilt.nd rfl (Or.inl rfl) (de_call h_law_pick rfl hr tk (by rfl) (da_cons (de_var (pv 0)) (da_cons (de_len rfl (pe_callB call_lenA (by rfl) b_len PySem.boot_len (pa_cons (de_var (pv 1)) pa_nil))) da_nil)))))) (by exact (dss_cons (by exact (ds_set (ps_set (i := 5) sc_law_spoilt.nd rfl (Or.inl rfl) (de_new (dt_list rfl (pe_callTy call_list_of (by rfl) b_list PyProof.Rows.boot_list (pa_cons (dq_of (de_var (pv 1))) pa_nil))))))) (by exact (dss_cons (by exact (ds_if (db_eq rfl (hu64 hr) (de_var (pv 3)) de_int) (dss_cons (by exact (ds_set (ps_set (i := 5) sc_law_spoilt.nd rfl (Or.inl rfl) (de_add rfl (de_add rfl (de_sl rfl (de_var (pv 5)) do_none (do_some (de_var (pv 4)))) (de_sl rfl (de_var (pv 5)) (do_some (de_add rfl (de_var (pv 4)) de_int)) do_none)) (de_new (dt_lst (da_cons (de_ix rfl (de_var (pv 5)) (de_var (pv 4))) da_nil))))))) (by exact dss_nil)) dss_nil)) (by exact (dss_cons (by exact (ds_if (db_eq rfl (hu64 hr) (de_var (pv 3)) de_int) (dss_cons (by exact (ds_exp (de_m rfl (pe_bm PySem.F.plainAttrs_list PySem.F.slot_list_insert PySem.F.type_list_insert mt_insert (de_var (pv 5)) (da_cons (de_var (pv 4)) (da_cons (de_ix rfl (de_var (pv 5)) (de_var (pv 4))) da_nil))) brm_insert))) (by exact dss_nil)) dss_nil)) (by exact (dss_cons (by exact (ds_if (db_eq rfl (hu64 hr) (de_var (pv 3)) de_int) (dss_cons (by exact (ds_put (ps_asg (de_ix rfl (de_new (dt_lst (da_cons (de_sub de_int de_int) (da_cons (de_var (pv 2)) (da_cons (de_add rfl (de_var (pv 2)) de_int) (da_cons (de_pow de_int de_int) da_nil)))))) (de_call h_law_pick rfl hr tk (by rfl) (da_cons (de_var (pv 0)) (da_cons de_int da_nil)))) (pg_sub (de_var (pv 5)) (de_var (pv 4)) set_list)) br_putL)) (by exact dss_nil)) dss_nil)) (by exact (dss_cons (by exact (ds_if (db_eq rfl (hu64 hr) (de_var (pv 3)) de_int) (dss_cons (by exact (ds_setLc (i := 5) rfl sc_law_spoilt.nd rfl rfl (sw_true rfl rfl rfl (by decide +kernel)) (di_of rfl (de_var (pv 5))) (blkOk_by (own := [("card", 6)]) (by rfl)) (by decide) (fun _ _ _ _ _ => (dg_name (pg_name (i := 6) sc_law_spoilt.nd rfl (Or.inl rfl)))) (fun _ _ _ _ _ => dts_nil) (fun _ _ _ _ _ => (de_if (db_lt rfl hr (de_var (pv 6)) de_int) (de_eq rfl (hu64 hr) (de_var (pv 6)) de_int) (de_var (pv 6)))))) (by exact dss_nil)) dss_nil)) (by exact (dss_cons (by exact (ds_if (db_eq rfl (hu64 hr) (de_var (pv 3)) de_int) (dss_cons (by exact (ds_exp (de_m rfl (pe_bm PySem.F.plainAttrs_list PySem.F.slot_list_pop PySem.F.type_list_pop mt_popAt (de_var (pv 5)) (da_cons (de_var (pv 4)) da_nil)) brm_popAt))) (by exact dss_nil)) dss_nil)) (by exact (dss_cons (by exact (ds_if (db_eq rfl (hu64 hr) (de_var (pv 3)) de_int) (dss_cons (by exact (ds_set (ps_set (i := 5) sc_law_spoilt.nd rfl (Or.inl rfl) (de_new (dt_sorted (pe_callB (cr_sortD rfl hr) (by rfl) b_sorted PyProof.Rows.boot_sorted (pa_cons (dq_of (de_add rfl (de_var (pv 5)) (de_new (dt_lst (da_cons (de_call h_law_pick rfl hr tk (by rfl) (da_cons (de_var (pv 0)) (da_cons (de_var (pv 2)) da_nil))) da_nil))))) pa_nil))))))) (by exact dss_nil)) dss_nil)) (by exact (dss_cons (by exact (ds_if (db_eq rfl (hu64 hr) (de_var (pv 3)) de_int) (dss_cons (by exact (ds_ret (de_var (pv 5)))) (by exact dss_nil)) dss_nil)) (by exact (dss_cons (by exact (ds_if (db_eq rfl (hu64 hr) (de_var (pv 3)) de_int) (dss_cons (by exact (ds_ret (de_ix rfl (de_new (dt_lst (da_cons de_non (da_cons de_int (da_cons de_str (da_cons (de_tup da_nil) (da_cons de_str (da_cons de_dct0 (da_cons (de_tup (da_cons (de_tup (da_cons de_int (da_cons de_int da_nil))) da_nil)) (da_cons de_bl da_nil)))))))))) (de_call h_law_pick rfl hr tk (by rfl) (da_cons (de_var (pv 0)) (da_cons de_int da_nil)))))) (by exact dss_nil)) dss_nil)) (by exact (dss_cons (by exact (ds_if (db_w (dw_or (db_eq rfl (hu64 hr) (de_var (pv 3)) de_int) (dw_or (db_eq rfl (hu64 hr) (de_var (pv 3)) de_int) (dw_or1 (db_eq rfl (hu64 hr) (de_var (pv 3)) de_int))))) (dss_cons (by exact (ds_ret (de_call h_law_bad_row rfl hr tk (by rfl) (da_cons (de_var (pv 0)) (da_cons (de_var (pv 1)) (da_cons (de_var (pv 2)) da_nil)))))) (by exact dss_nil)) dss_nil)) (by exact (dss_cons (by exact (ds_ret (de_tupQ rfl (pe_callTy call_tuple_of (by rfl) b_tuple PyProof.Rows.boot_tuple (pa_cons (dq_of (de_var (pv 5))) pa_nil))))) (by exact dss_nil)))))))))))))))))))))))))))
abbrev s_law_rows_of : Stmt := topS 16
theorem sc_law_rows_of : FnScope ["source", "setting", "left", "rows", "many", "row", "turn"] ["source", "setting"] (defScope s_law_rows_of) := ⟨rfl, rfl, rfl, by decide +kernel, rfl, by decide +kernel, by decide +kernel⟩
theorem ok_law_rows_of {P : Program} {w : World} {G : Gx} {mg : Str → Option Value} {base : Heap} {Tbl : Nat → FD} {k : Nat} {fd : FuncData} (F : Fun G.K "_law_rows_of" "_law_rows_of" s_law_rows_of (G.fa 209) fd) (hTbl : Tbl 209 = fd_law_rows_of) (h_law_pick : FnAt P w G mg base (callN Tbl k) k 7 "_law_pick") (b_sum : mg "sum" = none) (b_list : mg "list" = none) (b_range : mg "range" = none) (b_len : mg "len" = none) (b_sorted : mg "sorted" = none) (b_tuple : mg "tuple" = none) : FnOk P w G.K mg base (L2.CX P w) (k + 1) (G.fa 209) fd ["source", "setting"] (spC G (callN Tbl (k + 1)) 209) :=
  fn_ok (C := callN Tbl k) fd_law_rows_of F sc_law_rows_of rfl rfl (fun ds st => by simp only [callN, hTbl]) (fun cdv A outer s H E hr tk po =>
    show DSs G _ _ (callN Tbl k) _ ((sSeq (sSet 2 (eNew (lRng (eA sumQ (lSeq (eV 1)))))) (sSeq (sSet 3 (eNew (lLst lNil))) (sSeq (sFor (siOf (eV 1)) (gN 4) (sSeq (sSet 5 (eNew (lLst lNil))) (sSeq (sFor (siR1 (lCons (eV 4) lNil)) (gN 6) (sSeq (sExp (eM appendR (eV 5) (lCons (eM popAtR (eV 2) (lCons (eCall 7 (lCons (eV 0) (lCons (eU1 lenR (eV 2)) lNil))) lNil)) lNil))) sNx)) (sSeq (sExp (eM appendR (eV 3) (lCons (eA tupQ (lSorted (lSeq (eV 5)))) lNil))) sNx)))) (sSeq (sRet (eV 3)) sNx))))) from
    (dss_cons (by exact (ds_set (ps_set (i := 2) sc_law_rows_of.nd rfl (Or.inl rfl) (de_new (dt_rng (pe_listRg rfl (by rfl) b_list (prg_1 (by rfl) b_range (de_sum rfl (pe_callB (cr_sumA rfl) (by rfl) b_sum PyProof.Rows.boot_sum (pa_cons (dq_of (de_var (pv 1))) pa_nil)))))))))) (by exact (dss_cons (by exact (ds_set (ps_set (i := 3) sc_law_rows_of.nd rfl (Or.inl rfl) (de_new (dt_lst da_nil))))) (by exact (dss_cons (by exact (ds_for po rfl (di_of rfl (de_var (pv 1))) (dg_name (pg_name (i := 4) sc_law_rows_of.nd rfl (Or.inl rfl))) (dss_cons (by exact (ds_set (ps_set (i := 5) sc_law_rows_of.nd rfl (Or.inl rfl) (de_new (dt_lst da_nil))))) (by exact (dss_cons (by exact (ds_for po rfl (di_r1 (pi_range1 (by rfl) b_range (da_cons (de_var (pv 4)) da_nil))) (dg_name (pg_name (i := 6) sc_law_rows_of.nd rfl (Or.inl rfl))) (dss_cons (by exact (ds_exp (de_m rfl (pe_bm PySem.F.plainAttrs_list PySem.F.slot_list_append PySem.F.type_list_append mt_append (de_var (pv 5)) (da_cons (de_m rfl (pe_bm PySem.F.plainAttrs_list PySem.F.slot_list_pop PySem.F.type_list_pop mt_popAt (de_var (pv 2)) (da_cons (de_call h_law_pick rfl hr tk (by rfl) (da_cons (de_var (pv 0)) (da_cons (de_len rfl (pe_callB call_lenA (by rfl) b_len PySem.boot_len (pa_cons (de_var (pv 2)) pa_nil))) da_nil))) da_nil)) brm_popAt) da_nil)) brm_append))) (by exact dss_nil)))) (by exact (dss_cons (by exact (ds_exp (de_m rfl (pe_bm PySem.F.plainAttrs_list PySem.F.slot_list_append PySem.F.type_list_append mt_append (de_var (pv 3)) (da_cons (de_tupQ rfl (pe_callTy call_tuple_of (by rfl) b_tuple PyProof.Rows.boot_tuple (pa_cons (dq_tmp (dt_sorted (pe_callB (cr_sortD rfl hr) (by rfl) b_sorted PyProof.Rows.boot_sorted (pa_cons (dq_of (de_var (pv 5))) pa_nil)))) pa_nil))) da_nil)) brm_append))) (by exact dss_nil)))))))) (by exact (dss_cons (by exact (ds_ret (de_var (pv 3)))) (by exact dss_nil)))))))))
abbrev s_law_deal : Stmt := topS 21
theorem sc_law_deal : FnScope ["source", "setting", "rows", "kind", "one", "other"] ["source", "setting"] (defScope s_law_deal) := ⟨rfl, rfl, rfl, by decide +kernel, rfl, by decide +kernel, by decide +kernel⟩
theorem ok_law_deal {P : Program} {w : World} {G : Gx} {mg : Str → Option Value} {base : Heap} {Tbl : Nat → FD} {k : Nat} {fd : FuncData} (F : Fun G.K "_law_deal" "_law_deal" s_law_deal (G.fa 210) fd) (hTbl : Tbl 210 = fd_law_deal) (h_law_rows_of : FnAt P w G mg base (callN Tbl k) k 209 "_law_rows_of") (h_law_pick : FnAt P w G mg base (callN Tbl k) k 7 "_law_pick") (h_law_spoilt : FnAt P w G mg base (callN Tbl k) k 208 "_law_spoilt") (b_int : mg "int" = none) (b_list : mg "list" = none) (b_sorted : mg "sorted" = none) (b_tuple : mg "tuple" = none) (b_sum : mg "sum" = none) : FnOk P w G.K mg base (L2.CX P w) (k + 1) (G.fa 210) fd ["source", "setting"] (spC G (callN Tbl (k + 1)) 210) :=
  fn_ok (C := callN Tbl k) fd_law_deal F sc_law_deal rfl rfl (fun ds st => by simp only [callN, hTbl]) (fun cdv A outer s H E hr tk po =>
    show DSs G _ _ (callN Tbl k) _ ((sSeq (sSet 2 (eCall 209 (lCons (eV 0) (lCons (eV 1) lNil)))) (sSeq (sSet 3 (eCall 7 (lCons (eV 0) (lCons (eC (.int 9)) lNil)))) (sSeq (sSet 4 (eCall 7 (lCons (eV 0) (lCons (eC (.int 3)) lNil)))) (sSeq (sSet 5 (eB2 modR (eU1 intR (eB2 addR (eB2 addR (eV 4) (eC (.int 1))) (eCall 7 (lCons (eV 0) (lCons (eC (.int 2)) lNil))))) (eC (.int 3)))) (sSeq (sIf (bCmp eqB (eV 3) (eC (.int 0))) (sSeq (sSet 2 (eB2 addR (eSl (eV 2) (oSome (eC (.int 1))) oNone) (eSl (eV 2) oNone (oSome (eC (.int 1)))))) sNx) sNx) (sSeq (sIf (bCmp eqB (eV 3) (eC (.int 1))) (sSeq (sSet 2 (eSl (eV 2) oNone (oSome (eC (.int 2))))) sNx) sNx) (sSeq (sIf (bCmp eqB (eV 3) (eC (.int 2))) (sSeq (sSet 2 (eB2 addR (eV 2) (eNew (lLst (lCons (eTup lNil) lNil))))) sNx) sNx) (sSeq (sIf (bCmp eqB (eV 3) (eC (.int 3))) (sSeq (sPut putL (eV 2) (eV 4) (eA tupQ (lSorted (lSeq (eB2 addR (eNew (lMap (fun _ ds => some ds) (lSeq (eSl (eB2 ixR (eV 2) (eV 4)) (oSome (eC (.int 1))) oNone)))) (eNew (lLst (lCons (eB2 ixR (eB2 ixR (eV 2) (eV 5)) (eC (.int 0))) lNil)))))))) sNx) sNx) (sSeq (sIf (bOr (bCmp eqB (eV 3) (eC (.int 4))) (bCmp eqB (eV 3) (eC (.int 5)))) (sSeq (sPut putL (eV 2) (eV 4) (eCall 208 (lCons (eV 0) (lCons (eB2 ixR (eV 2) (eV 4)) (lCons (eA sumQ (lSeq (eV 1))) lNil))))) sNx) sNx) (sSeq (sIf (bCmp eqB (eV 3) (eC (.int 6))) (sSeq (sRet (eV 2)) sNx) sNx) (sSeq (sRet (eA tupQ (lSeq (eV 2)))) sNx)))))))))))) from
    (dss_cons (by exact (ds_set (ps_set (i := 2) sc_law_deal.nd rfl (Or.inl rfl) (de_call h_law_rows_of rfl hr tk (by rfl) (da_cons (de_var (pv 0)) (da_cons (de_var (pv 1)) da_nil)))))) (by exact (dss_cons (by exact (ds_set (ps_set (i := 3) sc_law_deal.nd rfl (Or.inl rfl) (de_call h_law_pick rfl hr tk (by rfl) (da_cons (de_var (pv 0)) (da_cons de_int da_nil)))))) (by exact (dss_cons (by exact (ds_set (ps_set (i := 4) sc_law_deal.nd rfl (Or.inl rfl) (de_call h_law_pick rfl hr tk (by rfl) (da_cons (de_var (pv 0)) (da_cons de_int da_nil)))))) (by exact (dss_cons (by exact (ds_set (ps_set (i := 5) sc_law_deal.nd rfl (Or.inl rfl) (de_mod (de_c1 (pe_callTy call_int1 (by rfl) b_int PyProof.Rows.boot_int (pa_cons (de_add rfl (de_add rfl (de_var (pv 4)) de_int) (de_call h_law_pick rfl hr tk (by rfl) (da_cons (de_var (pv 0)) (da_cons de_int da_nil)))) pa_nil)) br_int) de_int)))) (by exact (dss_cons (by exact (ds_if (db_eq rfl (hu64 hr) (de_var (pv 3)) de_int) (dss_cons (by exact (ds_set (ps_set (i := 2) sc_law_deal.nd rfl (Or.inl rfl) (de_add rfl (de_sl rfl (de_var (pv 2)) (do_some de_int) do_none) (de_sl rfl (de_var (pv 2)) do_none (do_some de_int)))))) (by exact dss_nil)) dss_nil)) (by exact (dss_cons (by exact (ds_if (db_eq rfl (hu64 hr) (de_var (pv 3)) de_int) (dss_cons (by exact (ds_set (ps_set (i := 2) sc_law_deal.nd rfl (Or.inl rfl) (de_sl rfl (de_var (pv 2)) do_none (do_some de_int))))) (by exact dss_nil)) dss_nil)) (by exact (dss_cons (by exact (ds_if (db_eq rfl (hu64 hr) (de_var (pv 3)) de_int) (dss_cons (by exact (ds_set (ps_set (i := 2) sc_law_deal.nd rfl (Or.inl rfl) (de_add rfl (de_var (pv 2)) (de_new (dt_lst (da_cons (de_tup da_nil) da_nil))))))) (by exact dss_nil)) dss_nil)) (by exact (dss_cons (by exact (ds_if (db_eq rfl (hu64 hr) (de_var (pv 3)) de_int) (dss_cons (by exact (ds_put (ps_asg (de_tupQ rfl (pe_callTy call_tuple_of (by rfl) b_tuple PyProof.Rows.boot_tuple (pa_cons (dq_tmp (dt_sorted (pe_callB (cr_sortD rfl hr) (by rfl) b_sorted PyProof.Rows.boot_sorted (pa_cons (dq_of (de_add rfl (de_new (dt_list rfl (pe_callTy call_list_of (by rfl) b_list PyProof.Rows.boot_list (pa_cons (dq_of (de_sl rfl (de_ix rfl (de_var (pv 2)) (de_var (pv 4))) (do_some de_int) do_none)) pa_nil)))) (de_new (dt_lst (da_cons (de_ix rfl (de_ix rfl (de_var (pv 2)) (de_var (pv 5))) de_int) da_nil))))) pa_nil)))) pa_nil))) (pg_sub (de_var (pv 2)) (de_var (pv 4)) set_list)) br_putL)) (by exact dss_nil)) dss_nil)) (by exact (dss_cons (by exact (ds_if (db_w (dw_or (db_eq rfl (hu64 hr) (de_var (pv 3)) de_int) (dw_or1 (db_eq rfl (hu64 hr) (de_var (pv 3)) de_int)))) (dss_cons (by exact (ds_put (ps_asg (de_call h_law_spoilt rfl hr tk (by rfl) (da_cons (de_var (pv 0)) (da_cons (de_ix rfl (de_var (pv 2)) (de_var (pv 4))) (da_cons (de_sum rfl (pe_callB (cr_sumA rfl) (by rfl) b_sum PyProof.Rows.boot_sum (pa_cons (dq_of (de_var (pv 1))) pa_nil))) da_nil)))) (pg_sub (de_var (pv 2)) (de_var (pv 4)) set_list)) br_putL)) (by exact dss_nil)) dss_nil)) (by exact (dss_cons (by exact (ds_if (db_eq rfl (hu64 hr) (de_var (pv 3)) de_int) (dss_cons (by exact (ds_ret (de_var (pv 2)))) (by exact dss_nil)) dss_nil)) (by exact (dss_cons (by exact (ds_ret (de_tupQ rfl (pe_callTy call_tuple_of (by rfl) b_tuple PyProof.Rows.boot_tuple (pa_cons (dq_of (de_var (pv 2))) pa_nil))))) (by exact dss_nil)))))))))))))))))))))))
abbrev s_law_same : Stmt := topS 14
theorem sc_law_same : FnScope ["found", "due", "k"] ["found", "due"] (defScope s_law_same) := ⟨rfl, rfl, rfl, by decide +kernel, rfl, by decide +kernel, by decide +kernel⟩
theorem ok_law_same {P : Program} {w : World} {G : Gx} {mg : Str → Option Value} {base : Heap} {Tbl : Nat → FD} {k : Nat} {fd : FuncData} (F : Fun G.K "_law_same" "_law_same" s_law_same (G.fa 8) fd) (hTbl : Tbl 8 = fd_law_same) (h_law_same : FnAt P w G mg base (callN Tbl k) k 8 "_law_same") (b_int : mg "int" = none) (b_isinstance : mg "isinstance" = none) (b_bool : mg "bool" = none) (b_str : mg "str" = none) (b_tuple : mg "tuple" = none) (b_list : mg "list" = none) (b_len : mg "len" = none) (b_range : mg "range" = none) : FnOk P w G.K mg base (L2.CX P w) (k + 1) (G.fa 8) fd ["found", "due"] (spC G (callN Tbl (k + 1)) 8) :=
  fn_ok (C := callN Tbl k) fd_law_same F sc_law_same rfl rfl (fun ds st => by simp only [callN, hTbl]) (fun cdv A outer s H E hr tk po =>
    show DSs G _ _ (callN Tbl k) _ ((sSeq (sIf (bCmp isB (eV 1) (eC .non)) (sSeq (sRet (eB2 (cB isB) (eV 0) (eC .non))) sNx) sNx) (sSeq (sIf (bCmp isB (eV 1) (eC (.bl true))) (sSeq (sRet (eB2 (cB isB) (eV 0) (eC (.bl true)))) sNx) sNx) (sSeq (sIf (bCmp isB (eV 1) (eC (.bl false))) (sSeq (sRet (eB2 (cB isB) (eV 0) (eC (.bl false)))) sNx) sNx) (sSeq (sIf (bOf (eU1 (isiR .int) (eV 1))) (sSeq (sRet (eAnd (eU1 (isiR .int) (eV 0)) (eAnd (eNot (eU1 (isiR .bool) (eV 0))) (eB2 (cB eqB) (eV 0) (eV 1))))) sNx) sNx) (sSeq (sIf (bOf (eU1 (isiR .str) (eV 1))) (sSeq (sRet (eAnd (eU1 (isiR .str) (eV 0)) (eB2 (cB eqB) (eV 0) (eV 1)))) sNx) sNx) (sSeq (sIf (bAnd (bOf (eU1 (isiR .tup) (eV 1))) (bNot (bOf (eU1 (isiR .tup) (eV 0))))) (sSeq (sRet (eC (.bl false))) sNx) sNx) (sSeq (sIf (bAnd (bOf (eU1 (isiR .lst) (eV 1))) (bNot (bOf (eU1 (isiR .lst) (eV 0))))) (sSeq (sRet (eC (.bl false))) sNx) sNx) (sSeq (sIf (bCmp neB (eU1 lenR (eV 0)) (eU1 lenR (eV 1))) (sSeq (sRet (eC (.bl false))) sNx) sNx) (sSeq (sFor (siR1 (lCons (eU1 lenR (eV 1)) lNil)) (gN 2) (sSeq (sIf (bNot (bOf (eCall 8 (lCons (eB2 ixR (eV 0) (eV 2)) (lCons (eB2 ixR (eV 1) (eV 2)) lNil))))) (sSeq (sRet (eC (.bl false))) sNx) sNx) sNx)) (sSeq (sRet (eC (.bl true))) sNx))))))))))) from
    (dss_cons (by exact (ds_if (db_is (de_var (pv 1)) de_non) (dss_cons (by exact (ds_ret (de_is (de_var (pv 0)) de_non))) (by exact dss_nil)) dss_nil)) (by exact (dss_cons (by exact (ds_if (db_is (de_var (pv 1)) de_bl) (dss_cons (by exact (ds_ret (de_is (de_var (pv 0)) de_bl))) (by exact dss_nil)) dss_nil)) (by exact (dss_cons (by exact (ds_if (db_is (de_var (pv 1)) de_bl) (dss_cons (by exact (ds_ret (de_is (de_var (pv 0)) de_bl))) (by exact dss_nil)) dss_nil)) (by exact (dss_cons (by exact (ds_if (db_of rfl (de_isi (T := .int) rfl (pe_callB call_isi (by rfl) b_isinstance PyProof.Rows.boot_isinstance (pa_cons (de_var (pv 1)) (pa_cons (pe_bltn (v := .ty "int") (by rfl) b_int boot_int_ rfl) pa_nil))))) (dss_cons (by exact (ds_ret (de_and rfl (de_isi (T := .int) rfl (pe_callB call_isi (by rfl) b_isinstance PyProof.Rows.boot_isinstance (pa_cons (de_var (pv 0)) (pa_cons (pe_bltn (v := .ty "int") (by rfl) b_int boot_int_ rfl) pa_nil)))) (de_and rfl (de_not rfl (de_isi (T := .bool) rfl (pe_callB call_isi (by rfl) b_isinstance PyProof.Rows.boot_isinstance (pa_cons (de_var (pv 0)) (pa_cons (pe_bltn (v := .ty "bool") (by rfl) b_bool boot_bool_ rfl) pa_nil))))) (de_one (de_eq rfl (hu64 hr) (de_var (pv 0)) (de_var (pv 1)))))))) (by exact dss_nil)) dss_nil)) (by exact (dss_cons (by exact (ds_if (db_of rfl (de_isi (T := .str) rfl (pe_callB call_isi (by rfl) b_isinstance PyProof.Rows.boot_isinstance (pa_cons (de_var (pv 1)) (pa_cons (pe_bltn (v := .ty "str") (by rfl) b_str boot_str_ rfl) pa_nil))))) (dss_cons (by exact (ds_ret (de_and rfl (de_isi (T := .str) rfl (pe_callB call_isi (by rfl) b_isinstance PyProof.Rows.boot_isinstance (pa_cons (de_var (pv 0)) (pa_cons (pe_bltn (v := .ty "str") (by rfl) b_str boot_str_ rfl) pa_nil)))) (de_one (de_eq rfl (hu64 hr) (de_var (pv 0)) (de_var (pv 1))))))) (by exact dss_nil)) dss_nil)) (by exact (dss_cons (by exact (ds_if (db_w (dw_and (db_of rfl (de_isi (T := .tup) rfl (pe_callB call_isi (by rfl) b_isinstance PyProof.Rows.boot_isinstance (pa_cons (de_var (pv 1)) (pa_cons (pe_bltn (v := .ty "tuple") (by rfl) b_tuple boot_tuple_ rfl) pa_nil))))) (dw_and1 (db_not (db_of rfl (de_isi (T := .tup) rfl (pe_callB call_isi (by rfl) b_isinstance PyProof.Rows.boot_isinstance (pa_cons (de_var (pv 0)) (pa_cons (pe_bltn (v := .ty "tuple") (by rfl) b_tuple boot_tuple_ rfl) pa_nil))))))))) (dss_cons (by exact (ds_ret de_bl)) (by exact dss_nil)) dss_nil)) (by exact (dss_cons (by exact (ds_if (db_w (dw_and (db_of rfl (de_isi (T := .lst) rfl (pe_callB call_isi (by rfl) b_isinstance PyProof.Rows.boot_isinstance (pa_cons (de_var (pv 1)) (pa_cons (pe_bltn (v := .ty "list") (by rfl) b_list boot_list_ rfl) pa_nil))))) (dw_and1 (db_not (db_of rfl (de_isi (T := .lst) rfl (pe_callB call_isi (by rfl) b_isinstance PyProof.Rows.boot_isinstance (pa_cons (de_var (pv 0)) (pa_cons (pe_bltn (v := .ty "list") (by rfl) b_list boot_list_ rfl) pa_nil))))))))) (dss_cons (by exact (ds_ret de_bl)) (by exact dss_nil)) dss_nil)) (by exact (dss_cons (by exact (ds_if (db_ne rfl (hu64 hr) (de_len rfl (pe_callB call_lenA (by rfl) b_len PySem.boot_len (pa_cons (de_var (pv 0)) pa_nil))) (de_len rfl (pe_callB call_lenA (by rfl) b_len PySem.boot_len (pa_cons (de_var (pv 1)) pa_nil)))) (dss_cons (by exact (ds_ret de_bl)) (by exact dss_nil)) dss_nil)) (by exact (dss_cons (by exact (ds_for po rfl (di_r1 (pi_range1 (by rfl) b_range (da_cons (de_len rfl (pe_callB call_lenA (by rfl) b_len PySem.boot_len (pa_cons (de_var (pv 1)) pa_nil))) da_nil))) (dg_name (pg_name (i := 2) sc_law_same.nd rfl (Or.inl rfl))) (dss_cons (by exact (ds_if (db_not (db_of rfl (de_call h_law_same rfl hr tk (by rfl) (da_cons (de_ix rfl (de_var (pv 0)) (de_var (pv 2))) (da_cons (de_ix rfl (de_var (pv 1)) (de_var (pv 2))) da_nil))))) (dss_cons (by exact (ds_ret de_bl)) (by exact dss_nil)) dss_nil)) (by exact dss_nil)))) (by exact (dss_cons (by exact (ds_ret de_bl)) (by exact dss_nil)))))))))))))))))))))
abbrev s_is_integer : Stmt := topS 5
theorem sc_is_integer : FnScope ["thing"] ["thing"] (defScope s_is_integer) := ⟨rfl, rfl, rfl, by decide +kernel, rfl, by decide +kernel, by decide +kernel⟩
theorem ok_is_integer {P : Program} {w : World} {G : Gx} {mg : Str → Option Value} {base : Heap} {Tbl : Nat → FD} {k : Nat} {fd : FuncData} (F : Fun G.K "is_integer" "is_integer" s_is_integer (G.fa 0) fd) (hTbl : Tbl 0 = fd_is_integer) (b_int : mg "int" = none) (b_isinstance : mg "isinstance" = none) (b_bool : mg "bool" = none) : FnOk P w G.K mg base (L2.CX P w) (k + 1) (G.fa 0) fd ["thing"] (spC G (callN Tbl (k + 1)) 0) :=
  fn_ok (C := callN Tbl k) fd_is_integer F sc_is_integer rfl rfl (fun ds st => by simp only [callN, hTbl]) (fun cdv A outer s H E hr tk po =>
    show DSs G _ _ (callN Tbl k) _ ((sSeq (sRet (eAnd (eU1 (isiR .int) (eV 0)) (eNot (eU1 (isiR .bool) (eV 0))))) sNx)) from
    (dss_cons (by exact (ds_ret (de_and rfl (de_isi (T := .int) rfl (pe_callB call_isi (by rfl) b_isinstance PyProof.Rows.boot_isinstance (pa_cons (de_var (pv 0)) (pa_cons (pe_bltn (v := .ty "int") (by rfl) b_int boot_int_ rfl) pa_nil)))) (de_one (de_not rfl (de_isi (T := .bool) rfl (pe_callB call_isi (by rfl) b_isinstance PyProof.Rows.boot_isinstance (pa_cons (de_var (pv 0)) (pa_cons (pe_bltn (v := .ty "bool") (by rfl) b_bool boot_bool_ rfl) pa_nil))))))))) (by exact dss_nil)))
abbrev s_is_setting : Stmt := topS 6
theorem sc_is_setting : FnScope ["thing", "many"] ["thing"] (defScope s_is_setting) := ⟨rfl, rfl, rfl, by decide +kernel, rfl, by decide +kernel, by decide +kernel⟩
theorem ok_is_setting {P : Program} {w : World} {G : Gx} {mg : Str → Option Value} {base : Heap} {Tbl : Nat → FD} {k : Nat} {fd : FuncData} (F : Fun G.K "is_setting" "is_setting" s_is_setting (G.fa 1) fd) (hTbl : Tbl 1 = fd_is_setting) (h_is_integer : FnAt P w G mg base (callN Tbl k) k 0 "is_integer") (b_tuple : mg "tuple" = none) (b_isinstance : mg "isinstance" = none) (b_len : mg "len" = none) (b_sum : mg "sum" = none) {t_MOST_CARDS : Tok} (g_MOST_CARDS : mg "MOST_CARDS" = some (.int 13 t_MOST_CARDS)) : FnOk P w G.K mg base (L2.CX P w) (k + 1) (G.fa 1) fd ["thing"] (spC G (callN Tbl (k + 1)) 1) :=
  fn_ok (C := callN Tbl k) fd_is_setting F sc_is_setting rfl rfl (fun ds st => by simp only [callN, hTbl]) (fun cdv A outer s H E hr tk po =>
    show DSs G _ _ (callN Tbl k) _ ((sSeq (sIf (bOr (bNot (bOf (eU1 (isiR .tup) (eV 0)))) (bCmp neB (eU1 lenR (eV 0)) (eC (.int 3)))) (sSeq (sRet (eC (.bl false))) sNx) sNx) (sSeq (sFor (siOf (eV 0)) (gN 1) (sSeq (sIf (bOr (bNot (bOf (eCall 0 (lCons (eV 1) lNil)))) (bCmp ltD (eV 1) (eC (.int 1)))) (sSeq (sRet (eC (.bl false))) sNx) sNx) sNx)) (sSeq (sRet (eB2 (cB leD) (eA sumQ (lSeq (eV 0))) (eC (.int 13)))) sNx)))) from
    (dss_cons (by exact (ds_if (db_w (dw_or (db_not (db_of rfl (de_isi (T := .tup) rfl (pe_callB call_isi (by rfl) b_isinstance PyProof.Rows.boot_isinstance (pa_cons (de_var (pv 0)) (pa_cons (pe_bltn (v := .ty "tuple") (by rfl) b_tuple boot_tuple_ rfl) pa_nil)))))) (dw_or1 (db_ne rfl (hu64 hr) (de_len rfl (pe_callB call_lenA (by rfl) b_len PySem.boot_len (pa_cons (de_var (pv 0)) pa_nil))) de_int)))) (dss_cons (by exact (ds_ret de_bl)) (by exact dss_nil)) dss_nil)) (by exact (dss_cons (by exact (ds_for po rfl (di_of rfl (de_var (pv 0))) (dg_name (pg_name (i := 1) sc_is_setting.nd rfl (Or.inl rfl))) (dss_cons (by exact (ds_if (db_w (dw_or (db_not (db_of rfl (de_call h_is_integer rfl hr tk (by rfl) (da_cons (de_var (pv 1)) da_nil)))) (dw_or1 (db_lt rfl hr (de_var (pv 1)) de_int)))) (dss_cons (by exact (ds_ret de_bl)) (by exact dss_nil)) dss_nil)) (by exact dss_nil)))) (by exact (dss_cons (by exact (ds_ret (de_le rfl hr (de_sum rfl (pe_callB (cr_sumA rfl) (by rfl) b_sum PyProof.Rows.boot_sum (pa_cons (dq_of (de_var (pv 0))) pa_nil))) (de_globI (by rfl) g_MOST_CARDS)))) (by exact dss_nil)))))))
abbrev s_check_setting : Stmt := topS 7
theorem sc_check_setting : FnScope ["setting"] ["setting"] (defScope s_check_setting) := ⟨rfl, rfl, rfl, by decide +kernel, rfl, by decide +kernel, by decide +kernel⟩
theorem ok_check_setting {P : Program} {w : World} {G : Gx} {mg : Str → Option Value} {base : Heap} {Tbl : Nat → FD} {k : Nat} {fd : FuncData} (F : Fun G.K "check_setting" "check_setting" s_check_setting (G.fa 2) fd) (hTbl : Tbl 2 = fd_check_setting) (h_is_setting : FnAt P w G mg base (callN Tbl k) k 1 "is_setting") (e_BadSetting : ExAt G.K mg G 1 "BadSetting") : FnOk P w G.K mg base (L2.CX P w) (k + 1) (G.fa 2) fd ["setting"] (spC G (callN Tbl (k + 1)) 2) :=
  fn_ok (C := callN Tbl k) fd_check_setting F sc_check_setting rfl rfl (fun ds st => by simp only [callN, hTbl]) (fun cdv A outer s H E hr tk po =>
    show DSs G _ _ (callN Tbl k) _ ((sSeq (sIf (bNot (bOf (eCall 1 (lCons (eV 0) lNil)))) (sSeq (sRaise 1) sNx) sNx) sNx)) from
    (dss_cons (by exact (ds_if (db_not (db_of rfl (de_call h_is_setting rfl hr tk (by rfl) (da_cons (de_var (pv 0)) da_nil)))) (dss_cons (by exact (ds_raise rfl tk e_BadSetting (by rfl))) (by exact dss_nil)) dss_nil)) (by exact dss_nil)))
abbrev s_is_row : Stmt := topS 8
theorem sc_is_row : FnScope ["thing", "total", "last", "card"] ["thing", "total"] (defScope s_is_row) := ⟨rfl, rfl, rfl, by decide +kernel, rfl, by decide +kernel, by decide +kernel⟩
theorem ok_is_row {P : Program} {w : World} {G : Gx} {mg : Str → Option Value} {base : Heap} {Tbl : Nat → FD} {k : Nat} {fd : FuncData} (F : Fun G.K "is_row" "is_row" s_is_row (G.fa 15) fd) (hTbl : Tbl 15 = fd_is_row) (h_is_integer : FnAt P w G mg base (callN Tbl k) k 0 "is_integer") (b_tuple : mg "tuple" = none) (b_isinstance : mg "isinstance" = none) : FnOk P w G.K mg base (L2.CX P w) (k + 1) (G.fa 15) fd ["thing", "total"] (spC G (callN Tbl (k + 1)) 15) :=
  fn_ok (C := callN Tbl k) fd_is_row F sc_is_row rfl rfl (fun ds st => by simp only [callN, hTbl]) (fun cdv A outer s H E hr tk po =>
    show DSs G _ _ (callN Tbl k) _ ((sSeq (sIf (bNot (bOf (eU1 (isiR .tup) (eV 0)))) (sSeq (sRet (eC (.bl false))) sNx) sNx) (sSeq (sSet 2 (eU1 negR (eC (.int 1)))) (sSeq (sFor (siOf (eV 0)) (gN 3) (sSeq (sIf (bOr (bNot (bOf (eCall 0 (lCons (eV 3) lNil)))) (bOr (bCmp leD (eV 3) (eV 2)) (bCmp geD (eV 3) (eV 1)))) (sSeq (sRet (eC (.bl false))) sNx) sNx) (sSeq (sSet 2 (eV 3)) sNx))) (sSeq (sRet (eC (.bl true))) sNx))))) from
    (dss_cons (by exact (ds_if (db_not (db_of rfl (de_isi (T := .tup) rfl (pe_callB call_isi (by rfl) b_isinstance PyProof.Rows.boot_isinstance (pa_cons (de_var (pv 0)) (pa_cons (pe_bltn (v := .ty "tuple") (by rfl) b_tuple boot_tuple_ rfl) pa_nil)))))) (dss_cons (by exact (ds_ret de_bl)) (by exact dss_nil)) dss_nil)) (by exact (dss_cons (by exact (ds_set (ps_set (i := 2) sc_is_row.nd rfl (Or.inl rfl) (de_neg de_int)))) (by exact (dss_cons (by exact (ds_for po rfl (di_of rfl (de_var (pv 0))) (dg_name (pg_name (i := 3) sc_is_row.nd rfl (Or.inl rfl))) (dss_cons (by exact (ds_if (db_w (dw_or (db_not (db_of rfl (de_call h_is_integer rfl hr tk (by rfl) (da_cons (de_var (pv 3)) da_nil)))) (dw_or (db_le rfl hr (de_var (pv 3)) (de_var (pv 2))) (dw_or1 (db_ge rfl hr (de_var (pv 3)) (de_var (pv 1))))))) (dss_cons (by exact (ds_ret de_bl)) (by exact dss_nil)) dss_nil)) (by exact (dss_cons (by exact (ds_set (ps_set (i := 2) sc_is_row.nd rfl (Or.inl rfl) (de_var (pv 3))))) (by exact dss_nil)))))) (by exact (dss_cons (by exact (ds_ret de_bl)) (by exact dss_nil)))))))))
abbrev s_is_hand : Stmt := topS 9
theorem sc_is_hand : FnScope ["setting", "thing"] ["setting", "thing"] (defScope s_is_hand) := ⟨rfl, rfl, rfl, by decide +kernel, rfl, by decide +kernel, by decide +kernel⟩
theorem ok_is_hand {P : Program} {w : World} {G : Gx} {mg : Str → Option Value} {base : Heap} {Tbl : Nat → FD} {k : Nat} {fd : FuncData} (F : Fun G.K "is_hand" "is_hand" s_is_hand (G.fa 16) fd) (hTbl : Tbl 16 = fd_is_hand) (h_check_setting : FnAt P w G mg base (callN Tbl k) k 2 "check_setting") (h_is_row : FnAt P w G mg base (callN Tbl k) k 15 "is_row") (b_sum : mg "sum" = none) (b_len : mg "len" = none) : FnOk P w G.K mg base (L2.CX P w) (k + 1) (G.fa 16) fd ["setting", "thing"] (spC G (callN Tbl (k + 1)) 16) :=
  fn_ok (C := callN Tbl k) fd_is_hand F sc_is_hand rfl rfl (fun ds st => by simp only [callN, hTbl]) (fun cdv A outer s H E hr tk po =>
    show DSs G _ _ (callN Tbl k) _ ((sSeq (sExp (eCall 2 (lCons (eV 0) lNil))) (sSeq (sRet (eAnd (eCall 15 (lCons (eV 1) (lCons (eA sumQ (lSeq (eV 0))) lNil))) (eB2 (cB eqB) (eU1 lenR (eV 1)) (eB2 ixR (eV 0) (eC (.int 0)))))) sNx))) from
    (dss_cons (by exact (ds_exp (de_call h_check_setting rfl hr tk (by rfl) (da_cons (de_var (pv 0)) da_nil)))) (by exact (dss_cons (by exact (ds_ret (de_and rfl (de_call h_is_row rfl hr tk (by rfl) (da_cons (de_var (pv 1)) (da_cons (de_sum rfl (pe_callB (cr_sumA rfl) (by rfl) b_sum PyProof.Rows.boot_sum (pa_cons (dq_of (de_var (pv 0))) pa_nil))) da_nil))) (de_one (de_eq rfl (hu64 hr) (de_len rfl (pe_callB call_lenA (by rfl) b_len PySem.boot_len (pa_cons (de_var (pv 1)) pa_nil))) (de_ix rfl (de_var (pv 0)) de_int)))))) (by exact dss_nil)))))
abbrev s_law_is_row : Stmt := topS 19
theorem sc_law_is_row : FnScope ["thing", "many", "total", "least", "card"] ["thing", "many", "total"] (defScope s_law_is_row) := ⟨rfl, rfl, rfl, by decide +kernel, rfl, by decide +kernel, by decide +kernel⟩
theorem ok_law_is_row {P : Program} {w : World} {G : Gx} {mg : Str → Option Value} {base : Heap} {Tbl : Nat → FD} {k : Nat} {fd : FuncData} (F : Fun G.K "_law_is_row" "_law_is_row" s_law_is_row (G.fa 158) fd) (hTbl : Tbl 158 = fd_law_is_row) (b_tuple : mg "tuple" = none) (b_isinstance : mg "isinstance" = none) (b_len : mg "len" = none) (b_bool : mg "bool" = none) (b_int : mg "int" = none) : FnOk P w G.K mg base (L2.CX P w) (k + 1) (G.fa 158) fd ["thing", "many", "total"] (spC G (callN Tbl (k + 1)) 158) :=
  fn_ok (C := callN Tbl k) fd_law_is_row F sc_law_is_row rfl rfl (fun ds st => by simp only [callN, hTbl]) (fun cdv A outer s H E hr tk po =>
    show DSs G _ _ (callN Tbl k) _ ((sSeq (sIf (bOr (bNot (bOf (eU1 (isiR .tup) (eV 0)))) (bCmp neB (eU1 lenR (eV 0)) (eV 1))) (sSeq (sRet (eC (.bl false))) sNx) sNx) (sSeq (sSet 3 (eC (.int 0))) (sSeq (sFor (siOf (eV 0)) (gN 4) (sSeq (sIf (bOr (bOf (eU1 (isiR .bool) (eV 4))) (bOr (bNot (bOf (eU1 (isiR .int) (eV 4)))) (bOr (bCmp ltD (eV 4) (eV 3)) (bCmp geD (eV 4) (eV 2))))) (sSeq (sRet (eC (.bl false))) sNx) sNx) (sSeq (sSet 3 (eB2 addR (eV 4) (eC (.int 1)))) sNx))) (sSeq (sRet (eC (.bl true))) sNx))))) from
    (dss_cons (by exact (ds_if (db_w (dw_or (db_not (db_of rfl (de_isi (T := .tup) rfl (pe_callB call_isi (by rfl) b_isinstance PyProof.Rows.boot_isinstance (pa_cons (de_var (pv 0)) (pa_cons (pe_bltn (v := .ty "tuple") (by rfl) b_tuple boot_tuple_ rfl) pa_nil)))))) (dw_or1 (db_ne rfl (hu64 hr) (de_len rfl (pe_callB call_lenA (by rfl) b_len PySem.boot_len (pa_cons (de_var (pv 0)) pa_nil))) (de_var (pv 1)))))) (dss_cons (by exact (ds_ret de_bl)) (by exact dss_nil)) dss_nil)) (by exact (dss_cons (by exact (ds_set (ps_set (i := 3) sc_law_is_row.nd rfl (Or.inl rfl) de_int))) (by exact (dss_cons (by exact (ds_for po rfl (di_of rfl (de_var (pv 0))) (dg_name (pg_name (i := 4) sc_law_is_row.nd rfl (Or.inl rfl))) (dss_cons (by exact (ds_if (db_w (dw_or (db_of rfl (de_isi (T := .bool) rfl (pe_callB call_isi (by rfl) b_isinstance PyProof.Rows.boot_isinstance (pa_cons (de_var (pv 4)) (pa_cons (pe_bltn (v := .ty "bool") (by rfl) b_bool boot_bool_ rfl) pa_nil))))) (dw_or (db_not (db_of rfl (de_isi (T := .int) rfl (pe_callB call_isi (by rfl) b_isinstance PyProof.Rows.boot_isinstance (pa_cons (de_var (pv 4)) (pa_cons (pe_bltn (v := .ty "int") (by rfl) b_int boot_int_ rfl) pa_nil)))))) (dw_or (db_lt rfl hr (de_var (pv 4)) (de_var (pv 3))) (dw_or1 (db_ge rfl hr (de_var (pv 4)) (de_var (pv 2)))))))) (dss_cons (by exact (ds_ret de_bl)) (by exact dss_nil)) dss_nil)) (by exact (dss_cons (by exact (ds_set (ps_set (i := 3) sc_law_is_row.nd rfl (Or.inl rfl) (de_add rfl (de_var (pv 4)) de_int)))) (by exact dss_nil)))))) (by exact (dss_cons (by exact (ds_ret de_bl)) (by exact dss_nil)))))))))
abbrev s_is_deal : Stmt := topS 10
theorem sc_is_deal : FnScope ["setting", "thing", "total", "row", "many"] ["setting", "thing"] (defScope s_is_deal) := ⟨rfl, rfl, rfl, by decide +kernel, rfl, by decide +kernel, by decide +kernel⟩
theorem ok_is_deal {P : Program} {w : World} {G : Gx} {mg : Str → Option Value} {base : Heap} {Tbl : Nat → FD} {k : Nat} {fd : FuncData} (F : Fun G.K "is_deal" "is_deal" s_is_deal (G.fa 211) fd) (hTbl : Tbl 211 = fd_is_deal) (h_check_setting : FnAt P w G mg base (callN Tbl k) k 2 "check_setting") (h_is_row : FnAt P w G mg base (callN Tbl k) k 15 "is_row") (b_tuple : mg "tuple" = none) (b_isinstance : mg "isinstance" = none) (b_len : mg "len" = none) (b_sum : mg "sum" = none) (b_zip : mg "zip" = none) (b_set : mg "set" = none) : FnOk P w G.K mg base (L2.CX P w) (k + 1) (G.fa 211) fd ["setting", "thing"] (spC G (callN Tbl (k + 1)) 211) :=
  fn_ok (C := callN Tbl k) fd_is_deal F sc_is_deal rfl rfl (fun ds st => by simp only [callN, hTbl]) (fun cdv A outer s H E hr tk po =>
    show DSs G _ _ (callN Tbl k) _ ((sSeq (sExp (eCall 2 (lCons (eV 0) lNil))) (sSeq (sIf (bOr (bNot (bOf (eU1 (isiR .tup) (eV 1)))) (bCmp neB (eU1 lenR (eV 1)) (eC (.int 3)))) (sSeq (sRet (eC (.bl false))) sNx) sNx) (sSeq (sSet 2 (eA sumQ (lSeq (eV 0)))) (sSeq (sFor (siZip (kOf (eV 1)) (kOf (eV 0))) (gTup [(gN 3), (gN 4)]) (sSeq (sIf (bOr (bNot (bOf (eCall 15 (lCons (eV 3) (lCons (eV 2) lNil))))) (bCmp neB (eU1 lenR (eV 3)) (eV 4))) (sSeq (sRet (eC (.bl false))) sNx) sNx) sNx)) (sSeq (sRet (eB2 (cB eqB) (eU1 lenSetR (eB2 addR (eB2 addR (eB2 ixR (eV 1) (eC (.int 0))) (eB2 ixR (eV 1) (eC (.int 1)))) (eB2 ixR (eV 1) (eC (.int 2))))) (eV 2))) sNx)))))) from
    (dss_cons (by exact (ds_exp (de_call h_check_setting rfl hr tk (by rfl) (da_cons (de_var (pv 0)) da_nil)))) (by exact (dss_cons (by exact (ds_if (db_w (dw_or (db_not (db_of rfl (de_isi (T := .tup) rfl (pe_callB call_isi (by rfl) b_isinstance PyProof.Rows.boot_isinstance (pa_cons (de_var (pv 1)) (pa_cons (pe_bltn (v := .ty "tuple") (by rfl) b_tuple boot_tuple_ rfl) pa_nil)))))) (dw_or1 (db_ne rfl (hu64 hr) (de_len rfl (pe_callB call_lenA (by rfl) b_len PySem.boot_len (pa_cons (de_var (pv 1)) pa_nil))) de_int)))) (dss_cons (by exact (ds_ret de_bl)) (by exact dss_nil)) dss_nil)) (by exact (dss_cons (by exact (ds_set (ps_set (i := 2) sc_is_deal.nd rfl (Or.inl rfl) (de_sum rfl (pe_callB (cr_sumA rfl) (by rfl) b_sum PyProof.Rows.boot_sum (pa_cons (dq_of (de_var (pv 0))) pa_nil)))))) (by exact (dss_cons (by exact (ds_for po rfl (di_zip rfl b_zip (kk_of (de_var (pv 1))) (kk_of (de_var (pv 0)))) (dg_tup rfl rfl (dgs_cons (dg_name (pg_name (i := 3) sc_is_deal.nd rfl (Or.inl rfl))) (dgs_cons (dg_name (pg_name (i := 4) sc_is_deal.nd rfl (Or.inl rfl))) dgs_nil))) (dss_cons (by exact (ds_if (db_w (dw_or (db_not (db_of rfl (de_call h_is_row rfl hr tk (by rfl) (da_cons (de_var (pv 3)) (da_cons (de_var (pv 2)) da_nil))))) (dw_or1 (db_ne rfl (hu64 hr) (de_len rfl (pe_callB call_lenA (by rfl) b_len PySem.boot_len (pa_cons (de_var (pv 3)) pa_nil))) (de_var (pv 4)))))) (dss_cons (by exact (ds_ret de_bl)) (by exact dss_nil)) dss_nil)) (by exact dss_nil)))) (by exact (dss_cons (by exact (ds_ret (de_eq rfl (hu64 hr) (de_lenSet rfl (by rfl) (by rfl) b_len (by rfl) b_set (de_add rfl (de_add rfl (de_ix rfl (de_var (pv 1)) de_int) (de_ix rfl (de_var (pv 1)) de_int)) (de_ix rfl (de_var (pv 1)) de_int))) (de_var (pv 2))))) (by exact dss_nil)))))))))))
abbrev s_law_is_deal_v2 : Stmt := topS 20
theorem sc_law_is_deal_v2 : FnScope ["thing", "setting", "cards", "k"] ["thing", "setting"] (defScope s_law_is_deal_v2) := ⟨rfl, rfl, rfl, by decide +kernel, rfl, by decide +kernel, by decide +kernel⟩
theorem ok_law_is_deal_v2 {P : Program} {w : World} {G : Gx} {mg : Str → Option Value} {base : Heap} {Tbl : Nat → FD} {k : Nat} {fd : FuncData} (F : Fun G.K "_law_is_deal" "_law_is_deal" s_law_is_deal_v2 (G.fa 212) fd) (hTbl : Tbl 212 = fd_law_is_deal_v2) (h_law_is_row : FnAt P w G mg base (callN Tbl k) k 158 "_law_is_row") (b_tuple : mg "tuple" = none) (b_isinstance : mg "isinstance" = none) (b_len : mg "len" = none) (b_range : mg "range" = none) (b_sum : mg "sum" = none) (b_list : mg "list" = none) (b_sorted : mg "sorted" = none) : FnOk P w G.K mg base (L2.CX P w) (k + 1) (G.fa 212) fd ["thing", "setting"] (spC G (callN Tbl (k + 1)) 212) :=
  fn_ok (C := callN Tbl k) fd_law_is_deal_v2 F sc_law_is_deal_v2 rfl rfl (fun ds st => by simp only [callN, hTbl]) (fun cdv A outer s H E hr tk po =>
    show DSs G _ _ (callN Tbl k) _ ((sSeq (sIf (bOr (bNot (bOf (eU1 (isiR .tup) (eV 0)))) (bCmp neB (eU1 lenR (eV 0)) (eC (.int 3)))) (sSeq (sRet (eC (.bl false))) sNx) sNx) (sSeq (sSet 2 (eNew (lLst lNil))) (sSeq (sFor (siR1 (lCons (eC (.int 3)) lNil)) (gN 3) (sSeq (sIf (bNot (bOf (eCall 158 (lCons (eB2 ixR (eV 0) (eV 3)) (lCons (eB2 ixR (eV 1) (eV 3)) (lCons (eA sumQ (lSeq (eV 1))) lNil)))))) (sSeq (sRet (eC (.bl false))) sNx) sNx) (sSeq (sSet 2 (eB2 addR (eV 2) (eNew (lMap (fun _ ds => some ds) (lSeq (eB2 ixR (eV 0) (eV 3))))))) sNx))) (sSeq (sRet (eB2 (cB eqB) (eNew (lSorted (lSeq (eV 2)))) (eNew (lRng (eA sumQ (lSeq (eV 1))))))) sNx))))) from
    (dss_cons (by exact (ds_if (db_w (dw_or (db_not (db_of rfl (de_isi (T := .tup) rfl (pe_callB call_isi (by rfl) b_isinstance PyProof.Rows.boot_isinstance (pa_cons (de_var (pv 0)) (pa_cons (pe_bltn (v := .ty "tuple") (by rfl) b_tuple boot_tuple_ rfl) pa_nil)))))) (dw_or1 (db_ne rfl (hu64 hr) (de_len rfl (pe_callB call_lenA (by rfl) b_len PySem.boot_len (pa_cons (de_var (pv 0)) pa_nil))) de_int)))) (dss_cons (by exact (ds_ret de_bl)) (by exact dss_nil)) dss_nil)) (by exact (dss_cons (by exact (ds_set (ps_set (i := 2) sc_law_is_deal_v2.nd rfl (Or.inl rfl) (de_new (dt_lst da_nil))))) (by exact (dss_cons (by exact (ds_for po rfl (di_r1 (pi_range1 (by rfl) b_range (da_cons de_int da_nil))) (dg_name (pg_name (i := 3) sc_law_is_deal_v2.nd rfl (Or.inl rfl))) (dss_cons (by exact (ds_if (db_not (db_of rfl (de_call h_law_is_row rfl hr tk (by rfl) (da_cons (de_ix rfl (de_var (pv 0)) (de_var (pv 3))) (da_cons (de_ix rfl (de_var (pv 1)) (de_var (pv 3))) (da_cons (de_sum rfl (pe_callB (cr_sumA rfl) (by rfl) b_sum PyProof.Rows.boot_sum (pa_cons (dq_of (de_var (pv 1))) pa_nil))) da_nil)))))) (dss_cons (by exact (ds_ret de_bl)) (by exact dss_nil)) dss_nil)) (by exact (dss_cons (by exact (ds_set (ps_set (i := 2) sc_law_is_deal_v2.nd rfl (Or.inl rfl) (de_add rfl (de_var (pv 2)) (de_new (dt_list rfl (pe_callTy call_list_of (by rfl) b_list PyProof.Rows.boot_list (pa_cons (dq_of (de_ix rfl (de_var (pv 0)) (de_var (pv 3)))) pa_nil)))))))) (by exact dss_nil)))))) (by exact (dss_cons (by exact (ds_ret (de_eq rfl (hu64 hr) (de_new (dt_sorted (pe_callB (cr_sortD rfl hr) (by rfl) b_sorted PyProof.Rows.boot_sorted (pa_cons (dq_of (de_var (pv 2))) pa_nil)))) (de_new (dt_rng (pe_listRg rfl (by rfl) b_list (prg_1 (by rfl) b_range (de_sum rfl (pe_callB (cr_sumA rfl) (by rfl) b_sum PyProof.Rows.boot_sum (pa_cons (dq_of (de_var (pv 1))) pa_nil)))))))))) (by exact dss_nil)))))))))
abbrev s_law_v42 : Stmt := topS 22
theorem sc_law_v42 : FnScope ["script", "source", "turn", "setting", "row", "deal", "again"] ["script"] (defScope s_law_v42) := ⟨rfl, rfl, rfl, by decide +kernel, rfl, by decide +kernel, by decide +kernel⟩
theorem ok_law_v42 {P : Program} {w : World} {G : Gx} {mg : Str → Option Value} {base : Heap} {Tbl : Nat → FD} {k : Nat} {fd : FuncData} (F : Fun G.K "law" "law" s_law_v42 (G.fa 213) fd) (hTbl : Tbl 213 = fd_law_v42) (h_law_source : FnAt P w G mg base (callN Tbl k) k 6 "_law_source") (h_law_any_setting : FnAt P w G mg base (callN Tbl k) k 9 "_law_any_setting") (h_law_rows_of : FnAt P w G mg base (callN Tbl k) k 209 "_law_rows_of") (h_law_spoilt : FnAt P w G mg base (callN Tbl k) k 208 "_law_spoilt") (h_law_deal : FnAt P w G mg base (callN Tbl k) k 210 "_law_deal") (h_law_is_row : FnAt P w G mg base (callN Tbl k) k 158 "_law_is_row") (h_is_hand : FnAt P w G mg base (callN Tbl k) k 16 "is_hand") (h_law_same : FnAt P w G mg base (callN Tbl k) k 8 "_law_same") (h_law_is_deal_v2 : FnAt P w G mg base (callN Tbl k) k 212 "_law_is_deal") (h_is_deal : FnAt P w G mg base (callN Tbl k) k 211 "is_deal") (b_len : mg "len" = none) (b_min : mg "min" = none) (b_range : mg "range" = none) (b_sum : mg "sum" = none) : FnOk P w G.K mg base (L2.CX P w) (k + 1) (G.fa 213) fd ["script"] (spC G (callN Tbl (k + 1)) 213) :=
  fn_ok (C := callN Tbl k) fd_law_v42 F sc_law_v42 rfl rfl (fun ds st => by simp only [callN, hTbl]) (fun cdv A outer s H E hr tk po =>
    show DSs G _ _ (callN Tbl k) _ ((sSeq (sSet 1 (eCall 6 (lCons (eV 0) lNil))) (sSeq (sFor (siR1 (lCons (eB2 addR (eC (.int 1)) (eA min2 (lCons (eC (.int 3)) (lCons (eB2 divR (eU1 lenR (eV 0)) (eC (.int 6))) lNil)))) lNil)) (gN 2) (sSeq (sSet 3 (eCall 9 (lCons (eV 1) lNil))) (sSeq (sSet 4 (eCall 208 (lCons (eV 1) (lCons (eB2 ixR (eCall 209 (lCons (eV 1) (lCons (eV 3) lNil))) (eC (.int 0))) (lCons (eA sumQ (lSeq (eV 3))) lNil))))) (sSeq (sSet 5 (eCall 210 (lCons (eV 1) (lCons (eV 3) lNil)))) (sSeq (sFor (siR1 (lCons (eC (.int 2)) lNil)) (gN 6) (sSeq (sIf (bNot (bOf (eCall 8 (lCons (eCall 16 (lCons (eV 3) (lCons (eV 4) lNil))) (lCons (eCall 158 (lCons (eV 4) (lCons (eB2 ixR (eV 3) (eC (.int 0))) (lCons (eA sumQ (lSeq (eV 3))) lNil)))) lNil))))) (sSeq (sRet (eC (.bl false))) sNx) sNx) (sSeq (sIf (bNot (bOf (eCall 8 (lCons (eCall 211 (lCons (eV 3) (lCons (eV 5) lNil))) (lCons (eCall 212 (lCons (eV 5) (lCons (eV 3) lNil))) lNil))))) (sSeq (sRet (eC (.bl false))) sNx) sNx) sNx))) sNx))))) (sSeq (sRet (eC (.bl true))) sNx)))) from
    (dss_cons (by exact (ds_set (ps_set (i := 1) sc_law_v42.nd rfl (Or.inl rfl) (de_call h_law_source rfl hr tk (by rfl) (da_cons (de_var (pv 0)) da_nil))))) (by exact (dss_cons (by exact (ds_for po rfl (di_r1 (pi_range1 (by rfl) b_range (da_cons (de_add rfl de_int (de_cA (pe_callB (call_min2 rfl) (by rfl) b_min PyProof.Rows.boot_min (da_cons de_int (da_cons (de_div (de_len rfl (pe_callB call_lenA (by rfl) b_len PySem.boot_len (pa_cons (de_var (pv 0)) pa_nil))) de_int) da_nil))) bra_min2)) da_nil))) (dg_name (pg_name (i := 2) sc_law_v42.nd rfl (Or.inl rfl))) (dss_cons (by exact (ds_set (ps_set (i := 3) sc_law_v42.nd rfl (Or.inl rfl) (de_call h_law_any_setting rfl hr tk (by rfl) (da_cons (de_var (pv 1)) da_nil))))) (by exact (dss_cons (by exact (ds_set (ps_set (i := 4) sc_law_v42.nd rfl (Or.inl rfl) (de_call h_law_spoilt rfl hr tk (by rfl) (da_cons (de_var (pv 1)) (da_cons (de_ix rfl (de_call h_law_rows_of rfl hr tk (by rfl) (da_cons (de_var (pv 1)) (da_cons (de_var (pv 3)) da_nil))) de_int) (da_cons (de_sum rfl (pe_callB (cr_sumA rfl) (by rfl) b_sum PyProof.Rows.boot_sum (pa_cons (dq_of (de_var (pv 3))) pa_nil))) da_nil))))))) (by exact (dss_cons (by exact (ds_set (ps_set (i := 5) sc_law_v42.nd rfl (Or.inl rfl) (de_call h_law_deal rfl hr tk (by rfl) (da_cons (de_var (pv 1)) (da_cons (de_var (pv 3)) da_nil)))))) (by exact (dss_cons (by exact (ds_for po rfl (di_r1 (pi_range1 (by rfl) b_range (da_cons de_int da_nil))) (dg_name (pg_name (i := 6) sc_law_v42.nd rfl (Or.inl rfl))) (dss_cons (by exact (ds_if (db_not (db_of rfl (de_call h_law_same rfl hr tk (by rfl) (da_cons (de_call h_is_hand rfl hr tk (by rfl) (da_cons (de_var (pv 3)) (da_cons (de_var (pv 4)) da_nil))) (da_cons (de_call h_law_is_row rfl hr tk (by rfl) (da_cons (de_var (pv 4)) (da_cons (de_ix rfl (de_var (pv 3)) de_int) (da_cons (de_sum rfl (pe_callB (cr_sumA rfl) (by rfl) b_sum PyProof.Rows.boot_sum (pa_cons (dq_of (de_var (pv 3))) pa_nil))) da_nil)))) da_nil))))) (dss_cons (by exact (ds_ret de_bl)) (by exact dss_nil)) dss_nil)) (by exact (dss_cons (by exact (ds_if (db_not (db_of rfl (de_call h_law_same rfl hr tk (by rfl) (da_cons (de_call h_is_deal rfl hr tk (by rfl) (da_cons (de_var (pv 3)) (da_cons (de_var (pv 5)) da_nil))) (da_cons (de_call h_law_is_deal_v2 rfl hr tk (by rfl) (da_cons (de_var (pv 5)) (da_cons (de_var (pv 3)) da_nil))) da_nil))))) (dss_cons (by exact (ds_ret de_bl)) (by exact dss_nil)) dss_nil)) (by exact dss_nil)))))) (by exact dss_nil)))))))))) (by exact (dss_cons (by exact (ds_ret de_bl)) (by exact dss_nil)))))))

structure Top (G : Gx) (mg : Str → Option Value) : Prop where
  b_list : mg "list" = none
  b_len : mg "len" = none
  b_int : mg "int" = none
  b_str : mg "str" = none
  b_range : mg "range" = none
  b_tuple : mg "tuple" = none
  b_sorted : mg "sorted" = none
  b_sum : mg "sum" = none
  b_isinstance : mg "isinstance" = none
  b_bool : mg "bool" = none
  b_zip : mg "zip" = none
  b_set : mg "set" = none
  b_min : mg "min" = none
  g_MOST_CARDS : ∃ t, mg "MOST_CARDS" = some (.int 13 t)
  e_BadSetting : ExAt G.K mg G 1 "BadSetting"
  g_law_source : mg "_law_source" = some (.ref (G.fa 6))
  F_law_source : ∃ fd, Fun G.K "_law_source" "_law_source" s_law_source (G.fa 6) fd
  g_law_pick : mg "_law_pick" = some (.ref (G.fa 7))
  F_law_pick : ∃ fd, Fun G.K "_law_pick" "_law_pick" s_law_pick (G.fa 7) fd
  g_law_any_setting : mg "_law_any_setting" = some (.ref (G.fa 9))
  F_law_any_setting : ∃ fd, Fun G.K "_law_any_setting" "_law_any_setting" s_law_any_setting (G.fa 9) fd
  g_law_bad_row : mg "_law_bad_row" = some (.ref (G.fa 148))
  F_law_bad_row : ∃ fd, Fun G.K "_law_bad_row" "_law_bad_row" s_law_bad_row (G.fa 148) fd
  g_law_spoilt : mg "_law_spoilt" = some (.ref (G.fa 208))
  F_law_spoilt : ∃ fd, Fun G.K "_law_spoilt" "_law_spoilt" s_law_spoilt (G.fa 208) fd
  g_law_rows_of : mg "_law_rows_of" = some (.ref (G.fa 209))
  F_law_rows_of : ∃ fd, Fun G.K "_law_rows_of" "_law_rows_of" s_law_rows_of (G.fa 209) fd
  g_law_deal : mg "_law_deal" = some (.ref (G.fa 210))
  F_law_deal : ∃ fd, Fun G.K "_law_deal" "_law_deal" s_law_deal (G.fa 210) fd
  g_law_same : mg "_law_same" = some (.ref (G.fa 8))
  F_law_same : ∃ fd, Fun G.K "_law_same" "_law_same" s_law_same (G.fa 8) fd
  g_is_integer : mg "is_integer" = some (.ref (G.fa 0))
  F_is_integer : ∃ fd, Fun G.K "is_integer" "is_integer" s_is_integer (G.fa 0) fd
  g_is_setting : mg "is_setting" = some (.ref (G.fa 1))
  F_is_setting : ∃ fd, Fun G.K "is_setting" "is_setting" s_is_setting (G.fa 1) fd
  g_check_setting : mg "check_setting" = some (.ref (G.fa 2))
  F_check_setting : ∃ fd, Fun G.K "check_setting" "check_setting" s_check_setting (G.fa 2) fd
  g_is_row : mg "is_row" = some (.ref (G.fa 15))
  F_is_row : ∃ fd, Fun G.K "is_row" "is_row" s_is_row (G.fa 15) fd
  g_is_hand : mg "is_hand" = some (.ref (G.fa 16))
  F_is_hand : ∃ fd, Fun G.K "is_hand" "is_hand" s_is_hand (G.fa 16) fd
  g_law_is_row : mg "_law_is_row" = some (.ref (G.fa 158))
  F_law_is_row : ∃ fd, Fun G.K "_law_is_row" "_law_is_row" s_law_is_row (G.fa 158) fd
  g_is_deal : mg "is_deal" = some (.ref (G.fa 211))
  F_is_deal : ∃ fd, Fun G.K "is_deal" "is_deal" s_is_deal (G.fa 211) fd
  g_law_is_deal_v2 : mg "_law_is_deal" = some (.ref (G.fa 212))
  F_law_is_deal_v2 : ∃ fd, Fun G.K "_law_is_deal" "_law_is_deal" s_law_is_deal_v2 (G.fa 212) fd
  g_law_v42 : mg "law" = some (.ref (G.fa 213))
  F_law_v42 : ∃ fd, Fun G.K "law" "law" s_law_v42 (G.fa 213) fd
structure All (P : Program) (w : World) (G : Gx) (mg : Str → Option Value) (base : Heap) (k : Nat) : Prop where
  a_law_source : FnAt P w G mg base (callN Tbl k) k 6 "_law_source"
  a_law_pick : FnAt P w G mg base (callN Tbl k) k 7 "_law_pick"
  a_law_any_setting : FnAt P w G mg base (callN Tbl k) k 9 "_law_any_setting"
  a_law_bad_row : FnAt P w G mg base (callN Tbl k) k 148 "_law_bad_row"
  a_law_spoilt : FnAt P w G mg base (callN Tbl k) k 208 "_law_spoilt"
  a_law_rows_of : FnAt P w G mg base (callN Tbl k) k 209 "_law_rows_of"
  a_law_deal : FnAt P w G mg base (callN Tbl k) k 210 "_law_deal"
  a_law_same : FnAt P w G mg base (callN Tbl k) k 8 "_law_same"
  a_is_integer : FnAt P w G mg base (callN Tbl k) k 0 "is_integer"
  a_is_setting : FnAt P w G mg base (callN Tbl k) k 1 "is_setting"
  a_check_setting : FnAt P w G mg base (callN Tbl k) k 2 "check_setting"
  a_is_row : FnAt P w G mg base (callN Tbl k) k 15 "is_row"
  a_is_hand : FnAt P w G mg base (callN Tbl k) k 16 "is_hand"
  a_law_is_row : FnAt P w G mg base (callN Tbl k) k 158 "_law_is_row"
  a_is_deal : FnAt P w G mg base (callN Tbl k) k 211 "is_deal"
  a_law_is_deal_v2 : FnAt P w G mg base (callN Tbl k) k 212 "_law_is_deal"
  a_law_v42 : FnAt P w G mg base (callN Tbl k) k 213 "law"
section
variable {P : Program} {w : World} {G : Gx} {mg : Str → Option Value} {base : Heap} {k : Nat}
theorem bi_law_source {fd : FuncData} (F : Fun G.K "_law_source" "_law_source" s_law_source (G.fa 6) fd) : Binds G.K fd ["script"] [] := F.binds (ps := ["script"]) fun _ _ _ _ _ _ us hl => match us, hl with | [_], _ => rfl
theorem bi_law_pick {fd : FuncData} (F : Fun G.K "_law_pick" "_law_pick" s_law_pick (G.fa 7) fd) : Binds G.K fd ["source", "many"] [] := F.binds (ps := ["source", "many"]) fun _ _ _ _ _ _ us hl => match us, hl with | [_, _], _ => rfl
theorem bi_law_any_setting {fd : FuncData} (F : Fun G.K "_law_any_setting" "_law_any_setting" s_law_any_setting (G.fa 9) fd) : Binds G.K fd ["source"] [] := F.binds (ps := ["source"]) fun _ _ _ _ _ _ us hl => match us, hl with | [_], _ => rfl
theorem bi_law_bad_row {fd : FuncData} (F : Fun G.K "_law_bad_row" "_law_bad_row" s_law_bad_row (G.fa 148) fd) : Binds G.K fd ["source", "row", "total"] [] := F.binds (ps := ["source", "row", "total"]) fun _ _ _ _ _ _ us hl => match us, hl with | [_, _, _], _ => rfl
theorem bi_law_spoilt {fd : FuncData} (F : Fun G.K "_law_spoilt" "_law_spoilt" s_law_spoilt (G.fa 208) fd) : Binds G.K fd ["source", "row", "total"] [] := F.binds (ps := ["source", "row", "total"]) fun _ _ _ _ _ _ us hl => match us, hl with | [_, _, _], _ => rfl
theorem bi_law_rows_of {fd : FuncData} (F : Fun G.K "_law_rows_of" "_law_rows_of" s_law_rows_of (G.fa 209) fd) : Binds G.K fd ["source", "setting"] [] := F.binds (ps := ["source", "setting"]) fun _ _ _ _ _ _ us hl => match us, hl with | [_, _], _ => rfl
theorem bi_law_deal {fd : FuncData} (F : Fun G.K "_law_deal" "_law_deal" s_law_deal (G.fa 210) fd) : Binds G.K fd ["source", "setting"] [] := F.binds (ps := ["source", "setting"]) fun _ _ _ _ _ _ us hl => match us, hl with | [_, _], _ => rfl
theorem bi_law_same {fd : FuncData} (F : Fun G.K "_law_same" "_law_same" s_law_same (G.fa 8) fd) : Binds G.K fd ["found", "due"] [] := F.binds (ps := ["found", "due"]) fun _ _ _ _ _ _ us hl => match us, hl with | [_, _], _ => rfl
theorem bi_is_integer {fd : FuncData} (F : Fun G.K "is_integer" "is_integer" s_is_integer (G.fa 0) fd) : Binds G.K fd ["thing"] [] := F.binds (ps := ["thing"]) fun _ _ _ _ _ _ us hl => match us, hl with | [_], _ => rfl
theorem bi_is_setting {fd : FuncData} (F : Fun G.K "is_setting" "is_setting" s_is_setting (G.fa 1) fd) : Binds G.K fd ["thing"] [] := F.binds (ps := ["thing"]) fun _ _ _ _ _ _ us hl => match us, hl with | [_], _ => rfl
theorem bi_check_setting {fd : FuncData} (F : Fun G.K "check_setting" "check_setting" s_check_setting (G.fa 2) fd) : Binds G.K fd ["setting"] [] := F.binds (ps := ["setting"]) fun _ _ _ _ _ _ us hl => match us, hl with | [_], _ => rfl
theorem bi_is_row {fd : FuncData} (F : Fun G.K "is_row" "is_row" s_is_row (G.fa 15) fd) : Binds G.K fd ["thing", "total"] [] := F.binds (ps := ["thing", "total"]) fun _ _ _ _ _ _ us hl => match us, hl with | [_, _], _ => rfl
theorem bi_is_hand {fd : FuncData} (F : Fun G.K "is_hand" "is_hand" s_is_hand (G.fa 16) fd) : Binds G.K fd ["setting", "thing"] [] := F.binds (ps := ["setting", "thing"]) fun _ _ _ _ _ _ us hl => match us, hl with | [_, _], _ => rfl
theorem bi_law_is_row {fd : FuncData} (F : Fun G.K "_law_is_row" "_law_is_row" s_law_is_row (G.fa 158) fd) : Binds G.K fd ["thing", "many", "total"] [] := F.binds (ps := ["thing", "many", "total"]) fun _ _ _ _ _ _ us hl => match us, hl with | [_, _, _], _ => rfl
theorem bi_is_deal {fd : FuncData} (F : Fun G.K "is_deal" "is_deal" s_is_deal (G.fa 211) fd) : Binds G.K fd ["setting", "thing"] [] := F.binds (ps := ["setting", "thing"]) fun _ _ _ _ _ _ us hl => match us, hl with | [_, _], _ => rfl
theorem bi_law_is_deal_v2 {fd : FuncData} (F : Fun G.K "_law_is_deal" "_law_is_deal" s_law_is_deal_v2 (G.fa 212) fd) : Binds G.K fd ["thing", "setting"] [] := F.binds (ps := ["thing", "setting"]) fun _ _ _ _ _ _ us hl => match us, hl with | [_, _], _ => rfl
theorem bi_law_v42 {fd : FuncData} (F : Fun G.K "law" "law" s_law_v42 (G.fa 213) fd) : Binds G.K fd ["script"] [] := F.binds (ps := ["script"]) fun _ _ _ _ _ _ us hl => match us, hl with | [_], _ => rfl
theorem all_zero (T : Top G mg) : All P w G mg base 0 := by
  refine ⟨?_, ?_, ?_, ?_, ?_, ?_, ?_, ?_, ?_, ?_, ?_, ?_, ?_, ?_, ?_, ?_, ?_⟩
  · obtain ⟨fd, F⟩ := T.F_law_source; exact ⟨T.g_law_source, F.kp, fd, _, ok_zero, bi_law_source F⟩
  · obtain ⟨fd, F⟩ := T.F_law_pick; exact ⟨T.g_law_pick, F.kp, fd, _, ok_zero, bi_law_pick F⟩
  · obtain ⟨fd, F⟩ := T.F_law_any_setting; exact ⟨T.g_law_any_setting, F.kp, fd, _, ok_zero, bi_law_any_setting F⟩
  · obtain ⟨fd, F⟩ := T.F_law_bad_row; exact ⟨T.g_law_bad_row, F.kp, fd, _, ok_zero, bi_law_bad_row F⟩
  · obtain ⟨fd, F⟩ := T.F_law_spoilt; exact ⟨T.g_law_spoilt, F.kp, fd, _, ok_zero, bi_law_spoilt F⟩
  · obtain ⟨fd, F⟩ := T.F_law_rows_of; exact ⟨T.g_law_rows_of, F.kp, fd, _, ok_zero, bi_law_rows_of F⟩
  · obtain ⟨fd, F⟩ := T.F_law_deal; exact ⟨T.g_law_deal, F.kp, fd, _, ok_zero, bi_law_deal F⟩
  · obtain ⟨fd, F⟩ := T.F_law_same; exact ⟨T.g_law_same, F.kp, fd, _, ok_zero, bi_law_same F⟩
  · obtain ⟨fd, F⟩ := T.F_is_integer; exact ⟨T.g_is_integer, F.kp, fd, _, ok_zero, bi_is_integer F⟩
  · obtain ⟨fd, F⟩ := T.F_is_setting; exact ⟨T.g_is_setting, F.kp, fd, _, ok_zero, bi_is_setting F⟩
  · obtain ⟨fd, F⟩ := T.F_check_setting; exact ⟨T.g_check_setting, F.kp, fd, _, ok_zero, bi_check_setting F⟩
  · obtain ⟨fd, F⟩ := T.F_is_row; exact ⟨T.g_is_row, F.kp, fd, _, ok_zero, bi_is_row F⟩
  · obtain ⟨fd, F⟩ := T.F_is_hand; exact ⟨T.g_is_hand, F.kp, fd, _, ok_zero, bi_is_hand F⟩
  · obtain ⟨fd, F⟩ := T.F_law_is_row; exact ⟨T.g_law_is_row, F.kp, fd, _, ok_zero, bi_law_is_row F⟩
  · obtain ⟨fd, F⟩ := T.F_is_deal; exact ⟨T.g_is_deal, F.kp, fd, _, ok_zero, bi_is_deal F⟩
  · obtain ⟨fd, F⟩ := T.F_law_is_deal_v2; exact ⟨T.g_law_is_deal_v2, F.kp, fd, _, ok_zero, bi_law_is_deal_v2 F⟩
  · obtain ⟨fd, F⟩ := T.F_law_v42; exact ⟨T.g_law_v42, F.kp, fd, _, ok_zero, bi_law_v42 F⟩
theorem all_succ (T : Top G mg) (h : All P w G mg base k) : All P w G mg base (k + 1) := by
  obtain ⟨t_MOST_CARDS, g_MOST_CARDS⟩ := T.g_MOST_CARDS
  refine ⟨?_, ?_, ?_, ?_, ?_, ?_, ?_, ?_, ?_, ?_, ?_, ?_, ?_, ?_, ?_, ?_, ?_⟩
  · obtain ⟨fd, F⟩ := T.F_law_source; exact ⟨T.g_law_source, F.kp, fd, _, ok_law_source F rfl T.b_list, bi_law_source F⟩
  · obtain ⟨fd, F⟩ := T.F_law_pick; exact ⟨T.g_law_pick, F.kp, fd, _, ok_law_pick F rfl T.b_len T.b_int, bi_law_pick F⟩
  · obtain ⟨fd, F⟩ := T.F_law_any_setting; exact ⟨T.g_law_any_setting, F.kp, fd, _, ok_law_any_setting F rfl h.a_law_pick, bi_law_any_setting F⟩
  · obtain ⟨fd, F⟩ := T.F_law_bad_row; exact ⟨T.g_law_bad_row, F.kp, fd, _, ok_law_bad_row F rfl h.a_law_pick T.b_list T.b_len T.b_str T.b_range T.b_tuple, bi_law_bad_row F⟩
  · obtain ⟨fd, F⟩ := T.F_law_spoilt; exact ⟨T.g_law_spoilt, F.kp, fd, _, ok_law_spoilt F rfl h.a_law_pick h.a_law_bad_row T.b_len T.b_list T.b_sorted T.b_tuple, bi_law_spoilt F⟩
  · obtain ⟨fd, F⟩ := T.F_law_rows_of; exact ⟨T.g_law_rows_of, F.kp, fd, _, ok_law_rows_of F rfl h.a_law_pick T.b_sum T.b_list T.b_range T.b_len T.b_sorted T.b_tuple, bi_law_rows_of F⟩
  · obtain ⟨fd, F⟩ := T.F_law_deal; exact ⟨T.g_law_deal, F.kp, fd, _, ok_law_deal F rfl h.a_law_rows_of h.a_law_pick h.a_law_spoilt T.b_int T.b_list T.b_sorted T.b_tuple T.b_sum, bi_law_deal F⟩
  · obtain ⟨fd, F⟩ := T.F_law_same; exact ⟨T.g_law_same, F.kp, fd, _, ok_law_same F rfl h.a_law_same T.b_int T.b_isinstance T.b_bool T.b_str T.b_tuple T.b_list T.b_len T.b_range, bi_law_same F⟩
  · obtain ⟨fd, F⟩ := T.F_is_integer; exact ⟨T.g_is_integer, F.kp, fd, _, ok_is_integer F rfl T.b_int T.b_isinstance T.b_bool, bi_is_integer F⟩
  · obtain ⟨fd, F⟩ := T.F_is_setting; exact ⟨T.g_is_setting, F.kp, fd, _, ok_is_setting F rfl h.a_is_integer T.b_tuple T.b_isinstance T.b_len T.b_sum g_MOST_CARDS, bi_is_setting F⟩
  · obtain ⟨fd, F⟩ := T.F_check_setting; exact ⟨T.g_check_setting, F.kp, fd, _, ok_check_setting F rfl h.a_is_setting T.e_BadSetting, bi_check_setting F⟩
  · obtain ⟨fd, F⟩ := T.F_is_row; exact ⟨T.g_is_row, F.kp, fd, _, ok_is_row F rfl h.a_is_integer T.b_tuple T.b_isinstance, bi_is_row F⟩
  · obtain ⟨fd, F⟩ := T.F_is_hand; exact ⟨T.g_is_hand, F.kp, fd, _, ok_is_hand F rfl h.a_check_setting h.a_is_row T.b_sum T.b_len, bi_is_hand F⟩
  · obtain ⟨fd, F⟩ := T.F_law_is_row; exact ⟨T.g_law_is_row, F.kp, fd, _, ok_law_is_row F rfl T.b_tuple T.b_isinstance T.b_len T.b_bool T.b_int, bi_law_is_row F⟩
  · obtain ⟨fd, F⟩ := T.F_is_deal; exact ⟨T.g_is_deal, F.kp, fd, _, ok_is_deal F rfl h.a_check_setting h.a_is_row T.b_tuple T.b_isinstance T.b_len T.b_sum T.b_zip T.b_set, bi_is_deal F⟩
  · obtain ⟨fd, F⟩ := T.F_law_is_deal_v2; exact ⟨T.g_law_is_deal_v2, F.kp, fd, _, ok_law_is_deal_v2 F rfl h.a_law_is_row T.b_tuple T.b_isinstance T.b_len T.b_range T.b_sum T.b_list T.b_sorted, bi_law_is_deal_v2 F⟩
  · obtain ⟨fd, F⟩ := T.F_law_v42; exact ⟨T.g_law_v42, F.kp, fd, _, ok_law_v42 F rfl h.a_law_source h.a_law_any_setting h.a_law_rows_of h.a_law_spoilt h.a_law_deal h.a_law_is_row h.a_is_hand h.a_law_same h.a_law_is_deal_v2 h.a_is_deal T.b_len T.b_min T.b_range T.b_sum, bi_law_v42 F⟩
theorem all_k (T : Top G mg) : ∀ k, All P w G mg base k
  | 0 => all_zero T
  | k + 1 => all_succ T (all_k T k)
end
theorem law_fn' {P : Program} {w : World} {G : Gx} {mg : Str → Option Value} (T : Top G mg) {fa : Addr} (hfa : mg "law" = some (.ref fa)) : ∃ fd : FuncData, (∀ (s : Shared) (v : Value), BindsTo s fd ⟨[v], []⟩ [("script", v)]) ∧ ∀ base, FnOk P w G.K mg base (L2.CX P w) 60 fa fd ["script"] (spLaw G.K) := by
  have e := hfa.symm.trans T.g_law_v42
  cases e
  obtain ⟨fd, F⟩ := T.F_law_v42
  obtain ⟨t_MOST_CARDS, g_MOST_CARDS⟩ := T.g_MOST_CARDS
  refine ⟨fd, fun s v => ?_, fun base => ?_⟩
  · obtain ⟨oc, od, kV, doc, pm, an, cdv, ct, osl, rfl, lk, hcd⟩ := F.ex
    exact .of_eq rfl
  · have A := all_k (P := P) (w := w) (base := base) T 59
    exact law_imp (Tbl := Tbl) k01_true (ok_law_v42 F rfl A.a_law_source A.a_law_any_setting A.a_law_rows_of A.a_law_spoilt A.a_law_deal A.a_law_is_row A.a_is_hand A.a_law_same A.a_law_is_deal_v2 A.a_is_deal T.b_len T.b_min T.b_range T.b_sum)
theorem top_mk {K : PySem.W.Frag} {h : Heap} {mg : Str → Option Value} (X : K.In h) (G : h.Ns mainGlobals mg)
    {a0 : Addr} {od0 an0 : Option Addr} {sl0 : Array (Option Value)} {oc0 dc0 pm0 cd0 ct0 : Value} {kV0 : Value} {a1 : Addr} {od1 an1 : Option Addr} {sl1 : Array (Option Value)} {oc1 dc1 pm1 cd1 ct1 : Value} {kV1 : Value} {a2 : Addr} {od2 an2 : Option Addr} {sl2 : Array (Option Value)} {oc2 dc2 pm2 cd2 ct2 : Value} {kV2 : Value} {a3 : Addr} {od3 an3 : Option Addr} {sl3 : Array (Option Value)} {oc3 dc3 pm3 cd3 ct3 : Value} {kV3 : Value} {a4 : Addr} {od4 an4 : Option Addr} {sl4 : Array (Option Value)} {oc4 dc4 pm4 cd4 ct4 : Value} {kV4 : Value} {a5 : Addr} {od5 an5 : Option Addr} {sl5 : Array (Option Value)} {oc5 dc5 pm5 cd5 ct5 : Value} {kV5 : Value} {a6 : Addr} {od6 an6 : Option Addr} {sl6 : Array (Option Value)} {oc6 dc6 pm6 cd6 ct6 : Value} {kV6 : Value} {a7 : Addr} {od7 an7 : Option Addr} {sl7 : Array (Option Value)} {oc7 dc7 pm7 cd7 ct7 : Value} {kV7 : Value} {a8 : Addr} {od8 an8 : Option Addr} {sl8 : Array (Option Value)} {oc8 dc8 pm8 cd8 ct8 : Value} {kV8 : Value} {a9 : Addr} {od9 an9 : Option Addr} {sl9 : Array (Option Value)} {oc9 dc9 pm9 cd9 ct9 : Value} {kV9 : Value} {a10 : Addr} {od10 an10 : Option Addr} {sl10 : Array (Option Value)} {oc10 dc10 pm10 cd10 ct10 : Value} {kV10 : Value} {a11 : Addr} {od11 an11 : Option Addr} {sl11 : Array (Option Value)} {oc11 dc11 pm11 cd11 ct11 : Value} {kV11 : Value} {a12 : Addr} {od12 an12 : Option Addr} {sl12 : Array (Option Value)} {oc12 dc12 pm12 cd12 ct12 : Value} {kV12 : Value} {a13 : Addr} {od13 an13 : Option Addr} {sl13 : Array (Option Value)} {oc13 dc13 pm13 cd13 ct13 : Value} {kV13 : Value} {a14 : Addr} {od14 an14 : Option Addr} {sl14 : Array (Option Value)} {oc14 dc14 pm14 cd14 ct14 : Value} {kV14 : Value} {a15 : Addr} {od15 an15 : Option Addr} {sl15 : Array (Option Value)} {oc15 dc15 pm15 cd15 ct15 : Value} {kV15 : Value} {a16 : Addr} {od16 an16 : Option Addr} {sl16 : Array (Option Value)} {oc16 dc16 pm16 cd16 ct16 : Value} {kV16 : Value} {t_MOST_CARDS : Tok} {x_BadSetting : Addr}
    (n0 : PySem.W.nsIn K mainGlobals "_law_source" = some (some (.ref a0))) (l0 : K.lookup a0 = some ⟨oc0, od0, .func (PySem.W.fnOf "_law_source" "_law_source" (defArgs s_law_source) (defBody s_law_source) (defScope s_law_source) .none kV0 dc0 pm0 an0 cd0 ct0), sl0⟩) (c0 : PySem.W.codeIn K cd0 "_law_source" = true) (k0 : PySem.W.keepIn K (.ref a0) = true)
    (n1 : PySem.W.nsIn K mainGlobals "_law_pick" = some (some (.ref a1))) (l1 : K.lookup a1 = some ⟨oc1, od1, .func (PySem.W.fnOf "_law_pick" "_law_pick" (defArgs s_law_pick) (defBody s_law_pick) (defScope s_law_pick) .none kV1 dc1 pm1 an1 cd1 ct1), sl1⟩) (c1 : PySem.W.codeIn K cd1 "_law_pick" = true) (k1 : PySem.W.keepIn K (.ref a1) = true)
    (n2 : PySem.W.nsIn K mainGlobals "_law_any_setting" = some (some (.ref a2))) (l2 : K.lookup a2 = some ⟨oc2, od2, .func (PySem.W.fnOf "_law_any_setting" "_law_any_setting" (defArgs s_law_any_setting) (defBody s_law_any_setting) (defScope s_law_any_setting) .none kV2 dc2 pm2 an2 cd2 ct2), sl2⟩) (c2 : PySem.W.codeIn K cd2 "_law_any_setting" = true) (k2 : PySem.W.keepIn K (.ref a2) = true)
    (n3 : PySem.W.nsIn K mainGlobals "_law_bad_row" = some (some (.ref a3))) (l3 : K.lookup a3 = some ⟨oc3, od3, .func (PySem.W.fnOf "_law_bad_row" "_law_bad_row" (defArgs s_law_bad_row) (defBody s_law_bad_row) (defScope s_law_bad_row) .none kV3 dc3 pm3 an3 cd3 ct3), sl3⟩) (c3 : PySem.W.codeIn K cd3 "_law_bad_row" = true) (k3 : PySem.W.keepIn K (.ref a3) = true)
    (n4 : PySem.W.nsIn K mainGlobals "_law_spoilt" = some (some (.ref a4))) (l4 : K.lookup a4 = some ⟨oc4, od4, .func (PySem.W.fnOf "_law_spoilt" "_law_spoilt" (defArgs s_law_spoilt) (defBody s_law_spoilt) (defScope s_law_spoilt) .none kV4 dc4 pm4 an4 cd4 ct4), sl4⟩) (c4 : PySem.W.codeIn K cd4 "_law_spoilt" = true) (k4 : PySem.W.keepIn K (.ref a4) = true)
    (n5 : PySem.W.nsIn K mainGlobals "_law_rows_of" = some (some (.ref a5))) (l5 : K.lookup a5 = some ⟨oc5, od5, .func (PySem.W.fnOf "_law_rows_of" "_law_rows_of" (defArgs s_law_rows_of) (defBody s_law_rows_of) (defScope s_law_rows_of) .none kV5 dc5 pm5 an5 cd5 ct5), sl5⟩) (c5 : PySem.W.codeIn K cd5 "_law_rows_of" = true) (k5 : PySem.W.keepIn K (.ref a5) = true)
    (n6 : PySem.W.nsIn K mainGlobals "_law_deal" = some (some (.ref a6))) (l6 : K.lookup a6 = some ⟨oc6, od6, .func (PySem.W.fnOf "_law_deal" "_law_deal" (defArgs s_law_deal) (defBody s_law_deal) (defScope s_law_deal) .none kV6 dc6 pm6 an6 cd6 ct6), sl6⟩) (c6 : PySem.W.codeIn K cd6 "_law_deal" = true) (k6 : PySem.W.keepIn K (.ref a6) = true)
    (n7 : PySem.W.nsIn K mainGlobals "_law_same" = some (some (.ref a7))) (l7 : K.lookup a7 = some ⟨oc7, od7, .func (PySem.W.fnOf "_law_same" "_law_same" (defArgs s_law_same) (defBody s_law_same) (defScope s_law_same) .none kV7 dc7 pm7 an7 cd7 ct7), sl7⟩) (c7 : PySem.W.codeIn K cd7 "_law_same" = true) (k7 : PySem.W.keepIn K (.ref a7) = true)
    (n8 : PySem.W.nsIn K mainGlobals "is_integer" = some (some (.ref a8))) (l8 : K.lookup a8 = some ⟨oc8, od8, .func (PySem.W.fnOf "is_integer" "is_integer" (defArgs s_is_integer) (defBody s_is_integer) (defScope s_is_integer) .none kV8 dc8 pm8 an8 cd8 ct8), sl8⟩) (c8 : PySem.W.codeIn K cd8 "is_integer" = true) (k8 : PySem.W.keepIn K (.ref a8) = true)
    (n9 : PySem.W.nsIn K mainGlobals "is_setting" = some (some (.ref a9))) (l9 : K.lookup a9 = some ⟨oc9, od9, .func (PySem.W.fnOf "is_setting" "is_setting" (defArgs s_is_setting) (defBody s_is_setting) (defScope s_is_setting) .none kV9 dc9 pm9 an9 cd9 ct9), sl9⟩) (c9 : PySem.W.codeIn K cd9 "is_setting" = true) (k9 : PySem.W.keepIn K (.ref a9) = true)
    (n10 : PySem.W.nsIn K mainGlobals "check_setting" = some (some (.ref a10))) (l10 : K.lookup a10 = some ⟨oc10, od10, .func (PySem.W.fnOf "check_setting" "check_setting" (defArgs s_check_setting) (defBody s_check_setting) (defScope s_check_setting) .none kV10 dc10 pm10 an10 cd10 ct10), sl10⟩) (c10 : PySem.W.codeIn K cd10 "check_setting" = true) (k10 : PySem.W.keepIn K (.ref a10) = true)
    (n11 : PySem.W.nsIn K mainGlobals "is_row" = some (some (.ref a11))) (l11 : K.lookup a11 = some ⟨oc11, od11, .func (PySem.W.fnOf "is_row" "is_row" (defArgs s_is_row) (defBody s_is_row) (defScope s_is_row) .none kV11 dc11 pm11 an11 cd11 ct11), sl11⟩) (c11 : PySem.W.codeIn K cd11 "is_row" = true) (k11 : PySem.W.keepIn K (.ref a11) = true)
    (n12 : PySem.W.nsIn K mainGlobals "is_hand" = some (some (.ref a12))) (l12 : K.lookup a12 = some ⟨oc12, od12, .func (PySem.W.fnOf "is_hand" "is_hand" (defArgs s_is_hand) (defBody s_is_hand) (defScope s_is_hand) .none kV12 dc12 pm12 an12 cd12 ct12), sl12⟩) (c12 : PySem.W.codeIn K cd12 "is_hand" = true) (k12 : PySem.W.keepIn K (.ref a12) = true)
    (n13 : PySem.W.nsIn K mainGlobals "_law_is_row" = some (some (.ref a13))) (l13 : K.lookup a13 = some ⟨oc13, od13, .func (PySem.W.fnOf "_law_is_row" "_law_is_row" (defArgs s_law_is_row) (defBody s_law_is_row) (defScope s_law_is_row) .none kV13 dc13 pm13 an13 cd13 ct13), sl13⟩) (c13 : PySem.W.codeIn K cd13 "_law_is_row" = true) (k13 : PySem.W.keepIn K (.ref a13) = true)
    (n14 : PySem.W.nsIn K mainGlobals "is_deal" = some (some (.ref a14))) (l14 : K.lookup a14 = some ⟨oc14, od14, .func (PySem.W.fnOf "is_deal" "is_deal" (defArgs s_is_deal) (defBody s_is_deal) (defScope s_is_deal) .none kV14 dc14 pm14 an14 cd14 ct14), sl14⟩) (c14 : PySem.W.codeIn K cd14 "is_deal" = true) (k14 : PySem.W.keepIn K (.ref a14) = true)
    (n15 : PySem.W.nsIn K mainGlobals "_law_is_deal" = some (some (.ref a15))) (l15 : K.lookup a15 = some ⟨oc15, od15, .func (PySem.W.fnOf "_law_is_deal" "_law_is_deal" (defArgs s_law_is_deal_v2) (defBody s_law_is_deal_v2) (defScope s_law_is_deal_v2) .none kV15 dc15 pm15 an15 cd15 ct15), sl15⟩) (c15 : PySem.W.codeIn K cd15 "_law_is_deal" = true) (k15 : PySem.W.keepIn K (.ref a15) = true)
    (n16 : PySem.W.nsIn K mainGlobals "law" = some (some (.ref a16))) (l16 : K.lookup a16 = some ⟨oc16, od16, .func (PySem.W.fnOf "law" "law" (defArgs s_law_v42) (defBody s_law_v42) (defScope s_law_v42) .none kV16 dc16 pm16 an16 cd16 ct16), sl16⟩) (c16 : PySem.W.codeIn K cd16 "law" = true) (k16 : PySem.W.keepIn K (.ref a16) = true)
    (z_list : PySem.W.nsIn K mainGlobals "list" = some none)
    (z_len : PySem.W.nsIn K mainGlobals "len" = some none)
    (z_int : PySem.W.nsIn K mainGlobals "int" = some none)
    (z_str : PySem.W.nsIn K mainGlobals "str" = some none)
    (z_range : PySem.W.nsIn K mainGlobals "range" = some none)
    (z_tuple : PySem.W.nsIn K mainGlobals "tuple" = some none)
    (z_sorted : PySem.W.nsIn K mainGlobals "sorted" = some none)
    (z_sum : PySem.W.nsIn K mainGlobals "sum" = some none)
    (z_isinstance : PySem.W.nsIn K mainGlobals "isinstance" = some none)
    (z_bool : PySem.W.nsIn K mainGlobals "bool" = some none)
    (z_zip : PySem.W.nsIn K mainGlobals "zip" = some none)
    (z_set : PySem.W.nsIn K mainGlobals "set" = some none)
    (z_min : PySem.W.nsIn K mainGlobals "min" = some none)
    (y_MOST_CARDS : PySem.W.nsIn K mainGlobals "MOST_CARDS" = some (some (.int 13 t_MOST_CARDS)))
    (xn_BadSetting : PySem.W.nsIn K mainGlobals "BadSetting" = some (some (.ref x_BadSetting))) (xe_BadSetting : PySem.W.excIn K x_BadSetting [.type "ValueError", .type "Exception", .type "BaseException", .type "object"] "ValueError.__new__" = true) (xk_BadSetting : PySem.W.keepIn K (.ref x_BadSetting) = true) (xs_BadSetting : PySem.W.subIn K (.ref x_BadSetting) (.type "BaseException") = some true) (xt_BadSetting : PySem.W.typeIn K (.ref x_BadSetting) = some (.type "type")) : Top ⟨K, fun n => match n with | 6 => a0 | 7 => a1 | 9 => a2 | 148 => a3 | 208 => a4 | 209 => a5 | 210 => a6 | 8 => a7 | 0 => a8 | 1 => a9 | 2 => a10 | 15 => a11 | 16 => a12 | 158 => a13 | 211 => a14 | 212 => a15 | 213 => a16 | _ => 0, fun n => match n with | 1 => x_BadSetting | _ => 0⟩ mg where
  b_list := PySem.W.mg_none_of X G z_list
  b_len := PySem.W.mg_none_of X G z_len
  b_int := PySem.W.mg_none_of X G z_int
  b_str := PySem.W.mg_none_of X G z_str
  b_range := PySem.W.mg_none_of X G z_range
  b_tuple := PySem.W.mg_none_of X G z_tuple
  b_sorted := PySem.W.mg_none_of X G z_sorted
  b_sum := PySem.W.mg_none_of X G z_sum
  b_isinstance := PySem.W.mg_none_of X G z_isinstance
  b_bool := PySem.W.mg_none_of X G z_bool
  b_zip := PySem.W.mg_none_of X G z_zip
  b_set := PySem.W.mg_none_of X G z_set
  b_min := PySem.W.mg_none_of X G z_min
  g_MOST_CARDS := ⟨_, PySem.W.mg_of X G y_MOST_CARDS⟩
  e_BadSetting := ⟨xe_BadSetting, PySem.W.mg_of X G xn_BadSetting, xk_BadSetting, xs_BadSetting, xt_BadSetting⟩
  g_law_source := PySem.W.mg_of X G n0
  F_law_source := ⟨_, fun_mk (st := s_law_source) l0 c0 k0⟩
  g_law_pick := PySem.W.mg_of X G n1
  F_law_pick := ⟨_, fun_mk (st := s_law_pick) l1 c1 k1⟩
  g_law_any_setting := PySem.W.mg_of X G n2
  F_law_any_setting := ⟨_, fun_mk (st := s_law_any_setting) l2 c2 k2⟩
  g_law_bad_row := PySem.W.mg_of X G n3
  F_law_bad_row := ⟨_, fun_mk (st := s_law_bad_row) l3 c3 k3⟩
  g_law_spoilt := PySem.W.mg_of X G n4
  F_law_spoilt := ⟨_, fun_mk (st := s_law_spoilt) l4 c4 k4⟩
  g_law_rows_of := PySem.W.mg_of X G n5
  F_law_rows_of := ⟨_, fun_mk (st := s_law_rows_of) l5 c5 k5⟩
  g_law_deal := PySem.W.mg_of X G n6
  F_law_deal := ⟨_, fun_mk (st := s_law_deal) l6 c6 k6⟩
  g_law_same := PySem.W.mg_of X G n7
  F_law_same := ⟨_, fun_mk (st := s_law_same) l7 c7 k7⟩
  g_is_integer := PySem.W.mg_of X G n8
  F_is_integer := ⟨_, fun_mk (st := s_is_integer) l8 c8 k8⟩
  g_is_setting := PySem.W.mg_of X G n9
  F_is_setting := ⟨_, fun_mk (st := s_is_setting) l9 c9 k9⟩
  g_check_setting := PySem.W.mg_of X G n10
  F_check_setting := ⟨_, fun_mk (st := s_check_setting) l10 c10 k10⟩
  g_is_row := PySem.W.mg_of X G n11
  F_is_row := ⟨_, fun_mk (st := s_is_row) l11 c11 k11⟩
  g_is_hand := PySem.W.mg_of X G n12
  F_is_hand := ⟨_, fun_mk (st := s_is_hand) l12 c12 k12⟩
  g_law_is_row := PySem.W.mg_of X G n13
  F_law_is_row := ⟨_, fun_mk (st := s_law_is_row) l13 c13 k13⟩
  g_is_deal := PySem.W.mg_of X G n14
  F_is_deal := ⟨_, fun_mk (st := s_is_deal) l14 c14 k14⟩
  g_law_is_deal_v2 := PySem.W.mg_of X G n15
  F_law_is_deal_v2 := ⟨_, fun_mk (st := s_law_is_deal_v2) l15 c15 k15⟩
  g_law_v42 := PySem.W.mg_of X G n16
  F_law_v42 := ⟨_, fun_mk (st := s_law_v42) l16 c16 k16⟩
theorem fin {P : Program} {w : World} {K : PySem.W.Frag} {h : Heap} {mg : Str → Option Value} {fa : Addr} (X : K.In h) (G : h.Ns mainGlobals mg) (hfa : mg "law" = some (.ref fa))
    {a0 : Addr} {od0 an0 : Option Addr} {sl0 : Array (Option Value)} {oc0 dc0 pm0 cd0 ct0 : Value} {kV0 : Value} {a1 : Addr} {od1 an1 : Option Addr} {sl1 : Array (Option Value)} {oc1 dc1 pm1 cd1 ct1 : Value} {kV1 : Value} {a2 : Addr} {od2 an2 : Option Addr} {sl2 : Array (Option Value)} {oc2 dc2 pm2 cd2 ct2 : Value} {kV2 : Value} {a3 : Addr} {od3 an3 : Option Addr} {sl3 : Array (Option Value)} {oc3 dc3 pm3 cd3 ct3 : Value} {kV3 : Value} {a4 : Addr} {od4 an4 : Option Addr} {sl4 : Array (Option Value)} {oc4 dc4 pm4 cd4 ct4 : Value} {kV4 : Value} {a5 : Addr} {od5 an5 : Option Addr} {sl5 : Array (Option Value)} {oc5 dc5 pm5 cd5 ct5 : Value} {kV5 : Value} {a6 : Addr} {od6 an6 : Option Addr} {sl6 : Array (Option Value)} {oc6 dc6 pm6 cd6 ct6 : Value} {kV6 : Value} {a7 : Addr} {od7 an7 : Option Addr} {sl7 : Array (Option Value)} {oc7 dc7 pm7 cd7 ct7 : Value} {kV7 : Value} {a8 : Addr} {od8 an8 : Option Addr} {sl8 : Array (Option Value)} {oc8 dc8 pm8 cd8 ct8 : Value} {kV8 : Value} {a9 : Addr} {od9 an9 : Option Addr} {sl9 : Array (Option Value)} {oc9 dc9 pm9 cd9 ct9 : Value} {kV9 : Value} {a10 : Addr} {od10 an10 : Option Addr} {sl10 : Array (Option Value)} {oc10 dc10 pm10 cd10 ct10 : Value} {kV10 : Value} {a11 : Addr} {od11 an11 : Option Addr} {sl11 : Array (Option Value)} {oc11 dc11 pm11 cd11 ct11 : Value} {kV11 : Value} {a12 : Addr} {od12 an12 : Option Addr} {sl12 : Array (Option Value)} {oc12 dc12 pm12 cd12 ct12 : Value} {kV12 : Value} {a13 : Addr} {od13 an13 : Option Addr} {sl13 : Array (Option Value)} {oc13 dc13 pm13 cd13 ct13 : Value} {kV13 : Value} {a14 : Addr} {od14 an14 : Option Addr} {sl14 : Array (Option Value)} {oc14 dc14 pm14 cd14 ct14 : Value} {kV14 : Value} {a15 : Addr} {od15 an15 : Option Addr} {sl15 : Array (Option Value)} {oc15 dc15 pm15 cd15 ct15 : Value} {kV15 : Value} {a16 : Addr} {od16 an16 : Option Addr} {sl16 : Array (Option Value)} {oc16 dc16 pm16 cd16 ct16 : Value} {kV16 : Value} {t_MOST_CARDS : Tok} {x_BadSetting : Addr}
    (n0 : PySem.W.nsIn K mainGlobals "_law_source" = some (some (.ref a0))) (l0 : K.lookup a0 = some ⟨oc0, od0, .func (PySem.W.fnOf "_law_source" "_law_source" (defArgs s_law_source) (defBody s_law_source) (defScope s_law_source) .none kV0 dc0 pm0 an0 cd0 ct0), sl0⟩) (c0 : PySem.W.codeIn K cd0 "_law_source" = true) (k0 : PySem.W.keepIn K (.ref a0) = true)
    (n1 : PySem.W.nsIn K mainGlobals "_law_pick" = some (some (.ref a1))) (l1 : K.lookup a1 = some ⟨oc1, od1, .func (PySem.W.fnOf "_law_pick" "_law_pick" (defArgs s_law_pick) (defBody s_law_pick) (defScope s_law_pick) .none kV1 dc1 pm1 an1 cd1 ct1), sl1⟩) (c1 : PySem.W.codeIn K cd1 "_law_pick" = true) (k1 : PySem.W.keepIn K (.ref a1) = true)
    (n2 : PySem.W.nsIn K mainGlobals "_law_any_setting" = some (some (.ref a2))) (l2 : K.lookup a2 = some ⟨oc2, od2, .func (PySem.W.fnOf "_law_any_setting" "_law_any_setting" (defArgs s_law_any_setting) (defBody s_law_any_setting) (defScope s_law_any_setting) .none kV2 dc2 pm2 an2 cd2 ct2), sl2⟩) (c2 : PySem.W.codeIn K cd2 "_law_any_setting" = true) (k2 : PySem.W.keepIn K (.ref a2) = true)
    (n3 : PySem.W.nsIn K mainGlobals "_law_bad_row" = some (some (.ref a3))) (l3 : K.lookup a3 = some ⟨oc3, od3, .func (PySem.W.fnOf "_law_bad_row" "_law_bad_row" (defArgs s_law_bad_row) (defBody s_law_bad_row) (defScope s_law_bad_row) .none kV3 dc3 pm3 an3 cd3 ct3), sl3⟩) (c3 : PySem.W.codeIn K cd3 "_law_bad_row" = true) (k3 : PySem.W.keepIn K (.ref a3) = true)
    (n4 : PySem.W.nsIn K mainGlobals "_law_spoilt" = some (some (.ref a4))) (l4 : K.lookup a4 = some ⟨oc4, od4, .func (PySem.W.fnOf "_law_spoilt" "_law_spoilt" (defArgs s_law_spoilt) (defBody s_law_spoilt) (defScope s_law_spoilt) .none kV4 dc4 pm4 an4 cd4 ct4), sl4⟩) (c4 : PySem.W.codeIn K cd4 "_law_spoilt" = true) (k4 : PySem.W.keepIn K (.ref a4) = true)
    (n5 : PySem.W.nsIn K mainGlobals "_law_rows_of" = some (some (.ref a5))) (l5 : K.lookup a5 = some ⟨oc5, od5, .func (PySem.W.fnOf "_law_rows_of" "_law_rows_of" (defArgs s_law_rows_of) (defBody s_law_rows_of) (defScope s_law_rows_of) .none kV5 dc5 pm5 an5 cd5 ct5), sl5⟩) (c5 : PySem.W.codeIn K cd5 "_law_rows_of" = true) (k5 : PySem.W.keepIn K (.ref a5) = true)
    (n6 : PySem.W.nsIn K mainGlobals "_law_deal" = some (some (.ref a6))) (l6 : K.lookup a6 = some ⟨oc6, od6, .func (PySem.W.fnOf "_law_deal" "_law_deal" (defArgs s_law_deal) (defBody s_law_deal) (defScope s_law_deal) .none kV6 dc6 pm6 an6 cd6 ct6), sl6⟩) (c6 : PySem.W.codeIn K cd6 "_law_deal" = true) (k6 : PySem.W.keepIn K (.ref a6) = true)
    (n7 : PySem.W.nsIn K mainGlobals "_law_same" = some (some (.ref a7))) (l7 : K.lookup a7 = some ⟨oc7, od7, .func (PySem.W.fnOf "_law_same" "_law_same" (defArgs s_law_same) (defBody s_law_same) (defScope s_law_same) .none kV7 dc7 pm7 an7 cd7 ct7), sl7⟩) (c7 : PySem.W.codeIn K cd7 "_law_same" = true) (k7 : PySem.W.keepIn K (.ref a7) = true)
    (n8 : PySem.W.nsIn K mainGlobals "is_integer" = some (some (.ref a8))) (l8 : K.lookup a8 = some ⟨oc8, od8, .func (PySem.W.fnOf "is_integer" "is_integer" (defArgs s_is_integer) (defBody s_is_integer) (defScope s_is_integer) .none kV8 dc8 pm8 an8 cd8 ct8), sl8⟩) (c8 : PySem.W.codeIn K cd8 "is_integer" = true) (k8 : PySem.W.keepIn K (.ref a8) = true)
    (n9 : PySem.W.nsIn K mainGlobals "is_setting" = some (some (.ref a9))) (l9 : K.lookup a9 = some ⟨oc9, od9, .func (PySem.W.fnOf "is_setting" "is_setting" (defArgs s_is_setting) (defBody s_is_setting) (defScope s_is_setting) .none kV9 dc9 pm9 an9 cd9 ct9), sl9⟩) (c9 : PySem.W.codeIn K cd9 "is_setting" = true) (k9 : PySem.W.keepIn K (.ref a9) = true)
    (n10 : PySem.W.nsIn K mainGlobals "check_setting" = some (some (.ref a10))) (l10 : K.lookup a10 = some ⟨oc10, od10, .func (PySem.W.fnOf "check_setting" "check_setting" (defArgs s_check_setting) (defBody s_check_setting) (defScope s_check_setting) .none kV10 dc10 pm10 an10 cd10 ct10), sl10⟩) (c10 : PySem.W.codeIn K cd10 "check_setting" = true) (k10 : PySem.W.keepIn K (.ref a10) = true)
    (n11 : PySem.W.nsIn K mainGlobals "is_row" = some (some (.ref a11))) (l11 : K.lookup a11 = some ⟨oc11, od11, .func (PySem.W.fnOf "is_row" "is_row" (defArgs s_is_row) (defBody s_is_row) (defScope s_is_row) .none kV11 dc11 pm11 an11 cd11 ct11), sl11⟩) (c11 : PySem.W.codeIn K cd11 "is_row" = true) (k11 : PySem.W.keepIn K (.ref a11) = true)
    (n12 : PySem.W.nsIn K mainGlobals "is_hand" = some (some (.ref a12))) (l12 : K.lookup a12 = some ⟨oc12, od12, .func (PySem.W.fnOf "is_hand" "is_hand" (defArgs s_is_hand) (defBody s_is_hand) (defScope s_is_hand) .none kV12 dc12 pm12 an12 cd12 ct12), sl12⟩) (c12 : PySem.W.codeIn K cd12 "is_hand" = true) (k12 : PySem.W.keepIn K (.ref a12) = true)
    (n13 : PySem.W.nsIn K mainGlobals "_law_is_row" = some (some (.ref a13))) (l13 : K.lookup a13 = some ⟨oc13, od13, .func (PySem.W.fnOf "_law_is_row" "_law_is_row" (defArgs s_law_is_row) (defBody s_law_is_row) (defScope s_law_is_row) .none kV13 dc13 pm13 an13 cd13 ct13), sl13⟩) (c13 : PySem.W.codeIn K cd13 "_law_is_row" = true) (k13 : PySem.W.keepIn K (.ref a13) = true)
    (n14 : PySem.W.nsIn K mainGlobals "is_deal" = some (some (.ref a14))) (l14 : K.lookup a14 = some ⟨oc14, od14, .func (PySem.W.fnOf "is_deal" "is_deal" (defArgs s_is_deal) (defBody s_is_deal) (defScope s_is_deal) .none kV14 dc14 pm14 an14 cd14 ct14), sl14⟩) (c14 : PySem.W.codeIn K cd14 "is_deal" = true) (k14 : PySem.W.keepIn K (.ref a14) = true)
    (n15 : PySem.W.nsIn K mainGlobals "_law_is_deal" = some (some (.ref a15))) (l15 : K.lookup a15 = some ⟨oc15, od15, .func (PySem.W.fnOf "_law_is_deal" "_law_is_deal" (defArgs s_law_is_deal_v2) (defBody s_law_is_deal_v2) (defScope s_law_is_deal_v2) .none kV15 dc15 pm15 an15 cd15 ct15), sl15⟩) (c15 : PySem.W.codeIn K cd15 "_law_is_deal" = true) (k15 : PySem.W.keepIn K (.ref a15) = true)
    (n16 : PySem.W.nsIn K mainGlobals "law" = some (some (.ref a16))) (l16 : K.lookup a16 = some ⟨oc16, od16, .func (PySem.W.fnOf "law" "law" (defArgs s_law_v42) (defBody s_law_v42) (defScope s_law_v42) .none kV16 dc16 pm16 an16 cd16 ct16), sl16⟩) (c16 : PySem.W.codeIn K cd16 "law" = true) (k16 : PySem.W.keepIn K (.ref a16) = true)
    (z_list : PySem.W.nsIn K mainGlobals "list" = some none)
    (z_len : PySem.W.nsIn K mainGlobals "len" = some none)
    (z_int : PySem.W.nsIn K mainGlobals "int" = some none)
    (z_str : PySem.W.nsIn K mainGlobals "str" = some none)
    (z_range : PySem.W.nsIn K mainGlobals "range" = some none)
    (z_tuple : PySem.W.nsIn K mainGlobals "tuple" = some none)
    (z_sorted : PySem.W.nsIn K mainGlobals "sorted" = some none)
    (z_sum : PySem.W.nsIn K mainGlobals "sum" = some none)
    (z_isinstance : PySem.W.nsIn K mainGlobals "isinstance" = some none)
    (z_bool : PySem.W.nsIn K mainGlobals "bool" = some none)
    (z_zip : PySem.W.nsIn K mainGlobals "zip" = some none)
    (z_set : PySem.W.nsIn K mainGlobals "set" = some none)
    (z_min : PySem.W.nsIn K mainGlobals "min" = some none)
    (y_MOST_CARDS : PySem.W.nsIn K mainGlobals "MOST_CARDS" = some (some (.int 13 t_MOST_CARDS)))
    (xn_BadSetting : PySem.W.nsIn K mainGlobals "BadSetting" = some (some (.ref x_BadSetting))) (xe_BadSetting : PySem.W.excIn K x_BadSetting [.type "ValueError", .type "Exception", .type "BaseException", .type "object"] "ValueError.__new__" = true) (xk_BadSetting : PySem.W.keepIn K (.ref x_BadSetting) = true) (xs_BadSetting : PySem.W.subIn K (.ref x_BadSetting) (.type "BaseException") = some true) (xt_BadSetting : PySem.W.typeIn K (.ref x_BadSetting) = some (.type "type")) : ∃ fd : FuncData, (∀ (s : Shared) (v : Value), BindsTo s fd ⟨[v], []⟩ [("script", v)]) ∧ ∀ base, K.In base → base.Ns mainGlobals mg → FnOk P w K mg base (L2.CX P w) 60 fa fd ["script"] (spLaw K) := by
  have T : Top ⟨K, fun n => match n with | 6 => a0 | 7 => a1 | 9 => a2 | 148 => a3 | 208 => a4 | 209 => a5 | 210 => a6 | 8 => a7 | 0 => a8 | 1 => a9 | 2 => a10 | 15 => a11 | 16 => a12 | 158 => a13 | 211 => a14 | 212 => a15 | 213 => a16 | _ => 0, fun n => match n with | 1 => x_BadSetting | _ => 0⟩ mg := top_mk X G n0 l0 c0 k0 n1 l1 c1 k1 n2 l2 c2 k2 n3 l3 c3 k3 n4 l4 c4 k4 n5 l5 c5 k5 n6 l6 c6 k6 n7 l7 c7 k7 n8 l8 c8 k8 n9 l9 c9 k9 n10 l10 c10 k10 n11 l11 c11 k11 n12 l12 c12 k12 n13 l13 c13 k13 n14 l14 c14 k14 n15 l15 c15 k15 n16 l16 c16 k16 z_list z_len z_int z_str z_range z_tuple z_sorted z_sum z_isinstance z_bool z_zip z_set z_min y_MOST_CARDS xn_BadSetting xe_BadSetting xk_BadSetting xs_BadSetting xt_BadSetting
  obtain ⟨fd, h1, h2⟩ := law_fn' (P := P) (w := w) T hfa
  exact ⟨fd, h1, fun base _ _ => h2 base⟩
end OH
open PySem PySem.W PyProof.Rows
set_option maxRecDepth 100000 in
set_option maxHeartbeats 0 in
theorem PySem.Challenge.cw_openhands_k01_hands_and_deals_holds : PySem.Challenge.rw_openhands_k01_hands_and_deals.Holds := by
  w_on; o_law; k_head; (case hw => w_witness2)
  k_fill
  refine L2.walk_of (l := PySem.Challenge.rw_openhands_k01_hands_and_deals) (n := 63) (k := 60) (x := "script") (CX := fun w => L2.CX PySem.Challenge.pw_openhands_k01_hands_and_deals w) (sp := fun w => OH.spLaw _) rfl (by decide) rfl ⟨rfl, by decide, by decide⟩ (fun w h Y => PySem.W.kIn_of Y) ?F (fun _ H a ns hl hO hS => OH.spLaw_of hl hO hS) (fun _ _ _ _ _ h => OH.cx_none h)
  case F =>
    intro w mg fa h KX G hmg
    refine' OH.fin KX G hmg ?n0 ?l0 ?c0 ?k0 ?n1 ?l1 ?c1 ?k1 ?n2 ?l2 ?c2 ?k2 ?n3 ?l3 ?c3 ?k3 ?n4 ?l4 ?c4 ?k4 ?n5 ?l5 ?c5 ?k5 ?n6 ?l6 ?c6 ?k6 ?n7 ?l7 ?c7 ?k7 ?n8 ?l8 ?c8 ?k8 ?n9 ?l9 ?c9 ?k9 ?n10 ?l10 ?c10 ?k10 ?n11 ?l11 ?c11 ?k11 ?n12 ?l12 ?c12 ?k12 ?n13 ?l13 ?c13 ?k13 ?n14 ?l14 ?c14 ?k14 ?n15 ?l15 ?c15 ?k15 ?n16 ?l16 ?c16 ?k16 ?z_list ?z_len ?z_int ?z_str ?z_range ?z_tuple ?z_sorted ?z_sum ?z_isinstance ?z_bool ?z_zip ?z_set ?z_min ?y_MOST_CARDS ?xn_BadSetting ?xe_BadSetting ?xk_BadSetting ?xs_BadSetting ?xt_BadSetting
    (case n0 => k_is); (case l0 => k_is); (case c0 => k_is); (case k0 => k_is); (case n1 => k_is); (case l1 => k_is); (case c1 => k_is); (case k1 => k_is); (case n2 => k_is); (case l2 => k_is); (case c2 => k_is); (case k2 => k_is); (case n3 => k_is); (case l3 => k_is); (case c3 => k_is); (case k3 => k_is); (case n4 => k_is); (case l4 => k_is); (case c4 => k_is); (case k4 => k_is); (case n5 => k_is); (case l5 => k_is); (case c5 => k_is); (case k5 => k_is); (case n6 => k_is); (case l6 => k_is); (case c6 => k_is); (case k6 => k_is); (case n7 => k_is); (case l7 => k_is); (case c7 => k_is); (case k7 => k_is); (case n8 => k_is); (case l8 => k_is); (case c8 => k_is); (case k8 => k_is); (case n9 => k_is); (case l9 => k_is); (case c9 => k_is); (case k9 => k_is); (case n10 => k_is); (case l10 => k_is); (case c10 => k_is); (case k10 => k_is); (case n11 => k_is); (case l11 => k_is); (case c11 => k_is); (case k11 => k_is); (case n12 => k_is); (case l12 => k_is); (case c12 => k_is); (case k12 => k_is); (case n13 => k_is); (case l13 => k_is); (case c13 => k_is); (case k13 => k_is); (case n14 => k_is); (case l14 => k_is); (case c14 => k_is); (case k14 => k_is); (case n15 => k_is); (case l15 => k_is); (case c15 => k_is); (case k15 => k_is); (case n16 => k_is); (case l16 => k_is); (case c16 => k_is); (case k16 => k_is); (case z_list => k_is); (case z_len => k_is); (case z_int => k_is); (case z_str => k_is); (case z_range => k_is); (case z_tuple => k_is); (case z_sorted => k_is); (case z_sum => k_is); (case z_isinstance => k_is); (case z_bool => k_is); (case z_zip => k_is); (case z_set => k_is); (case z_min => k_is); (case y_MOST_CARDS => k_is); (case xn_BadSetting => k_is); (case xe_BadSetting => k_exc); (case xk_BadSetting => k_is); (case xs_BadSetting => k_is); (case xt_BadSetting => k_is)
