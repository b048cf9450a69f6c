import PyProof.Rows.All
import Wide.All
import OpenK.AllK
import Wide.FinOn
import KE.KStateDown
import Lean
import HandS.ForMost
import KE.GoesEnum
import HandS.Wide
import HandS.TupAny
import HandS.TupMul
import HandS.SortInts
import HandS.IsInst
import HandS.Conv
import HandS.Style
import HandS.Deep
import HandS.Comp
import HandS.Defaults
import HandS.More
import HandS.WordsExc
import HandS.Head0
import HandS.Head1
import HandS.Head2
import HandS.HeadEnd
import HandS.HeadHook1
import HandS.HeadHook2
import PySem.Challenge.RW_piecesplaced_k12_whole_roots_and_worths
set_option Elab.async false
set_option linter.all false
set_option maxRecDepth 100000
set_option autoImplicit false
set_option maxHeartbeats 0
/-! A pure reading of the programs' Python: values as data, lists owned by one name, a store for what is shared. -/
namespace Mp

inductive D where
  | non
  | bl (b : Bool)
  | int (i : Int)
  | str (s : List Nat)
  | tup (ds : List D)
  | lst (ds : List D)
  | dct (ks vs : List D)
  | ref (j : Nat)
  | scr (ns : List Int)

mutual
def D.beq : D → D → Bool
  | .non, .non => true
  | .bl a, .bl b => a == b
  | .int a, .int b => a == b
  | .str a, .str b => a == b
  | .tup a, .tup b => D.beqs a b
  | .lst a, .lst b => D.beqs a b
  | .dct a b, .dct c d => D.beqs a c && D.beqs b d
  | .ref a, .ref b => a == b
  | .scr a, .scr b => a == b
  | _, _ => false
def D.beqs : List D → List D → Bool
  | [], [] => true
  | a :: r, b :: q => D.beq a b && D.beqs r q
  | _, _ => false
end
mutual
theorem D.eq_of_beq : ∀ a b : D, D.beq a b = true → a = b
  | .non, b, h => by cases b <;> simp_all [D.beq]
  | .bl a, b, h => by cases b <;> simp_all [D.beq]
  | .int a, b, h => by cases b <;> simp_all [D.beq]
  | .str a, b, h => by cases b <;> simp_all [D.beq]
  | .tup a, b, h => by
    cases b <;> simp [D.beq] at h
    rw [D.eq_of_beqs _ _ h]
  | .lst a, b, h => by
    cases b <;> simp [D.beq] at h
    rw [D.eq_of_beqs _ _ h]
  | .dct a b, c, h => by
    cases c <;> simp [D.beq] at h
    rw [D.eq_of_beqs _ _ h.1, D.eq_of_beqs _ _ h.2]
  | .ref a, b, h => by cases b <;> simp_all [D.beq]
  | .scr a, b, h => by cases b <;> simp_all [D.beq]
theorem D.eq_of_beqs : ∀ a b : List D, D.beqs a b = true → a = b
  | [], b, h => by cases b <;> simp_all [D.beqs]
  | a :: r, b, h => by
    cases b with
    | nil => simp [D.beqs] at h
    | cons b q =>
      simp [D.beqs] at h
      rw [D.eq_of_beq _ _ h.1, D.eq_of_beqs _ _ h.2]
end
mutual
theorem D.beq_self : ∀ a : D, D.beq a a = true
  | .non => rfl
  | .bl a => by simp [D.beq]
  | .int a => by simp [D.beq]
  | .str a => by simp [D.beq]
  | .tup a => by simp [D.beq, D.beqs_self a]
  | .lst a => by simp [D.beq, D.beqs_self a]
  | .dct a b => by simp [D.beq, D.beqs_self a, D.beqs_self b]
  | .ref a => by simp [D.beq]
  | .scr a => by simp [D.beq]
theorem D.beqs_self : ∀ a : List D, D.beqs a a = true
  | [] => rfl
  | a :: r => by simp [D.beqs, D.beq_self a, D.beqs_self r]
end
instance : DecidableEq D := fun a b =>
  match h : D.beq a b with
  | true => .isTrue (D.eq_of_beq a b h)
  | false => .isFalse fun e => by rw [e, D.beq_self] at h; cases h

/-- a slot: plain data, or a list (a dict) that this name alone holds -/
inductive Sl where
  | pl (d : D)
  | own (d : D)
  deriving DecidableEq
/-- an expression's value: data; a new list; the list that a name holds -/
inductive RV where
  | pl (d : D)
  | fr (d : D)
  | bor (i : Nat)

inductive Obj where
  | lst (ds : List D)
  | dct (ks vs : List D)
  | ins (cls : Nat) (fs : List (String × D))
  | gone

abbrev Env := List (Option Sl)
abbrev Store := List Obj
structure Exc where
  cls : Nat
  arg : Option D

inductive Rs (α : Type) where
  | ok (a : α)
  | ex (x : Exc) (S : Store)
  | no
@[inline] def Rs.bind {α β : Type} (a : Rs α) (f : α → Rs β) : Rs β :=
  match a with
  | .ok a => f a
  | .ex x S => .ex x S
  | .no => .no
instance : Monad Rs where
  pure := .ok
  bind := Rs.bind
@[simp] theorem ok_bind {α β : Type} (a : α) (f : α → Rs β) : (Rs.ok a >>= f) = f a := id rfl
@[simp] theorem no_bind {α β : Type} (f : α → Rs β) : ((Rs.no : Rs α) >>= f) = .no := id rfl
@[simp] theorem ex_bind {α β : Type} (x : Exc) (S : Store) (f : α → Rs β) : ((Rs.ex x S : Rs α) >>= f) = .ex x S := id rfl
@[simp] theorem pure_ok {α : Type} (a : α) : (pure a : Rs α) = .ok a := id rfl
theorem bind_ok {α β : Type} {a : Rs α} {f : α → Rs β} {b : β} (h : (a >>= f) = .ok b) : ∃ x, a = .ok x ∧ f x = .ok b := by
  cases a with
  | ok x => exact ⟨x, rfl, h⟩
  | ex x S => cases h
  | no => cases h

structure CallI where
  call : Nat → List D → Store → Rs (Bool × D × Store)
  wf : Nat

abbrev Den := Env → Store → Rs (RV × Env × Store)
abbrev ADen := Env → Store → Rs (List D × Env × Store)
/-- a test -/
abbrev CDen := Env → Store → Rs (Bool × Env × Store)
/-- what is walked -/
abbrev IDen := Env → Store → Rs (List D × Env × Store)
/-- a target -/
abbrev TDen := D → Env → Rs Env
inductive Out where
  | nx (ε : Env) (S : Store)
  | rt (f : Bool) (d : D) (S : Store)
  | bk (ε : Env) (S : Store)
  | ct (ε : Env) (S : Store)
abbrev SDen := Env → Store → Rs Out

def slot (ε : Env) (i : Nat) : Option Sl := (ε[i]?).getD none
/-- what a value holds -/
def RV.get (r : RV) (ε : Env) : Rs D :=
  match r with
  | .pl d => .ok d
  | .fr d => .ok d
  | .bor i => match slot ε i with
    | some (.own d) => .ok d
    | some (.pl d) => .ok d
    | none => .no
/-- as data: a name's own list is held by others from then on -/
def RV.fix (r : RV) (ε : Env) : Rs (D × Env) :=
  match r with
  | .pl d => .ok (d, ε)
  | .fr d => .ok (d, ε)
  | .bor i => match slot ε i with
    | some (.own d) => .ok (d, ε.set i (some (.pl d)))
    | some (.pl d) => .ok (d, ε)
    | none => .no

/-! ### expressions -/
def eVar (i : Nat) : Den := fun ε S => match slot ε i with
  | some (.pl d) => .ok (.pl d, ε, S)
  | some (.own _) => .ok (.bor i, ε, S)
  | none => .no
def eC (d : D) : Den := fun ε S => .ok (.pl d, ε, S)
def eUn (f : D → Store → Rs RV) (a : Den) : Den := fun ε S => do
  let (r, ε1, S1) ← a ε S
  let x ← r.get ε1
  let v ← f x S1
  .ok (v, ε1, S1)
def eBin (f : D → D → Store → Rs RV) (a b : Den) : Den := fun ε S => do
  let (r1, ε1, S1) ← a ε S
  let (r2, ε2, S2) ← b ε1 S1
  let x ← r1.get ε2
  let y ← r2.get ε2
  let v ← f x y S2
  .ok (v, ε2, S2)
def aNil : ADen := fun ε S => .ok ([], ε, S)
def aCons (a : Den) (as : ADen) : ADen := fun ε S => do
  let (r, ε1, S1) ← a ε S
  let (d, ε2) ← r.fix ε1
  let (ds, ε3, S3) ← as ε2 S1
  .ok (d :: ds, ε3, S3)
def eTup (as : ADen) : Den := fun ε S => do
  let (ds, ε1, S1) ← as ε S
  if ds.length ≤ 16777216 then .ok (.pl (.tup ds), ε1, S1) else .no
def eLst (as : ADen) : Den := fun ε S => do
  let (ds, ε1, S1) ← as ε S
  if ds.length ≤ 16777216 then .ok (.fr (.lst ds), ε1, S1) else .no
/-- a new list that is shared from the start -/
def eNew (a : Den) : Den := fun ε S => do
  let (r, ε1, S1) ← a ε S
  match r with
  | .fr (.lst ds) => .ok (.pl (.ref S1.length), ε1, S1 ++ [.lst ds])
  | .fr (.dct ks vs) => .ok (.pl (.ref S1.length), ε1, S1 ++ [.dct ks vs])
  | _ => .no
def eCall (F : CallI) (f : Nat) (as : ADen) : Den := fun ε S => do
  let (ds, ε1, S1) ← as ε S
  let (b, d, S2) ← F.call f ds S1
  .ok (if b then .fr d else .pl d, ε1, S2)
/-! ### tests -/
def cVal (a : Den) : CDen := fun ε S => do
  let (r, ε1, S1) ← a ε S
  match ← r.get ε1 with
  | .bl b => .ok (b, ε1, S1)
  | _ => .no
def cAnd (a b : CDen) : CDen := fun ε S => do
  let (x, ε1, S1) ← a ε S
  if x then b ε1 S1 else .ok (false, ε1, S1)
def cOr (a b : CDen) : CDen := fun ε S => do
  let (x, ε1, S1) ← a ε S
  if x then .ok (true, ε1, S1) else b ε1 S1
def cNot (a : CDen) : CDen := fun ε S => do
  let (x, ε1, S1) ← a ε S
  .ok (!x, ε1, S1)
def eAnd (a b : Den) : Den := fun ε S => do
  let (r, ε1, S1) ← a ε S
  match ← r.get ε1 with
  | .bl x => if x then b ε1 S1 else .ok (.pl (.bl false), ε1, S1)
  | _ => .no
def eOr (a b : Den) : Den := fun ε S => do
  let (r, ε1, S1) ← a ε S
  match ← r.get ε1 with
  | .bl x => if x then .ok (.pl (.bl true), ε1, S1) else b ε1 S1
  | _ => .no
def eNot (a : Den) : Den := eUn (fun x _ => match x with | .bl b => .ok (.pl (.bl !b)) | _ => .no) a
def eIf (c : CDen) (a b : Den) : Den := fun ε S => do
  let (x, ε1, S1) ← c ε S
  if x then a ε1 S1 else b ε1 S1
/-- a < b < c -/
def eChain (f g : D → D → Store → Rs RV) (a b c : Den) : Den := fun ε S => do
  let (r1, ε1, S1) ← a ε S
  let (r2, ε2, S2) ← b ε1 S1
  let x ← r1.get ε2
  let y ← r2.get ε2
  match ← f x y S2 with
  | .pl (.bl true) => do
      let (r3, ε3, S3) ← c ε2 S2
      let y' ← r2.get ε3
      let z ← r3.get ε3
      let v ← g y' z S3
      .ok (v, ε3, S3)
  | .pl (.bl false) => .ok (.pl (.bl false), ε2, S2)
  | _ => .no

/-! ### what is walked, targets -/
def itemsOf (d : D) : Rs (List D) := match d with
  | .tup ds => .ok ds
  | .lst ds => .ok ds
  | _ => .no
def intsFrom (lo : Int) (n : Nat) : List D := (List.range n).map fun (i : Nat) => .int (lo + (i : Int))
def tName (i : Nat) : TDen := fun d ε => .ok (ε.set i (some (.pl d)))
abbrev TsDen := List D → Env → Rs Env
def tsNil : TsDen := fun ds ε => match ds with | [] => .ok ε | _ => .no
def tsCons (t : TDen) (ts : TsDen) : TsDen := fun ds ε => match ds with
  | d :: r => do
    let ε1 ← t d ε
    ts r ε1
  | [] => .no
def tTup (n : Nat) (ts : TsDen) : TDen := fun d ε => match d with
  | .tup ds => if ds.length = n then ts ds ε else .no
  | _ => .no
def wipe (ε : Env) (vs : List Nat) : Env := vs.foldr (fun v e => e.set v none) ε
/-- a comprehension's turns -/
def compGo (vs : List Nat) (t : TDen) (c : CDen) (e : Den) (ε0 : Env) : List D → Store → List D → Rs (List D × Store)
  | [], S, acc => .ok (acc, S)
  | x :: xs, S, acc => do
    let ε1 ← t x ε0
    let (b, ε2, S2) ← c ε1 S
    if wipe ε1 vs = ε0 ∧ ε2 = ε1 then
      if b then do
        let (r, ε3, S3) ← e ε1 S2
        match r with
        | .bor _ => .no
        | .pl d => if ε3 = ε1 ∧ acc.length < 16777216 then compGo vs t c e ε0 xs S3 (acc ++ [d]) else .no
        | .fr d => if ε3 = ε1 ∧ acc.length < 16777216 then compGo vs t c e ε0 xs S3 (acc ++ [d]) else .no
      else compGo vs t c e ε0 xs S2 acc
    else .no
def eComp (vs : List Nat) (it : IDen) (t : TDen) (c : CDen) (e : Den) : Den := fun ε S => do
  let (xs, ε1, S1) ← it ε S
  let (ds, S2) ← compGo vs t c e (wipe ε1 vs) xs S1 []
  .ok (.fr (.lst ds), ε1, S2)
def cYes : CDen := fun ε S => .ok (true, ε, S)

/-! ### statements -/
def sNil : SDen := fun ε S => .ok (.nx ε S)
def sSeq (a b : SDen) : SDen := fun ε S => do
  match ← a ε S with
  | .nx ε1 S1 => b ε1 S1
  | o => .ok o
def sPass : SDen := fun ε S => .ok (.nx ε S)
def sBreak : SDen := fun ε S => .ok (.bk ε S)
def sCont : SDen := fun ε S => .ok (.ct ε S)
def sDrop (a : Den) : SDen := fun ε S => do
  let (_, ε1, S1) ← a ε S
  .ok (.nx ε1 S1)
def sRet (a : Den) : SDen := fun ε S => do
  let (r, ε1, S1) ← a ε S
  match r with
  | .pl d => .ok (.rt false d S1)
  | .fr d => .ok (.rt true d S1)
  | .bor i => match slot ε1 i with
    | some (.own d) => .ok (.rt true d S1)
    | some (.pl d) => .ok (.rt false d S1)
    | none => .no
def sRetN : SDen := fun _ S => .ok (.rt false .non S)
def sIf (c : CDen) (a b : SDen) : SDen := fun ε S => do
  let (x, ε1, S1) ← c ε S
  if x then a ε1 S1 else b ε1 S1
/-- name = value, the name's list never changed -/
def sSet (i : Nat) (a : Den) : SDen := fun ε S => do
  let (r, ε1, S1) ← a ε S
  let (d, ε2) ← r.fix ε1
  .ok (.nx (ε2.set i (some (.pl d))) S1)
/-- name = value, the name's list changed later -/
def sOwn (i : Nat) (a : Den) : SDen := fun ε S => do
  let (r, ε1, S1) ← a ε S
  match r with
  | .pl d => .ok (.nx (ε1.set i (some (.pl d))) S1)
  | .fr d => if i < ε1.length then .ok (.nx (ε1.set i (some (.own d))) S1) else .no
  | .bor j => match slot ε1 j with
    | some (.own d) => if i < ε1.length then .ok (.nx ((ε1.set j none).set i (some (.own d))) S1) else .no
    | some (.pl d) => .ok (.nx (ε1.set i (some (.pl d))) S1)
    | none => .no
/-- target = value -/
def sAsg (t : TDen) (a : Den) : SDen := fun ε S => do
  let (r, ε1, S1) ← a ε S
  let (d, ε2) ← r.fix ε1
  let ε3 ← t d ε2
  .ok (.nx ε3 S1)
def forGo (t : TDen) (b : SDen) : List D → Env → Store → Rs Out
  | [], ε, S => .ok (.nx ε S)
  | x :: xs, ε, S => do
    let ε1 ← t x ε
    match ← b ε1 S with
    | .nx ε2 S2 => forGo t b xs ε2 S2
    | .ct ε2 S2 => forGo t b xs ε2 S2
    | .bk ε2 S2 => .ok (.nx ε2 S2)
    | .rt f d S2 => .ok (.rt f d S2)
def sFor (t : TDen) (it : IDen) (b : SDen) : SDen := fun ε S => do
  let (xs, ε1, S1) ← it ε S
  forGo t b xs ε1 S1
def whileGo (c : CDen) (b : SDen) : Nat → Env → Store → Rs Out
  | 0, _, _ => .no
  | n + 1, ε, S => do
    let (x, ε1, S1) ← c ε S
    if x then
      match ← b ε1 S1 with
      | .nx ε2 S2 => whileGo c b n ε2 S2
      | .ct ε2 S2 => whileGo c b n ε2 S2
      | .bk ε2 S2 => .ok (.nx ε2 S2)
      | .rt f d S2 => .ok (.rt f d S2)
    else .ok (.nx ε1 S1)
def sWhile (F : CallI) (c : CDen) (b : SDen) : SDen := fun ε S => whileGo c b F.wf ε S

/-- a def's body run at its arguments -/
def runBody (n : Nat) (b : SDen) (ds : List D) (S : Store) : Rs (Bool × D × Store) := do
  match ← b (ds.map (fun d => some (.pl d)) ++ List.replicate (n - ds.length) none) S with
  | .nx _ S1 => .ok (false, .non, S1)
  | .rt f d S1 => .ok (f, d, S1)
  | _ => .no
end Mp

/-! The relation between the pure reading's state and the abstract heap; the rules. -/
namespace Mp
open PySem PySem.Spec PyProof.Rows L2

/-- what is written, and where the classes stand -/
structure Kc where
  F : PySem.W.Frag
  cl : Nat → Addr
structure Rc where
  Z : Addr → Option HO
  ρ : List Addr

def KT (K : Kc) (a : Addr) (xs : List V) : Prop :=
  ∃ (o : PySem.Obj) (its : Array Value) (n : Nat), K.F.lookup a = some o ∧ o.cls = .type "tuple" ∧ o.data = .seq its n ∧ its.size ≤ sizeLine ∧ Vals xs its.toList
def KL (K : Kc) (a : Addr) (xs : List V) : Prop :=
  ∃ (o : PySem.Obj) (its : Array Value) (n : Nat), K.F.lookup a = some o ∧ o.cls = .type "list" ∧ o.dict = none ∧ o.data = .seq its n ∧ its.size ≤ sizeLine ∧ Vals xs its.toList
def ZT (K : Kc) (R : Rc) (a : Addr) (vs : List V) : Prop := R.Z a = some (.tup vs) ∨ KT K a vs
def ZL (_ : Kc) (R : Rc) (a : Addr) (vs : List V) : Prop := R.Z a = some (.lst vs)

mutual
def Rep (K : Kc) (R : Rc) : D → V → Prop
  | .non, v => v = .non
  | .bl b, v => v = .bl b
  | .int i, v => v = .int i
  | .str s, v => v = .str ⟨s.toArray⟩
  | .tup ds, v => ∃ a vs, v = .ref a ∧ ZT K R a vs ∧ Reps K R ds vs
  | .lst ds, v => ∃ a vs, v = .ref a ∧ ZL K R a vs ∧ Reps K R ds vs
  | .dct _ _, _ => False
  | .ref j, v => ∃ a, R.ρ[j]? = some a ∧ v = .ref a
  | .scr ns, v => ∃ a, v = .ref a ∧ ((∃ o, R.Z a = some (.frz o (.lst (ns.map V.int)))) ∨ KL K a (ns.map V.int))
def Reps (K : Kc) (R : Rc) : List D → List V → Prop
  | [], vs => vs = []
  | d :: ds, vs => ∃ v r, vs = v :: r ∧ Rep K R d v ∧ Reps K R ds r
end

/-- R' tells all that R tells -/
structure Le (R R' : Rc) : Prop where
  z : ∀ a o, R.Z a = some o → R'.Z a = some o
  ρ : R.ρ <+: R'.ρ
theorem Le.refl (R : Rc) : Le R R := ⟨fun _ _ h => h, List.prefix_refl _⟩
theorem Le.trans {R R1 R2 : Rc} (a : Le R R1) (b : Le R1 R2) : Le R R2 := ⟨fun x o h => b.z x o (a.z x o h), a.ρ.trans b.ρ⟩
theorem pre_get {α : Type} {l l' : List α} (h : l <+: l') {j : Nat} {x : α} (e : l[j]? = some x) : l'[j]? = some x := by
  obtain ⟨r, rfl⟩ := h
  have hj : j < l.length := (List.getElem?_eq_some_iff.mp e).1
  rw [List.getElem?_append_left hj]; exact e
theorem ZT.mono {K : Kc} {R R' : Rc} (l : Le R R') {a : Addr} {vs : List V} (h : ZT K R a vs) : ZT K R' a vs := h.imp (l.z _ _) id
theorem ZL.mono {K : Kc} {R R' : Rc} (l : Le R R') {a : Addr} {vs : List V} (h : ZL K R a vs) : ZL K R' a vs := l.z _ _ h
mutual
theorem Rep.mono {K : Kc} {R R' : Rc} (l : Le R R') : ∀ (d : D) (v : V), Rep K R d v → Rep K R' d v
  | .non, v, h => h
  | .bl _, v, h => h
  | .int _, v, h => h
  | .str _, v, h => h
  | .tup ds, v, h => by
    obtain ⟨a, vs, e, z, r⟩ := h
    exact ⟨a, vs, e, z.mono l, Reps.mono l ds vs r⟩
  | .lst ds, v, h => by
    obtain ⟨a, vs, e, z, r⟩ := h
    exact ⟨a, vs, e, z.mono l, Reps.mono l ds vs r⟩
  | .dct _ _, v, h => h
  | .ref j, v, h => by
    obtain ⟨a, e, r⟩ := h
    exact ⟨a, pre_get l.ρ e, r⟩
  | .scr ns, v, h => by
    obtain ⟨a, e, r⟩ := h
    exact ⟨a, e, r.imp (fun ⟨o, z⟩ => ⟨o, l.z _ _ z⟩) id⟩
theorem Reps.mono {K : Kc} {R R' : Rc} (l : Le R R') : ∀ (ds : List D) (vs : List V), Reps K R ds vs → Reps K R' ds vs
  | [], vs, h => h
  | d :: ds, vs, h => by
    obtain ⟨v, r, e, p, q⟩ := h
    exact ⟨v, r, e, Rep.mono l d v p, Reps.mono l ds r q⟩
end
section
variable {K : Kc} {R : Rc}
theorem Reps.length : ∀ {ds : List D} {vs : List V}, Reps K R ds vs → vs.length = ds.length
  | [], vs, h => by rw [show vs = [] from h]; rfl
  | d :: ds, vs, h => by
    obtain ⟨v, r, rfl, _, q⟩ := h
    simp [Reps.length q]
theorem Reps.get : ∀ {ds : List D} {vs : List V} {i : Nat} {d : D}, Reps K R ds vs → ds[i]? = some d → ∃ v, vs[i]? = some v ∧ Rep K R d v
  | [], vs, i, d, h, e => by simp at e
  | d :: ds, vs, 0, x, h, e => by
    obtain ⟨v, r, rfl, p, _⟩ := h
    simp at e; subst e
    exact ⟨v, rfl, p⟩
  | d :: ds, vs, i + 1, x, h, e => by
    obtain ⟨v, r, rfl, _, q⟩ := h
    obtain ⟨u, e1, p⟩ := Reps.get (i := i) q (by simpa using e)
    exact ⟨u, by simpa using e1, p⟩
theorem Reps.append : ∀ {ds es : List D} {vs ws : List V}, Reps K R ds vs → Reps K R es ws → Reps K R (ds ++ es) (vs ++ ws)
  | [], es, vs, ws, h, q => by rw [show vs = [] from h]; exact q
  | d :: ds, es, vs, ws, h, q => by
    obtain ⟨v, r, rfl, p, p'⟩ := h
    exact ⟨v, r ++ ws, rfl, p, Reps.append p' q⟩
theorem Reps.one {d : D} {v : V} (h : Rep K R d v) : Reps K R [d] [v] := ⟨v, [], rfl, h, rfl⟩
theorem Reps.take : ∀ {ds : List D} {vs : List V} (n : Nat), Reps K R ds vs → Reps K R (ds.take n) (vs.take n)
  | ds, vs, 0, h => by simp [Reps]
  | [], vs, n + 1, h => by rw [show vs = [] from h]; simp [Reps]
  | d :: ds, vs, n + 1, h => by
    obtain ⟨v, r, rfl, p, p'⟩ := h
    exact ⟨v, r.take n, rfl, p, Reps.take n p'⟩
theorem Reps.drop : ∀ {ds : List D} {vs : List V} (n : Nat), Reps K R ds vs → Reps K R (ds.drop n) (vs.drop n)
  | ds, vs, 0, h => by simpa using h
  | [], vs, n + 1, h => by rw [show vs = [] from h]; simp [Reps]
  | d :: ds, vs, n + 1, h => by
    obtain ⟨v, r, rfl, p, p'⟩ := h
    simpa using Reps.drop n p'
theorem Reps.set : ∀ {ds : List D} {vs : List V} (i : Nat) {d : D} {v : V}, Reps K R ds vs → Rep K R d v → Reps K R (ds.set i d) (vs.set i v)
  | [], vs, i, d, v, h, q => by rw [show vs = [] from h]; simp [Reps]
  | e :: ds, vs, 0, d, v, h, q => by
    obtain ⟨w, r, rfl, p, p'⟩ := h
    exact ⟨v, r, rfl, q, p'⟩
  | e :: ds, vs, i + 1, d, v, h, q => by
    obtain ⟨w, r, rfl, p, p'⟩ := h
    exact ⟨w, r.set i v, rfl, p, Reps.set i p' q⟩
theorem Reps.ints : ∀ {ns : List Int} {vs : List V}, Reps K R (ns.map D.int) vs → vs = ns.map V.int
  | [], vs, h => h
  | n :: ns, vs, h => by
    obtain ⟨v, r, rfl, p, q⟩ := h
    rw [show v = V.int n from p, Reps.ints q]
    rfl
theorem Reps.of_ints : ∀ ns : List Int, Reps K R (ns.map D.int) (ns.map V.int)
  | [] => rfl
  | n :: ns => ⟨_, _, rfl, rfl, Reps.of_ints ns⟩
end

/-- what a list (a dict) that one name holds is -/
def CR (K : Kc) (R : Rc) : D → HO → Prop
  | .lst ds, o => ∃ vs, o = .lst vs ∧ Reps K R ds vs
  | _, _ => False
theorem CR.mono {K : Kc} {R R' : Rc} (l : Le R R') {d : D} {o : HO} (h : CR K R d o) : CR K R' d o := by
  cases d with
  | lst ds =>
    obtain ⟨vs, e, r⟩ := h
    exact ⟨vs, e, r.mono l⟩
  | _ => exact h.elim
def SlR (K : Kc) (R : Rc) (H : Hp) (w : Option Addr) : Sl → V → Prop
  | .pl d, v => w = none ∧ Rep K R d v
  | .own d, v => ∃ a o, v = .ref a ∧ w = some a ∧ H a = some o ∧ CR K R d o
def FsR (K : Kc) (R : Rc) : List (String × D) → List (Str × V) → Prop
  | [], vs => vs = []
  | p :: ps, vs => ∃ v r, vs = (Str.ofString p.1, v) :: r ∧ Rep K R p.2 v ∧ FsR K R ps r
def ObjR (K : Kc) (R : Rc) (H : Hp) (a : Addr) : Obj → Prop
  | .lst ds => ∃ vs, H a = some (.lst vs) ∧ Reps K R ds vs
  | .ins c fs => ∃ dx vs, H a = some (.ins (K.cl c) dx vs) ∧ FsR K R fs vs
  | .dct _ _ => False
  | .gone => True
theorem FsR.mono {K : Kc} {R R' : Rc} (l : Le R R') : ∀ {ps : List (String × D)} {vs : List (Str × V)}, FsR K R ps vs → FsR K R' ps vs
  | [], vs, h => h
  | p :: ps, vs, h => by
    obtain ⟨v, r, e, a, b⟩ := h
    exact ⟨v, r, e, a.mono l, FsR.mono l b⟩
theorem ObjR.mono {K : Kc} {R R' : Rc} (l : Le R R') {H H' : Hp} {a : Addr} {ob : Obj} (e : ∀ o, H a = some o → H' a = some o) (h : ObjR K R H a ob) : ObjR K R' H' a ob := by
  cases ob with
  | lst ds => obtain ⟨vs, p, q⟩ := h; exact ⟨vs, e _ p, q.mono l⟩
  | ins c fs => obtain ⟨dx, vs, p, q⟩ := h; exact ⟨dx, vs, e _ p, q.mono l⟩
  | dct _ _ => exact h
  | gone => trivial

/-- the part of the relation that no name takes part in -/
structure GR (K : Kc) (R : Rc) (S : Store) (H : Hp) : Prop where
  zh : ∀ a o, R.Z a = some o → H a = some o
  sl : S.length = R.ρ.length
  st : ∀ (j : Nat) (ob : Obj), S[j]? = some ob → ∃ a, R.ρ[j]? = some a ∧ ObjR K R H a ob
  ρz : ∀ a, a ∈ R.ρ → R.Z a = none
  ρn : R.ρ.Nodup
  ρh : ∀ a, a ∈ R.ρ → ∃ o, H a = some o
abbrev Om := Nat → Option Addr
structure SR (K : Kc) (R : Rc) (ω : Om) (ε : Env) (S : Store) (σ : L2.St) (H : Hp) : Prop where
  g : GR K R S H
  len : ε.length = σ.length
  sl : ∀ i s, slot ε i = some s → ∃ v, σ[i]? = some (some v) ∧ SlR K R H (ω i) s v
  oz : ∀ i a, ω i = some a → R.Z a = none
  oρ : ∀ i a, ω i = some a → a ∉ R.ρ
  oi : ∀ i j a, ω i = some a → ω j = some a → i = j
  oh : ∀ i a, ω i = some a → ∃ o, H a = some o
  on : ∀ i a, ω i = some a → ∃ d, slot ε i = some (.own d)

/-- what a step may do -/
structure Ex (R : Rc) (ω : Om) (H : Hp) (R' : Rc) (ω' : Om) (H' : Hp) : Prop where
  le : Le R R'
  al : ∀ a o, H a = some o → ∃ o', H' a = some o'
  fr : ∀ a o, H a = some o → a ∉ R.ρ → (∀ i, ω i ≠ some a) → H' a = some o
  zn : ∀ a o, R'.Z a = some o → R.Z a = some o ∨ H a = none ∨ ∃ i, ω i = some a
  ρn : ∀ a, a ∈ R'.ρ → a ∈ R.ρ ∨ H a = none ∨ ∃ i, ω i = some a
  ωn : ∀ i a, ω' i = some a → (∃ j, ω j = some a) ∨ H a = none
theorem Ex.refl (R : Rc) (ω : Om) (H : Hp) : Ex R ω H R ω H :=
  ⟨.refl R, fun _ o h => ⟨o, h⟩, fun _ _ h _ _ => h, fun _ _ h => .inl h, fun _ h => .inl h, fun i _ h => .inl ⟨i, h⟩⟩
theorem Ex.back {R : Rc} {ω : Om} {H : Hp} {R1 : Rc} {ω1 : Om} {H1 : Hp} (a : Ex R ω H R1 ω1 H1) {x : Addr} (h : H1 x = none) : H x = none := by
  cases q : H x with
  | none => rfl
  | some o =>
    obtain ⟨o', e⟩ := a.al x o q
    rw [h] at e; cases e
theorem Ex.trans {R : Rc} {ω : Om} {H : Hp} {R1 : Rc} {ω1 : Om} {H1 : Hp} {R2 : Rc} {ω2 : Om} {H2 : Hp} (a : Ex R ω H R1 ω1 H1) (b : Ex R1 ω1 H1 R2 ω2 H2) : Ex R ω H R2 ω2 H2 where
  le := a.le.trans b.le
  al := fun x o h => let ⟨o1, e⟩ := a.al x o h; b.al x o1 e
  fr := fun x o h n m => by
    refine b.fr x o (a.fr x o h n m) (fun z => ?_) fun i z => ?_
    · rcases a.ρn x z with q | q | ⟨i, q⟩
      · exact n q
      · rw [h] at q; cases q
      · exact m i q
    · rcases a.ωn i x z with ⟨j, q⟩ | q
      · exact m j q
      · rw [h] at q; cases q
  zn := fun x o h => by
    rcases b.zn x o h with q | q | ⟨i, q⟩
    · exact a.zn x o q
    · exact .inr (.inl (a.back q))
    · rcases a.ωn i x q with q | q
      · exact .inr (.inr q)
      · exact .inr (.inl q)
  ρn := fun x h => by
    rcases b.ρn x h with q | q | ⟨i, q⟩
    · exact a.ρn x q
    · exact .inr (.inl (a.back q))
    · rcases a.ωn i x q with q | q
      · exact .inr (.inr q)
      · exact .inr (.inl q)
  ωn := fun i x h => by
    rcases b.ωn i x h with ⟨j, q⟩ | q
    · exact a.ωn j x q
    · exact .inr (a.back q)

/-- a value, over the state at its start -/
def RVR (K : Kc) (ω0 : Om) (H0 : Hp) (R : Rc) (ω : Om) (H : Hp) (σ : L2.St) : RV → V → Prop
  | .pl d, v => Rep K R d v
  | .fr d, v => ∃ a o, v = .ref a ∧ H a = some o ∧ CR K R d o ∧ R.Z a = none ∧ a ∉ R.ρ ∧ (∀ i, ω i ≠ some a) ∧ (H0 a = none ∨ ∃ i, ω0 i = some a)
  | .bor i, v => σ[i]? = some (some v)
/-- a value's content -/
def VR (K : Kc) (R : Rc) (H : Hp) (d : D) (v : V) : Prop := Rep K R d v ∨ ∃ a o, v = .ref a ∧ H a = some o ∧ CR K R d o
section
variable {K : Kc} {R R' : Rc} {ω ω' ω0 : Om} {H H' H0 : Hp} {σ : L2.St} {ε ε' : Env} {S : Store}
theorem RVR.keep {r : RV} {v : V} (h : RVR K ω0 H0 R ω H σ r v) (x : Ex R ω H R' ω' H') : RVR K ω0 H0 R' ω' H' σ r v := by
  cases r with
  | pl d => exact Rep.mono x.le d v h
  | bor i => exact h
  | fr d =>
    obtain ⟨a, o, e, ho, c, z, n, m, w⟩ := h
    refine ⟨a, o, e, x.fr a o ho n m, c.mono x.le, ?_, fun q => ?_, fun i q => ?_, w⟩
    · cases q : R'.Z a with
      | none => rfl
      | some o' =>
        rcases x.zn a o' q with q | q | ⟨i, q⟩
        · rw [z] at q; cases q
        · rw [ho] at q; cases q
        · exact absurd q (m i)
    · rcases x.ρn a q with q | q | ⟨i, q⟩
      · exact n q
      · rw [ho] at q; cases q
      · exact m i q
    · rcases x.ωn i a q with ⟨j, q⟩ | q
      · exact m j q
      · rw [ho] at q; cases q
theorem RVR.start {ω1 : Om} {H1 : Hp} {R1 : Rc} {r : RV} {v : V} (h : RVR K ω1 H1 R ω H σ r v) (x : Ex R1 ω0 H0 R' ω1 H1) : RVR K ω0 H0 R ω H σ r v := by
  cases r with
  | pl d => exact h
  | bor i => exact h
  | fr d =>
    obtain ⟨a, o, e, ho, c, z, n, m, w⟩ := h
    refine ⟨a, o, e, ho, c, z, n, m, ?_⟩
    rcases w with w | ⟨i, w⟩
    · exact .inl (x.back w)
    · exact (x.ωn i a w).symm
theorem RVR.vr {r : RV} {v : V} {d : D} (h : RVR K ω0 H0 R ω H σ r v) (s : SR K R ω ε S σ H) (e : r.get ε = .ok d) : VR K R H d v := by
  cases r with
  | pl x => cases e; exact .inl h
  | fr x =>
    cases e
    obtain ⟨a, o, e, ho, c, _⟩ := h
    exact .inr ⟨a, o, e, ho, c⟩
  | bor i =>
    have h' : σ[i]? = some (some v) := h
    cases q : slot ε i with
    | none => simp [RV.get, q] at e
    | some t =>
      obtain ⟨u, e1, p⟩ := s.sl i t q
      rw [h'] at e1; cases e1
      cases t with
      | pl x =>
        simp [RV.get, q] at e; subst e
        exact .inl p.2
      | own x =>
        simp [RV.get, q] at e; subst e
        obtain ⟨a, o, e, _, ho, c⟩ := p
        exact .inr ⟨a, o, e, ho, c⟩

/-! ### growth: new objects, told or not -/
structure Gw (R : Rc) (H : Hp) (R' : Rc) (H' : Hp) : Prop where
  le : Le R R'
  ρ : R'.ρ = R.ρ
  sm : ∀ a o, H a = some o → H' a = some o
  zn : ∀ a o, R'.Z a = some o → R.Z a = some o ∨ H a = none
  zh : ∀ a o, R'.Z a = some o → R.Z a = some o ∨ H' a = some o
theorem Gw.refl (R : Rc) (H : Hp) : Gw R H R H := ⟨.refl R, rfl, fun _ _ h => h, fun _ _ h => .inl h, fun _ _ h => .inl h⟩
theorem Gw.ex (x : Gw R H R' H') (ω : Om) : Ex R ω H R' ω H' :=
  ⟨x.le, fun a o h => ⟨o, x.sm a o h⟩, fun a o h _ _ => x.sm a o h, fun a o h => (x.zn a o h).imp id .inl, fun a h => .inl (by rw [x.ρ] at h; exact h), fun i a h => .inl ⟨i, h⟩⟩
theorem Gw.gr (x : Gw R H R' H') (g : GR K R S H) : GR K R' S H' where
  zh := fun a o h => (x.zh a o h).elim (fun q => x.sm a o (g.zh a o q)) id
  sl := by rw [x.ρ]; exact g.sl
  st := fun j ob h => by
    obtain ⟨a, e, q⟩ := g.st j ob h
    exact ⟨a, by rw [x.ρ]; exact e, q.mono x.le fun o => x.sm a o⟩
  ρz := fun a h => by
    rw [x.ρ] at h
    cases q : R'.Z a with
    | none => rfl
    | some o =>
      rcases x.zn a o q with q | q
      · rw [g.ρz a h] at q; cases q
      · obtain ⟨o', e⟩ := g.ρh a h
        rw [e] at q; cases q
  ρn := by rw [x.ρ]; exact g.ρn
  ρh := fun a h => by
    rw [x.ρ] at h
    obtain ⟨o, e⟩ := g.ρh a h
    exact ⟨o, x.sm a o e⟩
theorem SlR.gw (x : Gw R H R' H') {w : Option Addr} {s : Sl} {v : V} (h : SlR K R H w s v) : SlR K R' H' w s v := by
  cases s with
  | pl d => exact ⟨h.1, Rep.mono x.le d v h.2⟩
  | own d =>
    obtain ⟨a, o, e, e2, ho, c⟩ := h
    exact ⟨a, o, e, e2, x.sm a o ho, c.mono x.le⟩
theorem Gw.sr (x : Gw R H R' H') (s : SR K R ω ε S σ H) : SR K R' ω ε S σ H' where
  g := x.gr s.g
  len := s.len
  sl := fun i t h => let ⟨v, e, q⟩ := s.sl i t h; ⟨v, e, q.gw x⟩
  oz := fun i a h => by
    cases q : R'.Z a with
    | none => rfl
    | some o =>
      rcases x.zn a o q with q | q
      · rw [s.oz i a h] at q; cases q
      · obtain ⟨o', e⟩ := s.oh i a h
        rw [e] at q; cases q
  oρ := fun i a h => by rw [x.ρ]; exact s.oρ i a h
  oi := s.oi
  oh := fun i a h => let ⟨o, e⟩ := s.oh i a h; ⟨o, x.sm a o e⟩
  on := s.on
/-- a new object, not told -/
theorem Gw.new {p : Addr} {o : HO} (n : H p = none) : Gw R H R (upd H p o) :=
  ⟨.refl R, rfl, fun a o' h => by rw [upd_ne (ne_of_none h n)]; exact h, fun _ _ h => .inl h, fun _ _ h => .inl h⟩
def Rc.tell (R : Rc) (p : Addr) (o : HO) : Rc := { R with Z := fun b => if b = p then some o else R.Z b }
theorem tell_at {p : Addr} {o : HO} : (R.tell p o).Z p = some o := by simp [Rc.tell]
theorem tell_ne {p b : Addr} {o : HO} (h : b ≠ p) : (R.tell p o).Z b = R.Z b := by simp [Rc.tell, h]
theorem tell_le {p : Addr} {o : HO} (h : R.Z p = none) : Le R (R.tell p o) :=
  ⟨fun a o' e => by rw [tell_ne (fun z => by rw [z, h] at e; cases e)]; exact e, List.prefix_refl _⟩
theorem GR.free {S : Store} (g : GR K R S H) {p : Addr} (n : H p = none) : R.Z p = none := by
  cases q : R.Z p with
  | none => rfl
  | some o => rw [g.zh p o q] at n; cases n
/-- a new object, told -/
theorem Gw.tell {p : Addr} {o : HO} (n : H p = none) (z : R.Z p = none) : Gw R H (R.tell p o) (upd H p o) := by
  refine ⟨tell_le z, rfl, fun a o' h => by rw [upd_ne (ne_of_none h n)]; exact h, fun a o' h => ?_, fun a o' h => ?_⟩
  · by_cases e : a = p
    · subst e; exact .inr n
    · rw [tell_ne e] at h; exact .inl h
  · by_cases e : a = p
    · subst e; rw [tell_at] at h; cases h; exact .inr upd_same
    · rw [tell_ne e] at h; exact .inl h
theorem Gw.trans {R2 : Rc} {H2 : Hp} (a : Gw R H R' H') (b : Gw R' H' R2 H2) : Gw R H R2 H2 where
  le := a.le.trans b.le
  ρ := b.ρ.trans a.ρ
  sm := fun x o h => b.sm x o (a.sm x o h)
  zn := fun x o h => by
    rcases b.zn x o h with q | q
    · exact a.zn x o q
    · right
      cases q2 : H x with
      | none => rfl
      | some o' => rw [a.sm x o' q2] at q; cases q
  zh := fun x o h => by
    rcases b.zh x o h with q | q
    · exact (a.zh x o q).imp id fun q => b.sm x o q
    · exact .inr q

/-! ### a list is told: nobody holds it alone any more -/
theorem SR.tell {a : Addr} {o : HO} (s : SR K R ω ε S σ H) (ho : H a = some o) (n : a ∉ R.ρ) (m : ∀ i, ω i ≠ some a) : SR K (R.tell a o) ω ε S σ H := by
  by_cases zz : R.Z a = none
  · have l : Le R (R.tell a o) := tell_le zz
    exact {
      g := {
        zh := fun b o' h => by
          by_cases e : b = a
          · subst e; rw [tell_at] at h; cases h; exact ho
          · rw [tell_ne e] at h; exact s.g.zh b o' h
        sl := s.g.sl
        st := fun j ob h => let ⟨b, e, q⟩ := s.g.st j ob h; ⟨b, e, q.mono l fun _ h => h⟩
        ρz := fun b h => (tell_ne fun z => n (by rw [← z]; exact h)).trans (s.g.ρz b h)
        ρn := s.g.ρn
        ρh := s.g.ρh }
      len := s.len
      sl := fun i t h => by
        obtain ⟨v, e, q⟩ := s.sl i t h
        refine ⟨v, e, ?_⟩
        cases t with
        | pl d => exact ⟨q.1, Rep.mono l d v q.2⟩
        | own d =>
          obtain ⟨b, o', e1, e2, e3, c⟩ := q
          exact ⟨b, o', e1, e2, e3, c.mono l⟩
      oz := fun i b h => (tell_ne fun z => m i (by rw [← z]; exact h)).trans (s.oz i b h)
      oρ := s.oρ
      oi := s.oi
      oh := s.oh
      on := s.on }
  · have e : R.tell a o = R := by
      have : (fun b => if b = a then some o else R.Z b) = R.Z := by
        funext b
        by_cases e : b = a
        · subst e
          rw [if_pos rfl]
          cases q : R.Z b with
          | none => exact absurd q zz
          | some o' =>
            have := s.g.zh b o' q
            rw [ho] at this; cases this; rfl
        · rw [if_neg e]
      unfold Rc.tell
      rw [this]
    rw [e]; exact s
theorem rep_tell {a : Addr} {o : HO} {d : D} (c : CR K R d o) (l : Le R (R.tell a o)) : Rep K (R.tell a o) d (.ref a) := by
  cases d with
  | lst ds =>
    obtain ⟨vs, e, r⟩ := c
    subst e
    exact ⟨a, vs, rfl, tell_at, r.mono l⟩
  | _ => exact c.elim
theorem slot_set {ε : Env} {i j : Nat} {x : Option Sl} : slot (ε.set i x) j = if i = j then (if i < ε.length then x else none) else slot ε j := by
  unfold slot
  rw [List.getElem?_set]
  split
  · subst_vars
    split
    · rename_i h; simp [h]
    · rename_i h; simp [h]
  · rfl
theorem slot_lt {ε : Env} {i : Nat} {s : Sl} (h : slot ε i = some s) : i < ε.length := by
  unfold slot at h
  cases q : ε[i]? with
  | none => rw [q] at h; cases h
  | some t => exact (List.getElem?_eq_some_iff.mp q).1
def Om.off (ω : Om) (i : Nat) : Om := fun j => if j = i then none else ω j
theorem off_some {ω : Om} {i j : Nat} {a : Addr} (h : ω.off i j = some a) : j ≠ i ∧ ω j = some a := by
  unfold Om.off at h
  split at h
  · cases h
  · rename_i q; exact ⟨q, h⟩
theorem off_ne {ω : Om} {i j : Nat} (h : j ≠ i) : ω.off i j = ω j := by unfold Om.off; rw [if_neg h]
theorem off_same {ω : Om} {i : Nat} : ω.off i i = none := by unfold Om.off; rw [if_pos rfl]
/-- a slot is forgotten -/
theorem SR.forget (s : SR K R ω ε S σ H) (i : Nat) : SR K R (ω.off i) (ε.set i none) S σ H where
  g := s.g
  len := by rw [List.length_set]; exact s.len
  sl := fun j t h => by
    rw [slot_set] at h
    split at h
    · split at h <;> cases h
    · rename_i q
      rw [off_ne (Ne.symm q)]
      exact s.sl j t h
  oz := fun j a h => s.oz j a (off_some h).2
  oρ := fun j a h => s.oρ j a (off_some h).2
  oi := fun j k a h h' => s.oi j k a (off_some h).2 (off_some h').2
  oh := fun j a h => s.oh j a (off_some h).2
  on := fun j a h => by
    obtain ⟨d, e⟩ := s.on j a (off_some h).2
    exact ⟨d, by rw [slot_set, if_neg (Ne.symm (off_some h).1)]; exact e⟩
/-- a slot that holds data is told so -/
theorem SR.plain (s : SR K R ω ε S σ H) {i : Nat} {d : D} {v : V} (hσ : σ[i]? = some (some v)) (hw : ω i = none) (r : Rep K R d v) : SR K R ω (ε.set i (some (.pl d))) S σ H where
  g := s.g
  len := by rw [List.length_set]; exact s.len
  sl := fun j t h => by
    rw [slot_set] at h
    split at h
    · rename_i q
      subst q
      split at h
      · cases h
        exact ⟨v, hσ, hw, r⟩
      · cases h
    · exact s.sl j t h
  oz := s.oz
  oρ := s.oρ
  oi := s.oi
  oh := s.oh
  on := fun j a h => by
    obtain ⟨d', e⟩ := s.on j a h
    have hj : i ≠ j := fun z => by rw [z, h] at hw; cases hw
    exact ⟨d', by rw [slot_set, if_neg hj]; exact e⟩
theorem set_set {ε : Env} {i : Nat} {x y : Option Sl} : (ε.set i x).set i y = ε.set i y := by simp
theorem Ex.tell {R1 : Rc} {a : Addr} {o : HO} (x : Ex R1 ω0 H0 R ω H) (ho : H a = some o) (z : R.Z a = none) (w : H0 a = none ∨ ∃ i, ω0 i = some a) (hω : ∀ i b, ω' i = some b → ω i = some b) : Ex R1 ω0 H0 (R.tell a o) ω' H where
  le := x.le.trans (tell_le z)
  al := x.al
  fr := x.fr
  zn := fun b o' h => by
    by_cases e : b = a
    · subst e; exact .inr w
    · rw [tell_ne e] at h; exact x.zn b o' h
  ρn := x.ρn
  ωn := fun i b h => x.ωn i b (hω i b h)
/-- a value as data -/
theorem RVR.fix {R1 : Rc} {r : RV} {v : V} {d : D} (h : RVR K ω0 H0 R ω H σ r v) (s : SR K R ω ε S σ H) (x : Ex R1 ω0 H0 R ω H) (e : r.fix ε = .ok (d, ε')) :
    ∃ R2 ω2, Ex R1 ω0 H0 R2 ω2 H ∧ SR K R2 ω2 ε' S σ H ∧ Rep K R2 d v := by
  cases r with
  | pl y =>
    cases e
    exact ⟨R, ω, x, s, h⟩
  | fr y =>
    cases e
    obtain ⟨a, o, e, ho, c, z, n, m, w⟩ := h
    subst e
    exact ⟨R.tell a o, ω, x.tell ho z w fun _ _ h => h, s.tell ho n m, rep_tell c (tell_le z)⟩
  | bor i =>
    have h' : σ[i]? = some (some v) := h
    cases q : slot ε i with
    | none => simp [RV.fix, q] at e
    | some t =>
      obtain ⟨u, e1, p⟩ := s.sl i t q
      rw [h'] at e1; cases e1
      cases t with
      | pl y =>
        simp [RV.fix, q] at e
        obtain ⟨rfl, rfl⟩ := e
        exact ⟨R, ω, x, s, p.2⟩
      | own y =>
        simp [RV.fix, q] at e
        obtain ⟨rfl, rfl⟩ := e
        obtain ⟨a, o, rfl, e2, ho, c⟩ := p
        have z := s.oz i a e2
        have s1 := (s.forget i).tell (a := a) (o := o) ho (s.oρ i a e2) fun j e3 => (off_some e3).1 (s.oi j i a (off_some e3).2 e2)
        refine ⟨R.tell a o, ω.off i, x.tell ho z ?_ fun j b h => (off_some h).2, ?_, rep_tell c (tell_le z)⟩
        · exact (x.ωn i a e2).symm
        · have s2 := s1.plain (i := i) (v := .ref a) h' off_same (rep_tell c (tell_le z))
          rw [set_set] at s2
          exact s2
end
end Mp

/-! The readings, the rules of plain syntax. -/
namespace Mp
open PySem PySem.Spec PyProof.Rows L2

abbrev kx (X : Cx) (cl : Nat → Addr) : Kc := ⟨X.K, cl⟩
section
variable {X : Cx}
theorem PE.im {e : Expr} {t t' : TE} (h : PE X e t) (i : ∀ σ H Q, t' σ H Q → t σ H Q) : PE X e t' := ⟨fun pins s σ H Q I hw => h.run pins s σ H Q I (i σ H Q hw)⟩
theorem PT.im {e : Expr} {t t' : TT} (h : PT X e t) (i : ∀ σ H Q, t' σ H Q → t σ H Q) : PT X e t' := ⟨fun pins s σ H Q I hw => h.run pins s σ H Q I (i σ H Q hw)⟩
theorem PW.im {e : Expr} {t t' : TT} (h : PW X e t) (i : ∀ σ H Q, t' σ H Q → t σ H Q) : PW X e t' := ⟨fun wh pins s σ H Q I hw => h.run wh pins s σ H Q I (i σ H Q hw)⟩
theorem PA.im {es : List Expr} {t t' : TA} (h : PA X es t) (i : ∀ σ H Q, t' σ H Q → t σ H Q) : PA X es t' := ⟨fun pos pins s σ H Q I hw => h.run pos pins s σ H Q I (i σ H Q hw)⟩
theorem PS.im {st : Stmt} {t t' : TS} (h : PS X st t) (i : ∀ D σ H, t' D σ H → t D σ H) : PS X st t' := ⟨fun pins s σ H D I hw => h.run pins s σ H D I (i D σ H hw)⟩
theorem PSs.im {st : List Stmt} {t t' : TS} (h : PSs X st t) (i : ∀ D σ H, t' D σ H → t D σ H) : PSs X st t' := ⟨fun pins s σ H D I hw => h.run pins s σ H D I (i D σ H hw)⟩
theorem PG.im {e : Expr} {t t' : TG} (h : PG X e t) (i : ∀ v σ H Q, t' v σ H Q → t v σ H Q) : PG X e t' := ⟨fun pins s σ H v u Q I r hw => h.run pins s σ H v u Q I r (i v σ H Q hw)⟩
theorem PGs.im {es : List Expr} {t t' : TGs} (h : PGs X es t) (i : ∀ v σ H Q, t' v σ H Q → t v σ H Q) : PGs X es t' := ⟨fun pins s σ H vs us Q I r hw => h.run pins s σ H vs us Q I r (i vs σ H Q hw)⟩
theorem PI.im {tg iter : Expr} {t t' : TI} (h : PI X tg iter t) (i : ∀ σ H R, t' σ H R → t σ H R) : PI X tg iter t' := ⟨fun pins s σ H R I hw => h.run pins s σ H R I (i σ H R hw)⟩
end

def tOf (K : Kc) (E : Den) : TE := fun σ H Q => ∃ ε S R ω r ε' S', E ε S = .ok (r, ε', S') ∧ SR K R ω ε S σ H ∧
  ∀ v R' ω' H', Ex R ω H R' ω' H' → SR K R' ω' ε' S' σ H' → RVR K ω H R' ω' H' σ r v → Q v H'
def aOf (K : Kc) (A : ADen) : TA := fun σ H Q => ∃ ε S R ω ds ε' S', A ε S = .ok (ds, ε', S') ∧ SR K R ω ε S σ H ∧
  ∀ vs R' ω' H', Ex R ω H R' ω' H' → SR K R' ω' ε' S' σ H' → Reps K R' ds vs → Q vs H'
def cOf (K : Kc) (C : CDen) : TT := fun σ H Q => ∃ ε S R ω b ε' S', C ε S = .ok (b, ε', S') ∧ SR K R ω ε S σ H ∧
  ∀ R' ω' H', Ex R ω H R' ω' H' → SR K R' ω' ε' S' σ H' → Q b H'
def RetR (K : Kc) (ω0 : Om) (H0 : Hp) (R : Rc) (H : Hp) (f : Bool) (d : D) (v : V) : Prop :=
  if f = true then ∃ a o, v = .ref a ∧ H a = some o ∧ CR K R d o ∧ R.Z a = none ∧ a ∉ R.ρ ∧ (H0 a = none ∨ ∃ i, ω0 i = some a) else Rep K R d v
theorem RetR.plain {K : Kc} {ω0 : Om} {H0 : Hp} {R : Rc} {H : Hp} {d : D} {v : V} (h : Rep K R d v) : RetR K ω0 H0 R H false d v := by
  unfold RetR; rw [if_neg Bool.false_ne_true]; exact h
theorem RetR.fresh {K : Kc} {ω0 : Om} {H0 : Hp} {R : Rc} {H : Hp} {d : D} {v : V} (h : ∃ a o, v = .ref a ∧ H a = some o ∧ CR K R d o ∧ R.Z a = none ∧ a ∉ R.ρ ∧ (H0 a = none ∨ ∃ i, ω0 i = some a)) : RetR K ω0 H0 R H true d v := by
  unfold RetR; rw [if_pos rfl]; exact h
theorem RetR.start {K : Kc} {ω0 ω1 : Om} {H0 H1 H : Hp} {R R0 R1 : Rc} {f : Bool} {d : D} {v : V} (h : RetR K ω1 H1 R H f d v) (x : Ex R0 ω0 H0 R1 ω1 H1) : RetR K ω0 H0 R H f d v := by
  cases f with
  | false => exact .plain (by unfold RetR at h; rw [if_neg Bool.false_ne_true] at h; exact h)
  | true =>
    unfold RetR at h; rw [if_pos rfl] at h
    obtain ⟨a, o, e, ho, c, z, n, w⟩ := h
    refine .fresh ⟨a, o, e, ho, c, z, n, ?_⟩
    rcases w with w | ⟨i, w⟩
    · exact .inl (x.back w)
    · exact (x.ωn i a w).symm
def EndOk (K : Kc) (R : Rc) (ω : Om) (H : Hp) (D : Ends) : Out → Prop
  | .nx ε' S' => ∀ σ' R' ω' H', Ex R ω H R' ω' H' → SR K R' ω' ε' S' σ' H' → D.nx σ' H'
  | .bk ε' S' => ∀ σ' R' ω' H', Ex R ω H R' ω' H' → SR K R' ω' ε' S' σ' H' → D.bk σ' H'
  | .ct ε' S' => ∀ σ' R' ω' H', Ex R ω H R' ω' H' → SR K R' ω' ε' S' σ' H' → D.ct σ' H'
  | .rt f d S' => ∀ v R' ω' H', Ex R ω H R' ω' H' → GR K R' S' H' → RetR K ω H R' H' f d v → D.rt v H'
theorem EndOk.step {K : Kc} {R R1 : Rc} {ω ω1 : Om} {H H1 : Hp} {D : Ends} {o : Out} (x : Ex R ω H R1 ω1 H1) (h : EndOk K R ω H D o) : EndOk K R1 ω1 H1 D o := by
  cases o with
  | nx ε' S' => exact fun σ' R' ω' H' y s => h σ' R' ω' H' (x.trans y) s
  | bk ε' S' => exact fun σ' R' ω' H' y s => h σ' R' ω' H' (x.trans y) s
  | ct ε' S' => exact fun σ' R' ω' H' y s => h σ' R' ω' H' (x.trans y) s
  | rt f d S' => exact fun v R' ω' H' y g r => h v R' ω' H' (x.trans y) g (r.start x)
def sOf (K : Kc) (M : SDen) : TS := fun D σ H => ∃ ε S R ω o, M ε S = .ok o ∧ SR K R ω ε S σ H ∧ EndOk K R ω H D o
/-- the slots outside ts stay -/
def Stay (ts : List Nat) (σ σ' : L2.St) : Prop := σ'.length = σ.length ∧ ∀ j : Nat, j ∉ ts → σ'[j]? = σ[j]?
def gOf (K : Kc) (ts : List Nat) (T : TDen) : TG := fun v σ H Q => ∃ d ε S R ω ε', T d ε = .ok ε' ∧ SR K R ω ε S σ H ∧ Rep K R d v ∧
  ∀ σ' R' ω' H', Ex R ω H R' ω' H' → SR K R' ω' ε' S σ' H' → Stay ts σ σ' → Q σ' H'
def gsOf (K : Kc) (ts : List Nat) (T : TsDen) : TGs := fun vs σ H Q => ∃ ds ε S R ω ε', T ds ε = .ok ε' ∧ SR K R ω ε S σ H ∧ Reps K R ds vs ∧
  ∀ σ' R' ω' H', Ex R ω H R' ω' H' → SR K R' ω' ε' S σ' H' → Stay ts σ σ' → Q σ' H'
/-- an iterator that walks the items ds -/
structure JW (K : Kc) (R : Rc) (J : It) (ds : List D) : Prop where
  go : ∀ (i : Nat) (S : Store) (H : Hp) (R' : Rc), Le R R' → GR K R' S H → i < ds.length → J.go i H
  yl : ∀ (i : Nat) (S : Store) (H : Hp) (R' : Rc) (x : V) (H' : Hp) (d : D), Le R R' → GR K R' S H → ds[i]? = some d → J.yld i H x H' → ∃ R2, Gw R' H R2 H' ∧ Rep K R2 d x
  sp : ∀ (S : Store) (H : Hp) (R' : Rc), Le R R' → GR K R' S H → J.stop ds.length H
def iOf (K : Kc) (I : IDen) : TI := fun σ H C => ∃ ε S R ω ds ε' S', I ε S = .ok (ds, ε', S') ∧ SR K R ω ε S σ H ∧
  ∀ J R' ω' H', Ex R ω H R' ω' H' → SR K R' ω' ε' S' σ H' → JW K R' J ds → C J H'

/-! ### operators -/
/-- what an operator gives -/
def RNew (K : Kc) (H : Hp) (R' : Rc) (H' : Hp) : RV → V → Prop
  | .pl d, v => Rep K R' d v
  | .fr d, v => ∃ a o, v = .ref a ∧ H' a = some o ∧ CR K R' d o ∧ R'.Z a = none ∧ H a = none
  | .bor _, _ => False
theorem RNew.rvr {K : Kc} {R R' R0 : Rc} {ω ω0 : Om} {H H' H0 : Hp} {σ : L2.St} {ε : Env} {S : Store} {r : RV} {v : V} (s : SR K R ω ε S σ H) (x : Ex R0 ω0 H0 R ω H) (g : Gw R H R' H') (h : RNew K H R' H' r v) : RVR K ω0 H0 R' ω H' σ r v := by
  cases r with
  | pl d => exact h
  | bor i => exact h.elim
  | fr d =>
    obtain ⟨a, o, e, ho, c, z, n⟩ := h
    refine ⟨a, o, e, ho, c, z, fun q => ?_, fun i q => ?_, .inl (x.back n)⟩
    · rw [g.ρ] at q
      obtain ⟨o', e'⟩ := s.g.ρh a q
      rw [n] at e'; cases e'
    · obtain ⟨o', e'⟩ := s.oh i a q
      rw [n] at e'; cases e'
def OpOk (K : Kc) (f : D → D → Store → Rs RV) (r : R2) : Prop :=
  ∀ x y S rv v w R H Q, f x y S = .ok rv → GR K R S H → VR K R H x v → VR K R H y w → (∀ v' R' H', Gw R H R' H' → RNew K H R' H' rv v' → Q v' H') → r v w H Q
def UnOk (K : Kc) (f : D → Store → Rs RV) (r : V → Hp → VK → Prop) : Prop :=
  ∀ x S rv v R H Q, f x S = .ok rv → GR K R S H → VR K R H x v → (∀ v' R' H', Gw R H R' H' → RNew K H R' H' rv v' → Q v' H') → r v H Q
section
variable {X : Cx} {cl : Nat → Addr} {e a b c : Expr} {Ea Eb Ec : Den} {pos : Pos}
theorem ev_bin {f : D → D → Store → Rs RV} {r : R2} (h : PE X e (tOp r (tOf (kx X cl) Ea) (tOf (kx X cl) Eb))) (ok : OpOk (kx X cl) f r) : PE X e (tOf (kx X cl) (eBin f Ea Eb)) := by
  refine PE.im h fun σ H Q hh => ?_
  obtain ⟨ε, S, R, ω, rv, ε', S', he, s, k⟩ := hh
  obtain ⟨⟨r1, ε1, S1⟩, e1, he⟩ := bind_ok he
  obtain ⟨⟨r2, ε2, S2⟩, e2, he⟩ := bind_ok he
  obtain ⟨x, ex, he⟩ := bind_ok he
  obtain ⟨y, ey, he⟩ := bind_ok he
  obtain ⟨rr, er, he⟩ := bind_ok he
  cases he
  refine ⟨ε, S, R, ω, r1, ε1, S1, e1, s, fun v1 R1 ω1 H1 x1 s1 p1 => ⟨ε1, S1, R1, ω1, r2, ε', S', e2, s1, fun v2 R2 ω2 H2 x2 s2 p2 => ?_⟩⟩
  have q1 := p1.keep x2
  refine ok x y S' rv v1 v2 R2 H2 Q er s2.g (q1.vr s2 ex) (p2.vr s2 ey) fun v' R' H' g n => ?_
  exact k v' R' ω2 H' ((x1.trans x2).trans (g.ex ω2)) (g.sr s2) (n.rvr s2 (x1.trans x2) g)
theorem ev_un {f : D → Store → Rs RV} {r : V → Hp → VK → Prop} (h : PE X e (tUn r (tOf (kx X cl) Ea))) (ok : UnOk (kx X cl) f r) : PE X e (tOf (kx X cl) (eUn f Ea)) := by
  refine PE.im h fun σ H Q hh => ?_
  obtain ⟨ε, S, R, ω, rv, ε', S', he, s, k⟩ := hh
  obtain ⟨⟨r1, ε1, S1⟩, e1, he⟩ := bind_ok he
  obtain ⟨x, ex, he⟩ := bind_ok he
  obtain ⟨rr, er, he⟩ := bind_ok he
  cases he
  refine ⟨ε, S, R, ω, r1, ε', S', e1, s, fun v1 R1 ω1 H1 x1 s1 p1 => ?_⟩
  refine ok x S' rv v1 R1 H1 Q er s1.g (p1.vr s1 ex) fun v' R' H' g n => ?_
  exact k v' R' ω1 H' (x1.trans (g.ex ω1)) (g.sr s1) (n.rvr s1 x1 g)
/-! ### names, constants -/
theorem ev_var {i : Nat} {x : Str} (h : PE X (.Name x pos) (tVar i)) : PE X (.Name x pos) (tOf (kx X cl) (eVar i)) := by
  refine PE.im h fun σ H Q hh => ?_
  obtain ⟨ε, S, R, ω, rv, ε', S', he, s, k⟩ := hh
  unfold eVar at he
  cases q : slot ε i with
  | none => rw [q] at he; cases he
  | some t =>
    obtain ⟨v, e1, p⟩ := s.sl i t q
    rw [q] at he
    cases t with
    | pl d =>
      cases he
      exact ⟨v, e1, k v R ω H (.refl _ _ _) s p.2⟩
    | own d =>
      cases he
      exact ⟨v, e1, k v R ω H (.refl _ _ _) s e1⟩
theorem ev_c {v : V} {d : D} (h : PE X e (tC v)) (r : ∀ R, Rep (kx X cl) R d v) : PE X e (tOf (kx X cl) (eC d)) := by
  refine PE.im h fun σ H Q hh => ?_
  obtain ⟨ε, S, R, ω, rv, ε', S', he, s, k⟩ := hh
  cases he
  exact k v R ω H (.refl _ _ _) s (r R)
theorem ev_int {i : Int} {j : Nat} : PE X (.Constant (.int i) j pos) (tOf (kx X cl) (eC (.int i))) := ev_c pe_int fun _ => rfl
theorem ev_bl {i : Bool} {j : Nat} : PE X (.Constant (.bool i) j pos) (tOf (kx X cl) (eC (.bl i))) := ev_c pe_bl fun _ => rfl
theorem ev_non {j : Nat} : PE X (.Constant .none j pos) (tOf (kx X cl) (eC .non)) := ev_c pe_non fun _ => rfl
theorem ev_str {x : Str} {s : List Nat} {j : Nat} (h : x = ⟨s.toArray⟩) : PE X (.Constant (.str x) j pos) (tOf (kx X cl) (eC (.str s))) := ev_c pe_str fun _ => by rw [h]; rfl
/-! ### argument lists, displays -/
theorem ev_anil : PA X [] (aOf (kx X cl) aNil) := by
  refine PA.im pa_nil fun σ H Q hh => ?_
  obtain ⟨ε, S, R, ω, ds, ε', S', he, s, k⟩ := hh
  cases he
  exact k [] R ω H (.refl _ _ _) s rfl
theorem ev_acons {es : List Expr} {As : ADen} (ha : PE X e (tOf (kx X cl) Ea)) (hr : PA X es (aOf (kx X cl) As)) (hs : starEach (e :: es) X.env = (false, eval e X.env) :: starEach es X.env := by rfl) : PA X (e :: es) (aOf (kx X cl) (aCons Ea As)) := by
  refine PA.im (pa_cons ha hr hs) fun σ H Q hh => ?_
  obtain ⟨ε, S, R, ω, ds, ε', S', he, s, k⟩ := hh
  obtain ⟨⟨r1, ε1, S1⟩, e1, he⟩ := bind_ok he
  obtain ⟨⟨d, ε2⟩, e2, he⟩ := bind_ok he
  obtain ⟨⟨dr, ε3, S3⟩, e3, he⟩ := bind_ok he
  cases he
  refine ⟨ε, S, R, ω, r1, ε1, S1, e1, s, fun v1 R1 ω1 H1 x1 s1 p1 => ?_⟩
  obtain ⟨R2, ω2, x2, s2, p2⟩ := p1.fix s1 x1 e2
  refine ⟨ε2, S1, R2, ω2, dr, ε', S', e3, s2, fun vs R3 ω3 H3 x3 s3 p3 => ?_⟩
  exact k _ R3 ω3 H3 (x2.trans x3) s3 ⟨v1, vs, rfl, Rep.mono x3.le d v1 p2, p3⟩
theorem sizeLine_is : (sizeLine : Nat) = 16777216 := sizeLine_eq
theorem ev_tup {es : List Expr} {As : ADen} {x1 : Nat} (h : PA X es (aOf (kx X cl) As)) : PE X (.Tuple es x1 pos) (tOf (kx X cl) (eTup As)) := by
  refine PE.im (pe_tup h) fun σ H Q hh => ?_
  obtain ⟨ε, S, R, ω, rv, ε', S', he, s, k⟩ := hh
  obtain ⟨⟨ds, ε1, S1⟩, e1, he⟩ := bind_ok he
  simp only at he
  split at he
  · rename_i hl
    cases he
    refine ⟨ε, S, R, ω, ds, ε', S', e1, s, fun vs R1 ω1 H1 x1 s1 p1 => ⟨by rw [p1.length, sizeLine_is]; exact hl, fun p np => ?_⟩⟩
    have z := s1.g.free np
    have g := Gw.tell (o := .tup vs) np z
    exact k _ _ ω1 _ (x1.trans (g.ex ω1)) (g.sr s1) ⟨p, vs, rfl, .inl tell_at, p1.mono (tell_le z)⟩
  · cases he
theorem ev_lst {es : List Expr} {As : ADen} (h : PA X es (aOf (kx X cl) As)) : PE X (.List es pos) (tOf (kx X cl) (eLst As)) := by
  refine PE.im (pe_lst h) fun σ H Q hh => ?_
  obtain ⟨ε, S, R, ω, rv, ε', S', he, s, k⟩ := hh
  obtain ⟨⟨ds, ε1, S1⟩, e1, he⟩ := bind_ok he
  simp only at he
  split at he
  · rename_i hl
    cases he
    refine ⟨ε, S, R, ω, ds, ε', S', e1, s, fun vs R1 ω1 H1 x1 s1 p1 => ⟨by rw [p1.length, sizeLine_is]; exact hl, fun p np => ?_⟩⟩
    have g : Gw R1 H1 R1 (upd H1 p (.lst vs)) := Gw.new np
    have n : RNew (kx X cl) H1 R1 (upd H1 p (.lst vs)) (.fr (.lst ds)) (.ref p) := ⟨p, _, rfl, upd_same, ⟨vs, rfl, p1⟩, s1.g.free np, np⟩
    exact k _ _ ω1 _ (x1.trans (g.ex ω1)) (g.sr s1) (n.rvr s1 x1 g)
  · cases he
/-- a new list goes into the store -/
theorem SR.put {K : Kc} {R : Rc} {ω : Om} {ε : Env} {S : Store} {σ : L2.St} {H : Hp} {a : Addr} {ob : Obj} (s : SR K R ω ε S σ H) (ho : ObjR K { R with ρ := R.ρ ++ [a] } H a ob) (h : ∃ o, H a = some o) (z : R.Z a = none) (n : a ∉ R.ρ) (m : ∀ i, ω i ≠ some a) :
    SR K { R with ρ := R.ρ ++ [a] } ω ε (S ++ [ob]) σ H := by
  have l : Le R { R with ρ := R.ρ ++ [a] } := ⟨fun _ _ h => h, List.prefix_append _ _⟩
  exact {
    g := {
      zh := s.g.zh
      sl := by simp [s.g.sl]
      st := fun j x e => by
        by_cases hj : j < S.length
        · rw [List.getElem?_append_left hj] at e
          obtain ⟨b, e1, q⟩ := s.g.st j x e
          exact ⟨b, pre_get l.ρ e1, q.mono l fun _ h => h⟩
        · have hj' : S.length ≤ j := Nat.le_of_not_lt hj
          rw [List.getElem?_append_right hj'] at e
          have hz : j - S.length = 0 := by
            cases q : j - S.length with
            | zero => rfl
            | succ m => rw [q] at e; simp at e
          rw [hz] at e
          simp at e
          subst e
          refine ⟨a, ?_, ho⟩
          have hj2 : j = R.ρ.length := by rw [← s.g.sl]; omega
          simp [hj2]
      ρz := fun b h => by
        rcases List.mem_append.mp h with h | h
        · exact s.g.ρz b h
        · rw [List.mem_singleton.mp h]; exact z
      ρn := List.nodup_append.mpr ⟨s.g.ρn, by simp, fun b h c h' => by
        rw [List.mem_singleton.mp h']
        intro q; rw [q] at h; exact n h⟩
      ρh := fun b h' => by
        rcases List.mem_append.mp h' with h' | h'
        · exact s.g.ρh b h'
        · rw [List.mem_singleton.mp h']; exact h }
    len := s.len
    sl := fun i t e => by
      obtain ⟨v, e1, q⟩ := s.sl i t e
      refine ⟨v, e1, ?_⟩
      cases t with
      | pl d => exact ⟨q.1, Rep.mono l d v q.2⟩
      | own d =>
        obtain ⟨b, o, e2, e3, e4, c⟩ := q
        exact ⟨b, o, e2, e3, e4, c.mono l⟩
    oz := s.oz
    oρ := fun i b e h' => by
      rcases List.mem_append.mp h' with h' | h'
      · exact s.oρ i b e h'
      · rw [List.mem_singleton.mp h'] at e; exact m i e
    oi := s.oi
    oh := s.oh
    on := s.on }
theorem ev_new (h : PE X e (tOf (kx X cl) Ea)) : PE X e (tOf (kx X cl) (eNew Ea)) := by
  refine PE.im h fun σ H Q hh => ?_
  obtain ⟨ε, S, R, ω, rv, ε', S', he, s, k⟩ := hh
  obtain ⟨⟨r, ε1, S1⟩, e1, he⟩ := bind_ok he
  refine ⟨ε, S, R, ω, r, ε1, S1, e1, s, fun v1 R1 ω1 H1 x1 s1 p1 => ?_⟩
  match r, he, p1 with
  | .fr (.lst ds), he, p1 =>
    cases he
    obtain ⟨a, o, rfl, ho, ⟨vs, rfl, rs⟩, z, n, m, w⟩ := p1
    have l : Le R1 { R1 with ρ := R1.ρ ++ [a] } := ⟨fun _ _ h => h, List.prefix_append _ _⟩
    have s2 := s1.put (a := a) (ob := .lst ds) ⟨vs, ho, rs.mono l⟩ ⟨_, ho⟩ z n m
    refine k _ { R1 with ρ := R1.ρ ++ [a] } ω1 H1 ?_ s2 ⟨a, ?_, rfl⟩
    · exact ⟨x1.le.trans l, x1.al, x1.fr, x1.zn, fun b h => by
        rcases List.mem_append.mp h with h | h
        · exact x1.ρn b h
        · rw [List.mem_singleton.mp h]; exact .inr w, x1.ωn⟩
    · simp [s1.g.sl]
  | .fr (.dct ks vs), he, p1 => obtain ⟨a, o, rfl, ho, c, _⟩ := p1; exact c.elim
/-! ### tests -/
theorem VR.bl {K : Kc} {R : Rc} {H : Hp} {b : Bool} {v : V} (h : VR K R H (.bl b) v) : v = .bl b := by
  rcases h with h | ⟨_, _, _, _, c⟩
  · exact h
  · exact c.elim
theorem VR.int {K : Kc} {R : Rc} {H : Hp} {b : Int} {v : V} (h : VR K R H (.int b) v) : v = .int b := by
  rcases h with h | ⟨_, _, _, _, c⟩
  · exact h
  · exact c.elim
theorem VR.str {K : Kc} {R : Rc} {H : Hp} {b : List Nat} {v : V} (h : VR K R H (.str b) v) : v = .str ⟨b.toArray⟩ := by
  rcases h with h | ⟨_, _, _, _, c⟩
  · exact h
  · exact c.elim
theorem VR.non {K : Kc} {R : Rc} {H : Hp} {v : V} (h : VR K R H .non v) : v = .non := by
  rcases h with h | ⟨_, _, _, _, c⟩
  · exact h
  · exact c.elim
/-- a value that is a bool, as a test -/
theorem ev_val (h : PT X e (tB (tOf (kx X cl) Ea))) : PT X e (cOf (kx X cl) (cVal Ea)) := by
  refine PT.im h fun σ H Q hh => ?_
  obtain ⟨ε, S, R, ω, b, ε', S', he, s, k⟩ := hh
  obtain ⟨⟨r, ε1, S1⟩, e1, he⟩ := bind_ok he
  obtain ⟨d, ed, he⟩ := bind_ok he
  refine ⟨ε, S, R, ω, r, ε1, S1, e1, s, fun v1 R1 ω1 H1 x1 s1 p1 => ?_⟩
  match d, he, ed with
  | .bl c, he, ed =>
    cases he
    exact ⟨b, (p1.vr s1 ed).bl, k R1 ω1 H1 x1 s1⟩
theorem ev_cnot {C : CDen} (h : PT X a (cOf (kx X cl) C)) : PT X (.UnaryOp .Not a pos) (cOf (kx X cl) (cNot C)) := by
  refine PT.im (pt_not h) fun σ H Q hh => ?_
  obtain ⟨ε, S, R, ω, b, ε', S', he, s, k⟩ := hh
  obtain ⟨⟨c, ε1, S1⟩, e1, he⟩ := bind_ok he
  cases he
  exact ⟨ε, S, R, ω, c, ε', S', e1, s, k⟩
theorem ev_cand1 {C : CDen} (h : PT X a (cOf (kx X cl) C)) : PW X (.BoolOp .And [a] pos) (cOf (kx X cl) C) := pw_and1 h
theorem ev_cor1 {C : CDen} (h : PT X a (cOf (kx X cl) C)) : PW X (.BoolOp .Or [a] pos) (cOf (kx X cl) C) := pw_or1 h
theorem ev_cand {rest : List Expr} {C C' : CDen} (ha : PT X a (cOf (kx X cl) C)) (hb : PW X (.BoolOp .And (b :: rest) pos) (cOf (kx X cl) C')) : PW X (.BoolOp .And (a :: b :: rest) pos) (cOf (kx X cl) (cAnd C C')) := by
  refine PW.im (pw_and ha hb) fun σ H Q hh => ?_
  obtain ⟨ε, S, R, ω, c, ε', S', he, s, k⟩ := hh
  obtain ⟨⟨c1, ε1, S1⟩, e1, he⟩ := bind_ok he
  refine ⟨ε, S, R, ω, c1, ε1, S1, e1, s, fun R1 ω1 H1 x1 s1 => ?_⟩
  cases c1 with
  | true =>
    rw [if_pos rfl]
    exact ⟨ε1, S1, R1, ω1, c, ε', S', he, s1, fun R2 ω2 H2 x2 s2 => k R2 ω2 H2 (x1.trans x2) s2⟩
  | false =>
    cases he
    rw [if_neg Bool.false_ne_true]
    exact k R1 ω1 H1 x1 s1
theorem ev_cor {rest : List Expr} {C C' : CDen} (ha : PT X a (cOf (kx X cl) C)) (hb : PW X (.BoolOp .Or (b :: rest) pos) (cOf (kx X cl) C')) : PW X (.BoolOp .Or (a :: b :: rest) pos) (cOf (kx X cl) (cOr C C')) := by
  refine PW.im (pw_or ha hb) fun σ H Q hh => ?_
  obtain ⟨ε, S, R, ω, c, ε', S', he, s, k⟩ := hh
  obtain ⟨⟨c1, ε1, S1⟩, e1, he⟩ := bind_ok he
  refine ⟨ε, S, R, ω, c1, ε1, S1, e1, s, fun R1 ω1 H1 x1 s1 => ?_⟩
  cases c1 with
  | true =>
    cases he
    rw [if_pos rfl]
    exact k R1 ω1 H1 x1 s1
  | false =>
    rw [if_neg Bool.false_ne_true]
    exact ⟨ε1, S1, R1, ω1, c, ε', S', he, s1, fun R2 ω2 H2 x2 s2 => k R2 ω2 H2 (x1.trans x2) s2⟩
theorem ev_ifexp {C : CDen} (hc : PT X c (cOf (kx X cl) C)) (ha : PE X a (tOf (kx X cl) Ea)) (hb : PE X b (tOf (kx X cl) Eb)) : PE X (.IfExp c a b pos) (tOf (kx X cl) (eIf C Ea Eb)) := by
  refine PE.im (pe_ifExp hc ha hb) fun σ H Q hh => ?_
  obtain ⟨ε, S, R, ω, rv, ε', S', he, s, k⟩ := hh
  obtain ⟨⟨c1, ε1, S1⟩, e1, he⟩ := bind_ok he
  refine ⟨ε, S, R, ω, c1, ε1, S1, e1, s, fun R1 ω1 H1 x1 s1 => ?_⟩
  cases c1 with
  | true =>
    rw [if_pos rfl]
    exact ⟨ε1, S1, R1, ω1, rv, ε', S', he, s1, fun v R2 ω2 H2 x2 s2 p2 => k v R2 ω2 H2 (x1.trans x2) s2 (p2.start x1)⟩
  | false =>
    rw [if_neg Bool.false_ne_true]
    exact ⟨ε1, S1, R1, ω1, rv, ε', S', he, s1, fun v R2 ω2 H2 x2 s2 p2 => k v R2 ω2 H2 (x1.trans x2) s2 (p2.start x1)⟩
theorem ev_one {op : PySem.BoolOp} (h : PE X a (tOf (kx X cl) Ea)) : PE X (.BoolOp op [a] pos) (tOf (kx X cl) Ea) := pe_one h
theorem ev_and {rest : List Expr} (ha : PE X a (tOf (kx X cl) Ea)) (hb : PE X (.BoolOp .And (b :: rest) pos) (tOf (kx X cl) Eb)) : PE X (.BoolOp .And (a :: b :: rest) pos) (tOf (kx X cl) (eAnd Ea Eb)) := by
  refine PE.im (pe_and ha hb) fun σ H Q hh => ?_
  obtain ⟨ε, S, R, ω, rv, ε', S', he, s, k⟩ := hh
  obtain ⟨⟨r, ε1, S1⟩, e1, he⟩ := bind_ok he
  obtain ⟨d, ed, he⟩ := bind_ok he
  refine ⟨ε, S, R, ω, r, ε1, S1, e1, s, fun v1 R1 ω1 H1 x1 s1 p1 => ?_⟩
  match d, he, ed with
  | .bl true, he, ed =>
    refine ⟨true, (p1.vr s1 ed).bl, ?_⟩
    rw [if_pos rfl]
    exact ⟨ε1, S1, R1, ω1, rv, ε', S', he, s1, fun v R2 ω2 H2 x2 s2 p2 => k v R2 ω2 H2 (x1.trans x2) s2 (p2.start x1)⟩
  | .bl false, he, ed =>
    refine ⟨false, (p1.vr s1 ed).bl, ?_⟩
    cases he
    rw [if_neg Bool.false_ne_true]
    exact k _ R1 ω1 H1 x1 s1 rfl
theorem ev_or {rest : List Expr} (ha : PE X a (tOf (kx X cl) Ea)) (hb : PE X (.BoolOp .Or (b :: rest) pos) (tOf (kx X cl) Eb)) : PE X (.BoolOp .Or (a :: b :: rest) pos) (tOf (kx X cl) (eOr Ea Eb)) := by
  refine PE.im (pe_or ha hb) fun σ H Q hh => ?_
  obtain ⟨ε, S, R, ω, rv, ε', S', he, s, k⟩ := hh
  obtain ⟨⟨r, ε1, S1⟩, e1, he⟩ := bind_ok he
  obtain ⟨d, ed, he⟩ := bind_ok he
  refine ⟨ε, S, R, ω, r, ε1, S1, e1, s, fun v1 R1 ω1 H1 x1 s1 p1 => ?_⟩
  match d, he, ed with
  | .bl true, he, ed =>
    refine ⟨true, (p1.vr s1 ed).bl, ?_⟩
    cases he
    rw [if_pos rfl]
    exact k _ R1 ω1 H1 x1 s1 rfl
  | .bl false, he, ed =>
    refine ⟨false, (p1.vr s1 ed).bl, ?_⟩
    rw [if_neg Bool.false_ne_true]
    exact ⟨ε1, S1, R1, ω1, rv, ε', S', he, s1, fun v R2 ω2 H2 x2 s2 p2 => k v R2 ω2 H2 (x1.trans x2) s2 (p2.start x1)⟩
theorem ev_not (ha : PE X a (tOf (kx X cl) Ea)) : PE X (.UnaryOp .Not a pos) (tOf (kx X cl) (eNot Ea)) := by
  refine PE.im (pe_not ha) fun σ H Q hh => ?_
  obtain ⟨ε, S, R, ω, rv, ε', S', he, s, k⟩ := hh
  obtain ⟨⟨r, ε1, S1⟩, e1, he⟩ := bind_ok he
  obtain ⟨d, ed, he⟩ := bind_ok he
  obtain ⟨rr, er, he⟩ := bind_ok he
  cases he
  refine ⟨ε, S, R, ω, r, ε', S', e1, s, fun v1 R1 ω1 H1 x1 s1 p1 => ?_⟩
  match d, er, ed with
  | .bl c, er, ed =>
    cases er
    exact ⟨c, (p1.vr s1 ed).bl, k _ R1 ω1 H1 x1 s1 rfl⟩
theorem ev_chain {e : Expr} {f g : D → D → Store → Rs RV} {r r' : R2} (h : PE X e (tChain r r' (tOf (kx X cl) Ea) (tOf (kx X cl) Eb) (tOf (kx X cl) Ec))) (o1 : OpOk (kx X cl) f r) (o2 : OpOk (kx X cl) g r') : PE X e (tOf (kx X cl) (eChain f g Ea Eb Ec)) := by
  refine PE.im h fun σ H Q hh => ?_
  obtain ⟨ε, S, R, ω, rv, ε', S', he, s, k⟩ := hh
  obtain ⟨⟨r1, ε1, S1⟩, e1, he⟩ := bind_ok he
  obtain ⟨⟨r2, ε2, S2⟩, e2, he⟩ := bind_ok he
  obtain ⟨x, ex, he⟩ := bind_ok he
  obtain ⟨y, ey, he⟩ := bind_ok he
  obtain ⟨rr, er, he⟩ := bind_ok he
  refine ⟨ε, S, R, ω, r1, ε1, S1, e1, s, fun v1 R1 ω1 H1 x1 s1 p1 => ⟨ε1, S1, R1, ω1, r2, ε2, S2, e2, s1, fun v2 R2 ω2 H2 x2 s2 p2 => ?_⟩⟩
  have q1 := p1.keep x2
  refine o1 x y S2 rr v1 v2 R2 H2 _ er s2.g (q1.vr s2 ex) (p2.vr s2 ey) fun v' R3 H3 g n => ?_
  have s3 := g.sr s2
  have x3 := (x1.trans x2).trans (g.ex ω2)
  match rr, he, n with
  | .pl (.bl true), he, n =>
    refine ⟨true, n, ?_⟩
    rw [if_pos rfl]
    obtain ⟨⟨r3, ε4, S4⟩, e4, he⟩ := bind_ok he
    obtain ⟨y', ey', he⟩ := bind_ok he
    obtain ⟨z, ez, he⟩ := bind_ok he
    obtain ⟨vv, ev, he⟩ := bind_ok he
    cases he
    refine ⟨ε2, S2, R3, ω2, r3, ε', S', e4, s3, fun v4 R4 ω4 H4 x4 s4 p4 => ?_⟩
    have q2 := (p2.keep (g.ex ω2)).keep x4
    refine o2 y' z S' rv v2 v4 R4 H4 Q ev s4.g (q2.vr s4 ey') (p4.vr s4 ez) fun v5 R5 H5 g5 n5 => ?_
    exact k v5 R5 ω4 H5 ((x3.trans x4).trans (g5.ex ω4)) (g5.sr s4) (n5.rvr s4 (x3.trans x4) g5)
  | .pl (.bl false), he, n =>
    refine ⟨false, n, ?_⟩
    cases he
    rw [if_neg Bool.false_ne_true]
    exact k _ R3 ω2 H3 x3 s3 rfl
end
end Mp

/-! Stores, statements, loops, comprehensions, calls. -/
namespace Mp
open PySem PySem.Spec PyProof.Rows L2

section
variable {K : Kc} {R R' R1 : Rc} {ω ω' ω0 ω1 : Om} {H H' H0 H1 : Hp} {σ : L2.St} {ε ε' ε1 : Env} {S S' S1 S2 : Store}
theorem SR.store_pl (s : SR K R ω ε S σ H) {i : Nat} {d : D} {v : V} (r : Rep K R d v) : SR K R (ω.off i) (ε.set i (some (.pl d))) S (σ.set i (some v)) H where
  g := s.g
  len := by rw [List.length_set, List.length_set]; exact s.len
  sl := fun j t h => by
    rw [slot_set] at h
    split at h
    · rename_i q
      subst q
      split at h
      · rename_i hl
        cases h
        exact ⟨v, by rw [List.getElem?_set_self (by rw [← s.len]; exact hl)], off_same, r⟩
      · cases h
    · rename_i q
      obtain ⟨u, e, p⟩ := s.sl j t h
      exact ⟨u, by rw [List.getElem?_set_ne q]; exact e, by rw [off_ne (Ne.symm q)]; exact p⟩
  oz := fun j a h => s.oz j a (off_some h).2
  oρ := fun j a h => s.oρ j a (off_some h).2
  oi := fun j k a h h' => s.oi j k a (off_some h).2 (off_some h').2
  oh := fun j a h => s.oh j a (off_some h).2
  on := fun j a h => by
    obtain ⟨d', e⟩ := s.on j a (off_some h).2
    exact ⟨d', by rw [slot_set, if_neg (Ne.symm (off_some h).1)]; exact e⟩
def Om.put (ω : Om) (i : Nat) (a : Addr) : Om := fun j => if j = i then some a else ω j
theorem put_same {i : Nat} {a : Addr} : ω.put i a i = some a := by unfold Om.put; rw [if_pos rfl]
theorem put_ne {i j : Nat} {a : Addr} (h : j ≠ i) : ω.put i a j = ω j := by unfold Om.put; rw [if_neg h]
theorem put_some {i j : Nat} {a b : Addr} (h : ω.put i a j = some b) : (j = i ∧ b = a) ∨ (j ≠ i ∧ ω j = some b) := by
  by_cases e : j = i
  · subst e; rw [put_same] at h; cases h; exact .inl ⟨rfl, rfl⟩
  · rw [put_ne e] at h; exact .inr ⟨e, h⟩
theorem SR.store_own (s : SR K R ω ε S σ H) {i : Nat} {d : D} {a : Addr} {o : HO} (hi : i < ε.length) (ho : H a = some o) (c : CR K R d o) (z : R.Z a = none) (n : a ∉ R.ρ) (m : ∀ j, ω j ≠ some a) :
    SR K R (ω.put i a) (ε.set i (some (.own d))) S (σ.set i (some (.ref a))) H where
  g := s.g
  len := by rw [List.length_set, List.length_set]; exact s.len
  sl := fun j t h => by
    rw [slot_set] at h
    split at h
    · rename_i q
      subst q
      first | rw [if_pos hi] at h | skip
      cases h
      exact ⟨.ref a, by rw [List.getElem?_set_self (by rw [← s.len]; exact hi)], a, o, rfl, put_same, ho, c⟩
    · rename_i q
      obtain ⟨u, e, p⟩ := s.sl j t h
      exact ⟨u, by rw [List.getElem?_set_ne q]; exact e, by rw [put_ne (Ne.symm q)]; exact p⟩
  oz := fun j b h => by
    rcases put_some h with ⟨_, e⟩ | ⟨_, e⟩
    · rw [e]; exact z
    · exact s.oz j b e
  oρ := fun j b h => by
    rcases put_some h with ⟨_, e⟩ | ⟨_, e⟩
    · rw [e]; exact n
    · exact s.oρ j b e
  oi := fun j k b h h' => by
    rcases put_some h with ⟨q, e⟩ | ⟨q, e⟩
    · rcases put_some h' with ⟨q', e'⟩ | ⟨q', e'⟩
      · rw [q, q']
      · rw [e] at e'; exact absurd e' (m k)
    · rcases put_some h' with ⟨q', e'⟩ | ⟨q', e'⟩
      · rw [e'] at e; exact absurd e (m j)
      · exact s.oi j k b e e'
  oh := fun j b h => by
    rcases put_some h with ⟨_, e⟩ | ⟨_, e⟩
    · rw [e]; exact ⟨o, ho⟩
    · exact s.oh j b e
  on := fun j b h => by
    rcases put_some h with ⟨q, e⟩ | ⟨q, e⟩
    · subst q; exact ⟨d, by rw [slot_set, if_pos rfl, if_pos hi]⟩
    · obtain ⟨d', e'⟩ := s.on j b e
      exact ⟨d', by rw [slot_set, if_neg (Ne.symm q)]; exact e'⟩
theorem Ex.om (x : Ex R1 ω1 H1 R ω H) (h : ∀ i a, ω' i = some a → (∃ j, ω1 j = some a) ∨ H1 a = none) : Ex R1 ω1 H1 R ω' H := ⟨x.le, x.al, x.fr, x.zn, x.ρn, h⟩
theorem Ex.off (x : Ex R1 ω1 H1 R ω H) (i : Nat) : Ex R1 ω1 H1 R (ω.off i) H := x.om fun j a h => x.ωn j a (off_some h).2
theorem Ex.put {i : Nat} {a : Addr} (x : Ex R1 ω1 H1 R ω H) (w : H1 a = none ∨ ∃ i, ω1 i = some a) : Ex R1 ω1 H1 R (ω.put i a) H := x.om fun j b h => by
  rcases put_some h with ⟨_, e⟩ | ⟨_, e⟩
  · rw [e]; exact w.symm
  · exact x.ωn j b e

/-! ### a comprehension's block -/
def Om.offs (ω : Om) (vs : List Nat) : Om := fun j => if j ∈ vs then none else ω j
theorem offs_some {vs : List Nat} {j : Nat} {a : Addr} (h : ω.offs vs j = some a) : j ∉ vs ∧ ω j = some a := by
  unfold Om.offs at h
  split at h
  · cases h
  · rename_i q; exact ⟨q, h⟩
theorem SR.forget2 (s : SR K R ω ε S σ H) (i : Nat) : SR K R (ω.off i) (ε.set i none) S (σ.set i none) H where
  g := s.g
  len := by rw [List.length_set, List.length_set]; exact s.len
  sl := fun j t h => by
    rw [slot_set] at h
    split at h
    · split at h <;> cases h
    · rename_i q
      obtain ⟨u, e, p⟩ := s.sl j t h
      exact ⟨u, by rw [List.getElem?_set_ne q]; exact e, by rw [off_ne (Ne.symm q)]; exact p⟩
  oz := fun j a h => s.oz j a (off_some h).2
  oρ := fun j a h => s.oρ j a (off_some h).2
  oi := fun j k a h h' => s.oi j k a (off_some h).2 (off_some h').2
  oh := fun j a h => s.oh j a (off_some h).2
  on := fun j a h => by
    obtain ⟨d', e⟩ := s.on j a (off_some h).2
    exact ⟨d', by rw [slot_set, if_neg (Ne.symm (off_some h).1)]; exact e⟩
theorem SR.wiped (s : SR K R ω ε S σ H) : ∀ vs : List Nat, SR K R (ω.offs vs) (wipe ε vs) S (L2.wipe σ vs) H
  | [] => by
    have e : ω.offs [] = ω := by funext j; unfold Om.offs; rw [if_neg (by simp)]
    rw [e]; exact s
  | v :: vs => by
    have q := (SR.wiped s vs).forget2 v
    have e : (ω.offs vs).off v = ω.offs (v :: vs) := by
      funext j
      unfold Om.off Om.offs
      by_cases h : j = v
      · subst h; simp
      · simp [h]
    rw [e] at q
    exact q
theorem slot_wipe {j : Nat} : ∀ {vs : List Nat}, slot (wipe ε vs) j = if j ∈ vs then none else slot ε j
  | [] => by simp [wipe]
  | v :: vs => by
    have ih := slot_wipe (j := j) (vs := vs)
    show slot ((wipe ε vs).set v none) j = _
    rw [slot_set, ih]
    by_cases h : v = j
    · subst h; simp
    · rw [if_neg h]
      by_cases h2 : j ∈ vs
      · rw [if_pos h2, if_pos (List.mem_cons_of_mem _ h2)]
      · rw [if_neg h2, if_neg (by intro q; rcases List.mem_cons.mp q with q | q; exact h q.symm; exact h2 q)]
theorem SR.unwipe {vs : List Nat} (s1 : SR K R1 ω1 ε1 S1 σ H1) (sb : SR K R' ω' (wipe ε1 vs) S2 (L2.wipe σ vs) H') (x : Ex R1 (ω1.offs vs) H1 R' ω' H') : SR K R' ω1 ε1 S2 σ H' ∧ Ex R1 ω1 H1 R' ω1 H' := by
  have key : ∀ j a, j ∉ vs → ω1 j = some a → ω' j = some a := fun j a hj h => by
    obtain ⟨d, e⟩ := s1.on j a h
    obtain ⟨v, e1, a1, o1, rfl, e2, _⟩ := s1.sl j _ e
    rw [h] at e2; cases e2
    obtain ⟨v2, e3, a2, o2, rfl, e4, _⟩ := sb.sl j _ (by rw [slot_wipe, if_neg hj]; exact e)
    rw [wipe_out hj, e1] at e3; cases e3
    exact e4
  have inn : ∀ j a, j ∈ vs → ω1 j = some a → ∀ i, ω1.offs vs i ≠ some a := fun j a hj h i q => by
    obtain ⟨q1, q2⟩ := offs_some q
    rw [s1.oi i j a q2 h] at q1
    exact q1 hj
  constructor
  · exact {
      g := sb.g
      len := s1.len
      sl := fun j t h => by
        obtain ⟨v, e, p⟩ := s1.sl j t h
        refine ⟨v, e, ?_⟩
        cases t with
        | pl d => exact ⟨p.1, Rep.mono x.le d v p.2⟩
        | own d =>
          obtain ⟨a, o, rfl, e2, ho, c⟩ := p
          by_cases hj : j ∈ vs
          · exact ⟨a, o, rfl, e2, x.fr a o ho (s1.oρ j a e2) (inn j a hj e2), c.mono x.le⟩
          · obtain ⟨v2, e3, a2, o2, rfl, e4, ho2, c2⟩ := sb.sl j _ (by rw [slot_wipe, if_neg hj]; exact h)
            rw [wipe_out hj, e] at e3; cases e3
            exact ⟨a, o2, rfl, e2, ho2, c2⟩
      oz := fun i a h => by
        by_cases hi : i ∈ vs
        · cases q : R'.Z a with
          | none => rfl
          | some o =>
            rcases x.zn a o q with q | q | ⟨j, q⟩
            · rw [s1.oz i a h] at q; cases q
            · obtain ⟨o', e⟩ := s1.oh i a h
              rw [e] at q; cases q
            · exact absurd q (inn i a hi h j)
        · exact sb.oz i a (key i a hi h)
      oρ := fun i a h => by
        by_cases hi : i ∈ vs
        · intro q
          rcases x.ρn a q with q | q | ⟨j, q⟩
          · exact s1.oρ i a h q
          · obtain ⟨o', e⟩ := s1.oh i a h
            rw [e] at q; cases q
          · exact absurd q (inn i a hi h j)
        · exact sb.oρ i a (key i a hi h)
      oi := s1.oi
      oh := fun i a h => let ⟨o, e⟩ := s1.oh i a h; x.al a o e
      on := s1.on }
  · exact ⟨x.le, x.al, fun a o h n m => x.fr a o h n fun i q => m i (offs_some q).2, fun a o h => (x.zn a o h).imp id (Or.imp id fun ⟨i, q⟩ => ⟨i, (offs_some q).2⟩),
      fun a h => (x.ρn a h).imp id (Or.imp id fun ⟨i, q⟩ => ⟨i, (offs_some q).2⟩), fun i a h => .inl ⟨i, h⟩⟩
/-- an object that nobody tells changes -/
theorem SR.other {a : Addr} {o : HO} (s : SR K R ω ε S σ H) (z : R.Z a = none) (n : a ∉ R.ρ) (m : ∀ i, ω i ≠ some a) : SR K R ω ε S σ (upd H a o) := by
  have ne : ∀ b, b ≠ a → upd H a o b = H b := fun b h => upd_ne h
  have nz : ∀ b o', R.Z b = some o' → b ≠ a := fun b o' h q => by rw [q, z] at h; cases h
  have nρ : ∀ b, b ∈ R.ρ → b ≠ a := fun b h q => n (by rw [← q]; exact h)
  have nω : ∀ i b, ω i = some b → b ≠ a := fun i b h q => m i (by rw [← q]; exact h)
  exact {
    g := {
      zh := fun b o' h => by rw [ne b (nz b o' h)]; exact s.g.zh b o' h
      sl := s.g.sl
      st := fun j ob h => by
        obtain ⟨b, e, q⟩ := s.g.st j ob h
        refine ⟨b, e, ?_⟩
        have hb := ne b (nρ b (List.mem_of_getElem? e))
        cases ob with
        | lst ds => obtain ⟨vs, q1, q2⟩ := q; exact ⟨vs, by rw [hb]; exact q1, q2⟩
        | ins c fs => obtain ⟨dx, vs, q1, q2⟩ := q; exact ⟨dx, vs, by rw [hb]; exact q1, q2⟩
        | dct _ _ => exact q
        | gone => trivial
      ρz := s.g.ρz
      ρn := s.g.ρn
      ρh := fun b h => by rw [ne b (nρ b h)]; exact s.g.ρh b h }
    len := s.len
    sl := fun i t h => by
      obtain ⟨v, e, p⟩ := s.sl i t h
      refine ⟨v, e, ?_⟩
      cases t with
      | pl d => exact p
      | own d =>
        obtain ⟨b, o', e1, e2, e3, c⟩ := p
        exact ⟨b, o', e1, e2, by rw [ne b (nω i b e2)]; exact e3, c⟩
    oz := s.oz
    oρ := s.oρ
    oi := s.oi
    oh := fun i b h => by rw [ne b (nω i b h)]; exact s.oh i b h
    on := s.on }
theorem Ex.other {a : Addr} {o : HO} (x : Ex R1 ω1 H1 R ω H) (h : H1 a = none) : Ex R1 ω1 H1 R ω (upd H a o) :=
  ⟨x.le, fun b o' e => by rw [upd_ne (ne_of_none e h)]; exact x.al b o' e, fun b o' e n m => by rw [upd_ne (ne_of_none e h)]; exact x.fr b o' e n m, x.zn, x.ρn, x.ωn⟩
/-- an object that stands apart from all that is told -/
structure Apart (R : Rc) (ω : Om) (a : Addr) : Prop where
  z : R.Z a = none
  n : a ∉ R.ρ
  m : ∀ i, ω i ≠ some a
theorem Apart.new (s : SR K R ω ε S σ H) {a : Addr} (h : H a = none) : Apart R ω a :=
  ⟨s.g.free h, fun q => (by obtain ⟨o, e⟩ := s.g.ρh a q; rw [h] at e; cases e), fun i q => (by obtain ⟨o, e⟩ := s.oh i a q; rw [h] at e; cases e)⟩
theorem Apart.keep {a : Addr} {o : HO} (p : Apart R ω a) (ho : H a = some o) (x : Ex R ω H R' ω' H') : Apart R' ω' a ∧ H' a = some o := by
  refine ⟨⟨?_, fun q => ?_, fun i q => ?_⟩, x.fr a o ho p.n p.m⟩
  · cases q : R'.Z a with
    | none => rfl
    | some o' =>
      rcases x.zn a o' q with q | q | ⟨i, q⟩
      · rw [p.z] at q; cases q
      · rw [ho] at q; cases q
      · exact absurd q (p.m i)
  · rcases x.ρn a q with q | q | ⟨i, q⟩
    · exact p.n q
    · rw [ho] at q; cases q
    · exact p.m i q
  · rcases x.ωn i a q with ⟨j, q⟩ | q
    · exact p.m j q
    · rw [ho] at q; cases q
end

section
variable {X : Cx} {cl : Nat → Addr} {e a b c : Expr} {Ea Eb Ec : Den} {pos : Pos}
/-! ### targets -/
theorem Stay.refl (ts : List Nat) (σ : L2.St) : Stay ts σ σ := ⟨rfl, fun _ _ => rfl⟩
theorem Stay.trans {ts us : List Nat} {σ σ1 σ2 : L2.St} (a : Stay ts σ σ1) (b : Stay us σ1 σ2) : Stay (ts ++ us) σ σ2 :=
  ⟨b.1.trans a.1, fun j h => (b.2 j fun q => h (List.mem_append_right _ q)).trans (a.2 j fun q => h (List.mem_append_left _ q))⟩
theorem Stay.mono {ts us : List Nat} {σ σ1 : L2.St} (a : Stay ts σ σ1) (h : ∀ i ∈ ts, i ∈ us) : Stay us σ σ1 := ⟨a.1, fun j q => a.2 j fun z => q (h j z)⟩
theorem Stay.set {i : Nat} {σ : L2.St} {x : Option V} : Stay [i] σ (σ.set i x) := ⟨List.length_set .., fun j h => by rw [List.getElem?_set_ne (by intro q; subst q; exact h (by simp))]⟩
theorem Stay.wipe {vs : List Nat} {σ σ1 : L2.St} (a : Stay vs σ σ1) : L2.wipe σ1 vs = L2.wipe σ vs := by
  apply List.ext_getElem?
  intro j
  by_cases h : j ∈ vs
  · have inn : ∀ (τ : L2.St) (us : List Nat), j ∈ us → (L2.wipe τ us)[j]? = if j < τ.length then some none else none := by
      intro τ us
      induction us with
      | nil => intro q; cases q
      | cons v r ih =>
        intro q
        show ((L2.wipe τ r).set v none)[j]? = _
        by_cases e : v = j
        · subst e
          rw [List.getElem?_set]
          simp [wipe_length]
        · rw [List.getElem?_set_ne e]
          exact ih ((List.mem_cons.mp q).elim (fun z => absurd z.symm e) id)
    rw [inn _ _ h, inn _ _ h, a.1]
  · rw [wipe_out h, wipe_out h]; exact a.2 j h
theorem gv_name {i : Nat} {x : Str} (h : PG X (.Name x pos) (gName i)) : PG X (.Name x pos) (gOf (kx X cl) [i] (tName i)) := by
  refine PG.im h fun v σ H Q hh => ?_
  obtain ⟨d, ε, S, R, ω, ε', he, s, r, k⟩ := hh
  cases he
  exact k _ R (ω.off i) H ((Ex.refl R ω H).off i) (s.store_pl r) .set
theorem gv_nil : PGs X [] (gsOf (kx X cl) [] tsNil) := by
  refine PGs.im pgs_nil fun vs σ H Q hh => ?_
  obtain ⟨ds, ε, S, R, ω, ε', he, s, r, k⟩ := hh
  match ds, he, r with
  | [], he, r =>
    cases he
    exact ⟨r, k σ R ω H (.refl _ _ _) s (.refl _ _)⟩
theorem gv_cons {es : List Expr} {T : TDen} {Ts : TsDen} {ts us : List Nat} (h1 : PG X e (gOf (kx X cl) ts T)) (h2 : PGs X es (gsOf (kx X cl) us Ts))
    (hs : (assignEach (e :: es) X.env).map (·.2) = assign e X.env :: (assignEach es X.env).map (·.2) := by rfl) : PGs X (e :: es) (gsOf (kx X cl) (ts ++ us) (tsCons T Ts)) := by
  refine PGs.im (pgs_cons h1 h2 hs) fun vs σ H Q hh => ?_
  obtain ⟨ds, ε, S, R, ω, ε', he, s, r, k⟩ := hh
  match ds, he, r with
  | d :: dr, he, r =>
    obtain ⟨v, vr, rfl, r1, r2⟩ := r
    obtain ⟨ε1, e1, he⟩ := bind_ok he
    exact ⟨v, vr, rfl, d, ε, S, R, ω, ε1, e1, s, r1, fun σ1 R1 ω1 H1 x1 s1 y1 => ⟨dr, ε1, S, R1, ω1, ε', he, s1, r2.mono x1.le, fun σ2 R2 ω2 H2 x2 s2 y2 => k σ2 R2 ω2 H2 (x1.trans x2) s2 (y1.trans y2)⟩⟩
theorem gv_tup {es : List Expr} {n k : Nat} {Ts : TsDen} {ts : List Nat} (hc : X.calm = true) (h : PGs X es (gsOf (kx X cl) ts Ts))
    (hn : (assignEach es X.env).length = n := by rfl) (hst : (assignEach es X.env).findIdx? (·.1) = none := by rfl) : PG X (.Tuple es k pos) (gOf (kx X cl) ts (tTup n Ts)) := by
  refine PG.im (pg_tup hc h hn hst) fun v σ H Q hh => ?_
  obtain ⟨d, ε, S, R, ω, ε', he, s, r, k⟩ := hh
  match d, he, r with
  | .tup ds, he, r =>
    obtain ⟨a, vs, rfl, z, rs⟩ := r
    simp only [tTup] at he
    split at he
    · rename_i hl
      exact ⟨a, vs, rfl, z.elim (fun z => .inl (.inl (s.g.zh a _ z))) .inr, by rw [rs.length]; exact hl, ds, ε, S, R, ω, ε', he, s, rs, k⟩
    · cases he

/-! ### statements -/
theorem sv_nil : PSs X [] (sOf (kx X cl) sNil) := by
  refine PSs.im pss_nil fun D σ H hh => ?_
  obtain ⟨ε, S, R, ω, o, he, s, k⟩ := hh
  cases he
  exact k σ R ω H (.refl _ _ _) s
theorem sv_cons {st : Stmt} {rest : List Stmt} {M N : SDen} (h1 : PS X st (sOf (kx X cl) M)) (h2 : PSs X rest (sOf (kx X cl) N)) : PSs X (st :: rest) (sOf (kx X cl) (sSeq M N)) := by
  refine PSs.im (pss_cons h1 h2) fun D σ H hh => ?_
  obtain ⟨ε, S, R, ω, o, he, s, k⟩ := hh
  obtain ⟨o1, e1, he⟩ := bind_ok he
  refine ⟨ε, S, R, ω, o1, e1, s, ?_⟩
  cases o1 with
  | nx ε1 S1 => exact fun σ1 R1 ω1 H1 x1 s1 => ⟨ε1, S1, R1, ω1, o, he, s1, k.step x1⟩
  | rt f d S1 => cases he; exact k
  | bk ε1 S1 => cases he; exact k
  | ct ε1 S1 => cases he; exact k
theorem sv_one {st : Stmt} {M : SDen} (h1 : PS X st (sOf (kx X cl) M)) : PSs X [st] (sOf (kx X cl) M) := pss_one h1
theorem sv_pass : PS X (.Pass pos) (sOf (kx X cl) sPass) := by
  refine PS.im ps_pass fun D σ H hh => ?_
  obtain ⟨ε, S, R, ω, o, he, s, k⟩ := hh
  cases he
  exact k σ R ω H (.refl _ _ _) s
theorem sv_break : PS X (.Break pos) (sOf (kx X cl) sBreak) := by
  refine PS.im ps_break fun D σ H hh => ?_
  obtain ⟨ε, S, R, ω, o, he, s, k⟩ := hh
  cases he
  exact k σ R ω H (.refl _ _ _) s
theorem sv_continue : PS X (.Continue pos) (sOf (kx X cl) sCont) := by
  refine PS.im ps_continue fun D σ H hh => ?_
  obtain ⟨ε, S, R, ω, o, he, s, k⟩ := hh
  cases he
  exact k σ R ω H (.refl _ _ _) s
theorem sv_expr (he : PE X e (tOf (kx X cl) Ea)) (hs : swapsWith e none pos.line X.env = pure false := by rfl) : PS X (.Expr e pos) (sOf (kx X cl) (sDrop Ea)) := by
  refine PS.im (ps_expr he hs) fun D σ H hh => ?_
  obtain ⟨ε, S, R, ω, o, he, s, k⟩ := hh
  obtain ⟨⟨r, ε1, S1⟩, e1, he⟩ := bind_ok he
  cases he
  exact ⟨ε, S, R, ω, r, ε1, S1, e1, s, fun v R1 ω1 H1 x1 s1 p1 => k σ R1 ω1 H1 x1 s1⟩
theorem sv_ret (he : PE X e (tOf (kx X cl) Ea)) : PS X (.Return (some e) pos) (sOf (kx X cl) (sRet Ea)) := by
  refine PS.im (ps_ret he) fun D σ H hh => ?_
  obtain ⟨ε, S, R, ω, o, he, s, k⟩ := hh
  obtain ⟨⟨r, ε1, S1⟩, e1, he⟩ := bind_ok he
  refine ⟨ε, S, R, ω, r, ε1, S1, e1, s, fun v R1 ω1 H1 x1 s1 p1 => ?_⟩
  cases r with
  | pl d => cases he; exact k v R1 ω1 H1 x1 s1.g (.plain p1)
  | fr d =>
    cases he
    obtain ⟨a, o, e, ho, c, z, n, m, w⟩ := p1
    exact k v R1 ω1 H1 x1 s1.g (.fresh ⟨a, o, e, ho, c, z, n, w⟩)
  | bor i =>
    simp only at he
    split at he
    · rename_i d q
      cases he
      obtain ⟨u, e2, a, o, rfl, e3, ho, c⟩ := s1.sl i _ q
      have p1' : σ[i]? = some (some v) := p1
      rw [p1'] at e2; cases e2
      exact k _ R1 ω1 H1 x1 s1.g (.fresh ⟨a, o, rfl, ho, c, s1.oz i a e3, s1.oρ i a e3, (x1.ωn i a e3).symm⟩)
    · rename_i d q
      cases he
      obtain ⟨u, e2, _, r⟩ := s1.sl i _ q
      have p1' : σ[i]? = some (some v) := p1
      rw [p1'] at e2; cases e2
      exact k _ R1 ω1 H1 x1 s1.g (.plain r)
    · cases he
theorem sv_retn : PS X (.Return none pos) (sOf (kx X cl) sRetN) := by
  refine PS.im ps_retN fun D σ H hh => ?_
  obtain ⟨ε, S, R, ω, o, he, s, k⟩ := hh
  cases he
  exact k .non R ω H (.refl _ _ _) s.g (.plain rfl)
theorem sv_if {p q : List Stmt} {C : CDen} {M N : SDen} (hc : PT X c (cOf (kx X cl) C)) (ha : PSs X p (sOf (kx X cl) M)) (hb : PSs X q (sOf (kx X cl) N)) : PS X (.If c p q pos) (sOf (kx X cl) (sIf C M N)) := by
  refine PS.im (ps_if hc ha hb) fun D σ H hh => ?_
  obtain ⟨ε, S, R, ω, o, he, s, k⟩ := hh
  obtain ⟨⟨t, ε1, S1⟩, e1, he⟩ := bind_ok he
  refine ⟨ε, S, R, ω, t, ε1, S1, e1, s, fun R1 ω1 H1 x1 s1 => ?_⟩
  cases t with
  | true => rw [if_pos rfl]; exact ⟨ε1, S1, R1, ω1, o, he, s1, k.step x1⟩
  | false => rw [if_neg Bool.false_ne_true]; exact ⟨ε1, S1, R1, ω1, o, he, s1, k.step x1⟩
/-- name = value, over any reading of the value -/
theorem set_im {te : TE} {i : Nat} (h : ∀ σ H Q, tOf (kx X cl) Ea σ H Q → te σ H Q) (D : Ends) (σ : L2.St) (H : Hp) (hh : sOf (kx X cl) (sSet i Ea) D σ H) : tAsg te (gName i) D σ H := by
  obtain ⟨ε, S, R, ω, o, he, s, k⟩ := hh
  obtain ⟨⟨r, ε1, S1⟩, e1, he⟩ := bind_ok he
  obtain ⟨⟨d, ε2⟩, e2, he⟩ := bind_ok he
  cases he
  refine h _ _ _ ⟨ε, S, R, ω, r, ε1, S1, e1, s, fun v1 R1 ω1 H1 x1 s1 p1 => ?_⟩
  obtain ⟨R2, ω2, x2, s2, p2⟩ := p1.fix s1 x1 e2
  exact k _ R2 (ω2.off i) H1 (x2.off i) (s2.store_pl p2)
theorem own_im {te : TE} {i : Nat} (h : ∀ σ H Q, tOf (kx X cl) Ea σ H Q → te σ H Q) (D : Ends) (σ : L2.St) (H : Hp) (hh : sOf (kx X cl) (sOwn i Ea) D σ H) : tAsg te (gName i) D σ H := by
  obtain ⟨ε, S, R, ω, o, he, s, k⟩ := hh
  obtain ⟨⟨r, ε1, S1⟩, e1, he⟩ := bind_ok he
  refine h _ _ _ ⟨ε, S, R, ω, r, ε1, S1, e1, s, fun v1 R1 ω1 H1 x1 s1 p1 => ?_⟩
  cases r with
  | pl d => cases he; exact k _ R1 (ω1.off i) H1 (x1.off i) (s1.store_pl p1)
  | fr d =>
    simp only at he
    split at he
    · rename_i hl
      cases he
      obtain ⟨a, o, rfl, ho, c, z, n, m, w⟩ := p1
      exact k _ R1 (ω1.put i a) H1 (x1.put w) (s1.store_own hl ho c z n m)
    · cases he
  | bor j =>
    have p1' : σ[j]? = some (some v1) := p1
    simp only at he
    split at he
    · rename_i d q
      split at he
      · rename_i hl
        cases he
        obtain ⟨u, e2, a, o, rfl, e3, ho, c⟩ := s1.sl j _ q
        rw [p1'] at e2; cases e2
        have sf := s1.forget j
        refine k _ R1 ((ω1.off j).put i a) H1 ((x1.off j).put (x1.ωn j a e3).symm) (sf.store_own (by rw [List.length_set]; exact hl) ho c (s1.oz j a e3) (s1.oρ j a e3) fun l q' => ?_)
        obtain ⟨q1, q2⟩ := off_some q'
        exact q1 (s1.oi l j a q2 e3)
      · cases he
    · rename_i d q
      cases he
      obtain ⟨u, e2, _, r⟩ := s1.sl j _ q
      rw [p1'] at e2; cases e2
      exact k _ R1 (ω1.off i) H1 (x1.off i) (s1.store_pl r)
    · cases he
theorem sv_set {st : Stmt} {i : Nat} (h : PS X st (tAsg (tOf (kx X cl) Ea) (gName i))) : PS X st (sOf (kx X cl) (sSet i Ea)) := PS.im h (set_im fun _ _ _ q => q)
theorem sv_own {st : Stmt} {i : Nat} (h : PS X st (tAsg (tOf (kx X cl) Ea) (gName i))) : PS X st (sOf (kx X cl) (sOwn i Ea)) := PS.im h (own_im fun _ _ _ q => q)
theorem sv_asg {st : Stmt} {T : TDen} {ts : List Nat} (h : PS X st (tAsg (tOf (kx X cl) Ea) (gOf (kx X cl) ts T))) : PS X st (sOf (kx X cl) (sAsg T Ea)) := by
  refine PS.im h fun D σ H hh => ?_
  obtain ⟨ε, S, R, ω, o, he, s, k⟩ := hh
  obtain ⟨⟨r, ε1, S1⟩, e1, he⟩ := bind_ok he
  obtain ⟨⟨d, ε2⟩, e2, he⟩ := bind_ok he
  obtain ⟨ε3, e3, he⟩ := bind_ok he
  cases he
  refine ⟨ε, S, R, ω, r, ε1, S1, e1, s, fun v1 R1 ω1 H1 x1 s1 p1 => ?_⟩
  obtain ⟨R2, ω2, x2, s2, p2⟩ := p1.fix s1 x1 e2
  exact ⟨d, ε2, S1, R2, ω2, ε3, e3, s2, p2, fun σ' R' ω' H' x' s' _ => k σ' R' ω' H' (x2.trans x') s'⟩
/-! ### loops -/
theorem sv_for {iter tg : Expr} {body : List Stmt} {I : IDen} {T : TDen} {M : SDen} {ts : List Nat} (h : PS X (.For tg iter body [] pos) (tFor (iOf (kx X cl) I) (gOf (kx X cl) ts T) (sOf (kx X cl) M))) : PS X (.For tg iter body [] pos) (sOf (kx X cl) (sFor T I M)) := by
  refine PS.im h fun D σ H hh => ?_
  obtain ⟨ε, S, R, ω, o, he, s, k⟩ := hh
  obtain ⟨⟨xs, ε1, S1⟩, e1, he⟩ := bind_ok he
  refine ⟨ε, S, R, ω, xs, ε1, S1, e1, s, fun J R1 ω1 H1 x1 s1 w => ?_⟩
  refine ⟨fun i m σ2 H2 => ∃ ε2 S2 R2 ω2, SR (kx X cl) R2 ω2 ε2 S2 σ2 H2 ∧ Ex R1 ω1 H1 R2 ω2 H2 ∧ forGo T M (xs.drop i) ε2 S2 = .ok o ∧ m = xs.length - i ∧ i ≤ xs.length, ⟨xs.length, ε1, S1, R1, ω1, s1, .refl _ _ _, by simpa using he, by simp, by simp⟩, ?_⟩
  rintro i m σ2 H2 ⟨ε2, S2, R2, ω2, s2, x2, hgo, rfl, hil⟩
  by_cases hi : i < xs.length
  · refine .inr ⟨w.go i S2 H2 R2 x2.le s2.g hi, fun σ' H' => ∃ ε3 S3 R3 ω3, SR (kx X cl) R3 ω3 ε3 S3 σ' H' ∧ Ex R1 ω1 H1 R3 ω3 H' ∧ forGo T M (xs.drop (i + 1)) ε3 S3 = .ok o, fun σ' H' ⟨ε3, S3, R3, ω3, q1, q2, q3⟩ => ⟨xs.length - (i + 1), by omega, ε3, S3, R3, ω3, q1, q2, q3, rfl, hi⟩, fun x H' y => ?_⟩
    rw [List.drop_eq_getElem_cons hi] at hgo
    obtain ⟨ε3, e3, hgo⟩ := bind_ok hgo
    obtain ⟨o1, e4, hgo⟩ := bind_ok hgo
    obtain ⟨R3, g3, r3⟩ := w.yl i S2 H2 R2 x H' xs[i] x2.le s2.g (List.getElem?_eq_getElem hi) y
    have x3 := x2.trans (g3.ex ω2)
    refine ⟨xs[i], ε2, S2, R3, ω2, ε3, e3, g3.sr s2, r3, fun σ4 R4 ω4 H4 x4 s4 _ => ?_⟩
    refine ⟨ε3, S2, R4, ω4, o1, e4, s4, ?_⟩
    cases o1 with
    | nx ε5 S5 => exact fun σ5 R5 ω5 H5 x5 s5 => ⟨ε5, S5, R5, ω5, s5, (x3.trans x4).trans x5, hgo⟩
    | ct ε5 S5 => exact fun σ5 R5 ω5 H5 x5 s5 => ⟨ε5, S5, R5, ω5, s5, (x3.trans x4).trans x5, hgo⟩
    | bk ε5 S5 =>
      cases hgo
      exact fun σ5 R5 ω5 H5 x5 s5 => k σ5 R5 ω5 H5 (((x1.trans x3).trans x4).trans x5) s5
    | rt f d S5 =>
      cases hgo
      exact fun v5 R5 ω5 H5 x5 g5 r5 => k v5 R5 ω5 H5 (((x1.trans x3).trans x4).trans x5) g5 (r5.start ((x1.trans x3).trans x4))
  · have hi' : xs.length ≤ i := Nat.le_of_not_lt hi
    rw [List.drop_eq_nil_of_le hi'] at hgo
    cases hgo
    have hie : i = xs.length := Nat.le_antisymm hil hi'
    rw [hie]
    exact .inl ⟨w.sp S2 H2 R2 x2.le s2.g, k σ2 R2 ω2 H2 (x1.trans x2) s2⟩
theorem sv_while {F : CallI} {body : List Stmt} {C : CDen} {M : SDen} (h : PS X (.While c body [] pos) (tWhile (cOf (kx X cl) C) (sOf (kx X cl) M))) : PS X (.While c body [] pos) (sOf (kx X cl) (sWhile F C M)) := by
  refine PS.im h fun D σ H hh => ?_
  obtain ⟨ε, S, R, ω, o, he, s, k⟩ := hh
  refine ⟨fun m σ2 H2 => ∃ ε2 S2 R2 ω2, SR (kx X cl) R2 ω2 ε2 S2 σ2 H2 ∧ Ex R ω H R2 ω2 H2 ∧ whileGo C M m ε2 S2 = .ok o, ⟨F.wf, ε, S, R, ω, s, .refl _ _ _, he⟩, ?_⟩
  rintro m σ2 H2 ⟨ε2, S2, R2, ω2, s2, x2, hgo⟩
  cases m with
  | zero => cases hgo
  | succ m =>
    obtain ⟨⟨t, ε3, S3⟩, e3, hgo⟩ := bind_ok hgo
    refine ⟨ε2, S2, R2, ω2, t, ε3, S3, e3, s2, fun R3 ω3 H3 x3 s3 => ?_⟩
    cases t with
    | false =>
      cases hgo
      rw [if_neg Bool.false_ne_true]
      exact k σ2 R3 ω3 H3 (x2.trans x3) s3
    | true =>
      rw [if_pos rfl]
      obtain ⟨o1, e4, hgo⟩ := bind_ok hgo
      refine ⟨fun σ' H' => ∃ ε4 S4 R4 ω4, SR (kx X cl) R4 ω4 ε4 S4 σ' H' ∧ Ex R ω H R4 ω4 H' ∧ whileGo C M m ε4 S4 = .ok o, fun σ' H' q => ⟨m, Nat.lt_succ_self m, q⟩, ε3, S3, R3, ω3, o1, e4, s3, ?_⟩
      cases o1 with
      | nx ε5 S5 => exact fun σ5 R5 ω5 H5 x5 s5 => ⟨ε5, S5, R5, ω5, s5, (x2.trans x3).trans x5, hgo⟩
      | ct ε5 S5 => exact fun σ5 R5 ω5 H5 x5 s5 => ⟨ε5, S5, R5, ω5, s5, (x2.trans x3).trans x5, hgo⟩
      | bk ε5 S5 =>
        cases hgo
        exact fun σ5 R5 ω5 H5 x5 s5 => k σ5 R5 ω5 H5 ((x2.trans x3).trans x5) s5
      | rt f d S5 =>
        cases hgo
        exact fun v5 R5 ω5 H5 x5 g5 r5 => k v5 R5 ω5 H5 ((x2.trans x3).trans x5) g5 (r5.start (x2.trans x3))
/-! ### comprehensions -/
theorem SR.wipeTo {K : Kc} {R : Rc} {ω : Om} {ε : Env} {S : Store} {σ : L2.St} {H : Hp} (s : SR K R ω ε S σ H) (vs : List Nat) {ε0 : Env} {σ0 : L2.St} (h : wipe ε vs = ε0) (h2 : L2.wipe σ vs = σ0) : SR K R (ω.offs vs) ε0 S σ0 H := by
  rw [← h, ← h2]; exact s.wiped vs
theorem Ex.offs {R R1 : Rc} {ω ω1 : Om} {H H1 : Hp} (x : Ex R1 ω1 H1 R ω H) (vs : List Nat) : Ex R1 ω1 H1 R (ω.offs vs) H := x.om fun j a h => x.ωn j a (offs_some h).2
theorem Apart.offs {R : Rc} {ω : Om} {a : Addr} (p : Apart R ω a) (vs : List Nat) : Apart R (ω.offs vs) a := ⟨p.z, p.n, fun i q => p.m i (offs_some q).2⟩
theorem lc_im {I : IDen} {T : TDen} {C : CDen} {vs ts : List Nat} (ht : ∀ i ∈ ts, i ∈ vs) (σ : L2.St) (H : Hp) (Q : VK) (hh : tOf (kx X cl) (eComp vs I T C Ea) σ H Q) : tLc (iOf (kx X cl) I) (gOf (kx X cl) ts T) (cOf (kx X cl) C) (tOf (kx X cl) Ea) vs σ H Q := by
  obtain ⟨ε, S, R, ω, rv, ε', S', he, s, k⟩ := hh
  obtain ⟨⟨xs, ε1, S1⟩, e1, he⟩ := bind_ok he
  obtain ⟨⟨ds, Sd⟩, e2, he⟩ := bind_ok he
  cases he
  refine ⟨ε, S, R, ω, xs, ε', S1, e1, s, fun J R1 ω1 H1 x1 s1 w D nD => ?_⟩
  have p1 : Apart R1 ω1 D := .new s1 nD
  refine ⟨fun i m H2 => ∃ S2 R2 ω2 acc vacc, SR (kx X cl) R2 ω2 (wipe ε' vs) S2 (L2.wipe σ vs) H2 ∧ Ex R1 (ω1.offs vs) H1 R2 ω2 H2 ∧ H2 D = some (.lst vacc) ∧ Reps (kx X cl) R2 acc vacc ∧ Apart R2 ω2 D ∧
    compGo vs T C Ea (wipe ε' vs) (xs.drop i) S2 acc = .ok (ds, S') ∧ m = xs.length - i ∧ i ≤ xs.length, ⟨xs.length, S1, R1, ω1.offs vs, [], [], ?_, ?_, upd_same, rfl, p1.offs vs, by simpa using e2, by simp, by simp⟩, ?_⟩
  · exact (s1.wiped vs).other p1.z p1.n fun i q => p1.m i (offs_some q).2
  · exact (Ex.refl _ _ _).other nD
  rintro i m H2 ⟨S2, R2, ω2, acc, vacc, s2, x2, hD, ra, pD, hgo, rfl, hil⟩
  by_cases hi : i < xs.length
  · refine .inr ⟨w.go i S2 H2 R2 x2.le s2.g hi, fun H' => ∃ S3 R3 ω3 acc vacc, SR (kx X cl) R3 ω3 (wipe ε' vs) S3 (L2.wipe σ vs) H' ∧ Ex R1 (ω1.offs vs) H1 R3 ω3 H' ∧ H' D = some (.lst vacc) ∧ Reps (kx X cl) R3 acc vacc ∧ Apart R3 ω3 D ∧
      compGo vs T C Ea (wipe ε' vs) (xs.drop (i + 1)) S3 acc = .ok (ds, S'), fun H' ⟨S3, R3, ω3, acc, vacc, q1, q2, q3, q4, q5, q6⟩ => ⟨xs.length - (i + 1), by omega, S3, R3, ω3, acc, vacc, q1, q2, q3, q4, q5, q6, rfl, hi⟩, fun x H' y => ?_⟩
    rw [List.drop_eq_getElem_cons hi] at hgo
    obtain ⟨ε3, e3, hgo⟩ := bind_ok hgo
    obtain ⟨⟨t, ε4, S4⟩, e4, hgo⟩ := bind_ok hgo
    simp only at hgo
    split at hgo
    case isFalse => cases hgo
    rename_i heq
    obtain ⟨hw, rfl⟩ := heq
    obtain ⟨R3, g3, r3⟩ := w.yl i S2 H2 R2 x H' xs[i] x2.le s2.g (List.getElem?_eq_getElem hi) y
    have x3 := g3.ex ω2
    have s3 := g3.sr s2
    obtain ⟨pD3, hD3⟩ := pD.keep hD x3
    refine ⟨xs[i], wipe ε' vs, S2, R3, ω2, ε4, e3, s3, r3, fun σ4 R4 ω4 H4 x4 s4 y4 => ?_⟩
    have hwσ : L2.wipe σ4 vs = L2.wipe σ vs := by
      have q := (y4.mono ht).wipe
      rw [q]
      exact (Stay.wipe (vs := vs) ⟨wipe_length σ vs, fun j hj => wipe_out hj⟩)
    obtain ⟨pD4, hD4⟩ := pD3.keep hD3 x4
    refine ⟨hwσ, ε4, S2, R4, ω4, t, ε4, S4, e4, s4, fun R5 ω5 H5 x5 s5 => ?_⟩
    obtain ⟨pD5, hD5⟩ := pD4.keep hD4 x5
    have xx5 := ((x2.trans x3).trans x4).trans x5
    cases t with
    | false =>
      rw [if_neg Bool.false_ne_true]
      exact ⟨S4, R5, ω5.offs vs, acc, vacc, s5.wipeTo vs hw hwσ, xx5.offs vs, hD5, ra.mono ((x3.le.trans x4.le).trans x5.le), pD5.offs vs, hgo⟩
    | true =>
      rw [if_pos rfl]
      rw [if_pos rfl] at hgo
      obtain ⟨⟨r, ε5, S5⟩, e5, hgo⟩ := bind_ok hgo
      refine ⟨ε4, S4, R5, ω5, r, ε5, S5, e5, s5, fun v6 R6 ω6 H6 x6 s6 p6 => ?_⟩
      obtain ⟨pD6, hD6⟩ := pD5.keep hD5 x6
      have fin : ∀ (d : Mp.D) (ε6 : Env) (R7 : Rc), ε6 = ε4 → acc.length < 16777216 → compGo vs T C Ea (wipe ε' vs) (xs.drop (i + 1)) S5 (acc ++ [d]) = .ok (ds, S') → Le R6 R7 → Ex R5 ω5 H5 R7 ω6 H6 → SR (kx X cl) R7 ω6 ε6 S5 σ4 H6 → Apart R7 ω6 D → Rep (kx X cl) R7 d v6 →
          ∃ acc, H6 D = some (.lst acc) ∧ acc.length < sizeLine ∧ ∃ S3 R3 ω3 acc1 vacc, SR (kx X cl) R3 ω3 (wipe ε' vs) S3 (L2.wipe σ vs) (upd H6 D (.lst (acc ++ [v6]))) ∧ Ex R1 (ω1.offs vs) H1 R3 ω3 (upd H6 D (.lst (acc ++ [v6]))) ∧ (upd H6 D (.lst (acc ++ [v6]))) D = some (.lst vacc) ∧ Reps (kx X cl) R3 acc1 vacc ∧ Apart R3 ω3 D ∧
            compGo vs T C Ea (wipe ε' vs) (xs.drop (i + 1)) S3 acc1 = .ok (ds, S') := by
        intro d ε6 R7 he6 hl hgo7 l7 x7 s7 pD7 r7
        subst he6
        have ra7 := ra.mono (((x3.le.trans x4.le).trans x5.le).trans (x6.le.trans l7))
        refine ⟨vacc, hD6, by rw [ra.length, sizeLine_is]; exact hl, S5, R7, ω6.offs vs, acc ++ [d], vacc ++ [v6], ?_, ?_, upd_same, ra7.append (Reps.one r7), pD7.offs vs, hgo7⟩
        · exact (s7.wipeTo vs hw hwσ).other pD7.z pD7.n fun j q => pD7.m j (offs_some q).2
        · exact ((xx5.trans x7).offs vs).other nD
      cases r with
      | bor j => cases hgo
      | pl d =>
        simp only at hgo
        split at hgo
        case isFalse => cases hgo
        rename_i h2
        exact fin d ε5 R6 h2.1 h2.2 hgo (.refl _) x6 s6 pD6 p6
      | fr d =>
        simp only at hgo
        split at hgo
        case isFalse => cases hgo
        rename_i h2
        obtain ⟨a, o, rfl, ho, c, z, n, m, w'⟩ := p6
        have hDa : D ≠ a := by
          intro q
          subst q
          rcases w' with w' | ⟨j, w'⟩
          · rw [hD5] at w'; cases w'
          · exact pD5.m j w'
        exact fin d ε5 (R6.tell a o) h2.1 h2.2 hgo (tell_le z) (x6.tell ho z w' fun _ _ h => h) (s6.tell ho n m) ⟨(tell_ne hDa).trans pD6.z, pD6.n, pD6.m⟩ (rep_tell c (tell_le z))
  · have hi' : xs.length ≤ i := Nat.le_of_not_lt hi
    rw [List.drop_eq_nil_of_le hi'] at hgo
    cases hgo
    obtain ⟨s3, x3⟩ := s1.unwipe s2 x2
    have hie : i = xs.length := Nat.le_antisymm hil hi'
    rw [hie]
    refine .inl ⟨w.sp _ H2 R2 x2.le s2.g, k (.ref D) R2 ω1 H2 (x1.trans x3) s3 ⟨D, _, rfl, hD, ⟨vacc, rfl, ra⟩, pD.z, pD.n, fun j q => p1.m j q, .inl (x1.back nD)⟩⟩
/-! ### calls -/
def spOf (K : Kc) (call : List D → Store → Rs (Bool × D × Store)) : Sp := fun vs H Q E => ∃ ds S R b d S', call ds S = .ok (b, d, S') ∧ Reps K R ds vs ∧ GR K R S H ∧
  ∀ v R' H', Ex R (fun _ => none) H R' (fun _ => none) H' → GR K R' S' H' → RetR K (fun _ => none) H R' H' b d v → Q v H'
theorem SR.called {K : Kc} {R R' : Rc} {ω : Om} {ε : Env} {S S' : Store} {σ : L2.St} {H H' : Hp} (s : SR K R ω ε S σ H) (x : Ex R (fun _ => none) H R' (fun _ => none) H') (g : GR K R' S' H') : SR K R' ω ε S' σ H' ∧ Ex R ω H R' ω H' := by
  have ap : ∀ i a, ω i = some a → R'.Z a = none ∧ a ∉ R'.ρ := fun i a h => by
    obtain ⟨o, e⟩ := s.oh i a h
    constructor
    · cases q : R'.Z a with
      | none => rfl
      | some o' =>
        rcases x.zn a o' q with q | q | ⟨j, q⟩
        · rw [s.oz i a h] at q; cases q
        · rw [e] at q; cases q
        · cases q
    · intro q
      rcases x.ρn a q with q | q | ⟨j, q⟩
      · exact s.oρ i a h q
      · rw [e] at q; cases q
      · cases q
  constructor
  · exact {
      g := g
      len := s.len
      sl := fun i t h => by
        obtain ⟨v, e, p⟩ := s.sl i t h
        refine ⟨v, e, ?_⟩
        cases t with
        | pl d => exact ⟨p.1, Rep.mono x.le d v p.2⟩
        | own d =>
          obtain ⟨a, o, e1, e2, ho, c⟩ := p
          exact ⟨a, o, e1, e2, x.fr a o ho (s.oρ i a e2) (fun _ q => nomatch q), c.mono x.le⟩
      oz := fun i a h => (ap i a h).1
      oρ := fun i a h => (ap i a h).2
      oi := s.oi
      oh := fun i a h => let ⟨o, e⟩ := s.oh i a h; x.al a o e
      on := s.on }
  · exact ⟨x.le, x.al, fun a o h n m => x.fr a o h n (fun _ q => nomatch q), fun a o h => (x.zn a o h).imp id (Or.imp id (fun ⟨_, q⟩ => nomatch q)), fun a h => (x.ρn a h).imp id (Or.imp id (fun ⟨_, q⟩ => nomatch q)), fun i a h => .inl ⟨i, h⟩⟩
theorem RetR.rvr {K : Kc} {R R' R0 : Rc} {ω ω0 : Om} {ε : Env} {S : Store} {σ : L2.St} {H H' H0 : Hp} {b : Bool} {d : D} {v : V} (s : SR K R ω ε S σ H) (x0 : Ex R0 ω0 H0 R ω H) (r : RetR K (fun _ => none) H R' H' b d v) : RVR K ω0 H0 R' ω H' σ (if b then .fr d else .pl d) v := by
  cases b with
  | false => unfold RetR at r; rw [if_neg Bool.false_ne_true] at r; exact r
  | true =>
    unfold RetR at r; rw [if_pos rfl] at r
    obtain ⟨a, o, e, ho, c, z, n, w⟩ := r
    rcases w with w | ⟨j, w⟩
    · refine ⟨a, o, e, ho, c, z, n, fun i q => ?_, .inl (x0.back w)⟩
      obtain ⟨o', e'⟩ := s.oh i a q
      rw [w] at e'; cases e'
    · cases w
end
end Mp

/-! What is walked: lists, tuples, texts, ranges; enumerate and zip of them in any mix. -/
namespace Mp
open PySem PySem.Spec PyProof.Rows L2

/-! ### sources -/
inductive SK where
  | lst (a : Addr)
  | tup (a : Addr)
  | str (z : Str) (t : Tok)
def SK.val : SK → Value
  | .lst a => .ref a
  | .tup a => .ref a
  | .str z t => .str z t
def SK.obj : SK → PySem.Obj
  | .lst a => { cls := .type "list_iterator", data := .fields #[.ref a, .int 0 0] }
  | .tup a => { cls := .type "tuple_iterator", data := .fields #[.ref a, .int 0 0] }
  | .str z t => { cls := .type (strIterType z), data := .fields #[.str z t, .int 0 0] }
def SK.it : SK → Addr → Nat → Heap → Prop
  | .lst a, it, i, h => h.IsListIter it a i
  | .tup a, it, i, h => h.IsTupleIter it a i
  | .str z t, it, i, h => h.IsStrIter it (strIterType z) z t i
def SK.has : SK → Array Value → Heap → Prop
  | .lst a, its, h => h.IsList a its
  | .tup a, its, h => h.IsTuple a its
  | .str _ _, _, _ => True
theorem SK.begins (k : SK) (its : Array Value) : Begins k.val k.obj (k.has its) := by
  cases k with
  | lst a => exact begins_list a its
  | tup a => exact begins_tuple a its
  | str z t => exact begins_text z t
theorem SK.first (k : SK) {h : Heap} {it : Addr} (e : h.get? it = some k.obj) : k.it it 0 h := by
  cases k with
  | lst a => exact ⟨_, e, rfl, rfl⟩
  | tup a => exact ⟨_, e, rfl, rfl⟩
  | str z t => exact ⟨_, e, rfl, rfl⟩
/-- the items at the level of values -/
def SrcV (K : PySem.W.Frag) (H : Hp) : SK → List V → Prop
  | .lst a, xs => SqL K H a xs
  | .tup a, xs => SqT K H a xs
  | .str z _, xs => xs = z.cps.toList.map fun c => V.str ⟨#[c]⟩
theorem SK.cell (k : SK) {it : Addr} {i : Nat} {h : Heap} (s : k.it it i h) : ∃ o, h.get? it = some o ∧ ∀ v, o.data ≠ .cell v := by
  cases k with
  | lst a => obtain ⟨o, e, _, d⟩ := s; exact ⟨o, e, fun v q => by rw [d] at q; cases q⟩
  | tup a => obtain ⟨o, e, _, d⟩ := s; exact ⟨o, e, fun v q => by rw [d] at q; cases q⟩
  | str z t => obtain ⟨o, e, _, d⟩ := s; exact ⟨o, e, fun v q => by rw [d] at q; cases q⟩
theorem SK.kept (k : SK) {it : Addr} {i : Nat} {h h' : Heap} (s : k.it it i h) (f : ∀ o, h.get? it = some o → h'.get? it = some o) : k.it it i h' := by
  cases k with
  | lst a => obtain ⟨o, e, r⟩ := s; exact ⟨o, f o e, r⟩
  | tup a => obtain ⟨o, e, r⟩ := s; exact ⟨o, f o e, r⟩
  | str z t => obtain ⟨o, e, r⟩ := s; exact ⟨o, f o e, r⟩
/-- what such an iterator draws, as the source stands -/
structure SDraw (X : Cx) (pins : List (Addr × PySem.Obj)) (H : Hp) (A : Around) (s : Shared) (k : SK) (xs : List V) (it : Addr) (i : Nat) where
  fp : List Addr
  P : Nat → Value → Prop
  St : Nat → Heap → Prop
  D : Draws X.prog X.w A it fp xs.length P St
  st : St i s.heap
  to : ∀ j h, St j h → k.it it j h
  rel : ∀ j u, P j u → ∃ x, xs[j]? = some x ∧ RelV x u
  mem : it ∈ fp
  ap : ∀ b ∈ fp, b = it ∨ ∀ c, FpOk X pins H c → c ≠ b
section
variable {X : Cx} {pins : List (Addr × PySem.Obj)} {σ : L2.St} {H : Hp} {s : Shared}
theorem src_has {k : SK} {xs : List V} (I : Inv X pins σ H s) (hk : SrcV X.K H k xs) : ∃ its : Array Value, k.has its s.heap := by
  cases k with
  | lst a => obtain ⟨its, rv, p, _⟩ := I.list hk; exact ⟨_, p.isList⟩
  | tup a => obtain ⟨its, rv, p, _⟩ := I.tuple hk; exact ⟨_, p⟩
  | str z t => exact ⟨#[], trivial⟩
theorem fp_base (I : Inv X pins σ H s) {a : Addr} {o : PySem.Obj} (h : X.base.get? a = some o) : ∀ c, FpOk X pins H c → c ≠ a := fun c hc e => by
  subst e
  obtain ⟨_, _, _, h4, _⟩ := hc
  rcases h4 with h4 | h4
  · exact I.ok.noex c o h h4
  · exact absurd (Nat.lt_of_lt_of_le (Heap.lt_size h) (Nat.le_trans I.ok.bsz h4)) (Nat.lt_irrefl _)
theorem fp_rd {a : Addr} {u : HO} (h : Rd H a u) : ∀ c, FpOk X pins H c → c ≠ a := fun c hc e => by
  subst e
  rcases h with h | ⟨o, h⟩ <;> (rw [hc.1] at h; cases h)
theorem src_draw {A : Around} {k : SK} {xs : List V} {it : Addr} {i : Nat} (hh : A.handled = none) (I : Inv X pins σ H s) (hf : FpOk X pins H it) (hk : SrcV X.K H k xs) (hit : k.it it i s.heap) : Nonempty (SDraw X pins H A s k xs it i) := by
  cases k with
  | lst a =>
    obtain ⟨its, rv, p, _⟩ := I.list hk
    have q := p.isList
    have ap : ∀ c, FpOk X pins H c → c ≠ a := by
      rcases hk with hk | ⟨o, _, _, hk, _⟩
      · exact fp_rd hk
      · exact fp_base I (I.ok.mod.kin a o hk)
    have ne : a ≠ it := Ne.symm (ap it hf)
    have sz : its.toArray.size = xs.length := by simp [rv.length]
    refine ⟨⟨[it, a], fun i v => its.toArray[i]? = some v, fun i h => h.IsListIter it a i ∧ h.IsList a its.toArray, by rw [← sz]; exact Draws.list hh it a ne its.toArray, ⟨hit, q⟩, fun _ _ r => r.1, fun j u e => ?_, by simp, fun b hb => ?_⟩⟩
    · have e' : its[j]? = some u := by simpa using e
      have hj : j < xs.length := by rw [rv.length]; exact (List.getElem?_eq_some_iff.mp e').1
      obtain ⟨u', e2, r⟩ := rv.get (List.getElem?_eq_getElem hj)
      rw [e'] at e2; cases e2
      exact ⟨_, List.getElem?_eq_getElem hj, r⟩
    · rcases List.mem_cons.mp hb with e | hb
      · exact .inl e
      · rw [List.mem_singleton.mp hb]
        exact .inr ap
  | tup a =>
    obtain ⟨its, rv, p, _⟩ := I.tuple hk
    have q : s.heap.IsTuple a its.toArray := p
    have ap : ∀ c, FpOk X pins H c → c ≠ a := by
      rcases hk with hk | ⟨o, _, _, hk, _⟩
      · exact fp_rd hk
      · exact fp_base I (I.ok.mod.kin a o hk)
    have ne : a ≠ it := Ne.symm (ap it hf)
    have sz : its.toArray.size = xs.length := by simp [rv.length]
    refine ⟨⟨[it, a], fun i v => its.toArray[i]? = some v, fun i h => h.IsTupleIter it a i ∧ h.IsTuple a its.toArray, by rw [← sz]; exact Draws.tuple hh it a ne its.toArray, ⟨hit, q⟩, fun _ _ r => r.1, fun j u e => ?_, by simp, fun b hb => ?_⟩⟩
    · have e' : its[j]? = some u := by simpa using e
      have hj : j < xs.length := by rw [rv.length]; exact (List.getElem?_eq_some_iff.mp e').1
      obtain ⟨u', e2, r⟩ := rv.get (List.getElem?_eq_getElem hj)
      rw [e'] at e2; cases e2
      exact ⟨_, List.getElem?_eq_getElem hj, r⟩
    · rcases List.mem_cons.mp hb with e | hb
      · exact .inl e
      · rw [List.mem_singleton.mp hb]
        exact .inr ap
  | str z t =>
    have hk' : xs = z.cps.toList.map fun c => V.str ⟨#[c]⟩ := hk
    have sz : z.cps.size = xs.length := by rw [hk']; simp
    refine ⟨⟨[it], fun i v => ∃ c u, z.cps[i]? = some c ∧ v = .str ⟨#[c]⟩ u, fun i h => h.IsStrIter it (strIterType z) z t i, by rw [← sz]; exact Draws.text hh it z t, hit, fun _ _ r => r, fun j u e => ?_, by simp, fun b hb => .inl (List.mem_singleton.mp hb)⟩⟩
    obtain ⟨c, t', e1, rfl⟩ := e
    refine ⟨.str ⟨#[c]⟩, ?_, ⟨t', rfl⟩⟩
    rw [hk', List.getElem?_map]
    have e1' : z.cps.toList[j]? = some c := by simpa using e1
    rw [e1']; rfl
end

/-! ### an iterator of tuples, by WalksT -/
/-- n turns; the tuple at turn i is vs i; C: what must be so -/
def Itw (n : Nat) (vs : Nat → List V) (C : Hp → Prop) : It :=
  ⟨fun i H => C H ∧ i < n, fun i H x H' => ∃ T, x = .ref T ∧ H T = none ∧ H' = upd H T (.tup (vs i)), fun i H => C H ∧ i = n⟩
theorem turn_walk {P : Program} {w : World} {K : PySem.W.Frag} {elts : List Expr} {kk : Nat} {tpos : Pos} {I : Addr} {fp : List Addr} {n : Nat} {vs : Nat → List V} {C : Hp → Prop} {tn : Nat → Heap → Prop}
    (mem : I ∈ fp) (obj : ∀ i h, tn i h → ∀ b ∈ fp, ∃ o, h.get? b = some o ∧ ∀ v, o.data ≠ .cell v)
    (keep : ∀ i h h', tn i h → (∀ b ∈ fp, ∀ o, h.get? b = some o → h'.get? b = some o) → tn i h')
    (hz : ∀ i, (vs i).length ≤ sizeLine)
    (self : ∀ (A : Around) (i : Nat) (s : Shared) (Q : Value → Shared → Prop) (E : Value → Shared → Prop), tn i s.heap → Q (.ref I) s → wpAny (model P w) A (pyIter (.ref I)) Q E s)
    (hW : ∀ (X : Cx), X.prog = P → X.w = w → X.K = K → X.calm = true → ∀ (i : Nat) (pins : List (Addr × PySem.Obj)) (s : Shared) (σ : L2.St) (H : Hp), Inv X pins σ H s → (∀ b ∈ fp, FpOk X pins H b) → tn i s.heap → C H →
      ∃ (fpw wr : List Addr) (Pt : Nat → Array Value → Prop) (St : Nat → Heap → Prop) (Mid : Nat → Addr → Heap → Prop), WalksT P w X.A I fpw wr n Pt St Mid ∧ St i s.heap ∧ (∀ b ∈ wr, b ∈ fp) ∧
        (∀ j vals, Pt j vals → Vals (vs j) vals.toList) ∧ ∀ j h, St j h → tn j h) : Turn P w K (.Tuple elts kk tpos) (Itw n vs C) fp I tn where
  mem := mem
  obj := obj
  keep := keep
  item := by
    intro X hP hw hK hc i pins s σ H E I0 hf st hg
    obtain ⟨hC, hi⟩ := hg
    obtain ⟨fpw, wr, Pt, St, Mid, W, st', sub, rel, to⟩ := hW X hP hw hK hc i pins s σ H I0 hf st hC
    subst hP hw hK
    refine W.item i s _ _ hi st' fun T vals h' tk hPt hT hIT hM kk' => ?_
    refine ⟨_, rfl, W.go elts kk tpos i T { s with heap := h', toks := tk } _ _ hM fun h'' st2 kk2 => ?_⟩
    have nT : H T = none := I0.hok.fresh hT
    have Tap : T ∉ wr := W.apart i T h' hM
    have hT2 : h''.IsTuple T vals := hIT.at fun o e => kk2 T o Tap e
    have rv : Vals (vs i) vals.toList := rel i vals hPt
    have new : ObjOk X.prog X.w (upd H T (.tup (vs i))) h'' T (.tup (vs i)) := ⟨hz i, vals.toList, rv, by simpa using (show IsTup h'' T vals from hT2)⟩
    have I1 : Inv X pins σ (upd H T (.tup (vs i))) { s with heap := h'', toks := tk } :=
      I0.turnedNew (ch := fp) (fun b o hb e => kk2 b o (fun z => hb (sub b z)) (kk' b o (fun z => hb (sub b z)) e)) hf hT new
    refine ⟨.ref T, _, I1, rfl, ⟨T, rfl, nT, rfl⟩, to _ _ st2, fun b hb => ?_⟩
    have hb' : b < s.heap.objs.size := by
      obtain ⟨o, e, _⟩ := obj i _ st b hb
      exact Heap.lt_size e
    rw [upd_ne (Nat.ne_of_lt (Nat.lt_of_lt_of_le hb' hT))]
    exact (hf b hb).1
  done := by
    intro X hP hw hK hc i pins s σ H E I0 hf st hg
    obtain ⟨hC, hi⟩ := hg
    obtain ⟨fpw, wr, Pt, St, Mid, W, st', sub, rel, to⟩ := hW X hP hw hK hc i pins s σ H I0 hf st hC
    subst hP hw hK
    subst hi
    exact W.done s _ _ st' fun h' tk kk' => ⟨rfl, I0.turnedL (ch := fp) (fun b o hb e => kk' b o (fun z => hb (sub b z)) e) hf⟩
  self := self
/-! ### enumerate -/
set_option maxHeartbeats 1000000 in
theorem meets_enum1 {v : Value} {o : PySem.Obj} {H : Heap → Prop} (B : Begins v o H) :
    Meets (Builtin.«enumerate.__new__» ⟨[.type "enumerate", v], []⟩) (fun _ R s => H s.heap ∧
      R (.ok (.ret (.ref (s.heap.push o).objs.size))) { s with heap := (s.heap.push o).push { cls := .type "enumerate", data := .fields #[.none, .bool false, .ref s.heap.objs.size, rawInt 0, .none, .none] } }) :=
  .of_wp fun prog w A R s h => by
    obtain ⟨hp, g, d, tk, os⟩ := s; obtain ⟨h1, h⟩ := h
    have hsub := sub_enumerate
    have q1 : ∀ {A' : Around} {E : Value → Shared → Prop} {Q : Value → Shared → Prop}, Q (.ref hp.objs.size) ⟨hp.push o, g, d, tk, os⟩ → wpAny (model prog w) A' (pyIter v) Q E ⟨hp, g, d, tk, os⟩ :=
      fun q => B.iter prog w _ _ ⟨hp, g, d, tk, os⟩ _ h1 q
    wp_walk using q1
    refine wpAny_stack_any fun st => wpAny_pure ?_
    split
    · rename_i c _ _ _ _ _
      cases (c == Value.type "enumerate")
      · wp_walk using q1
        exact ⟨_, rfl, h⟩
      · wp_walk using q1
        exact ⟨_, rfl, h⟩
    · wp_walk using q1
      exact ⟨_, rfl, h⟩
theorem call_enum1 {prog : Program} {w : World} {A : Around} {E : Value → Shared → Prop} {s : Shared} {v : Value} {o : PySem.Obj} {H : Heap → Prop} {Q : Value → Shared → Prop} (B : Begins v o H) (h1 : H s.heap)
    (h : ∀ h', IsEnum h' (s.heap.objs.size + 1) s.heap.objs.size 0 .none → h'.get? s.heap.objs.size = some o → h'.objs.size = s.heap.objs.size + 2 →
      (∀ b o, s.heap.get? b = some o → h'.get? b = some o) → Q (.ref (s.heap.objs.size + 1)) { s with heap := h' }) :
    wpAny (model prog w) A (call (.type "enumerate") [v]) Q E s := by
  refine callType_new F.called_enumerate (by decide) (F.typeCall_enumerate_1 _) (F.newCall_enumerate_1 _) (fun obj => F.args_object_init_2 obj _) F.entry_enumerate_new
    (meets_enum1 B) ⟨h1, ?_⟩
  have hz : (s.heap.push o).objs.size = s.heap.objs.size + 1 := Heap.size_push ..
  show _ ∧ _
  rw [hz]
  have he : IsEnum ((s.heap.push o).push { cls := .type "enumerate", data := .fields #[.none, .bool false, .ref s.heap.objs.size, rawInt 0, .none, .none] }) (s.heap.objs.size + 1) s.heap.objs.size 0 .none := by
    have := Heap.get?_push_size (s.heap.push o) (o := { cls := .type "enumerate", data := .fields #[.none, .bool false, .ref s.heap.objs.size, rawInt 0, .none, .none] }) rfl
    rw [hz] at this; exact this
  exact ⟨⟨_, he, rfl⟩, h _ he (Heap.get?_push_of_some _ (Heap.get?_push_size _ B.free)) (by rw [Heap.size_push, hz]) fun b o x => Heap.get?_push_of_some _ (Heap.get?_push_of_some _ x)⟩
/-- the pairs of enumerate -/
def Ite1 (xs : List V) (C : Hp → Prop) : It := Itw xs.length (fun i => [.int (i : Nat), xs.getD i .non]) C
def iEnumS (K : PySem.W.Frag) (ta : TA) : TI := fun σ H R => ta σ H fun vs H1 => ∃ xs, (∃ a, vs = [.ref a] ∧ SqL K H1 a xs ∧ R (Ite1 xs fun H => SqL K H a xs) H1) ∨ (∃ a, vs = [.ref a] ∧ SqT K H1 a xs ∧ R (Ite1 xs fun H => SqT K H a xs) H1) ∨
  ∃ z : Str, vs = [.str z] ∧ xs = z.cps.toList.map (fun c => V.str ⟨#[c]⟩) ∧ R (Ite1 xs fun _ => True) H1
theorem pair_small {x y : V} : [x, y].length ≤ sizeLine := by show 2 ≤ sizeLine; decide
theorem turn_enumS {P : Program} {w : World} {K : PySem.W.Frag} {elts : List Expr} {kk : Nat} {tpos : Pos} (k : SK) (xs : List V) (e it : Addr) (C : Hp → Prop) (hC : ∀ H, C H → SrcV K H k xs) :
    Turn P w K (.Tuple elts kk tpos) (Ite1 xs C) [e, it] e (fun i h => (∃ old, IsEnum h e it (0 + (i : Int)) old) ∧ k.it it i h ∧ e ≠ it) := by
  refine turn_walk (by simp) (fun i h st b hb => ?_) (fun i h h' st kp => ?_) (fun i => pair_small) (fun A i s Q E st q => ?_) fun X hP hw hK hc i pins s σ H I hf st c => ?_
  · obtain ⟨⟨old, he⟩, hi, _⟩ := st
    rcases List.mem_cons.mp hb with z | hb
    · rw [z]; exact ⟨_, he, fun v q => nomatch q⟩
    · rw [List.mem_singleton.mp hb]; exact k.cell hi
  · obtain ⟨⟨old, he⟩, hi, ne⟩ := st
    exact ⟨⟨old, kp e (by simp) _ he⟩, k.kept hi (kp it (by simp)), ne⟩
  · obtain ⟨⟨old, he⟩, _⟩ := st
    exact wpAny_pyIter_enum he q
  · obtain ⟨⟨old, he⟩, hi, ne⟩ := st
    subst hP hw hK
    have hh : X.A.in1.handled = none := I.ok.hd hc
    obtain ⟨D⟩ := src_draw (A := X.A.in1) hh I (hf it (by simp)) (hC H c) hi
    have hef : e ∉ D.fp := fun q => by
      rcases D.ap e q with z | z
      · exact ne z
      · exact z e (hf e (by simp)) rfl
    refine ⟨_, _, _, _, _, WalksT.enumFrom 0 D.D e ne hef D.mem, ⟨⟨old, he⟩, D.st⟩, fun b hb => hb, fun j vals hp => ?_, fun j h hs => ⟨hs.1, D.to j h hs.2, ne⟩⟩
    obtain ⟨t, x, hx, rfl⟩ := hp
    obtain ⟨y, e1, r⟩ := D.rel j x hx
    have e2 : xs.getD j .non = y := by rw [List.getD_eq_getElem?_getD, e1]; rfl
    exact .cons ⟨t, by rw [Int.zero_add]⟩ (.cons (by rw [e2]; exact r) .nil)
theorem pi_enumS {X : Cx} {e : Expr} {ta : TA} {p pos tpos : Pos} {elts : List Expr} {kk : Nat} (hg : Gl X "enumerate") (hm : X.mg "enumerate" = none) (ha : PA X [e] ta) (hs : starEach [e] X.env = [(false, eval e X.env)] := by rfl) :
    PI X (.Tuple elts kk tpos) (.Call (.Name "enumerate" p) [e] [] pos) (iEnumS X.K ta) := by
  refine ⟨fun pins s σ H R I h => ?_⟩
  refine Call_ (ld_blt I hg hm boot_enumerate (PyProof.Rows.callWith_type1 (thn (ha.run pos pins s σ H _ I h) fun us s1 ⟨vs, H1, I1, r1, q1⟩ => ?_) hs rfl))
  have key : ∀ (k : SK) (xs : List V) (C : Hp → Prop), us = [k.val] → SrcV X.K H1 k xs → (∀ H, C H → SrcV X.K H k xs) → R (Ite1 xs C) H1 →
      wpAny (model X.prog X.w) X.A (call (.type "enumerate") us) (fun v s1 => wpAny (model X.prog X.w) X.A (pyIter v) (PIE X pins σ (.Tuple elts kk tpos) R) X.xe s1) X.xe s1 := by
    intro k xs C hu hk hC q
    subst hu
    obtain ⟨its, hits⟩ := src_has I1 hk
    refine call_enum1 (k.begins its) hits fun h' he hit hsz hk' => wpAny_pyIter_enum he ?_
    have I2 : Inv X pins σ H1 { s1 with heap := h' } := I1.kept (t' := s1.toks) hk'
    refine ⟨s1.heap.objs.size + 1, [s1.heap.objs.size + 1, s1.heap.objs.size], _, _, H1, rfl, I2, turn_enumS k xs (s1.heap.objs.size + 1) s1.heap.objs.size C hC, ⟨⟨.none, he⟩, k.first hit, Nat.succ_ne_self _⟩, fun b hb => ?_, q⟩
    have e' : b = s1.heap.objs.size + 1 ∨ b = s1.heap.objs.size := by simpa using hb
    have hle : s1.heap.objs.size ≤ b := by
      rcases e' with z | z
      · rw [z]; exact Nat.le_add_right _ _
      · rw [z]; exact Nat.le_refl _
    exact I1.fpOk hle (I1.hok.fresh hle)
  obtain ⟨xs, q1⟩ := q1
  rcases q1 with ⟨a, rfl, hq, q⟩ | ⟨a, rfl, hq, q⟩ | ⟨z, rfl, hq, q⟩
  · cases r1 with
    | cons r rr => cases rr; cases r; exact key (.lst a) xs _ rfl hq (fun _ h => h) q
  · cases r1 with
    | cons r rr => cases rr; cases r; exact key (.tup a) xs _ rfl hq (fun _ h => h) q
  · cases r1 with
    | cons r rr => cases rr; obtain ⟨t, rfl⟩ := r; exact key (.str z t) xs _ rfl hq (fun _ _ => hq) q
/-! ### zip -/
def Itz1 (xs ys : List V) (C : Hp → Prop) : It := Itw (min xs.length ys.length) (fun i => [xs.getD i .non, ys.getD i .non]) C
/-- a source at the level of values: what its kind asks -/
inductive SrcC (K : PySem.W.Frag) : V → List V → (Hp → Prop) → Prop
  | lst (a : Addr) (xs : List V) : SrcC K (.ref a) xs fun H => SqL K H a xs
  | tup (a : Addr) (xs : List V) : SrcC K (.ref a) xs fun H => SqT K H a xs
  | str (z : Str) : SrcC K (.str z) (z.cps.toList.map fun c => V.str ⟨#[c]⟩) fun _ => True
theorem SrcC.kind {K : PySem.W.Frag} {v : V} {xs : List V} {C : Hp → Prop} {u : Value} (h : SrcC K v xs C) (r : RelV v u) : ∃ k : SK, u = k.val ∧ ∀ H, C H → SrcV K H k xs := by
  cases h with
  | lst a xs => cases r; exact ⟨.lst a, rfl, fun _ h => h⟩
  | tup a xs => cases r; exact ⟨.tup a, rfl, fun _ h => h⟩
  | str z => obtain ⟨t, rfl⟩ := r; exact ⟨.str z t, rfl, fun _ _ => rfl⟩
def iZipS (K : PySem.W.Frag) (ta : TA) : TI := fun σ H R => ta σ H fun vs H1 => ∃ v1 v2 xs ys C1 C2, vs = [v1, v2] ∧ SrcC K v1 xs C1 ∧ SrcC K v2 ys C2 ∧ C1 H1 ∧ C2 H1 ∧ R (Itz1 xs ys fun H => C1 H ∧ C2 H) H1
theorem turn_zipS {P : Program} {w : World} {K : PySem.W.Frag} {elts : List Expr} {kk : Nat} {tpos : Pos} (k1 k2 : SK) (xs ys : List V) (z TI TO i1 i2 : Addr) (C : Hp → Prop) (h1 : ∀ H, C H → SrcV K H k1 xs) (h2 : ∀ H, C H → SrcV K H k2 ys)
    (d : TI ≠ z ∧ TO ≠ z ∧ TI ≠ TO ∧ TI ≠ i1 ∧ TI ≠ i2 ∧ z ≠ i1 ∧ z ≠ i2 ∧ TO ≠ i1 ∧ TO ≠ i2 ∧ i1 ≠ i2) :
    Turn P w K (.Tuple elts kk tpos) (Itz1 xs ys C) [z, TI, TO, i1, i2] z (fun i h => IsZip h z TI TO .none ∧ IsTupOf2 h TI (.ref i1) (.ref i2) ∧ (∃ a1 a2, IsTupOf2 h TO a1 a2) ∧ k1.it i1 i h ∧ k2.it i2 i h) := by
  obtain ⟨d1, d2, d3, d4, d5, d6, d7, d8, d9, d10⟩ := d
  refine turn_walk (by simp) (fun i h st b hb => ?_) (fun i h h' st kp => ?_) (fun i => pair_small) (fun A i s Q E st q => ?_) fun X hP hw hK hc i pins s σ H I hf st c => ?_
  · obtain ⟨hz, hTI, ⟨x, y, hTO⟩, e1, e2⟩ := st
    have e' : b = z ∨ b = TI ∨ b = TO ∨ b = i1 ∨ b = i2 := by simpa using hb
    rcases e' with q | q | q | q | q
    · rw [q]; exact ⟨_, hz, fun v q => nomatch q⟩
    · rw [q]; exact ⟨_, hTI, fun v q => nomatch q⟩
    · rw [q]; exact ⟨_, hTO, fun v q => nomatch q⟩
    · rw [q]; exact k1.cell e1
    · rw [q]; exact k2.cell e2
  · obtain ⟨hz, hTI, ⟨x, y, hTO⟩, e1, e2⟩ := st
    exact ⟨kp z (by simp) _ hz, kp TI (by simp) _ hTI, ⟨x, y, kp TO (by simp) _ hTO⟩, k1.kept e1 (kp i1 (by simp)), k2.kept e2 (kp i2 (by simp))⟩
  · obtain ⟨hz, _⟩ := st
    exact wpAny_pyIter_zip hz q
  · obtain ⟨hz, hTI, hTO, e1, e2⟩ := st
    subst hP hw hK
    have hh : X.A.in1.handled = none := I.ok.hd hc
    obtain ⟨D1⟩ := src_draw (A := X.A.in1) hh I (hf i1 (by simp)) (h1 H c) e1
    obtain ⟨D2⟩ := src_draw (A := X.A.in1) hh I (hf i2 (by simp)) (h2 H c) e2
    have out1 : ∀ b, b ∈ [z, TI, TO, i1, i2] → b ≠ i1 → b ∉ D1.fp := fun b hb hn q => by
      rcases D1.ap b q with y | y
      · exact hn y
      · exact y b (hf b hb) rfl
    have out2 : ∀ b, b ∈ [z, TI, TO, i1, i2] → b ≠ i2 → b ∉ D2.fp := fun b hb hn q => by
      rcases D2.ap b q with y | y
      · exact hn y
      · exact y b (hf b hb) rfl
    have S : ZipSep2 z TI TO i1 i2 D1.fp D2.fp := ⟨d1, d2, d3, d4, D1.mem, out1 z (by simp) d6, out1 TO (by simp) d8, d5, D2.mem, out2 z (by simp) d7, out2 TO (by simp) d9, out2 i1 (by simp) d10, out1 i2 (by simp) (Ne.symm d10)⟩
    refine ⟨_, _, _, _, _, WalksT.zipD2 S D1.D D2.D, ⟨hz, hTI, hTO, D1.st, D2.st⟩, fun b hb => ?_, fun j vals hp => ?_, fun j h hs => ⟨hs.1, hs.2.1, hs.2.2.1, D1.to j h hs.2.2.2.1, D2.to j h hs.2.2.2.2⟩⟩
    · simp at hb ⊢
      rcases hb with q | q | q | q <;> simp [q]
    · obtain ⟨x, y, hx, hy, rfl⟩ := hp
      obtain ⟨x', q1, r1⟩ := D1.rel j x hx
      obtain ⟨y', q2, r2⟩ := D2.rel j y hy
      have e3 : xs.getD j .non = x' := by rw [List.getD_eq_getElem?_getD, q1]; rfl
      have e4 : ys.getD j .non = y' := by rw [List.getD_eq_getElem?_getD, q2]; rfl
      exact .cons (by rw [e3]; exact r1) (.cons (by rw [e4]; exact r2) .nil)
theorem pi_zipS {X : Cx} {e e2 : Expr} {ta : TA} {p pos tpos : Pos} {elts : List Expr} {kk : Nat} (hg : Gl X "zip") (hm : X.mg "zip" = none) (ha : PA X [e, e2] ta)
    (hs : starEach [e, e2] X.env = (false, eval e X.env) :: starEach [e2] X.env := by rfl) (hpl : (backTo pos (starEach [e2] X.env)).any (·.1) = false := by rfl) :
    PI X (.Tuple elts kk tpos) (.Call (.Name "zip" p) [e, e2] [] pos) (iZipS X.K ta) := by
  refine ⟨fun pins s σ H R I h => ?_⟩
  refine Call_ (ld_blt I hg hm boot_zip (PyProof.Rows.callWith_type1 (thn (ha.run pos pins s σ H _ I h) fun us s1 ⟨vs, H1, I1, r1, q1⟩ => ?_) hs hpl))
  obtain ⟨v1, v2, xs, ys, C1, C2, rfl, c1, c2, hc1, hc2, q⟩ := q1
  cases r1 with
  | cons r rr =>
    cases rr with
    | cons r' rr =>
      cases rr
      obtain ⟨k1, rfl, f1⟩ := c1.kind r
      obtain ⟨k2, rfl, f2⟩ := c2.kind r'
      obtain ⟨its1, hits1⟩ := src_has I1 (f1 H1 hc1)
      obtain ⟨its2, hits2⟩ := src_has I1 (f2 H1 hc2)
      refine zip_begins2 (k1.begins its1) (k2.begins its2) hits1 hits2 fun h' hz hTI hTO hi1 hi2 hsz hk => wpAny_pyIter_zip hz ?_
      have I2 : Inv X pins σ H1 { s1 with heap := h' } := I1.kept (t' := s1.toks) hk
      generalize hN : s1.heap.objs.size = N at *
      have dd : ∀ a b : Nat, a ≠ b → (N + a : Nat) ≠ N + b := fun a b h => by omega
      refine ⟨N + 4, [N + 4, N + 2, N + 3, N, N + 1], _, _, H1, rfl, I2, turn_zipS k1 k2 xs ys (N + 4) (N + 2) (N + 3) N (N + 1) (fun H => C1 H ∧ C2 H) (fun H c => f1 H c.1) (fun H c => f2 H c.2)
        ⟨dd 2 4 (by decide), dd 3 4 (by decide), dd 2 3 (by decide), dd 2 0 (by decide), dd 2 1 (by decide), dd 4 0 (by decide), dd 4 1 (by decide), dd 3 0 (by decide), dd 3 1 (by decide), dd 0 1 (by decide)⟩,
        ⟨hz, hTI, ⟨_, _, hTO⟩, k1.first hi1, k2.first hi2⟩, fun b hb => ?_, q⟩
      have e' : b = N + 4 ∨ b = N + 2 ∨ b = N + 3 ∨ b = N ∨ b = N + 1 := by simpa using hb
      have hle : s1.heap.objs.size ≤ b := by
        rw [hN]
        have big : ∀ a : Nat, (N : Nat) ≤ N + a := fun a => Nat.le_add_right _ _
        rcases e' with q | q | q | q | q
        · rw [q]; exact big 4
        · rw [q]; exact big 2
        · rw [q]; exact big 3
        · rw [q]; exact big 0
        · rw [q]; exact big 1
      exact I1.fpOk hle (I1.hok.fresh hle)
end Mp

/-! Iterables, operators, built-ins, calls: the rules. -/
namespace Mp
open PySem PySem.Spec PyProof.Rows L2

/-! ### iterables -/
def strItems (s : List Nat) : List D := s.map fun c => .str [c]
def seqItems (d : D) : Rs (List D) := match d with
  | .tup ds => .ok ds
  | .lst ds => .ok ds
  | .str s => .ok (strItems s)
  | _ => .no
def iSeq (a : Den) : IDen := fun ε S => do
  let (r, ε1, S1) ← a ε S
  let (d, ε2) ← r.fix ε1
  let ds ← seqItems d
  .ok (ds, ε2, S1)
def iR1 (as : ADen) : IDen := fun ε S => do
  let (ds, ε1, S1) ← as ε S
  match ds with
  | [.int j] => if -(2 ^ 62) ≤ j ∧ j < 2 ^ 62 then .ok (intsFrom 0 j.toNat, ε1, S1) else .no
  | _ => .no
def iR2 (as : ADen) : IDen := fun ε S => do
  let (ds, ε1, S1) ← as ε S
  match ds with
  | [.int i, .int j] => if (-(2 ^ 62) ≤ i ∧ i < 2 ^ 62) ∧ -(2 ^ 62) ≤ j ∧ j < 2 ^ 62 then .ok (intsFrom i (j - i).toNat, ε1, S1) else .no
  | _ => .no
def intsBy (lo c : Int) (n : Nat) : List D := (List.range n).map fun (i : Nat) => .int (lo + (i : Int) * c)
def iR3 (as : ADen) : IDen := fun ε S => do
  let (ds, ε1, S1) ← as ε S
  match ds with
  | [.int i, .int j, .int c] =>
    if c = -1 then
      if (-(2 ^ 62) ≤ i ∧ i < 2 ^ 62) ∧ -(2 ^ 62) ≤ j ∧ j < 2 ^ 62 then .ok (intsBy i (-1) (i - j).toNat, ε1, S1) else .no
    else if c ≠ 0 ∧ c.natAbs < 1073741824 ∧ Builtin.Range.small i j c = true ∧ 0 ≤ Builtin.Range.rangeSize i j c then .ok (intsBy i c (Builtin.Range.rangeSize i j c).toNat, ε1, S1) else .no
  | _ => .no
def enumFrom (k : Int) : List D → List D
  | [] => []
  | d :: r => .tup [.int k, d] :: enumFrom (k + 1) r
theorem enumFrom_length : ∀ (k : Int) (ds : List D), (enumFrom k ds).length = ds.length
  | _, [] => rfl
  | k, d :: r => by simp [enumFrom, enumFrom_length (k + 1) r]
theorem enumFrom_get : ∀ (k : Int) (ds : List D) (i : Nat), (enumFrom k ds)[i]? = ds[i]?.map fun d => .tup [.int (k + (i : Int)), d]
  | _, [], i => by simp [enumFrom]
  | k, d :: r, 0 => by simp [enumFrom]
  | k, d :: r, i + 1 => by
    simp only [enumFrom, List.getElem?_cons_succ]
    rw [enumFrom_get (k + 1) r i]
    have e : k + 1 + (i : Int) = k + ((i + 1 : Nat) : Int) := by omega
    rw [e]
def iEnum (as : ADen) : IDen := fun ε S => do
  let (ds, ε1, S1) ← as ε S
  match ds with
  | [d] => do
    let xs ← seqItems d
    .ok (enumFrom 0 xs, ε1, S1)
  | _ => .no
def zipItems (xs ys : List D) : List D := List.zipWith (fun x y => .tup [x, y]) xs ys
def iZip (as : ADen) : IDen := fun ε S => do
  let (ds, ε1, S1) ← as ε S
  match ds with
  | [a, b] => do
    let xs ← seqItems a
    let ys ← seqItems b
    .ok (zipItems xs ys, ε1, S1)
  | _ => .no

section
variable {K : Kc} {R : Rc}
theorem Reps.getI {ds : List D} {vs : List V} {i : Nat} {d : D} {v : V} (h : Reps K R ds vs) (e : ds[i]? = some d) (e' : vs[i]? = some v) : Rep K R d v := by
  obtain ⟨u, e1, r⟩ := h.get e
  rw [e'] at e1; cases e1; exact r
theorem ZT.sq {a : Addr} {vs : List V} {S : Store} {H : Hp} (z : ZT K R a vs) (g : GR K R S H) : SqT K.F H a vs := z.elim (fun z => .inl (.inl (g.zh a _ z))) .inr
theorem jw_list {a : Addr} {vs : List V} {ds : List D} (z : R.Z a = some (.lst vs)) (r : Reps K R ds vs) : JW K R (Itl K.F a) ds where
  go := fun i S H R' l g hi => by
    have hv : i < vs.length := by rw [r.length]; exact hi
    exact ⟨vs, vs[i], SqL.of (g.zh a _ (l.z _ _ z)), List.getElem?_eq_getElem hv⟩
  yl := fun i S H R' x H' d l g e y => by
    obtain ⟨rfl, hx⟩ := y
    exact ⟨R', .refl _ _, (r.mono l).getI e (hx vs (SqL.of (g.zh a _ (l.z _ _ z))))⟩
  sp := fun S H R' l g => ⟨vs, SqL.of (g.zh a _ (l.z _ _ z)), Nat.le_of_eq r.length⟩
theorem jw_tup {a : Addr} {vs : List V} {ds : List D} (z : ZT K R a vs) (r : Reps K R ds vs) : JW K R (Itt K.F a) ds where
  go := fun i S H R' l g hi => by
    have hv : i < vs.length := by rw [r.length]; exact hi
    exact ⟨vs, vs[i], (z.mono l).sq g, List.getElem?_eq_getElem hv⟩
  yl := fun i S H R' x H' d l g e y => by
    obtain ⟨rfl, hx⟩ := y
    exact ⟨R', .refl _ _, (r.mono l).getI e (hx vs ((z.mono l).sq g))⟩
  sp := fun S H R' l g => ⟨vs, (z.mono l).sq g, Nat.le_of_eq r.length⟩
theorem jw_str {s : List Nat} : JW K R (Its ⟨s.toArray⟩) (strItems s) where
  go := fun i S H R' l g hi => by simpa [strItems, Its] using hi
  yl := fun i S H R' x H' d l g e y => by
    obtain ⟨rfl, c, hc, rfl⟩ := y
    have hc' : s[i]? = some c := by simpa using hc
    have e' : (s.map fun c => D.str [c])[i]? = some d := e
    rw [List.getElem?_map, hc'] at e'
    cases e'
    exact ⟨R', .refl _ _, rfl⟩
  sp := fun S H R' l g => by simp [strItems, Its]
theorem jw_range {lo : Int} {n : Nat} : JW K R (Itr lo n) (intsFrom lo n) where
  go := fun i S H R' l g hi => by simpa [intsFrom, Itr] using hi
  yl := fun i S H R' x H' d l g e y => by
    obtain ⟨rfl, rfl⟩ := y
    have hi : i < n := by simpa [intsFrom] using (List.getElem?_eq_some_iff.mp e).1
    have e' : d = .int (lo + (i : Int)) := by
      simp [intsFrom, hi] at e
      exact e.symm
    subst e'
    exact ⟨R', .refl _ _, rfl⟩
  sp := fun S H R' l g => by simp [intsFrom, Itr]
theorem jw_rangeC {lo c : Int} {n : Nat} : JW K R (Itc lo c n) (intsBy lo c n) where
  go := fun i S H R' l g hi => by simpa [intsBy, Itc] using hi
  yl := fun i S H R' x H' d l g e y => by
    obtain ⟨rfl, rfl⟩ := y
    have hi : i < n := by simpa [intsBy] using (List.getElem?_eq_some_iff.mp e).1
    have e' : d = .int (lo + (i : Int) * c) := by
      simp [intsBy, hi] at e
      exact e.symm
    subst e'
    exact ⟨R', .refl _ _, rfl⟩
  sp := fun S H R' l g => by simp [intsBy, Itc]
theorem jw_walk {n : Nat} {vf : Nat → List V} {C : Hp → Prop} {ds : List D} (hn : ds.length = n) (hC : ∀ S H R', Le R R' → GR K R' S H → C H) (hd : ∀ (i : Nat) d, ds[i]? = some d → ∃ es, d = .tup es ∧ Reps K R es (vf i)) : JW K R (Itw n vf C) ds where
  go := fun i S H R' l g hi => ⟨hC S H R' l g, by rw [← hn]; exact hi⟩
  yl := fun i S H R' x H' d l g e y => by
    obtain ⟨T, rfl, nT, rfl⟩ := y
    obtain ⟨es, rfl, r⟩ := hd i d e
    have z := g.free nT
    exact ⟨R'.tell T (.tup (vf i)), Gw.tell nT z, T, vf i, rfl, .inl tell_at, r.mono (l.trans (tell_le z))⟩
  sp := fun S H R' l g => ⟨hC S H R' l g, hn⟩
theorem chr_reps : ∀ s : List Nat, Reps K R (s.map fun c => D.str [c]) (s.map fun c => V.str ⟨#[c]⟩)
  | [] => rfl
  | c :: r => ⟨_, _, rfl, rfl, chr_reps r⟩
theorem str_reps (s : List Nat) : Reps K R (strItems s) ((⟨s.toArray⟩ : Str).cps.toList.map fun c => V.str ⟨#[c]⟩) := chr_reps s
/-- a value with items is a source -/
theorem src_of {d : D} {v : V} {ds : List D} (h : Rep K R d v) (e : seqItems d = .ok ds) :
    ∃ (xs : List V) (C : Hp → Prop), SrcC K.F v xs C ∧ Reps K R ds xs ∧ (∀ S H R', Le R R' → GR K R' S H → C H) := by
  cases d with
  | tup es =>
    cases e
    obtain ⟨a, vs, rfl, z, r⟩ := h
    exact ⟨vs, fun H => SqT K.F H a vs, .tup a vs, r, fun S H R' l g => (z.mono l).sq g⟩
  | lst es =>
    cases e
    obtain ⟨a, vs, rfl, z, r⟩ := h
    exact ⟨vs, fun H => SqL K.F H a vs, .lst a vs, r, fun S H R' l g => SqL.of (g.zh a _ (l.z _ _ z))⟩
  | str s =>
    cases e
    have h' : v = .str ⟨s.toArray⟩ := h
    subst h'
    exact ⟨(⟨s.toArray⟩ : Str).cps.toList.map fun c => V.str ⟨#[c]⟩, fun _ => True, SrcC.str _, str_reps s, fun _ _ _ _ _ => trivial⟩
  | non => cases e
  | bl b => cases e
  | int i => cases e
  | dct ks vs => cases e
  | ref j => cases e
  | scr ns => cases e
end
section
variable {X : Cx} {cl : Nat → Addr} {e e2 a b c tg : Expr} {Ea Eb Ec : Den} {pos p : Pos}
theorem PI.or {w1 w2 : TI} (h1 : PI X tg e w1) (h2 : PI X tg e w2) : PI X tg e (fun σ H R => w1 σ H R ∨ w2 σ H R) :=
  ⟨fun pins s σ H R I h => h.elim (h1.run pins s σ H R I) (h2.run pins s σ H R I)⟩
theorem iv_seq (h : PE X e (tOf (kx X cl) Ea)) : PI X tg e (iOf (kx X cl) (iSeq Ea)) := by
  refine PI.im (PI.or (pi_list h) (PI.or (pi_tup h) (pi_str h))) fun σ H C hh => ?_
  obtain ⟨ε, S, R, ω, ds, ε', S', he, s, k⟩ := hh
  obtain ⟨⟨r, ε1, S1⟩, e1, he⟩ := bind_ok he
  obtain ⟨⟨d, ε2⟩, e2, he⟩ := bind_ok he
  obtain ⟨xs, e3, he⟩ := bind_ok he
  cases he
  match d, e2, e3 with
  | .lst es, e2, e3 =>
    cases e3
    refine .inl ⟨ε, S, R, ω, r, ε1, S', e1, s, fun v1 R1 ω1 H1 x1 s1 p1 => ?_⟩
    obtain ⟨R2, ω2, x2, s2, a, vs, rfl, z, rs⟩ := p1.fix s1 x1 e2
    exact ⟨a, rfl, ⟨vs, SqL.of (s2.g.zh a _ z)⟩, k _ R2 ω2 H1 x2 s2 (jw_list z rs)⟩
  | .tup es, e2, e3 =>
    cases e3
    refine .inr (.inl ⟨ε, S, R, ω, r, ε1, S', e1, s, fun v1 R1 ω1 H1 x1 s1 p1 => ?_⟩)
    obtain ⟨R2, ω2, x2, s2, a, vs, rfl, z, rs⟩ := p1.fix s1 x1 e2
    exact ⟨a, rfl, ⟨vs, z.sq s2.g⟩, k _ R2 ω2 H1 x2 s2 (jw_tup z rs)⟩
  | .str z, e2, e3 =>
    cases e3
    refine .inr (.inr ⟨ε, S, R, ω, r, ε1, S', e1, s, fun v1 R1 ω1 H1 x1 s1 p1 => ?_⟩)
    obtain ⟨R2, ω2, x2, s2, rr⟩ := p1.fix s1 x1 e2
    exact ⟨_, rr, k _ R2 ω2 H1 x2 s2 jw_str⟩
theorem iv_r1 {As : ADen} (hg : Gl X "range") (hm : X.mg "range" = none) (ha : PA X [a] (aOf (kx X cl) As)) (hs : starEach [a] X.env = [(false, eval a X.env)] := by rfl) : PI X tg (.Call (.Name "range" p) [a] [] pos) (iOf (kx X cl) (iR1 As)) := by
  refine PI.im (pi_range1 hg hm ha hs) fun σ H C hh => ?_
  obtain ⟨ε, S, R, ω, ds, ε', S', he, s, k⟩ := hh
  obtain ⟨⟨xs, ε1, S1⟩, e1, he⟩ := bind_ok he
  refine ⟨ε, S, R, ω, xs, ε1, S1, e1, s, fun vs R1 ω1 H1 x1 s1 p1 => ?_⟩
  match xs, he, p1 with
  | [.int j], he, p1 =>
    simp only at he
    split at he
    · rename_i hj
      cases he
      obtain ⟨v, r, rfl, rv, rr⟩ := p1
      cases (show r = [] from rr)
      cases (show v = .int j from rv)
      exact ⟨j, rfl, hj.1, hj.2, k _ R1 ω1 H1 x1 s1 jw_range⟩
    · cases he
theorem iv_r2 {As : ADen} (hg : Gl X "range") (hm : X.mg "range" = none) (ha : PA X [a, b] (aOf (kx X cl) As)) (hs : starEach [a, b] X.env = [(false, eval a X.env), (false, eval b X.env)] := by rfl) (hs2 : starEach [b] X.env = [(false, eval b X.env)] := by rfl) : PI X tg (.Call (.Name "range" p) [a, b] [] pos) (iOf (kx X cl) (iR2 As)) := by
  refine PI.im (pi_range2 hg hm ha hs hs2) fun σ H C hh => ?_
  obtain ⟨ε, S, R, ω, ds, ε', S', he, s, k⟩ := hh
  obtain ⟨⟨xs, ε1, S1⟩, e1, he⟩ := bind_ok he
  refine ⟨ε, S, R, ω, xs, ε1, S1, e1, s, fun vs R1 ω1 H1 x1 s1 p1 => ?_⟩
  match xs, he, p1 with
  | [.int i, .int j], he, p1 =>
    simp only at he
    split at he
    · rename_i hj
      cases he
      obtain ⟨v, r, rfl, rv, v2, r2, rfl, rv2, rr⟩ := p1
      cases (show r2 = [] from rr)
      cases (show v = .int i from rv)
      cases (show v2 = .int j from rv2)
      exact ⟨i, j, rfl, ⟨hj.1.1, hj.1.2, hj.2.1, hj.2.2⟩, k _ R1 ω1 H1 x1 s1 jw_range⟩
    · cases he
theorem iv_r3 {As : ADen} (hg : Gl X "range") (hm : X.mg "range" = none) (ha : PA X [a, b, c] (aOf (kx X cl) As)) (hs : starEach [a, b, c] X.env = (false, eval a X.env) :: starEach [b, c] X.env := by rfl) (hpl : (backTo pos (starEach [b, c] X.env)).any (·.1) = false := by rfl) : PI X tg (.Call (.Name "range" p) [a, b, c] [] pos) (iOf (kx X cl) (iR3 As)) := by
  refine PI.im (pi_range3 hg hm ha hs hpl) fun σ H C hh => ?_
  obtain ⟨ε, S, R, ω, ds, ε', S', he, s, k⟩ := hh
  obtain ⟨⟨xs, ε1, S1⟩, e1, he⟩ := bind_ok he
  refine ⟨ε, S, R, ω, xs, ε1, S1, e1, s, fun vs R1 ω1 H1 x1 s1 p1 => ?_⟩
  match xs, he, p1 with
  | [.int i, .int j, .int c], he, p1 =>
    obtain ⟨v, r, rfl, rv, v2, r2, rfl, rv2, v3, r3, rfl, rv3, rr⟩ := p1
    cases (show r3 = [] from rr)
    cases (show v = .int i from rv)
    cases (show v2 = .int j from rv2)
    cases (show v3 = .int c from rv3)
    simp only at he
    split at he
    · rename_i hc
      subst hc
      split at he
      · rename_i hj
        cases he
        exact ⟨i, j, -1, _, rfl, RgC.neg hj.1.1 hj.1.2 hj.2.1 hj.2.2, k _ R1 ω1 H1 x1 s1 jw_rangeC⟩
      · cases he
    · split at he
      · rename_i hc
        cases he
        exact ⟨i, j, c, _, rfl, ⟨hc.1, hc.2.1, hc.2.2.1, (Int.toNat_of_nonneg hc.2.2.2).symm⟩, k _ R1 ω1 H1 x1 s1 jw_rangeC⟩
      · cases he
theorem iv_enum {As : ADen} {tpos : Pos} {elts : List Expr} {kk : Nat} (hg : Gl X "enumerate") (hm : X.mg "enumerate" = none) (ha : PA X [e] (aOf (kx X cl) As)) (hs : starEach [e] X.env = [(false, eval e X.env)] := by rfl) :
    PI X (.Tuple elts kk tpos) (.Call (.Name "enumerate" p) [e] [] pos) (iOf (kx X cl) (Mp.iEnum As)) := by
  refine PI.im (pi_enumS hg hm ha hs) fun σ H C hh => ?_
  obtain ⟨ε, S, R, ω, ds, ε', S', he, s, k⟩ := hh
  obtain ⟨⟨xs, ε1, S1⟩, e1, he⟩ := bind_ok he
  refine ⟨ε, S, R, ω, xs, ε1, S1, e1, s, fun vs R1 ω1 H1 x1 s1 p1 => ?_⟩
  match xs, he, p1 with
  | [d], he, p1 =>
    obtain ⟨es, e3, he⟩ := bind_ok he
    cases he
    obtain ⟨v, r, rfl, rv, rr⟩ := p1
    cases (show r = [] from rr)
    obtain ⟨ws, C1, hsrc, rs, hC⟩ := src_of rv e3
    have j : ∀ C2 : Hp → Prop, (∀ S H R', Le R1 R' → GR (kx X cl) R' S H → C2 H) → JW (kx X cl) R1 (Ite1 ws C2) (enumFrom 0 es) := fun C2 hC2 => by
      refine jw_walk (by rw [enumFrom_length, rs.length]) hC2 fun i d hd => ?_
      rw [enumFrom_get] at hd
      cases q : es[i]? with
      | none => rw [q] at hd; cases hd
      | some y =>
        rw [q] at hd
        cases hd
        obtain ⟨u, e5, ru⟩ := rs.get q
        refine ⟨_, rfl, .int (i : Nat), [ws.getD i .non], rfl, ?_, Reps.one ?_⟩
        · show V.int (i : Nat) = V.int (0 + (i : Int))
          rw [Int.zero_add]
        · rw [List.getD_eq_getElem?_getD, e5]; exact ru
    refine ⟨ws, ?_⟩
    cases hsrc with
    | lst a => exact .inl ⟨a, rfl, hC _ _ R1 (.refl _) s1.g, k _ R1 ω1 H1 x1 s1 (j _ hC)⟩
    | tup a => exact .inr (.inl ⟨a, rfl, hC _ _ R1 (.refl _) s1.g, k _ R1 ω1 H1 x1 s1 (j _ hC)⟩)
    | str z => exact .inr (.inr ⟨z, rfl, rfl, k _ R1 ω1 H1 x1 s1 (j _ hC)⟩)
theorem iv_zip {As : ADen} {tpos : Pos} {elts : List Expr} {kk : Nat} (hg : Gl X "zip") (hm : X.mg "zip" = none) (ha : PA X [e, e2] (aOf (kx X cl) As))
    (hs : starEach [e, e2] X.env = (false, eval e X.env) :: starEach [e2] X.env := by rfl) (hpl : (backTo pos (starEach [e2] X.env)).any (·.1) = false := by rfl) :
    PI X (.Tuple elts kk tpos) (.Call (.Name "zip" p) [e, e2] [] pos) (iOf (kx X cl) (Mp.iZip As)) := by
  refine PI.im (pi_zipS hg hm ha hs hpl) fun σ H C hh => ?_
  obtain ⟨ε, S, R, ω, ds, ε', S', he, s, k⟩ := hh
  obtain ⟨⟨xs, ε1, S1⟩, e1, he⟩ := bind_ok he
  refine ⟨ε, S, R, ω, xs, ε1, S1, e1, s, fun vs R1 ω1 H1 x1 s1 p1 => ?_⟩
  match xs, he, p1 with
  | [d1, d2], he, p1 =>
    obtain ⟨es1, e3, he⟩ := bind_ok he
    obtain ⟨es2, e4, he⟩ := bind_ok he
    cases he
    obtain ⟨v, r, rfl, rv, v2, r2, rfl, rv2, rr⟩ := p1
    cases (show r2 = [] from rr)
    obtain ⟨ws1, C1, hs1, rs1, hC1⟩ := src_of rv e3
    obtain ⟨ws2, C2, hs2, rs2, hC2⟩ := src_of rv2 e4
    refine ⟨_, _, ws1, ws2, C1, C2, rfl, hs1, hs2, hC1 _ _ R1 (.refl _) s1.g, hC2 _ _ R1 (.refl _) s1.g, k _ R1 ω1 H1 x1 s1 ?_⟩
    refine jw_walk (by simp [zipItems, rs1.length, rs2.length]) (fun S H R' l g => ⟨hC1 S H R' l g, hC2 S H R' l g⟩) fun i d hd => ?_
    simp only [zipItems, List.getElem?_zipWith] at hd
    cases q1 : es1[i]? with
    | none => rw [q1] at hd; simp at hd
    | some y1 =>
      cases q2 : es2[i]? with
      | none => rw [q1, q2] at hd; simp at hd
      | some y2 =>
        rw [q1, q2] at hd
        simp at hd
        subst hd
        obtain ⟨u1, f1, ru1⟩ := rs1.get q1
        obtain ⟨u2, f2, ru2⟩ := rs2.get q2
        refine ⟨_, rfl, _, _, rfl, ?_, Reps.one ?_⟩
        · rw [List.getD_eq_getElem?_getD, f1]; exact ru1
        · rw [List.getD_eq_getElem?_getD, f2]; exact ru2
/-! ### calls -/
theorem ev_call {x : Str} {es : List Expr} {As : ADen} {C : CallI} {j k : Nat} {f : Addr} {fd : FuncData} {ps : List Str} (F : FnOk X.prog X.w X.K X.mg X.base CX0 k f fd ps (spOf (kx X cl) (C.call j))) (hr : Room k X.A) (hg : Gl X x) (hm : X.mg x = some (.ref f)) (hk : PySem.W.keepIn X.K (.ref f) = true) (hb : Binds X.K fd ps [])
    (ha : PA X (e :: es) (aOf (kx X cl) As)) (hdb : (x == ("__debug__" : Str)) = false := by decide) (he : starEach (e :: es) X.env = (false, eval e X.env) :: starEach es X.env := by rfl) (hpl : (backTo pos (starEach es X.env)).any (·.1) = false := by rfl) :
    PE X (.Call (.Name x p) (e :: es) [] pos) (tOf (kx X cl) (eCall C j As)) := by
  refine PE.im (pe_call F hr hg hm hk hb .nil pass0 ha hdb he hpl) fun σ H Q hh => ?_
  obtain ⟨ε, S, R, ω, rv, ε', S', hc, s, k⟩ := hh
  obtain ⟨⟨ds, ε1, S1⟩, e1, hc⟩ := bind_ok hc
  obtain ⟨⟨b, d, S2⟩, e2, hc⟩ := bind_ok hc
  cases hc
  refine ⟨ε, S, R, ω, ds, ε', S1, e1, s, fun vs R1 ω1 H1 x1 s1 p1 => ?_⟩
  show spOf _ _ (vs ++ []) H1 Q E0
  rw [List.append_nil]
  refine ⟨ds, S1, R1, b, d, S', e2, p1, s1.g, fun v R2 H2 x2 g2 r2 => ?_⟩
  obtain ⟨s2, x3⟩ := s1.called x2 g2
  exact k v R2 ω1 H2 (x1.trans x3) s2 (r2.rvr s1 x1)
theorem ev_call0 {x : Str} {C : CallI} {j k : Nat} {f : Addr} {fd : FuncData} {ps : List Str} (F : FnOk X.prog X.w X.K X.mg X.base CX0 k f fd ps (spOf (kx X cl) (C.call j))) (hr : Room k X.A) (hg : Gl X x) (hm : X.mg x = some (.ref f)) (hk : PySem.W.keepIn X.K (.ref f) = true) (hb : Binds X.K fd ps [])
    (hdb : (x == ("__debug__" : Str)) = false := by decide) : PE X (.Call (.Name x p) [] [] pos) (tOf (kx X cl) (eCall C j aNil)) := by
  refine PE.im (pe_call0 F hr hg hm hk hb .nil pass0 hdb) fun σ H Q hh => ?_
  obtain ⟨ε, S, R, ω, rv, ε', S', hc, s, k⟩ := hh
  obtain ⟨⟨ds, ε1, S1⟩, e1, hc⟩ := bind_ok hc
  obtain ⟨⟨b, d, S2⟩, e2, hc⟩ := bind_ok hc
  cases hc
  cases e1
  refine ⟨[], S, R, b, d, S', e2, rfl, s.g, fun v R2 H2 x2 g2 r2 => ?_⟩
  obtain ⟨s2, x3⟩ := s.called x2 g2
  exact k v R2 ω H2 x3 s2 (r2.rvr s (.refl _ _ _))
end
/-- a table of bodies: parameters, names, body -/
structure FnD where
  np : Nat
  nn : Nat
  body : CallI → SDen
def callF (tab : Nat → Option FnD) (wf : Nat) : Nat → Nat → List D → Store → Rs (Bool × D × Store)
  | 0, _, _, _ => .no
  | n + 1, f, ds, S => match tab f with
    | some g => if ds.length = g.np then runBody g.nn (g.body ⟨callF tab wf n, wf⟩) ds S else .no
    | none => .no
theorem start_sr {K : Kc} {R : Rc} {S : Store} {H : Hp} {ds : List D} {vs : List V} {N : List Str} (g : GR K R S H) (r : Reps K R ds vs) :
    SR K R (fun _ => none) (ds.map (fun d => some (Sl.pl d)) ++ List.replicate (N.length - ds.length) none) S (L2.start N vs) H where
  g := g
  len := by simp [L2.start, r.length]
  sl := fun i t h => by
    unfold slot at h
    by_cases hi : i < ds.length
    · rw [List.getElem?_append_left (by simpa using hi), List.getElem?_map, List.getElem?_eq_getElem hi] at h
      cases h
      obtain ⟨v, e, rv⟩ := r.get (List.getElem?_eq_getElem hi)
      refine ⟨v, ?_, rfl, rv⟩
      unfold L2.start
      rw [List.getElem?_append_left (by rw [List.length_map, r.length]; exact hi), List.getElem?_map, e]
      rfl
    · rw [List.getElem?_append_right (by simpa using Nat.le_of_not_lt hi), List.getElem?_replicate] at h
      split at h <;> cases h
  oz := fun _ _ h => nomatch h
  oρ := fun _ _ h => nomatch h
  oi := fun _ _ _ h => nomatch h
  oh := fun _ _ h => nomatch h
  on := fun _ _ h => nomatch h
/-- THE RULE for a def -/
theorem fn_step {P : Program} {w : World} {K : PySem.W.Frag} {mg : Str → Option Value} {base : Heap} {cl : Nat → Addr} {x qual : Str} {st : Stmt} {f : Addr} {fd : FuncData} {N ps : List Str} {n i : Nat} {tab : Nat → Option FnD} {wf : Nat} {M : CallI → SDen}
    (F : Fun K x qual st f fd) (S : FnScope N ps (defScope st)) (ht : tab i = some ⟨ps.length, N.length, M⟩)
    (hb : ∀ (cdv : Value) (A : Around) (outer : List PySem.Env) (s : Shared) (H : Hp) (E : XK), Room n (A.deeper (envOfC qual (defScope st) s.heap.objs.size f cdv)) →
      PSs (cxOf CX0 P w K mg base N qual (defScope st) f cdv A outer s H E).nox (defBody st) (sOf ⟨K, cl⟩ (M ⟨callF tab wf n, wf⟩))) :
    FnOk P w K mg base CX0 (n + 1) f fd ps (spOf ⟨K, cl⟩ (callF tab wf (n + 1) i)) := by
  have open_ : ∀ (ds : List D) (S : Store) (r : Bool × D × Store), callF tab wf (n + 1) i ds S = .ok r → ds.length = ps.length ∧ runBody N.length (M ⟨callF tab wf n, wf⟩) ds S = .ok r := by
    intro ds S r h
    unfold callF at h
    rw [ht] at h
    simp only at h
    split at h
    · rename_i q; exact ⟨q, h⟩
    · cases h
  refine F.ok S (fun vs H Q E h => ?_) fun cdv A outer s H vs Q E hr h => ?_
  · obtain ⟨ds, S, R, b, d, S', e, r, _⟩ := h
    rw [r.length]; exact (open_ _ _ _ e).1
  · obtain ⟨ds, S1, R, b, d, S', e, r, g, k⟩ := h
    refine ⟨_, hb cdv A outer s H E hr, ?_⟩
    obtain ⟨hl, e⟩ := open_ _ _ _ e
    obtain ⟨o, e1, e⟩ := bind_ok e
    refine ⟨_, S1, R, fun _ => none, o, e1, start_sr g r, ?_⟩
    cases o with
    | nx ε2 S2 =>
      cases e
      exact fun σ' R' ω' H' x' s' => k .non R' H' (x'.om fun _ _ h => nomatch h) s'.g (.plain rfl)
    | rt b2 d2 S2 =>
      cases e
      exact fun v R' ω' H' x' g' r' => k v R' H' (x'.om fun _ _ h => nomatch h) g' r'
    | bk ε2 S2 => cases e
    | ct ε2 S2 => cases e
/-- no depth at all: nothing is promised -/
theorem fn_zero {P : Program} {w : World} {K : PySem.W.Frag} {mg : Str → Option Value} {base : Heap} {cl : Nat → Addr} {f : Addr} {fd : FuncData} {ps : List Str} {i : Nat} {tab : Nat → Option FnD} {wf : Nat} : FnOk P w K mg base CX0 0 f fd ps (spOf ⟨K, cl⟩ (callF tab wf 0 i)) where
  len := fun vs H Q E h => by
    obtain ⟨ds, S, R, b, d, S', e, _⟩ := h
    cases e
  run := fun A outer s H args us vs Q E _ _ _ _ h => by
    obtain ⟨ds, S, R, b, d, S', e, _⟩ := h
    cases e
end Mp

/-! Operators by values, subscripts, built-ins, changes of lists. -/
namespace Mp
open PySem PySem.Spec PyProof.Rows L2

/-! ### data -/
mutual
/-- data of depth at most n -/
def D.dat : Nat → D → Bool
  | _, .non => true
  | _, .bl _ => true
  | _, .int _ => true
  | _, .str s => s.all (· < 0x110000)
  | n, .tup ds => match n with | 0 => false | m + 1 => D.dats m ds
  | n, .lst ds => match n with | 0 => false | m + 1 => D.dats m ds
  | _, .dct _ _ => false
  | _, .ref _ => false
  | _, .scr _ => false
def D.dats : Nat → List D → Bool
  | _, [] => true
  | n, d :: ds => D.dat n d && D.dats n ds
end
mutual
def D.py : D → PyData
  | .non => .none
  | .bl b => .bool b
  | .int i => .int i
  | .str s => .str ⟨s.toArray⟩
  | .tup ds => .tuple (D.pys ds)
  | .lst ds => .list (D.pys ds)
  | .dct _ _ => .none
  | .ref _ => .none
  | .scr _ => .none
def D.pys : List D → List PyData
  | [] => []
  | d :: ds => D.py d :: D.pys ds
end
theorem D.pys_map : ∀ ds : List D, D.pys ds = ds.map D.py
  | [] => rfl
  | d :: ds => by simp [D.pys, D.pys_map ds]
/-- == of data -/
def eqv (a b : D) : Bool := PyData.eqv a.py b.py
mutual
theorem D.canLay : ∀ (n : Nat) (d : D), d.dat n = true → d.py.canLay0 = true
  | _, .non, _ => by simp [D.py, PyData.canLay0]
  | _, .bl _, _ => by simp [D.py, PyData.canLay0]
  | _, .int _, _ => by simp [D.py, PyData.canLay0]
  | _, .str s, h => by
    simp only [D.py, PyData.canLay0, PyData.strOk]
    simpa [D.dat] using h
  | 0, .tup ds, h => by simp [D.dat] at h
  | n + 1, .tup ds, h => by
    simp only [D.py, PyData.canLay0]
    exact D.canLays n ds (by simpa [D.dat] using h)
  | 0, .lst ds, h => by simp [D.dat] at h
  | n + 1, .lst ds, h => by
    simp only [D.py, PyData.canLay0]
    exact D.canLays n ds (by simpa [D.dat] using h)
  | _, .dct _ _, h => by simp [D.dat] at h
  | _, .ref _, h => by simp [D.dat] at h
  | _, .scr _, h => by simp [D.dat] at h
theorem D.canLays : ∀ (n : Nat) (ds : List D), D.dats n ds = true → PyData.canLayAll0 (D.pys ds) = true
  | _, [], _ => by simp [D.pys, PyData.canLayAll0]
  | n, d :: ds, h => by
    simp only [D.dats, Bool.and_eq_true] at h
    simp only [D.pys, PyData.canLayAll0, Bool.and_eq_true]
    exact ⟨D.canLay n d h.1, D.canLays n ds h.2⟩
end
mutual
theorem D.deep : ∀ (n : Nat) (d : D), d.dat n = true → d.py.depth ≤ n
  | _, .non, _ => by simp [D.py, PyData.depth]
  | _, .bl _, _ => by simp [D.py, PyData.depth]
  | _, .int _, _ => by simp [D.py, PyData.depth]
  | _, .str s, h => by simp [D.py, PyData.depth]
  | 0, .tup ds, h => by simp [D.dat] at h
  | n + 1, .tup ds, h => by
    simp only [D.py, PyData.depth]
    exact Nat.succ_le_succ (D.deeps n ds (by simpa [D.dat] using h))
  | 0, .lst ds, h => by simp [D.dat] at h
  | n + 1, .lst ds, h => by
    simp only [D.py, PyData.depth]
    exact Nat.succ_le_succ (D.deeps n ds (by simpa [D.dat] using h))
  | _, .dct _ _, h => by simp [D.dat] at h
  | _, .ref _, h => by simp [D.dat] at h
  | _, .scr _, h => by simp [D.dat] at h
theorem D.deeps : ∀ (n : Nat) (ds : List D), D.dats n ds = true → PyData.depthAll (D.pys ds) ≤ n
  | _, [], _ => by simp [D.pys, PyData.depthAll]
  | n, d :: ds, h => by
    simp only [D.dats, Bool.and_eq_true] at h
    simp only [D.pys, PyData.depthAll]
    exact Nat.max_le.mpr ⟨D.deep n d h.1, D.deeps n ds h.2⟩
end
theorem D.shaped {d : D} (h : d.dat 64 = true) : SeqAt.shaped d.py = true := by
  unfold SeqAt.shaped
  rw [Bool.and_eq_true]
  exact ⟨D.canLay 64 d h, decide_eq_true (D.deep 64 d h)⟩
section
variable {K : Kc} {R : Rc} {S : Store} {H : Hp}
mutual
theorem Rep.dp (g : GR K R S H) : ∀ (n : Nat) (d : D) (v : V), d.dat n = true → Rep K R d v → Dp K.F H v d.py
  | _, .non, v, _, r => by cases (show v = .non from r); exact .non
  | _, .bl b, v, _, r => by cases (show v = .bl b from r); exact .bl b
  | _, .int i, v, _, r => by cases (show v = .int i from r); exact .int i
  | _, .str s, v, _, r => by cases (show v = .str ⟨s.toArray⟩ from r); exact .str _
  | 0, .tup ds, v, h, r => by simp [D.dat] at h
  | n + 1, .tup ds, v, h, r => by
    obtain ⟨a, vs, rfl, z, rs⟩ := r
    exact .tup (z.sq g) (Reps.dp g n ds vs (by simpa [D.dat] using h) rs)
  | 0, .lst ds, v, h, r => by simp [D.dat] at h
  | n + 1, .lst ds, v, h, r => by
    obtain ⟨a, vs, rfl, z, rs⟩ := r
    exact .lst (SqL.of (g.zh a _ z)) (Reps.dp g n ds vs (by simpa [D.dat] using h) rs)
  | _, .dct _ _, v, h, r => by simp [D.dat] at h
  | _, .ref _, v, h, r => by simp [D.dat] at h
  | _, .scr _, v, h, r => by simp [D.dat] at h
theorem Reps.dp (g : GR K R S H) : ∀ (n : Nat) (ds : List D) (vs : List V), D.dats n ds = true → Reps K R ds vs → DpAll K.F H vs (D.pys ds)
  | _, [], vs, _, r => by cases (show vs = [] from r); exact .nil
  | n, d :: ds, vs, h, r => by
    obtain ⟨v, q, rfl, p, t⟩ := r
    simp only [D.dats, Bool.and_eq_true] at h
    exact .cons (Rep.dp g n d v h.1 p) (Reps.dp g n ds q h.2 t)
end
theorem VR.dp (g : GR K R S H) {n : Nat} {d : D} {v : V} (h : d.dat n = true) (r : VR K R H d v) : Dp K.F H v d.py := by
  rcases r with r | ⟨a, o, rfl, ho, c⟩
  · exact Rep.dp g n d v h r
  · cases d with
    | lst ds =>
      obtain ⟨vs, rfl, rs⟩ := c
      cases n with
      | zero => simp [D.dat] at h
      | succ n => exact .lst (SqL.of ho) (Reps.dp g n ds vs (by simpa [D.dat] using h) rs)
    | _ => exact c.elim
theorem VR.lst (g : GR K R S H) {ds : List D} {v : V} (r : VR K R H (.lst ds) v) : ∃ a vs, v = .ref a ∧ H a = some (.lst vs) ∧ Reps K R ds vs := by
  rcases r with ⟨a, vs, rfl, z, rs⟩ | ⟨a, o, rfl, ho, vs, rfl, rs⟩
  · exact ⟨a, vs, rfl, g.zh a _ z, rs⟩
  · exact ⟨a, vs, rfl, ho, rs⟩
theorem VR.tup (g : GR K R S H) {ds : List D} {v : V} (r : VR K R H (.tup ds) v) : ∃ a vs, v = .ref a ∧ SqT K.F H a vs ∧ Reps K R ds vs := by
  rcases r with ⟨a, vs, rfl, z, rs⟩ | ⟨a, o, rfl, ho, c⟩
  · exact ⟨a, vs, rfl, z.sq g, rs⟩
  · exact c.elim
theorem VR.ref (g : GR K R S H) {j : Nat} {v : V} (r : VR K R H (.ref j) v) : ∃ a, v = .ref a ∧ R.ρ[j]? = some a := by
  rcases r with ⟨a, e, rfl⟩ | ⟨a, o, rfl, ho, c⟩
  · exact ⟨a, rfl, e⟩
  · exact c.elim
theorem VR.tupZ {ds : List D} {v : V} (r : VR K R H (.tup ds) v) : Rep K R (.tup ds) v := by
  rcases r with r | ⟨a, o, rfl, ho, c⟩
  · exact r
  · exact c.elim
/-! ### results -/
theorem res_lst {Q : VK} {ds : List D} {vs : List V} (g : GR K R S H) (k : ∀ v' R' H', Gw R H R' H' → RNew K H R' H' (.fr (.lst ds)) v' → Q v' H') (r : Reps K R ds vs) (p : Addr) (np : H p = none) : Q (.ref p) (upd H p (.lst vs)) :=
  k _ R _ (Gw.new np) ⟨p, _, rfl, upd_same, ⟨vs, rfl, r⟩, g.free np, np⟩
theorem res_tup {Q : VK} {ds : List D} {vs : List V} (g : GR K R S H) (k : ∀ v' R' H', Gw R H R' H' → RNew K H R' H' (.pl (.tup ds)) v' → Q v' H') (r : Reps K R ds vs) (p : Addr) (np : H p = none) : Q (.ref p) (upd H p (.tup vs)) :=
  k _ (R.tell p (.tup vs)) _ (Gw.tell np (g.free np)) ⟨p, vs, rfl, .inl tell_at, r.mono (tell_le (g.free np))⟩
theorem res_pl {Q : VK} {d : D} {v : V} (k : ∀ v' R' H', Gw R H R' H' → RNew K H R' H' (.pl d) v' → Q v' H') (r : Rep K R d v) : Q v H := k v R H (.refl _ _) r
theorem Reps.rep {ds : List D} {vs : List V} (r : Reps K R ds vs) : ∀ n : Nat, Reps K R (List.replicate n ds).flatten (List.replicate n vs).flatten
  | 0 => rfl
  | n + 1 => by
    simp only [List.replicate_succ, List.flatten_cons]
    exact r.append (Reps.rep r n)
theorem Reps.atI {ds : List D} {vs : List V} {i : Int} {d : D} (r : Reps K R ds vs) (h : L2.atI ds i = some d) : ∃ v, L2.atI vs i = some v ∧ Rep K R d v := by
  unfold L2.atI at h ⊢
  rw [r.length]
  cases q : ixN ds.length i with
  | none => rw [q] at h; cases h
  | some j =>
    rw [q] at h
    obtain ⟨v, e, rv⟩ := r.get (show ds[j]? = some d from h)
    exact ⟨v, e, rv⟩
end

/-! ### arithmetic -/
def mulOk (i j : Int) : Bool := decide (-(2 ^ 64) < i ∧ i < 2 ^ 64) || decide (-(2 ^ 64) < j ∧ j < 2 ^ 64) || decide (i.natAbs.log2 + j.natAbs.log2 < 1000000)
def pAdd (x y : D) (_ : Store) : Rs RV := match x, y with
  | .int i, .int j => .ok (.pl (.int (i + j)))
  | .str a, .str b => if a.length + b.length ≤ 16777216 then .ok (.pl (.str (a ++ b))) else .no
  | .lst a, .lst b => if a.length + b.length ≤ 16777216 then .ok (.fr (.lst (a ++ b))) else .no
  | .tup a, .tup b => if a.length + b.length ≤ 16777216 then .ok (.pl (.tup (a ++ b))) else .no
  | _, _ => .no
def pSub (x y : D) (_ : Store) : Rs RV := match x, y with
  | .int i, .int j => .ok (.pl (.int (i - j)))
  | _, _ => .no
def pMul (x y : D) (_ : Store) : Rs RV := match x, y with
  | .int i, .int j => if mulOk i j then .ok (.pl (.int (i * j))) else .no
  | .lst a, .int k => if (-(2 ^ 63) ≤ k ∧ k < 2 ^ 63) ∧ a.length * k.toNat ≤ 16777216 then .ok (.fr (.lst (List.replicate k.toNat a).flatten)) else .no
  | .tup a, .int k => if a ≠ [] ∧ 2 ≤ k ∧ k ≤ 1000 ∧ a.length ≤ 1000 then .ok (.pl (.tup (List.replicate k.toNat a).flatten)) else .no
  | _, _ => .no
def pFdiv (x y : D) (_ : Store) : Rs RV := match x, y with
  | .int i, .int j => if 0 < j ∧ j.natAbs.log2 < 9000 then .ok (.pl (.int (i / j))) else .no
  | _, _ => .no
def pMod (x y : D) (_ : Store) : Rs RV := match x, y with
  | .int i, .int j => if 0 < j then .ok (.pl (.int (i % j))) else .no
  | _, _ => .no
def pPow (x y : D) (_ : Store) : Rs RV := match x, y with
  | .int i, .int j => if 0 ≤ j ∧ j ≤ 1000000 ∧ i.natAbs < 2 ^ 64 then .ok (.pl (.int (i ^ j.toNat))) else .no
  | _, _ => .no
def pShl (x y : D) (_ : Store) : Rs RV := match x, y with
  | .int i, .int j => if 0 ≤ j ∧ j ≤ 1000000 ∧ i.natAbs < 2 ^ 64 then .ok (.pl (.int (i * 2 ^ j.toNat))) else .no
  | _, _ => .no
def pShr (x y : D) (_ : Store) : Rs RV := match x, y with
  | .int i, .int j => if 0 ≤ j then .ok (.pl (.int (i / 2 ^ j.toNat))) else .no
  | _, _ => .no
def pAnd (x y : D) (_ : Store) : Rs RV := match x, y with
  | .int i, .int j => .ok (.pl (.int (Builtin.bitAnd i j)))
  | _, _ => .no
def pOr (x y : D) (_ : Store) : Rs RV := match x, y with
  | .int i, .int j => .ok (.pl (.int (Builtin.bitOr i j)))
  | _, _ => .no
def pXor (x y : D) (_ : Store) : Rs RV := match x, y with
  | .int i, .int j => .ok (.pl (.int (Builtin.bitXor i j)))
  | _, _ => .no
def pNeg (x : D) (_ : Store) : Rs RV := match x with | .int i => .ok (.pl (.int (-i))) | _ => .no
def pInv (x : D) (_ : Store) : Rs RV := match x with | .int i => .ok (.pl (.int (Builtin.bitNot i))) | _ => .no
def pCmp (f : Int → Int → Bool) (x y : D) (_ : Store) : Rs RV := match x, y with
  | .int i, .int j => .ok (.pl (.bl (f i j)))
  | _, _ => .no
abbrev pLt := pCmp fun i j => decide (i < j)
abbrev pLe := pCmp fun i j => decide (i ≤ j)
abbrev pGt := pCmp fun i j => decide (j < i)
abbrev pGe := pCmp fun i j => decide (j ≤ i)
def pEq (x y : D) (_ : Store) : Rs RV := if x.dat 64 = true ∧ y.dat 64 = true then .ok (.pl (.bl (eqv x y))) else .no
def pNe (x y : D) (_ : Store) : Rs RV := if x.dat 64 = true ∧ y.dat 64 = true then .ok (.pl (.bl (!eqv x y))) else .no
def D.isNon : D → Bool
  | .non => true
  | _ => false
def pIs (x y : D) (_ : Store) : Rs RV := match y with
  | .non => .ok (.pl (.bl x.isNon))
  | .bl b => match x with | .bl a => .ok (.pl (.bl (decide (a = b)))) | _ => .no
  | _ => .no
def pIsNot (x y : D) (_ : Store) : Rs RV := match y with
  | .non => .ok (.pl (.bl (!x.isNon)))
  | .bl b => match x with | .bl a => .ok (.pl (.bl (!decide (a = b)))) | _ => .no
  | _ => .no
/-- what a container holds, for `in` -/
def pIn (neg : Bool) (x y : D) (_ : Store) : Rs RV := match y with
  | .lst ds => if x.dat 64 = true ∧ (D.lst ds).dat 64 = true then .ok (.pl (.bl (neg != ds.any fun d => eqv d x))) else .no
  | .tup ds => if x.dat 64 = true ∧ (D.tup ds).dat 64 = true then .ok (.pl (.bl (neg != ds.any fun d => eqv d x))) else .no
  | .str z => match x with | .str [c] => .ok (.pl (.bl (neg != decide (c ∈ z)))) | _ => .no
  | _ => .no
section
variable {X : Cx} {cl : Nat → Addr}
theorem str_app (a b : List Nat) : ((⟨a.toArray⟩ : Str) ++ (⟨b.toArray⟩ : Str)) = ⟨(a ++ b).toArray⟩ := by
  show Str.append _ _ = _
  unfold Str.append
  simp
def rAddAll (K : PySem.W.Frag) : R2 := fun x y H Q => rI0 (fun i j => .int (i + j)) x y H Q ∨ (∃ i j, x = .str i ∧ y = .str j ∧ i.length + j.length ≤ sizeLine ∧ Q (.str (i ++ j)) H) ∨ rCat x y H Q ∨ rCatA K x y H Q
theorem or_add : OpR X (binaryOp .Add) (rAddAll X.K) := OpR.or op_add (OpR.or op_add_str (OpR.or op_cat op_catA))
theorem ok_add : OpOk (kx X cl) pAdd (rAddAll X.K) := by
  intro x y S rv v w R H Q e g rx ry k
  unfold pAdd at e
  split at e
  · cases e
    exact .inl ⟨_, _, rx.int, ry.int, res_pl k rfl⟩
  · split at e
    · rename_i hl
      cases e
      refine .inr (.inl ⟨_, _, rx.str, ry.str, by rw [sizeLine_is]; simpa [Str.length] using hl, res_pl k ?_⟩)
      rw [str_app]; rfl
    · cases e
  · split at e
    · rename_i hl
      cases e
      obtain ⟨a, vs, rfl, ha, ra⟩ := rx.lst g
      obtain ⟨b, ws, rfl, hb, rb⟩ := ry.lst g
      exact .inr (.inr (.inl ⟨a, b, vs, ws, rfl, rfl, ha, hb, by rw [ra.length, rb.length, sizeLine_is]; exact hl, res_lst g k (ra.append rb)⟩))
    · cases e
  · rename_i da db
    split at e
    · rename_i hl
      cases e
      obtain ⟨a, vs, rfl, ha, ra⟩ := rx.tup g
      obtain ⟨b, ws, rfl, hb, rb⟩ := ry.tup g
      refine .inr (.inr (.inr ⟨a, b, vs, ws, rfl, rfl, ha, hb, by rw [ra.length, rb.length, sizeLine_is]; exact hl, fun hv => ?_, fun _ hw => ?_, fun _ _ => res_tup g k (ra.append rb)⟩))
      · have hd : da = [] := by
          have q := ra.length
          rw [hv] at q
          exact List.length_eq_zero_iff.mp q.symm
        subst hd
        exact res_pl k ry.tupZ
      · have hd : db = [] := by
          have q := rb.length
          rw [hw] at q
          exact List.length_eq_zero_iff.mp q.symm
        subst hd
        rw [List.append_nil] at k
        exact res_pl k rx.tupZ
    · cases e
  · cases e
theorem ok_sub : OpOk (kx X cl) pSub (rI0 fun i j => .int (i - j)) := by
  intro x y S rv v w R H Q e g rx ry k
  unfold pSub at e
  split at e
  · cases e; exact ⟨_, _, rx.int, ry.int, res_pl k rfl⟩
  · cases e
def rMulAll (K : PySem.W.Frag) : R2 := fun x y H Q => rI CMul (fun i j => .int (i * j)) x y H Q ∨ rI CMulW (fun i j => .int (i * j)) x y H Q ∨ rRep x y H Q ∨ rRepT K x y H Q
theorem or_mul : OpR X (binaryOp .Mult) (rMulAll X.K) := OpR.or op_mul (OpR.or op_mulW (OpR.or op_rep op_repT))
theorem ok_mul : OpOk (kx X cl) pMul (rMulAll X.K) := by
  intro x y S rv v w R H Q e g rx ry k
  unfold pMul at e
  split at e
  · split at e
    · rename_i i j hm
      cases e
      unfold mulOk at hm
      rw [Bool.or_eq_true, Bool.or_eq_true] at hm
      rcases hm with (hm | hm) | hm
      · exact .inl ⟨_, _, rx.int, ry.int, .inl (of_decide_eq_true hm), res_pl k rfl⟩
      · exact .inl ⟨_, _, rx.int, ry.int, .inr (of_decide_eq_true hm), res_pl k rfl⟩
      · exact .inr (.inl ⟨i, j, rx.int, ry.int, (show i.natAbs.log2 + j.natAbs.log2 < 1000000 from of_decide_eq_true hm), res_pl k rfl⟩)
    · cases e
  · split at e
    · rename_i hl
      cases e
      obtain ⟨a, vs, rfl, ha, ra⟩ := rx.lst g
      exact .inr (.inr (.inl ⟨a, _, vs, rfl, ry.int, ha, hl.1.1, hl.1.2, by rw [ra.length, sizeLine_is]; exact hl.2, res_lst g k (ra.rep _)⟩))
    · cases e
  · split at e
    · rename_i hl
      cases e
      obtain ⟨a, vs, rfl, ha, ra⟩ := rx.tup g
      refine .inr (.inr (.inr ⟨a, _, vs, rfl, ry.int, ha, fun q => hl.1 ?_, hl.2.1, hl.2.2.1, by rw [ra.length]; exact hl.2.2.2, res_tup g k (ra.rep _)⟩))
      have q2 := ra.length
      rw [q] at q2
      exact List.length_eq_zero_iff.mp q2.symm
    · cases e
  · cases e
theorem ok_fdiv : OpOk (kx X cl) pFdiv (rI CDivW fun i j => .int (i / j)) := by
  intro x y S rv v w R H Q e g rx ry k
  unfold pFdiv at e
  split at e
  · split at e
    · rename_i h; cases e; exact ⟨_, _, rx.int, ry.int, h, res_pl k rfl⟩
    · cases e
  · cases e
theorem ok_mod : OpOk (kx X cl) pMod (rI (fun _ j => 0 < j) fun i j => .int (i % j)) := by
  intro x y S rv v w R H Q e g rx ry k
  unfold pMod at e
  split at e
  · split at e
    · rename_i h; cases e; exact ⟨_, _, rx.int, ry.int, h, res_pl k rfl⟩
    · cases e
  · cases e
theorem ok_pow : OpOk (kx X cl) pPow (rI CPow fun i j => .int (i ^ j.toNat)) := by
  intro x y S rv v w R H Q e g rx ry k
  unfold pPow at e
  split at e
  · split at e
    · rename_i h; cases e; exact ⟨_, _, rx.int, ry.int, h, res_pl k rfl⟩
    · cases e
  · cases e
theorem ok_shl : OpOk (kx X cl) pShl (rI CPow fun i j => .int (i * 2 ^ j.toNat)) := by
  intro x y S rv v w R H Q e g rx ry k
  unfold pShl at e
  split at e
  · split at e
    · rename_i h; cases e; exact ⟨_, _, rx.int, ry.int, h, res_pl k rfl⟩
    · cases e
  · cases e
theorem ok_shr : OpOk (kx X cl) pShr (rI (fun _ j => 0 ≤ j) fun i j => .int (i / 2 ^ j.toNat)) := by
  intro x y S rv v w R H Q e g rx ry k
  unfold pShr at e
  split at e
  · split at e
    · rename_i h; cases e; exact ⟨_, _, rx.int, ry.int, h, res_pl k rfl⟩
    · cases e
  · cases e
theorem ok_and : OpOk (kx X cl) pAnd (rI0 fun i j => .int (Builtin.bitAnd i j)) := by
  intro x y S rv v w R H Q e g rx ry k
  unfold pAnd at e
  split at e
  · cases e; exact ⟨_, _, rx.int, ry.int, res_pl k rfl⟩
  · cases e
theorem ok_or : OpOk (kx X cl) pOr (rI0 fun i j => .int (Builtin.bitOr i j)) := by
  intro x y S rv v w R H Q e g rx ry k
  unfold pOr at e
  split at e
  · cases e; exact ⟨_, _, rx.int, ry.int, res_pl k rfl⟩
  · cases e
theorem ok_xor : OpOk (kx X cl) pXor (rI0 fun i j => .int (Builtin.bitXor i j)) := by
  intro x y S rv v w R H Q e g rx ry k
  unfold pXor at e
  split at e
  · cases e; exact ⟨_, _, rx.int, ry.int, res_pl k rfl⟩
  · cases e
theorem ok_cmp {f : Int → Int → Bool} : OpOk (kx X cl) (pCmp f) (rI0 fun i j => .bl (f i j)) := by
  intro x y S rv v w R H Q e g rx ry k
  unfold pCmp at e
  split at e
  · cases e; exact ⟨_, _, rx.int, ry.int, res_pl k rfl⟩
  · cases e
theorem ok_neg : UnOk (kx X cl) pNeg (rU fun i => .int (-i)) := by
  intro x S rv v R H Q e g rx k
  unfold pNeg at e
  split at e
  · cases e; exact ⟨_, rx.int, res_pl k rfl⟩
  · cases e
theorem ok_inv : UnOk (kx X cl) pInv (rU fun i => .int (Builtin.bitNot i)) := by
  intro x S rv v R H Q e g rx k
  unfold pInv at e
  split at e
  · cases e; exact ⟨_, rx.int, res_pl k rfl⟩
  · cases e
theorem ok_eq : OpOk (kx X cl) pEq (rEqD X.K) := by
  intro x y S rv v w R H Q e g rx ry k
  unfold pEq at e
  split at e
  · rename_i h
    cases e
    exact ⟨_, _, rx.dp g h.1, ry.dp g h.2, D.shaped h.1, D.shaped h.2, res_pl k rfl⟩
  · cases e
theorem ok_ne : OpOk (kx X cl) pNe (rNeD X.K) := by
  intro x y S rv v w R H Q e g rx ry k
  unfold pNe at e
  split at e
  · rename_i h
    cases e
    exact ⟨_, _, rx.dp g h.1, ry.dp g h.2, D.shaped h.1, D.shaped h.2, res_pl k rfl⟩
  · cases e
def rIsAll : R2 := fun x y H Q => (y = .non ∧ Q (.bl (decide (x = .non))) H) ∨ rIsB x y H Q
def rIsNotAll : R2 := fun x y H Q => (y = .non ∧ Q (.bl (!decide (x = .non))) H) ∨ rNotB x y H Q
theorem or_is : OpR X (compareOp .Is) rIsAll := OpR.or op_isN op_isBl
theorem or_isnot : OpR X (compareOp .IsNot) rIsNotAll := OpR.or op_notN op_notBl
theorem VR.isnon {K : Kc} {R : Rc} {H : Hp} {x : D} {v : V} (r : VR K R H x v) : decide (v = .non) = x.isNon := by
  rcases r with r | ⟨a, o, rfl, _, c⟩
  · cases x with
    | non => rw [show v = .non from r]; rfl
    | bl b => rw [show v = .bl b from r]; rfl
    | int b => rw [show v = .int b from r]; rfl
    | str b => rw [show v = .str ⟨b.toArray⟩ from r]; rfl
    | tup b => obtain ⟨a, vs, rfl, _⟩ := r; rfl
    | lst b => obtain ⟨a, vs, rfl, _⟩ := r; rfl
    | dct _ _ => exact r.elim
    | ref j => obtain ⟨a, _, rfl⟩ := r; rfl
    | scr j => obtain ⟨a, rfl, _⟩ := r; rfl
  · cases x with
    | lst b => rfl
    | _ => exact c.elim
theorem ok_is : OpOk (kx X cl) pIs rIsAll := by
  intro x y S rv v w R H Q e g rx ry k
  unfold pIs at e
  split at e
  · cases e
    refine .inl ⟨ry.non, ?_⟩
    rw [rx.isnon]
    exact res_pl k rfl
  · split at e
    · cases e
      exact .inr ⟨_, _, rx.bl, ry.bl, res_pl k rfl⟩
    · cases e
  · cases e
theorem ok_isnot : OpOk (kx X cl) pIsNot rIsNotAll := by
  intro x y S rv v w R H Q e g rx ry k
  unfold pIsNot at e
  split at e
  · cases e
    refine .inl ⟨ry.non, ?_⟩
    rw [rx.isnon]
    exact res_pl k rfl
  · split at e
    · cases e
      exact .inr ⟨_, _, rx.bl, ry.bl, res_pl k rfl⟩
    · cases e
  · cases e
/-! ### in -/
def rInT (K : PySem.W.Frag) (neg : Bool) : R2 := fun x y H Q => ∃ d ds, Dp K H x d ∧ Dp K H y (.tuple ds) ∧ SeqAt.shaped d = true ∧ SeqAt.shaped (.tuple ds) = true ∧ Q (.bl (neg != ds.any fun z => PyData.eqv z d)) H
theorem op_inT (hu : X.A.units + 65 < cLine) : OpR X (compareOp .In) (rInT X.K false) := by
  intro pins s σ H x y v u Q I rx ry h
  obtain ⟨d, ds, hd, he, sd, se, q⟩ := h
  obtain ⟨as, r1⟩ := Dp.reads I d x v hd rx
  obtain ⟨bs, r2⟩ := Dp.reads I (.tuple ds) y u he ry
  exact SeqAt.in_tuple_reads r2 r1 (SeqAt.canLay_of_shaped se) (SeqAt.canLay_of_shaped sd) (room_in_shaped sd hu) ⟨.bl _, H, I, rfl, by simpa using q⟩
theorem op_notInT (hu : X.A.units + 65 < cLine) : OpR X (compareOp .NotIn) (rInT X.K true) := by
  intro pins s σ H x y v u Q I rx ry h
  obtain ⟨d, ds, hd, he, sd, se, q⟩ := h
  obtain ⟨as, r1⟩ := Dp.reads I d x v hd rx
  obtain ⟨bs, r2⟩ := Dp.reads I (.tuple ds) y u he ry
  exact SeqAt.notIn_tuple_reads r2 r1 (SeqAt.canLay_of_shaped se) (SeqAt.canLay_of_shaped sd) (room_in_shaped sd hu) ⟨.bl _, H, I, rfl, by simpa using q⟩
def rInAll (K : PySem.W.Frag) : R2 := fun x y H Q => rInD K x y H Q ∨ rInT K false x y H Q ∨ (∃ (c : Nat) (z : Str), x = .str ⟨#[c]⟩ ∧ y = .str z ∧ Q (.bl (decide (c ∈ z.cps.toList))) H)
def rNotInAll (K : PySem.W.Frag) : R2 := fun x y H Q => rNotInD K x y H Q ∨ rInT K true x y H Q ∨ (∃ (c : Nat) (z : Str), x = .str ⟨#[c]⟩ ∧ y = .str z ∧ Q (.bl (!decide (c ∈ z.cps.toList))) H)
theorem or_in (hu : X.A.units + 65 < cLine) : OpR X (compareOp .In) (rInAll X.K) := OpR.or (op_inD hu) (OpR.or (op_inT hu) op_in_sign)
theorem or_notin (hu : X.A.units + 65 < cLine) : OpR X (compareOp .NotIn) (rNotInAll X.K) := OpR.or (op_notInD hu) (OpR.or (op_notInT hu) op_notIn_sign)
theorem any_py (ds : List D) (x : D) : ((D.pys ds).any fun z => PyData.eqv z x.py) = ds.any fun d => eqv d x := by
  rw [D.pys_map, List.any_map]; rfl
theorem ok_in : OpOk (kx X cl) (pIn false) (rInAll X.K) := by
  intro x y S rv v w R H Q e g rx ry k
  unfold pIn at e
  split at e
  · rename_i ds
    split at e
    · rename_i h
      cases e
      refine .inl ⟨_, D.pys ds, rx.dp g h.1, ry.dp g h.2, D.shaped h.1, D.shaped h.2, ?_⟩
      rw [any_py]
      exact res_pl k (by simp [Rep])
    · cases e
  · rename_i ds
    split at e
    · rename_i h
      cases e
      refine .inr (.inl ⟨_, D.pys ds, rx.dp g h.1, ry.dp g h.2, D.shaped h.1, D.shaped h.2, ?_⟩)
      rw [any_py]
      exact res_pl k rfl
    · cases e
  · split at e
    · cases e
      exact .inr (.inr ⟨_, _, rx.str, ry.str, res_pl k (by simp [Rep])⟩)
    · cases e
  · cases e
theorem ok_notin : OpOk (kx X cl) (pIn true) (rNotInAll X.K) := by
  intro x y S rv v w R H Q e g rx ry k
  unfold pIn at e
  split at e
  · rename_i ds
    split at e
    · rename_i h
      cases e
      refine .inl ⟨_, D.pys ds, rx.dp g h.1, ry.dp g h.2, D.shaped h.1, D.shaped h.2, ?_⟩
      rw [any_py]
      exact res_pl k (by simp [Rep])
    · cases e
  · rename_i ds
    split at e
    · rename_i h
      cases e
      refine .inr (.inl ⟨_, D.pys ds, rx.dp g h.1, ry.dp g h.2, D.shaped h.1, D.shaped h.2, ?_⟩)
      rw [any_py]
      exact res_pl k rfl
    · cases e
  · split at e
    · cases e
      exact .inr (.inr ⟨_, _, rx.str, ry.str, res_pl k (by simp [Rep])⟩)
    · cases e
  · cases e
/-! ### subscripts -/
def pIdx (x y : D) (S : Store) : Rs RV := match y with
  | .int i => match x with
    | .lst ds => match L2.atI ds i with | some d => .ok (.pl d) | none => .no
    | .tup ds => match L2.atI ds i with | some d => .ok (.pl d) | none => .no
    | .str s => if s.length ≤ 16777216 then match L2.atI s i with | some c => .ok (.pl (.str [c])) | none => .no else .no
    | .ref j => match S[j]? with
      | some (.lst ds) => match L2.atI ds i with | some d => .ok (.pl d) | none => .no
      | _ => .no
    | _ => .no
  | _ => .no
theorem ok_idx : OpOk (kx X cl) pIdx (rIx X.K) := by
  intro x y S rv v w R H Q e g rx ry k
  unfold pIdx at e
  split at e
  · split at e
    · split at e
      · rename_i d hd
        cases e
        obtain ⟨a, vs, rfl, ha, ra⟩ := rx.lst g
        obtain ⟨u, e1, ru⟩ := ra.atI hd
        exact .inl ⟨a, vs, _, u, rfl, ry.int, SqL.of ha, e1, res_pl k ru⟩
      · cases e
    · split at e
      · rename_i d hd
        cases e
        obtain ⟨a, vs, rfl, ha, ra⟩ := rx.tup g
        obtain ⟨u, e1, ru⟩ := ra.atI hd
        exact .inr (.inl ⟨a, vs, _, u, rfl, ry.int, ha, e1, res_pl k ru⟩)
      · cases e
    · split at e
      · rename_i hl
        split at e
        · rename_i c hc
          cases e
          exact .inr (.inr ⟨_, _, c, rx.str, ry.int, by rw [sizeLine_is]; simpa [Str.length] using hl, by simpa using hc, res_pl k rfl⟩)
        · cases e
      · cases e
    · split at e
      · rename_i ds hs
        split at e
        · rename_i d hd
          cases e
          obtain ⟨a, rfl, ea⟩ := rx.ref g
          obtain ⟨b, eb, vs, ha, ra⟩ := g.st _ _ hs
          rw [ea] at eb; cases eb
          obtain ⟨u, e1, ru⟩ := ra.atI hd
          exact .inl ⟨a, vs, _, u, rfl, ry.int, SqL.of ha, e1, res_pl k ru⟩
        · cases e
      · cases e
    · cases e
  · cases e
end
end Mp

/-! Built-ins, slices, changes of lists. -/
namespace Mp
open PySem PySem.Spec PyProof.Rows L2

section
variable {X : Cx} {cl : Nat → Addr} {e a b : Expr} {Ea Eb : Den} {pos p : Pos}
theorem ev_b1 {f : D → Store → Rs RV} {r : List V → Hp → VK → Prop} (h : PE X e (tCB r (tCons (tOf (kx X cl) Ea) tNil))) (ok : UnOk (kx X cl) f (fun x H Q => r [x] H Q)) : PE X e (tOf (kx X cl) (eUn f Ea)) := ev_un h ok
theorem ev_b2 {f : D → D → Store → Rs RV} {r : List V → Hp → VK → Prop} (h : PE X e (tCB r (tCons (tOf (kx X cl) Ea) (tCons (tOf (kx X cl) Eb) tNil)))) (ok : OpOk (kx X cl) f (fun x y H Q => r [x, y] H Q)) : PE X e (tOf (kx X cl) (eBin f Ea Eb)) := ev_bin h ok
/-! ### len -/
def pLen (x : D) (S : Store) : Rs RV := match x with
  | .str s => if s.length ≤ 16777216 then .ok (.pl (.int s.length)) else .no
  | .tup ds => .ok (.pl (.int ds.length))
  | .lst ds => .ok (.pl (.int ds.length))
  | .ref j => match S[j]? with
    | some (.lst ds) => .ok (.pl (.int ds.length))
    | _ => .no
  | _ => .no
theorem ok_len : UnOk (kx X cl) pLen (fun x H Q => ∃ y n, [x] = [y] ∧ LenV X.K y H n ∧ Q (.int n) H) := by
  intro x S rv v R H Q e g rx k
  unfold pLen at e
  split at e
  · rename_i s
    split at e
    · rename_i hl
      cases e
      refine ⟨v, s.length, rfl, ?_, res_pl k rfl⟩
      rw [rx.str]
      exact ⟨by rw [sizeLine_is]; simpa [Str.length] using hl, by simp [Str.length]⟩
    · cases e
  · rename_i ds
    cases e
    obtain ⟨a, vs, rfl, ha, ra⟩ := rx.tup g
    exact ⟨_, ds.length, rfl, .inr ⟨vs, ha, ra.length.symm⟩, res_pl k rfl⟩
  · rename_i ds
    cases e
    obtain ⟨a, vs, rfl, ha, ra⟩ := rx.lst g
    exact ⟨_, ds.length, rfl, .inl ⟨vs, SqL.of ha, ra.length.symm⟩, res_pl k rfl⟩
  · split at e
    · rename_i ds hs
      cases e
      obtain ⟨a, rfl, ea⟩ := rx.ref g
      obtain ⟨b, eb, vs, ha, ra⟩ := g.st _ _ hs
      rw [ea] at eb; cases eb
      exact ⟨_, ds.length, rfl, .inl ⟨vs, SqL.of ha, ra.length.symm⟩, res_pl k rfl⟩
    · cases e
  · cases e
/-! ### numbers -/
def pAbs (x : D) (_ : Store) : Rs RV := match x with | .int i => .ok (.pl (.int (if i < 0 then -i else i))) | _ => .no
def pInt (x : D) (_ : Store) : Rs RV := match x with | .int i => .ok (.pl (.int i)) | _ => .no
def pMax2 (x y : D) (_ : Store) : Rs RV := match x, y with | .int i, .int j => .ok (.pl (.int (if j > i then j else i))) | _, _ => .no
def pMin2 (x y : D) (_ : Store) : Rs RV := match x, y with | .int i, .int j => .ok (.pl (.int (if j < i then j else i))) | _, _ => .no
theorem ok_abs : UnOk (kx X cl) pAbs (fun x H Q => ∃ i, [x] = [.int i] ∧ Q (.int (if i < 0 then -i else i)) H) := by
  intro x S rv v R H Q e g rx k
  unfold pAbs at e
  split at e
  · cases e; exact ⟨_, by rw [rx.int], res_pl k rfl⟩
  · cases e
theorem ok_int : UnOk (kx X cl) pInt (fun x H Q => (∃ i, [x] = [.int i] ∧ Q (.int i) H) ∨ ∃ k, [x] = [.bl k] ∧ Q (.int (if k then 1 else 0)) H) := by
  intro x S rv v R H Q e g rx k
  unfold pInt at e
  split at e
  · cases e; exact .inl ⟨_, by rw [rx.int], res_pl k rfl⟩
  · cases e
theorem ok_max2 : OpOk (kx X cl) pMax2 (fun x y H Q => ∃ i j, [x, y] = [.int i, .int j] ∧ Q (.int (if j > i then j else i)) H) := by
  intro x y S rv v w R H Q e g rx ry k
  unfold pMax2 at e
  split at e
  · cases e; exact ⟨_, _, by rw [rx.int, ry.int], res_pl k rfl⟩
  · cases e
theorem ok_min2 : OpOk (kx X cl) pMin2 (fun x y H Q => ∃ i j, [x, y] = [.int i, .int j] ∧ Q (.int (if j < i then j else i)) H) := by
  intro x y S rv v w R H Q e g rx ry k
  unfold pMin2 at e
  split at e
  · cases e; exact ⟨_, _, by rw [rx.int, ry.int], res_pl k rfl⟩
  · cases e
/-! ### lists of one kind -/
def intsOf : List D → Option (List Int)
  | [] => some []
  | .int i :: r => (intsOf r).map (i :: ·)
  | _ :: _ => none
def blsOf : List D → Option (List Bool)
  | [] => some []
  | .bl b :: r => (blsOf r).map (b :: ·)
  | _ :: _ => none
theorem intsOf_eq : ∀ {ds : List D} {ns : List Int}, intsOf ds = some ns → ds = ns.map D.int
  | [], ns, h => by cases h; rfl
  | d :: r, ns, h => by
    cases d with
    | int i =>
      simp only [intsOf, Option.map_eq_some_iff] at h
      obtain ⟨m, e, rfl⟩ := h
      rw [intsOf_eq e]; rfl
    | _ => simp [intsOf] at h
@[simp] theorem intsOf_map (ns : List Int) : intsOf (ns.map D.int) = some ns := by
  induction ns with
  | nil => rfl
  | cons n r ih => simp [intsOf, ih]
theorem blsOf_eq : ∀ {ds : List D} {ns : List Bool}, blsOf ds = some ns → ds = ns.map D.bl
  | [], ns, h => by cases h; rfl
  | d :: r, ns, h => by
    cases d with
    | bl i =>
      simp only [blsOf, Option.map_eq_some_iff] at h
      obtain ⟨m, e, rfl⟩ := h
      rw [blsOf_eq e]; rfl
    | _ => simp [blsOf] at h
@[simp] theorem blsOf_map (ns : List Bool) : blsOf (ns.map D.bl) = some ns := by
  induction ns with
  | nil => rfl
  | cons n r ih => simp [blsOf, ih]
theorem Reps.bls {K : Kc} {R : Rc} : ∀ {ns : List Bool} {vs : List V}, Reps K R (ns.map D.bl) vs → vs = ns.map V.bl
  | [], vs, h => h
  | n :: ns, vs, h => by
    obtain ⟨v, r, rfl, p, q⟩ := h
    rw [show v = V.bl n from p, Reps.bls q]
    rfl
def leI (i j : Int) : Bool := decide (i ≤ j)
def sortI (ns : List Int) : List Int := ns.mergeSort leI
theorem sortI_perm (ns : List Int) : (sortI ns).Perm ns := List.mergeSort_perm ns leI
theorem sortI_sorted (ns : List Int) : (sortI ns).Pairwise (· ≤ ·) := by
  have h := List.pairwise_mergeSort (le := leI) (fun a b c h1 h2 => by simp [leI] at *; omega) (fun a b => by simp [leI]; omega) ns
  exact h.imp fun h => by simpa [leI] using h
theorem sorted_unique : ∀ {as bs : List Int}, as.Perm bs → as.Pairwise (· ≤ ·) → bs.Pairwise (· ≤ ·) → as = bs
  | [], bs, p, _, _ => by rw [List.nil_perm.mp p]
  | a :: as, bs, p, ha, hb => by
    cases bs with
    | nil => exact absurd p.symm (by intro q; have := q.length_eq; simp at this)
    | cons b bs =>
      have h1 := List.pairwise_cons.mp ha
      have h2 := List.pairwise_cons.mp hb
      have hab : a = b := by
        have m1 : a ∈ b :: bs := p.subset (by simp)
        have m2 : b ∈ a :: as := p.symm.subset (by simp)
        rcases List.mem_cons.mp m1 with e | m1
        · exact e
        · rcases List.mem_cons.mp m2 with e | m2
          · exact e.symm
          · have := h1.1 b m2
            have := h2.1 a m1
            omega
      subst hab
      rw [sorted_unique ((List.perm_cons a).mp p) h1.2 h2.2]
theorem sortI_eq {ns ms : List Int} (p : ms.Perm ns) (s : ms.Pairwise (· ≤ ·)) : ms = sortI ns := sorted_unique (p.trans (sortI_perm ns).symm) s (sortI_sorted ns)
def pSorted (x : D) (_ : Store) : Rs RV := match x with
  | .lst ds => match intsOf ds with | some ns => .ok (.fr (.lst ((sortI ns).map .int))) | none => .no
  | _ => .no
theorem ok_sorted : UnOk (kx X cl) pSorted (fun x H Q => rSortedI X.K [x] H Q) := by
  intro x S rv v R H Q e g rx k
  unfold pSorted at e
  split at e
  · split at e
    · rename_i ns hn
      cases e
      have hd := intsOf_eq hn
      subst hd
      obtain ⟨a, vs, rfl, ha, ra⟩ := rx.lst g
      cases ra.ints
      refine ⟨a, ns, rfl, SqL.of ha, fun ns' p hp hs np => ?_⟩
      rw [sortI_eq hp hs]
      exact res_lst g k (Reps.of_ints _) p np
    · cases e
  · cases e
def pSum (x : D) (_ : Store) : Rs RV := match x with
  | .lst ds => match intsOf ds with | some ns => .ok (.pl (.int ns.sum)) | none => .no
  | _ => .no
theorem ok_sum : UnOk (kx X cl) pSum (fun x H Q => rSum X.K [x] H Q) := by
  intro x S rv v R H Q e g rx k
  unfold pSum at e
  split at e
  · split at e
    · rename_i ns hn
      cases e
      have hd := intsOf_eq hn
      subst hd
      obtain ⟨a, vs, rfl, ha, ra⟩ := rx.lst g
      cases ra.ints
      exact ⟨a, ns, rfl, SqL.of ha, res_pl k rfl⟩
    · cases e
  · cases e
def pAll (x : D) (_ : Store) : Rs RV := match x with
  | .lst ds => match blsOf ds with | some ns => .ok (.pl (.bl (ns.all id))) | none => .no
  | _ => .no
def pAny (x : D) (_ : Store) : Rs RV := match x with
  | .lst ds => match blsOf ds with | some ns => .ok (.pl (.bl (ns.any id))) | none => .no
  | _ => .no
theorem ok_all : UnOk (kx X cl) pAll (fun x H Q => rAll X.K [x] H Q) := by
  intro x S rv v R H Q e g rx k
  unfold pAll at e
  split at e
  · split at e
    · rename_i ns hn
      cases e
      have hd := blsOf_eq hn
      subst hd
      obtain ⟨a, vs, rfl, ha, ra⟩ := rx.lst g
      cases ra.bls
      exact ⟨a, ns, rfl, SqL.of ha, res_pl k rfl⟩
    · cases e
  · cases e
theorem ok_any : UnOk (kx X cl) pAny (fun x H Q => rAny X.K [x] H Q) := by
  intro x S rv v R H Q e g rx k
  unfold pAny at e
  split at e
  · split at e
    · rename_i ns hn
      cases e
      have hd := blsOf_eq hn
      subst hd
      obtain ⟨a, vs, rfl, ha, ra⟩ := rx.lst g
      cases ra.bls
      exact ⟨a, ns, rfl, SqL.of ha, res_pl k rfl⟩
    · cases e
  · cases e
def maxOf : Int → List Int → Int := List.foldl fun m i => if m < i then i else m
def minOf : Int → List Int → Int := List.foldl fun m i => if i < m then i else m
theorem maxOf_is : ∀ (r : List Int) (m : Int), (maxOf m r = m ∨ maxOf m r ∈ r) ∧ m ≤ maxOf m r ∧ ∀ y ∈ r, y ≤ maxOf m r
  | [], m => ⟨.inl rfl, Int.le_refl _, fun _ h => nomatch h⟩
  | i :: r, m => by
    obtain ⟨h1, h2, h3⟩ := maxOf_is r (if m < i then i else m)
    show (maxOf (if m < i then i else m) r = m ∨ maxOf (if m < i then i else m) r ∈ i :: r) ∧ m ≤ maxOf (if m < i then i else m) r ∧ ∀ y ∈ i :: r, y ≤ maxOf (if m < i then i else m) r
    by_cases h : m < i
    · rw [if_pos h] at h1 h2 h3 ⊢
      refine ⟨.inr ?_, by omega, fun y hy => ?_⟩
      · rcases h1 with h1 | h1
        · rw [h1]; simp
        · exact List.mem_cons_of_mem _ h1
      · rcases List.mem_cons.mp hy with e | hy
        · omega
        · exact h3 y hy
    · rw [if_neg h] at h1 h2 h3 ⊢
      refine ⟨h1.imp id (List.mem_cons_of_mem _), h2, fun y hy => ?_⟩
      rcases List.mem_cons.mp hy with e | hy
      · omega
      · exact h3 y hy
theorem minOf_is : ∀ (r : List Int) (m : Int), (minOf m r = m ∨ minOf m r ∈ r) ∧ minOf m r ≤ m ∧ ∀ y ∈ r, minOf m r ≤ y
  | [], m => ⟨.inl rfl, Int.le_refl _, fun _ h => nomatch h⟩
  | i :: r, m => by
    obtain ⟨h1, h2, h3⟩ := minOf_is r (if i < m then i else m)
    show (minOf (if i < m then i else m) r = m ∨ minOf (if i < m then i else m) r ∈ i :: r) ∧ minOf (if i < m then i else m) r ≤ m ∧ ∀ y ∈ i :: r, minOf (if i < m then i else m) r ≤ y
    by_cases h : i < m
    · rw [if_pos h] at h1 h2 h3 ⊢
      refine ⟨.inr ?_, by omega, fun y hy => ?_⟩
      · rcases h1 with h1 | h1
        · rw [h1]; simp
        · exact List.mem_cons_of_mem _ h1
      · rcases List.mem_cons.mp hy with e | hy
        · omega
        · exact h3 y hy
    · rw [if_neg h] at h1 h2 h3 ⊢
      refine ⟨h1.imp id (List.mem_cons_of_mem _), h2, fun y hy => ?_⟩
      rcases List.mem_cons.mp hy with e | hy
      · omega
      · exact h3 y hy
def pMax (x : D) (_ : Store) : Rs RV := match x with
  | .lst ds => match intsOf ds with | some (n :: ns) => .ok (.pl (.int (maxOf n ns))) | _ => .no
  | _ => .no
def pMin (x : D) (_ : Store) : Rs RV := match x with
  | .lst ds => match intsOf ds with | some (n :: ns) => .ok (.pl (.int (minOf n ns))) | _ => .no
  | _ => .no
theorem ok_max : UnOk (kx X cl) pMax (fun x H Q => rMax X.K [x] H Q) := by
  intro x S rv v R H Q e g rx k
  unfold pMax at e
  split at e
  · split at e
    · rename_i n ns hn
      cases e
      have hd := intsOf_eq hn
      subst hd
      obtain ⟨a, vs, rfl, ha, ra⟩ := rx.lst g
      cases ra.ints
      refine ⟨a, n :: ns, rfl, SqL.of ha, by simp, fun m hm hy => ?_⟩
      obtain ⟨h1, h2, h3⟩ := maxOf_is ns n
      have e : m = maxOf n ns := by
        have p1 := hy (maxOf n ns) (h1.elim (fun h => by rw [h]; simp) (List.mem_cons_of_mem _))
        rcases List.mem_cons.mp hm with q | q
        · omega
        · have := h3 m q; omega
      rw [e]
      exact res_pl k rfl
    · cases e
  · cases e
theorem ok_min : UnOk (kx X cl) pMin (fun x H Q => rMin X.K [x] H Q) := by
  intro x S rv v R H Q e g rx k
  unfold pMin at e
  split at e
  · split at e
    · rename_i n ns hn
      cases e
      have hd := intsOf_eq hn
      subst hd
      obtain ⟨a, vs, rfl, ha, ra⟩ := rx.lst g
      cases ra.ints
      refine ⟨a, n :: ns, rfl, SqL.of ha, by simp, fun m hm hy => ?_⟩
      obtain ⟨h1, h2, h3⟩ := minOf_is ns n
      have e : m = minOf n ns := by
        have p1 := hy (minOf n ns) (h1.elim (fun h => by rw [h]; simp) (List.mem_cons_of_mem _))
        rcases List.mem_cons.mp hm with q | q
        · omega
        · have := h3 m q; omega
      rw [e]
      exact res_pl k rfl
    · cases e
  · cases e
/-! ### list(x), tuple(x) -/
def pList (x : D) (S : Store) : Rs RV := match x with
  | .lst ds => .ok (.fr (.lst ds))
  | .tup ds => .ok (.fr (.lst ds))
  | .scr ns => .ok (.fr (.lst (ns.map .int)))
  | .ref j => match S[j]? with | some (.lst ds) => .ok (.fr (.lst ds)) | _ => .no
  | _ => .no
def pTuple (x : D) (S : Store) : Rs RV := match x with
  | .lst ds => .ok (.pl (.tup ds))
  | .tup ds => .ok (.pl (.tup ds))
  | .ref j => match S[j]? with | some (.lst ds) => .ok (.pl (.tup ds)) | _ => .no
  | _ => .no
theorem ok_list : UnOk (kx X cl) pList (fun x H Q => ∃ p ys, [x] = [.ref p] ∧ (SqL X.K H p ys ∨ SqT X.K H p ys) ∧ ∀ l, H l = none → Q (.ref l) (upd H l (.lst ys))) := by
  intro x S rv v R H Q e g rx k
  unfold pList at e
  split at e
  · cases e
    obtain ⟨a, vs, rfl, ha, ra⟩ := rx.lst g
    exact ⟨a, vs, rfl, .inl (SqL.of ha), res_lst g k ra⟩
  · cases e
    obtain ⟨a, vs, rfl, ha, ra⟩ := rx.tup g
    exact ⟨a, vs, rfl, .inr ha, res_lst g k ra⟩
  · rename_i ns
    cases e
    rcases rx with ⟨a, rfl, z⟩ | ⟨a, o, rfl, ho, c⟩
    · refine ⟨a, ns.map V.int, rfl, .inl ?_, res_lst g k (Reps.of_ints ns)⟩
      rcases z with ⟨o, z⟩ | z
      · exact .inl (.inr ⟨o, g.zh a _ z⟩)
      · exact .inr z
    · exact c.elim
  · split at e
    · rename_i ds hs
      cases e
      obtain ⟨a, rfl, ea⟩ := rx.ref g
      obtain ⟨b, eb, vs, ha, ra⟩ := g.st _ _ hs
      rw [ea] at eb; cases eb
      exact ⟨a, vs, rfl, .inl (SqL.of ha), res_lst g k ra⟩
    · cases e
  · cases e
theorem ok_tuple : UnOk (kx X cl) pTuple (fun x H Q => ∃ p ys, [x] = [.ref p] ∧ ((SqL X.K H p ys ∧ ∀ l, H l = none → Q (.ref l) (upd H l (.tup ys))) ∨ (SqT X.K H p ys ∧ Q (.ref p) H))) := by
  intro x S rv v R H Q e g rx k
  unfold pTuple at e
  split at e
  · cases e
    obtain ⟨a, vs, rfl, ha, ra⟩ := rx.lst g
    exact ⟨a, vs, rfl, .inl ⟨SqL.of ha, res_tup g k ra⟩⟩
  · cases e
    have q := rx.tupZ
    obtain ⟨a, vs, rfl, ha, ra⟩ := rx.tup g
    exact ⟨a, vs, rfl, .inr ⟨ha, res_pl k q⟩⟩
  · split at e
    · rename_i ds hs
      cases e
      obtain ⟨a, rfl, ea⟩ := rx.ref g
      obtain ⟨b, eb, vs, ha, ra⟩ := g.st _ _ hs
      rw [ea] at eb; cases eb
      exact ⟨a, vs, rfl, .inl ⟨SqL.of ha, res_tup g k ra⟩⟩
    · cases e
  · cases e
/-! ### isinstance -/
def tyOf (x : D) (S : Store) : Option String := match x with
  | .non => some "NoneType"
  | .bl _ => some "bool"
  | .int _ => some "int"
  | .str _ => some "str"
  | .tup _ => some "tuple"
  | .lst _ => some "list"
  | .ref j => match S[j]? with | some (.lst _) => some "list" | _ => none
  | .scr _ => none
  | .dct _ _ => none
/-- the answer of isinstance for plain types -/
def isTy (T : String) (x : D) (S : Store) : Option Bool := match tyOf x S with
  | some t => if T = "int" then some (t = "int" || t = "bool") else if T = "bool" then some (t = "bool") else if T = "str" then some (t = "str") else if T = "tuple" then some (t = "tuple") else if T = "list" then some (t = "list") else none
  | none => none
def pIsT (T : String) (x : D) (S : Store) : Rs RV := match isTy T x S with | some b => .ok (.pl (.bl b)) | none => .no
theorem kit_tab : ∀ t ∈ ["NoneType", "bool", "int", "str", "tuple", "list"], kitB t "int" = some (t = "int" || t = "bool") ∧ kitB t "bool" = some (t = "bool" : Bool) ∧ kitB t "str" = some (t = "str" : Bool) ∧ kitB t "tuple" = some (t = "tuple" : Bool) ∧ kitB t "list" = some (t = "list" : Bool) := by decide +kernel
theorem VR.ty {K : Kc} {R : Rc} {S : Store} {H : Hp} {x : D} {v : V} {t : String} (g : GR K R S H) (r : VR K R H x v) (h : tyOf x S = some t) : TyX K.F H v (.type t) ∧ t ∈ ["NoneType", "bool", "int", "str", "tuple", "list"] := by
  unfold tyOf at h
  split at h
  · cases h; rw [r.non]; exact ⟨.base .non, by simp⟩
  · cases h; rw [r.bl]; exact ⟨.base (.bl _), by simp⟩
  · cases h; rw [r.int]; exact ⟨.base (.int _), by simp⟩
  · cases h; rw [r.str]; exact ⟨.base (.str _), by simp⟩
  · cases h
    obtain ⟨a, vs, rfl, ha, ra⟩ := r.tupZ
    refine ⟨?_, by simp⟩
    rcases ha with ha | ⟨o, its, n, hk, hc, _⟩
    · exact .base (.tup (g.zh a _ ha))
    · exact .kTuple hk hc
  · cases h
    obtain ⟨a, vs, rfl, ha, ra⟩ := r.lst g
    exact ⟨.base (.lst ha), by simp⟩
  · split at h
    · rename_i ds hs
      cases h
      obtain ⟨a, rfl, ea⟩ := r.ref g
      obtain ⟨b, eb, vs, ha, ra⟩ := g.st _ _ hs
      rw [ea] at eb; cases eb
      exact ⟨.base (.lst ha), by simp⟩
    · cases h
  · cases h
  · cases h
theorem ok_isT {T : String} : UnOk (kx X cl) (pIsT T) (fun x H Q => rIsi X.K [x, .ty T] H Q) := by
  intro x S rv v R H Q e g rx k
  unfold pIsT at e
  split at e
  · rename_i b hb
    cases e
    unfold isTy at hb
    split at hb
    · rename_i t ht
      obtain ⟨ty, hm⟩ := rx.ty g ht
      refine ⟨v, .ty T, .type t, .type T, b, rfl, .ty T, ty, kit_ty ?_, res_pl k rfl⟩
      obtain ⟨k1, k2, k3, k4, k5⟩ := kit_tab t hm
      split at hb
      · rename_i q; subst q; rw [k1]; exact hb
      · split at hb
        · rename_i q; subst q; rw [k2]; exact hb
        · split at hb
          · rename_i q; subst q; rw [k3]; exact hb
          · split at hb
            · rename_i q; subst q; rw [k4]; exact hb
            · split at hb
              · rename_i q; subst q; rw [k5]; exact hb
              · cases hb
    · cases hb
  · cases e
theorem ev_isT {T : String} (h : PE X e (tCB (rIsi X.K) (tCons (tOf (kx X cl) Ea) (tCons (tC (.ty T)) tNil)))) : PE X e (tOf (kx X cl) (eUn (pIsT T) Ea)) := ev_un h ok_isT
/-! ### slices -/
abbrev ODen := Mp.Env → Store → Rs (Option Int × Mp.Env × Store)
def oNone : ODen := fun ε S => .ok (none, ε, S)
def oSome (a : Den) : ODen := fun ε S => do
  let (r, ε1, S1) ← a ε S
  match ← r.get ε1 with
  | .int i => .ok (some i, ε1, S1)
  | _ => .no
def oOf (K : Kc) (O : ODen) : TO := fun σ H Q => ∃ ε S R ω o ε' S', O ε S = .ok (o, ε', S') ∧ SR K R ω ε S σ H ∧ ∀ R' ω' H', Ex R ω H R' ω' H' → SR K R' ω' ε' S' σ H' → Q o H'
theorem PO.im {o : Option Expr} {t t' : TO} (h : PO X o t) (i : ∀ σ H Q, t' σ H Q → t σ H Q) : PO X o t' := ⟨fun pins s σ H Q I hw => h.run pins s σ H Q I (i σ H Q hw)⟩
theorem ov_none : PO X none (oOf (kx X cl) oNone) := by
  refine PO.im po_none fun σ H Q hh => ?_
  obtain ⟨ε, S, R, ω, o, ε', S', he, s, k⟩ := hh
  cases he
  exact k R ω H (.refl _ _ _) s
theorem ov_some (h : PE X e (tOf (kx X cl) Ea)) : PO X (some e) (oOf (kx X cl) (oSome Ea)) := by
  refine PO.im (po_some h) fun σ H Q hh => ?_
  obtain ⟨ε, S, R, ω, o, ε', S', he, s, k⟩ := hh
  obtain ⟨⟨r, ε1, S1⟩, e1, he⟩ := bind_ok he
  obtain ⟨d, ed, he⟩ := bind_ok he
  refine ⟨ε, S, R, ω, r, ε1, S1, e1, s, fun v1 R1 ω1 H1 x1 s1 p1 => ?_⟩
  match d, he, ed with
  | .int i, he, ed =>
    cases he
    exact ⟨i, (p1.vr s1 ed).int, k R1 ω1 H1 x1 s1⟩
def cutL {α : Type} (xs : List α) (lo hi : Option Int) : List α := (xs.drop (HT.sIx xs.length 0 lo)).take (HT.sIx xs.length xs.length hi - HT.sIx xs.length 0 lo)
def eSl (a : Den) (lo hi : ODen) : Den := fun ε S => do
  let (r, ε1, S1) ← a ε S
  let (l, ε2, S2) ← lo ε1 S1
  let (h, ε3, S3) ← hi ε2 S2
  match ← r.get ε3 with
  | .lst ds => .ok (.fr (.lst (cutL ds l h)), ε3, S3)
  | .tup ds => .ok (.pl (.tup (cutL ds l h)), ε3, S3)
  | .str s => if s.length ≤ 16777216 then .ok (.pl (.str (cutL s l h)), ε3, S3) else .no
  | _ => .no
theorem Reps.cut {K : Kc} {R : Rc} {ds : List D} {vs : List V} (r : Reps K R ds vs) (lo hi : Option Int) : Reps K R (cutL ds lo hi) (cutV vs lo hi) := by
  unfold cutL cutV
  rw [r.length]
  exact (r.drop _).take _
theorem ev_slice {lo hi : Option Expr} {Lo Hi : ODen} {p2 : Pos} (ha : PE X a (tOf (kx X cl) Ea)) (hl : PO X lo (oOf (kx X cl) Lo)) (hu : PO X hi (oOf (kx X cl) Hi)) : PE X (.Subscript a (.Slice lo hi none p2) pos) (tOf (kx X cl) (eSl Ea Lo Hi)) := by
  refine PE.im (pe_slice (SlR.or sl_list (SlR.or sl_tupA sl_str)) ha hl hu) fun σ H Q hh => ?_
  obtain ⟨ε, S, R, ω, rv, ε', S', he, s, k⟩ := hh
  obtain ⟨⟨r, ε1, S1⟩, e1, he⟩ := bind_ok he
  obtain ⟨⟨l, ε2, S2⟩, e2, he⟩ := bind_ok he
  obtain ⟨⟨h, ε3, S3⟩, e3, he⟩ := bind_ok he
  obtain ⟨d, ed, he⟩ := bind_ok he
  refine ⟨ε, S, R, ω, r, ε1, S1, e1, s, fun v1 R1 ω1 H1 x1 s1 p1 => ⟨ε1, S1, R1, ω1, l, ε2, S2, e2, s1, fun R2 ω2 H2 x2 s2 => ⟨ε2, S2, R2, ω2, h, ε3, S3, e3, s2, fun R3 ω3 H3 x3 s3 => ?_⟩⟩⟩
  have xx := (x1.trans x2).trans x3
  have rd := ((p1.keep x2).keep x3).vr s3 ed
  have fin : ∀ rr : RV, Rs.ok (rr, ε3, S3) = Rs.ok (rv, ε', S') → ∀ v' R' H', Gw R3 H3 R' H' → RNew (kx X cl) H3 R' H' rr v' → Q v' H' := fun rr hr v' R' H' gw n => by
    cases hr
    exact k v' R' ω3 H' (xx.trans (gw.ex ω3)) (gw.sr s3) (n.rvr s3 xx gw)
  cases d with
  | lst ds =>
    obtain ⟨q, vs, rfl, hq, rq⟩ := rd.lst s3.g
    exact .inl ⟨q, vs, rfl, SqL.of hq, res_lst s3.g (fin _ he) (rq.cut l h)⟩
  | tup ds =>
    have rz := rd.tupZ
    obtain ⟨q, vs, rfl, hq, rq⟩ := rd.tup s3.g
    refine .inr (.inl ⟨q, vs, rfl, hq, fun hw => ?_, fun _ => res_tup s3.g (fin _ he) (rq.cut l h)⟩)
    have e5 : cutL ds l h = ds := by
      unfold cutL
      rw [rq.length] at hw
      rw [hw.1, hw.2]
      simp
    have he' : Rs.ok (RV.pl (.tup (cutL ds l h)), ε3, S3) = Rs.ok (rv, ε', S') := he
    rw [e5] at he'
    exact res_pl (fin _ he') rz
  | str z =>
    simp only at he
    split at he
    · rename_i hz
      refine .inr (.inr ⟨_, rd.str, by rw [sizeLine_is]; simpa [Str.length] using hz, res_pl (fin _ he) ?_⟩)
      show V.str (cutS ⟨z.toArray⟩ l h) = V.str ⟨(cutL z l h).toArray⟩
      unfold cutS cutL
      simp [Str.length]
    · cases he
  | non => cases he
  | bl b => cases he
  | int i => cases he
  | dct ks vs => cases he
  | ref j => cases he
  | scr ns => cases he
end
end Mp

/-! Changes of lists. -/
namespace Mp
open PySem PySem.Spec PyProof.Rows L2

/-- the list that a value stands for, to be changed -/
def getIn (r : RV) (ε : Env) (S : Store) : Rs (List D) := match r with
  | .bor i => match slot ε i with
    | some (.own (.lst ds)) => .ok ds
    | _ => .no
  | .pl (.ref j) => match S[j]? with
    | some (.lst ds) => .ok ds
    | _ => .no
  | _ => .no
def putIn (r : RV) (ds : List D) (ε : Env) (S : Store) : Env × Store := match r with
  | .bor i => (ε.set i (some (.own (.lst ds))), S)
  | .pl (.ref j) => (ε, S.set j (.lst ds))
  | _ => (ε, S)
def eMut (f : List D → List D → Rs (List D × D)) (o : Den) (as : ADen) : Den := fun ε S => do
  let (r, ε1, S1) ← o ε S
  let _ ← getIn r ε1 S1
  let (ds, ε2, S2) ← as ε1 S1
  let xs ← getIn r ε2 S2
  let (ys, d) ← f xs ds
  .ok (.pl d, (putIn r ys ε2 S2).1, (putIn r ys ε2 S2).2)
def fAppend (xs as : List D) : Rs (List D × D) := match as with
  | [d] => if xs.length < 16777216 then .ok (xs ++ [d], .non) else .no
  | _ => .no
def fPop (xs as : List D) : Rs (List D × D) := match as with
  | [] => match xs[xs.length - 1]? with
    | some d => .ok (xs.dropLast, d)
    | none => .no
  | _ => .no
def fPopAt (xs as : List D) : Rs (List D × D) := match as with
  | [.int i] => if xs.length ≤ 16777216 then match ixN xs.length i with
    | some k => match xs[k]? with
      | some d => .ok (xs.eraseIdx k, d)
      | none => .no
    | none => .no
    else .no
  | _ => .no
/-- x[i] = value -/
def sPut (o i a : Den) : SDen := fun ε S => do
  let (r, ε1, S1) ← a ε S
  let (d, ε2) ← r.fix ε1
  let (ro, ε3, S2) ← o ε2 S1
  let (ri, ε4, S3) ← i ε3 S2
  match ← ri.get ε4 with
  | .int k => do
    let xs ← getIn ro ε4 S3
    match ixN xs.length k with
    | some j => .ok (.nx (putIn ro (xs.set j d) ε4 S3).1 (putIn ro (xs.set j d) ε4 S3).2)
    | none => .no
  | _ => .no
/-- a value as a name is to hold it -/
def RV.low (own : Bool) (r : RV) (ε : Env) : Rs (Sl × Env) := match r with
  | .pl d => .ok (.pl d, ε)
  | .fr d => .ok (if own then .own d else .pl d, ε)
  | .bor i => match slot ε i with
    | some (.own d) => .ok (.pl d, ε.set i (some (.pl d)))
    | some (.pl d) => .ok (.pl d, ε)
    | none => .no
def Sl.rv : Sl → RV
  | .pl d => .pl d
  | .own d => .fr d
def sPar2 (o1 : Bool) (i : Nat) (o2 : Bool) (j : Nat) (a b : Den) : SDen := fun ε S => do
  let (r1, ε1, S1) ← a ε S
  let (t1, ε2) ← r1.low o1 ε1
  let (r2, ε3, S2) ← b ε2 S1
  let (t2, ε4) ← r2.low o2 ε3
  if i < ε4.length ∧ j < ε4.length then .ok (.nx ((ε4.set i (some t1)).set j (some t2)) S2) else .no
def sPar3 (o1 : Bool) (i : Nat) (o2 : Bool) (j : Nat) (o3 : Bool) (l : Nat) (a b c : Den) : SDen := fun ε S => do
  let (r1, ε1, S1) ← a ε S
  let (t1, ε2) ← r1.low o1 ε1
  let (r2, ε3, S2) ← b ε2 S1
  let (t2, ε4) ← r2.low o2 ε3
  let (r3, ε5, S3) ← c ε4 S2
  let (t3, ε6) ← r3.low o3 ε5
  if i < ε6.length ∧ j < ε6.length ∧ l < ε6.length then .ok (.nx (((ε6.set i (some t1)).set j (some t2)).set l (some t3)) S3) else .no

section
variable {K : Kc} {R R' R1 : Rc} {ω ω' ω0 ω1 : Om} {H H' H0 H1 : Hp} {σ : L2.St} {ε ε' ε1 : Env} {S S' S1 S2 : Store}
theorem Ex.chg {p : Addr} {o o' : HO} (hp : H p = some o) (h : p ∈ R.ρ ∨ ∃ i, ω i = some p) : Ex R ω H R ω (upd H p o') :=
  ⟨.refl R, fun a u e => by
    by_cases q : a = p
    · subst q; exact ⟨o', upd_same⟩
    · exact ⟨u, by rw [upd_ne q]; exact e⟩,
   fun a u e n m => by
    rw [upd_ne]
    · exact e
    · intro q; subst q
      rcases h with h | ⟨i, h⟩
      · exact n h
      · exact m i h,
   fun _ _ h => .inl h, fun _ h => .inl h, fun i _ h => .inl ⟨i, h⟩⟩
theorem SR.chg_own (s : SR K R ω ε S σ H) {i : Nat} {d0 d : D} {p : Addr} {o : HO} (hs : slot ε i = some (.own d0)) (hω : ω i = some p) (c : CR K R d o) : SR K R ω (ε.set i (some (.own d))) S σ (upd H p o) := by
  have z := s.oz i p hω
  have n := s.oρ i p hω
  have nz : ∀ b o', R.Z b = some o' → b ≠ p := fun b o' h q => by rw [q, z] at h; cases h
  have nρ : ∀ b, b ∈ R.ρ → b ≠ p := fun b h q => n (by rw [← q]; exact h)
  have hi : i < ε.length := by
    unfold slot at hs
    cases q : ε[i]? with
    | none => rw [q] at hs; cases hs
    | some _ => exact (List.getElem?_eq_some_iff.mp q).1
  obtain ⟨v, e1, a, o1, rfl, e2, e3, _⟩ := s.sl i _ hs
  rw [hω] at e2; cases e2
  exact {
    g := {
      zh := fun b o' h => by rw [upd_ne (nz b o' h)]; exact s.g.zh b o' h
      sl := s.g.sl
      st := fun j ob h => by
        obtain ⟨b, e, q⟩ := s.g.st j ob h
        refine ⟨b, e, ?_⟩
        have hb : (upd H p o) b = H b := upd_ne (nρ b (List.mem_of_getElem? e))
        cases ob with
        | lst ds => obtain ⟨vs, q1, q2⟩ := q; exact ⟨vs, by rw [hb]; exact q1, q2⟩
        | ins c fs => obtain ⟨dx, vs, q1, q2⟩ := q; exact ⟨dx, vs, by rw [hb]; exact q1, q2⟩
        | dct _ _ => exact q
        | gone => trivial
      ρz := s.g.ρz
      ρn := s.g.ρn
      ρh := fun b h => by rw [upd_ne (nρ b h)]; exact s.g.ρh b h }
    len := by rw [List.length_set]; exact s.len
    sl := fun j t h => by
      rw [slot_set] at h
      split at h
      · rename_i q
        subst q
        first | rw [if_pos hi] at h | skip
        cases h
        exact ⟨_, e1, p, o, rfl, hω, upd_same, c⟩
      · rename_i q
        obtain ⟨v, e, r⟩ := s.sl j t h
        refine ⟨v, e, ?_⟩
        cases t with
        | pl d => exact r
        | own d =>
          obtain ⟨b, o', e1, e2, e3, c⟩ := r
          exact ⟨b, o', e1, e2, by rw [upd_ne (fun z => q (by subst z; exact s.oi i j _ hω e2))]; exact e3, c⟩
    oz := s.oz
    oρ := s.oρ
    oi := s.oi
    oh := fun j b h => by
      by_cases q : b = p
      · subst q; exact ⟨o, upd_same⟩
      · rw [upd_ne q]; exact s.oh j b h
    on := fun j b h => by
      by_cases q : i = j
      · subst q; exact ⟨d, by rw [slot_set, if_pos rfl, if_pos hi]⟩
      · obtain ⟨d', e⟩ := s.on j b h
        exact ⟨d', by rw [slot_set, if_neg q]; exact e⟩ }
theorem SR.chg_ref (s : SR K R ω ε S σ H) {j : Nat} {ob : Obj} {p : Addr} {o : HO} (hj : R.ρ[j]? = some p) (c : ObjR K R (upd H p o) p ob) : SR K R ω ε (S.set j ob) σ (upd H p o) := by
  have mp : p ∈ R.ρ := List.mem_of_getElem? hj
  have z := s.g.ρz p mp
  have nz : ∀ b o', R.Z b = some o' → b ≠ p := fun b o' h q => by rw [q, z] at h; cases h
  have nω : ∀ i b, ω i = some b → b ≠ p := fun i b h q => s.oρ i b h (by rw [q]; exact mp)
  exact {
    g := {
      zh := fun b o' h => by rw [upd_ne (nz b o' h)]; exact s.g.zh b o' h
      sl := by rw [List.length_set]; exact s.g.sl
      st := fun k ob' h => by
        rw [List.getElem?_set] at h
        split at h
        · rename_i q
          subst q
          split at h
          · cases h; exact ⟨p, hj, c⟩
          · cases h
        · rename_i q
          obtain ⟨b, e, r⟩ := s.g.st k ob' h
          refine ⟨b, e, ?_⟩
          have nb : b ≠ p := fun z => q (by
            subst z
            exact (List.getElem?_inj (List.getElem?_eq_some_iff.mp hj).1 s.g.ρn).mp (hj.trans e.symm))
          have hb : (upd H p o) b = H b := upd_ne nb
          cases ob' with
          | lst ds => obtain ⟨vs, q1, q2⟩ := r; exact ⟨vs, by rw [hb]; exact q1, q2⟩
          | ins c fs => obtain ⟨dx, vs, q1, q2⟩ := r; exact ⟨dx, vs, by rw [hb]; exact q1, q2⟩
          | dct _ _ => exact r
          | gone => trivial
      ρz := s.g.ρz
      ρn := s.g.ρn
      ρh := fun b h => by
        by_cases q : b = p
        · subst q; exact ⟨o, upd_same⟩
        · rw [upd_ne q]; exact s.g.ρh b h }
    len := s.len
    sl := fun i t h => by
      obtain ⟨v, e, r⟩ := s.sl i t h
      refine ⟨v, e, ?_⟩
      cases t with
      | pl d => exact r
      | own d =>
        obtain ⟨b, o', e1, e2, e3, c⟩ := r
        exact ⟨b, o', e1, e2, by rw [upd_ne (nω i b e2)]; exact e3, c⟩
    oz := s.oz
    oρ := s.oρ
    oi := s.oi
    oh := fun i b h => by rw [upd_ne (nω i b h)]; exact s.oh i b h
    on := s.on }
/-- the place of a list, and its change -/
theorem mut_at {r : RV} {v : V} {xs : List D} (s : SR K R ω ε S σ H) (p : RVR K ω0 H0 R ω H σ r v) (e : getIn r ε S = .ok xs) :
    ∃ a vs, v = .ref a ∧ H a = some (.lst vs) ∧ Reps K R xs vs ∧
      ∀ ys ws, Reps K R ys ws → SR K R ω (putIn r ys ε S).1 (putIn r ys ε S).2 σ (upd H a (.lst ws)) ∧ Ex R ω H R ω (upd H a (.lst ws)) := by
  cases r with
  | fr d => cases e
  | bor i =>
    have p' : σ[i]? = some (some v) := p
    have e' : (match slot ε i with | some (.own (.lst ds)) => Rs.ok ds | _ => .no) = .ok xs := e
    split at e' <;> try cases e'
    rename_i hs
    obtain ⟨u, e1, a, o, rfl, e2, e3, c⟩ := s.sl _ _ hs
    rw [p'] at e1; cases e1
    obtain ⟨vs, rfl, rr⟩ := c
    exact ⟨a, vs, rfl, e3, rr, fun ys ws q => ⟨s.chg_own hs e2 ⟨ws, rfl, q⟩, .chg e3 (.inr ⟨_, e2⟩)⟩⟩
  | pl d =>
    unfold getIn at e
    split at e <;> try cases e
    · rename_i hs; cases hs
    rename_i j hs
    cases hs
    split at e <;> try cases e
    rename_i ds hs
    obtain ⟨a, e2, rfl⟩ := p
    obtain ⟨b, e3, vs, e4, rr⟩ := s.g.st j _ hs
    rw [e2] at e3; cases e3
    exact ⟨a, vs, rfl, e4, rr, fun ys ws q => ⟨s.chg_ref e2 ⟨ws, upd_same, q⟩, .chg e4 (.inl (List.mem_of_getElem? e2))⟩⟩
theorem Reps.last {xs : List D} {vs : List V} (r : Reps K R xs vs) : Reps K R xs.dropLast vs.dropLast := by
  rw [List.dropLast_eq_take, List.dropLast_eq_take, r.length]
  exact r.take _
theorem Reps.erase : ∀ {ds : List D} {vs : List V} (i : Nat), Reps K R ds vs → Reps K R (ds.eraseIdx i) (vs.eraseIdx i)
  | [], vs, i, h => by rw [show vs = [] from h]; simp [Reps]
  | d :: ds, vs, 0, h => by
    obtain ⟨v, r, rfl, p, p'⟩ := h
    exact p'
  | d :: ds, vs, i + 1, h => by
    obtain ⟨v, r, rfl, p, p'⟩ := h
    exact ⟨v, _, rfl, p, Reps.erase i p'⟩
theorem RVR.low {R1 : Rc} {own : Bool} {r : RV} {v : V} {t : Sl} (h : RVR K ω0 H0 R ω H σ r v) (s : SR K R ω ε S σ H) (x : Ex R1 ω0 H0 R ω H) (e : r.low own ε = .ok (t, ε')) :
    ∃ R2 ω2, Ex R1 ω0 H0 R2 ω2 H ∧ SR K R2 ω2 ε' S σ H ∧ RVR K ω0 H0 R2 ω2 H σ t.rv v := by
  cases r with
  | pl y => cases e; exact ⟨R, ω, x, s, h⟩
  | fr y =>
    cases own with
    | true => cases e; exact ⟨R, ω, x, s, h⟩
    | false =>
      cases e
      obtain ⟨a, o, e, ho, c, z, n, m, w⟩ := h
      subst e
      exact ⟨R.tell a o, ω, x.tell ho z w fun _ _ h => h, s.tell ho n m, rep_tell c (tell_le z)⟩
  | bor i =>
    unfold RV.low at e
    cases q : slot ε i with
    | none => simp [q] at e
    | some u =>
      cases u with
      | pl y =>
        simp [q] at e
        obtain ⟨rfl, rfl⟩ := e
        exact h.fix (d := y) s x (by simp [RV.fix, q])
      | own y =>
        simp [q] at e
        obtain ⟨rfl, rfl⟩ := e
        exact h.fix (d := y) s x (by simp [RV.fix, q])
/-- a name takes a lowered value -/
theorem SR.take {t : Sl} {v : V} {i : Nat} (s : SR K R ω ε S σ H) (x : Ex R1 ω0 H0 R ω H) (h : RVR K ω0 H0 R ω H σ t.rv v) (hi : i < ε.length) :
    ∃ ω2, SR K R ω2 (ε.set i (some t)) S (σ.set i (some v)) H ∧ Ex R1 ω0 H0 R ω2 H ∧ (∀ j b, ω2 j = some b → ω j = some b ∨ v = .ref b ∧ ∃ d, t = .own d) := by
  cases t with
  | pl d => exact ⟨ω.off i, s.store_pl h, x.off i, fun j b q => .inl (off_some q).2⟩
  | own d =>
    obtain ⟨a, o, rfl, ho, c, z, n, m, w⟩ := h
    exact ⟨ω.put i a, s.store_own hi ho c z n m, x.put w, fun j b q => by
      rcases put_some q with ⟨_, rfl⟩ | ⟨_, q⟩
      · exact .inr ⟨rfl, _, rfl⟩
      · exact .inl q⟩
end
section
variable {X : Cx} {cl : Nat → Addr} {e a b c o : Expr} {es : List Expr} {Ea Eb Ec Eo Ei : Den} {As : ADen} {pos apos : Pos}
def MutOk (K : Kc) (f : List D → List D → Rs (List D × D)) (r : V → List V → Hp → VK → Prop) : Prop :=
  ∀ xs as ys d p vs ws R H Q, f xs as = .ok (ys, d) → H p = some (.lst vs) → Reps K R xs vs → Reps K R as ws →
    (∀ us u, Reps K R ys us → Rep K R d u → Q u (upd H p (.lst us))) → r (.ref p) ws H Q
theorem mok_append : MutOk (kx X cl) fAppend rAppend := by
  intro xs as ys d p vs ws R H Q e hp rx ra k
  unfold fAppend at e
  split at e
  · split at e
    · rename_i hl
      cases e
      obtain ⟨v, r, rfl, p1, p2⟩ := ra
      cases (show r = [] from p2)
      exact ⟨p, vs, v, rfl, rfl, hp, by rw [rx.length, sizeLine_is]; exact hl, k _ _ (rx.append (.one p1)) rfl⟩
    · cases e
  · cases e
theorem mok_pop : MutOk (kx X cl) fPop rPop := by
  intro xs as ys d p vs ws R H Q e hp rx ra k
  unfold fPop at e
  split at e
  · split at e
    · rename_i q
      cases e
      cases (show ws = [] from ra)
      obtain ⟨v, e1, r1⟩ := rx.get q
      exact ⟨p, vs, v, rfl, rfl, hp, by rw [rx.length]; exact e1, k _ _ rx.last r1⟩
    · cases e
  · cases e
theorem mok_popAt : MutOk (kx X cl) fPopAt rPopAt := by
  intro xs as ys d p vs ws R H Q e hp rx ra k
  unfold fPopAt at e
  split at e
  · rename_i i
    split at e
    case isFalse => cases e
    rename_i hl
    split at e
    · rename_i j hj
      split at e
      · rename_i q
        cases e
        obtain ⟨v, r, rfl, p1, p2⟩ := ra
        cases (show r = [] from p2)
        cases (show v = .int i from p1)
        obtain ⟨v, e1, r1⟩ := rx.get q
        obtain ⟨h1, h2, h3, h4⟩ := ixN_seq hj
        exact ⟨p, vs, i, j, v, rfl, rfl, hp, by omega, by omega, by rw [rx.length]; exact h1, e1, k _ _ (rx.erase j) r1⟩
      · cases e
    · cases e
  · cases e
theorem mut_im {T : String} {f : List D → List D → Rs (List D × D)} {r : V → List V → Hp → VK → Prop} (ok : MutOk (kx X cl) f r) (hT : T = "list") (σ : L2.St) (H : Hp) (Q : VK) (hh : tOf (kx X cl) (eMut f Eo As) σ H Q) : tBM X.K T r (tOf (kx X cl) Eo) (aOf (kx X cl) As) σ H Q := by
  obtain ⟨ε, S, R, ω, rv, ε', S', he, s, k⟩ := hh
  obtain ⟨⟨ro, ε1, S1⟩, e1, he⟩ := bind_ok he
  obtain ⟨x0, e2, he⟩ := bind_ok he
  obtain ⟨⟨ds, ε2, S2⟩, e3, he⟩ := bind_ok he
  obtain ⟨xs, e4, he⟩ := bind_ok he
  obtain ⟨⟨ys, d⟩, e5, he⟩ := bind_ok he
  cases he
  refine ⟨ε, S, R, ω, ro, ε1, S1, e1, s, fun v1 R1 ω1 H1 x1 s1 p1 => ?_⟩
  obtain ⟨a0, vs0, rfl, h0, _⟩ := mut_at s1 p1 e2
  refine ⟨.inl ⟨hT, vs0, SqL.of h0⟩, ε1, S1, R1, ω1, ds, ε2, S2, e3, s1, fun ws R2 ω2 H2 x2 s2 p2 => ?_⟩
  obtain ⟨a, vs, ea, h2, rx, mk⟩ := mut_at s2 (p1.keep x2) e4
  cases ea
  refine ok xs ds ys d a0 vs ws R2 H2 Q e5 h2 rx p2 fun us u ru rd => ?_
  obtain ⟨s3, x3⟩ := mk ys us ru
  exact k u R2 ω2 _ ((x1.trans x2).trans x3) s3 rd
theorem mut_im0 {T : String} {f : List D → List D → Rs (List D × D)} {r : V → List V → Hp → VK → Prop} (ok : MutOk (kx X cl) f r) (hT : T = "list") (σ : L2.St) (H : Hp) (Q : VK) (hh : tOf (kx X cl) (eMut f Eo aNil) σ H Q) : tBM0 X.K T r (tOf (kx X cl) Eo) σ H Q := by
  obtain ⟨ε, S, R, ω, rv, ε', S', he, s, k⟩ := hh
  obtain ⟨⟨ro, ε1, S1⟩, e1, he⟩ := bind_ok he
  obtain ⟨x0, e2, he⟩ := bind_ok he
  obtain ⟨⟨ds, ε2, S2⟩, e3, he⟩ := bind_ok he
  obtain ⟨xs, e4, he⟩ := bind_ok he
  obtain ⟨⟨ys, d⟩, e5, he⟩ := bind_ok he
  cases he
  cases e3
  refine ⟨ε, S, R, ω, ro, ε1, S1, e1, s, fun v1 R1 ω1 H1 x1 s1 p1 => ?_⟩
  obtain ⟨a, vs, rfl, h2, rx, mk⟩ := mut_at s1 p1 e4
  refine ⟨.inl ⟨hT, vs, SqL.of h2⟩, ?_⟩
  refine ok xs [] ys d a vs [] R1 H1 Q e5 h2 rx rfl fun us u ru rd => ?_
  obtain ⟨s3, x3⟩ := mk ys us ru
  exact k u R1 ω1 _ (x1.trans x3) s3 rd
theorem ev_append (ho : PE X o (tOf (kx X cl) Eo)) (ha : PA X [e] (aOf (kx X cl) As)) (h : PE X c (tBM X.K "list" rAppend (tOf (kx X cl) Eo) (aOf (kx X cl) As))) : PE X c (tOf (kx X cl) (eMut fAppend Eo As)) := PE.im h (mut_im mok_append rfl)
theorem ev_mut {r : V → List V → Hp → VK → Prop} {f : List D → List D → Rs (List D × D)} (ok : MutOk (kx X cl) f r) (h : PE X c (tBM X.K "list" r (tOf (kx X cl) Eo) (aOf (kx X cl) As))) : PE X c (tOf (kx X cl) (eMut f Eo As)) := PE.im h (mut_im ok rfl)
theorem ev_mut0 {r : V → List V → Hp → VK → Prop} {f : List D → List D → Rs (List D × D)} (ok : MutOk (kx X cl) f r) (h : PE X c (tBM0 X.K "list" r (tOf (kx X cl) Eo))) : PE X c (tOf (kx X cl) (eMut f Eo aNil)) := PE.im h (mut_im0 ok rfl)
/-- x[i] = value -/
theorem sv_put {st : Stmt} (h : PS X st (tAsg (tOf (kx X cl) Ea) (gSub (tOf (kx X cl) Eo) (tOf (kx X cl) Ei) rSetL))) : PS X st (sOf (kx X cl) (sPut Eo Ei Ea)) := by
  refine PS.im h fun D σ H hh => ?_
  obtain ⟨ε, S, R, ω, oo, he, s, k⟩ := hh
  obtain ⟨⟨r, ε1, S1⟩, e1, he⟩ := bind_ok he
  obtain ⟨⟨d, ε2⟩, e2, he⟩ := bind_ok he
  obtain ⟨⟨ro, ε3, S2⟩, e3, he⟩ := bind_ok he
  obtain ⟨⟨ri, ε4, S3⟩, e4, he⟩ := bind_ok he
  obtain ⟨y, e5, he⟩ := bind_ok he
  match y, he, e5 with
  | .int i, he, e5 =>
    obtain ⟨xs, e6, he⟩ := bind_ok he
    split at he
    · rename_i j hj
      cases he
      refine ⟨ε, S, R, ω, r, ε1, S1, e1, s, fun v1 R1 ω1 H1 x1 s1 p1 => ?_⟩
      obtain ⟨R2, ω2, x2, s2, p2⟩ := p1.fix s1 x1 e2
      refine ⟨ε2, S1, R2, ω2, ro, ε3, S2, e3, s2, fun v3 R3 ω3 H3 x3 s3 p3 => ⟨ε3, S2, R3, ω3, ri, ε4, S3, e4, s3, fun v4 R4 ω4 H4 x4 s4 p4 => ?_⟩⟩
      obtain ⟨a, vs, rfl, h4, rx, mk⟩ := mut_at s4 (p3.keep x4) e6
      have hi := (p4.vr s4 e5).int
      refine ⟨a, vs, i, j, rfl, hi, h4, by rw [rx.length]; exact hj, ?_⟩
      obtain ⟨s5, x5⟩ := mk _ _ (rx.set j (Rep.mono (x3.le.trans x4.le) d v1 p2))
      exact k σ R4 ω4 _ (((x2.trans x3).trans x4).trans x5) s5
    · cases he
/-! ### several names at once -/
theorem RVR.shift {K : Kc} {R : Rc} {ω ω2 ω0 : Om} {H H0 : Hp} {σ σ2 : L2.St} {t t' : Sl} {u v : V} (h : RVR K ω0 H0 R ω H σ t.rv v)
    (f : ∀ j b, ω2 j = some b → ω j = some b ∨ (u = .ref b ∧ ∃ d, t' = .own d)) (ne : ∀ d d', t = .own d → t' = .own d' → u ≠ v) : RVR K ω0 H0 R ω2 H σ2 t.rv v := by
  cases t with
  | pl d => exact h
  | own d =>
    obtain ⟨a, o, rfl, ho, c, z, n, m, w⟩ := h
    exact ⟨a, o, rfl, ho, c, z, n, fun j q => (f j a q).elim (m j) fun ⟨e, d', e'⟩ => ne d d' rfl e' e, w⟩
theorem fresh_ne {K : Kc} {R R' : Rc} {ω ω' ω0 : Om} {H H' H0 : Hp} {σ σ' : L2.St} {t t' : Sl} {u v : V} (h : RVR K ω0 H0 R ω H σ t.rv u) (h' : RVR K ω H R' ω' H' σ' t'.rv v) (d' d : D) (e' : t' = .own d') (e : t = .own d) : u ≠ v := by
  subst e e'
  obtain ⟨a, o, rfl, ho, c, z, n, m, w⟩ := h
  obtain ⟨a', o', rfl, ho', c', z', n', m', w'⟩ := h'
  intro q
  cases q
  rcases w' with w' | ⟨i, w'⟩
  · rw [ho] at w'; cases w'
  · exact m i w'
theorem sv_par2 {st : Stmt} {i j : Nat} {o1 o2 : Bool} (h : PS X st (tPar i j (tCons (tOf (kx X cl) Ea) (tCons (tOf (kx X cl) Eb) tNil)))) : PS X st (sOf (kx X cl) (sPar2 o1 i o2 j Ea Eb)) := by
  refine PS.im h fun D σ H hh => ?_
  obtain ⟨ε, S, R, ω, oo, he, s, k⟩ := hh
  obtain ⟨⟨r1, ε1, S1⟩, e1, he⟩ := bind_ok he
  obtain ⟨⟨t1, ε2⟩, e2, he⟩ := bind_ok he
  obtain ⟨⟨r2, ε3, S2⟩, e3, he⟩ := bind_ok he
  obtain ⟨⟨t2, ε4⟩, e4, he⟩ := bind_ok he
  dsimp only at he
  split at he
  case isFalse => cases he
  rename_i hl
  cases he
  refine ⟨ε, S, R, ω, r1, ε1, S1, e1, s, fun v1 R1 ω1 H1 x1 s1 p1 => ?_⟩
  obtain ⟨R2, ω2, x2, s2, p2⟩ := p1.low s1 x1 e2
  refine ⟨ε2, S1, R2, ω2, r2, ε3, S2, e3, s2, fun v3 R3 ω3 H3 x3 s3 p3 => ?_⟩
  obtain ⟨R4, ω4, x4, s4, p4⟩ := p3.low s3 x3 e4
  refine ⟨v1, v3, rfl, ?_⟩
  have n1 := fresh_ne p2 p4
  obtain ⟨ω5, s5, x5, f5⟩ := s4.take (i := i) (x2.trans x4) (p2.keep x4) hl.1
  have p5 : RVR (kx X cl) ω H R4 ω5 H3 (σ.set i (some v1)) t2.rv v3 := (p4.start x2).shift f5 n1
  obtain ⟨ω6, s6, x6, _⟩ := s5.take (i := j) x5 p5 (by rw [List.length_set]; exact hl.2)
  exact k _ R4 ω6 H3 x6 s6
theorem sv_par3 {st : Stmt} {i j l : Nat} {o1 o2 o3 : Bool} (h : PS X st (tPar3 i j l (tCons (tOf (kx X cl) Ea) (tCons (tOf (kx X cl) Eb) (tCons (tOf (kx X cl) Ec) tNil))))) : PS X st (sOf (kx X cl) (sPar3 o1 i o2 j o3 l Ea Eb Ec)) := by
  refine PS.im h fun D σ H hh => ?_
  obtain ⟨ε, S, R, ω, oo, he, s, k⟩ := hh
  obtain ⟨⟨r1, ε1, S1⟩, e1, he⟩ := bind_ok he
  obtain ⟨⟨t1, ε2⟩, e2, he⟩ := bind_ok he
  obtain ⟨⟨r2, ε3, S2⟩, e3, he⟩ := bind_ok he
  obtain ⟨⟨t2, ε4⟩, e4, he⟩ := bind_ok he
  obtain ⟨⟨r3, ε5, S3⟩, e5, he⟩ := bind_ok he
  obtain ⟨⟨t3, ε6⟩, e6, he⟩ := bind_ok he
  dsimp only at he
  split at he
  case isFalse => cases he
  rename_i hl
  cases he
  refine ⟨ε, S, R, ω, r1, ε1, S1, e1, s, fun v1 R1 ω1 H1 x1 s1 p1 => ?_⟩
  obtain ⟨R2, ω2, x2, s2, p2⟩ := p1.low s1 x1 e2
  refine ⟨ε2, S1, R2, ω2, r2, ε3, S2, e3, s2, fun v3 R3 ω3 H3 x3 s3 p3 => ?_⟩
  obtain ⟨R4, ω4, x4, s4, p4⟩ := p3.low s3 x3 e4
  refine ⟨ε4, S2, R4, ω4, r3, ε5, S3, e5, s4, fun v5 R5 ω5 H5 x5 s5 p5 => ?_⟩
  obtain ⟨R6, ω6, x6, s6, p6⟩ := p5.low s5 x5 e6
  refine ⟨v1, v3, v5, rfl, ?_⟩
  have n1 := fresh_ne p2 p4
  have n2 := fresh_ne p4 p6
  have n3 := fresh_ne (p2.keep x4) p6
  have xx := (x2.trans x4).trans x6
  obtain ⟨ω7, s7, x7, f7⟩ := s6.take (i := i) xx ((p2.keep x4).keep x6) hl.1
  have p7 : RVR (kx X cl) ω H R6 ω7 H5 (σ.set i (some v1)) t2.rv v3 := ((p4.keep x6).start x2).shift f7 n1
  have p8 : RVR (kx X cl) ω H R6 ω7 H5 (σ.set i (some v1)) t3.rv v5 := (p6.start (x2.trans x4)).shift f7 n3
  obtain ⟨ω8, s8, x8, f8⟩ := s7.take (i := j) x7 p7 (by rw [List.length_set]; exact hl.2.1)
  have p9 : RVR (kx X cl) ω H R6 ω8 H5 ((σ.set i (some v1)).set j (some v3)) t3.rv v5 := p8.shift f8 n2
  obtain ⟨ω9, s9, x9, _⟩ := s8.take (i := l) x8 p9 (by rw [List.length_set, List.length_set]; exact hl.2.2)
  exact k _ R6 ω9 H5 x9 s9
end
end Mp

/-! The rules as they are written out by program. -/
namespace Mp
open PySem PySem.Spec PyProof.Rows L2

theorem bt_len : bootBuiltins "len" = some (.builtin "len") := by decide +kernel
theorem bt_abs : bootBuiltins "abs" = some (.builtin "abs") := by decide +kernel
theorem bt_int : bootBuiltins "int" = some (.type "int") := by decide +kernel
theorem bt_str : bootBuiltins "str" = some (.type "str") := by decide +kernel
theorem bt_bool : bootBuiltins "bool" = some (.type "bool") := by decide +kernel
theorem bt_tuple : bootBuiltins "tuple" = some (.type "tuple") := by decide +kernel
theorem bt_list : bootBuiltins "list" = some (.type "list") := by decide +kernel
theorem bt_dict : bootBuiltins "dict" = some (.type "dict") := by decide +kernel
theorem bt_max : bootBuiltins "max" = some (.builtin "max") := by decide +kernel
theorem bt_min : bootBuiltins "min" = some (.builtin "min") := by decide +kernel
theorem bt_sum : bootBuiltins "sum" = some (.builtin "sum") := by decide +kernel
theorem bt_all : bootBuiltins "all" = some (.builtin "all") := by decide +kernel
theorem bt_any : bootBuiltins "any" = some (.builtin "any") := by decide +kernel
theorem bt_sorted : bootBuiltins "sorted" = some (.builtin "sorted") := by decide +kernel
theorem bt_isinstance : bootBuiltins "isinstance" = some (.builtin "isinstance") := by decide +kernel

def sNo : SDen := fun _ _ => .no
section
variable {X : Cx} {cl : Nat → Addr} {e a b c : Expr} {Ea Eb Ec : Den} {pos p : Pos}
theorem g_var {i : Nat} {x : Str} (hN : X.N[i]? = some x) (hv : Vis X.env.scope x) (hd : (x == ("__debug__" : Str)) = false := by decide) (hcd : (x == ("__classdict__" : Str)) = false := by decide) : PE X (.Name x pos) (tOf (kx X cl) (eVar i)) := ev_var (pe_var hN hv hd hcd)
theorem g_cint {x : Str} {i : Int} (h : ∃ t, X.mg x = some (.int i t)) (hg : Gl X x) (hd : (x == ("__debug__" : Str)) = false := by decide) : PE X (.Name x pos) (tOf (kx X cl) (eC (.int i))) := by
  obtain ⟨t, h⟩ := h
  exact ev_c (v := .int i) (pe_glob hg h ⟨t, rfl⟩ hd) fun _ => rfl
theorem g_cstr {x : Str} {s : List Nat} (h : ∃ t, X.mg x = some (.str ⟨s.toArray⟩ t)) (hg : Gl X x) (hd : (x == ("__debug__" : Str)) = false := by decide) : PE X (.Name x pos) (tOf (kx X cl) (eC (.str s))) := by
  obtain ⟨t, h⟩ := h
  exact ev_c (v := .str ⟨s.toArray⟩) (pe_glob hg h ⟨t, rfl⟩ hd) fun _ => rfl
/-! ### operators -/
theorem g_add (ha : PE X a (tOf (kx X cl) Ea)) (hb : PE X b (tOf (kx X cl) Eb)) : PE X (.BinOp a .Add b pos) (tOf (kx X cl) (eBin pAdd Ea Eb)) := ev_bin (pe_op or_add ha hb) ok_add
theorem g_sub (ha : PE X a (tOf (kx X cl) Ea)) (hb : PE X b (tOf (kx X cl) Eb)) : PE X (.BinOp a .Sub b pos) (tOf (kx X cl) (eBin pSub Ea Eb)) := ev_bin (pe_op op_sub ha hb) ok_sub
theorem g_mul (ha : PE X a (tOf (kx X cl) Ea)) (hb : PE X b (tOf (kx X cl) Eb)) : PE X (.BinOp a .Mult b pos) (tOf (kx X cl) (eBin pMul Ea Eb)) := ev_bin (pe_op or_mul ha hb) ok_mul
theorem g_fdiv (ha : PE X a (tOf (kx X cl) Ea)) (hb : PE X b (tOf (kx X cl) Eb)) : PE X (.BinOp a .FloorDiv b pos) (tOf (kx X cl) (eBin pFdiv Ea Eb)) := ev_bin (pe_op op_fdivW ha hb) ok_fdiv
theorem g_mod (ha : PE X a (tOf (kx X cl) Ea)) (hb : PE X b (tOf (kx X cl) Eb)) : PE X (.BinOp a .Mod b pos) (tOf (kx X cl) (eBin pMod Ea Eb)) := ev_bin (pe_op op_mod ha hb) ok_mod
theorem g_pow (ha : PE X a (tOf (kx X cl) Ea)) (hb : PE X b (tOf (kx X cl) Eb)) : PE X (.BinOp a .Pow b pos) (tOf (kx X cl) (eBin pPow Ea Eb)) := ev_bin (pe_op op_pow ha hb) ok_pow
theorem g_shl (ha : PE X a (tOf (kx X cl) Ea)) (hb : PE X b (tOf (kx X cl) Eb)) : PE X (.BinOp a .LShift b pos) (tOf (kx X cl) (eBin pShl Ea Eb)) := ev_bin (pe_op op_shl ha hb) ok_shl
theorem g_shr (ha : PE X a (tOf (kx X cl) Ea)) (hb : PE X b (tOf (kx X cl) Eb)) : PE X (.BinOp a .RShift b pos) (tOf (kx X cl) (eBin pShr Ea Eb)) := ev_bin (pe_op op_shr ha hb) ok_shr
theorem g_band (ha : PE X a (tOf (kx X cl) Ea)) (hb : PE X b (tOf (kx X cl) Eb)) : PE X (.BinOp a .BitAnd b pos) (tOf (kx X cl) (eBin pAnd Ea Eb)) := ev_bin (pe_op op_and ha hb) ok_and
theorem g_bor (ha : PE X a (tOf (kx X cl) Ea)) (hb : PE X b (tOf (kx X cl) Eb)) : PE X (.BinOp a .BitOr b pos) (tOf (kx X cl) (eBin pOr Ea Eb)) := ev_bin (pe_op op_or ha hb) ok_or
theorem g_bxor (ha : PE X a (tOf (kx X cl) Ea)) (hb : PE X b (tOf (kx X cl) Eb)) : PE X (.BinOp a .BitXor b pos) (tOf (kx X cl) (eBin pXor Ea Eb)) := ev_bin (pe_op op_xor ha hb) ok_xor
theorem g_neg (ha : PE X a (tOf (kx X cl) Ea)) : PE X (.UnaryOp .USub a pos) (tOf (kx X cl) (eUn pNeg Ea)) := ev_un (pe_un un_neg ha) ok_neg
theorem g_inv (ha : PE X a (tOf (kx X cl) Ea)) : PE X (.UnaryOp .Invert a pos) (tOf (kx X cl) (eUn pInv Ea)) := ev_un (pe_un un_inv ha) ok_inv
theorem g_cmp {op : CmpOp} {r : R2} {f : D → D → Store → Rs RV} (ho : OpR X (compareOp op) r) (ok : OpOk (kx X cl) f r) (ha : PE X a (tOf (kx X cl) Ea)) (hb : PE X b (tOf (kx X cl) Eb)) (hm : behindInMarks op b = false) : PE X (.Compare a [op] [b] pos) (tOf (kx X cl) (eBin f Ea Eb)) := ev_bin (pe_cmpR ho ha hb hm) ok
theorem bin_im {f : D → D → Store → Rs RV} {r : R2} (ok : OpOk (kx X cl) f r) (σ : L2.St) (H : Hp) (Q : VK) (hh : tOf (kx X cl) (eBin f Ea Eb) σ H Q) : tOp r (tOf (kx X cl) Ea) (tOf (kx X cl) Eb) σ H Q := by
  obtain ⟨ε, S, R, ω, rv, ε', S', he, s, k⟩ := hh
  obtain ⟨⟨r1, ε1, S1⟩, e1, he⟩ := bind_ok he
  obtain ⟨⟨r2, ε2, S2⟩, e2, he⟩ := bind_ok he
  obtain ⟨x, ex, he⟩ := bind_ok he
  obtain ⟨y, ey, he⟩ := bind_ok he
  obtain ⟨rr, er, he⟩ := bind_ok he
  cases he
  refine ⟨ε, S, R, ω, r1, ε1, S1, e1, s, fun v1 R1 ω1 H1 x1 s1 p1 => ⟨ε1, S1, R1, ω1, r2, ε', S', e2, s1, fun v2 R2 ω2 H2 x2 s2 p2 => ?_⟩⟩
  have q1 := p1.keep x2
  refine ok x y S' rv v1 v2 R2 H2 Q er s2.g (q1.vr s2 ex) (p2.vr s2 ey) fun v' R' H' g n => ?_
  exact k v' R' ω2 H' ((x1.trans x2).trans (g.ex ω2)) (g.sr s2) (n.rvr s2 (x1.trans x2) g)
theorem c_cmp {op : CmpOp} {r : R2} {f : D → D → Store → Rs RV} (ho : OpR X (compareOp op) r) (ok : OpOk (kx X cl) f r) (ha : PE X a (tOf (kx X cl) Ea)) (hb : PE X b (tOf (kx X cl) Eb)) (hm : behindInMarks op b = false) : PT X (.Compare a [op] [b] pos) (cOf (kx X cl) (cVal (eBin f Ea Eb))) :=
  ev_val (PT.im (pt_cmpR ho ha hb hm) fun σ H Q hh => bin_im ok σ H _ hh)
theorem chain_im {f g : D → D → Store → Rs RV} {r r' : R2} (o1 : OpOk (kx X cl) f r) (o2 : OpOk (kx X cl) g r') (σ : L2.St) (H : Hp) (Q : VK) (hh : tOf (kx X cl) (eChain f g Ea Eb Ec) σ H Q) : tChain r r' (tOf (kx X cl) Ea) (tOf (kx X cl) Eb) (tOf (kx X cl) Ec) σ H Q := by
  obtain ⟨ε, S, R, ω, rv, ε', S', he, s, k⟩ := hh
  obtain ⟨⟨r1, ε1, S1⟩, e1, he⟩ := bind_ok he
  obtain ⟨⟨r2, ε2, S2⟩, e2, he⟩ := bind_ok he
  obtain ⟨x, ex, he⟩ := bind_ok he
  obtain ⟨y, ey, he⟩ := bind_ok he
  obtain ⟨rr, er, he⟩ := bind_ok he
  refine ⟨ε, S, R, ω, r1, ε1, S1, e1, s, fun v1 R1 ω1 H1 x1 s1 p1 => ⟨ε1, S1, R1, ω1, r2, ε2, S2, e2, s1, fun v2 R2 ω2 H2 x2 s2 p2 => ?_⟩⟩
  refine o1 x y S2 rr v1 v2 R2 H2 _ er s2.g ((p1.keep x2).vr s2 ex) (p2.vr s2 ey) fun v' R' H' g n => ?_
  split at he
  · have n' : v' = .bl true := n
    refine ⟨true, n', ?_⟩
    rw [if_pos rfl]
    obtain ⟨⟨r3, ε3, S3⟩, e3, he⟩ := bind_ok he
    obtain ⟨y', ey', he⟩ := bind_ok he
    obtain ⟨z, ez, he⟩ := bind_ok he
    obtain ⟨rr', er', he⟩ := bind_ok he
    cases he
    refine ⟨ε2, S2, R', ω2, r3, ε', S', e3, g.sr s2, fun v3 R3 ω3 H3 x3 s3 p3 => ?_⟩
    have xg := (g.ex ω2).trans x3
    refine o2 y' z S' rv v2 v3 R3 H3 Q er' s3.g ((p2.keep xg).vr s3 ey') (p3.vr s3 ez) fun v'' R'' H'' g' n' => ?_
    have xx := ((x1.trans x2).trans xg)
    exact k v'' R'' ω3 H'' (xx.trans (g'.ex ω3)) (g'.sr s3) (n'.rvr s3 xx g')
  · have n' : v' = .bl false := n
    cases he
    refine ⟨false, n', ?_⟩
    rw [if_neg Bool.false_ne_true]
    have xx := ((x1.trans x2).trans (g.ex ω2))
    exact k (.bl false) R' ω2 H' xx (g.sr s2) rfl
  · cases he
theorem g_chain {op op' : CmpOp} {r r' : R2} {f g : D → D → Store → Rs RV} (ho : OpR X (compareOp op) r) (o1 : OpOk (kx X cl) f r) (ho' : OpR X (compareOp op') r') (o2 : OpOk (kx X cl) g r') (ha : PE X a (tOf (kx X cl) Ea)) (hb : PE X b (tOf (kx X cl) Eb)) (hc : PE X c (tOf (kx X cl) Ec))
    (hm : lastMarks [op, op'] [b, c] = false := by with_unfolding_all rfl) : PE X (.Compare a [op, op'] [b, c] pos) (tOf (kx X cl) (eChain f g Ea Eb Ec)) := PE.im (pe_chain ho ho' ha hb hc hm) (chain_im o1 o2)
theorem c_chain {op op' : CmpOp} {r r' : R2} {f g : D → D → Store → Rs RV} (ho : OpR X (compareOp op) r) (o1 : OpOk (kx X cl) f r) (ho' : OpR X (compareOp op') r') (o2 : OpOk (kx X cl) g r') (ha : PE X a (tOf (kx X cl) Ea)) (hb : PE X b (tOf (kx X cl) Eb)) (hc : PE X c (tOf (kx X cl) Ec))
    (hm : lastMarks [op, op'] [b, c] = false := by with_unfolding_all rfl) : PT X (.Compare a [op, op'] [b, c] pos) (cOf (kx X cl) (cVal (eChain f g Ea Eb Ec))) := ev_val (PT.im (pt_chain ho ho' ha hb hc hm) fun σ H Q hh => chain_im o1 o2 σ H _ hh)
theorem c_val (h : PE X e (tOf (kx X cl) Ea)) (he : ∀ whole, isTrue e X.env whole = (do let v ← whole; standAt e.pos; holding [v] (truthy v)) := by intro _; rfl) : PT X e (cOf (kx X cl) (cVal Ea)) := ev_val (pt_val h he)
theorem g_idx (ha : PE X a (tOf (kx X cl) Ea)) (hb : PE X b (tOf (kx X cl) Eb)) (hs : PlainIx b := by intro _ _; rfl) : PE X (.Subscript a b pos) (tOf (kx X cl) (eBin pIdx Ea Eb)) := ev_bin (pe_ix ix_seq ha hb hs) ok_idx
/-! ### built-ins -/
theorem pa1 (h : PE X e (tOf (kx X cl) Ea)) (hs : starEach [e] X.env = (false, eval e X.env) :: starEach [] X.env := by rfl) : PA X [e] (tCons (tOf (kx X cl) Ea) tNil) := pa_cons h pa_nil hs
theorem pa2 (h : PE X a (tOf (kx X cl) Ea)) (h' : PE X b (tOf (kx X cl) Eb)) (hs : starEach [a, b] X.env = (false, eval a X.env) :: starEach [b] X.env := by rfl) (hs' : starEach [b] X.env = (false, eval b X.env) :: starEach [] X.env := by rfl) : PA X [a, b] (tCons (tOf (kx X cl) Ea) (tCons (tOf (kx X cl) Eb) tNil)) := pa_cons h (pa_cons h' pa_nil hs') hs

variable {x : Str} {id T : String} {f1 : D → Store → Rs RV} {f2 : D → D → Store → Rs RV} {r : List V → Hp → VK → Prop}
theorem g_b1 (hc : CallR X (.builtin id) r) (ok : UnOk (kx X cl) f1 (fun v H Q => r [v] H Q)) (hv : bootBuiltins x = some (.builtin id)) (hg : Gl X x) (hm : X.mg x = none) (ha : PE X a (tOf (kx X cl) Ea)) (hn : x ≠ "__name__" := by decide) (hdb : (x == ("__debug__" : Str)) = false := by decide)
    (he : starEach [a] X.env = (false, eval a X.env) :: starEach [] X.env := by rfl) : PE X (.Call (.Name x p) [a] [] pos) (tOf (kx X cl) (eUn f1 Ea)) := ev_b1 (pe_callB hc hg hm hv (pa1 ha he) hn hdb he) ok
theorem g_b2 (hc : CallR X (.builtin id) r) (ok : OpOk (kx X cl) f2 (fun v w H Q => r [v, w] H Q)) (hv : bootBuiltins x = some (.builtin id)) (hg : Gl X x) (hm : X.mg x = none) (ha : PE X a (tOf (kx X cl) Ea)) (hb : PE X b (tOf (kx X cl) Eb)) (hn : x ≠ "__name__" := by decide) (hdb : (x == ("__debug__" : Str)) = false := by decide)
    (he : starEach [a, b] X.env = (false, eval a X.env) :: starEach [b] X.env := by rfl) (he' : starEach [b] X.env = (false, eval b X.env) :: starEach [] X.env := by rfl) (hpl : (backTo pos (starEach [b] X.env)).any (·.1) = false := by rfl) : PE X (.Call (.Name x p) [a, b] [] pos) (tOf (kx X cl) (eBin f2 Ea Eb)) := ev_b2 (pe_callB hc hg hm hv (pa2 ha hb he he') hn hdb he hpl) ok
theorem g_t1 (hc : CallR X (.type T) r) (ok : UnOk (kx X cl) f1 (fun v H Q => r [v] H Q)) (hv : bootBuiltins x = some (.type T)) (hg : Gl X x) (hm : X.mg x = none) (ha : PE X a (tOf (kx X cl) Ea)) (hn : x ≠ "__name__" := by decide) (hdb : (x == ("__debug__" : Str)) = false := by decide)
    (he : starEach [a] X.env = (false, eval a X.env) :: starEach [] X.env := by rfl) : PE X (.Call (.Name x p) [a] [] pos) (tOf (kx X cl) (eUn f1 Ea)) := ev_b1 (pe_callTy hc hg hm hv (pa1 ha he) hn hdb he) ok
theorem g_isT {y : Str} {p2 : Pos} (hg : Gl X "isinstance") (hm : X.mg "isinstance" = none) (hg2 : Gl X y) (hm2 : X.mg y = none) (hv : bootBuiltins y = some (.type T)) (ha : PE X a (tOf (kx X cl) Ea)) (hn : y ≠ "__name__" := by decide) (hdb : (y == ("__debug__" : Str)) = false := by decide)
    (he : starEach [a, .Name y p2] X.env = (false, eval a X.env) :: starEach [.Name y p2] X.env := by rfl) (he' : starEach [.Name y p2] X.env = (false, eval (.Name y p2) X.env) :: starEach [] X.env := by rfl) (hpl : (backTo pos (starEach [.Name y p2] X.env)).any (·.1) = false := by rfl) :
    PE X (.Call (.Name "isinstance" p) [a, .Name y p2] [] pos) (tOf (kx X cl) (eUn (pIsT T) Ea)) :=
  ev_isT (pe_callB call_isi hg hm bt_isinstance (pa_cons ha (pa_cons (pe_bltn (v := .ty T) hg2 hm2 hv rfl hn hdb) pa_nil he') he) (by decide) (by decide) he hpl)
/-! ### list(range ..), tuple(range ..) -/
def rgOk (a b : Int) : Bool := decide (-(2 ^ 62) ≤ a) && decide (a < 2 ^ 62) && decide (-(2 ^ 62) ≤ b) && decide (b < 2 ^ 62) && decide ((b - a).toNat ≤ 2 ^ 24)
theorem rgOk_ok {a b : Int} (h : rgOk a b = true) : RgOk a b := by
  unfold rgOk at h
  simp only [Bool.and_eq_true, decide_eq_true_eq] at h
  exact ⟨h.1.1.1.1, h.1.1.1.2, h.1.1.2, h.1.2, h.2⟩
def rgD (a b : Int) : List D := intsFrom a (b - a).toNat
theorem rg_reps {K : Kc} {R : Rc} (a b : Int) : Reps K R (rgD a b) (rgV a b) := by
  have h : rgD a b = ((List.range (b - a).toNat).map fun (i : Nat) => a + (i : Int)).map D.int := by simp [rgD, intsFrom]
  have h' : rgV a b = ((List.range (b - a).toNat).map fun (i : Nat) => a + (i : Int)).map V.int := by simp [rgV]
  rw [h, h']
  exact Reps.of_ints _
def pLRg1 (x : D) (_ : Store) : Rs RV := match x with
  | .int n => if rgOk 0 n then .ok (.fr (.lst (rgD 0 n))) else .no
  | _ => .no
def pTRg1 (x : D) (_ : Store) : Rs RV := match x with
  | .int n => if rgOk 0 n then .ok (.pl (.tup (rgD 0 n))) else .no
  | _ => .no
def pLRg2 (x y : D) (_ : Store) : Rs RV := match x, y with
  | .int m, .int n => if rgOk m n then .ok (.fr (.lst (rgD m n))) else .no
  | _, _ => .no
def pTRg2 (x y : D) (_ : Store) : Rs RV := match x, y with
  | .int m, .int n => if rgOk m n then .ok (.pl (.tup (rgD m n))) else .no
  | _, _ => .no
theorem un_im {f : D → Store → Rs RV} {r : V → Hp → VK → Prop} (ok : UnOk (kx X cl) f r) (σ : L2.St) (H : Hp) (Q : VK) (hh : tOf (kx X cl) (eUn f Ea) σ H Q) : tUn r (tOf (kx X cl) Ea) σ H Q := by
  obtain ⟨ε, S, R, ω, rv, ε', S', he, s, k⟩ := hh
  obtain ⟨⟨r1, ε1, S1⟩, e1, he⟩ := bind_ok he
  obtain ⟨x, ex, he⟩ := bind_ok he
  obtain ⟨rr, er, he⟩ := bind_ok he
  cases he
  refine ⟨ε, S, R, ω, r1, ε', S', e1, s, fun v1 R1 ω1 H1 x1 s1 p1 => ?_⟩
  refine ok x S' rv v1 R1 H1 Q er s1.g (p1.vr s1 ex) fun v' R' H' g n => ?_
  exact k v' R' ω1 H' (x1.trans (g.ex ω1)) (g.sr s1) (n.rvr s1 x1 g)
theorem ok_lrg1 : UnOk (kx X cl) pLRg1 (fun x H Q => ∃ n, x = .int n ∧ (RgOk 0 n ∧ ∀ q, H q = none → Q (.ref q) (upd H q (.lst (rgV 0 n))))) := by
  intro x S rv v R H Q e g rx k
  unfold pLRg1 at e
  split at e
  · split at e
    · rename_i h
      cases e
      exact ⟨_, rx.int, rgOk_ok h, res_lst g k (rg_reps _ _)⟩
    · cases e
  · cases e
theorem ok_trg1 : UnOk (kx X cl) pTRg1 (fun x H Q => ∃ n, x = .int n ∧ (RgOk 0 n ∧ ∀ q, H q = none → Q (.ref q) (upd H q (.tup (rgV 0 n))))) := by
  intro x S rv v R H Q e g rx k
  unfold pTRg1 at e
  split at e
  · split at e
    · rename_i h
      cases e
      exact ⟨_, rx.int, rgOk_ok h, res_tup g k (rg_reps _ _)⟩
    · cases e
  · cases e
theorem ok_lrg2 : OpOk (kx X cl) pLRg2 (fun x y H Q => ∃ m n, x = .int m ∧ y = .int n ∧ (RgOk m n ∧ ∀ q, H q = none → Q (.ref q) (upd H q (.lst (rgV m n))))) := by
  intro x y S rv v w R H Q e g rx ry k
  unfold pLRg2 at e
  split at e
  · split at e
    · rename_i h
      cases e
      exact ⟨_, _, rx.int, ry.int, rgOk_ok h, res_lst g k (rg_reps _ _)⟩
    · cases e
  · cases e
theorem ok_trg2 : OpOk (kx X cl) pTRg2 (fun x y H Q => ∃ m n, x = .int m ∧ y = .int n ∧ (RgOk m n ∧ ∀ q, H q = none → Q (.ref q) (upd H q (.tup (rgV m n))))) := by
  intro x y S rv v w R H Q e g rx ry k
  unfold pTRg2 at e
  split at e
  · split at e
    · rename_i h
      cases e
      exact ⟨_, _, rx.int, ry.int, rgOk_ok h, res_tup g k (rg_reps _ _)⟩
    · cases e
  · cases e
variable {p2 pos2 : Pos}
theorem g_lrg1 (hc : X.calm = true) (hg : Gl X "list") (hm : X.mg "list" = none) (hg2 : Gl X "range") (hm2 : X.mg "range" = none) (ha : PE X a (tOf (kx X cl) Ea)) (na : starEach [a] X.env = (false, eval a X.env) :: starEach [] X.env := by rfl)
    (nb : starEach [.Call (.Name "range" p2) [a] [] pos2] X.env = (false, eval (.Call (.Name "range" p2) [a] [] pos2) X.env) :: starEach [] X.env := by rfl) : PE X (.Call (.Name "list" p) [.Call (.Name "range" p2) [a] [] pos2] [] pos) (tOf (kx X cl) (eUn pLRg1 Ea)) :=
  PE.im (pe_listRg hc hg hm (prg_1 hg2 hm2 ha na) nb) fun σ H Q hh => un_im ok_lrg1 σ H Q hh
theorem g_trg1 (hc : X.calm = true) (hg : Gl X "tuple") (hm : X.mg "tuple" = none) (hg2 : Gl X "range") (hm2 : X.mg "range" = none) (ha : PE X a (tOf (kx X cl) Ea)) (na : starEach [a] X.env = (false, eval a X.env) :: starEach [] X.env := by rfl)
    (nb : starEach [.Call (.Name "range" p2) [a] [] pos2] X.env = (false, eval (.Call (.Name "range" p2) [a] [] pos2) X.env) :: starEach [] X.env := by rfl) : PE X (.Call (.Name "tuple" p) [.Call (.Name "range" p2) [a] [] pos2] [] pos) (tOf (kx X cl) (eUn pTRg1 Ea)) :=
  PE.im (pe_tupRg hc hg hm (prg_1 hg2 hm2 ha na) nb) fun σ H Q hh => un_im ok_trg1 σ H Q hh
theorem g_lrg2 (hc : X.calm = true) (hg : Gl X "list") (hm : X.mg "list" = none) (hg2 : Gl X "range") (hm2 : X.mg "range" = none) (ha : PE X a (tOf (kx X cl) Ea)) (hb : PE X b (tOf (kx X cl) Eb)) (na : starEach [a, b] X.env = (false, eval a X.env) :: starEach [b] X.env := by rfl) (nb : starEach [b] X.env = (false, eval b X.env) :: starEach [] X.env := by rfl) (hp : (backTo pos2 (starEach [b] X.env)).any (·.1) = false := by rfl)
    (nc : starEach [.Call (.Name "range" p2) [a, b] [] pos2] X.env = (false, eval (.Call (.Name "range" p2) [a, b] [] pos2) X.env) :: starEach [] X.env := by rfl) : PE X (.Call (.Name "list" p) [.Call (.Name "range" p2) [a, b] [] pos2] [] pos) (tOf (kx X cl) (eBin pLRg2 Ea Eb)) :=
  PE.im (pe_listRg hc hg hm (prg_2 hg2 hm2 ha hb na nb hp) nc) fun σ H Q hh => bin_im ok_lrg2 σ H Q hh
theorem g_trg2 (hc : X.calm = true) (hg : Gl X "tuple") (hm : X.mg "tuple" = none) (hg2 : Gl X "range") (hm2 : X.mg "range" = none) (ha : PE X a (tOf (kx X cl) Ea)) (hb : PE X b (tOf (kx X cl) Eb)) (na : starEach [a, b] X.env = (false, eval a X.env) :: starEach [b] X.env := by rfl) (nb : starEach [b] X.env = (false, eval b X.env) :: starEach [] X.env := by rfl) (hp : (backTo pos2 (starEach [b] X.env)).any (·.1) = false := by rfl)
    (nc : starEach [.Call (.Name "range" p2) [a, b] [] pos2] X.env = (false, eval (.Call (.Name "range" p2) [a, b] [] pos2) X.env) :: starEach [] X.env := by rfl) : PE X (.Call (.Name "tuple" p) [.Call (.Name "range" p2) [a, b] [] pos2] [] pos) (tOf (kx X cl) (eBin pTRg2 Ea Eb)) :=
  PE.im (pe_tupRg hc hg hm (prg_2 hg2 hm2 ha hb na nb hp) nc) fun σ H Q hh => bin_im ok_trg2 σ H Q hh
/-! ### comprehensions -/
theorem g_yes : PTs X [] (cOf (kx X cl) cYes) := ⟨fun pins s σ H Q I hh => by
  obtain ⟨ε, S, R, ω, b, ε', S', he, s, k⟩ := hh
  cases he
  exact pts_nil.run pins _ σ H Q I (k R ω H (.refl _ _ _) s)⟩
theorem g_lc {elt tg iter : Expr} {ifs : List Expr} {scope : Scope} {own : List (Str × Nat)} {I : IDen} {T : TDen} {C : CDen} {ts vs : List Nat} (hc : X.calm = true) (hN : X.N.Nodup) (ok : BlkOk X.N X.env.scope scope own) (hi : PI X tg iter (iOf (kx X cl) I))
    (hg : ∀ (s : Shared) (H : Hp) (C : Addr) (cc : List (Str × Addr)) (fp : List Addr), PG (X.blk s H scope (compEnvC scope cc C X.env) fp) tg (gOf (kx X cl) ts T)) (ht : ∀ (s : Shared) (H : Hp) (B : Addr) (cc : List (Str × Addr)) (fp : List Addr), PTs (X.blk s H scope (compEnvC scope cc B X.env) fp) ifs (cOf (kx X cl) C))
    (he : ∀ (s : Shared) (H : Hp) (C : Addr) (cc : List (Str × Addr)) (fp : List Addr), PE (X.blk s H scope (compEnvC scope cc C X.env) fp) elt (tOf (kx X cl) Ea)) (hv : own.map (·.2) = vs := by rfl) (hsub : ∀ i ∈ ts, i ∈ vs := by decide) (hs : ∀ x, foldedSetIterable iter X.env x = pure x := by intro _; rfl) :
    PE X (.ListComp elt [⟨tg, iter, ifs, 0⟩] scope pos) (tOf (kx X cl) (eComp vs I T C Ea)) := by
  subst hv
  exact PE.im (pe_lc hc hN hi ok hg ht he hs) (lc_im hsub)
theorem g_setLc {i : Nat} {y : Str} {py spos : Pos} {elt tg iter : Expr} {ifs : List Expr} {scope : Scope} {own : List (Str × Nat)} {I : IDen} {T : TDen} {C : CDen} {ts vs : List Nat} (hc : X.calm = true) (hN : X.N.Nodup) (ok : BlkOk X.N X.env.scope scope own) (hy : X.N[i]? = some y) (hyl : X.env.scope.names.lookup y = some .local)
    (hsw : swapsWith (.ListComp elt [⟨tg, iter, ifs, 0⟩] scope pos) (some (.Name y py)) spos.line X.env = pure true) (hi : PI X tg iter (iOf (kx X cl) I))
    (hg : ∀ (s : Shared) (H : Hp) (C : Addr) (cc : List (Str × Addr)) (fp : List Addr), PG (X.blk s H scope (compEnvC scope cc C X.env) fp) tg (gOf (kx X cl) ts T)) (ht : ∀ (s : Shared) (H : Hp) (B : Addr) (cc : List (Str × Addr)) (fp : List Addr), PTs (X.blk s H scope (compEnvC scope cc B X.env) fp) ifs (cOf (kx X cl) C))
    (he : ∀ (s : Shared) (H : Hp) (C : Addr) (cc : List (Str × Addr)) (fp : List Addr), PE (X.blk s H scope (compEnvC scope cc C X.env) fp) elt (tOf (kx X cl) Ea)) (hv : own.map (·.2) = vs := by rfl) (hsub : ∀ i ∈ ts, i ∈ vs := by decide) (hs : ∀ x, foldedSetIterable iter X.env x = pure x := by intro _; rfl) :
    PS X (.Assign [.Name y py] (.ListComp elt [⟨tg, iter, ifs, 0⟩] scope pos) spos) (sOf (kx X cl) (sSet i (eComp vs I T C Ea))) ∧ PS X (.Assign [.Name y py] (.ListComp elt [⟨tg, iter, ifs, 0⟩] scope pos) spos) (sOf (kx X cl) (sOwn i (eComp vs I T C Ea))) := by
  subst hv
  exact ⟨PS.im (ps_setLc hc hN hy hyl hsw hi ok hg ht he hs) (set_im (lc_im hsub)), PS.im (ps_setLc hc hN hy hyl hsw hi ok hg ht he hs) (own_im (lc_im hsub))⟩
/-! ### statements -/
theorem g_set {i : Nat} {pos' : Pos} (hN : X.N.Nodup) (hi : X.N[i]? = some x) (hx : Loc X.env.scope x) (he : PE X e (tOf (kx X cl) Ea)) (hs : swapsWith e (some (.Name x pos')) pos.line X.env = pure false := by rfl) (hf : X.fn x = true ∨ X.env.scope.names.lookup x = some .local := by exact .inl rfl) : PS X (.Assign [.Name x pos'] e pos) (sOf (kx X cl) (sSet i Ea)) := sv_set (ps_set hN hi hx he hs hf)
theorem g_own {i : Nat} {pos' : Pos} (hN : X.N.Nodup) (hi : X.N[i]? = some x) (hx : Loc X.env.scope x) (he : PE X e (tOf (kx X cl) Ea)) (hs : swapsWith e (some (.Name x pos')) pos.line X.env = pure false := by rfl) (hf : X.fn x = true ∨ X.env.scope.names.lookup x = some .local := by exact .inl rfl) : PS X (.Assign [.Name x pos'] e pos) (sOf (kx X cl) (sOwn i Ea)) := sv_own (ps_set hN hi hx he hs hf)
theorem g_asg {tg : Expr} {T : TDen} {ts : List Nat} (he : PE X e (tOf (kx X cl) Ea)) (hg : PG X tg (gOf (kx X cl) ts T)) (hs : swapsWithSole [tg] e pos.line X.env = pure false := by rfl) (hw : swappedStores [tg] e X.env = pure none := by rfl) (h1 : (assignEach [tg] X.env).map (·.2) = [assign tg X.env] := by rfl) : PS X (.Assign [tg] e pos) (sOf (kx X cl) (sAsg T Ea)) := sv_asg (ps_asg he hg hs hw h1)
theorem g_put {o i : Expr} {Eo Ei : Den} {tp : Pos} (he : PE X e (tOf (kx X cl) Ea)) (ho : PE X o (tOf (kx X cl) Eo)) (hi : PE X i (tOf (kx X cl) Ei)) (ha : ∀ v, assign (.Subscript o i tp) X.env v = (do
      let ov ← holding [v] (eval o X.env)
      let iv ← holding [v, ov] (eval i X.env)
      standAt tp
      holding [v, ov, iv] (setItem ov iv v)
      release [v, ov, iv] []) := by intro _; rfl) (hs : swapsWithSole [.Subscript o i tp] e pos.line X.env = pure false := by rfl) (hw : swappedStores [.Subscript o i tp] e X.env = pure none := by rfl) (h1 : (assignEach [.Subscript o i tp] X.env).map (·.2) = [assign (.Subscript o i tp) X.env] := by rfl) : PS X (.Assign [.Subscript o i tp] e pos) (sOf (kx X cl) (sPut Eo Ei Ea)) := sv_put (ps_asg he (pg_sub ho hi set_list ha) hs hw h1)
theorem g_name {i : Nat} (hN : X.N.Nodup) (hi : X.N[i]? = some x) (hx : Loc X.env.scope x) (hf : X.fn x = true ∨ X.env.scope.names.lookup x = some .local := by first | exact .inl rfl | exact .inr rfl) : PG X (.Name x pos) (gOf (kx X cl) [i] (tName i)) := gv_name (pg_name hN hi hx hf)
theorem g_for {iter tg : Expr} {body : List Stmt} {I : IDen} {T : TDen} {M : SDen} {ts : List Nat} (hp : PassesOwn (model X.prog X.w) X.A X.env X.xe) (hc : X.calm = true) (hi : PI X tg iter (iOf (kx X cl) I)) (hg : PG X tg (gOf (kx X cl) ts T)) (hb : PSs X body (sOf (kx X cl) M)) (hs : ∀ x, foldedSetIterable iter X.env x = pure x := by intro _; rfl) : PS X (.For tg iter body [] pos) (sOf (kx X cl) (sFor T I M)) := sv_for (ps_for hp hc hi hg hb hs)
theorem g_while {F : CallI} {body : List Stmt} {C : CDen} {M : SDen} (hp : PassesOwn (model X.prog X.w) X.A X.env X.xe) (hc : PT X c (cOf (kx X cl) C)) (hb : PSs X body (sOf (kx X cl) M)) : PS X (.While c body [] pos) (sOf (kx X cl) (sWhile F C M)) := sv_while (ps_while hp hc hb)
theorem g_no {st : Stmt} : PS X st (sOf (kx X cl) sNo) := PS.im ps_never fun D σ H hh => by
  obtain ⟨ε, S, R, ω, o, he, s, k⟩ := hh
  cases he
end
/-! ### a def's step -/
theorem fn_stepD {P : Program} {w : World} {K : PySem.W.Frag} {mg : Str → Option Value} {base : Heap} {cl : Nat → Addr} {x qual : Str} {params : Arguments} {body : List Stmt} {scope : Scope} {dvs : List V} {kws : List (Str × V)} {f : Addr} {fd : FuncData} {N ps : List Str} {n i : Nat} {tab : Nat → Option FnD} {wf : Nat} {M : CallI → SDen}
    (F : FunD K x qual params body scope dvs kws f fd) (S : FnScope N ps scope) (ht : tab i = some ⟨ps.length, N.length, M⟩)
    (hb : ∀ (cdv : Value) (A : Around) (outer : List PySem.Env) (s : Shared) (H : Hp) (E : XK), Room n (A.deeper (envOfC qual scope s.heap.objs.size f cdv)) →
      PSs (cxOf CX0 P w K mg base N qual scope f cdv A outer s H E).nox body (sOf ⟨K, cl⟩ (M ⟨callF tab wf n, wf⟩))) :
    FnOk P w K mg base CX0 (n + 1) f fd ps (spOf ⟨K, cl⟩ (callF tab wf (n + 1) i)) := by
  have open_ : ∀ (ds : List D) (S : Store) (r : Bool × D × Store), callF tab wf (n + 1) i ds S = .ok r → ds.length = ps.length ∧ runBody N.length (M ⟨callF tab wf n, wf⟩) ds S = .ok r := by
    intro ds S r h
    unfold callF at h
    rw [ht] at h
    simp only at h
    split at h
    · rename_i q; exact ⟨q, h⟩
    · cases h
  refine F.ok S (fun vs H Q E h => ?_) fun cdv A outer s H vs Q E hr h => ?_
  · obtain ⟨ds, S, R, b, d, S', e, r, _⟩ := h
    rw [r.length]; exact (open_ _ _ _ e).1
  · obtain ⟨ds, S1, R, b, d, S', e, r, g, k⟩ := h
    refine ⟨_, (hb cdv A outer s H E hr).nox, ?_⟩
    obtain ⟨hl, e⟩ := open_ _ _ _ e
    obtain ⟨o, e1, e⟩ := bind_ok e
    refine ⟨_, S1, R, fun _ => none, o, e1, start_sr g r, ?_⟩
    cases o with
    | nx ε2 S2 =>
      cases e
      exact fun σ' R' ω' H' x' s' => k .non R' H' (x'.om fun _ _ h => nomatch h) s'.g (.plain rfl)
    | rt b2 d2 S2 =>
      cases e
      exact fun v R' ω' H' x' g' r' => k v R' H' (x'.om fun _ _ h => nomatch h) g' r'
    | bk ε2 S2 => cases e
    | ct ε2 S2 => cases e
/-- the start: the law's promise from one equation -/
theorem law_sp {K : PySem.W.Frag} {cl : Nat → Addr} {call : List D → Store → Rs (Bool × D × Store)} {H : Hp} {a : Addr} {ns : List Int} {Q : VK} {E : XK} {f : Bool} {S' : Store} (hO : Only H) (hS : SqL K H a (ns.map V.int)) (e : call [.scr ns] [] = .ok (f, .bl true, S'))
    (hQ : ∀ H', Q (.bl true) H') : spOf ⟨K, cl⟩ call [.ref a] H Q E := by
  refine ⟨[.scr ns], [], ⟨fun b => match H b with | some (.frz o u) => some (.frz o u) | _ => none, []⟩, f, .bl true, S', e, ⟨_, _, rfl, ⟨a, rfl, ?_⟩, rfl⟩, ?_, fun v R' H' x g r => ?_⟩
  · rcases hS with (h | ⟨o, h⟩) | h
    · rcases hO a with z | ⟨o, xs, z⟩
      · rw [z] at h; cases h
      · rw [z] at h; cases h
    · exact .inl ⟨o, by show (match H a with | some (.frz o u) => some (HO.frz o u) | _ => none) = _; rw [h]⟩
    · exact .inr h
  · exact {
      zh := fun b o h => by
        have h' : (match H b with | some (.frz o u) => some (HO.frz o u) | _ => none) = some o := h
        split at h'
        · rename_i q; cases h'; exact q
        · cases h'
      sl := rfl
      st := fun j ob h => by cases h
      ρz := fun b h => by cases h
      ρn := List.nodup_nil
      ρh := fun b h => by cases h }
  · cases f with
    | false => unfold RetR at r; rw [if_neg Bool.false_ne_true] at r; cases (show v = .bl true from r); exact hQ H'
    | true => unfold RetR at r; rw [if_pos rfl] at r; obtain ⟨a, o, e, ho, c, _⟩ := r; exact c.elim
theorem _root_.L2.Room.units65 {k : Nat} {A : Around} (r : Room k A) : A.units + 65 < cLine := by have := r.un; omega
theorem fn_any {α : Type} {P : Program} {w : World} {K : PySem.W.Frag} {mg : Str → Option Value} {base : Heap} {f : Addr} {fd : FuncData} {ps : List Str} {n : Nat} {sp : α → Sp} (h : ∀ a, FnOk P w K mg base CX0 n f fd ps (sp a)) : FnOk P w K mg base CX0 n f fd ps (fun vs H Q E => ∃ a, sp a vs H Q E) where
  len := fun vs H Q E ⟨a, q⟩ => (h a).len vs H Q E q
  run := fun A outer s H args us vs Q E h1 h2 h3 h4 ⟨a, q⟩ => (h a).run A outer s H args us vs Q E h1 h2 h3 h4 q
end Mp

/-! How the readings compute. -/
namespace Mp

/-- a bound of a range -/
def inR (i : Int) : Prop := -(2 ^ 62) ≤ i ∧ i < 2 ^ 62
theorem inR_of {i : Int} (h1 : -1000000000 ≤ i) (h2 : i ≤ 1000000000) : inR i := ⟨by omega, by omega⟩
def ir1 (ds : List D) : Rs (List D) := match ds with
  | [.int j] => if -(2 ^ 62) ≤ j ∧ j < 2 ^ 62 then .ok (intsFrom 0 j.toNat) else .no
  | _ => .no
def ir2 (ds : List D) : Rs (List D) := match ds with
  | [.int i, .int j] => if (-(2 ^ 62) ≤ i ∧ i < 2 ^ 62) ∧ -(2 ^ 62) ≤ j ∧ j < 2 ^ 62 then .ok (intsFrom i (j - i).toNat) else .no
  | _ => .no
def ir3 (ds : List D) : Rs (List D) := match ds with
  | [.int i, .int j, .int c] =>
    if c = -1 then
      if (-(2 ^ 62) ≤ i ∧ i < 2 ^ 62) ∧ -(2 ^ 62) ≤ j ∧ j < 2 ^ 62 then .ok (intsBy i (-1) (i - j).toNat) else .no
    else if c ≠ 0 ∧ c.natAbs < 1073741824 ∧ PySem.Builtin.Range.small i j c = true ∧ 0 ≤ PySem.Builtin.Range.rangeSize i j c then .ok (intsBy i c (PySem.Builtin.Range.rangeSize i j c).toNat) else .no
  | _ => .no
@[simp] theorem ir1_ok {j : Int} (h : inR j) : ir1 [.int j] = .ok (intsFrom 0 j.toNat) := if_pos h
@[simp] theorem ir2_ok {i j : Int} (h : inR i) (h2 : inR j) : ir2 [.int i, .int j] = .ok (intsFrom i (j - i).toNat) := if_pos ⟨h, h2⟩
@[simp] theorem ir3_ok {i j : Int} (h : inR i) (h2 : inR j) : ir3 [.int i, .int j, .int (-1)] = .ok (intsBy i (-1) (i - j).toNat) := by
  unfold ir3
  dsimp only
  rw [if_pos rfl, if_pos (show (-(2 ^ 62) ≤ i ∧ i < 2 ^ 62) ∧ -(2 ^ 62) ≤ j ∧ j < 2 ^ 62 from ⟨h, h2⟩)]
@[simp] theorem inR_0 : inR 0 := inR_of (by omega) (by omega)
@[simp] theorem inR_1 : inR 1 := inR_of (by omega) (by omega)
@[simp] theorem inR_m1 : inR (-1) := inR_of (by omega) (by omega)
@[simp] theorem inR_2 : inR 2 := inR_of (by omega) (by omega)
section
variable {ε : Env} {S : Store} {f : D → Store → Rs RV} {g : D → D → Store → Rs RV} {a b c : Den} {as : ADen} {C C' : CDen} {M M' : SDen} {T : TDen} {Ts : TsDen} {d : D} {F : CallI} {i j n k : Nat} {x y : Sl} {o : Option Sl} {e : Env}
@[simp] theorem slot_z : slot (o :: e) 0 = o := id rfl
@[simp] theorem slot_s : slot (o :: e) (i + 1) = slot e i := by unfold slot; rw [List.getElem?_cons_succ]
@[simp] theorem get_pl : (RV.pl d).get ε = .ok d := id rfl
@[simp] theorem get_fr : (RV.fr d).get ε = .ok d := id rfl
@[simp] theorem get_bor : (RV.bor i).get ε = (match slot ε i with | some (.own d) => .ok d | some (.pl d) => .ok d | none => .no) := id rfl
@[simp] theorem fix_pl : (RV.pl d).fix ε = .ok (d, ε) := id rfl
@[simp] theorem fix_fr : (RV.fr d).fix ε = .ok (d, ε) := id rfl
@[simp] theorem fix_bor : (RV.bor i).fix ε = (match slot ε i with | some (.own d) => .ok (d, ε.set i (some (.pl d))) | some (.pl d) => .ok (d, ε) | none => .no) := id rfl
@[simp] theorem x_var : eVar i ε S = (match slot ε i with | some (.pl d) => .ok (.pl d, ε, S) | some (.own _) => .ok (.bor i, ε, S) | none => .no) := id rfl
@[simp] theorem x_c : eC d ε S = .ok (.pl d, ε, S) := id rfl
@[simp] theorem x_un : eUn f a ε S = (a ε S >>= fun p => p.1.get p.2.1 >>= fun x => f x p.2.2 >>= fun v => .ok (v, p.2.1, p.2.2)) := id rfl
@[simp] theorem x_bin : eBin g a b ε S = (a ε S >>= fun p => b p.2.1 p.2.2 >>= fun q => p.1.get q.2.1 >>= fun x => q.1.get q.2.1 >>= fun y => g x y q.2.2 >>= fun v => .ok (v, q.2.1, q.2.2)) := id rfl
@[simp] theorem x_anil : aNil ε S = .ok ([], ε, S) := id rfl
@[simp] theorem x_acons : aCons a as ε S = (a ε S >>= fun p => p.1.fix p.2.1 >>= fun q => as q.2 p.2.2 >>= fun r => .ok (q.1 :: r.1, r.2.1, r.2.2)) := id rfl
def lenOk (ds : List D) : Bool := decide (ds.length ≤ 16777216)
theorem lenOk_of {ds : List D} (h : ds.length ≤ 16777216) : lenOk ds = true := decide_eq_true h
@[simp] theorem lenOk_nil : lenOk [] = true := id rfl
@[simp] theorem lenOk_1 : lenOk [d] = true := id rfl
@[simp] theorem lenOk_2 {d1 d2 : D} : lenOk [d1, d2] = true := id rfl
@[simp] theorem lenOk_3 {d1 d2 d3 : D} : lenOk [d1, d2, d3] = true := id rfl
@[simp] theorem lenOk_4 {d1 d2 d3 d4 : D} : lenOk [d1, d2, d3, d4] = true := id rfl
@[simp] theorem lenOk_5 {d1 d2 d3 d4 d5 : D} : lenOk [d1, d2, d3, d4, d5] = true := id rfl
@[simp] theorem lenOk_6 {d1 d2 d3 d4 d5 d6 : D} : lenOk [d1, d2, d3, d4, d5, d6] = true := id rfl
@[simp] theorem lenOk_7 {d1 d2 d3 d4 d5 d6 d7 : D} : lenOk [d1, d2, d3, d4, d5, d6, d7] = true := id rfl
@[simp] theorem lenOk_8 {d1 d2 d3 d4 d5 d6 d7 d8 : D} : lenOk [d1, d2, d3, d4, d5, d6, d7, d8] = true := id rfl
@[simp] theorem x_tup : eTup as ε S = (as ε S >>= fun p => if lenOk p.1 = true then .ok (.pl (.tup p.1), p.2.1, p.2.2) else .no) := by
  show (as ε S >>= fun p => if p.1.length ≤ 16777216 then Rs.ok (RV.pl (.tup p.1), p.2.1, p.2.2) else .no) = _
  congr 1; funext p
  unfold lenOk
  by_cases h : p.1.length ≤ 16777216
  · rw [if_pos h, if_pos (decide_eq_true h)]
  · rw [if_neg h, if_neg (by rw [decide_eq_false h]; exact Bool.false_ne_true)]
@[simp] theorem x_lst : eLst as ε S = (as ε S >>= fun p => if lenOk p.1 = true then .ok (.fr (.lst p.1), p.2.1, p.2.2) else .no) := by
  show (as ε S >>= fun p => if p.1.length ≤ 16777216 then Rs.ok (RV.fr (.lst p.1), p.2.1, p.2.2) else .no) = _
  congr 1; funext p
  unfold lenOk
  by_cases h : p.1.length ≤ 16777216
  · rw [if_pos h, if_pos (decide_eq_true h)]
  · rw [if_neg h, if_neg (by rw [decide_eq_false h]; exact Bool.false_ne_true)]
@[simp] theorem x_new : eNew a ε S = (a ε S >>= fun p => match p.1 with | .fr (.lst ds) => .ok (.pl (.ref p.2.2.length), p.2.1, p.2.2 ++ [.lst ds]) | .fr (.dct ks vs) => .ok (.pl (.ref p.2.2.length), p.2.1, p.2.2 ++ [.dct ks vs]) | _ => .no) := id rfl
@[simp] theorem x_call : eCall F i as ε S = (as ε S >>= fun p => F.call i p.1 p.2.2 >>= fun q => .ok (if q.1 then .fr q.2.1 else .pl q.2.1, p.2.1, q.2.2)) := id rfl
@[simp] theorem x_cval : cVal a ε S = (a ε S >>= fun p => p.1.get p.2.1 >>= fun x => match x with | .bl b => .ok (b, p.2.1, p.2.2) | _ => .no) := id rfl
@[simp] theorem x_cand : cAnd C C' ε S = (C ε S >>= fun p => if p.1 then C' p.2.1 p.2.2 else .ok (false, p.2.1, p.2.2)) := id rfl
@[simp] theorem x_cor : cOr C C' ε S = (C ε S >>= fun p => if p.1 then .ok (true, p.2.1, p.2.2) else C' p.2.1 p.2.2) := id rfl
@[simp] theorem x_cnot : cNot C ε S = (C ε S >>= fun p => .ok (!p.1, p.2.1, p.2.2)) := id rfl
@[simp] theorem x_cyes : cYes ε S = .ok (true, ε, S) := id rfl
@[simp] theorem x_and : eAnd a b ε S = (a ε S >>= fun p => p.1.get p.2.1 >>= fun x => match x with | .bl x => if x then b p.2.1 p.2.2 else .ok (.pl (.bl false), p.2.1, p.2.2) | _ => .no) := id rfl
@[simp] theorem x_or : eOr a b ε S = (a ε S >>= fun p => p.1.get p.2.1 >>= fun x => match x with | .bl x => if x then .ok (.pl (.bl true), p.2.1, p.2.2) else b p.2.1 p.2.2 | _ => .no) := id rfl
@[simp] theorem x_not : eNot a ε S = (a ε S >>= fun p => p.1.get p.2.1 >>= fun x => (match x with | .bl b => Rs.ok (RV.pl (.bl !b)) | _ => .no) >>= fun v => .ok (v, p.2.1, p.2.2)) := id rfl
@[simp] theorem x_if : eIf C a b ε S = (C ε S >>= fun p => if p.1 then a p.2.1 p.2.2 else b p.2.1 p.2.2) := id rfl
@[simp] theorem x_chain {f g : D → D → Store → Rs RV} : eChain f g a b c ε S = (a ε S >>= fun p => b p.2.1 p.2.2 >>= fun q => p.1.get q.2.1 >>= fun x => q.1.get q.2.1 >>= fun y => f x y q.2.2 >>= fun v => match v with
  | .pl (.bl true) => c q.2.1 q.2.2 >>= fun r => q.1.get r.2.1 >>= fun y' => r.1.get r.2.1 >>= fun z => g y' z r.2.2 >>= fun v => .ok (v, r.2.1, r.2.2)
  | .pl (.bl false) => .ok (.pl (.bl false), q.2.1, q.2.2)
  | _ => .no) := id rfl
@[simp] theorem x_tname : tName i d ε = .ok (ε.set i (some (.pl d))) := id rfl
@[simp] theorem x_tsnil : tsNil [] ε = .ok ε := id rfl
@[simp] theorem x_tscons {ds : List D} : tsCons T Ts (d :: ds) ε = (T d ε >>= fun e => Ts ds e) := id rfl
@[simp] theorem x_ttup {ds : List D} : tTup n Ts (.tup ds) ε = (if ds.length = n then Ts ds ε else .no) := id rfl
@[simp] theorem x_snil : sNil ε S = .ok (.nx ε S) := id rfl
@[simp] theorem x_sseq : sSeq M M' ε S = (M ε S >>= fun o => match o with | .nx ε1 S1 => M' ε1 S1 | o => .ok o) := id rfl
@[simp] theorem x_pass : sPass ε S = .ok (.nx ε S) := id rfl
@[simp] theorem x_break : sBreak ε S = .ok (.bk ε S) := id rfl
@[simp] theorem x_cont : sCont ε S = .ok (.ct ε S) := id rfl
@[simp] theorem x_drop : sDrop a ε S = (a ε S >>= fun p => .ok (.nx p.2.1 p.2.2)) := id rfl
@[simp] theorem x_ret : sRet a ε S = (a ε S >>= fun p => match p.1 with
  | .pl d => .ok (.rt false d p.2.2)
  | .fr d => .ok (.rt true d p.2.2)
  | .bor i => match slot p.2.1 i with
    | some (.own d) => .ok (.rt true d p.2.2)
    | some (.pl d) => .ok (.rt false d p.2.2)
    | none => .no) := id rfl
@[simp] theorem x_retn : sRetN ε S = .ok (.rt false .non S) := id rfl
@[simp] theorem x_sif : sIf C M M' ε S = (C ε S >>= fun p => if p.1 then M p.2.1 p.2.2 else M' p.2.1 p.2.2) := id rfl
@[simp] theorem x_set : sSet i a ε S = (a ε S >>= fun p => p.1.fix p.2.1 >>= fun q => .ok (.nx (q.2.set i (some (.pl q.1))) p.2.2)) := id rfl
@[simp] theorem x_own : sOwn i a ε S = (a ε S >>= fun p => match p.1 with
  | .pl d => .ok (.nx (p.2.1.set i (some (.pl d))) p.2.2)
  | .fr d => if i < p.2.1.length then .ok (.nx (p.2.1.set i (some (.own d))) p.2.2) else .no
  | .bor j => match slot p.2.1 j with
    | some (.own d) => if i < p.2.1.length then .ok (.nx ((p.2.1.set j none).set i (some (.own d))) p.2.2) else .no
    | some (.pl d) => .ok (.nx (p.2.1.set i (some (.pl d))) p.2.2)
    | none => .no) := id rfl
@[simp] theorem x_asg : sAsg T a ε S = (a ε S >>= fun p => p.1.fix p.2.1 >>= fun q => T q.1 q.2 >>= fun e => .ok (.nx e p.2.2)) := id rfl
@[simp] theorem x_for {I : IDen} : sFor T I M ε S = (I ε S >>= fun p => forGo T M p.1 p.2.1 p.2.2) := id rfl
@[simp] theorem x_while : sWhile F C M ε S = whileGo C M F.wf ε S := id rfl
@[simp] theorem x_comp {vs : List Nat} {I : IDen} : eComp vs I T C a ε S = (I ε S >>= fun p => compGo vs T C a (wipe p.2.1 vs) p.1 p.2.2 [] >>= fun q => .ok (.fr (.lst q.1), p.2.1, q.2)) := id rfl
@[simp] theorem x_no : sNo ε S = .no := id rfl
@[simp] theorem x_mut {f : List D → List D → Rs (List D × D)} : eMut f a as ε S = (a ε S >>= fun p => getIn p.1 p.2.1 p.2.2 >>= fun _ => as p.2.1 p.2.2 >>= fun q => getIn p.1 q.2.1 q.2.2 >>= fun xs => f xs q.1 >>= fun r => .ok (.pl r.2, (putIn p.1 r.1 q.2.1 q.2.2).1, (putIn p.1 r.1 q.2.1 q.2.2).2)) := id rfl
@[simp] theorem x_put : sPut a b c ε S = (c ε S >>= fun p => p.1.fix p.2.1 >>= fun q => a q.2 p.2.2 >>= fun r => b r.2.1 r.2.2 >>= fun s => s.1.get s.2.1 >>= fun y => match y with
  | .int k => getIn r.1 s.2.1 s.2.2 >>= fun xs => match L2.ixN xs.length k with
    | some j => .ok (.nx (putIn r.1 (xs.set j q.1) s.2.1 s.2.2).1 (putIn r.1 (xs.set j q.1) s.2.1 s.2.2).2)
    | none => .no
  | _ => .no) := id rfl
@[simp] theorem getIn_bor : getIn (.bor i) ε S = (match slot ε i with | some (.own (.lst ds)) => .ok ds | _ => .no) := id rfl
@[simp] theorem getIn_ref : getIn (.pl (.ref j)) ε S = (match S[j]? with | some (.lst ds) => .ok ds | _ => .no) := id rfl
@[simp] theorem putIn_bor {ds : List D} : putIn (.bor i) ds ε S = (ε.set i (some (.own (.lst ds))), S) := id rfl
@[simp] theorem putIn_ref {ds : List D} : putIn (.pl (.ref j)) ds ε S = (ε, S.set j (.lst ds)) := id rfl
@[simp] theorem x_append {xs : List D} (h : xs.length < 16777216) : fAppend xs [d] = .ok (xs ++ [d], .non) := if_pos h
@[simp] theorem x_pop {xs : List D} : fPop xs [] = (match xs[xs.length - 1]? with | some d => .ok (xs.dropLast, d) | none => .no) := id rfl
@[simp] theorem x_par2 {o1 o2 : Bool} : sPar2 o1 i o2 j a b ε S = (a ε S >>= fun p => p.1.low o1 p.2.1 >>= fun t => b t.2 p.2.2 >>= fun q => q.1.low o2 q.2.1 >>= fun u => if i < u.2.length ∧ j < u.2.length then .ok (.nx ((u.2.set i (some t.1)).set j (some u.1)) q.2.2) else .no) := id rfl
@[simp] theorem x_par3 {o1 o2 o3 : Bool} : sPar3 o1 i o2 j o3 k a b c ε S = (a ε S >>= fun p => p.1.low o1 p.2.1 >>= fun t => b t.2 p.2.2 >>= fun q => q.1.low o2 q.2.1 >>= fun u => c u.2 q.2.2 >>= fun r => r.1.low o3 r.2.1 >>= fun w => if i < w.2.length ∧ j < w.2.length ∧ k < w.2.length then .ok (.nx (((w.2.set i (some t.1)).set j (some u.1)).set k (some w.1)) r.2.2) else .no) := id rfl
@[simp] theorem low_pl {o : Bool} : (RV.pl d).low o ε = .ok (.pl d, ε) := id rfl
@[simp] theorem low_fr_t : (RV.fr d).low true ε = .ok (.own d, ε) := id rfl
@[simp] theorem low_fr_f : (RV.fr d).low false ε = .ok (.pl d, ε) := id rfl
@[simp] theorem low_bor {o : Bool} : (RV.bor i).low o ε = (match slot ε i with | some (.own d) => .ok (.pl d, ε.set i (some (.pl d))) | some (.pl d) => .ok (.pl d, ε) | none => .no) := id rfl
/-! what is walked -/
@[simp] theorem x_iseq : iSeq a ε S = (a ε S >>= fun p => p.1.fix p.2.1 >>= fun q => seqItems q.1 >>= fun ds => .ok (ds, q.2, p.2.2)) := id rfl
@[simp] theorem seq_lst {ds : List D} : seqItems (.lst ds) = .ok ds := id rfl
@[simp] theorem seq_tup {ds : List D} : seqItems (.tup ds) = .ok ds := id rfl
@[simp] theorem x_ir1 {as : ADen} : iR1 as ε S = (as ε S >>= fun p => ir1 p.1 >>= fun xs => .ok (xs, p.2.1, p.2.2)) := by
  unfold iR1
  congr 1
  funext p
  obtain ⟨ds, ε1, S1⟩ := p
  dsimp only
  unfold ir1
  split
  · try dsimp only
    by_cases h : -(2 ^ 62) ≤ (‹Int› : Int) ∧ (‹Int› : Int) < 2 ^ 62
    · rw [if_pos h, if_pos h]; rfl
    · rw [if_neg h, if_neg h]; rfl
  · first | rfl | (split <;> first | rfl | simp_all)
@[simp] theorem x_ir2 {as : ADen} : iR2 as ε S = (as ε S >>= fun p => ir2 p.1 >>= fun xs => .ok (xs, p.2.1, p.2.2)) := by
  unfold iR2
  congr 1
  funext p
  obtain ⟨ds, ε1, S1⟩ := p
  dsimp only
  unfold ir2
  split
  · rename_i i j
    try dsimp only
    by_cases h : (-(2 ^ 62) ≤ i ∧ i < 2 ^ 62) ∧ -(2 ^ 62) ≤ j ∧ j < 2 ^ 62
    · rw [if_pos h, if_pos h]; rfl
    · rw [if_neg h, if_neg h]; rfl
  · first | rfl | (split <;> first | rfl | simp_all)
@[simp] theorem x_ir3 {as : ADen} : iR3 as ε S = (as ε S >>= fun p => ir3 p.1 >>= fun xs => .ok (xs, p.2.1, p.2.2)) := by
  unfold iR3
  congr 1
  funext p
  obtain ⟨ds, ε1, S1⟩ := p
  dsimp only
  unfold ir3
  split
  · rename_i i j c
    try dsimp only
    by_cases hc : c = -1
    · rw [if_pos hc, if_pos hc]
      by_cases h : (-(2 ^ 62) ≤ i ∧ i < 2 ^ 62) ∧ -(2 ^ 62) ≤ j ∧ j < 2 ^ 62
      · rw [if_pos h, if_pos h]; rfl
      · rw [if_neg h, if_neg h]; rfl
    · rw [if_neg hc, if_neg hc]
      by_cases h : c ≠ 0 ∧ c.natAbs < 1073741824 ∧ PySem.Builtin.Range.small i j c = true ∧ 0 ≤ PySem.Builtin.Range.rangeSize i j c
      · rw [if_pos h, if_pos h]; rfl
      · rw [if_neg h, if_neg h]; rfl
  · first | rfl | (split <;> first | rfl | simp_all)
@[simp] theorem x_ienum {as : ADen} : iEnum as ε S = (as ε S >>= fun p => match p.1 with
  | [d] => seqItems d >>= fun xs => .ok (enumFrom 0 xs, p.2.1, p.2.2)
  | _ => .no) := id rfl
@[simp] theorem x_izip {as : ADen} : iZip as ε S = (as ε S >>= fun p => match p.1 with
  | [a, b] => seqItems a >>= fun xs => seqItems b >>= fun ys => .ok (zipItems xs ys, p.2.1, p.2.2)
  | _ => .no) := id rfl
@[simp] theorem x_onone : oNone ε S = .ok (none, ε, S) := id rfl
@[simp] theorem x_osome : oSome a ε S = (a ε S >>= fun p => p.1.get p.2.1 >>= fun x => match x with | .int i => .ok (some i, p.2.1, p.2.2) | _ => .no) := id rfl
@[simp] theorem x_sl {lo hi : ODen} : eSl a lo hi ε S = (a ε S >>= fun p => lo p.2.1 p.2.2 >>= fun l => hi l.2.1 l.2.2 >>= fun h => p.1.get h.2.1 >>= fun x => match x with
  | .lst ds => .ok (.fr (.lst (cutL ds l.1 h.1)), h.2.1, h.2.2)
  | .tup ds => .ok (.pl (.tup (cutL ds l.1 h.1)), h.2.1, h.2.2)
  | .str s => if s.length ≤ 16777216 then .ok (.pl (.str (cutL s l.1 h.1)), h.2.1, h.2.2) else .no
  | _ => .no) := id rfl
end
/-! ### operators -/
section
variable {i j : Int} {S : Store} {ds es : List D}
@[simp] theorem y_add : pAdd (.int i) (.int j) S = .ok (.pl (.int (i + j))) := id rfl
@[simp] theorem y_addL (h : ds.length + es.length ≤ 16777216) : pAdd (.lst ds) (.lst es) S = .ok (.fr (.lst (ds ++ es))) := if_pos h
@[simp] theorem y_addT (h : ds.length + es.length ≤ 16777216) : pAdd (.tup ds) (.tup es) S = .ok (.pl (.tup (ds ++ es))) := if_pos h
@[simp] theorem y_sub : pSub (.int i) (.int j) S = .ok (.pl (.int (i - j))) := id rfl
@[simp] theorem y_mul (h : mulOk i j = true) : pMul (.int i) (.int j) S = .ok (.pl (.int (i * j))) := if_pos h
@[simp] theorem y_neg : pNeg (.int i) S = .ok (.pl (.int (-i))) := id rfl
@[simp] theorem y_cmp {f : Int → Int → Bool} : pCmp f (.int i) (.int j) S = .ok (.pl (.bl (f i j))) := id rfl
@[simp] theorem y_lenT : pLen (.tup ds) S = .ok (.pl (.int ds.length)) := id rfl
@[simp] theorem y_lenL : pLen (.lst ds) S = .ok (.pl (.int ds.length)) := id rfl
@[simp] theorem y_abs : pAbs (.int i) S = .ok (.pl (.int (if i < 0 then -i else i))) := id rfl
@[simp] theorem y_int : pInt (.int i) S = .ok (.pl (.int i)) := id rfl
@[simp] theorem y_max2 : pMax2 (.int i) (.int j) S = .ok (.pl (.int (if j > i then j else i))) := id rfl
@[simp] theorem y_min2 : pMin2 (.int i) (.int j) S = .ok (.pl (.int (if j < i then j else i))) := id rfl
@[simp] theorem y_idxL : pIdx (.lst ds) (.int i) S = (match L2.atI ds i with | some d => .ok (.pl d) | none => .no) := id rfl
@[simp] theorem y_idxT : pIdx (.tup ds) (.int i) S = (match L2.atI ds i with | some d => .ok (.pl d) | none => .no) := id rfl
@[simp] theorem y_idxR {k : Nat} : pIdx (.ref k) (.int i) S = (match S[k]? with | some (.lst ds) => (match L2.atI ds i with | some d => .ok (.pl d) | none => .no) | _ => .no) := id rfl
theorem mulOk_l (h : -(2 ^ 64) < i ∧ i < 2 ^ 64) : mulOk i j = true := by unfold mulOk; simp only [h, and_self, decide_true, Bool.true_or]
theorem mulOk_r (h : -(2 ^ 64) < j ∧ j < 2 ^ 64) : mulOk i j = true := by unfold mulOk; simp only [h, and_self, decide_true, Bool.or_true, Bool.true_or]
end
/-! ### loops -/
section
variable {T : TDen} {M : SDen} {C : CDen} {a : Den} {ε0 : Env} {vs : List Nat}
@[simp] theorem forGo_nil {ε : Env} {S : Store} : forGo T M [] ε S = .ok (.nx ε S) := id rfl
theorem forGo_cons {d : D} {ds : List D} {ε : Env} {S : Store} : forGo T M (d :: ds) ε S = (T d ε >>= fun e => M e S >>= fun o => match o with
  | .nx ε2 S2 => forGo T M ds ε2 S2
  | .ct ε2 S2 => forGo T M ds ε2 S2
  | .bk ε2 S2 => .ok (.nx ε2 S2)
  | .rt f d S2 => .ok (.rt f d S2)) := rfl
theorem for_inv {P : Nat → Env → Store → Prop} : ∀ (xs : List D) {ε : Env} {S : Store}, P 0 ε S →
    (∀ (i : Nat) (d : D) ε S, xs[i]? = some d → P i ε S → ∃ e, T d ε = .ok e ∧ ∃ ε2 S2, (M e S = .ok (.nx ε2 S2) ∨ M e S = .ok (.ct ε2 S2)) ∧ P (i + 1) ε2 S2) →
    ∃ ε' S', forGo T M xs ε S = .ok (.nx ε' S') ∧ P xs.length ε' S'
  | [], ε, S, h0, _ => ⟨ε, S, rfl, h0⟩
  | d :: r, ε, S, h0, hs => by
    obtain ⟨e, e1, ε2, S2, e2, p⟩ := hs 0 d ε S rfl h0
    obtain ⟨ε', S', e3, q⟩ := for_inv (P := fun i => P (i + 1)) r p fun i d ε S h p => hs (i + 1) d ε S (by simpa using h) p
    refine ⟨ε', S', ?_, q⟩
    rw [forGo_cons, e1, ok_bind]
    rcases e2 with e2 | e2 <;> rw [e2, ok_bind] <;> exact e3
/-- a comprehension, item by item, over a store that may change -/
theorem comp_st (τ : Nat → Store) : ∀ (xs ys acc : List D) (k : Nat), ys.length = xs.length → acc.length + xs.length ≤ 16777216 →
    (∀ (i : Nat) (x y : D), xs[i]? = some x → ys[i]? = some y → ∃ ε1, T x ε0 = .ok ε1 ∧ C ε1 (τ (k + i)) = .ok (true, ε1, τ (k + i)) ∧ wipe ε1 vs = ε0 ∧ (a ε1 (τ (k + i)) = .ok (.pl y, ε1, τ (k + i + 1)) ∨ a ε1 (τ (k + i)) = .ok (.fr y, ε1, τ (k + i + 1)))) →
    compGo vs T C a ε0 xs (τ k) acc = .ok (acc ++ ys, τ (k + xs.length))
  | [], [], acc, k, _, _, _ => by simp [compGo]
  | [], _ :: _, _, _, h, _, _ => by cases h
  | _ :: _, [], _, _, h, _, _ => by cases h
  | x :: xs, y :: ys, acc, k, hl, hz, hs => by
    obtain ⟨ε1, e1, e2, e3, e4⟩ := hs 0 x y rfl rfl
    have ih := comp_st τ xs ys (acc ++ [y]) (k + 1) (by simpa using hl) (by simp at hz ⊢; omega) fun i x y h1 h2 => by
      have q := hs (i + 1) x y (by simpa using h1) (by simpa using h2)
      have e : k + (i + 1) = k + 1 + i := by omega
      rw [e] at q
      exact q
    have hz' : acc.length < 16777216 := by simp at hz; omega
    have e5 : k + (x :: xs).length = k + 1 + xs.length := by simp; omega
    rw [e5]
    unfold compGo
    rw [e1]
    simp only [ok_bind, Nat.add_zero] at e2 e4 ⊢
    rw [e2]
    simp only [ok_bind, e3, and_self, if_true]
    rcases e4 with e4 | e4
    · rw [e4]
      simp only [ok_bind, hz', and_self, if_true]
      rw [ih]; simp
    · rw [e4]
      simp only [ok_bind, hz', and_self, if_true]
      rw [ih]; simp
theorem comp_at {S : Store} (ys : List D) {xs : List D} (hl : ys.length = xs.length) (hz : xs.length ≤ 16777216)
    (hs : ∀ (i : Nat) (x y : D), xs[i]? = some x → ys[i]? = some y → ∃ ε1, T x ε0 = .ok ε1 ∧ C ε1 S = .ok (true, ε1, S) ∧ wipe ε1 vs = ε0 ∧ (a ε1 S = .ok (.pl y, ε1, S) ∨ a ε1 S = .ok (.fr y, ε1, S))) :
    compGo vs T C a ε0 xs S [] = .ok (ys, S) := by
  have q := comp_st (T := T) (C := C) (a := a) (ε0 := ε0) (vs := vs) (fun _ => S) xs ys [] 0 hl (by simpa using hz) hs
  simpa using q
theorem whileGo_s {n : Nat} {ε : Env} {S : Store} : whileGo C M (n + 1) ε S = (C ε S >>= fun p => if p.1 then M p.2.1 p.2.2 >>= fun o => match o with
  | .nx ε2 S2 => whileGo C M n ε2 S2
  | .ct ε2 S2 => whileGo C M n ε2 S2
  | .bk ε2 S2 => .ok (.nx ε2 S2)
  | .rt f d S2 => .ok (.rt f d S2) else .ok (.nx p.2.1 p.2.2)) := rfl
end
/-! ### lists of ints -/
section
@[simp] theorem atI_ofNat {α : Type} (xs : List α) (n : Nat) : L2.atI xs (n : Int) = xs[n]? := by
  unfold L2.atI L2.ixN
  rw [if_pos (by omega)]
  by_cases h : n < xs.length
  · rw [if_pos (by omega)]; simp
  · rw [if_neg (by omega)]
    simp [List.getElem?_eq_none (Nat.le_of_not_lt h)]
theorem ixN_ofNat {n k : Nat} (h : k < n) : L2.ixN n (k : Int) = some k := by
  unfold L2.ixN
  rw [if_pos (by omega), if_pos (by omega)]
  simp
@[simp] theorem atI_zero {α : Type} (xs : List α) : L2.atI xs 0 = xs[0]? := atI_ofNat xs 0
@[simp] theorem atI_one {α : Type} (xs : List α) : L2.atI xs 1 = xs[1]? := atI_ofNat xs 1
theorem atI_last {α : Type} (xs : List α) : L2.atI xs (-1) = xs[xs.length - 1]? := by
  unfold L2.atI L2.ixN
  rw [if_neg (by omega)]
  cases xs with
  | nil => simp
  | cons x r =>
    rw [if_pos (by simp; omega)]
    have e : (-1 + ((x :: r).length : Int)).toNat = (x :: r).length - 1 := by simp; omega
    show (some (-1 + ((x :: r).length : Int)).toNat).bind (fun j => (x :: r)[j]?) = _
    rw [e]
    rfl
theorem intsFrom_length (lo : Int) (n : Nat) : (intsFrom lo n).length = n := by simp [intsFrom]
theorem intsFrom_get {lo : Int} {n i : Nat} {d : D} (h : (intsFrom lo n)[i]? = some d) : i < n ∧ d = .int (lo + i) := by
  unfold intsFrom at h
  rw [List.getElem?_map] at h
  by_cases hi : i < n
  · rw [List.getElem?_range hi] at h
    simp at h
    exact ⟨hi, h.symm⟩
  · rw [List.getElem?_eq_none (by simp; omega)] at h
    simp at h
end
section
variable {tab : Nat → Option FnD} {wf n f np nn : Nat} {b : CallI → SDen} {ds : List D} {S S' : Store} {r : Bool} {d : D}
/-- a call by its body's run -/
theorem call_by (h : tab f = some ⟨np, nn, b⟩) (hl : ds.length = np) : callF tab wf (n + 1) f ds S = (b ⟨callF tab wf n, wf⟩ (ds.map (fun d => some (.pl d)) ++ List.replicate (nn - ds.length) none) S >>= fun o => match o with
  | .nx _ S1 => .ok (false, .non, S1)
  | .rt f d S1 => .ok (f, d, S1)
  | _ => .no) := by
  show (match tab f with | some g => if ds.length = g.np then runBody g.nn (g.body ⟨callF tab wf n, wf⟩) ds S else .no | none => .no) = _
  rw [h]
  simp only [hl, if_true]
  rw [← hl]
  rfl
end
end Mp

/-! Data: equality, types, tests. -/
namespace Mp
open PySem

def intsD (ns : List Int) : List D := ns.map .int
@[simp] theorem intsD_len (ns : List Int) : (intsD ns).length = ns.length := by simp [intsD]
@[simp] theorem intsD_get (ns : List Int) (i : Nat) : (intsD ns)[i]? = ns[i]?.map .int := by simp [intsD]
theorem intsD_app (a b : List Int) : intsD a ++ intsD b = intsD (a ++ b) := by simp [intsD]
theorem intsD_set (a : List Int) (i : Nat) (v : Int) : (intsD a).set i (.int v) = intsD (a.set i v) := by simp [intsD]
theorem intsOf_D (ns : List Int) : intsOf (intsD ns) = some ns := intsOf_map ns
section
variable {S : Store} {ns : List Int} {i j : Int} {ds : List D}
@[simp] theorem y_sorted : pSorted (.lst (intsD ns)) S = .ok (.fr (.lst (intsD (sortI ns)))) := by
  show (match intsOf (intsD ns) with | some ns => Rs.ok (RV.fr (.lst ((sortI ns).map .int))) | none => .no) = _
  rw [intsOf_D]; rfl
@[simp] theorem y_sum : pSum (.lst (intsD ns)) S = .ok (.pl (.int ns.sum)) := by
  show (match intsOf (intsD ns) with | some ns => Rs.ok (RV.pl (.int ns.sum)) | none => .no) = _
  rw [intsOf_D]
theorem y_all {bs : List Bool} : pAll (.lst (bs.map .bl)) S = .ok (.pl (.bl (bs.all id))) := by
  show (match blsOf (bs.map .bl) with | some ns => Rs.ok (RV.pl (.bl (ns.all id))) | none => .no) = _
  rw [blsOf_map]
@[simp] theorem y_tupL : pTuple (.lst ds) S = .ok (.pl (.tup ds)) := by unfold pTuple; rfl
@[simp] theorem y_tupT : pTuple (.tup ds) S = .ok (.pl (.tup ds)) := by unfold pTuple; rfl
@[simp] theorem y_listL : pList (.lst ds) S = .ok (.fr (.lst ds)) := by unfold pList; rfl
@[simp] theorem y_listT : pList (.tup ds) S = .ok (.fr (.lst ds)) := by unfold pList; rfl
@[simp] theorem y_listS : pList (.scr ns) S = .ok (.fr (.lst (ns.map .int))) := by unfold pList; rfl
theorem y_mod (h : 0 < j) : pMod (.int i) (.int j) S = .ok (.pl (.int (i % j))) := by unfold pMod; simp only [h, if_true]
theorem y_fdiv (h : 0 < j) (h2 : j.natAbs.log2 < 9000) : pFdiv (.int i) (.int j) S = .ok (.pl (.int (i / j))) := by unfold pFdiv; simp only [h, h2, and_self, if_true]
theorem y_pow (h : 0 ≤ j) (h1 : j ≤ 1000000) (h2 : i.natAbs < 2 ^ 64) : pPow (.int i) (.int j) S = .ok (.pl (.int (i ^ j.toNat))) := by unfold pPow; exact if_pos ⟨h, h1, h2⟩
end
theorem log2_lt (j : Int) (k : Nat) (h : j.natAbs < 2 ^ k) (h2 : k ≤ 9000) (h0 : 0 < k) : j.natAbs.log2 < 9000 := Nat.lt_of_lt_of_le (by
  by_cases z : j.natAbs = 0
  · rw [z]; simpa using h0
  · exact (Nat.log2_lt z).mpr h) h2
/-! ### isinstance -/
section
variable {S : Store} {i : Int} {b : Bool} {s : List Nat} {ds : List D}
@[simp] theorem t_int_int : pIsT "int" (.int i) S = .ok (.pl (.bl true)) := by simp [pIsT, isTy, tyOf]
@[simp] theorem t_int_bl : pIsT "int" (.bl b) S = .ok (.pl (.bl true)) := by simp [pIsT, isTy, tyOf]
@[simp] theorem t_int_str : pIsT "int" (.str s) S = .ok (.pl (.bl false)) := by simp [pIsT, isTy, tyOf]
@[simp] theorem t_int_tup : pIsT "int" (.tup ds) S = .ok (.pl (.bl false)) := by simp [pIsT, isTy, tyOf]
@[simp] theorem t_int_lst : pIsT "int" (.lst ds) S = .ok (.pl (.bl false)) := by simp [pIsT, isTy, tyOf]
@[simp] theorem t_int_non : pIsT "int" .non S = .ok (.pl (.bl false)) := by simp [pIsT, isTy, tyOf]
@[simp] theorem t_bl_int : pIsT "bool" (.int i) S = .ok (.pl (.bl false)) := by simp [pIsT, isTy, tyOf]
@[simp] theorem t_bl_bl : pIsT "bool" (.bl b) S = .ok (.pl (.bl true)) := by simp [pIsT, isTy, tyOf]
@[simp] theorem t_bl_str : pIsT "bool" (.str s) S = .ok (.pl (.bl false)) := by simp [pIsT, isTy, tyOf]
@[simp] theorem t_bl_tup : pIsT "bool" (.tup ds) S = .ok (.pl (.bl false)) := by simp [pIsT, isTy, tyOf]
@[simp] theorem t_bl_lst : pIsT "bool" (.lst ds) S = .ok (.pl (.bl false)) := by simp [pIsT, isTy, tyOf]
@[simp] theorem t_bl_non : pIsT "bool" .non S = .ok (.pl (.bl false)) := by simp [pIsT, isTy, tyOf]
@[simp] theorem t_str_int : pIsT "str" (.int i) S = .ok (.pl (.bl false)) := by simp [pIsT, isTy, tyOf]
@[simp] theorem t_str_bl : pIsT "str" (.bl b) S = .ok (.pl (.bl false)) := by simp [pIsT, isTy, tyOf]
@[simp] theorem t_str_str : pIsT "str" (.str s) S = .ok (.pl (.bl true)) := by simp [pIsT, isTy, tyOf]
@[simp] theorem t_str_tup : pIsT "str" (.tup ds) S = .ok (.pl (.bl false)) := by simp [pIsT, isTy, tyOf]
@[simp] theorem t_str_lst : pIsT "str" (.lst ds) S = .ok (.pl (.bl false)) := by simp [pIsT, isTy, tyOf]
@[simp] theorem t_str_non : pIsT "str" .non S = .ok (.pl (.bl false)) := by simp [pIsT, isTy, tyOf]
@[simp] theorem t_tup_int : pIsT "tuple" (.int i) S = .ok (.pl (.bl false)) := by simp [pIsT, isTy, tyOf]
@[simp] theorem t_tup_bl : pIsT "tuple" (.bl b) S = .ok (.pl (.bl false)) := by simp [pIsT, isTy, tyOf]
@[simp] theorem t_tup_str : pIsT "tuple" (.str s) S = .ok (.pl (.bl false)) := by simp [pIsT, isTy, tyOf]
@[simp] theorem t_tup_tup : pIsT "tuple" (.tup ds) S = .ok (.pl (.bl true)) := by simp [pIsT, isTy, tyOf]
@[simp] theorem t_tup_lst : pIsT "tuple" (.lst ds) S = .ok (.pl (.bl false)) := by simp [pIsT, isTy, tyOf]
@[simp] theorem t_tup_non : pIsT "tuple" .non S = .ok (.pl (.bl false)) := by simp [pIsT, isTy, tyOf]
@[simp] theorem t_lst_int : pIsT "list" (.int i) S = .ok (.pl (.bl false)) := by simp [pIsT, isTy, tyOf]
@[simp] theorem t_lst_bl : pIsT "list" (.bl b) S = .ok (.pl (.bl false)) := by simp [pIsT, isTy, tyOf]
@[simp] theorem t_lst_str : pIsT "list" (.str s) S = .ok (.pl (.bl false)) := by simp [pIsT, isTy, tyOf]
@[simp] theorem t_lst_tup : pIsT "list" (.tup ds) S = .ok (.pl (.bl false)) := by simp [pIsT, isTy, tyOf]
@[simp] theorem t_lst_lst : pIsT "list" (.lst ds) S = .ok (.pl (.bl true)) := by simp [pIsT, isTy, tyOf]
@[simp] theorem t_lst_non : pIsT "list" .non S = .ok (.pl (.bl false)) := by simp [pIsT, isTy, tyOf]
@[simp] theorem y_isnon {d : D} : pIs d .non S = .ok (.pl (.bl d.isNon)) := id rfl
@[simp] theorem y_isntnon {d : D} : pIsNot d .non S = .ok (.pl (.bl (!d.isNon))) := id rfl
end
@[simp] theorem non_int {i : Int} : (D.int i).isNon = false := id rfl
@[simp] theorem non_bl {i : Bool} : (D.bl i).isNon = false := id rfl
@[simp] theorem non_str {i : List Nat} : (D.str i).isNon = false := id rfl
@[simp] theorem non_tup {i : List D} : (D.tup i).isNon = false := id rfl
@[simp] theorem non_lst {i : List D} : (D.lst i).isNon = false := id rfl
@[simp] theorem non_non : D.isNon .non = true := id rfl
/-! ### equality -/
theorem eqv_int (i j : Int) : eqv (.int i) (.int j) = decide (i = j) := by
  simp only [eqv, D.py, PyData.eqv]
  rfl
@[simp] theorem y_eqI {i j : Int} {S : Store} : pEq (.int i) (.int j) S = .ok (.pl (.bl (decide (i = j)))) := by
  unfold pEq; rw [eqv_int]; simp [D.dat]
@[simp] theorem y_neI {i j : Int} {S : Store} : pNe (.int i) (.int j) S = .ok (.pl (.bl (!decide (i = j)))) := by
  unfold pNe; rw [eqv_int]; simp [D.dat]
mutual
theorem eqv_refl' : ∀ (n : Nat) (d : D), d.dat n = true → PyData.eqv d.py d.py = true
  | _, .non, _ => by simp [D.py, PyData.eqv]
  | _, .bl _, _ => by simp [D.py, PyData.eqv]
  | _, .int _, _ => by simp [D.py, PyData.eqv]
  | _, .str _, _ => by simp [D.py, PyData.eqv]
  | n, .tup ds, h => by
    cases n with
    | zero => simp [D.dat] at h
    | succ m => simp [D.dat] at h; simp [D.py, PyData.eqv, eqvs_refl' m ds h]
  | n, .lst ds, h => by
    cases n with
    | zero => simp [D.dat] at h
    | succ m => simp [D.dat] at h; simp [D.py, PyData.eqv, eqvs_refl' m ds h]
  | _, .dct _ _, h => by simp [D.dat] at h
  | _, .ref _, h => by simp [D.dat] at h
  | _, .scr _, h => by simp [D.dat] at h
theorem eqvs_refl' : ∀ (n : Nat) (ds : List D), D.dats n ds = true → PyData.eqvAll (D.pys ds) (D.pys ds) = true
  | _, [], _ => by simp [D.pys, PyData.eqvAll]
  | n, d :: ds, h => by
    simp [D.dats] at h
    simp [D.pys, PyData.eqvAll, eqv_refl' n d h.1, eqvs_refl' n ds h.2]
end
theorem eqv_refl {d : D} (h : d.dat 64 = true) : eqv d d = true := eqv_refl' 64 d h
theorem y_eq_refl {d : D} {S : Store} (h : d.dat 64 = true) : pEq d d S = .ok (.pl (.bl true)) := by
  unfold pEq; rw [if_pos ⟨h, h⟩, eqv_refl h]
theorem y_ne_refl {d : D} {S : Store} (h : d.dat 64 = true) : pNe d d S = .ok (.pl (.bl false)) := by
  unfold pNe; rw [if_pos ⟨h, h⟩, eqv_refl h]; rfl
theorem dats_ints (n : Nat) : ∀ ns : List Int, D.dats n (intsD ns) = true
  | [] => rfl
  | i :: r => by
    have := dats_ints n r
    unfold intsD at this ⊢
    simp [D.dats, D.dat, this]
theorem dat_lints {n : Nat} {ns : List Int} : D.dat (n + 1) (.lst (intsD ns)) = true := by simp [D.dat, dats_ints]
theorem dat_tints {n : Nat} {ns : List Int} : D.dat (n + 1) (.tup (intsD ns)) = true := by simp [D.dat, dats_ints]
mutual
theorem dat_mono : ∀ (n : Nat) (d : D), d.dat n = true → d.dat (n + 1) = true
  | _, .non, _ => by simp [D.dat]
  | _, .bl _, _ => by simp [D.dat]
  | _, .int _, _ => by simp [D.dat]
  | _, .str _, h => by simpa [D.dat] using h
  | n, .tup ds, h => by
    cases n with
    | zero => simp [D.dat] at h
    | succ m => simp [D.dat] at h ⊢; exact dats_mono m ds h
  | n, .lst ds, h => by
    cases n with
    | zero => simp [D.dat] at h
    | succ m => simp [D.dat] at h ⊢; exact dats_mono m ds h
  | _, .dct _ _, h => by simp [D.dat] at h
  | _, .ref _, h => by simp [D.dat] at h
  | _, .scr _, h => by simp [D.dat] at h
theorem dats_mono : ∀ (n : Nat) (ds : List D), D.dats n ds = true → D.dats (n + 1) ds = true
  | _, [], _ => by simp [D.dats]
  | n, d :: ds, h => by
    simp [D.dats] at h ⊢
    exact ⟨dat_mono n d h.1, dats_mono n ds h.2⟩
end
theorem dat_le {n m : Nat} {d : D} (h : d.dat n = true) (l : n ≤ m) : d.dat m = true := by
  induction l with
  | refl => exact h
  | step _ ih => exact dat_mono _ _ ih
theorem dats_all : ∀ (n : Nat) (ds : List D), D.dats n ds = ds.all fun d => d.dat n
  | _, [] => rfl
  | n, d :: ds => by simp [D.dats, dats_all n ds]
end Mp

/-! The defs that every law brings along. -/
namespace Mp
open PySem

def cupB (c1 c2 c3 c4 c5 : Int) (F : CallI) : SDen := sSeq (sSet 1 (eUn pAbs (eBin pIdx (eBin pAdd (eUn pList (eVar 0)) (eLst (aCons (eC (.int 0)) (aNil)))) (eC (.int 0))))) (sRet (eNew (eLst (aCons (eIf (cVal (eBin (pGe) (eVar 1) (eBin pPow (eC (.int 10)) (eC (.int 18))))) (eBin pFdiv (eVar 1) (eC (.int c1))) (eC (.int 0))) (aCons (eBin pAdd (eBin pMod (eUn pInt (eBin pAdd (eBin pMul (eVar 1) (eC (.int c2))) (eC (.int c3)))) (eC (.int c4))) (eC (.int c5))) (aNil))))))
def rollB (c1 c2 c3 c4 c5 c6 : Int) (F : CallI) : SDen := sSeq (sIf (cVal (eBin (pGt) (eBin pIdx (eVar 0) (eC (.int 0))) (eC (.int 0)))) (sSeq (sSet 2 (eBin pMod (eUn pInt (eBin pIdx (eVar 0) (eC (.int 0)))) (eVar 1))) (sSeq (sPut (eVar 0) (eC (.int 0)) (eBin pFdiv (eBin pIdx (eVar 0) (eC (.int 0))) (eVar 1))) (sRet (eVar 2)))) (sNil)) (sSeq (sPut (eVar 0) (eC (.int 1)) (eBin pMod (eUn pInt (eBin pAdd (eBin pMul (eBin pIdx (eVar 0) (eC (.int 1))) (eC (.int c1))) (eC (.int c2)))) (eC (.int c3)))) (sSeq (sSet 3 (eBin pMod (eUn pInt (eBin pMul (eBin pIdx (eVar 0) (eC (.int 1))) (eBin pAdd (eBin pIdx (eVar 0) (eC (.int 1))) (eC (.int c4))))) (eC (.int c5)))) (sRet (eBin pMod (eUn pInt (eBin pFdiv (eVar 3) (eC (.int c6)))) (eVar 1)))))
def someB (kr : Nat) (F : CallI) : SDen := sRet (eBin pIdx (eVar 1) (eCall F kr (aCons (eVar 0) (aCons (eUn pLen (eVar 1)) (aNil)))))
def sortB (F : CallI) : SDen := sSeq (sIf (cOr (cVal (eBin (pIs) (eVar 0) (eC .non))) (cVal (eUn (pIsT "bool") (eVar 0)))) (sRet (eIf (cVal (eBin (pIs) (eVar 0) (eC .non))) (eC (.int 0)) (eC (.int 1)))) (sNil)) (sSeq (sIf (cOr (cVal (eUn (pIsT "int") (eVar 0))) (cVal (eUn (pIsT "str") (eVar 0)))) (sRet (eIf (cVal (eUn (pIsT "int") (eVar 0))) (eC (.int 2)) (eC (.int 3)))) (sNil)) (sRet (eIf (cVal (eUn (pIsT "tuple") (eVar 0))) (eC (.int 4)) (eIf (cVal (eUn (pIsT "list") (eVar 0))) (eC (.int 5)) (eC (.int 6))))))
def likeB (ks kl : Nat) (F : CallI) : SDen := sSeq (sSet 2 (eCall F ks (aCons (eVar 1) (aNil)))) (sSeq (sIf (cOr (cVal (eBin (pNe) (eCall F ks (aCons (eVar 0) (aNil))) (eVar 2))) (cVal (eBin (pEq) (eVar 2) (eC (.int 6))))) (sRet (eC (.bl false))) (sNil)) (sSeq (sIf (cVal (eBin (pIn false) (eVar 2) (eTup (aCons (eC (.int 4)) (aCons (eC (.int 5)) (aNil)))))) (sRet (eAnd (eBin (pEq) (eUn pLen (eVar 0)) (eUn pLen (eVar 1))) (eBin (pEq) (eComp [3, 4] (iZip (aCons (eVar 0) (aCons (eVar 1) (aNil)))) (tTup 2 (tsCons (tName 3) (tsCons (tName 4) (tsNil)))) (cNot (cVal (eCall F kl (aCons (eVar 3) (aCons (eVar 4) (aNil)))))) (eC (.int 1))) (eLst (aNil))))) (sNil)) (sRet (eBin (pEq) (eVar 0) (eVar 1)))))

section
variable {tab : Nat → Option FnD} {wf n : Nat} {S : Store}
/-! ### the kind of a value -/
def sortD : D → Int
  | .non => 0
  | .bl _ => 1
  | .int _ => 2
  | .str _ => 3
  | .tup _ => 4
  | .lst _ => 5
  | _ => 6
theorem sort_ok {ks : Nat} (h : tab ks = some ⟨1, 1, sortB⟩) {m : Nat} {d : D} (hd : d.dat m = true) : callF tab wf (n + 1) ks [d] S = .ok (false, .int (sortD d), S) := by
  rw [call_by h rfl]
  cases d with
  | dct _ _ => simp [D.dat] at hd
  | ref _ => simp [D.dat] at hd
  | scr _ => simp [D.dat] at hd
  | _ => simp [sortB, sortD]
theorem in45 {i : Int} : pIn false (.int i) (.tup [.int 4, .int 5]) S = .ok (.pl (.bl (decide (i = 4) || decide (i = 5)))) := by
  unfold pIn
  simp only [D.dat, D.dats, Bool.and_self, and_self, if_true, List.any_cons, List.any_nil, eqv_int, Bool.or_false]
  simp [eq_comm]
theorem comp_none {T : TDen} {C : CDen} {a : Den} {ε0 : Env} {vs : List Nat} : ∀ (xs acc : List D), (∀ x ∈ xs, ∃ ε1, T x ε0 = .ok ε1 ∧ C ε1 S = .ok (false, ε1, S) ∧ wipe ε1 vs = ε0) → compGo vs T C a ε0 xs S acc = .ok (acc, S)
  | [], acc, _ => rfl
  | x :: xs, acc, h => by
    obtain ⟨ε1, e1, e2, e3⟩ := h x (by simp)
    unfold compGo
    rw [e1]
    simp only [ok_bind]
    rw [e2]
    simp only [ok_bind, e3, and_self, if_true]
    exact comp_none xs acc fun y hy => h y (by simp [hy])
theorem zip_self : ∀ (ds : List D) (x : D), x ∈ zipItems ds ds → ∃ d ∈ ds, x = .tup [d, d]
  | [], x, h => by simp [zipItems] at h
  | d :: ds, x, h => by
    simp only [zipItems, List.zipWith_cons_cons, List.mem_cons] at h
    rcases h with h | h
    · exact ⟨d, by simp, h⟩
    · obtain ⟨e, he, q⟩ := zip_self ds x h
      exact ⟨e, by simp [he], q⟩
theorem like_ok {ks kl : Nat} (hs : tab ks = some ⟨1, 1, sortB⟩) (hl : tab kl = some ⟨2, 5, likeB ks kl⟩) : ∀ (k n : Nat) (d : D), d.dat k = true → k ≤ 60 → callF tab wf (n + k + 2) kl [d, d] S = .ok (false, .bl true, S)
  | k, n, d, hd, hk => by
    have key : ∀ (m : Nat) (ds : List D), m + 1 = k → D.dats m ds = true → compGo [3, 4] (tTup 2 (tsCons (tName 3) (tsCons (tName 4) tsNil))) (cNot (cVal (eCall ⟨callF tab wf (n + k + 1), wf⟩ kl (aCons (eVar 3) (aCons (eVar 4) aNil))))) (eC (.int 1)) [some (.pl d), some (.pl d), some (.pl (.int (sortD d))), none, none] (zipItems ds ds) S [] = .ok ([], S) := by
      intro m ds hm hds
      refine comp_none _ _ fun x hx => ?_
      obtain ⟨e, he, rfl⟩ := zip_self ds x hx
      have hde : e.dat m = true := by
        rw [dats_all, List.all_eq_true] at hds
        exact hds e he
      have ih := like_ok hs hl m n e hde (by omega)
      have e1 : n + m + 2 = n + k + 1 := by omega
      rw [e1] at ih
      refine ⟨[some (.pl d), some (.pl d), some (.pl (.int (sortD d))), some (.pl e), some (.pl e)], by simp, by simp [ih], by simp [wipe]⟩
    have so : callF tab wf (n + k + 1) ks [d] S = .ok (false, .int (sortD d), S) := sort_ok hs hd
    have hnil : pEq (.lst []) (.lst []) S = .ok (.pl (.bl true)) := y_eq_refl rfl
    rw [show n + k + 2 = (n + k + 1) + 1 from rfl, call_by hl rfl]
    cases d with
    | dct _ _ => simp [D.dat] at hd
    | ref _ => simp [D.dat] at hd
    | scr _ => simp [D.dat] at hd
    | tup ds =>
      cases k with
      | zero => simp [D.dat] at hd
      | succ m =>
        have kk := key m ds rfl (by simpa [D.dat] using hd)
        simp only [sortD] at so kk
        simp [likeB, so, sortD, in45, wipe, kk, hnil]
    | lst ds =>
      cases k with
      | zero => simp [D.dat] at hd
      | succ m =>
        have kk := key m ds rfl (by simpa [D.dat] using hd)
        simp only [sortD] at so kk
        simp [likeB, so, sortD, in45, wipe, kk, hnil]
    | non => simp only [sortD] at so; simp [likeB, so, sortD, in45, y_eq_refl (d := .non) rfl]
    | bl b => simp only [sortD] at so; simp [likeB, so, sortD, in45, y_eq_refl (d := .bl b) rfl]
    | int b => simp only [sortD] at so; simp [likeB, so, sortD, in45]
    | str b => simp only [sortD] at so; simp [likeB, so, sortD, in45, y_eq_refl (d := .str b) (dat_le hd (by omega))]
  termination_by k => k
  decreasing_by omega
/-! ### the cup -/
abbrev cupO (a b : Int) : Obj := .lst [.int a, .int b]
theorem roll_ok {kr j : Nat} {c1 c2 c3 c4 c5 c6 : Int} (h : tab kr = some ⟨2, 4, rollB c1 c2 c3 c4 c5 c6⟩) (h1 : 0 ≤ c1 ∧ c1 < 2 ^ 62) (h3 : 0 < c3 ∧ c3 < 2 ^ 62) (h4 : 0 ≤ c4 ∧ c4 < 2 ^ 62) (h5 : 0 < c5 ∧ c5 < 2 ^ 62) (h6 : 0 < c6 ∧ c6 < 2 ^ 62)
    {m a b : Int} (hm : 0 < m ∧ m < 2 ^ 62) (hS : S[j]? = some (cupO a b)) : ∃ r a' b', callF tab wf (n + 1) kr [.ref j, .int m] S = .ok (false, .int r, S.set j (cupO a' b')) ∧ 0 ≤ r ∧ r < m := by
  have lg : ∀ c : Int, 0 < c ∧ c < 2 ^ 62 → c.natAbs.log2 < 9000 := fun c hc => log2_lt c 62 (by omega) (by omega) (by omega)
  have hj : j < S.length := (List.getElem?_eq_some_iff.mp hS).1
  rw [call_by h rfl]
  by_cases ha : 0 < a
  · refine ⟨a % m, a / m, b, ?_, Int.emod_nonneg _ (by omega), Int.emod_lt_of_pos _ hm.1⟩
    have i0 : L2.ixN 2 0 = some 0 := rfl
    simp [rollB, hS, ha, y_mod hm.1, y_fdiv hm.1 (lg m hm), i0]
  · generalize hb' : (b * c1 + c2) % c3 = b'
    have r0 : 0 ≤ b' := by rw [← hb']; exact Int.emod_nonneg _ (by omega)
    have r1 : b' < c3 := by rw [← hb']; exact Int.emod_lt_of_pos _ h3.1
    have i1 : L2.ixN 2 1 = some 1 := rfl
    have g1 : (S.set j (.lst [.int a, .int b']))[j]? = some (.lst [.int a, .int b']) := by rw [List.getElem?_set_self hj]
    have m1 : mulOk b c1 = true := mulOk_r (by omega)
    have m2 : mulOk b' (b' + c4) = true := mulOk_l (by omega)
    refine ⟨(b' * (b' + c4) % c5 / c6) % m, a, b', ?_, Int.emod_nonneg _ (by omega), Int.emod_lt_of_pos _ hm.1⟩
    simp [rollB, hS, ha, y_mod hm.1, y_mod h3.1, y_mod h5.1, y_fdiv h6.1 (lg c6 h6), i1, m1, hb', g1, m2]
theorem cup_ok {kc : Nat} {c1 c2 c3 c4 c5 : Int} (h : tab kc = some ⟨1, 2, cupB c1 c2 c3 c4 c5⟩) (h1 : 0 < c1 ∧ c1 < 2 ^ 62) (h2 : 0 ≤ c2 ∧ c2 < 2 ^ 62) (h4 : 0 < c4) {ns : List Int} (hn : ns.length ≤ 63) :
    ∃ a b, callF tab wf (n + 1) kc [.scr ns] S = .ok (false, .ref S.length, S ++ [cupO a b]) := by
  rw [call_by h rfl]
  have hp : pPow (.int 10) (.int 18) S = .ok (.pl (.int (10 ^ 18))) := y_pow (by omega) (by omega) (by decide)
  have lg : c1.natAbs.log2 < 9000 := log2_lt c1 62 (by omega) (by omega) (by omega)
  obtain ⟨x, r, hx⟩ : ∃ x r, intsD ns ++ [D.int 0] = .int x :: r := by
    cases ns with
    | nil => exact ⟨0, [], rfl⟩
    | cons i r => exact ⟨i, intsD r ++ [.int 0], rfl⟩
  have hz : ns.length + 1 ≤ 16777216 := by omega
  have hx' : ns.map D.int ++ [D.int 0] = .int x :: r := hx
  have m1 : ∀ y : Int, mulOk y c2 = true := fun y => mulOk_r (by omega)
  have e0 : eBin pIdx (eBin pAdd (eUn pList (eVar 0)) (eLst (aCons (eC (.int 0)) (aNil)))) (eC (.int 0)) [some (.pl (.scr ns)), none] S = .ok (.pl (.int x), [some (.pl (.scr ns)), none], S) := by
    simp [hz, hx']
  generalize hy : (if x < 0 then -x else x) = y
  have e1 : sSet 1 (eUn pAbs (eBin pIdx (eBin pAdd (eUn pList (eVar 0)) (eLst (aCons (eC (.int 0)) (aNil)))) (eC (.int 0)))) [some (.pl (.scr ns)), none] S = .ok (.nx [some (.pl (.scr ns)), some (.pl (.int y))] S) := by
    rw [x_set, x_un, e0]; simp [hy]
  by_cases hc : (10 : Int) ^ 18 ≤ y
  · refine ⟨y / c1, (y * c2 + c3) % c4 + c5, ?_⟩
    show (cupB c1 c2 c3 c4 c5 _ [some (.pl (.scr ns)), none] S >>= _) = _
    unfold cupB
    rw [x_sseq, e1]
    have hc' : (1000000000000000000 : Int) ≤ y := hc
    simp [hp, hc', y_fdiv h1.1 lg, y_mod h4, m1]
  · refine ⟨0, (y * c2 + c3) % c4 + c5, ?_⟩
    show (cupB c1 c2 c3 c4 c5 _ [some (.pl (.scr ns)), none] S >>= _) = _
    unfold cupB
    rw [x_sseq, e1]
    have hc' : ¬ (1000000000000000000 : Int) ≤ y := hc
    simp [hp, hc', y_mod h4, m1]
end
end Mp

/-! Lists as tables, sums. -/
namespace Mp
open PySem

/-- the list f 0, .., f (n - 1) -/
def tabl {α : Type} (n : Nat) (f : Nat → α) : List α := (List.range n).map f
section
variable {α : Type} {n k : Nat} {f g : Nat → α} {v : α}
@[simp] theorem tabl_len : (tabl n f).length = n := by simp [tabl]
theorem tabl_get (h : k < n) : (tabl n f)[k]? = some (f k) := by
  unfold tabl; rw [List.getElem?_map, List.getElem?_range h]; rfl
theorem tabl_none (h : n ≤ k) : (tabl n f)[k]? = none := by simp [tabl, h]
theorem tabl_get? : (tabl n f)[k]? = if k < n then some (f k) else none := by
  by_cases h : k < n
  · rw [tabl_get h, if_pos h]
  · rw [tabl_none (by omega), if_neg h]
theorem tabl_ext (h : ∀ k, k < n → f k = g k) : tabl n f = tabl n g := by
  apply List.ext_getElem?
  intro k
  rw [tabl_get?, tabl_get?]
  by_cases q : k < n
  · rw [if_pos q, if_pos q, h k q]
  · rw [if_neg q, if_neg q]
theorem tabl_eq {l : List α} (hl : l.length = n) (h : ∀ k, k < n → l[k]? = some (f k)) : l = tabl n f := by
  apply List.ext_getElem?
  intro k
  rw [tabl_get?]
  by_cases q : k < n
  · rw [if_pos q, h k q]
  · rw [if_neg q, List.getElem?_eq_none (by omega)]
theorem tabl_snoc : tabl n f ++ [f n] = tabl (n + 1) f := by simp [tabl, List.range_succ]
theorem tabl_set (h : k < n) : (tabl n f).set k v = tabl n (fun j => if j = k then v else f j) := by
  refine tabl_eq (by simp) fun j hj => ?_
  rw [List.getElem?_set]
  by_cases q : k = j
  · subst q; simp [hj]
  · rw [if_neg q, tabl_get hj, if_neg (fun e => q e.symm)]
theorem tabl_map {β : Type} {φ : α → β} : (tabl n f).map φ = tabl n (fun k => φ (f k)) := by simp [tabl]
theorem tabl_intsD {f : Nat → Int} : intsD (tabl n f) = tabl n (fun k => D.int (f k)) := by simp [intsD, tabl]
end
theorem idxL {xs : List D} {i : Int} {k : Nat} {d : D} {S : Store} (h : i = (k : Int)) (g : xs[k]? = some d) : pIdx (.lst xs) (.int i) S = .ok (.pl d) := by
  subst h; simp [g]
theorem idxT {xs : List D} {i : Int} {k : Nat} {d : D} {S : Store} (h : i = (k : Int)) (g : xs[k]? = some d) : pIdx (.tup xs) (.int i) S = .ok (.pl d) := by
  subst h; simp [g]
theorem intsD_tabl_get {n k : Nat} {f : Nat → Int} (h : k < n) : (intsD (tabl n f))[k]? = some (.int (f k)) := by rw [intsD_get, tabl_get h]; rfl
theorem ixN_of {n k : Nat} {i : Int} (h : i = (k : Int)) (hk : k < n) : L2.ixN n i = some k := by subst h; exact ixN_ofNat hk
theorem intsD_enum {ns : List Int} {i : Nat} {d : D} (h : (enumFrom 0 (intsD ns))[i]? = some d) : ∃ x, ns[i]? = some x ∧ d = .tup [.int i, .int x] := by
  rw [enumFrom_get, intsD_get] at h
  cases q : ns[i]? with
  | none => rw [q] at h; simp at h
  | some x =>
    rw [q] at h
    simp at h
    exact ⟨x, rfl, h.symm⟩
theorem intsD_at {ns : List Int} {i : Nat} {d : D} (h : (intsD ns)[i]? = some d) : ∃ x, ns[i]? = some x ∧ d = .int x := by
  rw [intsD_get] at h
  cases q : ns[i]? with
  | none => rw [q] at h; simp at h
  | some x =>
    rw [q] at h
    simp at h
    exact ⟨x, rfl, h.symm⟩
/-- a comprehension whose items are only known by what they satisfy, over a store that may change -/
theorem comp_ex {T : TDen} {C : CDen} {a : Den} {ε0 : Env} {vs : List Nat} (Q : Store → Prop) (R : D → Prop) : ∀ (xs acc : List D) (S : Store), Q S → acc.length + xs.length ≤ 16777216 →
    (∀ (x : D) (S : Store), x ∈ xs → Q S → ∃ ε1 y S', T x ε0 = .ok ε1 ∧ C ε1 S = .ok (true, ε1, S) ∧ wipe ε1 vs = ε0 ∧ (a ε1 S = .ok (.pl y, ε1, S') ∨ a ε1 S = .ok (.fr y, ε1, S')) ∧ Q S' ∧ R y) →
    ∃ ys S', compGo vs T C a ε0 xs S acc = .ok (acc ++ ys, S') ∧ Q S' ∧ ys.length = xs.length ∧ ∀ y ∈ ys, R y
  | [], acc, S, q, _, _ => ⟨[], S, by simp [compGo], q, rfl, by simp⟩
  | x :: xs, acc, S, q, hz, hs => by
    obtain ⟨ε1, y, S', e1, e2, e3, e4, q', ry⟩ := hs x S (by simp) q
    obtain ⟨ys, S2, e5, q2, hl, hr⟩ := comp_ex Q R xs (acc ++ [y]) S' q' (by simp at hz ⊢; omega) fun x S hx q => hs x S (by simp [hx]) q
    refine ⟨y :: ys, S2, ?_, q2, by simp [hl], ?_⟩
    · have hz' : acc.length < 16777216 := by simp at hz; omega
      unfold compGo
      rw [e1]
      simp only [ok_bind]
      rw [e2]
      simp only [ok_bind, e3, and_self, if_true]
      rcases e4 with e4 | e4
      · rw [e4]
        simp only [ok_bind, hz', and_self, if_true]
        rw [e5]; simp
      · rw [e4]
        simp only [ok_bind, hz', and_self, if_true]
        rw [e5]; simp
    · intro z hz
      rcases List.mem_cons.mp hz with rfl | hz
      · exact ry
      · exact hr z hz
theorem ints_of {P : Int → Prop} : ∀ (ys : List D), (∀ y ∈ ys, ∃ i, y = .int i ∧ P i) → ∃ ns, ys = intsD ns ∧ ∀ i ∈ ns, P i
  | [], _ => ⟨[], rfl, by simp⟩
  | y :: ys, h => by
    obtain ⟨i, rfl, p⟩ := h y (by simp)
    obtain ⟨ns, rfl, q⟩ := ints_of ys fun z hz => h z (by simp [hz])
    exact ⟨i :: ns, rfl, by simpa using ⟨p, q⟩⟩
/-! ### sums -/
def sumN (n : Nat) (f : Nat → Int) : Int := match n with
  | 0 => 0
  | n + 1 => sumN n f + f n
theorem sumN_ext {n : Nat} {f g : Nat → Int} (h : ∀ k, k < n → f k = g k) : sumN n f = sumN n g := by
  induction n with
  | zero => rfl
  | succ n ih =>
    show sumN n f + f n = sumN n g + g n
    rw [ih fun k hk => h k (by omega), h n (by omega)]
theorem sumN_add {n : Nat} {f g : Nat → Int} : sumN n (fun k => f k + g k) = sumN n f + sumN n g := by
  induction n with
  | zero => rfl
  | succ n ih => simp only [sumN, ih]; omega
theorem sumN_mul {n : Nat} {f : Nat → Int} {c : Int} : sumN n (fun k => f k * c) = sumN n f * c := by
  induction n with
  | zero => simp [sumN]
  | succ n ih => simp only [sumN, ih, Int.add_mul]
theorem sumN_zero {n : Nat} {f : Nat → Int} (h : ∀ k, k < n → f k = 0) : sumN n f = 0 := by
  induction n with
  | zero => rfl
  | succ n ih => simp only [sumN, ih fun k hk => h k (by omega), h n (by omega)]; rfl
/-- the first term by itself -/
theorem sumN_front {n : Nat} {f : Nat → Int} : sumN (n + 1) f = f 0 + sumN n (fun k => f (k + 1)) := by
  induction n with
  | zero => simp [sumN]
  | succ n ih =>
    show sumN (n + 1) f + f (n + 1) = f 0 + (sumN n (fun k => f (k + 1)) + f (n + 1))
    rw [ih]; omega
/-- terms beyond m are 0 -/
theorem sumN_cut {n m : Nat} {f : Nat → Int} (h : m ≤ n) (z : ∀ k, m ≤ k → k < n → f k = 0) : sumN n f = sumN m f := by
  induction n with
  | zero => have : m = 0 := by omega
            subst this; rfl
  | succ n ih =>
    by_cases q : m = n + 1
    · rw [q]
    · show sumN n f + f n = _
      rw [z n (by omega) (by omega), ih (by omega) fun k a b => z k a (by omega)]; omega
theorem sumN_rev {n : Nat} {f : Nat → Int} : sumN n f = sumN n (fun k => f (n - 1 - k)) := by
  induction n with
  | zero => rfl
  | succ n ih =>
    rw [sumN_front (f := fun k => f (n + 1 - 1 - k))]
    show sumN n f + f n = _
    rw [ih]
    have e : sumN n (fun k => f (n - 1 - k)) = sumN n (fun k => f (n + 1 - 1 - (k + 1))) := sumN_ext fun k hk => by congr 1; omega
    rw [e]
    simp only [Nat.add_sub_cancel, Nat.sub_zero]
    omega
theorem sum_tabl {n : Nat} {f : Nat → Int} : (tabl n f).sum = sumN n f := by
  induction n with
  | zero => rfl
  | succ n ih => rw [← tabl_snoc, List.sum_append, ih]; simp [sumN]
end Mp

/-! the readings of the program's defs -/
namespace K12
open Mp

/-- is_integer -/
def m0 (F : CallI) : SDen := sRet (eAnd (eUn (pIsT "int") (eVar 0)) (eNot (eUn (pIsT "bool") (eVar 0))))
/-- is_whole -/
def m1 (F : CallI) : SDen := sRet (eAnd (eCall F 0 (aCons (eVar 0) (aNil))) (eChain (pLe) (pLe) (eVar 1) (eVar 0) (eVar 2)))
/-- need_whole -/
def m2 (F : CallI) : SDen := sIf (cNot (cVal (eCall F 1 (aCons (eVar 0) (aCons (eVar 1) (aCons (eVar 2) (aNil))))))) (sNo) (sNil)
/-- is_tuple_of -/
def m3 (F : CallI) : SDen := sRet (eAnd (eUn (pIsT "tuple") (eVar 0)) (eChain (pLe) (pLe) (eVar 1) (eUn pLen (eVar 0)) (eVar 2)))
def m4e1 (F : CallI) : Den := eCall F 1 (aCons (eVar 1) (aCons (eC (.int 0)) (aCons (eBin pAdd (eC (.int 100)) (eVar 3)) (aNil))))
def m4e2 (F : CallI) : Den := eBin (pLe) (eVar 1) (eVar 2)
/-- fits_heights -/
def m4 (F : CallI) : SDen := sSeq (sIf (cOr (cNot (cVal (eCall F 3 (aCons (eVar 0) (aCons (eC (.int 1)) (aCons (eC (.int 24)) (aNil))))))) (cNot (cVal (eUn pAll (eComp [3, 1] (iEnum (aCons (eVar 0) (aNil))) (tTup 2 (tsCons (tName 3) (tsCons (tName 1) (tsNil)))) (cYes) (m4e1 F)))))) (sRet (eC (.bl false))) (sNil)) (sRet (eUn pAll (eComp [1, 2] (iZip (aCons (eVar 0) (aCons (eSl (eVar 0) (oSome (eC (.int 1))) oNone) (aNil)))) (tTup 2 (tsCons (tName 1) (tsCons (tName 2) (tsNil)))) (cYes) (m4e2 F))))
/-- need_heights -/
def m5 (F : CallI) : SDen := sIf (cNot (cVal (eCall F 4 (aCons (eVar 0) (aNil))))) (sNo) (sNil)
def m6b1 (F : CallI) : SDen := sSeq (sSet 5 (eBin pAdd (eBin pSub (eVar 2) (eVar 4)) (eC (.int 1)))) (sPut (eVar 3) (eVar 4) (eBin pAdd (eBin pIdx (eVar 3) (eVar 4)) (eIf (cVal (eBin (pGt) (eVar 5) (eC (.int 0)))) (eBin pMul (eBin pIdx (eVar 1) (eBin pSub (eVar 4) (eC (.int 1)))) (eVar 5)) (eC (.int 0)))))
def m6b2 (F : CallI) : SDen := sSeq (sOwn 3 (eBin pAdd (eVar 1) (eLst (aCons (eC (.int 0)) (aNil))))) (sSeq (sFor (tName 4) (iR2 (aCons (eC (.int 1)) (aCons (eUn pLen (eVar 3)) (aNil)))) (m6b1 F)) (sSet 1 (eVar 3)))
/-- counts_in -/
def m6 (F : CallI) : SDen := sSeq (sSet 1 (eLst (aCons (eC (.int 1)) (aNil)))) (sSeq (sFor (tName 2) (iSeq (eVar 0)) (m6b2 F)) (sRet (eVar 1)))
def m7w1 (F : CallI) : CDen := cVal (eBin (pEq) (eBin pIdx (eVar 1) (eUn pNeg (eC (.int 1)))) (eC (.int 0)))
def m7b1 (F : CallI) : SDen := sDrop (eMut fPop (eVar 1) aNil)
/-- bare -/
def m7 (F : CallI) : SDen := sSeq (sOwn 1 (eUn pList (eVar 0))) (sSeq (sWhile F (m7w1 F) (m7b1 F)) (sRet (eVar 1)))
def m8e1 (F : CallI) : Den := eBin pSub (eVar 2) (eVar 1)
/-- roots_in -/
def m8 (F : CallI) : SDen := sRet (eComp [1, 2] (iEnum (aCons (eVar 0) (aNil))) (tTup 2 (tsCons (tName 1) (tsCons (tName 2) (tsNil)))) (cYes) (m8e1 F))
def m9b1 (F : CallI) : SDen := sSet 2 (eBin pMul (eVar 2) (eBin pSub (eVar 0) (eVar 3)))
/-- falling -/
def m9 (F : CallI) : SDen := sSeq (sSet 2 (eC (.int 1))) (sSeq (sFor (tName 3) (iR1 (aCons (eVar 1) (aNil))) (m9b1 F)) (sRet (eVar 2)))
/-- pile_tower_counts -/
def m10 (F : CallI) : SDen := sSeq (sDrop (eCall F 5 (aCons (eVar 0) (aNil)))) (sRet (eUn pTuple (eCall F 7 (aCons (eCall F 6 (aCons (eVar 0) (aNil))) (aNil)))))
/-- pile_roots -/
def m11 (F : CallI) : SDen := sSeq (sDrop (eCall F 5 (aCons (eVar 0) (aNil)))) (sRet (eUn pTuple (eCall F 8 (aCons (eVar 0) (aNil)))))
def m12b1 (F : CallI) : SDen := sSet 2 (eBin pMul (eVar 2) (eBin pAdd (eVar 1) (eVar 3)))
/-- pile_worth -/
def m12 (F : CallI) : SDen := sSeq (sDrop (eCall F 5 (aCons (eVar 0) (aNil)))) (sSeq (sDrop (eCall F 2 (aCons (eVar 1) (aCons (eUn pNeg (eC (.int 1000))) (aCons (eC (.int 1000)) (aNil)))))) (sSeq (sSet 2 (eC (.int 1))) (sSeq (sFor (tName 3) (iSeq (eCall F 8 (aCons (eVar 0) (aNil)))) (m12b1 F)) (sRet (eVar 2)))))
def m13e1 (F : CallI) : Den := eBin pMul (eBin pIdx (eVar 2) (eVar 4)) (eCall F 9 (aCons (eVar 1) (aCons (eBin pSub (eVar 3) (eVar 4)) (aNil))))
/-- falling_worth -/
def m13 (F : CallI) : SDen := sSeq (sDrop (eCall F 5 (aCons (eVar 0) (aNil)))) (sSeq (sDrop (eCall F 2 (aCons (eVar 1) (aCons (eUn pNeg (eC (.int 1000))) (aCons (eC (.int 1000)) (aNil)))))) (sSeq (sAsg (tTup 2 (tsCons (tName 2) (tsCons (tName 3) (tsNil)))) (eTup (aCons (eCall F 6 (aCons (eVar 0) (aNil))) (aCons (eUn pLen (eVar 0)) (aNil))))) (sRet (eUn pSum (eComp [4] (iR1 (aCons (eBin pAdd (eVar 3) (eC (.int 1))) (aNil))) (tName 4) (cYes) (m13e1 F))))))
/-- _law_cup -/
def m14 (F : CallI) : SDen := sSeq (sSet 1 (eUn pAbs (eBin pIdx (eBin pAdd (eUn pList (eVar 0)) (eLst (aCons (eC (.int 0)) (aNil)))) (eC (.int 0))))) (sRet (eNew (eLst (aCons (eIf (cVal (eBin (pGe) (eVar 1) (eBin pPow (eC (.int 10)) (eC (.int 18))))) (eBin pFdiv (eVar 1) (eC (.int 73))) (eC (.int 0))) (aCons (eBin pAdd (eBin pMod (eUn pInt (eBin pAdd (eBin pMul (eVar 1) (eC (.int 283))) (eC (.int 3907)))) (eC (.int 2077503167))) (eC (.int 167))) (aNil))))))
/-- _law_roll -/
def m15 (F : CallI) : SDen := sSeq (sIf (cVal (eBin (pGt) (eBin pIdx (eVar 0) (eC (.int 0))) (eC (.int 0)))) (sSeq (sSet 2 (eBin pMod (eUn pInt (eBin pIdx (eVar 0) (eC (.int 0)))) (eVar 1))) (sSeq (sPut (eVar 0) (eC (.int 0)) (eBin pFdiv (eBin pIdx (eVar 0) (eC (.int 0))) (eVar 1))) (sRet (eVar 2)))) (sNil)) (sSeq (sPut (eVar 0) (eC (.int 1)) (eBin pMod (eUn pInt (eBin pAdd (eBin pMul (eBin pIdx (eVar 0) (eC (.int 1))) (eC (.int 31051))) (eC (.int 7993)))) (eC (.int 2147483543)))) (sSeq (sSet 3 (eBin pMod (eUn pInt (eBin pMul (eBin pIdx (eVar 0) (eC (.int 1))) (eBin pAdd (eBin pIdx (eVar 0) (eC (.int 1))) (eC (.int 229))))) (eC (.int 2147483587)))) (sRet (eBin pMod (eUn pInt (eBin pFdiv (eVar 3) (eC (.int 821)))) (eVar 1)))))
/-- _law_sort -/
def m16 (F : CallI) : SDen := sSeq (sIf (cOr (cVal (eBin (pIs) (eVar 0) (eC .non))) (cVal (eUn (pIsT "bool") (eVar 0)))) (sRet (eIf (cVal (eBin (pIs) (eVar 0) (eC .non))) (eC (.int 0)) (eC (.int 1)))) (sNil)) (sSeq (sIf (cOr (cVal (eUn (pIsT "int") (eVar 0))) (cVal (eUn (pIsT "str") (eVar 0)))) (sRet (eIf (cVal (eUn (pIsT "int") (eVar 0))) (eC (.int 2)) (eC (.int 3)))) (sNil)) (sRet (eIf (cVal (eUn (pIsT "tuple") (eVar 0))) (eC (.int 4)) (eIf (cVal (eUn (pIsT "list") (eVar 0))) (eC (.int 5)) (eC (.int 6))))))
def m17c1 (F : CallI) : CDen := cNot (cVal (eCall F 17 (aCons (eVar 3) (aCons (eVar 4) (aNil)))))
def m17e1 (F : CallI) : Den := eC (.int 1)
/-- _law_like -/
def m17 (F : CallI) : SDen := sSeq (sSet 2 (eCall F 16 (aCons (eVar 1) (aNil)))) (sSeq (sIf (cOr (cVal (eBin (pNe) (eCall F 16 (aCons (eVar 0) (aNil))) (eVar 2))) (cVal (eBin (pEq) (eVar 2) (eC (.int 6))))) (sRet (eC (.bl false))) (sNil)) (sSeq (sIf (cVal (eBin (pIn false) (eVar 2) (eTup (aCons (eC (.int 4)) (aCons (eC (.int 5)) (aNil)))))) (sRet (eAnd (eBin (pEq) (eUn pLen (eVar 0)) (eUn pLen (eVar 1))) (eBin (pEq) (eComp [3, 4] (iZip (aCons (eVar 0) (aCons (eVar 1) (aNil)))) (tTup 2 (tsCons (tName 3) (tsCons (tName 4) (tsNil)))) (m17c1 F) (m17e1 F)) (eLst (aNil))))) (sNil)) (sRet (eBin (pEq) (eVar 0) (eVar 1)))))
def m18e1 (F : CallI) : Den := eCall F 15 (aCons (eVar 0) (aCons (eBin pAdd (eVar 2) (eC (.int 1))) (aNil)))
/-- _law_heights -/
def m18 (F : CallI) : SDen := sRet (eUn pTuple (eUn pSorted (eComp [3] (iR1 (aCons (eBin pAdd (eC (.int 1)) (eCall F 15 (aCons (eVar 0) (aCons (eVar 1) (aNil))))) (aNil))) (tName 3) (cYes) (m18e1 F))))
def m19b1 (F : CallI) : SDen := sPut (eVar 3) (eBin pAdd (eVar 4) (eC (.int 1))) (eBin pAdd (eBin pIdx (eVar 3) (eBin pAdd (eVar 4) (eC (.int 1)))) (eBin pMul (eBin pIdx (eVar 1) (eVar 4)) (eBin pMax2 (eC (.int 0)) (eBin pSub (eVar 2) (eVar 4)))))
def m19b2 (F : CallI) : SDen := sSeq (sOwn 3 (eBin pAdd (eVar 1) (eLst (aCons (eC (.int 0)) (aNil))))) (sSeq (sFor (tName 4) (iR1 (aCons (eUn pLen (eVar 1)) (aNil))) (m19b1 F)) (sSet 1 (eVar 3)))
def m19w1 (F : CallI) : CDen := cVal (eBin (pEq) (eBin pIdx (eVar 1) (eUn pNeg (eC (.int 1)))) (eC (.int 0)))
def m19b3 (F : CallI) : SDen := sSet 1 (eSl (eVar 1) oNone (oSome (eUn pNeg (eC (.int 1)))))
/-- _law_counts -/
def m19 (F : CallI) : SDen := sSeq (sSet 1 (eLst (aCons (eC (.int 1)) (aNil)))) (sSeq (sFor (tName 2) (iSeq (eVar 0)) (m19b2 F)) (sSeq (sWhile F (m19w1 F) (m19b3 F)) (sRet (eVar 1))))
def m20e1 (F : CallI) : Den := eBin pSub (eVar 14) (eVar 13)
def m20b1 (F : CallI) : SDen := sSet 5 (eBin pMul (eVar 5) (eBin pAdd (eVar 4) (eVar 6)))
def m20b2 (F : CallI) : SDen := sSeq (sDrop (eMut fAppend (eVar 8) (aCons (eVar 9) (aNil)))) (sSet 9 (eBin pMul (eVar 9) (eBin pSub (eVar 4) (eVar 10))))
def m20b3 (F : CallI) : SDen := sSet 7 (eBin pAdd (eVar 7) (eBin pMul (eVar 12) (eBin pIdx (eVar 8) (eBin pSub (eUn pLen (eVar 1)) (eVar 11)))))
def m20b4 (F : CallI) : SDen := sSeq (sSet 5 (eC (.int 1))) (sSeq (sFor (tName 6) (iSeq (eVar 2)) (m20b1 F)) (sSeq (sPar2 false 7 true 8 (eC (.int 0)) (eLst (aNil))) (sSeq (sSet 9 (eC (.int 1))) (sSeq (sFor (tName 10) (iR1 (aCons (eBin pAdd (eUn pLen (eVar 1)) (eC (.int 1))) (aNil))) (m20b2 F)) (sSeq (sFor (tTup 2 (tsCons (tName 11) (tsCons (tName 12) (tsNil)))) (iEnum (aCons (eVar 3) (aNil))) (m20b3 F)) (sIf (cOr (cNot (cVal (eCall F 17 (aCons (eLst (aCons (eCall F 12 (aCons (eVar 1) (aCons (eVar 4) (aNil)))) (aCons (eCall F 13 (aCons (eVar 1) (aCons (eVar 4) (aNil)))) (aNil)))) (aCons (eLst (aCons (eVar 5) (aCons (eVar 5) (aNil)))) (aNil)))))) (cVal (eBin (pNe) (eVar 7) (eVar 5)))) (sRet (eC (.bl false))) (sNil)))))))
/-- _law_right -/
def m20 (F : CallI) : SDen := sSeq (sSet 2 (eUn pTuple (eComp [13, 14] (iEnum (aCons (eVar 1) (aNil))) (tTup 2 (tsCons (tName 13) (tsCons (tName 14) (tsNil)))) (cYes) (m20e1 F)))) (sSeq (sIf (cNot (cVal (eCall F 17 (aCons (eCall F 11 (aCons (eVar 1) (aNil))) (aCons (eVar 2) (aNil)))))) (sRet (eC (.bl false))) (sNil)) (sSeq (sSet 3 (eCall F 19 (aCons (eVar 1) (aNil)))) (sSeq (sFor (tName 4) (iSeq (eLst (aCons (eC (.int 0)) (aCons (eC (.int 1)) (aCons (eUn pNeg (eC (.int 1))) (aCons (eBin pSub (eCall F 15 (aCons (eVar 0) (aCons (eC (.int 2001)) (aNil)))) (eC (.int 1000))) (aCons (eBin pSub (eCall F 15 (aCons (eVar 0) (aCons (eC (.int 61)) (aNil)))) (eC (.int 30))) (aNil)))))))) (m20b4 F)) (sRet (eC (.bl true))))))
def m21b1 (F : CallI) : SDen := sSeq (sSet 5 (eBin pSub (eVar 5) (eBin pMul (eBin pIdx (eVar 3) (eVar 7)) (eVar 6)))) (sSet 6 (eBin pMul (eVar 6) (eBin pSub (eVar 4) (eVar 7))))
def m21b2 (F : CallI) : SDen := sSeq (sPar2 false 5 false 6 (eCall F 12 (aCons (eVar 0) (aCons (eVar 4) (aNil)))) (eC (.int 1))) (sSeq (sFor (tName 7) (iR1 (aCons (eVar 4) (aNil))) (m21b1 F)) (sDrop (eMut fAppend (eVar 3) (aCons (eUn pInt (eBin pFdiv (eVar 5) (eVar 6))) (aNil)))))
def m21e1 (F : CallI) : Den := eIf (cVal (eBin (pLt) (eVar 9) (eUn pLen (eVar 1)))) (eBin pIdx (eVar 1) (eVar 9)) (eC (.int 0))
/-- _law_found_right -/
def m21 (F : CallI) : SDen := sSeq (sAsg (tTup 2 (tsCons (tName 1) (tsCons (tName 2) (tsNil)))) (eTup (aCons (eCall F 10 (aCons (eVar 0) (aNil))) (aCons (eUn pLen (eVar 0)) (aNil))))) (sSeq (sOwn 3 (eLst (aNil))) (sSeq (sFor (tName 4) (iR1 (aCons (eBin pAdd (eVar 2) (eC (.int 1))) (aNil))) (m21b2 F)) (sSeq (sSet 8 (eComp [9] (iR3 (aCons (eVar 2) (aCons (eUn pNeg (eC (.int 1))) (aCons (eUn pNeg (eC (.int 1))) (aNil))))) (tName 9) (cYes) (m21e1 F))) (sRet (eBin (pEq) (eVar 3) (eVar 8))))))
/-- _law_written_right -/
def m22 (F : CallI) : SDen := sSeq (sSet 0 (eLst (aCons (eCall F 11 (aCons (eTup (aCons (eC (.int 1)) (aCons (eC (.int 2)) (aCons (eC (.int 2)) (aNil))))) (aNil))) (aCons (eCall F 12 (aCons (eTup (aCons (eC (.int 1)) (aCons (eC (.int 2)) (aCons (eC (.int 2)) (aNil))))) (aCons (eC (.int 2)) (aNil)))) (aCons (eCall F 13 (aCons (eTup (aCons (eC (.int 1)) (aCons (eC (.int 2)) (aCons (eC (.int 2)) (aNil))))) (aCons (eC (.int 2)) (aNil)))) (aCons (eCall F 11 (aCons (eBin pMul (eTup (aCons (eC (.int 0)) (aNil))) (eC (.int 4))) (aNil))) (aCons (eCall F 12 (aCons (eBin pMul (eTup (aCons (eC (.int 0)) (aNil))) (eC (.int 4))) (aCons (eC (.int 3)) (aNil)))) (aCons (eCall F 12 (aCons (eBin pMul (eTup (aCons (eC (.int 0)) (aNil))) (eC (.int 4))) (aCons (eC (.int 4)) (aNil)))) (aCons (eCall F 13 (aCons (eTup (aCons (eC (.int 7)) (aNil))) (aCons (eUn pNeg (eC (.int 1000))) (aNil)))) (aNil)))))))))) (sRet (eCall F 17 (aCons (eVar 0) (aCons (eLst (aCons (eTup (aCons (eC (.int 1)) (aCons (eC (.int 1)) (aCons (eC (.int 0)) (aNil))))) (aCons (eC (.int 18)) (aCons (eC (.int 18)) (aCons (eTup (aCons (eC (.int 0)) (aCons (eUn pNeg (eC (.int 1))) (aCons (eUn pNeg (eC (.int 2))) (aCons (eUn pNeg (eC (.int 3))) (aNil)))))) (aCons (eC (.int 0)) (aCons (eC (.int 24)) (aCons (eUn pNeg (eC (.int 993))) (aNil))))))))) (aNil)))))
def m23b1 (F : CallI) : SDen := sIf (cNot (cVal (eCall F 20 (aCons (eVar 1) (aCons (eCall F 18 (aCons (eVar 1) (aCons (eVar 2) (aCons (eVar 3) (aNil))))) (aNil)))))) (sRet (eC (.bl false))) (sNil)
/-- law -/
def m23 (F : CallI) : SDen := sSeq (sIf (cNot (cVal (eCall F 22 aNil))) (sRet (eC (.bl false))) (sNil)) (sSeq (sSet 1 (eCall F 14 (aCons (eVar 0) (aNil)))) (sSeq (sFor (tTup 2 (tsCons (tName 2) (tsCons (tName 3) (tsNil)))) (iSeq (eTup (aCons (eTup (aCons (eC (.int 3)) (aCons (eC (.int 4)) (aNil)))) (aCons (eTup (aCons (eC (.int 8)) (aCons (eC (.int 10)) (aNil)))) (aCons (eTup (aCons (eC (.int 24)) (aCons (eC (.int 24)) (aNil)))) (aCons (eTup (aCons (eC (.int 24)) (aCons (eC (.int 100)) (aNil)))) (aNil))))))) (m23b1 F)) (sRet (eAnd (eCall F 21 (aCons (eCall F 18 (aCons (eVar 1) (aCons (eC (.int 10)) (aCons (eC (.int 12)) (aNil))))) (aNil))) (eCall F 21 (aCons (eCall F 18 (aCons (eVar 1) (aCons (eC (.int 24)) (aCons (eC (.int 100)) (aNil))))) (aNil)))))))
def tab : Nat → Option FnD
  | 0 => some ⟨1, 1, m0⟩
  | 1 => some ⟨3, 3, m1⟩
  | 2 => some ⟨3, 3, m2⟩
  | 3 => some ⟨3, 3, m3⟩
  | 4 => some ⟨1, 4, m4⟩
  | 5 => some ⟨1, 1, m5⟩
  | 6 => some ⟨1, 6, m6⟩
  | 7 => some ⟨1, 2, m7⟩
  | 8 => some ⟨1, 3, m8⟩
  | 9 => some ⟨2, 4, m9⟩
  | 10 => some ⟨1, 1, m10⟩
  | 11 => some ⟨1, 1, m11⟩
  | 12 => some ⟨2, 4, m12⟩
  | 13 => some ⟨2, 5, m13⟩
  | 14 => some ⟨1, 2, m14⟩
  | 15 => some ⟨2, 4, m15⟩
  | 16 => some ⟨1, 1, m16⟩
  | 17 => some ⟨2, 5, m17⟩
  | 18 => some ⟨3, 4, m18⟩
  | 19 => some ⟨1, 5, m19⟩
  | 20 => some ⟨2, 15, m20⟩
  | 21 => some ⟨1, 10, m21⟩
  | 22 => some ⟨0, 1, m22⟩
  | 23 => some ⟨1, 4, m23⟩
  | _ => none
end K12

/-! the rules -/
namespace K12
open PySem PySem.Spec PyProof.Rows L2 Mp
def top (i : Nat) : Stmt := PySem.Challenge.pw_piecesplaced_k12_whole_roots_and_worths.main.body.getD i (.Pass ⟨0, 0, 0, 0⟩)
abbrev st0 : Stmt := top 5
abbrev st1 : Stmt := top 6
abbrev st2 : Stmt := top 7
abbrev st3 : Stmt := top 8
abbrev st4 : Stmt := top 13
abbrev st5 : Stmt := top 14
abbrev st6 : Stmt := top 15
abbrev st7 : Stmt := top 16
abbrev st8 : Stmt := top 17
abbrev st9 : Stmt := top 18
abbrev st10 : Stmt := top 19
abbrev st11 : Stmt := top 20
abbrev st12 : Stmt := top 21
abbrev st13 : Stmt := top 22
abbrev st14 : Stmt := top 24
abbrev st15 : Stmt := top 25
abbrev st16 : Stmt := top 26
abbrev st17 : Stmt := top 27
abbrev st18 : Stmt := top 28
abbrev st19 : Stmt := top 29
abbrev st20 : Stmt := top 30
abbrev st21 : Stmt := top 31
abbrev st22 : Stmt := top 32
abbrev st23 : Stmt := top 33
structure Fx (K : PySem.W.Frag) (mg : Str → Option Value) (fa : Nat → Addr) (fd : Nat → FuncData) : Prop where
  F0 : FunD K "is_integer" "is_integer" (defArgs st0) (defBody st0) (defScope st0) [] [] (fa 0) (fd 0)
  g0 : mg "is_integer" = some (.ref (fa 0))
  B0 : Binds K (fd 0) ["value"] []
  F1 : FunD K "is_whole" "is_whole" (defArgs st1) (defBody st1) (defScope st1) [] [] (fa 1) (fd 1)
  g1 : mg "is_whole" = some (.ref (fa 1))
  B1 : Binds K (fd 1) ["value", "low", "high"] []
  F2 : FunD K "need_whole" "need_whole" (defArgs st2) (defBody st2) (defScope st2) [] [] (fa 2) (fd 2)
  g2 : mg "need_whole" = some (.ref (fa 2))
  B2 : Binds K (fd 2) ["value", "low", "high"] []
  F3 : FunD K "is_tuple_of" "is_tuple_of" (defArgs st3) (defBody st3) (defScope st3) [] [] (fa 3) (fd 3)
  g3 : mg "is_tuple_of" = some (.ref (fa 3))
  B3 : Binds K (fd 3) ["value", "low", "high"] []
  F4 : FunD K "fits_heights" "fits_heights" (defArgs st4) (defBody st4) (defScope st4) [] [] (fa 4) (fd 4)
  g4 : mg "fits_heights" = some (.ref (fa 4))
  B4 : Binds K (fd 4) ["value"] []
  F5 : FunD K "need_heights" "need_heights" (defArgs st5) (defBody st5) (defScope st5) [] [] (fa 5) (fd 5)
  g5 : mg "need_heights" = some (.ref (fa 5))
  B5 : Binds K (fd 5) ["heights"] []
  F6 : FunD K "counts_in" "counts_in" (defArgs st6) (defBody st6) (defScope st6) [] [] (fa 6) (fd 6)
  g6 : mg "counts_in" = some (.ref (fa 6))
  B6 : Binds K (fd 6) ["heights"] []
  F7 : FunD K "bare" "bare" (defArgs st7) (defBody st7) (defScope st7) [] [] (fa 7) (fd 7)
  g7 : mg "bare" = some (.ref (fa 7))
  B7 : Binds K (fd 7) ["counts"] []
  F8 : FunD K "roots_in" "roots_in" (defArgs st8) (defBody st8) (defScope st8) [] [] (fa 8) (fd 8)
  g8 : mg "roots_in" = some (.ref (fa 8))
  B8 : Binds K (fd 8) ["heights"] []
  F9 : FunD K "falling" "falling" (defArgs st9) (defBody st9) (defScope st9) [] [] (fa 9) (fd 9)
  g9 : mg "falling" = some (.ref (fa 9))
  B9 : Binds K (fd 9) ["number", "many"] []
  F10 : FunD K "pile_tower_counts" "pile_tower_counts" (defArgs st10) (defBody st10) (defScope st10) [] [] (fa 10) (fd 10)
  g10 : mg "pile_tower_counts" = some (.ref (fa 10))
  B10 : Binds K (fd 10) ["heights"] []
  F11 : FunD K "pile_roots" "pile_roots" (defArgs st11) (defBody st11) (defScope st11) [] [] (fa 11) (fd 11)
  g11 : mg "pile_roots" = some (.ref (fa 11))
  B11 : Binds K (fd 11) ["heights"] []
  F12 : FunD K "pile_worth" "pile_worth" (defArgs st12) (defBody st12) (defScope st12) [] [] (fa 12) (fd 12)
  g12 : mg "pile_worth" = some (.ref (fa 12))
  B12 : Binds K (fd 12) ["heights", "number"] []
  F13 : FunD K "falling_worth" "falling_worth" (defArgs st13) (defBody st13) (defScope st13) [] [] (fa 13) (fd 13)
  g13 : mg "falling_worth" = some (.ref (fa 13))
  B13 : Binds K (fd 13) ["heights", "number"] []
  F14 : FunD K "_law_cup" "_law_cup" (defArgs st14) (defBody st14) (defScope st14) [] [] (fa 14) (fd 14)
  g14 : mg "_law_cup" = some (.ref (fa 14))
  B14 : Binds K (fd 14) ["script"] []
  F15 : FunD K "_law_roll" "_law_roll" (defArgs st15) (defBody st15) (defScope st15) [] [] (fa 15) (fd 15)
  g15 : mg "_law_roll" = some (.ref (fa 15))
  B15 : Binds K (fd 15) ["cup", "many"] []
  F16 : FunD K "_law_sort" "_law_sort" (defArgs st16) (defBody st16) (defScope st16) [] [] (fa 16) (fd 16)
  g16 : mg "_law_sort" = some (.ref (fa 16))
  B16 : Binds K (fd 16) ["value"] []
  F17 : FunD K "_law_like" "_law_like" (defArgs st17) (defBody st17) (defScope st17) [] [] (fa 17) (fd 17)
  g17 : mg "_law_like" = some (.ref (fa 17))
  B17 : Binds K (fd 17) ["one", "other"] []
  F18 : FunD K "_law_heights" "_law_heights" (defArgs st18) (defBody st18) (defScope st18) [] [] (fa 18) (fd 18)
  g18 : mg "_law_heights" = some (.ref (fa 18))
  B18 : Binds K (fd 18) ["cup", "columns", "top"] []
  F19 : FunD K "_law_counts" "_law_counts" (defArgs st19) (defBody st19) (defScope st19) [] [] (fa 19) (fd 19)
  g19 : mg "_law_counts" = some (.ref (fa 19))
  B19 : Binds K (fd 19) ["heights"] []
  F20 : FunD K "_law_right" "_law_right" (defArgs st20) (defBody st20) (defScope st20) [] [] (fa 20) (fd 20)
  g20 : mg "_law_right" = some (.ref (fa 20))
  B20 : Binds K (fd 20) ["cup", "heights"] []
  F21 : FunD K "_law_found_right" "_law_found_right" (defArgs st21) (defBody st21) (defScope st21) [] [] (fa 21) (fd 21)
  g21 : mg "_law_found_right" = some (.ref (fa 21))
  B21 : Binds K (fd 21) ["heights"] []
  F22 : FunD K "_law_written_right" "_law_written_right" (defArgs st22) (defBody st22) (defScope st22) [] [] (fa 22) (fd 22)
  g22 : mg "_law_written_right" = some (.ref (fa 22))
  B22 : Binds K (fd 22) [] []
  F23 : FunD K "law" "law" (defArgs st23) (defBody st23) (defScope st23) [] [] (fa 23) (fd 23)
  g23 : mg "law" = some (.ref (fa 23))
  B23 : Binds K (fd 23) ["script"] []
  b_isinstance : mg "isinstance" = none
  b_int : mg "int" = none
  b_bool : mg "bool" = none
  b_tuple : mg "tuple" = none
  b_len : mg "len" = none
  b_enumerate : mg "enumerate" = none
  b_all : mg "all" = none
  b_zip : mg "zip" = none
  b_range : mg "range" = none
  b_list : mg "list" = none
  b_sum : mg "sum" = none
  b_abs : mg "abs" = none
  b_str : mg "str" = none
  b_sorted : mg "sorted" = none
  b_max : mg "max" = none
  c_COLUMNS : ∃ t, mg "COLUMNS" = some (.int 24 t)
  c_HIGHEST : ∃ t, mg "HIGHEST" = some (.int 100 t)
  c_FAR : ∃ t, mg "FAR" = some (.int 1000 t)
structure Al (P : Program) (w : World) (K : PySem.W.Frag) (mg : Str → Option Value) (base : Heap) (cl : Nat → Addr) (fa : Nat → Addr) (fd : Nat → FuncData) (wf n : Nat) : Prop where
  a0 : FnOk P w K mg base CX0 n (fa 0) (fd 0) ["value"] (spOf ⟨K, cl⟩ (callF tab wf n 0))
  a1 : FnOk P w K mg base CX0 n (fa 1) (fd 1) ["value", "low", "high"] (spOf ⟨K, cl⟩ (callF tab wf n 1))
  a2 : FnOk P w K mg base CX0 n (fa 2) (fd 2) ["value", "low", "high"] (spOf ⟨K, cl⟩ (callF tab wf n 2))
  a3 : FnOk P w K mg base CX0 n (fa 3) (fd 3) ["value", "low", "high"] (spOf ⟨K, cl⟩ (callF tab wf n 3))
  a4 : FnOk P w K mg base CX0 n (fa 4) (fd 4) ["value"] (spOf ⟨K, cl⟩ (callF tab wf n 4))
  a5 : FnOk P w K mg base CX0 n (fa 5) (fd 5) ["heights"] (spOf ⟨K, cl⟩ (callF tab wf n 5))
  a6 : FnOk P w K mg base CX0 n (fa 6) (fd 6) ["heights"] (spOf ⟨K, cl⟩ (callF tab wf n 6))
  a7 : FnOk P w K mg base CX0 n (fa 7) (fd 7) ["counts"] (spOf ⟨K, cl⟩ (callF tab wf n 7))
  a8 : FnOk P w K mg base CX0 n (fa 8) (fd 8) ["heights"] (spOf ⟨K, cl⟩ (callF tab wf n 8))
  a9 : FnOk P w K mg base CX0 n (fa 9) (fd 9) ["number", "many"] (spOf ⟨K, cl⟩ (callF tab wf n 9))
  a10 : FnOk P w K mg base CX0 n (fa 10) (fd 10) ["heights"] (spOf ⟨K, cl⟩ (callF tab wf n 10))
  a11 : FnOk P w K mg base CX0 n (fa 11) (fd 11) ["heights"] (spOf ⟨K, cl⟩ (callF tab wf n 11))
  a12 : FnOk P w K mg base CX0 n (fa 12) (fd 12) ["heights", "number"] (spOf ⟨K, cl⟩ (callF tab wf n 12))
  a13 : FnOk P w K mg base CX0 n (fa 13) (fd 13) ["heights", "number"] (spOf ⟨K, cl⟩ (callF tab wf n 13))
  a14 : FnOk P w K mg base CX0 n (fa 14) (fd 14) ["script"] (spOf ⟨K, cl⟩ (callF tab wf n 14))
  a15 : FnOk P w K mg base CX0 n (fa 15) (fd 15) ["cup", "many"] (spOf ⟨K, cl⟩ (callF tab wf n 15))
  a16 : FnOk P w K mg base CX0 n (fa 16) (fd 16) ["value"] (spOf ⟨K, cl⟩ (callF tab wf n 16))
  a17 : FnOk P w K mg base CX0 n (fa 17) (fd 17) ["one", "other"] (spOf ⟨K, cl⟩ (callF tab wf n 17))
  a18 : FnOk P w K mg base CX0 n (fa 18) (fd 18) ["cup", "columns", "top"] (spOf ⟨K, cl⟩ (callF tab wf n 18))
  a19 : FnOk P w K mg base CX0 n (fa 19) (fd 19) ["heights"] (spOf ⟨K, cl⟩ (callF tab wf n 19))
  a20 : FnOk P w K mg base CX0 n (fa 20) (fd 20) ["cup", "heights"] (spOf ⟨K, cl⟩ (callF tab wf n 20))
  a21 : FnOk P w K mg base CX0 n (fa 21) (fd 21) ["heights"] (spOf ⟨K, cl⟩ (callF tab wf n 21))
  a22 : FnOk P w K mg base CX0 n (fa 22) (fd 22) [] (spOf ⟨K, cl⟩ (callF tab wf n 22))
  a23 : FnOk P w K mg base CX0 n (fa 23) (fd 23) ["script"] (spOf ⟨K, cl⟩ (callF tab wf n 23))
section
variable {P : Program} {w : World} {K : PySem.W.Frag} {mg : Str → Option Value} {base : Heap} {cl : Nat → Addr} {fa : Nat → Addr} {fd : Nat → FuncData} {wf n : Nat}
theorem sc0 : FnScope ["value"] ["value"] (defScope st0) := ⟨rfl, rfl, rfl, by decide +kernel, rfl, by decide +kernel, by decide +kernel⟩
/-- is_integer -/
theorem ok0 (x : Fx K mg fa fd) (A : Al P w K mg base cl fa fd wf n) : FnOk P w K mg base CX0 (n + 1) (fa 0) (fd 0) ["value"] (spOf ⟨K, cl⟩ (callF tab wf (n + 1) 0)) := by
  have S := sc0
  exact fn_stepD x.F0 S rfl fun cdv A0 outer s H E hr =>
    (sv_one (sv_ret (ev_and (g_isT (T := "int") (by rfl) x.b_isinstance (by rfl) x.b_int bt_int (g_var (i := 0) (by rfl) (.inl (by rfl)))) (ev_one (ev_not (g_isT (T := "bool") (by rfl) x.b_isinstance (by rfl) x.b_bool bt_bool (g_var (i := 0) (by rfl) (.inl (by rfl)))))))))
theorem sc1 : FnScope ["value", "low", "high"] ["value", "low", "high"] (defScope st1) := ⟨rfl, rfl, rfl, by decide +kernel, rfl, by decide +kernel, by decide +kernel⟩
/-- is_whole -/
theorem ok1 (x : Fx K mg fa fd) (A : Al P w K mg base cl fa fd wf n) : FnOk P w K mg base CX0 (n + 1) (fa 1) (fd 1) ["value", "low", "high"] (spOf ⟨K, cl⟩ (callF tab wf (n + 1) 1)) := by
  have S := sc1
  exact fn_stepD x.F1 S rfl fun cdv A0 outer s H E hr =>
    (sv_one (sv_ret (ev_and (ev_call A.a0 hr (by rfl) x.g0 x.F0.kp x.B0 (ev_acons (g_var (i := 0) (by rfl) (.inl (by rfl))) ev_anil)) (ev_one (g_chain op_le ok_cmp op_le ok_cmp (g_var (i := 1) (by rfl) (.inl (by rfl))) (g_var (i := 0) (by rfl) (.inl (by rfl))) (g_var (i := 2) (by rfl) (.inl (by rfl))))))))
theorem sc2 : FnScope ["value", "low", "high"] ["value", "low", "high"] (defScope st2) := ⟨rfl, rfl, rfl, by decide +kernel, rfl, by decide +kernel, by decide +kernel⟩
/-- need_whole -/
theorem ok2 (x : Fx K mg fa fd) (A : Al P w K mg base cl fa fd wf n) : FnOk P w K mg base CX0 (n + 1) (fa 2) (fd 2) ["value", "low", "high"] (spOf ⟨K, cl⟩ (callF tab wf (n + 1) 2)) := by
  have S := sc2
  exact fn_stepD x.F2 S rfl fun cdv A0 outer s H E hr =>
    (sv_one (sv_if (ev_cnot (c_val (ev_call A.a1 hr (by rfl) x.g1 x.F1.kp x.B1 (ev_acons (g_var (i := 0) (by rfl) (.inl (by rfl))) (ev_acons (g_var (i := 1) (by rfl) (.inl (by rfl))) (ev_acons (g_var (i := 2) (by rfl) (.inl (by rfl))) ev_anil)))))) (sv_one g_no) sv_nil))
theorem sc3 : FnScope ["value", "low", "high"] ["value", "low", "high"] (defScope st3) := ⟨rfl, rfl, rfl, by decide +kernel, rfl, by decide +kernel, by decide +kernel⟩
/-- is_tuple_of -/
theorem ok3 (x : Fx K mg fa fd) (A : Al P w K mg base cl fa fd wf n) : FnOk P w K mg base CX0 (n + 1) (fa 3) (fd 3) ["value", "low", "high"] (spOf ⟨K, cl⟩ (callF tab wf (n + 1) 3)) := by
  have S := sc3
  exact fn_stepD x.F3 S rfl fun cdv A0 outer s H E hr =>
    (sv_one (sv_ret (ev_and (g_isT (T := "tuple") (by rfl) x.b_isinstance (by rfl) x.b_tuple bt_tuple (g_var (i := 0) (by rfl) (.inl (by rfl)))) (ev_one (g_chain op_le ok_cmp op_le ok_cmp (g_var (i := 1) (by rfl) (.inl (by rfl))) (g_b1 call_len ok_len bt_len (by rfl) x.b_len (g_var (i := 0) (by rfl) (.inl (by rfl)))) (g_var (i := 2) (by rfl) (.inl (by rfl))))))))
theorem sc4 : FnScope ["value", "one", "other", "at"] ["value"] (defScope st4) := ⟨rfl, rfl, rfl, by decide +kernel, rfl, by decide +kernel, by decide +kernel⟩
/-- fits_heights -/
theorem ok4 (x : Fx K mg fa fd) (A : Al P w K mg base cl fa fd wf n) : FnOk P w K mg base CX0 (n + 1) (fa 4) (fd 4) ["value"] (spOf ⟨K, cl⟩ (callF tab wf (n + 1) 4)) := by
  have S := sc4
  exact fn_stepD x.F4 S rfl fun cdv A0 outer s H E hr =>
    (sv_cons (sv_if (ev_cor (ev_cnot (c_val (ev_call A.a3 hr (by rfl) x.g3 x.F3.kp x.B3 (ev_acons (g_var (i := 0) (by rfl) (.inl (by rfl))) (ev_acons ev_int (ev_acons (g_cint x.c_COLUMNS (by rfl)) ev_anil)))))) (ev_cor1 (ev_cnot (c_val (g_b1 (cr_all (by rfl)) ok_all bt_all (by rfl) x.b_all (g_lc (own := [("at", 3), ("one", 1)]) (by rfl) S.nd (blkOk_by (N := ["value", "one", "other", "at"]) (sc := defScope st4) (by decide +kernel)) (iv_enum (by rfl) x.b_enumerate (ev_acons (g_var (i := 0) (by rfl) (.inl (by rfl))) ev_anil)) (fun _ _ _ _ _ => (gv_tup (by rfl) (gv_cons (g_name (i := 3) S.nd (by rfl) (.inl (by rfl))) (gv_cons (g_name (i := 1) S.nd (by rfl) (.inl (by rfl))) gv_nil)))) (fun _ _ _ _ _ => g_yes) (fun _ _ _ _ _ => (ev_call A.a1 hr (by rfl) x.g1 x.F1.kp x.B1 (ev_acons (g_var (i := 1) (by rfl) (.inl (by rfl))) (ev_acons ev_int (ev_acons (g_add (g_cint x.c_HIGHEST (by rfl)) (g_var (i := 3) (by rfl) (.inl (by rfl)))) ev_anil))))))))))).pt (sv_one (sv_ret ev_bl)) sv_nil) (sv_one (sv_ret (g_b1 (cr_all (by rfl)) ok_all bt_all (by rfl) x.b_all (g_lc (own := [("one", 1), ("other", 2)]) (by rfl) S.nd (blkOk_by (N := ["value", "one", "other", "at"]) (sc := defScope st4) (by decide +kernel)) (iv_zip (by rfl) x.b_zip (ev_acons (g_var (i := 0) (by rfl) (.inl (by rfl))) (ev_acons (ev_slice (g_var (i := 0) (by rfl) (.inl (by rfl))) (ov_some ev_int) ov_none) ev_anil))) (fun _ _ _ _ _ => (gv_tup (by rfl) (gv_cons (g_name (i := 1) S.nd (by rfl) (.inl (by rfl))) (gv_cons (g_name (i := 2) S.nd (by rfl) (.inl (by rfl))) gv_nil)))) (fun _ _ _ _ _ => g_yes) (fun _ _ _ _ _ => (g_cmp op_le ok_cmp (g_var (i := 1) (by rfl) (.inl (by rfl))) (g_var (i := 2) (by rfl) (.inl (by rfl))) (nomark _))))))))
theorem sc5 : FnScope ["heights"] ["heights"] (defScope st5) := ⟨rfl, rfl, rfl, by decide +kernel, rfl, by decide +kernel, by decide +kernel⟩
/-- need_heights -/
theorem ok5 (x : Fx K mg fa fd) (A : Al P w K mg base cl fa fd wf n) : FnOk P w K mg base CX0 (n + 1) (fa 5) (fd 5) ["heights"] (spOf ⟨K, cl⟩ (callF tab wf (n + 1) 5)) := by
  have S := sc5
  exact fn_stepD x.F5 S rfl fun cdv A0 outer s H E hr =>
    (sv_one (sv_if (ev_cnot (c_val (ev_call A.a4 hr (by rfl) x.g4 x.F4.kp x.B4 (ev_acons (g_var (i := 0) (by rfl) (.inl (by rfl))) ev_anil)))) (sv_one g_no) sv_nil))
theorem sc6 : FnScope ["heights", "found", "height", "longer", "many", "free"] ["heights"] (defScope st6) := ⟨rfl, rfl, rfl, by decide +kernel, rfl, by decide +kernel, by decide +kernel⟩
/-- counts_in -/
theorem ok6 (x : Fx K mg fa fd) (A : Al P w K mg base cl fa fd wf n) : FnOk P w K mg base CX0 (n + 1) (fa 6) (fd 6) ["heights"] (spOf ⟨K, cl⟩ (callF tab wf (n + 1) 6)) := by
  have S := sc6
  exact fn_stepD x.F6 S rfl fun cdv A0 outer s H E hr =>
    (sv_cons (g_set (i := 1) S.nd (by rfl) (.inl (by rfl)) (ev_lst (ev_acons ev_int ev_anil))) (sv_cons (g_for (by exact PassesOwn.never) (by rfl) (iv_seq (g_var (i := 0) (by rfl) (.inl (by rfl)))) (g_name (i := 2) S.nd (by rfl) (.inl (by rfl))) (sv_cons (g_own (i := 3) S.nd (by rfl) (.inl (by rfl)) (g_add (g_var (i := 1) (by rfl) (.inl (by rfl))) (ev_lst (ev_acons ev_int ev_anil)))) (sv_cons (g_for (by exact PassesOwn.never) (by rfl) (iv_r2 (by rfl) x.b_range (ev_acons ev_int (ev_acons (g_b1 call_len ok_len bt_len (by rfl) x.b_len (g_var (i := 3) (by rfl) (.inl (by rfl)))) ev_anil))) (g_name (i := 4) S.nd (by rfl) (.inl (by rfl))) (sv_cons (g_set (i := 5) S.nd (by rfl) (.inl (by rfl)) (g_add (g_sub (g_var (i := 2) (by rfl) (.inl (by rfl))) (g_var (i := 4) (by rfl) (.inl (by rfl)))) ev_int)) (sv_one (g_put (g_add (g_idx (g_var (i := 3) (by rfl) (.inl (by rfl))) (g_var (i := 4) (by rfl) (.inl (by rfl)))) (ev_ifexp (c_cmp op_gt ok_cmp (g_var (i := 5) (by rfl) (.inl (by rfl))) ev_int (nomark _)) (g_mul (g_idx (g_var (i := 1) (by rfl) (.inl (by rfl))) (g_sub (g_var (i := 4) (by rfl) (.inl (by rfl))) ev_int)) (g_var (i := 5) (by rfl) (.inl (by rfl)))) ev_int)) (g_var (i := 3) (by rfl) (.inl (by rfl))) (g_var (i := 4) (by rfl) (.inl (by rfl))))))) (sv_one (g_set (i := 1) S.nd (by rfl) (.inl (by rfl)) (g_var (i := 3) (by rfl) (.inl (by rfl)))))))) (sv_one (sv_ret (g_var (i := 1) (by rfl) (.inl (by rfl)))))))
theorem sc7 : FnScope ["counts", "found"] ["counts"] (defScope st7) := ⟨rfl, rfl, rfl, by decide +kernel, rfl, by decide +kernel, by decide +kernel⟩
/-- bare -/
theorem ok7 (x : Fx K mg fa fd) (A : Al P w K mg base cl fa fd wf n) : FnOk P w K mg base CX0 (n + 1) (fa 7) (fd 7) ["counts"] (spOf ⟨K, cl⟩ (callF tab wf (n + 1) 7)) := by
  have S := sc7
  exact fn_stepD x.F7 S rfl fun cdv A0 outer s H E hr =>
    (sv_cons (g_own (i := 1) S.nd (by rfl) (.inl (by rfl)) (g_t1 call_list_of ok_list bt_list (by rfl) x.b_list (g_var (i := 0) (by rfl) (.inl (by rfl))))) (sv_cons (g_while (by exact PassesOwn.never) (c_cmp (op_eqD hr.units) ok_eq (g_idx (g_var (i := 1) (by rfl) (.inl (by rfl))) (g_neg ev_int)) ev_int (nomark _)) (sv_one (sv_expr (ev_mut0 mok_pop (pe_bm0 F.plainAttrs_list F.slot_list_pop F.type_list_pop mt_pop (g_var (i := 1) (by rfl) (.inl (by rfl)))))))) (sv_one (sv_ret (g_var (i := 1) (by rfl) (.inl (by rfl)))))))
theorem sc8 : FnScope ["heights", "at", "height"] ["heights"] (defScope st8) := ⟨rfl, rfl, rfl, by decide +kernel, rfl, by decide +kernel, by decide +kernel⟩
/-- roots_in -/
theorem ok8 (x : Fx K mg fa fd) (A : Al P w K mg base cl fa fd wf n) : FnOk P w K mg base CX0 (n + 1) (fa 8) (fd 8) ["heights"] (spOf ⟨K, cl⟩ (callF tab wf (n + 1) 8)) := by
  have S := sc8
  exact fn_stepD x.F8 S rfl fun cdv A0 outer s H E hr =>
    (sv_one (sv_ret (g_lc (own := [("at", 1), ("height", 2)]) (by rfl) S.nd (blkOk_by (N := ["heights", "at", "height"]) (sc := defScope st8) (by decide +kernel)) (iv_enum (by rfl) x.b_enumerate (ev_acons (g_var (i := 0) (by rfl) (.inl (by rfl))) ev_anil)) (fun _ _ _ _ _ => (gv_tup (by rfl) (gv_cons (g_name (i := 1) S.nd (by rfl) (.inl (by rfl))) (gv_cons (g_name (i := 2) S.nd (by rfl) (.inl (by rfl))) gv_nil)))) (fun _ _ _ _ _ => g_yes) (fun _ _ _ _ _ => (g_sub (g_var (i := 2) (by rfl) (.inl (by rfl))) (g_var (i := 1) (by rfl) (.inl (by rfl))))))))
theorem sc9 : FnScope ["number", "many", "found", "at"] ["number", "many"] (defScope st9) := ⟨rfl, rfl, rfl, by decide +kernel, rfl, by decide +kernel, by decide +kernel⟩
/-- falling -/
theorem ok9 (x : Fx K mg fa fd) (A : Al P w K mg base cl fa fd wf n) : FnOk P w K mg base CX0 (n + 1) (fa 9) (fd 9) ["number", "many"] (spOf ⟨K, cl⟩ (callF tab wf (n + 1) 9)) := by
  have S := sc9
  exact fn_stepD x.F9 S rfl fun cdv A0 outer s H E hr =>
    (sv_cons (g_set (i := 2) S.nd (by rfl) (.inl (by rfl)) ev_int) (sv_cons (g_for (by exact PassesOwn.never) (by rfl) (iv_r1 (by rfl) x.b_range (ev_acons (g_var (i := 1) (by rfl) (.inl (by rfl))) ev_anil)) (g_name (i := 3) S.nd (by rfl) (.inl (by rfl))) (sv_one (g_set (i := 2) S.nd (by rfl) (.inl (by rfl)) (g_mul (g_var (i := 2) (by rfl) (.inl (by rfl))) (g_sub (g_var (i := 0) (by rfl) (.inl (by rfl))) (g_var (i := 3) (by rfl) (.inl (by rfl)))))))) (sv_one (sv_ret (g_var (i := 2) (by rfl) (.inl (by rfl)))))))
theorem sc10 : FnScope ["heights"] ["heights"] (defScope st10) := ⟨rfl, rfl, rfl, by decide +kernel, rfl, by decide +kernel, by decide +kernel⟩
/-- pile_tower_counts -/
theorem ok10 (x : Fx K mg fa fd) (A : Al P w K mg base cl fa fd wf n) : FnOk P w K mg base CX0 (n + 1) (fa 10) (fd 10) ["heights"] (spOf ⟨K, cl⟩ (callF tab wf (n + 1) 10)) := by
  have S := sc10
  exact fn_stepD x.F10 S rfl fun cdv A0 outer s H E hr =>
    (sv_cons (sv_expr (ev_call A.a5 hr (by rfl) x.g5 x.F5.kp x.B5 (ev_acons (g_var (i := 0) (by rfl) (.inl (by rfl))) ev_anil))) (sv_one (sv_ret (g_t1 call_tuple_of ok_tuple bt_tuple (by rfl) x.b_tuple (ev_call A.a7 hr (by rfl) x.g7 x.F7.kp x.B7 (ev_acons (ev_call A.a6 hr (by rfl) x.g6 x.F6.kp x.B6 (ev_acons (g_var (i := 0) (by rfl) (.inl (by rfl))) ev_anil)) ev_anil))))))
theorem sc11 : FnScope ["heights"] ["heights"] (defScope st11) := ⟨rfl, rfl, rfl, by decide +kernel, rfl, by decide +kernel, by decide +kernel⟩
/-- pile_roots -/
theorem ok11 (x : Fx K mg fa fd) (A : Al P w K mg base cl fa fd wf n) : FnOk P w K mg base CX0 (n + 1) (fa 11) (fd 11) ["heights"] (spOf ⟨K, cl⟩ (callF tab wf (n + 1) 11)) := by
  have S := sc11
  exact fn_stepD x.F11 S rfl fun cdv A0 outer s H E hr =>
    (sv_cons (sv_expr (ev_call A.a5 hr (by rfl) x.g5 x.F5.kp x.B5 (ev_acons (g_var (i := 0) (by rfl) (.inl (by rfl))) ev_anil))) (sv_one (sv_ret (g_t1 call_tuple_of ok_tuple bt_tuple (by rfl) x.b_tuple (ev_call A.a8 hr (by rfl) x.g8 x.F8.kp x.B8 (ev_acons (g_var (i := 0) (by rfl) (.inl (by rfl))) ev_anil))))))
theorem sc12 : FnScope ["heights", "number", "found", "root"] ["heights", "number"] (defScope st12) := ⟨rfl, rfl, rfl, by decide +kernel, rfl, by decide +kernel, by decide +kernel⟩
/-- pile_worth -/
theorem ok12 (x : Fx K mg fa fd) (A : Al P w K mg base cl fa fd wf n) : FnOk P w K mg base CX0 (n + 1) (fa 12) (fd 12) ["heights", "number"] (spOf ⟨K, cl⟩ (callF tab wf (n + 1) 12)) := by
  have S := sc12
  exact fn_stepD x.F12 S rfl fun cdv A0 outer s H E hr =>
    (sv_cons (sv_expr (ev_call A.a5 hr (by rfl) x.g5 x.F5.kp x.B5 (ev_acons (g_var (i := 0) (by rfl) (.inl (by rfl))) ev_anil))) (sv_cons (sv_expr (ev_call A.a2 hr (by rfl) x.g2 x.F2.kp x.B2 (ev_acons (g_var (i := 1) (by rfl) (.inl (by rfl))) (ev_acons (g_neg (g_cint x.c_FAR (by rfl))) (ev_acons (g_cint x.c_FAR (by rfl)) ev_anil))))) (sv_cons (g_set (i := 2) S.nd (by rfl) (.inl (by rfl)) ev_int) (sv_cons (g_for (by exact PassesOwn.never) (by rfl) (iv_seq (ev_call A.a8 hr (by rfl) x.g8 x.F8.kp x.B8 (ev_acons (g_var (i := 0) (by rfl) (.inl (by rfl))) ev_anil))) (g_name (i := 3) S.nd (by rfl) (.inl (by rfl))) (sv_one (g_set (i := 2) S.nd (by rfl) (.inl (by rfl)) (g_mul (g_var (i := 2) (by rfl) (.inl (by rfl))) (g_add (g_var (i := 1) (by rfl) (.inl (by rfl))) (g_var (i := 3) (by rfl) (.inl (by rfl)))))))) (sv_one (sv_ret (g_var (i := 2) (by rfl) (.inl (by rfl)))))))))
theorem sc13 : FnScope ["heights", "number", "counts", "columns", "many"] ["heights", "number"] (defScope st13) := ⟨rfl, rfl, rfl, by decide +kernel, rfl, by decide +kernel, by decide +kernel⟩
/-- falling_worth -/
theorem ok13 (x : Fx K mg fa fd) (A : Al P w K mg base cl fa fd wf n) : FnOk P w K mg base CX0 (n + 1) (fa 13) (fd 13) ["heights", "number"] (spOf ⟨K, cl⟩ (callF tab wf (n + 1) 13)) := by
  have S := sc13
  exact fn_stepD x.F13 S rfl fun cdv A0 outer s H E hr =>
    (sv_cons (sv_expr (ev_call A.a5 hr (by rfl) x.g5 x.F5.kp x.B5 (ev_acons (g_var (i := 0) (by rfl) (.inl (by rfl))) ev_anil))) (sv_cons (sv_expr (ev_call A.a2 hr (by rfl) x.g2 x.F2.kp x.B2 (ev_acons (g_var (i := 1) (by rfl) (.inr (.inl (by rfl)))) (ev_acons (g_neg (g_cint x.c_FAR (by rfl))) (ev_acons (g_cint x.c_FAR (by rfl)) ev_anil))))) (sv_cons (g_asg (ev_tup (ev_acons (ev_call A.a6 hr (by rfl) x.g6 x.F6.kp x.B6 (ev_acons (g_var (i := 0) (by rfl) (.inl (by rfl))) ev_anil)) (ev_acons (g_b1 call_len ok_len bt_len (by rfl) x.b_len (g_var (i := 0) (by rfl) (.inl (by rfl)))) ev_anil))) (gv_tup (by rfl) (gv_cons (g_name (i := 2) S.nd (by rfl) (.inr (by rfl))) (gv_cons (g_name (i := 3) S.nd (by rfl) (.inr (by rfl))) gv_nil)))) (sv_one (sv_ret (g_b1 (cr_sum (by rfl)) ok_sum bt_sum (by rfl) x.b_sum (g_lc (own := [("many", 4)]) (by rfl) S.nd (blkOk_by (N := ["heights", "number", "counts", "columns", "many"]) (sc := defScope st13) (by decide +kernel)) (iv_r1 (by rfl) x.b_range (ev_acons (g_add (g_var (i := 3) (by rfl) (.inr (.inl (by rfl)))) ev_int) ev_anil)) (fun _ _ _ _ _ => (g_name (i := 4) S.nd (by rfl) (.inl (by rfl)))) (fun _ _ _ _ _ => g_yes) (fun _ _ _ _ _ => (g_mul (g_idx (g_var (i := 2) (by rfl) (.inr (.inl (by rfl)))) (g_var (i := 4) (by rfl) (.inl (by rfl)))) (ev_call A.a9 hr (by rfl) x.g9 x.F9.kp x.B9 (ev_acons (g_var (i := 1) (by rfl) (.inr (.inl (by rfl)))) (ev_acons (g_sub (g_var (i := 3) (by rfl) (.inr (.inl (by rfl)))) (g_var (i := 4) (by rfl) (.inl (by rfl)))) ev_anil))))))))))))
theorem sc14 : FnScope ["script", "cell"] ["script"] (defScope st14) := ⟨rfl, rfl, rfl, by decide +kernel, rfl, by decide +kernel, by decide +kernel⟩
/-- _law_cup -/
theorem ok14 (x : Fx K mg fa fd) (A : Al P w K mg base cl fa fd wf n) : FnOk P w K mg base CX0 (n + 1) (fa 14) (fd 14) ["script"] (spOf ⟨K, cl⟩ (callF tab wf (n + 1) 14)) := by
  have S := sc14
  exact fn_stepD x.F14 S rfl fun cdv A0 outer s H E hr =>
    (sv_cons (g_set (i := 1) S.nd (by rfl) (.inl (by rfl)) (g_b1 call_abs ok_abs bt_abs (by rfl) x.b_abs (g_idx (g_add (g_t1 call_list_of ok_list bt_list (by rfl) x.b_list (g_var (i := 0) (by rfl) (.inl (by rfl)))) (ev_lst (ev_acons ev_int ev_anil))) ev_int))) (sv_one (sv_ret (ev_new (ev_lst (ev_acons (ev_ifexp (c_cmp op_ge ok_cmp (g_var (i := 1) (by rfl) (.inl (by rfl))) (g_pow ev_int ev_int) (nomark _)) (g_fdiv (g_var (i := 1) (by rfl) (.inl (by rfl))) ev_int) ev_int) (ev_acons (g_add (g_mod (g_t1 call_int1 ok_int bt_int (by rfl) x.b_int (g_add (g_mul (g_var (i := 1) (by rfl) (.inl (by rfl))) ev_int) ev_int)) ev_int) ev_int) ev_anil)))))))
theorem sc15 : FnScope ["cup", "many", "found", "deep"] ["cup", "many"] (defScope st15) := ⟨rfl, rfl, rfl, by decide +kernel, rfl, by decide +kernel, by decide +kernel⟩
/-- _law_roll -/
theorem ok15 (x : Fx K mg fa fd) (A : Al P w K mg base cl fa fd wf n) : FnOk P w K mg base CX0 (n + 1) (fa 15) (fd 15) ["cup", "many"] (spOf ⟨K, cl⟩ (callF tab wf (n + 1) 15)) := by
  have S := sc15
  exact fn_stepD x.F15 S rfl fun cdv A0 outer s H E hr =>
    (sv_cons (sv_if (c_cmp op_gt ok_cmp (g_idx (g_var (i := 0) (by rfl) (.inl (by rfl))) ev_int) ev_int (nomark _)) (sv_cons (g_set (i := 2) S.nd (by rfl) (.inl (by rfl)) (g_mod (g_t1 call_int1 ok_int bt_int (by rfl) x.b_int (g_idx (g_var (i := 0) (by rfl) (.inl (by rfl))) ev_int)) (g_var (i := 1) (by rfl) (.inl (by rfl))))) (sv_cons (g_put (g_fdiv (g_idx (g_var (i := 0) (by rfl) (.inl (by rfl))) ev_int) (g_var (i := 1) (by rfl) (.inl (by rfl)))) (g_var (i := 0) (by rfl) (.inl (by rfl))) ev_int) (sv_one (sv_ret (g_var (i := 2) (by rfl) (.inl (by rfl))))))) sv_nil) (sv_cons (g_put (g_mod (g_t1 call_int1 ok_int bt_int (by rfl) x.b_int (g_add (g_mul (g_idx (g_var (i := 0) (by rfl) (.inl (by rfl))) ev_int) ev_int) ev_int)) ev_int) (g_var (i := 0) (by rfl) (.inl (by rfl))) ev_int) (sv_cons (g_set (i := 3) S.nd (by rfl) (.inl (by rfl)) (g_mod (g_t1 call_int1 ok_int bt_int (by rfl) x.b_int (g_mul (g_idx (g_var (i := 0) (by rfl) (.inl (by rfl))) ev_int) (g_add (g_idx (g_var (i := 0) (by rfl) (.inl (by rfl))) ev_int) ev_int))) ev_int)) (sv_one (sv_ret (g_mod (g_t1 call_int1 ok_int bt_int (by rfl) x.b_int (g_fdiv (g_var (i := 3) (by rfl) (.inl (by rfl))) ev_int)) (g_var (i := 1) (by rfl) (.inl (by rfl)))))))))
theorem sc16 : FnScope ["value"] ["value"] (defScope st16) := ⟨rfl, rfl, rfl, by decide +kernel, rfl, by decide +kernel, by decide +kernel⟩
/-- _law_sort -/
theorem ok16 (x : Fx K mg fa fd) (A : Al P w K mg base cl fa fd wf n) : FnOk P w K mg base CX0 (n + 1) (fa 16) (fd 16) ["value"] (spOf ⟨K, cl⟩ (callF tab wf (n + 1) 16)) := by
  have S := sc16
  exact fn_stepD x.F16 S rfl fun cdv A0 outer s H E hr =>
    (sv_cons (sv_if (ev_cor (c_cmp or_is ok_is (g_var (i := 0) (by rfl) (.inl (by rfl))) ev_non (nomark _)) (ev_cor1 (c_val (g_isT (T := "bool") (by rfl) x.b_isinstance (by rfl) x.b_bool bt_bool (g_var (i := 0) (by rfl) (.inl (by rfl))))))).pt (sv_one (sv_ret (ev_ifexp (c_cmp or_is ok_is (g_var (i := 0) (by rfl) (.inl (by rfl))) ev_non (nomark _)) ev_int ev_int))) sv_nil) (sv_cons (sv_if (ev_cor (c_val (g_isT (T := "int") (by rfl) x.b_isinstance (by rfl) x.b_int bt_int (g_var (i := 0) (by rfl) (.inl (by rfl))))) (ev_cor1 (c_val (g_isT (T := "str") (by rfl) x.b_isinstance (by rfl) x.b_str bt_str (g_var (i := 0) (by rfl) (.inl (by rfl))))))).pt (sv_one (sv_ret (ev_ifexp (c_val (g_isT (T := "int") (by rfl) x.b_isinstance (by rfl) x.b_int bt_int (g_var (i := 0) (by rfl) (.inl (by rfl))))) ev_int ev_int))) sv_nil) (sv_one (sv_ret (ev_ifexp (c_val (g_isT (T := "tuple") (by rfl) x.b_isinstance (by rfl) x.b_tuple bt_tuple (g_var (i := 0) (by rfl) (.inl (by rfl))))) ev_int (ev_ifexp (c_val (g_isT (T := "list") (by rfl) x.b_isinstance (by rfl) x.b_list bt_list (g_var (i := 0) (by rfl) (.inl (by rfl))))) ev_int ev_int))))))
theorem sc17 : FnScope ["one", "other", "sort", "first", "second"] ["one", "other"] (defScope st17) := ⟨rfl, rfl, rfl, by decide +kernel, rfl, by decide +kernel, by decide +kernel⟩
/-- _law_like -/
theorem ok17 (x : Fx K mg fa fd) (A : Al P w K mg base cl fa fd wf n) : FnOk P w K mg base CX0 (n + 1) (fa 17) (fd 17) ["one", "other"] (spOf ⟨K, cl⟩ (callF tab wf (n + 1) 17)) := by
  have S := sc17
  exact fn_stepD x.F17 S rfl fun cdv A0 outer s H E hr =>
    (sv_cons (g_set (i := 2) S.nd (by rfl) (.inl (by rfl)) (ev_call A.a16 hr (by rfl) x.g16 x.F16.kp x.B16 (ev_acons (g_var (i := 1) (by rfl) (.inl (by rfl))) ev_anil))) (sv_cons (sv_if (ev_cor (c_cmp (op_neD hr.units) ok_ne (ev_call A.a16 hr (by rfl) x.g16 x.F16.kp x.B16 (ev_acons (g_var (i := 0) (by rfl) (.inl (by rfl))) ev_anil)) (g_var (i := 2) (by rfl) (.inl (by rfl))) (nomark _)) (ev_cor1 (c_cmp (op_eqD hr.units) ok_eq (g_var (i := 2) (by rfl) (.inl (by rfl))) ev_int (nomark _)))).pt (sv_one (sv_ret ev_bl)) sv_nil) (sv_cons (sv_if (c_cmp (or_in hr.units65) ok_in (g_var (i := 2) (by rfl) (.inl (by rfl))) (ev_tup (ev_acons ev_int (ev_acons ev_int ev_anil))) (by with_unfolding_all rfl)) (sv_one (sv_ret (ev_and (g_cmp (op_eqD hr.units) ok_eq (g_b1 call_len ok_len bt_len (by rfl) x.b_len (g_var (i := 0) (by rfl) (.inl (by rfl)))) (g_b1 call_len ok_len bt_len (by rfl) x.b_len (g_var (i := 1) (by rfl) (.inl (by rfl)))) (nomark _)) (ev_one (g_cmp (op_eqD hr.units) ok_eq (g_lc (own := [("first", 3), ("second", 4)]) (by rfl) S.nd (blkOk_by (N := ["one", "other", "sort", "first", "second"]) (sc := defScope st17) (by decide +kernel)) (iv_zip (by rfl) x.b_zip (ev_acons (g_var (i := 0) (by rfl) (.inl (by rfl))) (ev_acons (g_var (i := 1) (by rfl) (.inl (by rfl))) ev_anil))) (fun _ _ _ _ _ => (gv_tup (by rfl) (gv_cons (g_name (i := 3) S.nd (by rfl) (.inl (by rfl))) (gv_cons (g_name (i := 4) S.nd (by rfl) (.inl (by rfl))) gv_nil)))) (fun _ _ _ _ _ => (pts_one (ev_cnot (c_val (ev_call A.a17 hr (by rfl) x.g17 x.F17.kp x.B17 (ev_acons (g_var (i := 3) (by rfl) (.inl (by rfl))) (ev_acons (g_var (i := 4) (by rfl) (.inl (by rfl))) ev_anil))))))) (fun _ _ _ _ _ => ev_int)) (ev_lst ev_anil) (nomark _)))))) sv_nil) (sv_one (sv_ret (g_cmp (op_eqD hr.units) ok_eq (g_var (i := 0) (by rfl) (.inl (by rfl))) (g_var (i := 1) (by rfl) (.inl (by rfl))) (nomark _)))))))
theorem sc18 : FnScope ["cup", "columns", "top", "column"] ["cup", "columns", "top"] (defScope st18) := ⟨rfl, rfl, rfl, by decide +kernel, rfl, by decide +kernel, by decide +kernel⟩
/-- _law_heights -/
theorem ok18 (x : Fx K mg fa fd) (A : Al P w K mg base cl fa fd wf n) : FnOk P w K mg base CX0 (n + 1) (fa 18) (fd 18) ["cup", "columns", "top"] (spOf ⟨K, cl⟩ (callF tab wf (n + 1) 18)) := by
  have S := sc18
  exact fn_stepD x.F18 S rfl fun cdv A0 outer s H E hr =>
    (sv_one (sv_ret (g_t1 call_tuple_of ok_tuple bt_tuple (by rfl) x.b_tuple (g_b1 cr_sortedI ok_sorted bt_sorted (by rfl) x.b_sorted (g_lc (own := [("column", 3)]) (by rfl) S.nd (blkOk_by (N := ["cup", "columns", "top", "column"]) (sc := defScope st18) (by decide +kernel)) (iv_r1 (by rfl) x.b_range (ev_acons (g_add ev_int (ev_call A.a15 hr (by rfl) x.g15 x.F15.kp x.B15 (ev_acons (g_var (i := 0) (by rfl) (.inr (.inl (by rfl)))) (ev_acons (g_var (i := 1) (by rfl) (.inl (by rfl))) ev_anil)))) ev_anil)) (fun _ _ _ _ _ => (g_name (i := 3) S.nd (by rfl) (.inl (by rfl)))) (fun _ _ _ _ _ => g_yes) (fun _ _ _ _ _ => (ev_call A.a15 hr (by rfl) x.g15 x.F15.kp x.B15 (ev_acons (g_var (i := 0) (by rfl) (.inr (.inl (by rfl)))) (ev_acons (g_add (g_var (i := 2) (by rfl) (.inr (.inl (by rfl)))) ev_int) ev_anil)))))))))
theorem sc19 : FnScope ["heights", "found", "height", "longer", "many"] ["heights"] (defScope st19) := ⟨rfl, rfl, rfl, by decide +kernel, rfl, by decide +kernel, by decide +kernel⟩
/-- _law_counts -/
theorem ok19 (x : Fx K mg fa fd) (A : Al P w K mg base cl fa fd wf n) : FnOk P w K mg base CX0 (n + 1) (fa 19) (fd 19) ["heights"] (spOf ⟨K, cl⟩ (callF tab wf (n + 1) 19)) := by
  have S := sc19
  exact fn_stepD x.F19 S rfl fun cdv A0 outer s H E hr =>
    (sv_cons (g_set (i := 1) S.nd (by rfl) (.inl (by rfl)) (ev_lst (ev_acons ev_int ev_anil))) (sv_cons (g_for (by exact PassesOwn.never) (by rfl) (iv_seq (g_var (i := 0) (by rfl) (.inl (by rfl)))) (g_name (i := 2) S.nd (by rfl) (.inl (by rfl))) (sv_cons (g_own (i := 3) S.nd (by rfl) (.inl (by rfl)) (g_add (g_var (i := 1) (by rfl) (.inl (by rfl))) (ev_lst (ev_acons ev_int ev_anil)))) (sv_cons (g_for (by exact PassesOwn.never) (by rfl) (iv_r1 (by rfl) x.b_range (ev_acons (g_b1 call_len ok_len bt_len (by rfl) x.b_len (g_var (i := 1) (by rfl) (.inl (by rfl)))) ev_anil)) (g_name (i := 4) S.nd (by rfl) (.inl (by rfl))) (sv_one (g_put (g_add (g_idx (g_var (i := 3) (by rfl) (.inl (by rfl))) (g_add (g_var (i := 4) (by rfl) (.inl (by rfl))) ev_int)) (g_mul (g_idx (g_var (i := 1) (by rfl) (.inl (by rfl))) (g_var (i := 4) (by rfl) (.inl (by rfl)))) (g_b2 (call_max2 (by rfl)) ok_max2 bt_max (by rfl) x.b_max ev_int (g_sub (g_var (i := 2) (by rfl) (.inl (by rfl))) (g_var (i := 4) (by rfl) (.inl (by rfl))))))) (g_var (i := 3) (by rfl) (.inl (by rfl))) (g_add (g_var (i := 4) (by rfl) (.inl (by rfl))) ev_int)))) (sv_one (g_set (i := 1) S.nd (by rfl) (.inl (by rfl)) (g_var (i := 3) (by rfl) (.inl (by rfl)))))))) (sv_cons (g_while (by exact PassesOwn.never) (c_cmp (op_eqD hr.units) ok_eq (g_idx (g_var (i := 1) (by rfl) (.inl (by rfl))) (g_neg ev_int)) ev_int (nomark _)) (sv_one (g_set (i := 1) S.nd (by rfl) (.inl (by rfl)) (ev_slice (g_var (i := 1) (by rfl) (.inl (by rfl))) ov_none (ov_some (g_neg ev_int)))))) (sv_one (sv_ret (g_var (i := 1) (by rfl) (.inl (by rfl))))))))
theorem sc20 : FnScope ["cup", "heights", "roots", "counts", "number", "product", "root", "whole", "fall", "here", "step", "many", "ways", "at", "height"] ["cup", "heights"] (defScope st20) := ⟨rfl, rfl, rfl, by decide +kernel, rfl, by decide +kernel, by decide +kernel⟩
/-- _law_right -/
theorem ok20 (x : Fx K mg fa fd) (A : Al P w K mg base cl fa fd wf n) : FnOk P w K mg base CX0 (n + 1) (fa 20) (fd 20) ["cup", "heights"] (spOf ⟨K, cl⟩ (callF tab wf (n + 1) 20)) := by
  have S := sc20
  exact fn_stepD x.F20 S rfl fun cdv A0 outer s H E hr =>
    (sv_cons (g_set (i := 2) S.nd (by rfl) (.inl (by rfl)) (g_t1 call_tuple_of ok_tuple bt_tuple (by rfl) x.b_tuple (g_lc (own := [("at", 13), ("height", 14)]) (by rfl) S.nd (blkOk_by (N := ["cup", "heights", "roots", "counts", "number", "product", "root", "whole", "fall", "here", "step", "many", "ways", "at", "height"]) (sc := defScope st20) (by decide +kernel)) (iv_enum (by rfl) x.b_enumerate (ev_acons (g_var (i := 1) (by rfl) (.inl (by rfl))) ev_anil)) (fun _ _ _ _ _ => (gv_tup (by rfl) (gv_cons (g_name (i := 13) S.nd (by rfl) (.inl (by rfl))) (gv_cons (g_name (i := 14) S.nd (by rfl) (.inl (by rfl))) gv_nil)))) (fun _ _ _ _ _ => g_yes) (fun _ _ _ _ _ => (g_sub (g_var (i := 14) (by rfl) (.inl (by rfl))) (g_var (i := 13) (by rfl) (.inl (by rfl)))))))) (sv_cons (sv_if (ev_cnot (c_val (ev_call A.a17 hr (by rfl) x.g17 x.F17.kp x.B17 (ev_acons (ev_call A.a11 hr (by rfl) x.g11 x.F11.kp x.B11 (ev_acons (g_var (i := 1) (by rfl) (.inl (by rfl))) ev_anil)) (ev_acons (g_var (i := 2) (by rfl) (.inl (by rfl))) ev_anil))))) (sv_one (sv_ret ev_bl)) sv_nil) (sv_cons (g_set (i := 3) S.nd (by rfl) (.inl (by rfl)) (ev_call A.a19 hr (by rfl) x.g19 x.F19.kp x.B19 (ev_acons (g_var (i := 1) (by rfl) (.inl (by rfl))) ev_anil))) (sv_cons (g_for (by exact PassesOwn.never) (by rfl) (iv_seq (ev_lst (ev_acons ev_int (ev_acons ev_int (ev_acons (g_neg ev_int) (ev_acons (g_sub (ev_call A.a15 hr (by rfl) x.g15 x.F15.kp x.B15 (ev_acons (g_var (i := 0) (by rfl) (.inl (by rfl))) (ev_acons ev_int ev_anil))) ev_int) (ev_acons (g_sub (ev_call A.a15 hr (by rfl) x.g15 x.F15.kp x.B15 (ev_acons (g_var (i := 0) (by rfl) (.inl (by rfl))) (ev_acons ev_int ev_anil))) ev_int) ev_anil))))))) (g_name (i := 4) S.nd (by rfl) (.inl (by rfl))) (sv_cons (g_set (i := 5) S.nd (by rfl) (.inl (by rfl)) ev_int) (sv_cons (g_for (by exact PassesOwn.never) (by rfl) (iv_seq (g_var (i := 2) (by rfl) (.inl (by rfl)))) (g_name (i := 6) S.nd (by rfl) (.inl (by rfl))) (sv_one (g_set (i := 5) S.nd (by rfl) (.inl (by rfl)) (g_mul (g_var (i := 5) (by rfl) (.inl (by rfl))) (g_add (g_var (i := 4) (by rfl) (.inl (by rfl))) (g_var (i := 6) (by rfl) (.inl (by rfl)))))))) (sv_cons (sv_par2 (ps_par (by rfl) S.nd (by rfl) (by rfl) (by decide) (by rfl) (by rfl) (pa_cons ev_int (pa_cons (ev_lst ev_anil) pa_nil)) (by rfl))) (sv_cons (g_set (i := 9) S.nd (by rfl) (.inl (by rfl)) ev_int) (sv_cons (g_for (by exact PassesOwn.never) (by rfl) (iv_r1 (by rfl) x.b_range (ev_acons (g_add (g_b1 call_len ok_len bt_len (by rfl) x.b_len (g_var (i := 1) (by rfl) (.inl (by rfl)))) ev_int) ev_anil)) (g_name (i := 10) S.nd (by rfl) (.inl (by rfl))) (sv_cons (sv_expr (ev_mut mok_append (pe_bm F.plainAttrs_list F.slot_list_append F.type_list_append mt_append (g_var (i := 8) (by rfl) (.inl (by rfl))) (ev_acons (g_var (i := 9) (by rfl) (.inl (by rfl))) ev_anil)))) (sv_one (g_set (i := 9) S.nd (by rfl) (.inl (by rfl)) (g_mul (g_var (i := 9) (by rfl) (.inl (by rfl))) (g_sub (g_var (i := 4) (by rfl) (.inl (by rfl))) (g_var (i := 10) (by rfl) (.inl (by rfl))))))))) (sv_cons (g_for (by exact PassesOwn.never) (by rfl) (iv_enum (by rfl) x.b_enumerate (ev_acons (g_var (i := 3) (by rfl) (.inl (by rfl))) ev_anil)) (gv_tup (by rfl) (gv_cons (g_name (i := 11) S.nd (by rfl) (.inl (by rfl))) (gv_cons (g_name (i := 12) S.nd (by rfl) (.inl (by rfl))) gv_nil))) (sv_one (g_set (i := 7) S.nd (by rfl) (.inl (by rfl)) (g_add (g_var (i := 7) (by rfl) (.inl (by rfl))) (g_mul (g_var (i := 12) (by rfl) (.inl (by rfl))) (g_idx (g_var (i := 8) (by rfl) (.inl (by rfl))) (g_sub (g_b1 call_len ok_len bt_len (by rfl) x.b_len (g_var (i := 1) (by rfl) (.inl (by rfl)))) (g_var (i := 11) (by rfl) (.inl (by rfl)))))))))) (sv_one (sv_if (ev_cor (ev_cnot (c_val (ev_call A.a17 hr (by rfl) x.g17 x.F17.kp x.B17 (ev_acons (ev_lst (ev_acons (ev_call A.a12 hr (by rfl) x.g12 x.F12.kp x.B12 (ev_acons (g_var (i := 1) (by rfl) (.inl (by rfl))) (ev_acons (g_var (i := 4) (by rfl) (.inl (by rfl))) ev_anil))) (ev_acons (ev_call A.a13 hr (by rfl) x.g13 x.F13.kp x.B13 (ev_acons (g_var (i := 1) (by rfl) (.inl (by rfl))) (ev_acons (g_var (i := 4) (by rfl) (.inl (by rfl))) ev_anil))) ev_anil))) (ev_acons (ev_lst (ev_acons (g_var (i := 5) (by rfl) (.inl (by rfl))) (ev_acons (g_var (i := 5) (by rfl) (.inl (by rfl))) ev_anil))) ev_anil))))) (ev_cor1 (c_cmp (op_neD hr.units) ok_ne (g_var (i := 7) (by rfl) (.inl (by rfl))) (g_var (i := 5) (by rfl) (.inl (by rfl))) (nomark _)))).pt (sv_one (sv_ret ev_bl)) sv_nil))))))))) (sv_one (sv_ret ev_bl))))))
theorem sc21 : FnScope ["heights", "counts", "columns", "left", "number", "whole", "here", "step", "due", "many"] ["heights"] (defScope st21) := ⟨rfl, rfl, rfl, by decide +kernel, rfl, by decide +kernel, by decide +kernel⟩
/-- _law_found_right -/
theorem ok21 (x : Fx K mg fa fd) (A : Al P w K mg base cl fa fd wf n) : FnOk P w K mg base CX0 (n + 1) (fa 21) (fd 21) ["heights"] (spOf ⟨K, cl⟩ (callF tab wf (n + 1) 21)) := by
  have S := sc21
  exact fn_stepD x.F21 S rfl fun cdv A0 outer s H E hr =>
    (sv_cons (g_asg (ev_tup (ev_acons (ev_call A.a10 hr (by rfl) x.g10 x.F10.kp x.B10 (ev_acons (g_var (i := 0) (by rfl) (.inl (by rfl))) ev_anil)) (ev_acons (g_b1 call_len ok_len bt_len (by rfl) x.b_len (g_var (i := 0) (by rfl) (.inl (by rfl)))) ev_anil))) (gv_tup (by rfl) (gv_cons (g_name (i := 1) S.nd (by rfl) (.inr (by rfl))) (gv_cons (g_name (i := 2) S.nd (by rfl) (.inl (by rfl))) gv_nil)))) (sv_cons (g_own (i := 3) S.nd (by rfl) (.inl (by rfl)) (ev_lst ev_anil)) (sv_cons (g_for (by exact PassesOwn.never) (by rfl) (iv_r1 (by rfl) x.b_range (ev_acons (g_add (g_var (i := 2) (by rfl) (.inl (by rfl))) ev_int) ev_anil)) (g_name (i := 4) S.nd (by rfl) (.inl (by rfl))) (sv_cons (sv_par2 (ps_par (by rfl) S.nd (by rfl) (by rfl) (by decide) (by rfl) (by rfl) (pa_cons (ev_call A.a12 hr (by rfl) x.g12 x.F12.kp x.B12 (ev_acons (g_var (i := 0) (by rfl) (.inl (by rfl))) (ev_acons (g_var (i := 4) (by rfl) (.inl (by rfl))) ev_anil))) (pa_cons ev_int pa_nil)) (by rfl))) (sv_cons (g_for (by exact PassesOwn.never) (by rfl) (iv_r1 (by rfl) x.b_range (ev_acons (g_var (i := 4) (by rfl) (.inl (by rfl))) ev_anil)) (g_name (i := 7) S.nd (by rfl) (.inl (by rfl))) (sv_cons (g_set (i := 5) S.nd (by rfl) (.inl (by rfl)) (g_sub (g_var (i := 5) (by rfl) (.inl (by rfl))) (g_mul (g_idx (g_var (i := 3) (by rfl) (.inl (by rfl))) (g_var (i := 7) (by rfl) (.inl (by rfl)))) (g_var (i := 6) (by rfl) (.inl (by rfl)))))) (sv_one (g_set (i := 6) S.nd (by rfl) (.inl (by rfl)) (g_mul (g_var (i := 6) (by rfl) (.inl (by rfl))) (g_sub (g_var (i := 4) (by rfl) (.inl (by rfl))) (g_var (i := 7) (by rfl) (.inl (by rfl))))))))) (sv_one (sv_expr (ev_mut mok_append (pe_bm F.plainAttrs_list F.slot_list_append F.type_list_append mt_append (g_var (i := 3) (by rfl) (.inl (by rfl))) (ev_acons (g_t1 call_int1 ok_int bt_int (by rfl) x.b_int (g_fdiv (g_var (i := 5) (by rfl) (.inl (by rfl))) (g_var (i := 6) (by rfl) (.inl (by rfl))))) ev_anil)))))))) (sv_cons (g_setLc (i := 8) (own := [("many", 9)]) (by rfl) S.nd (blkOk_by (N := ["heights", "counts", "columns", "left", "number", "whole", "here", "step", "due", "many"]) (sc := defScope st21) (by decide +kernel)) (by rfl) (by rfl) (sw_true (by rfl) (by rfl) (by rfl) (by decide +kernel)) (iv_r3 (by rfl) x.b_range (ev_acons (g_var (i := 2) (by rfl) (.inl (by rfl))) (ev_acons (g_neg ev_int) (ev_acons (g_neg ev_int) ev_anil)))) (fun _ _ _ _ _ => (g_name (i := 9) S.nd (by rfl) (.inl (by rfl)))) (fun _ _ _ _ _ => g_yes) (fun _ _ _ _ _ => (ev_ifexp (c_cmp op_lt ok_cmp (g_var (i := 9) (by rfl) (.inl (by rfl))) (g_b1 call_len ok_len bt_len (by rfl) x.b_len (g_var (i := 1) (by rfl) (.inr (.inl (by rfl))))) (nomark _)) (g_idx (g_var (i := 1) (by rfl) (.inr (.inl (by rfl)))) (g_var (i := 9) (by rfl) (.inl (by rfl)))) ev_int))).1 (sv_one (sv_ret (g_cmp (op_eqD hr.units) ok_eq (g_var (i := 3) (by rfl) (.inl (by rfl))) (g_var (i := 8) (by rfl) (.inl (by rfl))) (nomark _))))))))
theorem sc22 : FnScope ["told"] [] (defScope st22) := ⟨rfl, rfl, rfl, by decide +kernel, rfl, by decide +kernel, by decide +kernel⟩
/-- _law_written_right -/
theorem ok22 (x : Fx K mg fa fd) (A : Al P w K mg base cl fa fd wf n) : FnOk P w K mg base CX0 (n + 1) (fa 22) (fd 22) [] (spOf ⟨K, cl⟩ (callF tab wf (n + 1) 22)) := by
  have S := sc22
  exact fn_stepD x.F22 S rfl fun cdv A0 outer s H E hr =>
    (sv_cons (g_set (i := 0) S.nd (by rfl) (.inl (by rfl)) (ev_lst (ev_acons (ev_call A.a11 hr (by rfl) x.g11 x.F11.kp x.B11 (ev_acons (ev_tup (ev_acons ev_int (ev_acons ev_int (ev_acons ev_int ev_anil)))) ev_anil)) (ev_acons (ev_call A.a12 hr (by rfl) x.g12 x.F12.kp x.B12 (ev_acons (ev_tup (ev_acons ev_int (ev_acons ev_int (ev_acons ev_int ev_anil)))) (ev_acons ev_int ev_anil))) (ev_acons (ev_call A.a13 hr (by rfl) x.g13 x.F13.kp x.B13 (ev_acons (ev_tup (ev_acons ev_int (ev_acons ev_int (ev_acons ev_int ev_anil)))) (ev_acons ev_int ev_anil))) (ev_acons (ev_call A.a11 hr (by rfl) x.g11 x.F11.kp x.B11 (ev_acons (g_mul (ev_tup (ev_acons ev_int ev_anil)) ev_int) ev_anil)) (ev_acons (ev_call A.a12 hr (by rfl) x.g12 x.F12.kp x.B12 (ev_acons (g_mul (ev_tup (ev_acons ev_int ev_anil)) ev_int) (ev_acons ev_int ev_anil))) (ev_acons (ev_call A.a12 hr (by rfl) x.g12 x.F12.kp x.B12 (ev_acons (g_mul (ev_tup (ev_acons ev_int ev_anil)) ev_int) (ev_acons ev_int ev_anil))) (ev_acons (ev_call A.a13 hr (by rfl) x.g13 x.F13.kp x.B13 (ev_acons (ev_tup (ev_acons ev_int ev_anil)) (ev_acons (g_neg ev_int) ev_anil))) ev_anil))))))))) (sv_one (sv_ret (ev_call A.a17 hr (by rfl) x.g17 x.F17.kp x.B17 (ev_acons (g_var (i := 0) (by rfl) (.inl (by rfl))) (ev_acons (ev_lst (ev_acons (ev_tup (ev_acons ev_int (ev_acons ev_int (ev_acons ev_int ev_anil)))) (ev_acons ev_int (ev_acons ev_int (ev_acons (ev_tup (ev_acons ev_int (ev_acons (g_neg ev_int) (ev_acons (g_neg ev_int) (ev_acons (g_neg ev_int) ev_anil))))) (ev_acons ev_int (ev_acons ev_int (ev_acons (g_neg ev_int) ev_anil)))))))) ev_anil))))))
theorem sc23 : FnScope ["script", "cup", "columns", "top"] ["script"] (defScope st23) := ⟨rfl, rfl, rfl, by decide +kernel, rfl, by decide +kernel, by decide +kernel⟩
/-- law -/
theorem ok23 (x : Fx K mg fa fd) (A : Al P w K mg base cl fa fd wf n) : FnOk P w K mg base CX0 (n + 1) (fa 23) (fd 23) ["script"] (spOf ⟨K, cl⟩ (callF tab wf (n + 1) 23)) := by
  have S := sc23
  exact fn_stepD x.F23 S rfl fun cdv A0 outer s H E hr =>
    (sv_cons (sv_if (ev_cnot (c_val (ev_call0 A.a22 hr (by rfl) x.g22 x.F22.kp x.B22))) (sv_one (sv_ret ev_bl)) sv_nil) (sv_cons (g_set (i := 1) S.nd (by rfl) (.inl (by rfl)) (ev_call A.a14 hr (by rfl) x.g14 x.F14.kp x.B14 (ev_acons (g_var (i := 0) (by rfl) (.inl (by rfl))) ev_anil))) (sv_cons (g_for (by exact PassesOwn.never) (by rfl) (iv_seq (ev_tup (ev_acons (ev_tup (ev_acons ev_int (ev_acons ev_int ev_anil))) (ev_acons (ev_tup (ev_acons ev_int (ev_acons ev_int ev_anil))) (ev_acons (ev_tup (ev_acons ev_int (ev_acons ev_int ev_anil))) (ev_acons (ev_tup (ev_acons ev_int (ev_acons ev_int ev_anil))) ev_anil)))))) (gv_tup (by rfl) (gv_cons (g_name (i := 2) S.nd (by rfl) (.inl (by rfl))) (gv_cons (g_name (i := 3) S.nd (by rfl) (.inl (by rfl))) gv_nil))) (sv_one (sv_if (ev_cnot (c_val (ev_call A.a20 hr (by rfl) x.g20 x.F20.kp x.B20 (ev_acons (g_var (i := 1) (by rfl) (.inl (by rfl))) (ev_acons (ev_call A.a18 hr (by rfl) x.g18 x.F18.kp x.B18 (ev_acons (g_var (i := 1) (by rfl) (.inl (by rfl))) (ev_acons (g_var (i := 2) (by rfl) (.inl (by rfl))) (ev_acons (g_var (i := 3) (by rfl) (.inl (by rfl))) ev_anil)))) ev_anil))))) (sv_one (sv_ret ev_bl)) sv_nil))) (sv_one (sv_ret (ev_and (ev_call A.a21 hr (by rfl) x.g21 x.F21.kp x.B21 (ev_acons (ev_call A.a18 hr (by rfl) x.g18 x.F18.kp x.B18 (ev_acons (g_var (i := 1) (by rfl) (.inl (by rfl))) (ev_acons ev_int (ev_acons ev_int ev_anil)))) ev_anil)) (ev_one (ev_call A.a21 hr (by rfl) x.g21 x.F21.kp x.B21 (ev_acons (ev_call A.a18 hr (by rfl) x.g18 x.F18.kp x.B18 (ev_acons (g_var (i := 1) (by rfl) (.inl (by rfl))) (ev_acons ev_int (ev_acons ev_int ev_anil)))) ev_anil)))))))))
theorem all (x : Fx K mg fa fd) : ∀ n, Al P w K mg base cl fa fd wf n
  | 0 => ⟨fn_zero, fn_zero, fn_zero, fn_zero, fn_zero, fn_zero, fn_zero, fn_zero, fn_zero, fn_zero, fn_zero, fn_zero, fn_zero, fn_zero, fn_zero, fn_zero, fn_zero, fn_zero, fn_zero, fn_zero, fn_zero, fn_zero, fn_zero, fn_zero⟩
  | n + 1 => by
    have A := all x n
    exact ⟨ok0 x A, ok1 x A, ok2 x A, ok3 x A, ok4 x A, ok5 x A, ok6 x A, ok7 x A, ok8 x A, ok9 x A, ok10 x A, ok11 x A, ok12 x A, ok13 x A, ok14 x A, ok15 x A, ok16 x A, ok17 x A, ok18 x A, ok19 x A, ok20 x A, ok21 x A, ok22 x A, ok23 x A⟩
end
end K12

namespace K12
open Mp PySem

section
variable {wf n : Nat} {S : Store}
abbrev cl (wf n f : Nat) (ds : List D) (S : Store) := callF tab wf n f ds S
theorem f0 {i : Int} : callF tab wf (n + 1) 0 [.int i] S = .ok (false, .bl true, S) := by
  rw [call_by (tab := tab) (f := 0) rfl rfl]; simp [m0]
theorem f1 {v lo hi : Int} : callF tab wf (n + 2) 1 [.int v, .int lo, .int hi] S = .ok (false, .bl (decide (lo ≤ v) && decide (v ≤ hi)), S) := by
  rw [call_by (tab := tab) (f := 1) rfl rfl]
  by_cases h : lo ≤ v <;> simp [m1, f0, h]
theorem f2 {v lo hi : Int} (h1 : lo ≤ v) (h2 : v ≤ hi) : callF tab wf (n + 3) 2 [.int v, .int lo, .int hi] S = .ok (false, .non, S) := by
  rw [call_by (tab := tab) (f := 2) rfl rfl]; simp [m2, f1, h1, h2]
theorem f3 {ds : List D} {lo hi : Int} (h1 : lo ≤ ds.length) (h2 : (ds.length : Int) ≤ hi) : callF tab wf (n + 1) 3 [.tup ds, .int lo, .int hi] S = .ok (false, .bl true, S) := by
  rw [call_by (tab := tab) (f := 3) rfl rfl]; simp [m3, h1, h2]
/-- heights as the law draws them -/
structure Good (hs : List Int) : Prop where
  len1 : 1 ≤ hs.length
  len2 : hs.length ≤ 24
  pos : ∀ (i : Nat) h, hs[i]? = some h → 0 ≤ h ∧ h ≤ 100
  mono : ∀ (i : Nat) h h', hs[i]? = some h → hs[i + 1]? = some h' → h ≤ h'
theorem zip_get {xs ys : List D} {i : Nat} {d : D} (h : (zipItems xs ys)[i]? = some d) : ∃ x y, xs[i]? = some x ∧ ys[i]? = some y ∧ d = .tup [x, y] := by
  unfold zipItems at h
  rw [List.getElem?_zipWith] at h
  cases q1 : xs[i]? with
  | none => rw [q1] at h; simp at h
  | some x =>
    cases q2 : ys[i]? with
    | none => rw [q1, q2] at h; simp at h
    | some y => rw [q1, q2] at h; simp at h; exact ⟨x, y, rfl, rfl, h.symm⟩
theorem y_allR {k : Nat} : pAll (.lst (List.replicate k (.bl true))) S = .ok (.pl (.bl true)) := by
  have h := y_all (bs := List.replicate k true) (S := S)
  rw [List.map_replicate] at h
  rw [h]; simp
theorem cut1 {α : Type} (xs : List α) (h : 1 ≤ xs.length) : cutL xs (some 1) none = xs.tail := by
  unfold cutL
  have e1 : HT.sIx xs.length 0 (some 1) = 1 := by
    simp [HT.sIx]; omega
  have e2 : HT.sIx xs.length xs.length none = xs.length := by simp [HT.sIx]
  rw [e1, e2]
  rw [List.take_of_length_le (by simp), List.drop_one]
theorem f4 {hs : List Int} (g : Good hs) : callF tab wf (n + 4) 4 [.tup (intsD hs)] S = .ok (false, .bl true, S) := by
  have hl := g.len2
  have hl1 := g.len1
  have c1 : compGo [3, 1] (tTup 2 (tsCons (tName 3) (tsCons (tName 1) tsNil))) cYes (m4e1 ⟨callF tab wf (n + 3), wf⟩) [some (.pl (.tup (intsD hs))), none, none, none] (enumFrom 0 (intsD hs)) S [] = .ok (List.replicate hs.length (.bl true), S) := by
    refine comp_at _ (by simp [enumFrom_length]) (by simp [enumFrom_length]; omega) fun i x y hx hy => ?_
    obtain ⟨h, eh, rfl⟩ := intsD_enum hx
    have p := g.pos i h eh
    have hy' : y = .bl true := by
      simp [List.getElem?_replicate] at hy
      exact hy.2.symm
    subst hy'
    refine ⟨[some (.pl (.tup (intsD hs))), some (.pl (.int h)), none, some (.pl (.int i))], by simp, by simp, by simp [wipe], .inl ?_⟩
    have q : h ≤ 100 + (i : Int) := by omega
    simp [m4e1, f1, p.1, q]
  have c2 : compGo [1, 2] (tTup 2 (tsCons (tName 1) (tsCons (tName 2) tsNil))) cYes (m4e2 ⟨callF tab wf (n + 3), wf⟩) [some (.pl (.tup (intsD hs))), none, none, none] (zipItems (intsD hs) (intsD hs).tail) S [] = .ok (List.replicate (hs.length - 1) (.bl true), S) := by
    refine comp_at _ (by simp [zipItems]) (by simp [zipItems]; omega) fun i x y hx hy => ?_
    obtain ⟨a, b, ha, hb, rfl⟩ := zip_get hx
    rw [List.getElem?_tail] at hb
    obtain ⟨h, eh, rfl⟩ := intsD_at ha
    obtain ⟨h', eh', rfl⟩ := intsD_at hb
    have p := g.mono i h h' eh eh'
    have hy' : y = .bl true := by
      simp [List.getElem?_replicate] at hy
      exact hy.2.symm
    subst hy'
    refine ⟨[some (.pl (.tup (intsD hs))), some (.pl (.int h)), some (.pl (.int h')), none], by simp, by simp, by simp [wipe], .inl ?_⟩
    simp [m4e2, p]
  have t1 : callF tab wf (n + 3) 3 [.tup (intsD hs), .int 1, .int 24] S = .ok (false, .bl true, S) := f3 (by simp; omega) (by simp; omega)
  rw [call_by (tab := tab) (f := 4) rfl rfl]
  simp only [m4, List.map_cons, List.map_nil, List.length_cons, List.length_nil, Nat.reduceAdd, Nat.reduceSub, List.replicate, List.cons_append, List.nil_append]
  simp [t1, wipe, c1, y_allR, cut1 (intsD hs) (by simpa using hl1), c2]
theorem f5 {hs : List Int} (g : Good hs) : callF tab wf (n + 5) 5 [.tup (intsD hs)] S = .ok (false, .non, S) := by
  rw [call_by (tab := tab) (f := 5) rfl rfl]; simp [m5, f4 g]

/-! ### the counts -/
/-- one column more -/
def step (f : Nat → Int) (h : Int) (k : Nat) : Int := f k + match k with | 0 => 0 | k + 1 => f k * (if h - (k : Int) > 0 then h - (k : Int) else 0)
def base (k : Nat) : Int := if k = 0 then 1 else 0
/-- the counts of the first i columns -/
def r (a : Nat → Int) : Nat → Nat → Int
  | 0 => base
  | i + 1 => step (r a i) (a i)
theorem r_high {a : Nat → Int} : ∀ (i k : Nat), i < k → r a i k = 0
  | 0, k, h => by simp [r, base]; omega
  | i + 1, 0, h => by omega
  | i + 1, k + 1, h => by simp [r, step, r_high i (k + 1) (by omega), r_high i k (by omega)]
theorem r_zero {a : Nat → Int} : ∀ i : Nat, r a i 0 = 1
  | 0 => rfl
  | i + 1 => by simp [r, step, r_zero i]
theorem step_zero {f : Nat → Int} {h : Int} : step f h 0 = f 0 := by simp [step]
theorem step_succ {f : Nat → Int} {h : Int} {k : Nat} : step f h (k + 1) = f (k + 1) + f k * (if h - (k : Int) > 0 then h - (k : Int) else 0) := rfl
/-- a table that is done up to t -/
def upto (t : Nat) (f : Nat → Int) (h : Int) (k : Nat) : Int := if k ≤ t then step f h k else f k
theorem upto_zero {f : Nat → Int} {h : Int} : upto 0 f h = f := by
  funext k
  unfold upto
  by_cases q : k ≤ 0
  · rw [if_pos q, show k = 0 by omega, step_zero]
  · rw [if_neg q]
theorem upto_next {f : Nat → Int} {h : Int} {t n : Nat} (hn : t + 1 < n) : (tabl n (upto t f h)).set (t + 1) (step f h (t + 1)) = tabl n (upto (t + 1) f h) := by
  rw [tabl_set hn]
  refine tabl_ext fun k hk => ?_
  unfold upto
  by_cases q : k = t + 1
  · subst q; simp
  · rw [if_neg q]
    by_cases q2 : k ≤ t
    · rw [if_pos q2, if_pos (by omega)]
    · rw [if_neg q2, if_neg (by omega)]
theorem upto_self {f : Nat → Int} {h : Int} {t : Nat} : upto t f h (t + 1) = f (t + 1) := by unfold upto; rw [if_neg (by omega)]
theorem upto_all {L : Nat} {f : Nat → Int} {h : Int} : tabl (L + 2) (upto (L + 1) f h) = tabl (L + 2) (step f h) := tabl_ext fun k hk => by unfold upto; rw [if_pos (by omega)]
theorem f6_inner (F : CallI) (A : Option Sl) (L : Nat) (h : Int) (f : Nat → Int) (x4 x5 : Option Sl) (hL : L ≤ 24) (h1 : -1000 ≤ h) (h2 : h ≤ 1000) : ∃ x4' x5',
    forGo (tName 4) (m6b1 F) (intsFrom 1 (L + 1)) [A, some (.pl (.lst (intsD (tabl (L + 1) f)))), some (.pl (.int h)), some (.own (.lst (intsD (tabl (L + 2) f)))), x4, x5] S =
        .ok (.nx [A, some (.pl (.lst (intsD (tabl (L + 1) f)))), some (.pl (.int h)), some (.own (.lst (intsD (tabl (L + 2) (step f h))))), x4', x5'] S) := by
  obtain ⟨ε', S', e, rfl, x4', x5', rfl⟩ := for_inv (T := tName 4) (M := m6b1 F)
    (P := fun t ε S' => S' = S ∧ ∃ x4 x5, ε = [A, some (.pl (.lst (intsD (tabl (L + 1) f)))), some (.pl (.int h)), some (.own (.lst (intsD (tabl (L + 2) (upto t f h))))), x4, x5])
    (intsFrom 1 (L + 1)) (ε := [A, some (.pl (.lst (intsD (tabl (L + 1) f)))), some (.pl (.int h)), some (.own (.lst (intsD (tabl (L + 2) f)))), x4, x5]) (S := S) ⟨rfl, x4, x5, by rw [upto_zero]⟩ fun t d ε S' hd ⟨hS, x4, x5, hε⟩ => by
      subst hS hε
      obtain ⟨ht, rfl⟩ := intsFrom_get hd
      have i1 : pIdx (.lst (intsD (tabl (L + 2) (upto t f h)))) (.int (1 + (t : Int))) S' = .ok (.pl (.int (f (t + 1)))) := by
        rw [← upto_self (f := f) (h := h)]
        exact idxL (k := t + 1) (by omega) (intsD_tabl_get (by omega))
      have i2 : pIdx (.lst (intsD (tabl (L + 1) f))) (.int (1 + (t : Int) - 1)) S' = .ok (.pl (.int (f t))) := idxL (k := t) (by omega) (intsD_tabl_get (by omega))
      have i3 : L2.ixN (L + 2) (1 + (t : Int)) = some (t + 1) := ixN_of (by omega) (by omega)
      have m1 : mulOk (f t) (h - (1 + (t : Int)) + 1) = true := mulOk_r (by omega)
      refine ⟨_, rfl, ?_⟩
      by_cases hf : 0 < h - (1 + (t : Int)) + 1
      · refine ⟨_, _, .inl ?_, rfl, some (.pl (.int (1 + t))), some (.pl (.int (h - (1 + (t : Int)) + 1))), rfl⟩
        have e3 : f (t + 1) + f t * (h - (1 + (t : Int)) + 1) = step f h (t + 1) := by
          rw [step_succ, if_pos (by omega)]
          congr 2; omega
        simp [m6b1, i1, i2, i3, m1, hf, e3, intsD_set, upto_next (f := f) (h := h) (t := t) (n := L + 2) (by omega)]
      · refine ⟨_, _, .inl ?_, rfl, some (.pl (.int (1 + t))), some (.pl (.int (h - (1 + (t : Int)) + 1))), rfl⟩
        have e3 : f (t + 1) = step f h (t + 1) := by
          rw [step_succ, if_neg (by omega)]; simp
        have u := upto_next (f := f) (h := h) (t := t) (n := L + 2) (by omega)
        rw [← e3] at u
        simp [m6b1, i1, i2, i3, m1, hf, intsD_set, u]
  refine ⟨x4', x5', ?_⟩
  rw [e, intsFrom_length, upto_all]
def at0 (hs : List Int) (i : Nat) : Int := hs.getD i 0
theorem at0_get {hs : List Int} {i : Nat} {h : Int} (e : hs[i]? = some h) : at0 hs i = h := by unfold at0; rw [List.getD_eq_getElem?_getD, e]; rfl
theorem Good.at_ {hs : List Int} (g : Good hs) {i : Nat} (hi : i < hs.length) : hs[i]? = some (at0 hs i) ∧ 0 ≤ at0 hs i ∧ at0 hs i ≤ 100 := by
  have e : hs[i]? = some hs[i] := List.getElem?_eq_getElem hi
  rw [at0_get e]
  exact ⟨e, g.pos i _ e⟩
theorem app0 {L : Nat} {f : Nat → Int} (z : f (L + 1) = 0) : intsD (tabl (L + 1) f) ++ [D.int 0] = intsD (tabl (L + 2) f) := by
  rw [← tabl_snoc (n := L + 1), z]; simp [intsD]
theorem f6 {hs : List Int} (g : Good hs) : callF tab wf (n + 1) 6 [.tup (intsD hs)] S = .ok (false, .lst (intsD (tabl (hs.length + 1) (r (at0 hs) hs.length))), S) := by
  have hl := g.len2
  generalize hF : (⟨callF tab wf n, wf⟩ : CallI) = F
  obtain ⟨ε', S', e, rfl, x2, x3, x4, x5, rfl⟩ := for_inv (T := tName 2) (M := m6b2 F)
    (P := fun t ε S' => S' = S ∧ ∃ x2 x3 x4 x5, ε = [some (.pl (.tup (intsD hs))), some (.pl (.lst (intsD (tabl (t + 1) (r (at0 hs) t))))), x2, x3, x4, x5])
    (intsD hs) (ε := [some (.pl (.tup (intsD hs))), some (.pl (.lst [.int 1])), none, none, none, none]) (S := S) ⟨rfl, none, none, none, none, rfl⟩ fun t d ε S' hd ⟨hS, x2, x3, x4, x5, hε⟩ => by
      subst hS hε
      obtain ⟨h, eh, rfl⟩ := intsD_at hd
      have ht : t < hs.length := (List.getElem?_eq_some_iff.mp eh).1
      have p := g.pos t h eh
      obtain ⟨x4', x5', q⟩ := f6_inner (S := S') F (some (.pl (.tup (intsD hs)))) t h (r (at0 hs) t) x4 x5 (by omega) (by omega) (by omega)
      have z := app0 (r_high (a := at0 hs) t (t + 1) (by omega))
      have e1 : ((t : Int) + 2).toNat - 1 = t + 1 := by omega
      have b1 : inR ((t : Int) + 2) := inR_of (by omega) (by omega)
      have e2 : step (r (at0 hs) t) h = r (at0 hs) (t + 1) := by show _ = step (r (at0 hs) t) (at0 hs t); rw [at0_get eh]
      have b3 : t + 1 + 1 ≤ 16777216 := by omega
      refine ⟨_, rfl, _, _, .inl ?_, rfl, some (.pl (.int h)), some (.pl (.lst (intsD (tabl (t + 2) (r (at0 hs) (t + 1)))))), x4', x5', rfl⟩
      rw [e2] at q
      simp [m6b2, b3, z, e1, b1, q]
  rw [call_by (tab := tab) (f := 6) rfl rfl, hF]
  simp at e
  simp [m6, e]
/-! ### roots, products, falls -/
theorem f8 {hs : List Int} (g : Good hs) : callF tab wf (n + 1) 8 [.tup (intsD hs)] S = .ok (true, .lst (intsD (tabl hs.length (fun i => at0 hs i - i))), S) := by
  have hl := g.len2
  have c1 : compGo [1, 2] (tTup 2 (tsCons (tName 1) (tsCons (tName 2) tsNil))) cYes (m8e1 ⟨callF tab wf n, wf⟩) [some (.pl (.tup (intsD hs))), none, none] (enumFrom 0 (intsD hs)) S [] = .ok (intsD (tabl hs.length (fun i => at0 hs i - i)), S) := by
    refine comp_at _ (by simp [enumFrom_length]) (by simp [enumFrom_length]; omega) fun i x y hx hy => ?_
    obtain ⟨h, eh, rfl⟩ := intsD_enum hx
    have hi : i < hs.length := (List.getElem?_eq_some_iff.mp eh).1
    rw [intsD_tabl_get hi, at0_get eh] at hy
    cases hy
    exact ⟨[some (.pl (.tup (intsD hs))), some (.pl (.int i)), some (.pl (.int h))], by simp, by simp, by simp [wipe], .inl (by simp [m8e1])⟩
  rw [call_by (tab := tab) (f := 8) rfl rfl]
  simp [m8, wipe, c1]
def fall (x : Int) : Nat → Int
  | 0 => 1
  | k + 1 => fall x k * (x - k)
theorem f9 {x : Int} {k : Nat} (hk : k ≤ 30) (h1 : -2000 ≤ x) (h2 : x ≤ 2000) : callF tab wf (n + 1) 9 [.int x, .int k] S = .ok (false, .int (fall x k), S) := by
  generalize hF : (⟨callF tab wf n, wf⟩ : CallI) = F
  obtain ⟨ε', S', e, rfl, x3, rfl⟩ := for_inv (T := tName 3) (M := m9b1 F) (P := fun t ε S' => S' = S ∧ ∃ x3, ε = [some (.pl (.int x)), some (.pl (.int k)), some (.pl (.int (fall x t))), x3])
    (intsFrom 0 k) (ε := [some (.pl (.int x)), some (.pl (.int k)), some (.pl (.int 1)), none]) (S := S) ⟨rfl, none, rfl⟩ fun t d ε S' hd ⟨hS, x3, hε⟩ => by
      subst hS hε
      obtain ⟨ht, rfl⟩ := intsFrom_get hd
      have m : mulOk (fall x t) (x - (t : Int)) = true := mulOk_r (by omega)
      exact ⟨_, rfl, _, _, .inl (by simp [m9b1, m]; rfl), rfl, some (.pl (.int (0 + t))), by simp [fall]⟩
  rw [intsFrom_length] at e
  have b : inR (k : Int) := inR_of (by omega) (by omega)
  rw [call_by (tab := tab) (f := 9) rfl rfl, hF]
  simp [m9, b, e]
def pr (a : Nat → Int) (x : Int) : Nat → Int
  | 0 => 1
  | i + 1 => pr a x i * (x + (a i - i))
theorem f11 {hs : List Int} (g : Good hs) : callF tab wf (n + 6) 11 [.tup (intsD hs)] S = .ok (false, .tup (intsD (tabl hs.length (fun i => at0 hs i - i))), S) := by
  rw [call_by (tab := tab) (f := 11) rfl rfl]; simp [m11, f5 g, f8 g]
theorem f12 {hs : List Int} (g : Good hs) {x : Int} (h1 : -1000 ≤ x) (h2 : x ≤ 1000) : callF tab wf (n + 6) 12 [.tup (intsD hs), .int x] S = .ok (false, .int (pr (at0 hs) x hs.length), S) := by
  have hl := g.len2
  generalize hF : (⟨callF tab wf (n + 5), wf⟩ : CallI) = F
  obtain ⟨ε', S', e, rfl, x3, rfl⟩ := for_inv (T := tName 3) (M := m12b1 F) (P := fun t ε S' => S' = S ∧ ∃ x3, ε = [some (.pl (.tup (intsD hs))), some (.pl (.int x)), some (.pl (.int (pr (at0 hs) x t))), x3])
    (intsD (tabl hs.length (fun i => at0 hs i - i))) (ε := [some (.pl (.tup (intsD hs))), some (.pl (.int x)), some (.pl (.int 1)), none]) (S := S) ⟨rfl, none, rfl⟩ fun t d ε S' hd ⟨hS, x3, hε⟩ => by
      subst hS hε
      obtain ⟨v, ev, rfl⟩ := intsD_at hd
      have ht : t < hs.length := by simpa using (List.getElem?_eq_some_iff.mp ev).1
      rw [tabl_get ht] at ev
      cases ev
      have p := (g.at_ ht).2
      have m : mulOk (pr (at0 hs) x t) (x + (at0 hs t - t)) = true := mulOk_r (by omega)
      exact ⟨_, rfl, _, _, .inl (by simp [m12b1, m]; rfl), rfl, some (.pl (.int (at0 hs t - t))), by simp [pr]⟩
  rw [intsD_len, tabl_len] at e
  have q1 : F.call 5 [.tup (intsD hs)] S' = .ok (false, .non, S') := by rw [← hF]; exact f5 g
  have q2 : F.call 2 [.int x, .int (-1000), .int 1000] S' = .ok (false, .non, S') := by rw [← hF]; exact f2 h1 h2
  have q3 : F.call 8 [.tup (intsD hs)] S' = .ok (true, .lst (intsD (tabl hs.length (fun i => at0 hs i - i))), S') := by rw [← hF]; exact f8 g
  rw [call_by (tab := tab) (f := 12) rfl rfl, hF]
  simp [m12, q1, q2, q3, e]
/-! ### sizes -/
theorem two_le (k : Nat) : (0 : Int) < 2 ^ k := by exact_mod_cast Nat.two_pow_pos k
theorem fall_size {x : Int} (h1 : -1000 ≤ x) (h2 : x ≤ 1000) : ∀ k : Nat, k ≤ 24 → (fall x k).natAbs ≤ 2 ^ (11 * k)
  | 0, _ => by simp [fall]
  | k + 1, hk => by
    have ih := fall_size h1 h2 k (by omega)
    have e : (fall x (k + 1)).natAbs = (fall x k).natAbs * (x - (k : Int)).natAbs := Int.natAbs_mul _ _
    have b : (x - (k : Int)).natAbs ≤ 2 ^ 11 := by omega
    rw [e, show 11 * (k + 1) = 11 * k + 11 by omega, Nat.pow_add]
    exact Nat.mul_le_mul ih b
theorem r_size {a : Nat → Int} : ∀ (i k : Nat), (∀ j, j < i → 0 ≤ a j ∧ a j ≤ 100) → (r a i k).natAbs ≤ 2 ^ (7 * i)
  | 0, k, _ => by unfold r base; split <;> simp
  | i + 1, k, h => by
    have p := h i (by omega)
    have ih := fun k => r_size (a := a) i k fun j hj => h j (by omega)
    have e : 2 ^ (7 * (i + 1)) = 2 ^ (7 * i) * 128 := by rw [show 7 * (i + 1) = 7 * i + 7 by omega, Nat.pow_add]
    rw [e]
    show (step (r a i) (a i) k).natAbs ≤ _
    cases k with
    | zero => rw [step_zero]; have := ih 0; omega
    | succ k =>
      rw [step_succ]
      have i1 := ih (k + 1)
      have i2 := ih k
      have b : (if a i - (k : Int) > 0 then a i - (k : Int) else 0).natAbs ≤ 100 := by split <;> omega
      have e2 : (r a i k * (if a i - (k : Int) > 0 then a i - (k : Int) else 0)).natAbs ≤ 2 ^ (7 * i) * 100 := by
        rw [Int.natAbs_mul]; exact Nat.mul_le_mul i2 b
      have := Int.natAbs_add_le (r a i (k + 1)) (r a i k * (if a i - (k : Int) > 0 then a i - (k : Int) else 0))
      omega
theorem log_le {x : Nat} {k : Nat} (h : x ≤ 2 ^ k) : x.log2 ≤ k := by
  by_cases z : x = 0
  · subst z; simp
  · have : x.log2 < k + 1 := (Nat.log2_lt z).mpr (Nat.lt_of_le_of_lt h (by rw [Nat.pow_succ]; have := Nat.two_pow_pos k; omega))
    omega
theorem mulOk_size {i j : Int} {a b : Nat} (h1 : i.natAbs ≤ 2 ^ a) (h2 : j.natAbs ≤ 2 ^ b) (h : a + b < 1000000) : mulOk i j = true := by
  have l1 := log_le h1
  have l2 := log_le h2
  unfold mulOk
  rw [decide_eq_true (show i.natAbs.log2 + j.natAbs.log2 < 1000000 by omega), Bool.or_true]
/-! ### the identity -/
def wor (a : Nat → Int) (i : Nat) (x : Int) : Int := sumN (i + 1) fun k => r a i k * fall x (i - k)
theorem vanish {a : Nat → Int} : ∀ (i k : Nat), (∀ j, j + 1 < i + 1 → a j ≤ a (j + 1)) → a i < (k : Int) → (∀ j, j ≤ i → 0 ≤ a j) → r a (i + 1) k = 0
  | i, 0, _, h, p => by have := p i (by omega); omega
  | i, k + 1, mo, h, p => by
    show step (r a i) (a i) (k + 1) = 0
    rw [step_succ]
    have e1 : r a i (k + 1) = 0 := by
      cases i with
      | zero => simp [r, base]
      | succ i =>
        refine vanish i (k + 1) (fun j hj => mo j (by omega)) ?_ fun j hj => p j (by omega)
        have := mo i (by omega)
        omega
    rw [e1, if_neg (by omega)]; simp
theorem wor_next {a : Nat → Int} {i : Nat} {x : Int} (mo : ∀ j, j < i → a j ≤ a (j + 1)) (p : ∀ j, j ≤ i → 0 ≤ a j) : wor a (i + 1) x = wor a i x * (x + (a i - i)) := by
  have key : ∀ k : Nat, r a i k * (if a i - (k : Int) > 0 then a i - (k : Int) else 0) = r a i k * (a i - k) := fun k => by
    by_cases q : a i - (k : Int) > 0
    · rw [if_pos q]
    · rw [if_neg q]
      by_cases q2 : a i - (k : Int) = 0
      · rw [q2]
      · have z : r a i k = 0 := by
          cases i with
          | zero =>
            have := p 0 (by omega)
            unfold r base
            rw [if_neg (by omega)]
          | succ i =>
            refine vanish i k (fun j hj => mo j (by omega)) ?_ fun j hj => p j (by omega)
            have := mo i (by omega)
            omega
        rw [z]; simp
  have e1 : wor a (i + 1) x = r a i 0 * fall x (i + 1) + sumN (i + 1) (fun k => r a i (k + 1) * fall x (i - k)) + sumN (i + 1) (fun k => r a i k * (a i - k) * fall x (i - k)) := by
    unfold wor
    rw [sumN_front]
    have e2 : sumN (i + 1) (fun k => r a (i + 1) (k + 1) * fall x (i + 1 - (k + 1))) = sumN (i + 1) (fun k => r a i (k + 1) * fall x (i - k) + r a i k * (a i - k) * fall x (i - k)) := sumN_ext fun k hk => by
      show step (r a i) (a i) (k + 1) * _ = _
      rw [step_succ, key, Int.add_mul, show i + 1 - (k + 1) = i - k by omega]
    rw [e2, sumN_add]
    have e3 : r a (i + 1) 0 = r a i 0 := step_zero
    rw [e3, Nat.sub_zero]; omega
  have e4 : r a i 0 * fall x (i + 1) + sumN (i + 1) (fun k => r a i (k + 1) * fall x (i - k)) = sumN (i + 1) (fun k => r a i k * fall x (i - k) * (x - (i - k : Nat))) := by
    have e5 : sumN (i + 2) (fun k => r a i k * fall x (i + 1 - k)) = r a i 0 * fall x (i + 1) + sumN (i + 1) (fun k => r a i (k + 1) * fall x (i - k)) := by
      rw [sumN_front]
      congr 1
      exact sumN_ext fun k hk => by rw [show i + 1 - (k + 1) = i - k by omega]
    rw [← e5]
    show sumN (i + 1) _ + r a i (i + 1) * fall x (i + 1 - (i + 1)) = _
    rw [r_high i (i + 1) (by omega)]
    simp only [Int.zero_mul, Int.add_zero]
    refine sumN_ext fun k hk => ?_
    rw [show i + 1 - k = (i - k) + 1 by omega]
    show _ * (fall x (i - k) * (x - ((i - k : Nat) : Int))) = _
    rw [Int.mul_assoc]
  rw [e1, e4, ← sumN_add]
  unfold wor
  rw [← sumN_mul]
  refine sumN_ext fun k hk => ?_
  have e6 : ((i - k : Nat) : Int) = (i : Int) - k := by omega
  rw [e6]
  generalize r a i k = u
  generalize fall x (i - k) = v
  have e7 : u * (a i - (k : Int)) * v = u * v * (a i - k) := by rw [Int.mul_assoc, Int.mul_comm (a i - (k : Int)), ← Int.mul_assoc]
  rw [e7, ← Int.mul_add]
  congr 1
  omega
theorem wor_pr {a : Nat → Int} {x : Int} : ∀ i : Nat, (∀ j, j + 1 < i → a j ≤ a (j + 1)) → (∀ j, j < i → 0 ≤ a j) → wor a i x = pr a x i
  | 0, _, _ => by simp [wor, sumN, r, base, fall, pr]
  | i + 1, mo, p => by
    rw [wor_next (fun j hj => mo j (by omega)) fun j hj => p j (by omega), wor_pr i (fun j hj => mo j (by omega)) fun j hj => p j (by omega)]
    rfl
theorem Good.wor {hs : List Int} (g : Good hs) (x : Int) : wor (at0 hs) hs.length x = pr (at0 hs) x hs.length :=
  wor_pr _ (fun j hj => g.mono j _ _ (g.at_ (by omega)).1 (g.at_ hj).1) fun j hj => (g.at_ hj).2.1
/-! ### zeros at the end -/
theorem f7_loop (F : CallI) (A : Option Sl) (f : Nat → Int) (h0 : f 0 ≠ 0) : ∀ (L k : Nat), L < k → ∃ m, m ≤ L ∧ whileGo (m7w1 F) (m7b1 F) k [A, some (.own (.lst (intsD (tabl (L + 1) f))))] S = .ok (.nx [A, some (.own (.lst (intsD (tabl (m + 1) f))))] S) ∧ ∀ j, m < j → j ≤ L → f j = 0
  | L, 0, h => by omega
  | L, k + 1, h => by
    have e1 : L2.atI (intsD (tabl (L + 1) f)) (-1) = some (.int (f L)) := by
      rw [atI_last, intsD_len, tabl_len]
      exact intsD_tabl_get (by omega)
    by_cases z : f L = 0
    · cases L with
      | zero => exact absurd z h0
      | succ L =>
        obtain ⟨m, hm, e, q⟩ := f7_loop F A f h0 L k (by omega)
        refine ⟨m, by omega, ?_, fun j h1 h2 => ?_⟩
        · have g1 : (intsD (tabl (L + 1 + 1) f))[L + 1]? = some (.int (f (L + 1))) := intsD_tabl_get (by omega)
          have g2 : (intsD (tabl (L + 1 + 1) f)).dropLast = intsD (tabl (L + 1) f) := by
            rw [← tabl_snoc (n := L + 1)]; simp [intsD]
          rw [whileGo_s]
          simp [m7w1, m7b1, e1, z, intsD_tabl_get (n := L + 1 + 1) (k := L + 1) (f := f) (by omega), g2]
          exact e
        · by_cases hj : j = L + 1
          · rw [hj]; exact z
          · exact q j h1 (by omega)
    · refine ⟨L, by omega, ?_, fun j h1 h2 => by omega⟩
      rw [whileGo_s]
      simp [m7w1, e1, z]
theorem f7 {L : Nat} {f : Nat → Int} (h0 : f 0 ≠ 0) (hw : L < wf) (hL : L < 1000) : ∃ m, m ≤ L ∧ callF tab wf (n + 1) 7 [.lst (intsD (tabl (L + 1) f))] S = .ok (true, .lst (intsD (tabl (m + 1) f)), S) ∧ ∀ j, m < j → j ≤ L → f j = 0 := by
  obtain ⟨m, hm, e, q⟩ := f7_loop (S := S) ⟨callF tab wf n, wf⟩ (some (.pl (.lst (intsD (tabl (L + 1) f))))) f h0 L wf hw
  refine ⟨m, hm, ?_, q⟩
  rw [call_by (tab := tab) (f := 7) rfl rfl]
  simp [m7, e]
theorem f10 {hs : List Int} (g : Good hs) (hw : 100 < wf) : ∃ m, m ≤ hs.length ∧ callF tab wf (n + 6) 10 [.tup (intsD hs)] S = .ok (false, .tup (intsD (tabl (m + 1) (r (at0 hs) hs.length))), S) ∧ ∀ j, m < j → j ≤ hs.length → r (at0 hs) hs.length j = 0 := by
  have hl := g.len2
  obtain ⟨m, hm, e, q⟩ := f7 (wf := wf) (n := n + 4) (S := S) (L := hs.length) (f := r (at0 hs) hs.length) (by rw [r_zero]; omega) (by omega) (by omega)
  refine ⟨m, hm, ?_, q⟩
  rw [call_by (tab := tab) (f := 10) rfl rfl]
  simp [m10, f5 g, f6 g, e]
theorem Good.size {hs : List Int} (g : Good hs) (k : Nat) : (r (at0 hs) hs.length k).natAbs ≤ 2 ^ (7 * hs.length) := r_size _ _ fun j hj => (g.at_ hj).2
theorem Good.mul {hs : List Int} (g : Good hs) {x : Int} (h1 : -1000 ≤ x) (h2 : x ≤ 1000) (k j : Nat) (hj : j ≤ 24) : mulOk (r (at0 hs) hs.length k) (fall x j) = true := by
  have := g.len2
  exact mulOk_size (g.size k) (fall_size h1 h2 j hj) (by omega)
theorem f13 {hs : List Int} (g : Good hs) {x : Int} (h1 : -1000 ≤ x) (h2 : x ≤ 1000) : callF tab wf (n + 6) 13 [.tup (intsD hs), .int x] S = .ok (false, .int (pr (at0 hs) x hs.length), S) := by
  have hl := g.len2
  generalize hF : (⟨callF tab wf (n + 5), wf⟩ : CallI) = F
  have q1 : F.call 5 [.tup (intsD hs)] S = .ok (false, .non, S) := by rw [← hF]; exact f5 g
  have q2 : F.call 2 [.int x, .int (-1000), .int 1000] S = .ok (false, .non, S) := by rw [← hF]; exact f2 h1 h2
  have q3 : F.call 6 [.tup (intsD hs)] S = .ok (false, .lst (intsD (tabl (hs.length + 1) (r (at0 hs) hs.length))), S) := by rw [← hF]; exact f6 g
  have c : compGo [4] (tName 4) cYes (m13e1 F) [some (.pl (.tup (intsD hs))), some (.pl (.int x)), some (.pl (.lst (intsD (tabl (hs.length + 1) (r (at0 hs) hs.length))))), some (.pl (.int hs.length)), none] (intsFrom 0 (hs.length + 1)) S [] = .ok (intsD (tabl (hs.length + 1) fun k => r (at0 hs) hs.length k * fall x (hs.length - k)), S) := by
    refine comp_at _ (by simp [intsFrom_length]) (by simp [intsFrom_length]; omega) fun i d y hd hy => ?_
    obtain ⟨hi, rfl⟩ := intsFrom_get hd
    rw [intsD_tabl_get hi] at hy
    cases hy
    have i1 : pIdx (.lst (intsD (tabl (hs.length + 1) (r (at0 hs) hs.length)))) (.int (0 + (i : Int))) S = .ok (.pl (.int (r (at0 hs) hs.length i))) := idxL (by omega) (intsD_tabl_get hi)
    have q4 : F.call 9 [.int x, .int ((hs.length : Int) - (0 + (i : Int)))] S = .ok (false, .int (fall x (hs.length - i)), S) := by
      rw [← hF]
      have e : (hs.length : Int) - (0 + (i : Int)) = ((hs.length - i : Nat) : Int) := by omega
      rw [e]
      exact f9 (by omega) (by omega) (by omega)
    have m := g.mul h1 h2 i (hs.length - i) (by omega)
    refine ⟨_, rfl, by simp, by simp [wipe], .inl ?_⟩
    simp only [Int.zero_add] at i1 q4
    simp [m13e1, i1, q4, m]
  have b : inR ((hs.length : Int) + 1) := inR_of (by omega) (by omega)
  have e1 : ((hs.length : Int) + 1).toNat = hs.length + 1 := by omega
  rw [call_by (tab := tab) (f := 13) rfl rfl, hF]
  simp [m13, q1, q2, q3, b, e1, wipe, c, sum_tabl]
  exact g.wor x
/-! ### what every law brings along -/
theorem like {k : Nat} {d : D} (hd : d.dat k = true) (hk : k ≤ 60) : callF tab wf (n + k + 2) 17 [d, d] S = .ok (false, .bl true, S) := like_ok (ks := 16) (kl := 17) rfl rfl k n d hd hk
abbrev cup (a b : Int) : Store := [cupO a b]
theorem roll {m a b : Int} (h1 : 0 < m) (h2 : m < 10000) : ∃ v a' b', callF tab wf (n + 1) 15 [.ref 0, .int m] (cup a b) = .ok (false, .int v, cup a' b') ∧ 0 ≤ v ∧ v < m := by
  obtain ⟨v, a', b', e, p⟩ := roll_ok (wf := wf) (n := n) (kr := 15) (tab := tab) (S := cup a b) (j := 0) (m := m) (a := a) (b := b) rfl (by omega) (by omega) (by omega) (by omega) (by omega) (by omega) rfl
  exact ⟨v, a', b', e, p⟩
theorem sortI_len (ns : List Int) : (sortI ns).length = ns.length := (sortI_perm ns).length_eq
theorem f18 {c t a b : Int} (h1 : 0 < c) (h2 : c ≤ 24) (h3 : 0 ≤ t) (h4 : t ≤ 100) : ∃ hs a' b', callF tab wf (n + 2) 18 [.ref 0, .int c, .int t] (cup a b) = .ok (false, .tup (intsD hs), cup a' b') ∧ Good hs := by
  generalize hF : (⟨callF tab wf (n + 1), wf⟩ : CallI) = F
  obtain ⟨v, a1, b1, e1, p1, p2⟩ := roll (wf := wf) (n := n) (a := a) (b := b) h1 (by omega)
  have q1 : F.call 15 [.ref 0, .int c] (cup a b) = .ok (false, .int v, cup a1 b1) := by rw [← hF]; exact e1
  obtain ⟨ys, S', e2, ⟨a2, b2, rfl⟩, hl, hy⟩ := comp_ex (T := tName 3) (C := cYes) (a := m18e1 F) (ε0 := [some (.pl (.ref 0)), some (.pl (.int c)), some (.pl (.int t)), none]) (vs := [3]) (fun S => ∃ a b, S = cup a b) (fun d => ∃ i, d = .int i ∧ (0 ≤ i ∧ i ≤ 100)) (intsFrom 0 (1 + v).toNat) [] (cup a1 b1) ⟨a1, b1, rfl⟩ (by simp [intsFrom_length]; omega) fun x S hx ⟨a, b, hS⟩ => by
    subst hS
    obtain ⟨u, a', b', e, p, q⟩ := roll (wf := wf) (n := n) (a := a) (b := b) (m := t + 1) (by omega) (by omega)
    have q2 : F.call 15 [.ref 0, .int (t + 1)] (cup a b) = .ok (false, .int u, cup a' b') := by rw [← hF]; exact e
    exact ⟨_, .int u, cup a' b', rfl, by simp, by simp [wipe], .inl (by simp [m18e1, q2]), ⟨a', b', rfl⟩, u, rfl, p, by omega⟩
  obtain ⟨ns, rfl, hn⟩ := ints_of ys hy
  rw [intsD_len, intsFrom_length] at hl
  refine ⟨sortI ns, a2, b2, ?_, ?_⟩
  · have b : inR (1 + v) := inR_of (by omega) (by omega)
    rw [call_by (tab := tab) (f := 18) rfl rfl, hF]
    simp at e2
    simp [m18, q1, b, wipe, e2]
  · have hp := sortI_perm ns
    have hsrt := sortI_sorted ns
    refine ⟨by rw [sortI_len]; omega, by rw [sortI_len]; omega, fun i h e => ?_, fun i h h' e e' => ?_⟩
    · exact hn h (hp.mem_iff.mp (List.mem_of_getElem? e))
    · have i1 := (List.getElem?_eq_some_iff.mp e)
      have i2 := (List.getElem?_eq_some_iff.mp e')
      obtain ⟨k1, rfl⟩ := i1
      obtain ⟨k2, rfl⟩ := i2
      exact List.pairwise_iff_getElem.mp hsrt i (i + 1) k1 k2 (by omega)
/-! ### the law's own counts -/
theorem f19_inner (F : CallI) (A : Option Sl) (L : Nat) (h : Int) (f : Nat → Int) (x4 : Option Sl) (hL : L ≤ 24) (h1 : -1000 ≤ h) (h2 : h ≤ 1000) : ∃ x4',
    forGo (tName 4) (m19b1 F) (intsFrom 0 (L + 1)) [A, some (.pl (.lst (intsD (tabl (L + 1) f)))), some (.pl (.int h)), some (.own (.lst (intsD (tabl (L + 2) f)))), x4] S =
        .ok (.nx [A, some (.pl (.lst (intsD (tabl (L + 1) f)))), some (.pl (.int h)), some (.own (.lst (intsD (tabl (L + 2) (step f h))))), x4'] S) := by
  obtain ⟨ε', S', e, rfl, x4', rfl⟩ := for_inv (T := tName 4) (M := m19b1 F)
    (P := fun t ε S' => S' = S ∧ ∃ x4, ε = [A, some (.pl (.lst (intsD (tabl (L + 1) f)))), some (.pl (.int h)), some (.own (.lst (intsD (tabl (L + 2) (upto t f h))))), x4])
    (intsFrom 0 (L + 1)) (ε := [A, some (.pl (.lst (intsD (tabl (L + 1) f)))), some (.pl (.int h)), some (.own (.lst (intsD (tabl (L + 2) f)))), x4]) (S := S) ⟨rfl, x4, by rw [upto_zero]⟩ fun t d ε S' hd ⟨hS, x4, hε⟩ => by
      subst hS hε
      obtain ⟨ht, rfl⟩ := intsFrom_get hd
      have i1 : pIdx (.lst (intsD (tabl (L + 2) (upto t f h)))) (.int ((t : Int) + 1)) S' = .ok (.pl (.int (f (t + 1)))) := by
        rw [← upto_self (f := f) (h := h)]
        exact idxL (k := t + 1) (by omega) (intsD_tabl_get (by omega))
      have i2 : pIdx (.lst (intsD (tabl (L + 1) f))) (.int (t : Int)) S' = .ok (.pl (.int (f t))) := idxL (k := t) (by omega) (intsD_tabl_get (by omega))
      have i3 : L2.ixN (L + 2) ((t : Int) + 1) = some (t + 1) := ixN_of (by omega) (by omega)
      generalize hu : (if h - (t : Int) > 0 then h - (t : Int) else 0) = u
      have hu' : pMax2 (.int 0) (.int (h - (t : Int))) S' = .ok (.pl (.int u)) := by rw [← hu]; rfl
      have m1 : mulOk (f t) u = true := mulOk_r (by rw [← hu]; split <;> omega)
      have e3 : f (t + 1) + f t * u = step f h (t + 1) := by rw [step_succ, hu]
      have u2 := upto_next (f := f) (h := h) (t := t) (n := L + 2) (by omega)
      rw [← e3] at u2
      refine ⟨_, rfl, _, _, .inl ?_, rfl, some (.pl (.int t)), rfl⟩
      have i2' : (intsD (tabl (L + 1) f))[t]? = some (.int (f t)) := intsD_tabl_get (by omega)
      unfold m19b1
      simp only [x_put, x_bin, x_var, slot_s, slot_z, ok_bind, List.set_cons_succ, List.set_cons_zero, x_c, get_pl, get_bor, y_add, y_sub, Int.zero_add, i1, i2, hu', y_mul m1, fix_pl, getIn_bor, intsD_len, tabl_len, i3, putIn_bor, intsD_set, u2]
  refine ⟨x4', ?_⟩
  rw [e, intsFrom_length, upto_all]
theorem cut_last {α : Type} (xs : List α) (h : 1 ≤ xs.length) : cutL xs none (some (-1)) = xs.dropLast := by
  unfold cutL
  have e1 : HT.sIx xs.length 0 none = 0 := by simp [HT.sIx]
  have e2 : HT.sIx xs.length xs.length (some (-1)) = xs.length - 1 := by simp [HT.sIx]; omega
  rw [e1, e2, List.dropLast_eq_take]
  simp
theorem f19_loop (F : CallI) (A x2 x3 x4 : Option Sl) (f : Nat → Int) (h0 : f 0 ≠ 0) : ∀ (L k : Nat), L < k → ∃ m, m ≤ L ∧ whileGo (m19w1 F) (m19b3 F) k [A, some (.pl (.lst (intsD (tabl (L + 1) f)))), x2, x3, x4] S = .ok (.nx [A, some (.pl (.lst (intsD (tabl (m + 1) f)))), x2, x3, x4] S) ∧ ∀ j, m < j → j ≤ L → f j = 0
  | L, 0, h => by omega
  | L, k + 1, h => by
    have e1 : L2.atI (intsD (tabl (L + 1) f)) (-1) = some (.int (f L)) := by
      rw [atI_last, intsD_len, tabl_len]
      exact intsD_tabl_get (by omega)
    by_cases z : f L = 0
    · cases L with
      | zero => exact absurd z h0
      | succ L =>
        obtain ⟨m, hm, e, q⟩ := f19_loop F A x2 x3 x4 f h0 L k (by omega)
        refine ⟨m, by omega, ?_, fun j h1 h2 => ?_⟩
        · have g2 : (intsD (tabl (L + 1 + 1) f)).dropLast = intsD (tabl (L + 1) f) := by
            rw [← tabl_snoc (n := L + 1)]; simp [intsD]
          rw [whileGo_s]
          simp [m19w1, m19b3, e1, z, cut_last (intsD (tabl (L + 1 + 1) f)) (by simp), g2]
          exact e
        · by_cases hj : j = L + 1
          · rw [hj]; exact z
          · exact q j h1 (by omega)
    · refine ⟨L, by omega, ?_, fun j h1 h2 => by omega⟩
      rw [whileGo_s]
      simp [m19w1, e1, z]
theorem f19 {hs : List Int} (g : Good hs) (hw : 100 < wf) : ∃ m, m ≤ hs.length ∧ callF tab wf (n + 1) 19 [.tup (intsD hs)] S = .ok (false, .lst (intsD (tabl (m + 1) (r (at0 hs) hs.length))), S) ∧ ∀ j, m < j → j ≤ hs.length → r (at0 hs) hs.length j = 0 := by
  have hl := g.len2
  generalize hF : (⟨callF tab wf n, wf⟩ : CallI) = F
  obtain ⟨ε', S', e, rfl, x2, x3, x4, rfl⟩ := for_inv (T := tName 2) (M := m19b2 F)
    (P := fun t ε S' => S' = S ∧ ∃ x2 x3 x4, ε = [some (.pl (.tup (intsD hs))), some (.pl (.lst (intsD (tabl (t + 1) (r (at0 hs) t))))), x2, x3, x4])
    (intsD hs) (ε := [some (.pl (.tup (intsD hs))), some (.pl (.lst [.int 1])), none, none, none]) (S := S) ⟨rfl, none, none, none, rfl⟩ fun t d ε S' hd ⟨hS, x2, x3, x4, hε⟩ => by
      subst hS hε
      obtain ⟨h, eh, rfl⟩ := intsD_at hd
      have ht : t < hs.length := (List.getElem?_eq_some_iff.mp eh).1
      have p := g.pos t h eh
      obtain ⟨x4', q⟩ := f19_inner (S := S') F (some (.pl (.tup (intsD hs)))) t h (r (at0 hs) t) x4 (by omega) (by omega) (by omega)
      have z := app0 (r_high (a := at0 hs) t (t + 1) (by omega))
      have b1 : inR ((t : Int) + 1) := inR_of (by omega) (by omega)
      have e1 : ((t : Int) + 1).toNat = t + 1 := by omega
      have e2 : step (r (at0 hs) t) h = r (at0 hs) (t + 1) := by show _ = step (r (at0 hs) t) (at0 hs t); rw [at0_get eh]
      have b3 : t + 1 + 1 ≤ 16777216 := by omega
      refine ⟨_, rfl, _, _, .inl ?_, rfl, some (.pl (.int h)), some (.pl (.lst (intsD (tabl (t + 2) (r (at0 hs) (t + 1)))))), x4', rfl⟩
      rw [e2] at q
      simp [m19b2, b3, z, e1, b1, q]
  rw [intsD_len] at e
  obtain ⟨m, hm, e2, q⟩ := f19_loop (S := S') F (some (.pl (.tup (intsD hs)))) x2 x3 x4 (r (at0 hs) hs.length) (by rw [r_zero]; omega) hs.length wf (by omega)
  refine ⟨m, hm, ?_, q⟩
  rw [call_by (tab := tab) (f := 19) rfl rfl, hF]
  have hFw : F.wf = wf := by rw [← hF]
  simp [m19, e, hFw, e2]
/-! ### one board -/
theorem wor_cut {hs : List Int} (g : Good hs) {m : Nat} (hm : m ≤ hs.length) (z : ∀ j, m < j → j ≤ hs.length → r (at0 hs) hs.length j = 0) (x : Int) : sumN (m + 1) (fun k => r (at0 hs) hs.length k * fall x (hs.length - k)) = pr (at0 hs) x hs.length := by
  rw [← g.wor x]
  unfold wor
  exact (sumN_cut (by omega) fun k h1 h2 => by rw [z k (by omega) (by omega)]; simp).symm
theorem f20_body {hs : List Int} (g : Good hs) {m : Nat} (hm : m ≤ hs.length) (z : ∀ j, m < j → j ≤ hs.length → r (at0 hs) hs.length j = 0) {x : Int} (h1 : -1000 ≤ x) (h2 : x ≤ 1000) (A e5 e6 e7 e8 e9 e10 e11 e12 e13 e14 : Option Sl) : ∃ d5 d6 d7 d8 d9 d10 d11 d12 d13 d14,
    m20b4 ⟨callF tab wf (n + 6), wf⟩ [A, some (.pl (.tup (intsD hs))), some (.pl (.tup (intsD (tabl hs.length (fun i => at0 hs i - i))))), some (.pl (.lst (intsD (tabl (m + 1) (r (at0 hs) hs.length))))), some (.pl (.int x)), e5, e6, e7, e8, e9, e10, e11, e12, e13, e14] S =
      .ok (.nx [A, some (.pl (.tup (intsD hs))), some (.pl (.tup (intsD (tabl hs.length (fun i => at0 hs i - i))))), some (.pl (.lst (intsD (tabl (m + 1) (r (at0 hs) hs.length))))), some (.pl (.int x)), d5, d6, d7, d8, d9, d10, d11, d12, d13, d14] S) := by
  have hl := g.len2
  generalize hF : (⟨callF tab wf (n + 6), wf⟩ : CallI) = F
  generalize hA1 : some (Sl.pl (.tup (intsD hs))) = A1
  generalize hA2 : some (Sl.pl (.tup (intsD (tabl hs.length (fun i => at0 hs i - i))))) = A2
  generalize hA3 : some (Sl.pl (.lst (intsD (tabl (m + 1) (r (at0 hs) hs.length))))) = A3
  obtain ⟨ε1, S1, l1, rfl, e6', rfl⟩ := for_inv (T := tName 6) (M := m20b1 F)
    (P := fun t ε S' => S' = S ∧ ∃ e6, ε = [A, A1, A2, A3, some (.pl (.int x)), some (.pl (.int (pr (at0 hs) x t))), e6, e7, e8, e9, e10, e11, e12, e13, e14])
    (intsD (tabl hs.length (fun i => at0 hs i - i))) (ε := [A, A1, A2, A3, some (.pl (.int x)), some (.pl (.int 1)), e6, e7, e8, e9, e10, e11, e12, e13, e14]) (S := S) ⟨rfl, e6, rfl⟩ fun t d ε S' hd ⟨hS, x3, hε⟩ => by
      subst hS hε
      obtain ⟨v, ev, rfl⟩ := intsD_at hd
      have ht : t < hs.length := by simpa using (List.getElem?_eq_some_iff.mp ev).1
      rw [tabl_get ht] at ev
      cases ev
      have p := (g.at_ ht).2
      have mo : mulOk (pr (at0 hs) x t) (x + (at0 hs t - t)) = true := mulOk_r (by omega)
      exact ⟨_, rfl, _, _, .inl (by simp [m20b1, mo]; rfl), rfl, some (.pl (.int (at0 hs t - t))), by simp [pr]⟩
  obtain ⟨ε2, S2, l2, rfl, e10', rfl⟩ := for_inv (T := tName 10) (M := m20b2 F)
    (P := fun t ε S' => S' = S1 ∧ ∃ e10, ε = [A, A1, A2, A3, some (.pl (.int x)), some (.pl (.int (pr (at0 hs) x hs.length))), e6', some (.pl (.int 0)), some (.own (.lst (intsD (tabl t (fall x))))), some (.pl (.int (fall x t))), e10, e11, e12, e13, e14])
    (intsFrom 0 (hs.length + 1)) (ε := [A, A1, A2, A3, some (.pl (.int x)), some (.pl (.int (pr (at0 hs) x hs.length))), e6', some (.pl (.int 0)), some (.own (.lst [])), some (.pl (.int 1)), e10, e11, e12, e13, e14]) (S := S1) ⟨rfl, e10, rfl⟩ fun t d ε S' hd ⟨hS, x3, hε⟩ => by
      subst hS hε
      obtain ⟨ht, rfl⟩ := intsFrom_get hd
      have mo : mulOk (fall x t) (x - (t : Int)) = true := mulOk_r (by omega)
      have b : t < 16777216 := by omega
      have s : intsD (tabl t (fall x)) ++ [D.int (fall x t)] = intsD (tabl (t + 1) (fall x)) := by rw [← tabl_snoc]; simp [intsD]
      exact ⟨_, rfl, _, _, .inl (by simp [m20b2, mo, b, s]; rfl), rfl, some (.pl (.int (0 + t))), by simp [fall]⟩
  obtain ⟨ε3, S3, l3, rfl, e11', e12', rfl⟩ := for_inv (T := tTup 2 (tsCons (tName 11) (tsCons (tName 12) tsNil))) (M := m20b3 F)
    (P := fun t ε S' => S' = S2 ∧ ∃ e11 e12, ε = [A, A1, A2, A3, some (.pl (.int x)), some (.pl (.int (pr (at0 hs) x hs.length))), e6', some (.pl (.int (sumN t (fun k => r (at0 hs) hs.length k * fall x (hs.length - k))))), some (.own (.lst (intsD (tabl (hs.length + 1) (fall x))))), some (.pl (.int (fall x (hs.length + 1)))), e10', e11, e12, e13, e14])
    (enumFrom 0 (intsD (tabl (m + 1) (r (at0 hs) hs.length)))) (ε := [A, A1, A2, A3, some (.pl (.int x)), some (.pl (.int (pr (at0 hs) x hs.length))), e6', some (.pl (.int 0)), some (.own (.lst (intsD (tabl (hs.length + 1) (fall x))))), some (.pl (.int (fall x (hs.length + 1)))), e10', e11, e12, e13, e14]) (S := S2) ⟨rfl, e11, e12, rfl⟩ fun t d ε S' hd ⟨hS, x3, x4, hε⟩ => by
      subst hS hε
      obtain ⟨v, ev, rfl⟩ := intsD_enum hd
      have ht : t < m + 1 := by simpa using (List.getElem?_eq_some_iff.mp ev).1
      rw [tabl_get ht] at ev
      cases ev
      have mo := g.mul h1 h2 t (hs.length - t) (by omega)
      have i1 : pIdx (.lst (intsD (tabl (hs.length + 1) (fall x)))) (.int ((hs.length : Int) - t)) S' = .ok (.pl (.int (fall x (hs.length - t)))) := idxL (k := hs.length - t) (by omega) (intsD_tabl_get (by omega))
      refine ⟨_, rfl, [A, A1, A2, A3, some (.pl (.int x)), some (.pl (.int (pr (at0 hs) x hs.length))), e6', some (.pl (.int (sumN (t + 1) (fun k => r (at0 hs) hs.length k * fall x (hs.length - k))))), some (.own (.lst (intsD (tabl (hs.length + 1) (fall x))))), some (.pl (.int (fall x (hs.length + 1)))), e10', some (.pl (.int t)), some (.pl (.int (r (at0 hs) hs.length t))), e13, e14], S', .inl ?_, rfl, some (.pl (.int t)), some (.pl (.int (r (at0 hs) hs.length t))), rfl⟩
      rw [← hA1]
      simp [m20b3, i1, mo, sumN]
  rw [intsD_len, tabl_len] at l1
  rw [intsFrom_length] at l2
  rw [enumFrom_length, intsD_len, tabl_len, wor_cut g hm z] at l3
  have b : inR ((hs.length : Int) + 1) := inR_of (by omega) (by omega)
  have e1 : ((hs.length : Int) + 1).toNat = hs.length + 1 := by omega
  have q1 : F.call 12 [.tup (intsD hs), .int x] S3 = .ok (false, .int (pr (at0 hs) x hs.length), S3) := by rw [← hF]; exact f12 g h1 h2
  have q2 : F.call 13 [.tup (intsD hs), .int x] S3 = .ok (false, .int (pr (at0 hs) x hs.length), S3) := by rw [← hF]; exact f13 g h1 h2
  have q3 : F.call 17 [.lst [.int (pr (at0 hs) x hs.length), .int (pr (at0 hs) x hs.length)], .lst [.int (pr (at0 hs) x hs.length), .int (pr (at0 hs) x hs.length)]] S3 = .ok (false, .bl true, S3) := by
    rw [← hF]
    exact like (k := 1) (n := n + 3) (by simp [D.dat, D.dats]) (by omega)
  refine ⟨some (.pl (.int (pr (at0 hs) x hs.length))), e6', some (.pl (.int (pr (at0 hs) x hs.length))), some (.own (.lst (intsD (tabl (hs.length + 1) (fall x))))), some (.pl (.int (fall x (hs.length + 1)))), e10', e11', e12', e13, e14, ?_⟩
  rw [← hA1, ← hA2, ← hA3] at l1 l2 l3 ⊢
  simp [m20b4, l1, b, e1, l2, l3, q1, q2, q3]
theorem f20 {hs : List Int} (g : Good hs) {a b : Int} (hw : 100 < wf) : ∃ a' b', callF tab wf (n + 10) 20 [.ref 0, .tup (intsD hs)] (cup a b) = .ok (false, .bl true, cup a' b') := by
  have hl := g.len2
  have c1 : compGo [13, 14] (tTup 2 (tsCons (tName 13) (tsCons (tName 14) tsNil))) cYes (m20e1 ⟨callF tab wf (n + 9), wf⟩) [some (.pl (.ref 0)), some (.pl (.tup (intsD hs))), none, none, none, none, none, none, none, none, none, none, none, none, none] (enumFrom 0 (intsD hs)) (cup a b) [] = .ok (intsD (tabl hs.length (fun i => at0 hs i - i)), cup a b) := by
    refine comp_at _ (by simp [enumFrom_length]) (by simp [enumFrom_length]; omega) fun i x y hx hy => ?_
    obtain ⟨h, eh, rfl⟩ := intsD_enum hx
    have hi : i < hs.length := (List.getElem?_eq_some_iff.mp eh).1
    rw [intsD_tabl_get hi, at0_get eh] at hy
    cases hy
    exact ⟨_, rfl, by simp, by simp [wipe], .inl (by simp [m20e1])⟩
  obtain ⟨m, hm, ec, z⟩ := f19 (wf := wf) (n := n + 8) (S := cup a b) g hw
  obtain ⟨v1, a1, b1, r1, p1⟩ := roll (wf := wf) (n := n + 8) (a := a) (b := b) (m := 2001) (by omega) (by omega)
  obtain ⟨v2, a2, b2, r2, p2⟩ := roll (wf := wf) (n := n + 8) (a := a1) (b := b1) (m := 61) (by omega) (by omega)
  obtain ⟨ε1, S1, l1, rfl, e4, e5, e6, e7, e8, e9, e10, e11, e12, e13, e14, rfl⟩ := for_inv (T := tName 4) (M := m20b4 ⟨callF tab wf (n + 9), wf⟩)
    (P := fun t ε S' => S' = cup a2 b2 ∧ ∃ e4 e5 e6 e7 e8 e9 e10 e11 e12 e13 e14, ε = [some (.pl (.ref 0)), some (.pl (.tup (intsD hs))), some (.pl (.tup (intsD (tabl hs.length (fun i => at0 hs i - i))))), some (.pl (.lst (intsD (tabl (m + 1) (r (at0 hs) hs.length))))), e4, e5, e6, e7, e8, e9, e10, e11, e12, e13, e14])
    (intsD [0, 1, -1, v1 - 1000, v2 - 30]) (ε := [some (.pl (.ref 0)), some (.pl (.tup (intsD hs))), some (.pl (.tup (intsD (tabl hs.length (fun i => at0 hs i - i))))), some (.pl (.lst (intsD (tabl (m + 1) (r (at0 hs) hs.length))))), none, none, none, none, none, none, none, none, none, none, none]) (S := cup a2 b2) ⟨rfl, none, none, none, none, none, none, none, none, none, none, none, rfl⟩ fun t d ε S' hd ⟨hS, e4, e5, e6, e7, e8, e9, e10, e11, e12, e13, e14, hε⟩ => by
      subst hS hε
      obtain ⟨x, ex, rfl⟩ := intsD_at hd
      have bd : -1000 ≤ x ∧ x ≤ 1000 := by
        have := List.mem_of_getElem? ex
        simp only [List.mem_cons, List.not_mem_nil, or_false] at this
        omega
      obtain ⟨e5, e6, e7, e8, e9, e10, e11, e12, e13, e14, q⟩ := f20_body (wf := wf) (n := n + 3) (S := cup a2 b2) g hm z bd.1 bd.2 (some (.pl (.ref 0))) e5 e6 e7 e8 e9 e10 e11 e12 e13 e14
      exact ⟨_, rfl, _, _, .inl q, rfl, _, _, _, _, _, _, _, _, _, _, _, rfl⟩
  have q1 : callF tab wf (n + 9) 11 [.tup (intsD hs)] (cup a b) = .ok (false, .tup (intsD (tabl hs.length (fun i => at0 hs i - i))), cup a b) := f11 (n := n + 3) g
  have q2 : callF tab wf (n + 9) 17 [.tup (intsD (tabl hs.length (fun i => at0 hs i - i))), .tup (intsD (tabl hs.length (fun i => at0 hs i - i)))] (cup a b) = .ok (false, .bl true, cup a b) := like (k := 1) (n := n + 6) dat_tints (by omega)
  refine ⟨a2, b2, ?_⟩
  simp only [intsD, List.map_cons, List.map_nil] at l1
  simp only [intsD] at q1 q2 ec c1
  rw [call_by (tab := tab) (f := 20) rfl rfl]
  simp [m20, wipe, intsD, c1, q1, q2, ec, r1, r2, l1]
end
end K12

namespace K12
open Mp PySem
section
variable {wf n : Nat} {S : Store}
theorem f22 : callF tab wf (n + 12) 22 [] [] = .ok (false, .bl true, []) := by kernel_rfl
/-! ### back from the worths -/
theorem fall_zero (t : Nat) : ∀ j : Nat, t < j → fall (t : Int) j = 0
  | 0, h => by omega
  | j + 1, h => by
    show fall (t : Int) j * ((t : Int) - j) = 0
    by_cases q : t = j
    · subst q; simp
    · rw [fall_zero t j (by omega)]; simp
theorem fall_pos (t : Nat) : ∀ k : Nat, k ≤ t → 0 < fall (t : Int) k
  | 0, _ => by show (0 : Int) < 1; omega
  | k + 1, h => by
    show 0 < fall (t : Int) k * ((t : Int) - k)
    exact Int.mul_pos (fall_pos t k (by omega)) (by omega)
abbrev cc (hs : List Int) (j : Nat) : Int := r (at0 hs) hs.length (hs.length - j)
theorem pr_cc {hs : List Int} (g : Good hs) {t : Nat} (ht : t ≤ hs.length) : pr (at0 hs) t hs.length = sumN t (fun j => cc hs j * fall t j) + cc hs t * fall t t := by
  rw [← g.wor]
  unfold wor
  rw [sumN_rev]
  have e : sumN (hs.length + 1) (fun k => r (at0 hs) hs.length (hs.length + 1 - 1 - k) * fall (t : Int) (hs.length - (hs.length + 1 - 1 - k))) = sumN (hs.length + 1) (fun j => cc hs j * fall t j) := sumN_ext fun k hk => by
    rw [show hs.length + 1 - 1 - k = hs.length - k by omega, show hs.length - (hs.length - k) = k by omega]
  rw [e, sumN_cut (m := t + 1) (by omega) fun k h1 h2 => by rw [fall_zero t k (by omega)]; simp]
  rfl
theorem f21_body {hs : List Int} (g : Good hs) {t : Nat} (ht : t ≤ hs.length) (A1 A2 e5 e6 e7 e8 e9 : Option Sl) : ∃ d5 d6 d7,
    m21b2 ⟨callF tab wf (n + 6), wf⟩ [some (.pl (.tup (intsD hs))), A1, A2, some (.own (.lst (intsD (tabl t (cc hs))))), some (.pl (.int t)), e5, e6, e7, e8, e9] S =
      .ok (.nx [some (.pl (.tup (intsD hs))), A1, A2, some (.own (.lst (intsD (tabl (t + 1) (cc hs))))), some (.pl (.int t)), d5, d6, d7, e8, e9] S) := by
  have hl := g.len2
  generalize hF : (⟨callF tab wf (n + 6), wf⟩ : CallI) = F
  obtain ⟨ε1, S1, l1, rfl, e7', rfl⟩ := for_inv (T := tName 7) (M := m21b1 F)
    (P := fun s ε S' => S' = S ∧ ∃ e7, ε = [some (.pl (.tup (intsD hs))), A1, A2, some (.own (.lst (intsD (tabl t (cc hs))))), some (.pl (.int t)), some (.pl (.int (pr (at0 hs) t hs.length - sumN s (fun j => cc hs j * fall t j)))), some (.pl (.int (fall t s))), e7, e8, e9])
    (intsFrom 0 t) (ε := [some (.pl (.tup (intsD hs))), A1, A2, some (.own (.lst (intsD (tabl t (cc hs))))), some (.pl (.int t)), some (.pl (.int (pr (at0 hs) t hs.length))), some (.pl (.int 1)), e7, e8, e9]) (S := S) ⟨rfl, e7, by simp [sumN, fall]⟩ fun s d ε S' hd ⟨hS, x3, hε⟩ => by
      subst hS hε
      obtain ⟨hs', rfl⟩ := intsFrom_get hd
      have mo1 : mulOk (cc hs s) (fall (t : Int) s) = true := g.mul (by omega) (by omega) _ _ (by omega)
      have mo2 : mulOk (fall (t : Int) s) ((t : Int) - (s : Int)) = true := mulOk_r (by omega)
      have i1 : pIdx (.lst (intsD (tabl t (cc hs)))) (.int (s : Int)) S' = .ok (.pl (.int (cc hs s))) := idxL rfl (intsD_tabl_get hs')
      refine ⟨_, rfl, [some (.pl (.tup (intsD hs))), A1, A2, some (.own (.lst (intsD (tabl t (cc hs))))), some (.pl (.int t)), some (.pl (.int (pr (at0 hs) t hs.length - sumN (s + 1) (fun j => cc hs j * fall t j)))), some (.pl (.int (fall t (s + 1)))), some (.pl (.int s)), e8, e9], S', .inl ?_, rfl, some (.pl (.int s)), rfl⟩
      have e1 : pr (at0 hs) t hs.length - sumN s (fun j => cc hs j * fall t j) - cc hs s * fall t s = pr (at0 hs) t hs.length - sumN (s + 1) (fun j => cc hs j * fall t j) := by
        show _ = _ - (sumN s _ + cc hs s * fall (t : Int) s); omega
      unfold m21b1
      simp only [x_sseq, x_set, x_bin, x_var, slot_s, slot_z, ok_bind, List.set_cons_succ, List.set_cons_zero, get_pl, get_bor, y_sub, Int.zero_add, i1, y_mul mo1, y_mul mo2, fix_pl, e1, fall]
  rw [intsFrom_length] at l1
  have q1 : F.call 12 [.tup (intsD hs), .int t] S1 = .ok (false, .int (pr (at0 hs) t hs.length), S1) := by rw [← hF]; exact f12 g (by omega) (by omega)
  have b : inR (t : Int) := inR_of (by omega) (by omega)
  have pos := fall_pos t t (by omega)
  have lg : (fall (t : Int) t).natAbs.log2 < 9000 := by
    have := log_le (fall_size (x := (t : Int)) (by omega) (by omega) t (by omega))
    omega
  have e2 : pr (at0 hs) t hs.length - sumN t (fun j => cc hs j * fall t j) = cc hs t * fall t t := by rw [pr_cc g ht]; omega
  have e3 : cc hs t * fall (t : Int) t / fall (t : Int) t = cc hs t := Int.mul_ediv_cancel _ (by omega)
  have b2 : t < 16777216 := by omega
  have s2 : intsD (tabl t (cc hs)) ++ [D.int (cc hs t)] = intsD (tabl (t + 1) (cc hs)) := by rw [← tabl_snoc]; simp [intsD]
  rw [e2] at l1
  refine ⟨some (.pl (.int (cc hs t * fall (t : Int) t))), some (.pl (.int (fall (t : Int) t))), e7', ?_⟩
  simp [m21b2, q1, b, l1, y_fdiv pos lg, e3, b2, s2]
theorem intsBy_get {lo c : Int} {n i : Nat} {d : D} (h : (intsBy lo c n)[i]? = some d) : i < n ∧ d = .int (lo + (i : Int) * c) := by
  unfold intsBy at h
  rw [List.getElem?_map] at h
  by_cases hi : i < n
  · rw [List.getElem?_range hi] at h
    simp at h
    exact ⟨hi, h.symm⟩
  · rw [List.getElem?_eq_none (by simp; omega)] at h
    simp at h
theorem f21 {hs : List Int} (g : Good hs) (hw : 100 < wf) : callF tab wf (n + 10) 21 [.tup (intsD hs)] S = .ok (false, .bl true, S) := by
  have hl := g.len2
  obtain ⟨m, hm, ec, z⟩ := f10 (wf := wf) (n := n + 3) (S := S) g hw
  obtain ⟨ε1, S1, l1, rfl, e4, e5, e6, e7, rfl⟩ := for_inv (T := tName 4) (M := m21b2 ⟨callF tab wf (n + 9), wf⟩)
    (P := fun t ε S' => S' = S ∧ ∃ e4 e5 e6 e7, ε = [some (.pl (.tup (intsD hs))), some (.pl (.tup (intsD (tabl (m + 1) (r (at0 hs) hs.length))))), some (.pl (.int hs.length)), some (.own (.lst (intsD (tabl t (cc hs))))), e4, e5, e6, e7, none, none])
    (intsFrom 0 (hs.length + 1)) (ε := [some (.pl (.tup (intsD hs))), some (.pl (.tup (intsD (tabl (m + 1) (r (at0 hs) hs.length))))), some (.pl (.int hs.length)), some (.own (.lst [])), none, none, none, none, none, none]) (S := S) ⟨rfl, none, none, none, none, rfl⟩ fun t d ε S' hd ⟨hS, e4, e5, e6, e7, hε⟩ => by
      subst hS hε
      obtain ⟨ht, rfl⟩ := intsFrom_get hd
      obtain ⟨d5, d6, d7, q⟩ := f21_body (wf := wf) (n := n + 3) (S := S') g (t := t) (by omega) (some (.pl (.tup (intsD (tabl (m + 1) (r (at0 hs) hs.length)))))) (some (.pl (.int hs.length))) e5 e6 e7 none none
      rw [Int.zero_add]
      exact ⟨_, rfl, _, _, .inl q, rfl, _, _, _, _, rfl⟩
  rw [intsFrom_length] at l1
  have c : compGo [9] (tName 9) cYes (m21e1 ⟨callF tab wf (n + 9), wf⟩) [some (.pl (.tup (intsD hs))), some (.pl (.tup (intsD (tabl (m + 1) (r (at0 hs) hs.length))))), some (.pl (.int hs.length)), some (.own (.lst (intsD (tabl (hs.length + 1) (cc hs))))), e4, e5, e6, e7, none, none] (intsBy hs.length (-1) (hs.length + 1)) S1 [] = .ok (intsD (tabl (hs.length + 1) (cc hs)), S1) := by
    refine comp_at _ (by simp [intsBy]) (by simp [intsBy]; omega) fun i d y hd hy => ?_
    obtain ⟨hi, rfl⟩ := intsBy_get hd
    rw [intsD_tabl_get hi] at hy
    cases hy
    have ei : (hs.length : Int) + (i : Int) * (-1) = ((hs.length - i : Nat) : Int) := by omega
    rw [ei]
    refine ⟨_, rfl, by simp, by simp [wipe], .inl ?_⟩
    by_cases q : hs.length - i < m + 1
    · have i1 : pIdx (.tup (intsD (tabl (m + 1) (r (at0 hs) hs.length)))) (.int ((hs.length - i : Nat) : Int)) S1 = .ok (.pl (.int (cc hs i))) := idxT rfl (intsD_tabl_get q)
      have q' : ((hs.length - i : Nat) : Int) < (m : Int) + 1 := by omega
      simp only [m21e1, x_if, x_cval, x_bin, x_var, x_un, slot_s, slot_z, ok_bind, List.set_cons_succ, List.set_cons_zero, get_pl, y_lenT, intsD_len, tabl_len, y_cmp, Int.natCast_add, Int.natCast_one, q', decide_true, if_true, i1]
    · have z0 : cc hs i = 0 := z _ (by omega) (by omega)
      have q' : ¬ ((hs.length - i : Nat) : Int) < (m : Int) + 1 := by omega
      simp [m21e1, q', z0]
  have b : inR ((hs.length : Int) + 1) := inR_of (by omega) (by omega)
  have b0 : inR (hs.length : Int) := inR_of (by omega) (by omega)
  have e1 : ((hs.length : Int) + 1).toNat = hs.length + 1 := by omega
  have eqq : pEq (.lst (intsD (tabl (hs.length + 1) (cc hs)))) (.lst (intsD (tabl (hs.length + 1) (cc hs)))) S1 = .ok (.pl (.bl true)) := y_eq_refl dat_lints
  rw [call_by (tab := tab) (f := 21) rfl rfl]
  simp [m21, ec, b, b0, e1, l1, wipe, c, eqq]
/-! ### the law -/
theorem f23 (hw : 100 < wf) {ns : List Int} (hn : ns.length ≤ 63) : ∃ S', callF tab wf (n + 14) 23 [.scr ns] [] = .ok (false, .bl true, S') := by
  obtain ⟨a, b, ec⟩ := cup_ok (tab := tab) (wf := wf) (n := n + 12) (S := []) (kc := 14) rfl (by omega) (by omega) (by omega) hn
  obtain ⟨ε1, S1, l1, ⟨a1, b1, rfl⟩, x2, x3, rfl⟩ := for_inv (T := tTup 2 (tsCons (tName 2) (tsCons (tName 3) tsNil))) (M := m23b1 ⟨callF tab wf (n + 13), wf⟩)
    (P := fun t ε S' => (∃ a b, S' = cup a b) ∧ ∃ x2 x3, ε = [some (.pl (.scr ns)), some (.pl (.ref 0)), x2, x3])
    [.tup [.int 3, .int 4], .tup [.int 8, .int 10], .tup [.int 24, .int 24], .tup [.int 24, .int 100]] (ε := [some (.pl (.scr ns)), some (.pl (.ref 0)), none, none]) (S := cup a b) ⟨⟨a, b, rfl⟩, none, none, rfl⟩ fun t d ε S' hd ⟨⟨a, b, hS⟩, x2, x3, hε⟩ => by
      subst hS hε
      obtain ⟨c, u, rfl, hc1, hc2, hu1, hu2⟩ : ∃ c u : Int, d = .tup [.int c, .int u] ∧ 0 < c ∧ c ≤ 24 ∧ 0 ≤ u ∧ u ≤ 100 := by
        have := List.mem_of_getElem? hd
        simp only [List.mem_cons, List.not_mem_nil, or_false] at this
        rcases this with h | h | h | h <;> subst h
        · exact ⟨3, 4, rfl, by omega, by omega, by omega, by omega⟩
        · exact ⟨8, 10, rfl, by omega, by omega, by omega, by omega⟩
        · exact ⟨24, 24, rfl, by omega, by omega, by omega, by omega⟩
        · exact ⟨24, 100, rfl, by omega, by omega, by omega, by omega⟩
      obtain ⟨hs, a1, b1, e1, g⟩ := f18 (wf := wf) (n := n + 11) (a := a) (b := b) hc1 hc2 hu1 hu2
      obtain ⟨a2, b2, e2⟩ := f20 (wf := wf) (n := n + 3) (a := a1) (b := b1) g hw
      refine ⟨_, rfl, [some (.pl (.scr ns)), some (.pl (.ref 0)), some (.pl (.int c)), some (.pl (.int u))], cup a2 b2, .inl ?_, ⟨a2, b2, rfl⟩, _, _, rfl⟩
      simp [m23b1, e1, e2]
  obtain ⟨h1, a2, b2, e1, g1⟩ := f18 (wf := wf) (n := n + 11) (a := a1) (b := b1) (c := 10) (t := 12) (by omega) (by omega) (by omega) (by omega)
  have e2 := f21 (wf := wf) (n := n + 3) (S := cup a2 b2) g1 hw
  obtain ⟨h2, a3, b3, e3, g2⟩ := f18 (wf := wf) (n := n + 11) (a := a2) (b := b2) (c := 24) (t := 100) (by omega) (by omega) (by omega) (by omega)
  have e4 := f21 (wf := wf) (n := n + 3) (S := cup a3 b3) g2 hw
  have e0 : callF tab wf (n + 13) 22 [] [] = .ok (false, .bl true, []) := f22
  refine ⟨cup a3 b3, ?_⟩
  simp at ec
  rw [call_by (tab := tab) (f := 23) rfl rfl]
  simp [m23, e0, ec, l1, e1, e2, e3, e4]
end
theorem law_ok (ns : List Int) (hn : ns.length ≤ 63) : ∃ wf f S', callF tab wf 14 23 [.scr ns] [] = .ok (f, .bl true, S') := by
  obtain ⟨S', e⟩ := f23 (wf := 1000) (n := 0) (by omega) hn
  exact ⟨1000, false, S', e⟩
end K12

def K12.depth : Nat := 14
namespace K12
open PySem PySem.Spec PyProof.Rows L2 Mp
/-! the head -/
def d0 : He.DefD := ⟨("is_integer", none), "is_integer", "is_integer", defArgs st0, defBody st0, defScope st0, [], []⟩
def d1 : He.DefD := ⟨("is_whole", none), "is_whole", "is_whole", defArgs st1, defBody st1, defScope st1, [], []⟩
def d2 : He.DefD := ⟨("need_whole", none), "need_whole", "need_whole", defArgs st2, defBody st2, defScope st2, [], []⟩
def d3 : He.DefD := ⟨("is_tuple_of", none), "is_tuple_of", "is_tuple_of", defArgs st3, defBody st3, defScope st3, [], []⟩
def d4 : He.DefD := ⟨("fits_heights", none), "fits_heights", "fits_heights", defArgs st4, defBody st4, defScope st4, [], []⟩
def d5 : He.DefD := ⟨("need_heights", none), "need_heights", "need_heights", defArgs st5, defBody st5, defScope st5, [], []⟩
def d6 : He.DefD := ⟨("counts_in", none), "counts_in", "counts_in", defArgs st6, defBody st6, defScope st6, [], []⟩
def d7 : He.DefD := ⟨("bare", none), "bare", "bare", defArgs st7, defBody st7, defScope st7, [], []⟩
def d8 : He.DefD := ⟨("roots_in", none), "roots_in", "roots_in", defArgs st8, defBody st8, defScope st8, [], []⟩
def d9 : He.DefD := ⟨("falling", none), "falling", "falling", defArgs st9, defBody st9, defScope st9, [], []⟩
def d10 : He.DefD := ⟨("pile_tower_counts", none), "pile_tower_counts", "pile_tower_counts", defArgs st10, defBody st10, defScope st10, [], []⟩
def d11 : He.DefD := ⟨("pile_roots", none), "pile_roots", "pile_roots", defArgs st11, defBody st11, defScope st11, [], []⟩
def d12 : He.DefD := ⟨("pile_worth", none), "pile_worth", "pile_worth", defArgs st12, defBody st12, defScope st12, [], []⟩
def d13 : He.DefD := ⟨("falling_worth", none), "falling_worth", "falling_worth", defArgs st13, defBody st13, defScope st13, [], []⟩
def d14 : He.DefD := ⟨("_law_cup", none), "_law_cup", "_law_cup", defArgs st14, defBody st14, defScope st14, [], []⟩
def d15 : He.DefD := ⟨("_law_roll", none), "_law_roll", "_law_roll", defArgs st15, defBody st15, defScope st15, [], []⟩
def d16 : He.DefD := ⟨("_law_sort", none), "_law_sort", "_law_sort", defArgs st16, defBody st16, defScope st16, [], []⟩
def d17 : He.DefD := ⟨("_law_like", none), "_law_like", "_law_like", defArgs st17, defBody st17, defScope st17, [], []⟩
def d18 : He.DefD := ⟨("_law_heights", none), "_law_heights", "_law_heights", defArgs st18, defBody st18, defScope st18, [], []⟩
def d19 : He.DefD := ⟨("_law_counts", none), "_law_counts", "_law_counts", defArgs st19, defBody st19, defScope st19, [], []⟩
def d20 : He.DefD := ⟨("_law_right", none), "_law_right", "_law_right", defArgs st20, defBody st20, defScope st20, [], []⟩
def d21 : He.DefD := ⟨("_law_found_right", none), "_law_found_right", "_law_found_right", defArgs st21, defBody st21, defScope st21, [], []⟩
def d22 : He.DefD := ⟨("_law_written_right", none), "_law_written_right", "_law_written_right", defArgs st22, defBody st22, defScope st22, [], []⟩
def d23 : He.DefD := ⟨("law", none), "law", "law", defArgs st23, defBody st23, defScope st23, [], []⟩
def fn : List He.DefD := [d0, d1, d2, d3, d4, d5, d6, d7, d8, d9, d10, d11, d12, d13, d14, d15, d16, d17, d18, d19, d20, d21, d22, d23]
def fs : List He.Fa := [.glo "is_integer", .glo "is_whole", .glo "need_whole", .glo "is_tuple_of", .glo "fits_heights", .glo "need_heights", .glo "counts_in", .glo "bare", .glo "roots_in", .glo "falling", .glo "pile_tower_counts", .glo "pile_roots", .glo "pile_worth", .glo "falling_worth", .glo "_law_cup", .glo "_law_roll", .glo "_law_sort", .glo "_law_like", .glo "_law_heights", .glo "_law_counts", .glo "_law_right", .glo "_law_found_right", .glo "_law_written_right", .glo "law", .free "isinstance", .free "int", .free "bool", .free "tuple", .free "len", .free "enumerate", .free "all", .free "zip", .free "range", .free "list", .free "sum", .free "abs", .free "str", .free "sorted", .free "max", .int "COLUMNS" 24, .int "HIGHEST" 100, .int "FAR" 1000]
def lo0 : List Str := ["BoardError", "InvalidBoard", "InvalidNumber", "is_integer", "is_whole", "need_whole", "is_tuple_of", "COLUMNS", "HIGHEST", "FAR", "fits_heights", "need_heights", "counts_in", "bare", "roots_in", "falling", "pile_tower_counts", "pile_roots", "pile_worth", "falling_worth", "_law_cup", "_law_roll", "_law_sort", "_law_like", "_law_heights", "_law_counts", "_law_right", "_law_found_right", "_law_written_right"]
abbrev lo : List Str := lo0
abbrev Rr : PySem.W.OpenRow := PySem.W.OpenLaw.row PySem.Challenge.rw_piecesplaced_k12_whole_roots_and_worths
abbrev hk : PySem.W.Hook := He.hookD 4 fs fn
def ob (s : PySem.W.SharedT) : He.AlD := He.obsDG 4 fs fn (HandSHeadRun.getT s)
theorem ob_eq (s : PySem.W.SharedT) : ob s = hk.obs s.abs := He.obsDG_eq (HandSHeadRun.getT_eq s)
theorem run (w : World) : HandSHeadRun.RunEq Rr (PySem.W.view Rr.prog [33]) hk ob 6000 lo w := by
  intro os
  kernel_rfl
def fa (K : PySem.W.Frag) : Nat → Addr
  | 0 => He.ga K "is_integer"
  | 1 => He.ga K "is_whole"
  | 2 => He.ga K "need_whole"
  | 3 => He.ga K "is_tuple_of"
  | 4 => He.ga K "fits_heights"
  | 5 => He.ga K "need_heights"
  | 6 => He.ga K "counts_in"
  | 7 => He.ga K "bare"
  | 8 => He.ga K "roots_in"
  | 9 => He.ga K "falling"
  | 10 => He.ga K "pile_tower_counts"
  | 11 => He.ga K "pile_roots"
  | 12 => He.ga K "pile_worth"
  | 13 => He.ga K "falling_worth"
  | 14 => He.ga K "_law_cup"
  | 15 => He.ga K "_law_roll"
  | 16 => He.ga K "_law_sort"
  | 17 => He.ga K "_law_like"
  | 18 => He.ga K "_law_heights"
  | 19 => He.ga K "_law_counts"
  | 20 => He.ga K "_law_right"
  | 21 => He.ga K "_law_found_right"
  | 22 => He.ga K "_law_written_right"
  | 23 => He.ga K "law"
  | _ => 0
theorem facts {K : PySem.W.Frag} {h : Heap} {mg : Str → Option Value} (X : K.In h) (G : h.Ns mainGlobals mg) (c : He.SaysD fs fn K) : ∃ fd : Nat → FuncData, Fx K mg (fa K) fd := by
  obtain ⟨e0, E0⟩ := c.def_ 0 (d := d0) rfl
  obtain ⟨e1, E1⟩ := c.def_ 1 (d := d1) rfl
  obtain ⟨e2, E2⟩ := c.def_ 2 (d := d2) rfl
  obtain ⟨e3, E3⟩ := c.def_ 3 (d := d3) rfl
  obtain ⟨e4, E4⟩ := c.def_ 4 (d := d4) rfl
  obtain ⟨e5, E5⟩ := c.def_ 5 (d := d5) rfl
  obtain ⟨e6, E6⟩ := c.def_ 6 (d := d6) rfl
  obtain ⟨e7, E7⟩ := c.def_ 7 (d := d7) rfl
  obtain ⟨e8, E8⟩ := c.def_ 8 (d := d8) rfl
  obtain ⟨e9, E9⟩ := c.def_ 9 (d := d9) rfl
  obtain ⟨e10, E10⟩ := c.def_ 10 (d := d10) rfl
  obtain ⟨e11, E11⟩ := c.def_ 11 (d := d11) rfl
  obtain ⟨e12, E12⟩ := c.def_ 12 (d := d12) rfl
  obtain ⟨e13, E13⟩ := c.def_ 13 (d := d13) rfl
  obtain ⟨e14, E14⟩ := c.def_ 14 (d := d14) rfl
  obtain ⟨e15, E15⟩ := c.def_ 15 (d := d15) rfl
  obtain ⟨e16, E16⟩ := c.def_ 16 (d := d16) rfl
  obtain ⟨e17, E17⟩ := c.def_ 17 (d := d17) rfl
  obtain ⟨e18, E18⟩ := c.def_ 18 (d := d18) rfl
  obtain ⟨e19, E19⟩ := c.def_ 19 (d := d19) rfl
  obtain ⟨e20, E20⟩ := c.def_ 20 (d := d20) rfl
  obtain ⟨e21, E21⟩ := c.def_ 21 (d := d21) rfl
  obtain ⟨e22, E22⟩ := c.def_ 22 (d := d22) rfl
  obtain ⟨e23, E23⟩ := c.def_ 23 (d := d23) rfl
  refine ⟨fun i => match i with
    | 0 => e0
    | 1 => e1
    | 2 => e2
    | 3 => e3
    | 4 => e4
    | 5 => e5
    | 6 => e6
    | 7 => e7
    | 8 => e8
    | 9 => e9
    | 10 => e10
    | 11 => e11
    | 12 => e12
    | 13 => e13
    | 14 => e14
    | 15 => e15
    | 16 => e16
    | 17 => e17
    | 18 => e18
    | 19 => e19
    | 20 => e20
    | 21 => e21
    | 22 => e22
    | 23 => e23
    | _ => e0, {
    F0 := E0
    g0 := He.glo_ok X G (c.fact 0 (f := .glo "is_integer") rfl)
    B0 := FunD.bindsN (ps := ["value"]) E0 fun _ _ _ _ _ _ us hl => match us, hl with | [_], _ => rfl
    F1 := E1
    g1 := He.glo_ok X G (c.fact 1 (f := .glo "is_whole") rfl)
    B1 := FunD.bindsN (ps := ["value", "low", "high"]) E1 fun _ _ _ _ _ _ us hl => match us, hl with | [_, _, _], _ => rfl
    F2 := E2
    g2 := He.glo_ok X G (c.fact 2 (f := .glo "need_whole") rfl)
    B2 := FunD.bindsN (ps := ["value", "low", "high"]) E2 fun _ _ _ _ _ _ us hl => match us, hl with | [_, _, _], _ => rfl
    F3 := E3
    g3 := He.glo_ok X G (c.fact 3 (f := .glo "is_tuple_of") rfl)
    B3 := FunD.bindsN (ps := ["value", "low", "high"]) E3 fun _ _ _ _ _ _ us hl => match us, hl with | [_, _, _], _ => rfl
    F4 := E4
    g4 := He.glo_ok X G (c.fact 4 (f := .glo "fits_heights") rfl)
    B4 := FunD.bindsN (ps := ["value"]) E4 fun _ _ _ _ _ _ us hl => match us, hl with | [_], _ => rfl
    F5 := E5
    g5 := He.glo_ok X G (c.fact 5 (f := .glo "need_heights") rfl)
    B5 := FunD.bindsN (ps := ["heights"]) E5 fun _ _ _ _ _ _ us hl => match us, hl with | [_], _ => rfl
    F6 := E6
    g6 := He.glo_ok X G (c.fact 6 (f := .glo "counts_in") rfl)
    B6 := FunD.bindsN (ps := ["heights"]) E6 fun _ _ _ _ _ _ us hl => match us, hl with | [_], _ => rfl
    F7 := E7
    g7 := He.glo_ok X G (c.fact 7 (f := .glo "bare") rfl)
    B7 := FunD.bindsN (ps := ["counts"]) E7 fun _ _ _ _ _ _ us hl => match us, hl with | [_], _ => rfl
    F8 := E8
    g8 := He.glo_ok X G (c.fact 8 (f := .glo "roots_in") rfl)
    B8 := FunD.bindsN (ps := ["heights"]) E8 fun _ _ _ _ _ _ us hl => match us, hl with | [_], _ => rfl
    F9 := E9
    g9 := He.glo_ok X G (c.fact 9 (f := .glo "falling") rfl)
    B9 := FunD.bindsN (ps := ["number", "many"]) E9 fun _ _ _ _ _ _ us hl => match us, hl with | [_, _], _ => rfl
    F10 := E10
    g10 := He.glo_ok X G (c.fact 10 (f := .glo "pile_tower_counts") rfl)
    B10 := FunD.bindsN (ps := ["heights"]) E10 fun _ _ _ _ _ _ us hl => match us, hl with | [_], _ => rfl
    F11 := E11
    g11 := He.glo_ok X G (c.fact 11 (f := .glo "pile_roots") rfl)
    B11 := FunD.bindsN (ps := ["heights"]) E11 fun _ _ _ _ _ _ us hl => match us, hl with | [_], _ => rfl
    F12 := E12
    g12 := He.glo_ok X G (c.fact 12 (f := .glo "pile_worth") rfl)
    B12 := FunD.bindsN (ps := ["heights", "number"]) E12 fun _ _ _ _ _ _ us hl => match us, hl with | [_, _], _ => rfl
    F13 := E13
    g13 := He.glo_ok X G (c.fact 13 (f := .glo "falling_worth") rfl)
    B13 := FunD.bindsN (ps := ["heights", "number"]) E13 fun _ _ _ _ _ _ us hl => match us, hl with | [_, _], _ => rfl
    F14 := E14
    g14 := He.glo_ok X G (c.fact 14 (f := .glo "_law_cup") rfl)
    B14 := FunD.bindsN (ps := ["script"]) E14 fun _ _ _ _ _ _ us hl => match us, hl with | [_], _ => rfl
    F15 := E15
    g15 := He.glo_ok X G (c.fact 15 (f := .glo "_law_roll") rfl)
    B15 := FunD.bindsN (ps := ["cup", "many"]) E15 fun _ _ _ _ _ _ us hl => match us, hl with | [_, _], _ => rfl
    F16 := E16
    g16 := He.glo_ok X G (c.fact 16 (f := .glo "_law_sort") rfl)
    B16 := FunD.bindsN (ps := ["value"]) E16 fun _ _ _ _ _ _ us hl => match us, hl with | [_], _ => rfl
    F17 := E17
    g17 := He.glo_ok X G (c.fact 17 (f := .glo "_law_like") rfl)
    B17 := FunD.bindsN (ps := ["one", "other"]) E17 fun _ _ _ _ _ _ us hl => match us, hl with | [_, _], _ => rfl
    F18 := E18
    g18 := He.glo_ok X G (c.fact 18 (f := .glo "_law_heights") rfl)
    B18 := FunD.bindsN (ps := ["cup", "columns", "top"]) E18 fun _ _ _ _ _ _ us hl => match us, hl with | [_, _, _], _ => rfl
    F19 := E19
    g19 := He.glo_ok X G (c.fact 19 (f := .glo "_law_counts") rfl)
    B19 := FunD.bindsN (ps := ["heights"]) E19 fun _ _ _ _ _ _ us hl => match us, hl with | [_], _ => rfl
    F20 := E20
    g20 := He.glo_ok X G (c.fact 20 (f := .glo "_law_right") rfl)
    B20 := FunD.bindsN (ps := ["cup", "heights"]) E20 fun _ _ _ _ _ _ us hl => match us, hl with | [_, _], _ => rfl
    F21 := E21
    g21 := He.glo_ok X G (c.fact 21 (f := .glo "_law_found_right") rfl)
    B21 := FunD.bindsN (ps := ["heights"]) E21 fun _ _ _ _ _ _ us hl => match us, hl with | [_], _ => rfl
    F22 := E22
    g22 := He.glo_ok X G (c.fact 22 (f := .glo "_law_written_right") rfl)
    B22 := FunD.bindsN (ps := []) E22 fun _ _ _ _ _ _ us hl => match us, hl with | [], _ => rfl
    F23 := E23
    g23 := He.glo_ok X G (c.fact 23 (f := .glo "law") rfl)
    B23 := FunD.bindsN (ps := ["script"]) E23 fun _ _ _ _ _ _ us hl => match us, hl with | [_], _ => rfl
    b_isinstance := He.free_ok X G (c.fact 24 (f := .free "isinstance") rfl)
    b_int := He.free_ok X G (c.fact 25 (f := .free "int") rfl)
    b_bool := He.free_ok X G (c.fact 26 (f := .free "bool") rfl)
    b_tuple := He.free_ok X G (c.fact 27 (f := .free "tuple") rfl)
    b_len := He.free_ok X G (c.fact 28 (f := .free "len") rfl)
    b_enumerate := He.free_ok X G (c.fact 29 (f := .free "enumerate") rfl)
    b_all := He.free_ok X G (c.fact 30 (f := .free "all") rfl)
    b_zip := He.free_ok X G (c.fact 31 (f := .free "zip") rfl)
    b_range := He.free_ok X G (c.fact 32 (f := .free "range") rfl)
    b_list := He.free_ok X G (c.fact 33 (f := .free "list") rfl)
    b_sum := He.free_ok X G (c.fact 34 (f := .free "sum") rfl)
    b_abs := He.free_ok X G (c.fact 35 (f := .free "abs") rfl)
    b_str := He.free_ok X G (c.fact 36 (f := .free "str") rfl)
    b_sorted := He.free_ok X G (c.fact 37 (f := .free "sorted") rfl)
    b_max := He.free_ok X G (c.fact 38 (f := .free "max") rfl)
    c_COLUMNS := He.int_ok X G (c.fact 39 (f := .int "COLUMNS" 24) rfl)
    c_HIGHEST := He.int_ok X G (c.fact 40 (f := .int "HIGHEST" 100) rfl)
    c_FAR := He.int_ok X G (c.fact 41 (f := .int "FAR" 1000) rfl)
    }⟩
theorem lawBind {K : PySem.W.Frag} (c : He.SaysD fs fn K) {fd : Nat → FuncData} {mg : Str → Option Value} (x : Fx K mg (fa K) fd) (s : Shared) (v : Value) : BindsTo s (fd 23) ⟨[v], []⟩ [("script", v)] :=
  FunD.bindsA (ps := ["script"]) x.F23 (fun _ _ _ _ _ _ us hl => match us, hl with | [_], _ => rfl) s [v] rfl
end K12
open PySem PySem.W PySem.Calls PyProof.Rows
set_option maxHeartbeats 0 in
theorem K12.from (hlaw : ∀ ns : List Int, ns.length ≤ 63 → ∃ wf f S', Mp.callF K12.tab wf K12.depth 23 [.scr ns] [] = .ok (f, .bl true, S')) (hdep : L2.Room K12.depth callerA) : PySem.Challenge.rw_piecesplaced_k12_whole_roots_and_worths.Holds := by
  w_on; o_law
  refine HandSHeadRun.head_any (r := OpenLaw.row PySem.Challenge.rw_piecesplaced_k12_whole_roots_and_worths) (q := view (OpenLaw.row PySem.Challenge.rw_piecesplaced_k12_whole_roots_and_worths).prog [33]) (H := K12.hk) (ob := K12.ob) (M := 6000) (loose := K12.lo) (d := HandSHeadRun.topDef (OpenLaw.row PySem.Challenge.rw_piecesplaced_k12_whole_roots_and_worths).prog 33) (kwd := []) K12.ob_eq
    (by kernel_rfl) (fun s => by kernel_rfl) K12.run (by kernel_rfl) (by kernel_rfl) (by kernel_rfl) (by rfl) (by first | assumption | decide +kernel) (by decide +kernel) ⟨rfl, rfl, rfl, rfl, rfl, by decide +kernel⟩ ?hw ?hc
  case hw => w_witness2
  case hc =>
    refine L2.walk_ofE (l := PySem.Challenge.rw_piecesplaced_k12_whole_roots_and_worths) (n := 63) (k := K12.depth) (x := "script") (CX := L2.CX0) rfl (by decide) (by kernel_rfl) hdep ?F (fun _ _ _ _ z => z)
    intro w mg fa0 h Y G hmg0
    obtain ⟨K, KX, c⟩ := Y
    have hmg : mg ("law" : PySem.Str) = some (.ref fa0) := by
      have e : (HandSHeadRun.topDef (OpenLaw.row PySem.Challenge.rw_piecesplaced_k12_whole_roots_and_worths).prog 33).name = ("law" : PySem.Str) := by kernel_rfl
      rw [← e]
      exact hmg0
    obtain ⟨fd, x⟩ := K12.facts KX G c
    have e := hmg.symm.trans x.g23
    cases e
    exact ⟨K, fd 23, fun vs H Q E => ∃ wf, Mp.spOf ⟨K, fun _ => 0⟩ (Mp.callF K12.tab wf K12.depth 23) vs H Q E, KX, K12.lawBind c x, fun H a ns hl hO hS => by
      obtain ⟨wf, f, S', e⟩ := hlaw ns hl
      exact ⟨wf, Mp.law_sp hO hS e fun _ => rfl⟩, fun base _ _ => Mp.fn_any fun wf => (K12.all x K12.depth).a23⟩


theorem PySem.Challenge.cw_piecesplaced_k12_whole_roots_and_worths_holds : PySem.Challenge.rw_piecesplaced_k12_whole_roots_and_worths.Holds :=
  K12.from K12.law_ok ⟨rfl, by decide, by decide⟩
