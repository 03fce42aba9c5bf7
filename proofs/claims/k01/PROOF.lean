import PyProof.Rows.All
import Wide.All
import OpenK.AllK
import Wide.FinOn
import HandS.ForMost
import HandS.Exc
import HandS.IsInst
import HandS.Style
import KE.KExcSuper
import HandS.TryMany
import HandS.ExcIs
import HandS.ExcField
import PyProof.LongRange
import PyProof.ListRange
import HandS.Conv
import HandS.WordsExc
import HandS.Ends
import PySem.Challenge.RW_endsmeant_k01_meanings_and_casts
set_option Elab.async false
set_option linter.all false
set_option maxRecDepth 100000
/-! TLa: trees, slots, the small language E, S and its evaluator. -/
namespace TL
open PySem L2

abbrev St := L2.St
/-- a dict's key -/
abbrev DK := Sum Key (List Key)

/-- a value as a tree -/
inductive T where
  | non | bl (b : Bool) | int (i : Int) | str (s : Str)
  | tup (xs : List T) | lst (xs : List T)
  | dct (tk : Bool) (ks : List DK) (ts : List T)
  | ins (c : Nat) (fs : List Str) (ts : List T)

/-- what a slot holds: nothing that is known; a frozen tree; an object of its own (its parts frozen); the draws' state; the script -/
inductive Sl where
  | un
  | sh (t : T)
  | ow (t : T)
  | rn (st : Int) (cells : List Int) (ix : Int)
  | scr (cells : List Int)

abbrev Env := List Sl

/-- an exception: its class, its field -/
structure Exc where
  c : Nat
  f : Option (Str × T)

/-- what evaluating gives -/
inductive R (α : Type) where
  | ok (a : α) (ρ : Env)
  | ex (x : Exc) (ρ : Env)
  | bad

def R.bind {α β : Type} (m : R α) (f : α → Env → R β) : R β :=
  match m with
  | .ok a ρ => f a ρ
  | .ex x ρ => .ex x ρ
  | .bad => .bad
theorem R.bind_ok {α β : Type} (a : α) (ρ : Env) (f : α → Env → R β) : (R.ok a ρ).bind f = f a ρ := rfl
theorem R.bind_ex {α β : Type} (x : Exc) (ρ : Env) (f : α → Env → R β) : (R.ex x ρ : R α).bind f = .ex x ρ := rfl
theorem R.bind_bad {α β : Type} (f : α → Env → R β) : (R.bad : R α).bind f = .bad := rfl
/-- an option in it -/
def R.of {α : Type} (ρ : Env) : Option α → R α
  | some a => .ok a ρ
  | none => .bad
theorem R.of_some {α : Type} (ρ : Env) (a : α) : R.of ρ (some a) = .ok a ρ := rfl
theorem R.of_none {α : Type} (ρ : Env) : R.of ρ (none : Option α) = .bad := rfl

inductive Out where
  | ok (r : Sl)
  | ex (x : Exc)

inductive Fl where
  | nx | bk | ct
  | ret (r : Sl)

/-- the classes that isinstance may ask -/
inductive Ty where
  | str | int | bool | tuple | list | dict
  | cls (c : Nat)
  deriving DecidableEq

/-- strict operations on values -/
inductive Bi where
  | add | sub | mul | fdiv | mod | pow | neg
  | eq | ne | lt | le | gt | ge | isN | notN | inn | nin
  | ix | slc (lo hi : Bool)
  | mkT | mkL
  | len | int1 | abs | max2 | min2 | listOf | tupOf | rangeL
  | isi (ks : List Ty) | fld (f : Str)
  | all

/-- what a loop walks -/
inductive ItK where
  | seq | range1 | range2 | enum | zip | keys

inductive E where
  | cst (t : T)
  | glb (n : Nat)
  | var (i : Nat)
  | mv (i : Nat)
  | pk (i : Nat)
  | bi (b : Bi) (os : List E)
  | and (a b : E) | or (a b : E) | not (a : E) | ite (c a b : E)
  | chain (b1 b2 : Bi) (x y z : E)
  | call (f : Nat) (as : List E)
  | lc (elt : E) (i : Nat) (k : ItK) (os : List E) (cond : Option E)

/-- targets -/
inductive Tg where
  | v (i : Nat)
  | tup (gs : List Tg)
  | ix (o : Nat) (k : E)
  | fld (o : Nat) (f : Str)

inductive Mt where
  | append | extend
  deriving DecidableEq

/-- what an except suite is written in -/
inductive X1 where
  | cst (t : T)
  | erf (f : Str)
  | eri (c : Nat)
  | ite (c a b : X1)
inductive XS where
  | app (i : Nat) (x : X1)
  | set (i : Nat) (x : X1)
  | ret (x : X1)
  | pass

inductive S where
  | ex (e : E)
  | mut (i : Nat) (m : Mt) (e : E)
  | asg (g : Tg) (e : E)
  | par (is : List Nat) (es : List E)
  | aug (i : Nat) (e : E)
  | ite (c : E) (a b : List S)
  | for (g : Tg) (k : ItK) (os : List E) (body : List S)
  | while (c : E) (body : List S)
  | ret (e : Option E)
  | raise (c : Nat) (as : List E)
  | try (body : List S) (hs : List (List Nat × Option Nat × XS))
  | pass | brk | cont

/-- what a def is run with: the defs, the module's constants, how many slots (the parameters) are never stored to, the longest while -/
structure Cfg where
  call : Nat → List Sl → Option (Out × List Sl)
  glob : Nat → Option T
  exc : Nat → List T → Option Exc
  sub : Nat → Nat → Bool
  fld : Nat → Str → Bool
  np : Nat
  fuel : Nat
  errs : List Nat
  objs : List Nat

/-! ### operations on trees -/
def frz : Sl → Option T
  | .sh t => some t
  | .ow t => some t
  | _ => none
def peekT (ρ : Env) (i : Nat) : Option T := ρ[i]?.bind frz

/- as data, where it is that -/
mutual
def toD : T → Option PyData
  | .non => some .none
  | .bl b => some (.bool b)
  | .int i => some (.int i)
  | .str s => some (.str s)
  | .tup xs => (toDs xs).map .tuple
  | .lst xs => (toDs xs).map .list
  | .dct _ _ _ => none
  | .ins _ _ _ => none
def toDs : List T → Option (List PyData)
  | [] => some []
  | x :: xs => (toD x).bind fun d => (toDs xs).map (d :: ·)
end
/-- == of data -/
def eqD (t u : T) : Option Bool :=
  (toD t).bind fun d => (toD u).bind fun e => if SeqAt.shaped d && SeqAt.shaped e then some (PyData.eqv d e) else none

def isTy (sub : Nat → Nat → Bool) (t : T) : Ty → Bool
  | .str => match t with | .str _ => true | _ => false
  | .int => match t with | .int _ => true | .bl _ => true | _ => false
  | .bool => match t with | .bl _ => true | _ => false
  | .tuple => match t with | .tup _ => true | _ => false
  | .list => match t with | .lst _ => true | _ => false
  | .dict => match t with | .dct _ _ _ => true | _ => false
  | .cls c => match t with | .ins d _ _ => sub d c | _ => false

/-- flat: what `in` over a list or tuple serves -/
def flT : T → Bool
  | .non => true | .bl _ => true | .int _ => true | .str _ => true
  | _ => false
/-- == of flat values -/
def eqF : T → T → Bool
  | .non, .non => true
  | .bl a, .bl b => a == b
  | .int a, .int b => a == b
  | .bl a, .int b => (if a then 1 else 0 : Int) == b
  | .int a, .bl b => a == (if b then 1 else 0 : Int)
  | .str a, .str b => a == b
  | _, _ => false
/-- x in xs -/
def inT (x : T) (xs : List T) : Bool := xs.any fun y => eqF y x

/-- a key of a dict -/
def keyT : T → Option DK
  | .int i => some (.inl (.inl i))
  | .str s => some (.inl (.inr s))
  | .tup xs => (keys xs).map .inr
  | _ => none
where keys : List T → Option (List Key)
  | [] => some []
  | .int i :: r => (keys r).map (.inl i :: ·)
  | .str s :: r => (keys r).map (.inr s :: ·)
  | _ => none
def dGet : List DK → List T → DK → Option T
  | k :: ks, t :: ts, q => if k = q then some t else dGet ks ts q
  | _, _, _ => none
def dPut : List DK → List T → DK → T → List DK × List T
  | k :: ks, t :: ts, q, v => if k = q then (k :: ks, v :: ts) else ((k :: (dPut ks ts q v).1), (t :: (dPut ks ts q v).2))
  | _, _, q, v => ([q], [v])
def hasK (ks : List DK) (k : DK) : Bool := ks.any fun q => decide (q = k)
def isKK : DK → Bool
  | .inl _ => true
  | .inr _ => false

def line : Nat := sizeLine
def lo63 (i : Int) : Bool := decide (-(2 ^ 62) ≤ i) && decide (i < 2 ^ 62)
/-- a slice's bounds over n items -/
def clipT (n : Nat) (i : Int) : Nat := (if i < 0 then (if i + n < 0 then 0 else i + n) else if (n : Int) < i then n else i).toNat
def cutT (xs : List T) (lo hi : Option Int) : List T :=
  let a := (lo.map (clipT xs.length)).getD 0
  let b := (hi.map (clipT xs.length)).getD xs.length
  (xs.take b).drop a

def intsOf : List T → Option (List Int)
  | [] => some []
  | .int i :: r => (intsOf r).map (i :: ·)
  | _ => none
def blsOf : List T → Option (List Bool)
  | [] => some []
  | .bl i :: r => (blsOf r).map (i :: ·)
  | _ => none

def rangeT (lo : Int) (n : Nat) : List T := (List.range n).map fun (i : Nat) => T.int (lo + (i : Int))

def bAdd : List T → Option Sl
  | [.int i, .int j] => some (.sh (.int (i + j)))
  | [.str a, .str b] => if a.length + b.length ≤ line then some (.sh (.str (a ++ b))) else none
  | [.lst a, .lst b] => if a.length + b.length ≤ line then some (.ow (.lst (a ++ b))) else none
  | _ => none
def bInt2 (f : Int → Int → T) : List T → Option Sl
  | [.int i, .int j] => some (.sh (f i j))
  | _ => none
def bInt2C (c : Int → Int → Bool) (f : Int → Int → T) : List T → Option Sl
  | [.int i, .int j] => if c i j then some (.sh (f i j)) else none
  | _ => none
def bInt1 (f : Int → T) : List T → Option Sl
  | [.int i] => some (.sh (f i))
  | _ => none
def bEq (n : Bool) : List T → Option Sl
  | [t, u] => (eqD t u).map fun b => .sh (.bl (if n then !b else b))
  | _ => none
def isNon : T → Bool
  | .non => true
  | _ => false
def bIsN (n : Bool) : List T → Option Sl
  | [t, .non] => some (.sh (.bl (if n then !isNon t else isNon t)))
  | _ => none
def bIn (n : Bool) : List T → Option Sl
  | [x, .tup xs] => if flT x && xs.all flT then some (.sh (.bl (if n then !inT x xs else inT x xs))) else none
  | [x, .lst xs] => if flT x && xs.all flT then some (.sh (.bl (if n then !inT x xs else inT x xs))) else none
  | [x, .dct false ks _] => (keyT x).bind fun k => if isKK k then some (.sh (.bl (if n then !hasK ks k else hasK ks k))) else none
  | _ => none
def bIx : List T → Option Sl
  | [.lst xs, .int i] => (L2.atI xs i).map .sh
  | [.tup xs, .int i] => (L2.atI xs i).map .sh
  | [.str s, .int i] => if s.length ≤ line then (L2.atI s.cps.toList i).map fun c => .sh (.str ⟨#[c]⟩) else none
  | [.dct false ks ts, k] => (keyT k).bind fun k => if isKK k then (dGet ks ts k).map .sh else none
  | _ => none
def bMkT (ts : List T) : Option Sl := if ts.length ≤ line then some (.sh (.tup ts)) else none
def bMkL (ts : List T) : Option Sl := if ts.length ≤ line then some (.ow (.lst ts)) else none
def bLen : List T → Option Sl
  | [.lst xs] => some (.sh (.int xs.length))
  | [.tup xs] => some (.sh (.int xs.length))
  | [.str s] => if s.length ≤ line then some (.sh (.int s.length)) else none
  | _ => none
def bInt : List T → Option Sl
  | [.int i] => some (.sh (.int i))
  | [.bl b] => some (.sh (.int (if b then 1 else 0)))
  | _ => none
def bList : List T → Option Sl
  | [.lst xs] => some (.ow (.lst xs))
  | [.tup xs] => some (.ow (.lst xs))
  | _ => none
def bTup : List T → Option Sl
  | [.lst xs] => some (.sh (.tup xs))
  | [.tup xs] => some (.sh (.tup xs))
  | _ => none
def bRange : List T → Option Sl
  | [.int i, .int j] => if (j - i).toNat ≤ 1000000 then some (.ow (.lst (rangeT i (j - i).toNat))) else none
  | _ => none
def isiOk (C : Cfg) (ks : List Ty) : T → Bool
  | .dct true _ _ => false
  | .ins c _ _ => C.objs.contains c && ks.all fun k => match k with | .cls d => C.objs.contains d | _ => true
  | _ => ks.all fun k => match k with | .cls d => C.objs.contains d | _ => true
def bIsi (C : Cfg) (ks : List Ty) : List T → Option Sl
  | [t] => if isiOk C ks t then some (.sh (.bl (ks.any (isTy C.sub t)))) else none
  | _ => none
def bFld (C : Cfg) (f : Str) : List T → Option Sl
  | [.ins c fs ts] => if C.objs.contains c && C.fld c f then ((fs.zip ts).lookup f).map .sh else none
  | _ => none
def bAll : List T → Option Sl
  | [.lst xs] => (blsOf xs).map fun bs => .sh (.bl (bs.all id))
  | _ => none
def biT (C : Cfg) (b : Bi) (ts : List T) : Option Sl :=
  match b with
  | .add => bAdd ts
  | .sub => bInt2 (fun i j => .int (i - j)) ts
  | .mul => bInt2C (fun i j => decide ((-(2 ^ 64) < i ∧ i < 2 ^ 64) ∨ (-(2 ^ 64) < j ∧ j < 2 ^ 64))) (fun i j => .int (i * j)) ts
  | .fdiv => bInt2C (fun _ j => decide (0 < j ∧ j < 1073741824)) (fun i j => .int (i / j)) ts
  | .mod => bInt2C (fun _ j => decide (0 < j)) (fun i j => .int (i % j)) ts
  | .pow => bInt2C (fun i j => decide (0 ≤ j ∧ j ≤ 1000 ∧ i.natAbs < 2 ^ 64)) (fun i j => .int (i ^ j.toNat)) ts
  | .neg => bInt1 (fun i => .int (-i)) ts
  | .eq => bEq false ts
  | .ne => bEq true ts
  | .lt => bInt2 (fun i j => .bl (decide (i < j))) ts
  | .le => bInt2 (fun i j => .bl (decide (i ≤ j))) ts
  | .gt => bInt2 (fun i j => .bl (decide (j < i))) ts
  | .ge => bInt2 (fun i j => .bl (decide (j ≤ i))) ts
  | .isN => bIsN false ts
  | .notN => bIsN true ts
  | .inn => bIn false ts
  | .nin => bIn true ts
  | .ix => bIx ts
  | .slc _ _ => none
  | .mkT => bMkT ts
  | .mkL => bMkL ts
  | .len => bLen ts
  | .int1 => bInt ts
  | .abs => bInt1 (fun i => .int (if i < 0 then -i else i)) ts
  | .max2 => bInt2 (fun i j => .int (if j > i then j else i)) ts
  | .min2 => bInt2 (fun i j => .int (if j < i then j else i)) ts
  | .listOf => bList ts
  | .tupOf => bTup ts
  | .rangeL => bRange ts
  | .isi ks => bIsi C ks ts
  | .fld f => bFld C f ts
  | .all => bAll ts

/-- what is walked -/
def itT (k : ItK) (ts : List T) : Option (List T) :=
  match k, ts with
  | .seq, [.lst xs] => some xs
  | .seq, [.tup xs] => some xs
  | .range1, [.int j] => if lo63 j then some (rangeT 0 j.toNat) else none
  | .range2, [.int i, .int j] => if lo63 i && lo63 j then some (rangeT i (j - i).toNat) else none
  | _, _ => none

/-- operands: what was evaluated, and the slots that are looked at -/
def resolve : List E → List (Option T) → Env → Option (List T)
  | .pk i :: es, _ :: ts, ρ => (peekT ρ i).bind fun t => (resolve es ts ρ).map (t :: ·)
  | _ :: es, some t :: ts, ρ => (resolve es ts ρ).map (t :: ·)
  | [], [], _ => some []
  | _, _, _ => none
/-- arguments: the slots are handed over -/
def handed : List E → List (Option T) → Env → Option (List Sl × Env)
  | .pk i :: es, _ :: ts, ρ => match ρ[i]? with
    | some (.sh t) => (handed es ts ρ).map fun p => (.sh t :: p.1, p.2)
    | some (.scr t) => (handed es ts ρ).map fun p => (.scr t :: p.1, p.2)
    | some (.ow t) => (handed es ts (ρ.set i .un)).map fun p => (.ow t :: p.1, p.2)
    | some (.rn a b c) => (handed es ts (ρ.set i .un)).map fun p => (.rn a b c :: p.1, p.2)
    | _ => none
  | _ :: es, some t :: ts, ρ => (handed es ts ρ).map fun p => (.sh t :: p.1, p.2)
  | [], [], ρ => some ([], ρ)
  | _, _, _ => none
/-- .. and come back; those that stayed in their slots (frozen ones) are left -/
def back : List E → List Sl → List Sl → Env → Env
  | .pk i :: es, a :: as, o :: os, ρ => back es as os (match a with | .sh _ => ρ | .scr _ => ρ | _ => ρ.set i o)
  | _ :: es, _ :: as, _ :: os, ρ => back es as os ρ
  | _, _, _, ρ => ρ

/-- a comprehension's loop: acc so far -/
def lcL (i : Nat) (cond : Env → R Bool) (elt : Env → R T) : List T → List T → Env → R (List T)
  | [], acc, ρ => .ok acc ρ
  | t :: ts, acc, ρ => (cond (ρ.set i (.sh t))).bind fun b ρ =>
    if b then (elt ρ).bind fun v ρ => if acc.length < line then lcL i cond elt ts (acc ++ [v]) (ρ.set i .un) else .bad
    else lcL i cond elt ts acc (ρ.set i .un)

def asB : Sl → Option Bool
  | .sh (.bl b) => some b
  | _ => none

/-- a parameter's object that is walked is out of reach meanwhile -/
def lockAll (np : Nat) : List E → Env → Option (List (Nat × T) × Env)
  | .pk i :: es, ρ => match ρ[i]? with
    | some (.sh _) => lockAll np es ρ
    | some (.ow t) => if i < np then (lockAll np es (ρ.set i .un)).map fun p => ((i, t) :: p.1, p.2) else none
    | _ => none
  | _ :: es, ρ => lockAll np es ρ
  | [], ρ => some ([], ρ)
def unlock : List (Nat × T) → Env → Env
  | (i, t) :: ls, ρ => (unlock ls ρ).set i (.ow t)
  | [], ρ => ρ
/-- nothing may be raised there -/
def noEx {α : Type} : R α → R α
  | .ok a ρ => .ok a ρ
  | _ => .bad

/-- an operand: a slot that is looked at, or a value, frozen -/
def known : Option Sl → Bool
  | some (.sh _) => true
  | some (.ow _) => true
  | some (.rn _ _ _) => true
  | some (.scr _) => true
  | _ => false
def oOf (e : E) (m : Env → R Sl) (ρ : Env) : R (Option T) :=
  match e with
  | .pk i => if known ρ[i]? then .ok none ρ else .bad
  | _ => (m ρ).bind fun s ρ => (R.of ρ (frz s)).bind fun t ρ => .ok (some t) ρ

mutual
def ev (C : Cfg) : E → Env → R Sl
  | .cst t, ρ => .ok (.sh t) ρ
  | .glb n, ρ => (R.of ρ (C.glob n)).bind fun t ρ => .ok (.sh t) ρ
  | .var i, ρ => match ρ[i]? with
    | some (.sh t) => .ok (.sh t) ρ
    | some (.ow t) => .ok (.sh t) (ρ.set i (.sh t))
    | _ => .bad
  | .mv i, ρ => match ρ[i]? with
    | some (.sh t) => .ok (.sh t) ρ
    | some (.ow t) => if i < C.np then .ok (.sh t) (ρ.set i (.sh t)) else .ok (.ow t) (ρ.set i .un)
    | _ => .bad
  | .pk _, _ => .bad
  | .bi b os, ρ => (evOs C os ρ).bind fun ts ρ => R.of ρ ((resolve os ts ρ).bind (biT C b))
  | .and a b, ρ => (ev C a ρ).bind fun s ρ => (R.of ρ (asB s)).bind fun c ρ => if c then ev C b ρ else .ok (.sh (.bl false)) ρ
  | .or a b, ρ => (ev C a ρ).bind fun s ρ => (R.of ρ (asB s)).bind fun c ρ => if c then .ok (.sh (.bl true)) ρ else ev C b ρ
  | .not a, ρ => (ev C a ρ).bind fun s ρ => (R.of ρ (asB s)).bind fun c ρ => .ok (.sh (.bl (!c))) ρ
  | .ite c a b, ρ => (ev C c ρ).bind fun s ρ => (R.of ρ (asB s)).bind fun c ρ => if c then ev C a ρ else ev C b ρ
  | .chain b1 b2 x y z, ρ => (oOf x (ev C x) ρ).bind fun tx ρ => (oOf y (ev C y) ρ).bind fun ty ρ =>
      (R.of ρ ((resolve [x, y] [tx, ty] ρ).bind (biT C b1))).bind fun s ρ => (R.of ρ (asB s)).bind fun c ρ =>
      if c then (oOf z (ev C z) ρ).bind fun tz ρ => R.of ρ ((resolve [y, z] [ty, tz] ρ).bind (biT C b2)) else .ok (.sh (.bl false)) ρ
  | .call f as, ρ => (evOs C as ρ).bind fun ts ρ => (R.of ρ (handed as ts ρ)).bind fun p _ =>
      match C.call f p.1 with
      | some (.ok r, outs) => .ok r (back as p.1 outs p.2)
      | some (.ex x, outs) => .ex x (back as p.1 outs p.2)
      | none => .bad
  | .lc elt i k os cond, ρ => (evOs C os ρ).bind fun ts ρ => (R.of ρ ((resolve os ts ρ).bind (itT k))).bind fun xs ρ =>
      (R.of ρ (if C.np ≤ i ∧ i < ρ.length then lockAll C.np os ρ else none)).bind fun p _ =>
      (noEx (lcL i (fun ρ => evC C cond ρ) (fun ρ => (ev C elt ρ).bind fun s ρ => R.of ρ (frz s)) xs [] (p.2.set i .un))).bind fun ys ρ' => .ok (.ow (.lst ys)) (unlock p.1 (ρ'.set i .un))
def evC (C : Cfg) : Option E → Env → R Bool
  | none, ρ => .ok true ρ
  | some e, ρ => (ev C e ρ).bind fun s ρ => R.of ρ (asB s)
/-- values that may be kept as they are -/
def evPs (C : Cfg) : List E → Env → R (List Sl)
  | [], ρ => .ok [] ρ
  | e :: es, ρ => (ev C e ρ).bind fun s ρ => (evPs C es ρ).bind fun ss ρ => .ok (s :: ss) ρ
def evOs (C : Cfg) : List E → Env → R (List (Option T))
  | [], ρ => .ok [] ρ
  | e :: es, ρ => (oOf e (ev C e) ρ).bind fun t ρ => (evOs C es ρ).bind fun ts ρ => .ok (t :: ts) ρ
end

/-! ### statements -/
/-- a slot is stored to -/
def setS (C : Cfg) (i : Nat) (s : Sl) (ρ : Env) : Option Env := if C.np ≤ i ∧ i < ρ.length then some (ρ.set i s) else none

mutual
def asgT (C : Cfg) : Tg → Sl → Env → R Unit
  | .v i, s, ρ => (R.of ρ (setS C i s ρ)).bind fun ρ' _ => .ok () ρ'
  | .tup gs, s, ρ => match frz s with
    | some (.tup ts) => if ts.length = gs.length then asgTs C gs ts ρ else .bad
    | _ => .bad
  | .ix o k, s, ρ => (R.of ρ (frz s)).bind fun t ρ => (oOf k (ev C k) ρ).bind fun q ρ => (R.of ρ (resolve [k] [q] ρ)).bind fun qs ρ =>
      match qs, ρ[o]? with
      | [q], some (.ow (.dct false ks ts)) => (R.of ρ (keyT q)).bind fun q ρ =>
          if isKK q && decide (ks.length < line) then .ok () (ρ.set o (.ow (.dct false (dPut ks ts q t).1 (dPut ks ts q t).2))) else .bad
      | [.int i], some (.ow (.lst xs)) => if 0 ≤ i ∧ i.toNat < xs.length ∧ i < 2 ^ 62 then .ok () (ρ.set o (.ow (.lst (xs.set i.toNat t)))) else .bad
      | _, _ => .bad
  | .fld o f, s, ρ => (R.of ρ (frz s)).bind fun t ρ => match ρ[o]? with
      | some (.ow (.ins c fs ts)) => if decide (fs.length < 100) && (C.objs.contains c && C.fld c f) then
          (if fs.contains f then .ok () (ρ.set o (.ow (.ins c fs (((fs.zip ts).map fun p => if p.1 = f then t else p.2))))) else .ok () (ρ.set o (.ow (.ins c (fs ++ [f]) (ts ++ [t]))))) else .bad
      | _ => .bad
def asgTs (C : Cfg) : List Tg → List T → Env → R Unit
  | [], [], ρ => .ok () ρ
  | g :: gs, t :: ts, ρ => (asgT C g (.sh t) ρ).bind fun _ ρ => asgTs C gs ts ρ
  | _, _, _ => .bad
end

def isOwL : Option Sl → Bool
  | some (.ow (.lst _)) => true
  | _ => false
def mutT (m : Mt) (s : Sl) (t : T) : Option Sl :=
  match m, s, t with
  | .append, .ow (.lst xs), t => if xs.length < line then some (.ow (.lst (xs ++ [t]))) else none
  | .extend, .ow (.lst xs), .lst ys => if xs.length + ys.length ≤ line then some (.ow (.lst (xs ++ ys))) else none
  | _, _, _ => none

/-- the body's end in a loop -/
def forL (set : T → Env → R Unit) (body : Env → R Fl) : List T → Env → R Fl
  | [], ρ => .ok .nx ρ
  | t :: ts, ρ => (set t ρ).bind fun _ ρ => (body ρ).bind fun f ρ => match f with
    | .nx => forL set body ts ρ
    | .ct => forL set body ts ρ
    | .bk => .ok .nx ρ
    | .ret s => .ok (.ret s) ρ
def whL (test : Env → R Bool) (body : Env → R Fl) : Nat → Env → R Fl
  | 0, _ => .bad
  | n + 1, ρ => (test ρ).bind fun b ρ => if b then (body ρ).bind fun f ρ => (match f with
    | .nx => whL test body n ρ
    | .ct => whL test body n ρ
    | .bk => .ok .nx ρ
    | .ret s => .ok (.ret s) ρ) else .ok .nx ρ
/-- what was locked comes back -/
def reFl (ls : List (Nat × T)) : R Fl → R Fl
  | .ok f ρ => .ok f (unlock ls ρ)
  | .ex x ρ => .ex x (unlock ls ρ)
  | .bad => .bad

def evX (C : Cfg) (x : Exc) : X1 → Option T
  | .cst t => if flT t then some t else none
  | .erf f => match x.f with
    | some (g, t) => if f = g ∧ C.fld x.c f = true ∧ C.errs.contains x.c = true then some t else none
    | none => none
  | .eri c => if C.errs.contains c && C.errs.contains x.c then some (.bl (C.sub x.c c)) else none
  | .ite c a b => match evX C x c with
    | some (.bl true) => evX C x a
    | some (.bl false) => evX C x b
    | _ => none
def evXS (C : Cfg) (x : Exc) : XS → Env → R Fl
  | .app i e, ρ => (R.of ρ (evX C x e)).bind fun t ρ => (R.of ρ ((ρ[i]?).bind fun s => mutT .append s t)).bind fun s ρ => .ok .nx (ρ.set i s)
  | .set i e, ρ => (R.of ρ (evX C x e)).bind fun t ρ => (R.of ρ (setS C i (.sh t) ρ)).bind fun ρ' _ => .ok .nx ρ'
  | .ret e, ρ => (R.of ρ (evX C x e)).bind fun t ρ => .ok (.ret (.sh t)) ρ
  | .pass, ρ => .ok .nx ρ
/-- the clauses, from the left -/
def handle (C : Cfg) (x : Exc) : List (List Nat × Option Nat × XS) → Env → R Fl
  | [], ρ => .ex x ρ
  | (cs, i, suite) :: hs, ρ => if cs.all (C.errs.contains ·) && C.errs.contains x.c then if cs.any (C.sub x.c) then (match i with
      | none => evXS C x suite ρ
      | some i => if C.np ≤ i ∧ i < ρ.length then (match evXS C x suite (ρ.set i .un) with
        | .ok f ρ => .ok f (ρ.set i .un)
        | r => r) else .bad) else handle C x hs ρ else .bad
/-- the exceptions of one class -/
def excOf (c : Nat) (f : Option Str) (ts : List T) : Option Exc :=
  match f, ts with
  | none, [] => some ⟨c, none⟩
  | some f, [t] => if flT t then some ⟨c, some (f, t)⟩ else none
  | _, _ => none
def tryL (C : Cfg) (hs : List (List Nat × Option Nat × XS)) : R Fl → R Fl
  | .ex x ρ => handle C x hs ρ
  | r => r

/-- a, b = e1, e2: all names new -/
def parS (C : Cfg) : List Nat → List Sl → Env → Option Env
  | [], [], ρ => some ρ
  | i :: is, s :: ss, ρ => (setS C i s ρ).bind (parS C is ss)
  | _, _, _ => none

mutual
def evS (C : Cfg) : S → Env → R Fl
  | .ex e, ρ => (ev C e ρ).bind fun _ ρ => .ok .nx ρ
  | .mut i m e, ρ => if isOwL ρ[i]? then (ev C e ρ).bind fun s ρ => (R.of ρ (frz s)).bind fun t ρ =>
      (R.of ρ ((ρ[i]?).bind fun s => mutT m s t)).bind fun s ρ => .ok .nx (ρ.set i s) else .bad
  | .asg g e, ρ => (ev C e ρ).bind fun s ρ => (asgT C g s ρ).bind fun _ ρ => .ok .nx ρ
  | .par is es, ρ => (evPs C es ρ).bind fun ss ρ => (R.of ρ (if is.Nodup then parS C is ss ρ else none)).bind fun ρ' _ => .ok .nx ρ'
  | .aug i e, ρ => (ev C (.bi .add [.pk i, e]) ρ).bind fun s ρ => (R.of ρ (match s with
      | .sh (.int _) => setS C i s ρ
      | _ => none)).bind fun ρ' _ => .ok .nx ρ'
  | .ite c a b, ρ => (ev C c ρ).bind fun s ρ => (R.of ρ (asB s)).bind fun c ρ => if c then evSs C a ρ else evSs C b ρ
  | .for g k os body, ρ => (evOs C os ρ).bind fun ts ρ => (R.of ρ ((resolve os ts ρ).bind (itT k))).bind fun xs ρ =>
      (R.of ρ (lockAll C.np os ρ)).bind fun p _ => reFl p.1 (forL (fun t ρ => asgT C g (.sh t) ρ) (fun ρ => evSs C body ρ) xs p.2)
  | .while c body, ρ => whL (fun ρ => (ev C c ρ).bind fun s ρ => R.of ρ (asB s)) (fun ρ => evSs C body ρ) C.fuel ρ
  | .ret none, ρ => .ok (.ret (.sh .non)) ρ
  | .ret (some e), ρ => (ev C e ρ).bind fun s ρ => .ok (.ret s) ρ
  | .raise c as, ρ => (evOs C as ρ).bind fun ts ρ => (R.of ρ ((resolve as ts ρ).bind (C.exc c))).bind fun x ρ => .ex x ρ
  | .try body hs, ρ => tryL C hs (evSs C body ρ)
  | .pass, ρ => .ok .nx ρ
  | .brk, ρ => .ok .bk ρ
  | .cont, ρ => .ok .ct ρ
def evSs (C : Cfg) : List S → Env → R Fl
  | [], ρ => .ok .nx ρ
  | s :: ss, ρ => (evS C s ρ).bind fun f ρ => match f with
    | .nx => evSs C ss ρ
    | f => .ok f ρ
end

/-- a def is run: the parameters, then empty slots -/
def runDef (C : Cfg) (n : Nat) (body : List S) (args : List Sl) : Option (Out × List Sl) :=
  if args.length = C.np then
    match evSs C body (args ++ List.replicate n .un) with
    | .ok .nx ρ => some (.ok (.sh .non), ρ.take C.np)
    | .ok (.ret s) ρ => some (.ok s, ρ.take C.np)
    | .ex x ρ => some (.ex x, ρ.take C.np)
    | _ => none
  else none
end TL

set_option Elab.async false
set_option linter.all false
set_option maxRecDepth 100000
set_option autoImplicit false
/-! TLb: what a tree means in the abstract heap; what a state of slots means; steps. -/
namespace TL
open PySem PySem.Spec PyProof.Rows L2

/-- the ground: the written part, the classes' addresses -/
structure Gd where
  K : PySem.W.Frag
  cl : Nat → Addr

def NIns : HO → Prop
  | .dK _ => True
  | .dT _ => True
  | _ => False
/-- read: as it stands, or locked -/
def Rd2 (H : Hp) (a : Addr) (u : HO) : Prop := H a = some u ∨ (NIns u ∧ ∃ o, H a = some (.frz o u))
theorem Rd2.rd {H : Hp} {a : Addr} {u : HO} (h : Rd2 H a u) : Rd H a u := h.elim .inl fun h => .inr h.2
abbrev Av := Addr → HO → Prop
abbrev As := Addr → Prop
def ou (O G : As) : As := fun a => O a ∨ G a
def AvO (H : Hp) (O : As) : Av := fun a u => Rd2 H a u ∧ ¬ O a
/-- .. in the written part -/
def KT (K : PySem.W.Frag) (a : Addr) (xs : List V) : Prop := SqT K (fun _ => none) a xs
theorem KT.sq {K : PySem.W.Frag} {a : Addr} {xs : List V} {H : Hp} (h : KT K a xs) : SqT K H a xs := by
  rcases h with (h | ⟨o, h⟩) | h
  · cases h
  · cases h
  · exact .inr h

mutual
def Den (g : Gd) (A : Av) : T → V → Prop
  | .non, v => v = .non
  | .bl b, v => v = .bl b
  | .int i, v => v = .int i
  | .str s, v => v = .str s
  | .tup ts, v => ∃ a xs, v = .ref a ∧ (A a (.tup xs) ∨ KT g.K a xs) ∧ DenL g A ts xs
  | .lst ts, v => ∃ a xs, v = .ref a ∧ A a (.lst xs) ∧ DenL g A ts xs
  | .dct false ks ts, v => ∃ a kvs, v = .ref a ∧ A a (.dK kvs) ∧ ks = kvs.map (fun p => .inl p.1) ∧ DenL g A ts (kvs.map (·.2))
  | .dct true ks ts, v => ∃ a kvs, v = .ref a ∧ A a (.dT kvs) ∧ ks = kvs.map (fun p => .inr p.1) ∧ DenL g A ts (kvs.map (·.2))
  | .ins c fs ts, v => ∃ a dx vs, v = .ref a ∧ A a (.ins (g.cl c) dx vs) ∧ fs = vs.map (·.1) ∧ DenL g A ts (vs.map (·.2))
def DenL (g : Gd) (A : Av) : List T → List V → Prop
  | [], xs => xs = []
  | t :: ts, xs => ∃ v vs, xs = v :: vs ∧ Den g A t v ∧ DenL g A ts vs
end

section
variable {g : Gd} {A A' : Av}
mutual
theorem Den.mono (h : ∀ a u, A a u → A' a u) : ∀ (t : T) (v : V), Den g A t v → Den g A' t v
  | .non, _, d => d
  | .bl _, _, d => d
  | .int _, _, d => d
  | .str _, _, d => d
  | .tup ts, v, d => by
    simp only [Den] at d ⊢
    obtain ⟨a, xs, e, r, l⟩ := d
    exact ⟨a, xs, e, r.imp (h _ _) id, DenL.mono h ts xs l⟩
  | .lst ts, v, d => by
    simp only [Den] at d ⊢
    obtain ⟨a, xs, e, r, l⟩ := d
    exact ⟨a, xs, e, h _ _ r, DenL.mono h ts xs l⟩
  | .dct false ks ts, v, d => by
    simp only [Den] at d ⊢
    obtain ⟨a, kvs, e, r, k, l⟩ := d
    exact ⟨a, kvs, e, h _ _ r, k, DenL.mono h ts _ l⟩
  | .dct true ks ts, v, d => by
    simp only [Den] at d ⊢
    obtain ⟨a, kvs, e, r, k, l⟩ := d
    exact ⟨a, kvs, e, h _ _ r, k, DenL.mono h ts _ l⟩
  | .ins c fs ts, v, d => by
    simp only [Den] at d ⊢
    obtain ⟨a, dx, vs, e, r, k, l⟩ := d
    exact ⟨a, dx, vs, e, h _ _ r, k, DenL.mono h ts _ l⟩
theorem DenL.mono (h : ∀ a u, A a u → A' a u) : ∀ (ts : List T) (vs : List V), DenL g A ts vs → DenL g A' ts vs
  | [], _, d => d
  | t :: ts, xs, d => by
    simp only [DenL] at d ⊢
    obtain ⟨v, vs, e, d1, d2⟩ := d
    exact ⟨v, vs, e, Den.mono h t v d1, DenL.mono h ts vs d2⟩
end
theorem DenL.length : ∀ {ts : List T} {vs : List V}, DenL g A ts vs → ts.length = vs.length
  | [], _, d => by simp only [DenL] at d; rw [d] <;> rfl
  | t :: ts, xs, d => by
    simp only [DenL] at d
    obtain ⟨v, vs, e, d1, d2⟩ := d
    rw [e, List.length_cons, List.length_cons, DenL.length d2]
theorem DenL.get : ∀ {ts : List T} {vs : List V} {i : Nat} {t : T}, DenL g A ts vs → ts[i]? = some t → ∃ v, vs[i]? = some v ∧ Den g A t v
  | [], _, _, _, _, e => by simp at e
  | t :: ts, xs, i, u, d, e => by
    simp only [DenL] at d
    obtain ⟨v, vs, rfl, d1, d2⟩ := d
    cases i with
    | zero =>
      simp at e; subst e
      exact ⟨v, by simp, d1⟩
    | succ i =>
      obtain ⟨w, h1, h2⟩ := DenL.get (i := i) (t := u) d2 (by simpa using e)
      exact ⟨w, by simpa using h1, h2⟩
theorem DenL.nil : DenL g A [] [] := by simp [DenL]
theorem DenL.cons {t : T} {ts : List T} {v : V} {vs : List V} (h : Den g A t v) (r : DenL g A ts vs) : DenL g A (t :: ts) (v :: vs) := by
  simp only [DenL]; exact ⟨v, vs, rfl, h, r⟩
theorem DenL.append : ∀ {ts us : List T} {vs ws : List V}, DenL g A ts vs → DenL g A us ws → DenL g A (ts ++ us) (vs ++ ws)
  | [], _, _, _, d, e => by simp only [DenL] at d; subst d; exact e
  | t :: ts, us, xs, ws, d, e => by
    simp only [DenL] at d
    obtain ⟨v, vs, rfl, d1, d2⟩ := d
    exact DenL.cons d1 (DenL.append d2 e)
theorem DenL.set : ∀ {ts : List T} {vs : List V} {t : T} {v : V} (i : Nat), DenL g A ts vs → Den g A t v → DenL g A (ts.set i t) (vs.set i v)
  | [], _, _, _, _, d, _ => by simp only [DenL] at d; subst d; simp [DenL]
  | t :: ts, xs, u, w, i, d, e => by
    simp only [DenL] at d
    obtain ⟨v, vs, rfl, d1, d2⟩ := d
    cases i with
    | zero => exact DenL.cons e d2
    | succ i => exact DenL.cons d1 (DenL.set i d2 e)
end

/-! ### slots -/
/-- what stands at an object of one's own -/
def HoDen (g : Gd) (A : Av) (t : T) (o : HO) : Prop :=
  match t with
  | .lst ts => ∃ xs, o = .lst xs ∧ DenL g A ts xs
  | .dct false ks ts => ∃ kvs, o = .dK kvs ∧ ks = kvs.map (fun p => .inl p.1) ∧ DenL g A ts (kvs.map (·.2))
  | .dct true ks ts => ∃ kvs, o = .dT kvs ∧ ks = kvs.map (fun p => .inr p.1) ∧ DenL g A ts (kvs.map (·.2))
  | .ins c fs ts => ∃ dx vs, o = .ins (g.cl c) dx vs ∧ fs = vs.map (·.1) ∧ DenL g A ts (vs.map (·.2))
  | _ => False
theorem HoDen.mono {g : Gd} {A A' : Av} (h : ∀ a u, A a u → A' a u) {t : T} {o : HO} (d : HoDen g A t o) : HoDen g A' t o := by
  cases t with
  | lst ts => obtain ⟨xs, e, l⟩ := d; exact ⟨xs, e, DenL.mono h _ _ l⟩
  | dct tk ks ts => cases tk <;> (obtain ⟨kvs, e, k, l⟩ := d; exact ⟨kvs, e, k, DenL.mono h _ _ l⟩)
  | ins c fs ts => obtain ⟨dx, vs, e, k, l⟩ := d; exact ⟨dx, vs, e, k, DenL.mono h _ _ l⟩
  | _ => exact d
theorem HoDen.den {g : Gd} {A : Av} {t : T} {o : HO} {a : Addr} (d : HoDen g A t o) (h : A a o) : Den g A t (.ref a) := by
  cases t with
  | lst ts => obtain ⟨xs, rfl, l⟩ := d; simp only [Den]; exact ⟨a, xs, rfl, h, l⟩
  | dct tk ks ts => cases tk <;> (obtain ⟨kvs, rfl, k, l⟩ := d; simp only [Den]; exact ⟨a, kvs, rfl, h, k, l⟩)
  | ins c fs ts => obtain ⟨dx, vs, rfl, k, l⟩ := d; simp only [Den]; exact ⟨a, dx, vs, rfl, h, k, l⟩
  | _ => exact d.elim

def rnO (st : Int) (b : Addr) (ix : Int) : HO := .lst [.int st, .ref b, .int ix]
def SlDen (g : Gd) (A : Av) (H : Hp) (v : Option V) : Sl → Prop
  | .un => True
  | .sh t => ∃ x, v = some x ∧ Den g A t x
  | .ow t => ∃ a o, v = some (.ref a) ∧ H a = some o ∧ HoDen g A t o
  | .scr cs => ∃ a, v = some (.ref a) ∧ ((∃ o, A a (.frz o (.lst (cs.map V.int)))) ∨ SqL g.K (fun _ => none) a (cs.map V.int))
  | .rn st cs ix => ∃ a b, v = some (.ref a) ∧ a ≠ b ∧ H a = some (rnO st b ix) ∧ H b = some (.lst (cs.map V.int))
/-- the objects of a slot's own -/
def fo (H : Hp) (v : Option V) (s : Sl) : As := fun a =>
  match s with
  | .ow _ => v = some (.ref a)
  | .rn st _ ix => v = some (.ref a) ∨ ∃ x, v = some (.ref x) ∧ H x = some (rnO st a ix)
  | _ => False
theorem fo_un {H : Hp} {v : Option V} {a : Addr} : ¬ fo H v .un a := fun h => h
theorem fo_sh {H : Hp} {v : Option V} {t : T} {a : Addr} : ¬ fo H v (.sh t) a := fun h => h

section
variable {g : Gd} {A A' : Av} {H H' : Hp} {v : Option V} {s : Sl}
/-- its objects stand, what is frozen stands -/
theorem SlDen.keep (d : SlDen g A H v s) (hf : ∀ a u, fo H v s a → H a = some u → H' a = some u) (hA : ∀ a u, A a u → A' a u) : SlDen g A' H' v s := by
  cases s with
  | un => trivial
  | sh t => obtain ⟨x, e, d⟩ := d; exact ⟨x, e, Den.mono hA _ _ d⟩
  | scr cs => obtain ⟨a, e, d⟩ := d; exact ⟨a, e, d.imp (fun ⟨o, d⟩ => ⟨o, hA _ _ d⟩) id⟩
  | ow t => obtain ⟨a, o, e, h, d⟩ := d; exact ⟨a, o, e, hf a o e h, d.mono hA⟩
  | rn st cs ix =>
    obtain ⟨a, b, e, n, h1, h2⟩ := d
    exact ⟨a, b, e, n, hf a _ (.inl e) h1, hf b _ (.inr ⟨a, e, h1⟩) h2⟩
theorem SlDen.fo_keep (d : SlDen g A H v s) (hf : ∀ a u, fo H v s a → H a = some u → H' a = some u) {a : Addr} (h : fo H' v s a) : fo H v s a := by
  cases s with
  | un => exact h
  | sh t => exact h
  | scr cs => exact h
  | ow t => exact h
  | rn st cs ix =>
    obtain ⟨x, b, e, n, h1, h2⟩ := d
    rcases h with h | ⟨y, e', h⟩
    · exact .inl h
    · rw [e] at e'
      cases e'
      have q := hf x _ (.inl e) h1
      rw [q] at h
      have z : rnO st b ix = rnO st a ix := Option.some.inj h
      have z' : b = a := by unfold rnO at z; simpa using z
      subst z'
      exact .inr ⟨x, e, h1⟩
theorem SlDen.fo_there (d : SlDen g A H v s) {a : Addr} (h : fo H v s a) : ∃ o, H a = some o := by
  cases s with
  | un => exact h.elim
  | sh t => exact h.elim
  | scr cs => exact h.elim
  | ow t =>
    obtain ⟨x, o, e, h1, _⟩ := d
    have h' : v = some (.ref a) := h
    rw [e] at h'; cases h'
    exact ⟨o, h1⟩
  | rn st cs ix =>
    obtain ⟨x, b, e, n, h1, h2⟩ := d
    rcases h with h | ⟨y, e', h⟩
    · rw [e] at h; cases h; exact ⟨_, h1⟩
    · rw [e] at e'; cases e'
      rw [h1] at h
      have z : rnO st b ix = rnO st a ix := Option.some.inj h
      have z' : b = a := by unfold rnO at z; simpa using z
      subst z'
      exact ⟨_, h2⟩
end

/-! ### the state -/
def at' (σ : St) (i : Nat) : Option V := (σ[i]?).getD none
def FS (H : Hp) (ρ : Env) (σ : St) : As := fun a => ∃ (i : Nat) (s : Sl), ρ[i]? = some s ∧ fo H (at' σ i) s a
/-- a step: what isn't one's own stands and doesn't become one's own -/
def Stp (O : As) (H : Hp) (O' : As) (H' : Hp) : Prop := ∀ a u, H a = some u → ¬ O a → H' a = some u ∧ ¬ O' a
theorem Stp.trans {O O1 O2 : As} {H H1 H2 : Hp} (a : Stp O H O1 H1) (b : Stp O1 H1 O2 H2) : Stp O H O2 H2 := fun x u e n =>
  let ⟨e1, n1⟩ := a x u e n
  b x u e1 n1
theorem Stp.less {O O1 O1' : As} {H H1 : Hp} (a : Stp O H O1 H1) (h : ∀ x, O1' x → O1 x) : Stp O H O1' H1 := fun x u e n =>
  let ⟨e1, n1⟩ := a x u e n
  ⟨e1, fun z => n1 (h x z)⟩
theorem Stp.refl {O : As} {H : Hp} : Stp O H O H := fun _ _ e n => ⟨e, n⟩
theorem Stp.av {O O' G : As} {H H' : Hp} (s : Stp O H O' H') : ∀ a u, AvO H (ou O G) a u → AvO H' (ou O' G) a u := fun a u h => by
  obtain ⟨h, n⟩ := h
  have n1 : ¬ O a := fun z => n (.inl z)
  have n2 : ¬ G a := fun z => n (.inr z)
  rcases h with h | ⟨k, o, h⟩
  · obtain ⟨e, m⟩ := s a u h n1
    exact ⟨.inl e, fun z => z.elim m n2⟩
  · obtain ⟨e, m⟩ := s a _ h n1
    exact ⟨.inr ⟨k, o, e⟩, fun z => z.elim m n2⟩

/-- the state of slots: G what others own; pv what the parameters hold -/
structure Rel (g : Gd) (G : As) (pv : List V) (H : Hp) (ρ : Env) (σ : St) : Prop where
  len : ρ.length = σ.length
  den : ∀ (i : Nat) (s : Sl), ρ[i]? = some s → SlDen g (AvO H (ou (FS H ρ σ) G)) H (at' σ i) s
  dj : ∀ (i j : Nat) (s s' : Sl) (a : Addr), ρ[i]? = some s → ρ[j]? = some s' → fo H (at' σ i) s a → fo H (at' σ j) s' a → i = j
  dg : ∀ a, FS H ρ σ a → ¬ G a
  gd : ∀ a, G a → ∃ o, H a = some o
  pv : ∀ (i : Nat) (v : V), pv[i]? = some v → σ[i]? = some (some v)
/-- .. with a value in hand -/
structure Rel2 (g : Gd) (G : As) (pv : List V) (H : Hp) (ρ : Env) (σ : St) (v : V) (r : Sl) : Prop where
  rel : Rel g (ou (fo H (some v) r) G) pv H ρ σ
  den : SlDen g (AvO H (ou (FS H ρ σ) (ou (fo H (some v) r) G))) H (some v) r
  ng : ∀ a, fo H (some v) r a → ¬ G a

section
variable {g : Gd} {G G' : As} {pv : List V} {H H' : Hp} {ρ ρ' : Env} {σ σ' : St} {v : V} {r : Sl}
theorem ou_sh {H : Hp} {v : Option V} {t : T} {G : As} : ou (fo H v (.sh t)) G = G := by
  funext a; unfold ou; exact propext ⟨fun h => h.elim (fun z => z.elim) id, .inr⟩
theorem ou_un {H : Hp} {v : Option V} {G : As} : ou (fo H v .un) G = G := by
  funext a; unfold ou; exact propext ⟨fun h => h.elim (fun z => z.elim) id, .inr⟩
theorem Rel.fs_there (R : Rel g G pv H ρ σ) {a : Addr} (h : FS H ρ σ a) : ∃ o, H a = some o := by
  obtain ⟨i, s, e, h⟩ := h
  exact (R.den i s e).fo_there h
/-- others own less -/
theorem Rel.weaken (R : Rel g G pv H ρ σ) (h : ∀ a, G' a → G a) : Rel g G' pv H ρ σ where
  len := R.len
  den := fun i s e => (R.den i s e).keep (fun _ _ _ z => z) fun a u q => ⟨q.1, fun z => q.2 (z.imp id (h a))⟩
  dj := R.dj
  dg := fun a z k => R.dg a z (h a k)
  gd := fun a z => R.gd a (h a z)
  pv := R.pv
theorem Rel2.sh {t : T} (R : Rel2 g G pv H ρ σ v (.sh t)) : Rel g G pv H ρ σ ∧ Den g (AvO H (ou (FS H ρ σ) G)) t v := by
  obtain ⟨R1, d, _⟩ := R
  rw [ou_sh] at R1 d
  obtain ⟨x, e, d⟩ := d
  cases e
  exact ⟨R1, d⟩
theorem Rel2.of_sh {t : T} (R : Rel g G pv H ρ σ) (d : Den g (AvO H (ou (FS H ρ σ) G)) t v) : Rel2 g G pv H ρ σ v (.sh t) := by
  refine ⟨by rw [ou_sh]; exact R, ⟨v, rfl, by rw [ou_sh]; exact d⟩, fun a z => z.elim⟩
/-- a value is frozen -/
theorem Rel2.freeze {t : T} (R : Rel2 g G pv H ρ σ v r) (e : frz r = some t) : Rel g G pv H ρ σ ∧ Den g (AvO H (ou (FS H ρ σ) G)) t v := by
  cases r with
  | un => cases e
  | rn _ _ _ => cases e
  | scr _ => cases e
  | sh t' => cases e; exact R.sh
  | ow t' =>
    cases e
    refine ⟨R.rel.weaken fun a z => .inr z, ?_⟩
    obtain ⟨a, o, e, h, d⟩ := R.den
    cases e
    refine HoDen.den (d.mono fun b u q => ⟨q.1, fun z => q.2 (z.imp id .inr)⟩) ⟨.inl h, fun z => ?_⟩
    rcases z with z | z
    · exact R.rel.dg a z (.inl rfl)
    · exact R.ng a rfl z
end

section
variable {g : Gd} {G G' : As} {pv : List V} {H H' : Hp} {ρ ρ' : Env} {σ σ' : St} {v : V} {r : Sl}
theorem getElem?_set_cases {α : Type} {l : List α} {i j : Nat} {x y : α} (h : (l.set i x)[j]? = some y) : (j = i ∧ y = x ∧ i < l.length) ∨ (j ≠ i ∧ l[j]? = some y) := by
  by_cases e : i = j
  · subst e
    rw [List.getElem?_set_self'] at h
    cases q : l[i]? with
    | none => rw [q] at h; simp at h
    | some z =>
      rw [q] at h
      have h' : x = y := by simpa using h
      obtain ⟨hl, _⟩ := List.getElem?_eq_some_iff.mp q
      exact .inl ⟨rfl, h'.symm, hl⟩
  · rw [List.getElem?_set_ne e] at h
    exact .inr ⟨fun z => e z.symm, h⟩
/-- one slot's description changes, and at most its own objects (new ones may come) -/
theorem Rel.chg (R : Rel g G pv H ρ σ) {i : Nat} {s s' : Sl} (e : ρ[i]? = some s)
    (hk : ∀ a u, H a = some u → ¬ fo H (at' σ i) s a → H' a = some u)
    (hf : ∀ a, fo H' (at' σ i) s' a → fo H (at' σ i) s a ∨ H a = none)
    (hd : (∀ a u, AvO H (ou (FS H ρ σ) G) a u → AvO H' (ou (FS H' (ρ.set i s') σ) G) a u) → SlDen g (AvO H' (ou (FS H' (ρ.set i s') σ) G)) H' (at' σ i) s') :
    Rel g G pv H' (ρ.set i s') σ ∧ Stp (FS H ρ σ) H (FS H' (ρ.set i s') σ) H' := by
  have own : ∀ j sj, j ≠ i → ρ[j]? = some sj → ∀ a u, fo H (at' σ j) sj a → H a = some u → H' a = some u := fun j sj hj ej a u ha hu =>
    hk a u hu fun z => hj (R.dj j i sj s a ej e ha z)
  have fs' : ∀ a, FS H' (ρ.set i s') σ a → fo H' (at' σ i) s' a ∨ ∃ j sj, j ≠ i ∧ ρ[j]? = some sj ∧ fo H (at' σ j) sj a := by
    rintro a ⟨j, sj, ej, ha⟩
    rcases getElem?_set_cases ej with ⟨h1, h2, _⟩ | ⟨h1, h2⟩
    · subst h1; subst h2; exact .inl ha
    · exact .inr ⟨j, sj, h1, h2, (R.den j sj h2).fo_keep (own j sj h1 h2) ha⟩
  have stp : Stp (FS H ρ σ) H (FS H' (ρ.set i s') σ) H' := fun a u hu n => by
    refine ⟨hk a u hu fun z => n ⟨i, s, e, z⟩, fun z => ?_⟩
    rcases fs' a z with z | ⟨j, sj, _, ej, z⟩
    · rcases hf a z with z | z
      · exact n ⟨i, s, e, z⟩
      · rw [hu] at z; cases z
    · exact n ⟨j, sj, ej, z⟩
  have av := stp.av (G := G)
  refine ⟨⟨by rw [List.length_set]; exact R.len, fun j sj ej => ?_, fun j k sj sk a ej ek ha hb => ?_, fun a z k => ?_, fun a z => ?_, R.pv⟩, stp⟩
  · rcases getElem?_set_cases ej with ⟨h1, h2, _⟩ | ⟨h1, h2⟩
    · subst h1; subst h2; exact hd av
    · exact (R.den j sj h2).keep (own j sj h1 h2) av
  · rcases getElem?_set_cases ej with ⟨h1, h2, _⟩ | ⟨h1, h2⟩
    · rcases getElem?_set_cases ek with ⟨h3, h4, _⟩ | ⟨h3, h4⟩
      · rw [h1, h3]
      · subst h1; subst h2
        have hb' := (R.den k sk h4).fo_keep (own k sk h3 h4) hb
        rcases hf a ha with z | z
        · exact R.dj j k s sk a e h4 z hb'
        · obtain ⟨o, q⟩ := (R.den k sk h4).fo_there hb'
          rw [z] at q; cases q
    · have ha' := (R.den j sj h2).fo_keep (own j sj h1 h2) ha
      rcases getElem?_set_cases ek with ⟨h3, h4, _⟩ | ⟨h3, h4⟩
      · subst h3; subst h4
        rcases hf a hb with z | z
        · exact R.dj j k sj s a h2 e ha' z
        · obtain ⟨o, q⟩ := (R.den j sj h2).fo_there ha'
          rw [z] at q; cases q
      · exact R.dj j k sj sk a h2 h4 ha' ((R.den k sk h4).fo_keep (own k sk h3 h4) hb)
  · rcases fs' a z with z | ⟨j, sj, _, ej, z⟩
    · rcases hf a z with z | z
      · exact R.dg a ⟨i, s, e, z⟩ k
      · obtain ⟨o, q⟩ := R.gd a k
        rw [z] at q; cases q
    · exact R.dg a ⟨j, sj, ej, z⟩ k
  · obtain ⟨o, q⟩ := R.gd a z
    exact ⟨o, hk a o q fun y => R.dg a ⟨i, s, e, y⟩ z⟩
/-- the heap changes elsewhere -/
theorem Rel.heap (R : Rel g G pv H ρ σ) (h1 : ∀ a u, FS H ρ σ a → H a = some u → H' a = some u) (h2 : ∀ a u, AvO H (ou (FS H ρ σ) G) a u → Rd2 H' a u) (h3 : ∀ a, G a → ∃ o, H' a = some o) :
    Rel g G pv H' ρ σ ∧ ∀ a, FS H' ρ σ a → FS H ρ σ a := by
  have fs' : ∀ a, FS H' ρ σ a → FS H ρ σ a := by
    rintro a ⟨j, sj, ej, ha⟩
    exact ⟨j, sj, ej, (R.den j sj ej).fo_keep (fun b u hb => h1 b u ⟨j, sj, ej, hb⟩) ha⟩
  refine ⟨⟨R.len, fun j sj ej => ?_, fun j k sj sk a ej ek ha hb => ?_, fun a z => R.dg a (fs' a z), h3, R.pv⟩, fs'⟩
  · exact (R.den j sj ej).keep (fun b u hb => h1 b u ⟨j, sj, ej, hb⟩) fun a u q => ⟨h2 a u q, fun z => q.2 (z.imp (fs' a) id)⟩
  · exact R.dj j k sj sk a ej ek ((R.den j sj ej).fo_keep (fun b u hb => h1 b u ⟨j, sj, ej, hb⟩) ha) ((R.den k sk ek).fo_keep (fun b u hb => h1 b u ⟨k, sk, ek, hb⟩) hb)
/-- objects come -/
theorem Rel.ext (R : Rel g G pv H ρ σ) (h : ∀ a u, H a = some u → H' a = some u) : Rel g G pv H' ρ σ ∧ Stp (FS H ρ σ) H (FS H' ρ σ) H' := by
  obtain ⟨R', f⟩ := R.heap (H' := H') (fun a u _ => h a u) (fun a u q => q.1.imp (h a u) fun ⟨k, o, q⟩ => ⟨k, o, h a _ q⟩) (fun a z => let ⟨o, q⟩ := R.gd a z; ⟨o, h a o q⟩)
  exact ⟨R', fun a u e n => ⟨h a u e, fun z => n (f a z)⟩⟩
/-- a value in hand stays while others go on -/
theorem Rel2.keep (R : Rel2 g G pv H ρ σ v r) (s : Stp (FS H ρ σ) H (FS H' ρ' σ') H') (R' : Rel g (ou (fo H (some v) r) G) pv H' ρ' σ') : Rel2 g G pv H' ρ' σ' v r ∧ (∀ a, fo H' (some v) r a → fo H (some v) r a) := by
  have hf : ∀ a u, fo H (some v) r a → H a = some u → H' a = some u := fun a u ha hu => (s a u hu fun z => R.rel.dg a z (.inl ha)).1
  have f : ∀ a, fo H' (some v) r a → fo H (some v) r a := fun a ha => R.den.fo_keep hf ha
  have e : ∀ a, fo H (some v) r a → fo H' (some v) r a := fun a ha => by
    cases r with
    | un => exact ha
    | sh _ => exact ha
    | scr _ => exact ha
    | ow _ => exact ha
    | rn st cs ix =>
      rcases ha with ha | ⟨x, e, hx⟩
      · exact .inl ha
      · exact .inr ⟨x, e, hf x _ (.inl e) hx⟩
  have q : fo H' (some v) r = fo H (some v) r := by funext a; exact propext ⟨f a, e a⟩
  refine ⟨⟨by rw [q]; exact R', ?_, fun a z => R.ng a (f a z)⟩, f⟩
  have d := R.den.keep hf (s.av (G := ou (fo H (some v) r) G))
  rw [q]
  exact d
/-- .. and at the end the own ones of the step go with it -/
theorem Stp.with {O O' F : As} {H H' : Hp} (s : Stp O H O' H') : Stp (ou F O) H (ou F O') H' := fun a u e n =>
  let ⟨e1, n1⟩ := s a u e fun z => n (.inr z)
  ⟨e1, fun z => z.elim (fun z => n (.inl z)) n1⟩
/-- the slot goes into the hand -/
theorem Rel.take (R : Rel g G pv H ρ σ) {i : Nat} {s : Sl} (e : ρ[i]? = some s) (hv : at' σ i = some v) : Rel2 g G pv H (ρ.set i .un) σ v s ∧ (∀ a, FS H (ρ.set i .un) σ a → FS H ρ σ a) ∧ ∀ a, FS H ρ σ a → fo H (some v) s a ∨ FS H (ρ.set i .un) σ a := by
  have fs1 : ∀ a, FS H (ρ.set i .un) σ a → ∃ j sj, j ≠ i ∧ ρ[j]? = some sj ∧ fo H (at' σ j) sj a := by
    rintro a ⟨j, sj, ej, ha⟩
    rcases getElem?_set_cases ej with ⟨h1, h2, _⟩ | ⟨h1, h2⟩
    · subst h2; exact ha.elim
    · exact ⟨j, sj, h1, h2, ha⟩
  have fs2 : ∀ a, FS H ρ σ a → fo H (some v) s a ∨ FS H (ρ.set i .un) σ a := by
    rintro a ⟨j, sj, ej, ha⟩
    by_cases hj : j = i
    · subst hj
      rw [e] at ej; cases ej
      rw [hv] at ha
      exact .inl ha
    · exact .inr ⟨j, sj, by rw [List.getElem?_set_ne (Ne.symm hj)]; exact ej, ha⟩
  have av : ∀ a u, AvO H (ou (FS H ρ σ) G) a u → AvO H (ou (FS H (ρ.set i .un) σ) (ou (fo H (some v) s) G)) a u := fun a u q => ⟨q.1, fun z => q.2 (by
    rcases z with z | z | z
    · obtain ⟨j, sj, _, h2, ha⟩ := fs1 a z; exact .inl ⟨j, sj, h2, ha⟩
    · exact .inl ⟨i, s, e, by rw [hv]; exact z⟩
    · exact .inr z)⟩
  have av' : ∀ a u, AvO H (ou (FS H ρ σ) G) a u → AvO H (ou (FS H (ρ.set i .un) σ) (ou (fo H (some v) s) G)) a u := av
  refine ⟨⟨⟨by rw [List.length_set]; exact R.len, fun j sj ej => ?_, fun j k sj sk a ej ek ha hb => ?_, fun a z k => ?_, fun a z => ?_, R.pv⟩, ?_, fun a z => R.dg a ⟨i, s, e, by rw [hv]; exact z⟩⟩, fun a z => let ⟨j, sj, _, h2, ha⟩ := fs1 a z; ⟨j, sj, h2, ha⟩, fs2⟩
  · rcases getElem?_set_cases ej with ⟨h1, h2, _⟩ | ⟨h1, h2⟩
    · subst h2; trivial
    · exact (R.den j sj h2).keep (fun _ _ _ q => q) av
  · rcases getElem?_set_cases ej with ⟨h1, h2, _⟩ | ⟨h1, h2⟩
    · subst h2; exact ha.elim
    · rcases getElem?_set_cases ek with ⟨h3, h4, _⟩ | ⟨h3, h4⟩
      · subst h4; exact hb.elim
      · exact R.dj j k sj sk a h2 h4 ha hb
  · obtain ⟨j, sj, h1, h2, ha⟩ := fs1 a z
    rcases k with k | k
    · exact h1 (R.dj j i sj s a h2 e ha (by rw [hv]; exact k))
    · exact R.dg a ⟨j, sj, h2, ha⟩ k
  · rcases z with z | z
    · have d := R.den i s e
      rw [hv] at d
      exact d.fo_there z
    · exact R.gd a z
  · have d := R.den i s e
    rw [hv] at d
    exact d.keep (fun _ _ _ q => q) av'
/-- .. and comes back -/
theorem Rel2.put (R : Rel2 g G pv H ρ σ v r) {i : Nat} (hv : at' σ i = some v) : Rel g G pv H (ρ.set i r) σ ∧ ∀ a, FS H (ρ.set i r) σ a → fo H (some v) r a ∨ FS H ρ σ a := by
  have fs1 : ∀ a, FS H (ρ.set i r) σ a → fo H (some v) r a ∨ FS H ρ σ a := by
    rintro a ⟨j, sj, ej, ha⟩
    rcases getElem?_set_cases ej with ⟨h1, h2, _⟩ | ⟨h1, h2⟩
    · subst h1; subst h2; rw [hv] at ha; exact .inl ha
    · exact .inr ⟨j, sj, h2, ha⟩
  have av : ∀ a u, AvO H (ou (FS H ρ σ) (ou (fo H (some v) r) G)) a u → AvO H (ou (FS H (ρ.set i r) σ) G) a u := fun a u q => ⟨q.1, fun z => q.2 (by
    rcases z with z | z
    · rcases fs1 a z with z | z
      · exact .inr (.inl z)
      · exact .inl z
    · exact .inr (.inr z))⟩
  refine ⟨⟨by rw [List.length_set]; exact R.rel.len, fun j sj ej => ?_, fun j k sj sk a ej ek ha hb => ?_, fun a z k => ?_, fun a z => R.rel.gd a (.inr z), R.rel.pv⟩, fs1⟩
  · rcases getElem?_set_cases ej with ⟨h1, h2, _⟩ | ⟨h1, h2⟩
    · subst h1; subst h2; rw [hv]; exact R.den.keep (fun _ _ _ q => q) av
    · exact (R.rel.den j sj h2).keep (fun _ _ _ q => q) av
  · rcases getElem?_set_cases ej with ⟨h1, h2, _⟩ | ⟨h1, h2⟩
    · rcases getElem?_set_cases ek with ⟨h3, h4, _⟩ | ⟨h3, h4⟩
      · rw [h1, h3]
      · subst h1; subst h2; rw [hv] at ha
        exact absurd (.inl ha) (R.rel.dg a ⟨k, sk, h4, hb⟩)
    · rcases getElem?_set_cases ek with ⟨h3, h4, _⟩ | ⟨h3, h4⟩
      · subst h3; subst h4; rw [hv] at hb
        exact absurd (.inl hb) (R.rel.dg a ⟨j, sj, h2, ha⟩)
      · exact R.rel.dj j k sj sk a h2 h4 ha hb
  · rcases fs1 a z with z | z
    · exact R.ng a z k
    · exact R.rel.dg a z (.inr k)
/-- a name is stored to, nothing is known of it -/
theorem Rel.store (R : Rel g G pv H ρ σ) {i : Nat} (hi : pv.length ≤ i) (w : Option V) : Rel g G pv H (ρ.set i .un) (σ.set i w) ∧ ∀ a, FS H (ρ.set i .un) (σ.set i w) a → FS H ρ σ a := by
  have at_ne : ∀ j, j ≠ i → at' (σ.set i w) j = at' σ j := fun j hj => by unfold at'; rw [List.getElem?_set_ne (Ne.symm hj)]
  have fs1 : ∀ a, FS H (ρ.set i .un) (σ.set i w) a → FS H ρ σ a := by
    rintro a ⟨j, sj, ej, ha⟩
    rcases getElem?_set_cases ej with ⟨h1, h2, _⟩ | ⟨h1, h2⟩
    · subst h2; exact ha.elim
    · rw [at_ne j h1] at ha; exact ⟨j, sj, h2, ha⟩
  refine ⟨⟨by rw [List.length_set, List.length_set]; exact R.len, fun j sj ej => ?_, fun j k sj sk a ej ek ha hb => ?_, fun a z k => R.dg a (fs1 a z) k, R.gd, fun j v ej => ?_⟩, fs1⟩
  · rcases getElem?_set_cases ej with ⟨h1, h2, _⟩ | ⟨h1, h2⟩
    · subst h2; trivial
    · rw [at_ne j h1]
      exact (R.den j sj h2).keep (fun _ _ _ q => q) fun a u q => ⟨q.1, fun z => q.2 (z.imp (fs1 a) id)⟩
  · rcases getElem?_set_cases ej with ⟨h1, h2, _⟩ | ⟨h1, h2⟩
    · subst h2; exact ha.elim
    · rcases getElem?_set_cases ek with ⟨h3, h4, _⟩ | ⟨h3, h4⟩
      · subst h4; exact hb.elim
      · rw [at_ne j h1] at ha
        rw [at_ne k h3] at hb
        exact R.dj j k sj sk a h2 h4 ha hb
  · have hj : j ≠ i := fun z => by
      obtain ⟨h, _⟩ := List.getElem?_eq_some_iff.mp ej
      omega
    rw [List.getElem?_set_ne (Ne.symm hj)]
    exact R.pv j v ej
theorem at_set {σ : St} {i : Nat} {w : Option V} (h : i < σ.length) : at' (σ.set i w) i = w := by
  unfold at'; rw [List.getElem?_set_self h]; rfl
/-- a name is stored to: the value in hand goes there -/
theorem Rel2.store (R : Rel2 g G pv H ρ σ v r) {i : Nat} (hi : pv.length ≤ i) (hl : i < ρ.length) :
    Rel g G pv H (ρ.set i r) (σ.set i (some v)) ∧ ∀ a, FS H (ρ.set i r) (σ.set i (some v)) a → fo H (some v) r a ∨ FS H ρ σ a := by
  obtain ⟨R1, f1⟩ := R.rel.store (i := i) hi (some v)
  have R2 : Rel2 g G pv H (ρ.set i .un) (σ.set i (some v)) v r := ⟨R1, R.den.keep (fun _ _ _ q => q) fun a u q => ⟨q.1, fun z => q.2 (z.imp (f1 a) id)⟩, R.ng⟩
  have hl' : i < σ.length := by rw [← R.rel.len]; exact hl
  obtain ⟨R3, f3⟩ := R2.put (i := i) (at_set hl')
  rw [List.set_set] at R3 f3
  exact ⟨R3, fun a z => (f3 a z).imp id (f1 a)⟩
theorem Rel.at_of (R : Rel g G pv H ρ σ) {i : Nat} {s : Sl} {v : V} (hv : at' σ i = some v) : σ[i]? = some (some v) := by
  unfold at' at hv
  cases e : σ[i]? with
  | none => rw [e] at hv; simp at hv
  | some w => rw [e] at hv; simp at hv; rw [hv]
end
end TL

set_option Elab.async false
set_option linter.all false
set_option maxRecDepth 100000
set_option autoImplicit false
/-! TLc: expressions: what it is that the evaluator's word is right. -/
namespace TL
open PySem PySem.Spec PyProof.Rows L2

/-! ### the weakest readings -/
def te0 (X : Cx) (e : Expr) : TE := fun σ H Q => ∀ pins s, Inv X pins σ H s → wpAny (model X.prog X.w) X.A (eval e X.env) (EP X pins σ Q) X.xe s
def tt0 (X : Cx) (e : Expr) : TT := fun σ H Q => ∀ pins s, Inv X pins σ H s → wpAny (model X.prog X.w) X.A (isTrue e X.env (eval e X.env)) (TP X pins σ Q) X.xe s
theorem pe0 (X : Cx) (e : Expr) : PE X e (te0 X e) := ⟨fun pins s σ H Q I h => h pins s I⟩
theorem pt0 (X : Cx) (e : Expr) : PT X e (tt0 X e) := ⟨fun pins s σ H Q I h => h pins s I⟩
section
variable {X : Cx} {e : Expr} {σ : St} {H : Hp}
theorem te0_mono {Q Q' : VK} (h : te0 X e σ H Q) (hq : ∀ v H', Q v H' → Q' v H') : te0 X e σ H Q' := fun pins s I =>
  thn (h pins s I) fun u s' ⟨v, H', I', r, q⟩ => ⟨v, H', I', r, hq v H' q⟩
theorem tt0_mono {Q Q' : Bool → Hp → Prop} (h : tt0 X e σ H Q) (hq : ∀ v H', Q v H' → Q' v H') : tt0 X e σ H Q' := fun pins s I =>
  thn (h pins s I) fun u s' ⟨H', I', q⟩ => ⟨H', I', hq u H' q⟩
theorem te0_of {t : TE} (h : PE X e t) {Q : VK} (q : t σ H Q) : te0 X e σ H Q := fun pins s I => h.run pins s σ H Q I q
theorem tt0_of {t : TT} (h : PT X e t) {Q : Bool → Hp → Prop} (q : t σ H Q) : tt0 X e σ H Q := fun pins s I => h.run pins s σ H Q I q
end
def taL (X : Cx) : List Expr → TA
  | [] => tNil
  | e :: es => tCons (te0 X e) (taL X es)
def notStar : Expr → Bool
  | .Starred _ _ => false
  | _ => true
theorem starEach_cons {e : Expr} {es : List Expr} {env : PySem.Env} (h : notStar e = true) : starEach (e :: es) env = (false, eval e env) :: starEach es env := by
  cases e <;> first | rfl | (simp [notStar] at h)
theorem pa0 (X : Cx) : ∀ es : List Expr, es.all notStar = true → PA X es (taL X es)
  | [], _ => pa_nil
  | e :: es, h => by
    rw [List.all_cons, Bool.and_eq_true] at h
    exact pa_cons (pe0 X e) (pa0 X es h.2) (starEach_cons h.1)
theorem plain_any {es : List Expr} {env : PySem.Env} {pos : Pos} (h : es.all notStar = true) : (backTo pos (starEach es env)).any (·.1) = false := by
  induction es with
  | nil => rfl
  | cons e es ih =>
    rw [List.all_cons, Bool.and_eq_true] at h
    rw [starEach_cons h.1]
    show (false || (backTo pos (starEach es env)).any (·.1)) = false
    rw [ih h.2]; rfl
theorem taL_mono {X : Cx} {σ : St} : ∀ {es : List Expr} {H : Hp} {Q Q' : List V → Hp → Prop}, taL X es σ H Q → (∀ vs H', vs.length = es.length → Q vs H' → Q' vs H') → taL X es σ H Q'
  | [], H, Q, Q', h, hq => hq [] H rfl h
  | e :: es, H, Q, Q', h, hq => te0_mono h fun v H1 h1 => taL_mono (es := es) h1 fun vs H2 hl h2 => hq (v :: vs) H2 (by rw [List.length_cons, List.length_cons, hl]) h2

/-! ### what is due behind an expression -/
/-- an exception: its class, its field -/
def ExD (g : Gd) (A : Av) (x : Exc) (cls : Value) (d : Option Addr) : Prop :=
  cls = .ref (g.cl x.c) ∧ match x.f with
    | none => d = none
    | some (f, t) => ∃ dx v, d = some dx ∧ A dx (.xd [(f, v)]) ∧ Den g A t v
theorem ExD.mono {g : Gd} {A A' : Av} {x : Exc} {cls : Value} {d : Option Addr} (h : ExD g A x cls d) (k : ∀ a u, A a u → A' a u) : ExD g A' x cls d := by
  refine ⟨h.1, ?_⟩
  have h2 := h.2
  revert h2
  cases x.f with
  | none => exact fun z => z
  | some p =>
    intro h2
    obtain ⟨f, t⟩ := p
    obtain ⟨a, v, e, h1, h2⟩ := h2
    exact ⟨a, v, e, k _ _ h1, Den.mono k _ _ h2⟩
def PostX (g : Gd) (G : As) (pv : List V) (H : Hp) (ρ : Env) (σ : St) (x : Exc) (ρ' : Env) (W : WX) : Prop :=
  ∀ cls d σ' H', Stp (FS H ρ σ) H (FS H' ρ' σ') H' → Rel g G pv H' ρ' σ' → ExD g (AvO H' (ou (FS H' ρ' σ') G)) x cls d → W cls d σ' H'
def PostE (g : Gd) (G : As) (pv : List V) (H : Hp) (ρ : Env) (σ : St) (m : R Sl) (Q : VK) (W : WX) : Prop :=
  match m with
  | .ok r ρ' => ∀ v H', Stp (FS H ρ σ) H (ou (fo H' (some v) r) (FS H' ρ' σ)) H' → Rel2 g G pv H' ρ' σ v r → Q v H'
  | .ex x ρ' => PostX g G pv H ρ σ x ρ' W
  | .bad => False
def PostB (g : Gd) (G : As) (pv : List V) (H : Hp) (ρ : Env) (σ : St) (m : R Bool) (Q : Bool → Hp → Prop) (W : WX) : Prop :=
  match m with
  | .ok b ρ' => ∀ H', Stp (FS H ρ σ) H (FS H' ρ' σ) H' → Rel g G pv H' ρ' σ → Q b H'
  | .ex x ρ' => PostX g G pv H ρ σ x ρ' W
  | .bad => False
/-- a frozen value -/
def PostT (g : Gd) (G : As) (pv : List V) (H : Hp) (ρ : Env) (σ : St) (m : R T) (Q : VK) (W : WX) : Prop :=
  match m with
  | .ok t ρ' => ∀ v H', Stp (FS H ρ σ) H (FS H' ρ' σ) H' → Rel g G pv H' ρ' σ → Den g (AvO H' (ou (FS H' ρ' σ) G)) t v → Q v H'
  | .ex x ρ' => PostX g G pv H ρ σ x ρ' W
  | .bad => False

structure SndE (C : Cfg) (g : Gd) (X : Cx) (e : Expr) (e' : E) : Prop where
  run : ∀ (G : As) (pv : List V) (H : Hp) (ρ : Env) (σ : St) (Q : VK) (W : WX), pv.length = C.np → Takes X W → Rel g G pv H ρ σ → PostE g G pv H ρ σ (ev C e' ρ) Q W → te0 X e σ H Q
structure SndT (C : Cfg) (g : Gd) (X : Cx) (e : Expr) (e' : E) : Prop where
  run : ∀ (G : As) (pv : List V) (H : Hp) (ρ : Env) (σ : St) (Q : Bool → Hp → Prop) (W : WX), pv.length = C.np → Takes X W → Rel g G pv H ρ σ → PostB g G pv H ρ σ ((ev C e' ρ).bind fun s ρ => R.of ρ (asB s)) Q W → tt0 X e σ H Q
structure Snd (C : Cfg) (g : Gd) (X : Cx) (e : Expr) (e' : E) : Prop where
  ex : SndE C g X e e'
  te : SndT C g X e e'

section
variable {C : Cfg} {g : Gd} {X : Cx} {e : Expr} {e' : E} {G : As} {pv : List V} {H H1 : Hp} {ρ ρ1 : Env} {σ σ1 : St} {W : WX}
/-- exceptions of what follows -/
theorem PostX.after {x : Exc} {ρ' : Env} {G1 : As} (h : PostX g G pv H ρ σ x ρ' W) (s : Stp (FS H ρ σ) H (FS H1 ρ1 σ1) H1) (hG : ∀ a, G a → G1 a) : PostX g G1 pv H1 ρ1 σ1 x ρ' W := fun cls d σ' H' s' R' dx =>
  h cls d σ' H' (s.trans s') (R'.weaken hG) ⟨dx.1, by
    have dx2 := dx.2
    revert dx2
    cases x.f with
    | none => exact fun z => z
    | some p =>
      intro dx2
      obtain ⟨f, t⟩ := p
      obtain ⟨a, v, e, h1, h2⟩ := dx2
      have k : ∀ a u, AvO H' (ou (FS H' ρ' σ') G1) a u → AvO H' (ou (FS H' ρ' σ') G) a u := fun a u q => ⟨q.1, fun z => q.2 (z.imp id (hG a))⟩
      exact ⟨a, v, e, k _ _ h1, Den.mono k _ _ h2⟩⟩
theorem PostE.toT {m : R Sl} {Q : VK} (h : PostT g G pv H ρ σ (m.bind fun s ρ => R.of ρ (frz s)) Q W) : PostE g G pv H ρ σ m Q W := by
  cases m with
  | bad => exact h
  | ex x ρ' => exact h
  | ok r ρ' =>
    cases e : frz r with
    | none => rw [R.bind_ok, e] at h; exact h.elim
    | some t =>
      rw [R.bind_ok, e] at h
      intro v H' s R2
      obtain ⟨R1, d⟩ := R2.freeze e
      exact h v H' (s.less fun a z => .inr z) R1 d
theorem SndE.tree (S : SndE C g X e e') (hp : pv.length = C.np) (tk : Takes X W) (RR : Rel g G pv H ρ σ) {Q : VK} (h : PostT g G pv H ρ σ ((ev C e' ρ).bind fun s ρ => R.of ρ (frz s)) Q W) : te0 X e σ H Q :=
  S.run G pv H ρ σ Q W hp tk RR (PostE.toT h)

/-! ### operands -/
theorem Rel.known (RR : Rel g G pv H ρ σ) {i : Nat} (kn : known ρ[i]? = true) : ∃ v, σ[i]? = some (some v) := by
  cases e : ρ[i]? with
  | none => rw [e] at kn; cases kn
  | some s =>
    rw [e] at kn
    have d := RR.den i s e
    have fin : ∀ {v : V}, at' σ i = some v → ∃ v, σ[i]? = some (some v) := fun {v} hv => ⟨v, by
      unfold at' at hv
      cases q : σ[i]? with
      | none => rw [q] at hv; simp at hv
      | some w => rw [q] at hv; simp at hv; rw [hv]⟩
    cases s with
    | un => cases kn
    | sh t => obtain ⟨x, e, _⟩ := d; exact fin e
    | scr cs => obtain ⟨x, e, _⟩ := d; exact fin e
    | ow t => obtain ⟨a, o, e, _⟩ := d; exact fin e
    | rn st cs ix => obtain ⟨a, b, e, _⟩ := d; exact fin e
/-- an operand's value -/
def OpdOk (g : Gd) (A : Av) (σ : St) (e' : E) (o : Option T) (v : V) : Prop :=
  match e' with
  | .pk i => σ[i]? = some (some v)
  | _ => ∃ t, o = some t ∧ Den g A t v
theorem OpdOk.mono {A A' : Av} {o : Option T} {v : V} (h : OpdOk g A σ e' o v) (k : ∀ a u, A a u → A' a u) : OpdOk g A' σ e' o v := by
  unfold OpdOk at h ⊢
  cases e' <;> first | exact h | (obtain ⟨t, e, d⟩ := h; exact ⟨t, e, Den.mono k _ _ d⟩)
def OpdsOk (g : Gd) (A : Av) (σ : St) : List E → List (Option T) → List V → Prop
  | [], [], [] => True
  | e :: es, o :: os, v :: vs => OpdOk g A σ e o v ∧ OpdsOk g A σ es os vs
  | _, _, _ => False
def PostO (g : Gd) (G : As) (pv : List V) (H : Hp) (ρ : Env) (σ : St) (e' : E) (m : R (Option T)) (Q : VK) (W : WX) : Prop :=
  match m with
  | .ok o ρ' => ∀ v H', Stp (FS H ρ σ) H (FS H' ρ' σ) H' → Rel g G pv H' ρ' σ → OpdOk g (AvO H' (ou (FS H' ρ' σ) G)) σ e' o v → Q v H'
  | .ex x ρ' => PostX g G pv H ρ σ x ρ' W
  | .bad => False
def PostOs (g : Gd) (G : As) (pv : List V) (H : Hp) (ρ : Env) (σ : St) (es' : List E) (m : R (List (Option T))) (Q : List V → Hp → Prop) (W : WX) : Prop :=
  match m with
  | .ok os ρ' => ∀ vs H', Stp (FS H ρ σ) H (FS H' ρ' σ) H' → Rel g G pv H' ρ' σ → OpdsOk g (AvO H' (ou (FS H' ρ' σ) G)) σ es' os vs → Q vs H'
  | .ex x ρ' => PostX g G pv H ρ σ x ρ' W
  | .bad => False
/-- an operand is right: a slot that is looked at, or an expression -/
inductive SndO (C : Cfg) (g : Gd) (X : Cx) : Expr → E → Prop
  | pk {x : Str} {pos : Pos} {i : Nat} (h : PE X (.Name x pos) (tVar i)) (hi : X.N[i]? = some x) : SndO C g X (.Name x pos) (.pk i)
  | val {e : Expr} {e' : E} (h : SndE C g X e e') (hn : ∀ i, e' ≠ .pk i) : SndO C g X e e'
theorem SndO.run (S : SndO C g X e e') (hp : pv.length = C.np) (tk : Takes X W) (RR : Rel g G pv H ρ σ) {Q : VK}
(h : PostO g G pv H ρ σ e' (oOf e' (ev C e') ρ) Q W) : te0 X e σ H Q := by
  cases S with
  | pk hv hi =>
    rename_i x pos i
    unfold oOf at h
    dsimp only at h
    by_cases kn : known ρ[i]? = true
    · obtain ⟨v, hv'⟩ := RR.known kn
      rw [if_pos kn] at h
      exact te0_of hv ⟨v, hv', h v H Stp.refl RR hv'⟩
    · rw [if_neg kn] at h
      exact h.elim
  | val S hn =>
    refine S.tree hp tk RR ?_
    have e1 : oOf e' (ev C e') ρ = ((ev C e' ρ).bind fun s ρ => (R.of ρ (frz s)).bind fun t ρ => .ok (some t) ρ) := by
      cases e' <;> first | rfl | exact absurd rfl (hn _)
    rw [e1] at h
    cases q : ev C e' ρ with
    | bad => rw [q] at h; exact h
    | ex x ρ' => rw [q] at h; exact h
    | ok r ρ' =>
      rw [q, R.bind_ok] at h
      show PostT g G pv H ρ σ (R.of ρ' (frz r)) Q W
      cases e2 : frz r with
      | none => rw [e2] at h; exact h.elim
      | some t =>
        rw [e2] at h
        intro v H' s R' d
        refine h v H' s R' ?_
        unfold OpdOk
        cases e' <;> first | exact ⟨t, rfl, d⟩ | exact absurd rfl (hn _)
end

section
variable {C : Cfg} {g : Gd} {X : Cx} {e : Expr} {e' : E} {G : As} {pv : List V} {H H1 : Hp} {ρ ρ1 : Env} {σ σ1 : St} {W : WX}
/-- operands one after another -/
inductive SndOs (C : Cfg) (g : Gd) (X : Cx) : List Expr → List E → Prop
  | nil : SndOs C g X [] []
  | cons {e : Expr} {e' : E} {es : List Expr} {es' : List E} (h : SndO C g X e e') (r : SndOs C g X es es') : SndOs C g X (e :: es) (e' :: es')
theorem SndOs.length {es : List Expr} {es' : List E} (S : SndOs C g X es es') : es.length = es'.length := by
  induction S with
  | nil => rfl
  | cons _ _ ih => rw [List.length_cons, List.length_cons, ih]
theorem SndOs.run {es : List Expr} {es' : List E} (S : SndOs C g X es es') : ∀ {G : As} {H : Hp} {ρ : Env} {Q : List V → Hp → Prop}, pv.length = C.np → Takes X W → Rel g G pv H ρ σ →
    PostOs g G pv H ρ σ es' (evOs C es' ρ) Q W → taL X es σ H Q := by
  induction S with
  | nil =>
    intro G H ρ Q hp tk RR h
    exact h [] H Stp.refl RR trivial
  | @cons e e' es es' hS r ih =>
    intro G H ρ Q hp tk RR h
    refine hS.run hp tk RR ?_
    have eq1 : evOs C (e' :: es') ρ = (oOf e' (ev C e') ρ).bind fun t ρ => (evOs C es' ρ).bind fun ts ρ => .ok (t :: ts) ρ := by simp only [evOs]
    rw [eq1] at h
    cases q : oOf e' (ev C e') ρ with
    | bad => rw [q] at h; exact h.elim
    | ex x ρ' => rw [q] at h; exact h
    | ok o ρ1 =>
      rw [q, R.bind_ok] at h
      intro v H1 s1 R1 k1
      refine ih hp tk R1 ?_
      cases q2 : evOs C es' ρ1 with
      | bad => rw [q2] at h; exact h.elim
      | ex x ρ' =>
        rw [q2] at h
        exact PostX.after (h : PostX g G pv H ρ σ x ρ' W) s1 fun _ z => z
      | ok os ρ2 =>
        rw [q2, R.bind_ok] at h
        intro vs H2 s2 R2 k2
        exact h (v :: vs) H2 (s1.trans s2) R2 ⟨k1.mono s2.av, k2⟩
theorem OpdsOk.length : ∀ {es : List E} {os : List (Option T)} {vs : List V} {A : Av}, OpdsOk g A σ es os vs → os.length = es.length ∧ vs.length = es.length
  | [], [], [], _, _ => ⟨rfl, rfl⟩
  | e :: es, o :: os, v :: vs, _, h => by
    obtain ⟨h1, h2⟩ := OpdsOk.length h.2
    exact ⟨by rw [List.length_cons, List.length_cons, h1], by rw [List.length_cons, List.length_cons, h2]⟩
  | [], [], _ :: _, _, h => h.elim
  | [], _ :: _, _, _, h => h.elim
  | _ :: _, [], _, _, h => h.elim
  | _ :: _, _ :: _, [], _, h => h.elim

/-- a value at the top: frozen, or an object of a slot's own -/
def Top (g : Gd) (A : Av) (H : Hp) (t : T) (v : V) : Prop := Den g A t v ∨ ∃ a o, v = .ref a ∧ H a = some o ∧ HoDen g A t o
def TopL (g : Gd) (A : Av) (H : Hp) : List T → List V → Prop
  | [], [] => True
  | t :: ts, v :: vs => Top g A H t v ∧ TopL g A H ts vs
  | _, _ => False
theorem Rel.peek (RR : Rel g G pv H ρ σ) {i : Nat} {t : T} {v : V} (h : peekT ρ i = some t) (hv : σ[i]? = some (some v)) : Top g (AvO H (ou (FS H ρ σ) G)) H t v := by
  unfold peekT at h
  cases e : ρ[i]? with
  | none => rw [e] at h; cases h
  | some s =>
    rw [e] at h
    have d := RR.den i s e
    have hat : at' σ i = some v := by unfold at'; rw [hv]; rfl
    rw [hat] at d
    cases s with
    | un => cases h
    | rn _ _ _ => cases h
    | scr _ => cases h
    | sh t' =>
      cases h
      obtain ⟨x, e1, d⟩ := d
      cases e1
      exact .inl d
    | ow t' =>
      cases h
      obtain ⟨a, o, e1, h1, d⟩ := d
      cases e1
      exact .inr ⟨a, o, rfl, h1, d⟩
theorem resolve_top (RR : Rel g G pv H ρ σ) : ∀ {es : List E} {os : List (Option T)} {vs : List V} {ts : List T}, OpdsOk g (AvO H (ou (FS H ρ σ) G)) σ es os vs → resolve es os ρ = some ts → TopL g (AvO H (ou (FS H ρ σ) G)) H ts vs
  | [], [], [], ts, _, h => by
    have h' : ts = [] := by simpa [resolve] using h.symm
    subst h'; trivial
  | e :: es, o :: os, v :: vs, ts, k, h => by
    by_cases he : ∃ i, e = .pk i
    · obtain ⟨i, rfl⟩ := he
      simp only [resolve] at h
      cases q : peekT ρ i with
      | none => rw [q] at h; cases h
      | some t =>
        rw [q, Option.bind_some] at h
        cases q2 : resolve es os ρ with
        | none => rw [q2] at h; cases h
        | some ts' =>
          rw [q2] at h
          cases h
          exact ⟨RR.peek q k.1, resolve_top RR k.2 q2⟩
    · have hn : ∀ i, e ≠ .pk i := fun i z => he ⟨i, z⟩
      have k1 : ∃ t, o = some t ∧ Den g (AvO H (ou (FS H ρ σ) G)) t v := by
        have k1 := k.1
        unfold OpdOk at k1
        cases e <;> first | exact k1 | exact absurd rfl (hn _)
      obtain ⟨t, rfl, d⟩ := k1
      have q1 : resolve (e :: es) (some t :: os) ρ = (resolve es os ρ).map (t :: ·) := by
        cases e <;> first | (simp only [resolve]; done) | exact absurd rfl (hn _)
      rw [q1] at h
      cases q2 : resolve es os ρ with
      | none => rw [q2] at h; cases h
      | some ts' =>
        rw [q2] at h
        cases h
        exact ⟨.inl d, resolve_top RR k.2 q2⟩
  | [], [], _ :: _, _, h, _ => h.elim
  | [], _ :: _, _, _, h, _ => h.elim
  | _ :: _, [], _, _, h, _ => h.elim
  | _ :: _, _ :: _, [], _, h, _ => h.elim

/-! ### a strict operation -/
/-- what an operation leaves: a frozen value over the old heap, or a new object -/
def BiRes (g : Gd) (A : Av) (H : Hp) (s : Sl) (v : V) (H' : Hp) : Prop :=
  ((∀ a u, H a = some u → H' a = some u) ∧ ∃ t, s = .sh t ∧ Den g A t v) ∨
  (∃ p o, H p = none ∧ H' = upd H p o ∧ v = .ref p ∧ ((∃ t, s = .ow t ∧ HoDen g A t o) ∨ (∃ ts xs, s = .sh (.tup ts) ∧ o = .tup xs ∧ DenL g A ts xs)))
theorem upd_ext {H : Hp} {p : Addr} {o : HO} (h : H p = none) : ∀ a u, H a = some u → upd H p o a = some u := fun a u e => by
  rw [upd_ne (ne_of_none e h)]; exact e
theorem BiRes.rel {s : Sl} {v : V} {H' : Hp} (b : BiRes g (AvO H (ou (FS H ρ σ) G)) H s v H') (RR : Rel g G pv H ρ σ) : Stp (FS H ρ σ) H (ou (fo H' (some v) s) (FS H' ρ σ)) H' ∧ Rel2 g G pv H' ρ σ v s := by
  rcases b with ⟨hx, t, rfl, d⟩ | ⟨p, o, hp, rfl, rfl, b⟩
  · obtain ⟨R', s'⟩ := RR.ext hx
    exact ⟨s'.less fun a z => z.elim (fun z => z.elim) id, Rel2.of_sh R' (Den.mono s'.av _ _ d)⟩
  · obtain ⟨R', s'⟩ := RR.ext (H' := upd H p o) (upd_ext hp)
    have av : ∀ a u, AvO H (ou (FS H ρ σ) G) a u → AvO (upd H p o) (ou (FS (upd H p o) ρ σ) G) a u := s'.av
    have nG : ¬ G p := fun z => by obtain ⟨u, e⟩ := RR.gd p z; rw [hp] at e; cases e
    have nF : ¬ FS (upd H p o) ρ σ p := fun z => by
      obtain ⟨i, s1, e1, h1⟩ := z
      have d := RR.den i s1 e1
      have k : fo H (at' σ i) s1 p := d.fo_keep (fun a u _ hu => upd_ext hp a u hu) h1
      obtain ⟨u, e⟩ := d.fo_there k
      rw [hp] at e; cases e
    rcases b with ⟨t, rfl, d⟩ | ⟨ts, xs, rfl, rfl, d⟩
    · have fop : ∀ a, fo (upd H p o) (some (.ref p)) (.ow t) a ↔ a = p := fun a => ⟨fun z => by have z' : some (V.ref p) = some (V.ref a) := z; cases z'; rfl, fun z => by subst z; exact rfl⟩
      refine ⟨fun a u e n => ?_, ⟨?_, ?_, fun a z => by rw [fop] at z; subst z; exact nG⟩⟩
      · obtain ⟨e1, n1⟩ := s' a u e n
        refine ⟨e1, fun z => z.elim (fun z => ?_) n1⟩
        rw [fop] at z; subst z
        rw [hp] at e; cases e
      · refine ⟨R'.len, fun i s1 e1 => ?_, R'.dj, fun a z k => ?_, fun a z => ?_, R'.pv⟩
        · refine (RR.den i s1 e1).keep (fun a u _ hu => upd_ext hp a u hu) fun a u q => ?_
          obtain ⟨q1, q2⟩ := av a u q
          refine ⟨q1, fun z => ?_⟩
          rcases z with z | z | z
          · exact q2 (.inl z)
          · rw [fop] at z; subst z
            rcases q.1 with q | ⟨_, o', q⟩ <;> (rw [hp] at q; cases q)
          · exact q2 (.inr z)
        · rcases k with k | k
          · rw [fop] at k; subst k; exact nF z
          · exact R'.dg a z k
        · rcases z with z | z
          · rw [fop] at z; subst z; exact ⟨o, upd_same⟩
          · exact R'.gd a z
      · refine ⟨p, o, rfl, upd_same, d.mono fun a u q => ?_⟩
        obtain ⟨q1, q2⟩ := av a u q
        refine ⟨q1, fun z => ?_⟩
        rcases z with z | z | z
        · exact q2 (.inl z)
        · rw [fop] at z; subst z
          rcases q.1 with q | ⟨_, o', q⟩ <;> (rw [hp] at q; cases q)
        · exact q2 (.inr z)
    · refine ⟨s'.less fun a z => z.elim (fun z => z.elim) id, Rel2.of_sh R' ?_⟩
      simp only [Den]
      refine ⟨p, xs, rfl, .inl ⟨.inl upd_same, fun z => z.elim nF nG⟩, DenL.mono av _ _ d⟩
/-- what is asked of an operation by values: r its reading -/
def BiOk (g : Gd) (f : List T → Option Sl) (r : List V → Hp → VK → Prop) : Prop :=
  ∀ (A : Av) (H : Hp) (ts : List T) (vs : List V) (s : Sl) (Q : VK), (∀ a u, A a u → Rd2 H a u) → TopL g A H ts vs → f ts = some s → (∀ v H', BiRes g A H s v H' → Q v H') → r vs H Q
theorem ev_bi {b : Bi} {os : List E} : ev C (.bi b os) ρ = (evOs C os ρ).bind fun ts ρ => R.of ρ ((resolve os ts ρ).bind (biT C b)) := by simp only [ev]
theorem snd_bi {es : List Expr} {os : List E} {b : Bi} {r : List V → Hp → VK → Prop} (S : SndOs C g X es os) (hr : BiOk g (biT C b) r)
    (hpe : ∀ (σ : St) (H : Hp) (Q : VK), taL X es σ H (fun vs H' => r vs H' Q) → te0 X e σ H Q) : SndE C g X e (.bi b os) := by
  refine ⟨fun G pv H ρ σ Q W hp tk RR h => hpe σ H Q ?_⟩
  rw [ev_bi] at h
  refine S.run hp tk RR ?_
  cases q : evOs C os ρ with
  | bad => rw [q] at h; exact h
  | ex x ρ' => rw [q] at h; exact h
  | ok ts ρ1 =>
    rw [q, R.bind_ok] at h
    intro vs H1 s1 R1 k
    cases q1 : resolve os ts ρ1 with
    | none => rw [q1] at h; exact h.elim
    | some us =>
      rw [q1, Option.bind_some] at h
      cases q2 : biT C b us with
      | none => rw [q2] at h; exact h.elim
      | some s =>
        rw [q2] at h
        refine hr _ H1 us vs s Q (fun a u z => z.1) (resolve_top R1 k q1) q2 fun v H2 bb => ?_
        obtain ⟨s2, R2⟩ := bb.rel R1
        exact h v H2 (s1.trans s2) R2
/-- .. as a test -/
theorem snd_biT {es : List Expr} {os : List E} {b : Bi} {r : List V → Hp → VK → Prop} (S : SndOs C g X es os) (hr : BiOk g (biT C b) r)
    (hpt : ∀ (σ : St) (H : Hp) (Q : Bool → Hp → Prop), taL X es σ H (fun vs H' => r vs H' (fun v H2 => ∃ c, v = .bl c ∧ Q c H2)) → tt0 X e σ H Q) : SndT C g X e (.bi b os) := by
  refine ⟨fun G pv H ρ σ Q W hp tk RR h => hpt σ H Q ?_⟩
  rw [ev_bi] at h
  refine S.run hp tk RR ?_
  cases q : evOs C os ρ with
  | bad => rw [q] at h; exact h
  | ex x ρ' => rw [q] at h; exact h
  | ok ts ρ1 =>
    rw [q, R.bind_ok] at h
    intro vs H1 s1 R1 k
    cases q1 : resolve os ts ρ1 with
    | none => rw [q1] at h; exact h.elim
    | some us =>
      rw [q1, Option.bind_some] at h
      cases q2 : biT C b us with
      | none => rw [q2] at h; exact h.elim
      | some s =>
        rw [q2, R.of_some, R.bind_ok] at h
        refine hr _ H1 us vs s _ (fun a u z => z.1) (resolve_top R1 k q1) q2 fun v H2 bb => ?_
        obtain ⟨s2, R2⟩ := bb.rel R1
        cases q3 : asB s with
        | none => rw [q3] at h; exact h.elim
        | some c =>
          rw [q3] at h
          have es : s = .sh (.bl c) := by
            unfold asB at q3
            cases s with
            | sh t => cases t <;> first | (cases q3; rfl) | cases q3
            | _ => cases q3
          subst es
          obtain ⟨R3, d⟩ := R2.sh
          simp only [Den] at d
          exact ⟨c, d, h H2 (s1.trans (s2.less fun a z => .inr z)) R3⟩
end
end TL

set_option Elab.async false
set_option linter.all false
set_option maxRecDepth 100000
set_option autoImplicit false
/-! TLd: the expressions' forms. -/
namespace TL
open PySem PySem.Spec PyProof.Rows L2
section
variable {C : Cfg} {g : Gd} {X : Cx} {e a b c : Expr} {e' a' b' c' : E} {pos : Pos}

theorem if_true_of {c : Prop} [Decidable c] {A B : Prop} (h : c) (a : A) : if c then A else B := by rw [if_pos h]; exact a
theorem if_false_of {A B : Prop} {k : Bool} (h : k = false) (b : B) : if k = true then A else B := by subst h; exact b
/-! ### names, constants -/
theorem snd_const {t : T} {v : V} (h : PE X e (tC v)) (d : ∀ A, Den g A t v) : SndE C g X e (.cst t) :=
  ⟨fun G pv H ρ σ Q W hp tk RR k => te0_of h (by
    simp only [ev] at k
    exact k v H (Stp.refl.less fun a z => z.elim (fun z => z.elim) id) (Rel2.of_sh RR (d _)))⟩
theorem snd_glb {n : Nat} {t : T} {v : V} (h : PE X e (tC v)) (hn : C.glob n = some t) (d : ∀ A, Den g A t v) : SndE C g X e (.glb n) :=
  ⟨fun G pv H ρ σ Q W hp tk RR k => te0_of h (by
    simp only [ev, hn, R.of_some, R.bind_ok] at k
    exact k v H (Stp.refl.less fun a z => z.elim (fun z => z.elim) id) (Rel2.of_sh RR (d _)))⟩
section
variable {G : As} {pv : List V} {H : Hp} {ρ : Env} {σ : St} {v : V}
theorem Rel.at_some (RR : Rel g G pv H ρ σ) {i : Nat} {v : V} (h : at' σ i = some v) : σ[i]? = some (some v) := by
  unfold at' at h
  cases q : σ[i]? with
  | none => rw [q] at h; simp at h
  | some w => rw [q] at h; simp at h; rw [h]
/-- a slot's own object is frozen -/
theorem Rel.frz_slot (RR : Rel g G pv H ρ σ) {i : Nat} {t : T} (e : ρ[i]? = some (.ow t)) : ∃ v, at' σ i = some v ∧ Rel g G pv H (ρ.set i (.sh t)) σ ∧
    Stp (FS H ρ σ) H (FS H (ρ.set i (.sh t)) σ) H ∧ Den g (AvO H (ou (FS H (ρ.set i (.sh t)) σ) G)) t v := by
  obtain ⟨a, o, hv, ho, d⟩ := RR.den i _ e
  obtain ⟨R2, f1, f2⟩ := RR.take e hv
  obtain ⟨R1, dd⟩ := R2.freeze rfl
  obtain ⟨R3, f3⟩ := (Rel2.of_sh R1 dd).put (i := i) hv
  rw [List.set_set] at R3 f3
  have f : ∀ a, FS H (ρ.set i (.sh t)) σ a → FS H (ρ.set i .un) σ a := fun a z => (f3 a z).elim (fun z => z.elim) id
  exact ⟨_, hv, R3, Stp.refl.less fun a z => f1 a (f a z), Den.mono (fun a u q => ⟨q.1, fun z => q.2 (z.imp (f a) id)⟩) _ _ dd⟩
end
theorem snd_var {x : Str} {i : Nat} (h : PE X (.Name x pos) (tVar i)) : SndE C g X (.Name x pos) (.var i) := by
  refine ⟨fun G pv H ρ σ Q W hp tk RR k => ?_⟩
  simp only [ev] at k
  cases e : ρ[i]? with
  | none => rw [e] at k; exact k.elim
  | some s =>
    rw [e] at k
    cases s with
    | un => exact k.elim
    | rn _ _ _ => exact k.elim
    | scr _ => exact k.elim
    | sh t =>
      obtain ⟨v, hv, d⟩ := RR.den i _ e
      exact te0_of h ⟨v, RR.at_some hv, k v H (Stp.refl.less fun a z => z.elim (fun z => z.elim) id) (Rel2.of_sh RR d)⟩
    | ow t =>
      obtain ⟨v, hv, R3, s3, d⟩ := RR.frz_slot e
      exact te0_of h ⟨v, RR.at_some hv, k v H (s3.less fun a z => z.elim (fun z => z.elim) id) (Rel2.of_sh R3 d)⟩
theorem snd_mv {x : Str} {i : Nat} (h : PE X (.Name x pos) (tVar i)) : SndE C g X (.Name x pos) (.mv i) := by
  refine ⟨fun G pv H ρ σ Q W hp tk RR k => ?_⟩
  simp only [ev] at k
  cases e : ρ[i]? with
  | none => rw [e] at k; exact k.elim
  | some s =>
    rw [e] at k
    cases s with
    | un => exact k.elim
    | rn _ _ _ => exact k.elim
    | scr _ => exact k.elim
    | sh t =>
      obtain ⟨v, hv, d⟩ := RR.den i _ e
      exact te0_of h ⟨v, RR.at_some hv, k v H (Stp.refl.less fun a z => z.elim (fun z => z.elim) id) (Rel2.of_sh RR d)⟩
    | ow t =>
      by_cases hi : i < C.np
      · simp only [if_pos hi] at k
        obtain ⟨v, hv, R3, s3, d⟩ := RR.frz_slot e
        exact te0_of h ⟨v, RR.at_some hv, k v H (s3.less fun a z => z.elim (fun z => z.elim) id) (Rel2.of_sh R3 d)⟩
      · simp only [if_neg hi] at k
        obtain ⟨a, o, hv, ho, d⟩ := RR.den i _ e
        obtain ⟨R2, f1, f2⟩ := RR.take e hv
        exact te0_of h ⟨_, RR.at_some hv, k _ H (Stp.refl.less fun a z => z.elim (fun z => ⟨i, _, e, by rw [hv]; exact z⟩) (f1 a)) R2⟩

/-! ### tests -/
theorem asB_some {s : Sl} {k : Bool} (h : asB s = some k) : s = .sh (.bl k) := by
  unfold asB at h
  cases s with
  | sh t => cases t <;> first | (cases h; rfl) | cases h
  | _ => cases h
section
variable {G : As} {pv : List V} {H : Hp} {ρ : Env} {σ : St} {W : WX} {m : R Sl}
/-- a bool, as a value -/
theorem PostE.ofB {Q : Bool → Hp → Prop} (h : PostB g G pv H ρ σ (m.bind fun s ρ => R.of ρ (asB s)) Q W) : PostE g G pv H ρ σ m (fun v H' => ∃ k, v = .bl k ∧ Q k H') W := by
  cases m with
  | bad => exact h
  | ex x ρ' => exact h
  | ok r ρ' =>
    rw [R.bind_ok] at h
    cases q : asB r with
    | none => rw [q] at h; exact h.elim
    | some k =>
      rw [q] at h
      have er := asB_some q
      subst er
      intro v H' s R2
      obtain ⟨R1, d⟩ := R2.sh
      simp only [Den] at d
      exact ⟨k, d, h H' (s.less fun a z => .inr z) R1⟩
theorem PostE.okB {Q : VK} {k : Bool} {H1 : Hp} {ρ1 : Env} (h : PostE g G pv H ρ σ (.ok (.sh (.bl k)) ρ1) Q W) (s : Stp (FS H ρ σ) H (FS H1 ρ1 σ) H1) (RR : Rel g G pv H1 ρ1 σ) : Q (.bl k) H1 :=
  h (.bl k) H1 (s.less fun a z => z.elim (fun z => z.elim) id) (Rel2.of_sh RR (by simp only [Den]))
/-- what follows a step -/
theorem PostE.after {Q : VK} {H1 : Hp} {ρ1 : Env} (h : PostE g G pv H ρ σ m Q W) (s : Stp (FS H ρ σ) H (FS H1 ρ1 σ) H1) : PostE g G pv H1 ρ1 σ m Q W := by
  cases m with
  | bad => exact h
  | ex x ρ' => exact PostX.after (h : PostX g G pv H ρ σ x ρ' W) s fun _ z => z
  | ok r ρ' => exact fun v H' s' R' => h v H' (s.trans s') R'
theorem PostB.after {m : R Bool} {Q : Bool → Hp → Prop} {H1 : Hp} {ρ1 : Env} (h : PostB g G pv H ρ σ m Q W) (s : Stp (FS H ρ σ) H (FS H1 ρ1 σ) H1) : PostB g G pv H1 ρ1 σ m Q W := by
  cases m with
  | bad => exact h
  | ex x ρ' => exact PostX.after (h : PostX g G pv H ρ σ x ρ' W) s fun _ z => z
  | ok r ρ' => exact fun H' s' R' => h H' (s.trans s') R'
theorem PostT.after {m : R T} {Q : VK} {H1 : Hp} {ρ1 : Env} (h : PostT g G pv H ρ σ m Q W) (s : Stp (FS H ρ σ) H (FS H1 ρ1 σ) H1) : PostT g G pv H1 ρ1 σ m Q W := by
  cases m with
  | bad => exact h
  | ex x ρ' => exact PostX.after (h : PostX g G pv H ρ σ x ρ' W) s fun _ z => z
  | ok r ρ' => exact fun v H' s' R' => h v H' (s.trans s') R'
end
theorem snd_plain (S : SndE C g X e e') (he : ∀ whole, isTrue e X.env whole = (do let v ← whole; standAt e.pos; holding [v] (truthy v))) : SndT C g X e e' :=
  ⟨fun G pv H ρ σ Q W hp tk RR k => tt0_of (pt_val (pe0 X e) he) (S.run G pv H ρ σ _ W hp tk RR (PostE.ofB k))⟩
/-- a bool's bind, first the test -/
theorem bindB {α : Type} {m : R Sl} {f : Bool → Env → R α} : (m.bind fun s ρ => (R.of ρ (asB s)).bind f) = (m.bind fun s ρ => R.of ρ (asB s)).bind f := by
  cases m <;> rfl
/-- first a bool, then by it -/
theorem SndE.bool (S : SndE C g X a a') {G : As} {pv : List V} {H : Hp} {ρ : Env} {σ : St} {Q : VK} {Q2 : VK} {W : WX} (f : Bool → Env → R Sl) (hp : pv.length = C.np) (tk : Takes X W) (RR : Rel g G pv H ρ σ)
    (k : PostE g G pv H ρ σ ((ev C a' ρ).bind fun s ρ => (R.of ρ (asB s)).bind f) Q W)
    (h : ∀ c ρ1 H1, Stp (FS H ρ σ) H (FS H1 ρ1 σ) H1 → Rel g G pv H1 ρ1 σ → PostE g G pv H ρ σ (f c ρ1) Q W → Q2 (.bl c) H1) : te0 X a σ H Q2 := by
  rw [bindB] at k
  refine te0_mono (S.run G pv H ρ σ (fun v H' => ∃ c, v = .bl c ∧ Q2 (.bl c) H') W hp tk RR (PostE.ofB (Q := fun c H' => Q2 (.bl c) H') ?_)) fun v H' ⟨c, e, q⟩ => by rw [e]; exact q
  cases q : (ev C a' ρ).bind fun s ρ => R.of ρ (asB s) with
  | bad => rw [q] at k; exact k.elim
  | ex x ρ' => rw [q] at k; exact k
  | ok c ρ1 =>
    rw [q, R.bind_ok] at k
    exact fun H1 s R1 => h c ρ1 H1 s R1 k
theorem SndT.bool (S : SndT C g X a a') {G : As} {pv : List V} {H : Hp} {ρ : Env} {σ : St} {Q : VK} {Q2 : Bool → Hp → Prop} {W : WX} (f : Bool → Env → R Sl) (hp : pv.length = C.np) (tk : Takes X W) (RR : Rel g G pv H ρ σ)
    (k : PostE g G pv H ρ σ ((ev C a' ρ).bind fun s ρ => (R.of ρ (asB s)).bind f) Q W)
    (h : ∀ c ρ1 H1, Stp (FS H ρ σ) H (FS H1 ρ1 σ) H1 → Rel g G pv H1 ρ1 σ → PostE g G pv H ρ σ (f c ρ1) Q W → Q2 c H1) : tt0 X a σ H Q2 := by
  rw [bindB] at k
  refine S.run G pv H ρ σ Q2 W hp tk RR ?_
  cases q : (ev C a' ρ).bind fun s ρ => R.of ρ (asB s) with
  | bad => rw [q] at k; exact k.elim
  | ex x ρ' => rw [q] at k; exact k
  | ok c ρ1 =>
    rw [q, R.bind_ok] at k
    exact fun H1 s R1 => h c ρ1 H1 s R1 k
theorem SndT.boolB (S : SndT C g X a a') {G : As} {pv : List V} {H : Hp} {ρ : Env} {σ : St} {Q : Bool → Hp → Prop} {Q2 : Bool → Hp → Prop} {W : WX} (f : Bool → Env → R Bool) (hp : pv.length = C.np) (tk : Takes X W) (RR : Rel g G pv H ρ σ)
    (k : PostB g G pv H ρ σ ((ev C a' ρ).bind fun s ρ => (R.of ρ (asB s)).bind f) Q W)
    (h : ∀ c ρ1 H1, Stp (FS H ρ σ) H (FS H1 ρ1 σ) H1 → Rel g G pv H1 ρ1 σ → PostB g G pv H ρ σ (f c ρ1) Q W → Q2 c H1) : tt0 X a σ H Q2 := by
  rw [bindB] at k
  refine S.run G pv H ρ σ Q2 W hp tk RR ?_
  cases q : (ev C a' ρ).bind fun s ρ => R.of ρ (asB s) with
  | bad => rw [q] at k; exact k.elim
  | ex x ρ' => rw [q] at k; exact k
  | ok c ρ1 =>
    rw [q, R.bind_ok] at k
    exact fun H1 s R1 => h c ρ1 H1 s R1 k
theorem bindBB {m : R Sl} {f : Bool → Env → R Sl} : ((m.bind fun s ρ => (R.of ρ (asB s)).bind f).bind fun s ρ => R.of ρ (asB s)) = m.bind fun s ρ => (R.of ρ (asB s)).bind fun c ρ => (f c ρ).bind fun s ρ => R.of ρ (asB s) := by
  cases m with
  | bad => rfl
  | ex x ρ' => rfl
  | ok s ρ' =>
    rw [R.bind_ok, R.bind_ok]
    cases asB s <;> rfl

/-! ### and, or, not, if -/
variable {rest : List Expr}
theorem snd_one {op : BoolOp} (h : SndE C g X a a') : SndE C g X (.BoolOp op [a] pos) a' := ⟨fun G pv H ρ σ Q W hp tk RR k => te0_of (pe_one (pe0 X a)) (h.run G pv H ρ σ Q W hp tk RR k)⟩
theorem snd_and (ha : SndE C g X a a') (hb : SndE C g X (.BoolOp .And (b :: rest) pos) b') : SndE C g X (.BoolOp .And (a :: b :: rest) pos) (.and a' b') := by
  refine ⟨fun G pv H ρ σ Q W hp tk RR k => te0_of (pe_and (pe0 X a) (pe0 X _)) ?_⟩
  simp only [ev] at k
  refine ha.bool _ hp tk RR k fun c ρ1 H1 s R1 k1 => ?_
  refine ⟨c, rfl, ?_⟩
  cases c with
  | true => exact if_true_of rfl (hb.run G pv H1 ρ1 σ Q W hp tk R1 (k1.after s))
  | false => exact if_false_of rfl (PostE.okB k1 s R1)
theorem snd_or (ha : SndE C g X a a') (hb : SndE C g X (.BoolOp .Or (b :: rest) pos) b') : SndE C g X (.BoolOp .Or (a :: b :: rest) pos) (.or a' b') := by
  refine ⟨fun G pv H ρ σ Q W hp tk RR k => te0_of (pe_or (pe0 X a) (pe0 X _)) ?_⟩
  simp only [ev] at k
  refine ha.bool _ hp tk RR k fun c ρ1 H1 s R1 k1 => ?_
  refine ⟨c, rfl, ?_⟩
  cases c with
  | true => exact if_true_of rfl (PostE.okB k1 s R1)
  | false => exact if_false_of rfl (hb.run G pv H1 ρ1 σ Q W hp tk R1 (k1.after s))
theorem snd_not (ha : SndE C g X a a') : SndE C g X (.UnaryOp .Not a pos) (.not a') := by
  refine ⟨fun G pv H ρ σ Q W hp tk RR k => te0_of (pe_not (pe0 X a)) ?_⟩
  simp only [ev] at k
  exact ha.bool _ hp tk RR k fun c ρ1 H1 s R1 k1 => ⟨c, rfl, PostE.okB k1 s R1⟩
theorem snd_ite (hc : SndT C g X c c') (ha : SndE C g X a a') (hb : SndE C g X b b') : SndE C g X (.IfExp c a b pos) (.ite c' a' b') := by
  refine ⟨fun G pv H ρ σ Q W hp tk RR k => te0_of (pe_ifExp (pt0 X c) (pe0 X a) (pe0 X b)) ?_⟩
  simp only [ev] at k
  refine hc.bool _ hp tk RR k fun c ρ1 H1 s R1 k1 => ?_
  cases c with
  | true => exact if_true_of rfl (ha.run G pv H1 ρ1 σ Q W hp tk R1 (k1.after s))
  | false => exact if_false_of rfl (hb.run G pv H1 ρ1 σ Q W hp tk R1 (k1.after s))
theorem pw_of {op : BoolOp} {vs : List Expr} {t : TT} (h : PT X (.BoolOp op vs pos) t) : PW X (.BoolOp op vs pos) t := ⟨fun whole pins s σ H Q I hw => by
  have k := h.run pins s σ H Q I hw
  cases op <;> exact k⟩
theorem sndT_oneA (h : SndT C g X a a') : SndT C g X (.BoolOp .And [a] pos) a' := ⟨fun G pv H ρ σ Q W hp tk RR k => tt0_of (pw_and1 (pt0 X a)).pt (h.run G pv H ρ σ Q W hp tk RR k)⟩
theorem sndT_oneO (h : SndT C g X a a') : SndT C g X (.BoolOp .Or [a] pos) a' := ⟨fun G pv H ρ σ Q W hp tk RR k => tt0_of (pw_or1 (pt0 X a)).pt (h.run G pv H ρ σ Q W hp tk RR k)⟩
theorem sndT_and (ha : SndT C g X a a') (hb : SndT C g X (.BoolOp .And (b :: rest) pos) b') : SndT C g X (.BoolOp .And (a :: b :: rest) pos) (.and a' b') := by
  refine ⟨fun G pv H ρ σ Q W hp tk RR k => tt0_of (pw_and (pt0 X a) (pw_of (pt0 X _))).pt ?_⟩
  simp only [ev] at k
  rw [bindBB] at k
  refine ha.boolB _ hp tk RR k fun c ρ1 H1 s R1 k1 => ?_
  cases c with
  | true => exact if_true_of rfl (hb.run G pv H1 ρ1 σ Q W hp tk R1 (PostB.after k1 s))
  | false => exact if_false_of rfl ((k1 : PostB g G pv H ρ σ (.ok false ρ1) Q W) H1 s R1)
theorem sndT_or (ha : SndT C g X a a') (hb : SndT C g X (.BoolOp .Or (b :: rest) pos) b') : SndT C g X (.BoolOp .Or (a :: b :: rest) pos) (.or a' b') := by
  refine ⟨fun G pv H ρ σ Q W hp tk RR k => tt0_of (pw_or (pt0 X a) (pw_of (pt0 X _))).pt ?_⟩
  simp only [ev] at k
  rw [bindBB] at k
  refine ha.boolB _ hp tk RR k fun c ρ1 H1 s R1 k1 => ?_
  cases c with
  | true => exact if_true_of rfl ((k1 : PostB g G pv H ρ σ (.ok true ρ1) Q W) H1 s R1)
  | false => exact if_false_of rfl (hb.run G pv H1 ρ1 σ Q W hp tk R1 (PostB.after k1 s))
theorem sndT_not (ha : SndT C g X a a') : SndT C g X (.UnaryOp .Not a pos) (.not a') := by
  refine ⟨fun G pv H ρ σ Q W hp tk RR k => tt0_of (pt_not (pt0 X a)) ?_⟩
  simp only [ev] at k
  rw [bindBB] at k
  exact ha.boolB _ hp tk RR k fun c ρ1 H1 s R1 k1 => (k1 : PostB g G pv H ρ σ (.ok (!c) ρ1) Q W) H1 s R1
theorem sndT_ite (hc : SndT C g X c c') (ha : SndT C g X a a') (hb : SndT C g X b b') : SndT C g X (.IfExp c a b pos) (.ite c' a' b') := by
  refine ⟨fun G pv H ρ σ Q W hp tk RR k pins s I => isTrue_IfExp ?_⟩
  simp only [ev] at k
  rw [bindBB] at k
  refine thn (hc.boolB (Q2 := fun c H1 => if c = true then tt0 X a σ H1 Q else tt0 X b σ H1 Q) _ hp tk RR k (fun c ρ1 H1 s R1 k1 => ?_) pins s I) fun c s1 ⟨H1, I1, q⟩ => ?_
  · cases c with
    | true => exact if_true_of rfl (ha.run G pv H1 ρ1 σ Q W hp tk R1 (PostB.after k1 s))
    | false => exact if_false_of rfl (hb.run G pv H1 ρ1 σ Q W hp tk R1 (PostB.after k1 s))
  · cases c with
    | true => exact q pins s1 I1
    | false => exact q pins s1 I1
end
end TL

set_option Elab.async false
set_option linter.all false
set_option maxRecDepth 100000
set_option autoImplicit false
/-! TLe: calls of defs. -/
namespace TL
open PySem PySem.Spec PyProof.Rows L2

/-- the state without what is known of the parameters -/
theorem Rel.nopv {g : Gd} {G : As} {pv : List V} {H : Hp} {ρ : Env} {σ : St} (RR : Rel g G pv H ρ σ) : Rel g G [] H ρ σ := ⟨RR.len, RR.den, RR.dj, RR.dg, RR.gd, fun i v e => by simp at e⟩
theorem Rel.wpv {g : Gd} {G G1 : As} {pv pv' : List V} {H H' : Hp} {ρ ρ' : Env} {σ : St} (RR : Rel g G1 pv H ρ σ) (S : Rel g G pv' H' ρ' σ) : Rel g G pv H' ρ' σ := ⟨S.len, S.den, S.dj, S.dg, S.gd, RR.pv⟩
section
variable {g : Gd} {G G' : As} {pv : List V} {H H' : Hp} {ρ ρ' : Env} {σ σ' : St} {v : V} {r s : Sl} {w : Option V}
theorem at_zero : at' (w :: σ) 0 = w := rfl
theorem at_succ {i : Nat} : at' (w :: σ) (i + 1) = at' σ i := by unfold at'; rw [List.getElem?_cons_succ]
theorem fs_cons {a : Addr} : FS H (s :: ρ) (w :: σ) a ↔ fo H w s a ∨ FS H ρ σ a := by
  constructor
  · rintro ⟨i, s1, e, h⟩
    cases i with
    | zero => simp at e; subst e; exact .inl h
    | succ i => rw [at_succ] at h; exact .inr ⟨i, s1, by simpa using e, h⟩
  · rintro (h | ⟨i, s1, e, h⟩)
    · exact ⟨0, s, rfl, h⟩
    · exact ⟨i + 1, s1, by simpa using e, by rw [at_succ]; exact h⟩
/-- the value in hand becomes the first slot -/
theorem Rel2.cons (R2 : Rel2 g G pv H ρ σ v r) : Rel g G [] H (r :: ρ) (some v :: σ) := by
  have av : ∀ a u, AvO H (ou (FS H ρ σ) (ou (fo H (some v) r) G)) a u → AvO H (ou (FS H (r :: ρ) (some v :: σ)) G) a u := fun a u q => ⟨q.1, fun z => q.2 (by
    rcases z with z | z
    · rcases fs_cons.mp z with z | z
      · exact .inr (.inl z)
      · exact .inl z
    · exact .inr (.inr z))⟩
  refine ⟨by rw [List.length_cons, List.length_cons, R2.rel.len], fun i s1 e => ?_, fun i j s1 s2 a e1 e2 h1 h2 => ?_, fun a z k => ?_, fun a z => R2.rel.gd a (.inr z), fun i v e => by simp at e⟩
  · cases i with
    | zero => simp at e; subst e; exact R2.den.keep (fun _ _ _ q => q) av
    | succ i => rw [at_succ]; exact (R2.rel.den i s1 (by simpa using e)).keep (fun _ _ _ q => q) av
  · cases i with
    | zero =>
      cases j with
      | zero => rfl
      | succ j =>
        simp at e1; subst e1
        rw [at_succ] at h2
        exact absurd (.inl h1) (R2.rel.dg a ⟨j, s2, by simpa using e2, h2⟩)
    | succ i =>
      cases j with
      | zero =>
        simp at e2; subst e2
        rw [at_succ] at h1
        exact absurd (.inl h2) (R2.rel.dg a ⟨i, s1, by simpa using e1, h1⟩)
      | succ j =>
        rw [at_succ] at h1 h2
        rw [R2.rel.dj i j s1 s2 a (by simpa using e1) (by simpa using e2) h1 h2]
  · rcases fs_cons.mp z with z | z
    · exact R2.ng a z k
    · exact R2.rel.dg a z (.inr k)
/-- the first slot goes -/
theorem Rel.tail (RR : Rel g G [] H (s :: ρ) (w :: σ)) : Rel g G [] H ρ σ := by
  refine ⟨by have := RR.len; simpa using this, fun i s1 e => ?_, fun i j s1 s2 a e1 e2 h1 h2 => ?_, fun a z => RR.dg a (fs_cons.mpr (.inr z)), RR.gd, fun i v e => by simp at e⟩
  · have d := RR.den (i + 1) s1 (by simpa using e)
    rw [at_succ] at d
    exact d.keep (fun _ _ _ q => q) fun a u q => ⟨q.1, fun z => q.2 (z.imp (fun z => fs_cons.mpr (.inr z)) id)⟩
  · have := RR.dj (i + 1) (j + 1) s1 s2 a (by simpa using e1) (by simpa using e2) (by rw [at_succ]; exact h1) (by rw [at_succ]; exact h2)
    omega
/-- .. into the hand -/
theorem Rel.uncons (RR : Rel g G [] H (s :: ρ) (some v :: σ)) : Rel2 g G [] H ρ σ v s := by
  have av : ∀ a u, AvO H (ou (FS H (s :: ρ) (some v :: σ)) G) a u → AvO H (ou (FS H ρ σ) (ou (fo H (some v) s) G)) a u := fun a u q => ⟨q.1, fun z => q.2 (by
    rcases z with z | z | z
    · exact .inl (fs_cons.mpr (.inr z))
    · exact .inl (fs_cons.mpr (.inl z))
    · exact .inr z)⟩
  have T := RR.tail
  refine ⟨⟨T.len, fun i s1 e => ?_, T.dj, fun a z k => ?_, fun a z => ?_, T.pv⟩, ?_, fun a z => RR.dg a (fs_cons.mpr (.inl z))⟩
  · have d := RR.den (i + 1) s1 (by simpa using e)
    rw [at_succ] at d
    exact d.keep (fun _ _ _ q => q) av
  · rcases k with k | k
    · obtain ⟨i, s1, e, h⟩ := z
      have := RR.dj 0 (i + 1) s s1 a rfl (by simpa using e) k (by rw [at_succ]; exact h)
      omega
    · exact T.dg a z k
  · rcases z with z | z
    · exact (RR.den 0 s rfl).fo_there z
    · exact RR.gd a z
  · exact (RR.den 0 s rfl).keep (fun _ _ _ q => q) av
theorem Rel2.nopv (R2 : Rel2 g G pv H ρ σ v r) : Rel2 g G [] H ρ σ v r := ⟨R2.rel.nopv, R2.den, R2.ng⟩
/-- the slots of the first part go into the hands of others -/
theorem Rel.split : ∀ {as : Env} {vs : St} {ρ : Env} {σ : St} {G : As}, as.length = vs.length → Rel g G [] H (as ++ ρ) (vs ++ σ) →
    Rel g (ou (FS H ρ σ) G) [] H as vs ∧ Rel g (ou (FS H as vs) G) [] H ρ σ ∧ ∀ a, FS H (as ++ ρ) (vs ++ σ) a ↔ FS H as vs a ∨ FS H ρ σ a := by
  intro as vs ρ σ G hl RR
  have atl : ∀ i, i < as.length → at' (vs ++ σ) i = at' vs i := fun i hi => by unfold at'; rw [List.getElem?_append_left (by omega)]
  have atr : ∀ i, at' (vs ++ σ) (as.length + i) = at' σ i := fun i => by unfold at'; rw [hl, List.getElem?_append_right (by omega)]; simp
  have el : ∀ i s, as[i]? = some s → (as ++ ρ)[i]? = some s ∧ i < as.length := fun i s e => by
    obtain ⟨h, _⟩ := List.getElem?_eq_some_iff.mp e
    exact ⟨by rw [List.getElem?_append_left h]; exact e, h⟩
  have er : ∀ i s, ρ[i]? = some s → (as ++ ρ)[as.length + i]? = some s := fun i s e => by rw [List.getElem?_append_right (by omega)]; simpa using e
  have fs : ∀ a, FS H (as ++ ρ) (vs ++ σ) a ↔ FS H as vs a ∨ FS H ρ σ a := fun a => by
    constructor
    · rintro ⟨i, s, e, h⟩
      by_cases hi : i < as.length
      · rw [List.getElem?_append_left hi] at e
        rw [atl i hi] at h
        exact .inl ⟨i, s, e, h⟩
      · obtain ⟨j, rfl⟩ : ∃ j, i = as.length + j := ⟨i - as.length, by omega⟩
        rw [List.getElem?_append_right (by omega)] at e
        rw [atr] at h
        exact .inr ⟨j, s, by simpa using e, h⟩
    · rintro (⟨i, s, e, h⟩ | ⟨i, s, e, h⟩)
      · obtain ⟨e1, hi⟩ := el i s e
        exact ⟨i, s, e1, by rw [atl i hi]; exact h⟩
      · exact ⟨as.length + i, s, er i s e, by rw [atr]; exact h⟩
  have apart : ∀ a, FS H as vs a → FS H ρ σ a → False := by
    rintro a ⟨i, s, e, h⟩ ⟨j, s', e', h'⟩
    obtain ⟨e1, hi⟩ := el i s e
    have := RR.dj i (as.length + j) s s' a e1 (er j s' e') (by rw [atl i hi]; exact h) (by rw [atr]; exact h')
    omega
  refine ⟨⟨hl, fun i s e => ?_, fun i j s s' a e e' h h' => ?_, fun a z k => ?_, fun a z => ?_, fun i v e => by simp at e⟩, ⟨by have := RR.len; rw [List.length_append, List.length_append] at this; omega, fun i s e => ?_, fun i j s s' a e e' h h' => ?_, fun a z k => ?_, fun a z => ?_, fun i v e => by simp at e⟩, fs⟩
  · obtain ⟨e1, hi⟩ := el i s e
    have d := RR.den i s e1
    rw [atl i hi] at d
    exact d.keep (fun _ _ _ q => q) fun a u q => ⟨q.1, fun z => q.2 (by
      rcases z with z | z | z
      · exact .inl ((fs a).mpr (.inl z))
      · exact .inl ((fs a).mpr (.inr z))
      · exact .inr z)⟩
  · obtain ⟨e1, hi⟩ := el i s e
    obtain ⟨e2, hj⟩ := el j s' e'
    exact RR.dj i j s s' a e1 e2 (by rw [atl i hi]; exact h) (by rw [atl j hj]; exact h')
  · rcases k with k | k
    · exact apart a z k
    · exact RR.dg a ((fs a).mpr (.inl z)) k
  · rcases z with z | z
    · exact RR.fs_there ((fs a).mpr (.inr z))
    · exact RR.gd a z
  · have d := RR.den _ s (er i s e)
    rw [atr] at d
    exact d.keep (fun _ _ _ q => q) fun a u q => ⟨q.1, fun z => q.2 (by
      rcases z with z | z | z
      · exact .inl ((fs a).mpr (.inr z))
      · exact .inl ((fs a).mpr (.inl z))
      · exact .inr z)⟩
  · have := RR.dj _ _ s s' a (er i s e) (er j s' e') (by rw [atr]; exact h) (by rw [atr]; exact h')
    omega
  · rcases k with k | k
    · exact apart a k z
    · exact RR.dg a ((fs a).mpr (.inr z)) k
  · rcases z with z | z
    · exact RR.fs_there ((fs a).mpr (.inl z))
    · exact RR.gd a z
/-- .. and come back: the first part by itself, the second one kept -/
theorem Rel.join {as : Env} {vs : St} {ρ : Env} {σ : St} {G : As} (h1 : Rel g (ou (FS H ρ σ) G) [] H as vs) (h2 : Rel g (ou (FS H as vs) G) [] H ρ σ) :
    Rel g G [] H (as ++ ρ) (vs ++ σ) ∧ ∀ a, FS H (as ++ ρ) (vs ++ σ) a ↔ FS H as vs a ∨ FS H ρ σ a := by
  have hl := h1.len
  have atl : ∀ i, i < as.length → at' (vs ++ σ) i = at' vs i := fun i hi => by unfold at'; rw [List.getElem?_append_left (by omega)]
  have atr : ∀ i, at' (vs ++ σ) (as.length + i) = at' σ i := fun i => by unfold at'; rw [hl, List.getElem?_append_right (by omega)]; simp
  have cases' : ∀ i s, (as ++ ρ)[i]? = some s → (i < as.length ∧ as[i]? = some s) ∨ ∃ j, i = as.length + j ∧ ρ[j]? = some s := fun i s e => by
    by_cases hi : i < as.length
    · rw [List.getElem?_append_left hi] at e
      exact .inl ⟨hi, e⟩
    · obtain ⟨j, rfl⟩ : ∃ j, i = as.length + j := ⟨i - as.length, by omega⟩
      rw [List.getElem?_append_right (by omega)] at e
      exact .inr ⟨j, rfl, by simpa using e⟩
  have fs : ∀ a, FS H (as ++ ρ) (vs ++ σ) a ↔ FS H as vs a ∨ FS H ρ σ a := fun a => by
    constructor
    · rintro ⟨i, s, e, h⟩
      rcases cases' i s e with ⟨hi, e1⟩ | ⟨j, rfl, e1⟩
      · rw [atl i hi] at h
        exact .inl ⟨i, s, e1, h⟩
      · rw [atr] at h
        exact .inr ⟨j, s, e1, h⟩
    · rintro (⟨i, s, e, h⟩ | ⟨i, s, e, h⟩)
      · obtain ⟨hi, _⟩ := List.getElem?_eq_some_iff.mp e
        exact ⟨i, s, by rw [List.getElem?_append_left hi]; exact e, by rw [atl i hi]; exact h⟩
      · exact ⟨as.length + i, s, by rw [List.getElem?_append_right (by omega)]; simpa using e, by rw [atr]; exact h⟩
  have apart : ∀ a, FS H as vs a → FS H ρ σ a → False := fun a z k => h1.dg a z (.inl k)
  refine ⟨⟨by rw [List.length_append, List.length_append, hl, h2.len], fun i s e => ?_, fun i j s s' a e e' h h' => ?_, fun a z k => ?_, fun a z => h1.gd a (.inr z), fun i v e => by simp at e⟩, fs⟩
  · rcases cases' i s e with ⟨hi, e1⟩ | ⟨j, rfl, e1⟩
    · rw [atl i hi]
      exact (h1.den i s e1).keep (fun _ _ _ q => q) fun a u q => ⟨q.1, fun z => q.2 (by
        rcases z with z | z
        · rcases (fs a).mp z with z | z
          · exact .inl z
          · exact .inr (.inl z)
        · exact .inr (.inr z))⟩
    · rw [atr]
      exact (h2.den j s e1).keep (fun _ _ _ q => q) fun a u q => ⟨q.1, fun z => q.2 (by
        rcases z with z | z
        · rcases (fs a).mp z with z | z
          · exact .inr (.inl z)
          · exact .inl z
        · exact .inr (.inr z))⟩
  · rcases cases' i s e with ⟨hi, e1⟩ | ⟨i', rfl, e1⟩
    · rw [atl i hi] at h
      rcases cases' j s' e' with ⟨hj, e2⟩ | ⟨j', rfl, e2⟩
      · rw [atl j hj] at h'
        exact h1.dj i j s s' a e1 e2 h h'
      · rw [atr] at h'
        exact (apart a ⟨i, s, e1, h⟩ ⟨j', s', e2, h'⟩).elim
    · rw [atr] at h
      rcases cases' j s' e' with ⟨hj, e2⟩ | ⟨j', rfl, e2⟩
      · rw [atl j hj] at h'
        exact (apart a ⟨j, s', e2, h'⟩ ⟨i', s, e1, h⟩).elim
      · rw [atr] at h'
        rw [h2.dj i' j' s s' a e1 e2 h h']
  · rcases (fs a).mp z with z | z
    · exact h1.dg a z (.inr k)
    · exact h2.dg a z (.inr k)
end

section
variable {g : Gd} {G G' : As} {pv : List V} {H H' : Hp} {ρ ρ' : Env} {σ σ' : St} {v : V} {r s : Sl} {w : Option V}
/-- the heap changes, others own otherwise -/
theorem Rel.move (RR : Rel g G pv H ρ σ) (h1 : ∀ a u, FS H ρ σ a → H a = some u → H' a = some u) (h2 : ∀ a u, AvO H (ou (FS H ρ σ) G) a u → Rd2 H' a u ∧ ¬ G' a)
    (h3 : ∀ a, G' a → ∃ o, H' a = some o) (h4 : ∀ a, FS H ρ σ a → ¬ G' a) : Rel g G' pv H' ρ σ ∧ ∀ a, FS H' ρ σ a → FS H ρ σ a := by
  have fs' : ∀ a, FS H' ρ σ a → FS H ρ σ a := by
    rintro a ⟨j, sj, ej, ha⟩
    exact ⟨j, sj, ej, (RR.den j sj ej).fo_keep (fun b u hb => h1 b u ⟨j, sj, ej, hb⟩) ha⟩
  refine ⟨⟨RR.len, fun j sj ej => ?_, fun j k sj sk a ej ek ha hb => ?_, fun a z => h4 a (fs' a z), h3, RR.pv⟩, fs'⟩
  · refine (RR.den j sj ej).keep (fun b u hb => h1 b u ⟨j, sj, ej, hb⟩) fun a u q => ?_
    obtain ⟨q1, q2⟩ := h2 a u q
    exact ⟨q1, fun z => z.elim (fun z => q.2 (.inl (fs' a z))) q2⟩
  · exact RR.dj j k sj sk a ej ek ((RR.den j sj ej).fo_keep (fun b u hb => h1 b u ⟨j, sj, ej, hb⟩) ha) ((RR.den k sk ek).fo_keep (fun b u hb => h1 b u ⟨k, sk, ek, hb⟩) hb)
theorem OpdsOk.mono {A A' : Av} (k : ∀ a u, A a u → A' a u) : ∀ {es : List E} {os : List (Option T)} {vs : List V}, OpdsOk g A σ es os vs → OpdsOk g A' σ es os vs
  | [], [], [], _ => trivial
  | e :: es, o :: os, v :: vs, h => ⟨h.1.mono k, OpdsOk.mono k h.2⟩
  | [], [], _ :: _, h => h.elim
  | [], _ :: _, _, h => h.elim
  | _ :: _, [], _, h => h.elim
  | _ :: _, _ :: _, [], h => h.elim
/-- the arguments are handed over -/
theorem handed_rel : ∀ {es : List E} {os : List (Option T)} {vs : List V} {ρ : Env} {args : List Sl} {ρ2 : Env} {G : As}, OpdsOk g (AvO H (ou (FS H ρ σ) G)) σ es os vs → handed es os ρ = some (args, ρ2) → Rel g G [] H ρ σ →
    Rel g G [] H (args ++ ρ2) (vs.map some ++ σ) ∧ (∀ a, FS H (args ++ ρ2) (vs.map some ++ σ) a → FS H ρ σ a) ∧ args.length = vs.length
  | [], [], [], ρ, args, ρ2, G, _, h, RR => by
    have h' : some (([] : List Sl), ρ) = some (args, ρ2) := by simpa only [handed] using h
    cases h'
    exact ⟨RR, fun a z => z, rfl⟩
  | e :: es, o :: os, v :: vs, ρ, args, ρ2, G, k, h, RR => by
    have frozen : ∀ t, Den g (AvO H (ou (FS H ρ σ) G)) t v → ∀ q, handed es os ρ = some q → (Sl.sh t :: q.1, q.2) = (args, ρ2) →
        Rel g G [] H (args ++ ρ2) ((v :: vs).map some ++ σ) ∧ (∀ a, FS H (args ++ ρ2) ((v :: vs).map some ++ σ) a → FS H ρ σ a) ∧ args.length = (v :: vs).length := fun t d q hq e1 => by
      obtain ⟨as', ρ2'⟩ := q
      cases e1
      obtain ⟨R1, f1, l1⟩ := handed_rel k.2 hq RR
      have R2 := (Rel2.of_sh R1 (v := v) (Den.mono (fun a u q => ⟨q.1, fun z => q.2 (z.imp (f1 a) id)⟩) _ _ d)).cons
      exact ⟨R2, fun a z => (fs_cons.mp z).elim (fun z => z.elim) (f1 a), by rw [List.length_cons, List.length_cons, l1]⟩
    by_cases he : ∃ i, e = .pk i
    · obtain ⟨i, rfl⟩ := he
      have hv : at' σ i = some v := by unfold at'; rw [show σ[i]? = some (some v) from k.1]; rfl
      have moved : ∀ s, ρ[i]? = some s → ∀ q, handed es os (ρ.set i .un) = some q → (s :: q.1, q.2) = (args, ρ2) →
          Rel g G [] H (args ++ ρ2) ((v :: vs).map some ++ σ) ∧ (∀ a, FS H (args ++ ρ2) ((v :: vs).map some ++ σ) a → FS H ρ σ a) ∧ args.length = (v :: vs).length := fun s hs q hq e1 => by
        obtain ⟨as', ρ2'⟩ := q
        cases e1
        obtain ⟨R2, f1, f2⟩ := RR.take hs hv
        have fos : ∀ a, fo H (some v) s a → FS H ρ σ a := fun a z => ⟨i, s, hs, by rw [hv]; exact z⟩
        obtain ⟨R3, f3, l3⟩ := handed_rel (k.2.mono fun a u q => ⟨q.1, fun z => q.2 (by
          rcases z with z | z | z
          · exact .inl (f1 a z)
          · exact .inl (fos a z)
          · exact .inr z)⟩) hq R2.rel
        have R4 : Rel2 g G [] H (as' ++ ρ2') (vs.map some ++ σ) v s := ⟨R3, R2.den.keep (fun _ _ _ q => q) fun a u q => ⟨q.1, fun z => q.2 (z.imp (f3 a) id)⟩, R2.ng⟩
        exact ⟨R4.cons, fun a z => (fs_cons.mp z).elim (fos a) fun z => f1 a (f3 a z), by rw [List.length_cons, List.length_cons, l3]⟩
      simp only [handed] at h
      cases q : ρ[i]? with
      | none => rw [q] at h; cases h
      | some s =>
        rw [q] at h
        cases s with
        | un => cases h
        | sh t =>
          obtain ⟨q1, hq, e1⟩ := Option.map_eq_some_iff.mp h
          have d := RR.den i _ q
          rw [hv] at d
          obtain ⟨x, ex, d⟩ := d
          cases ex
          exact frozen t d q1 hq e1
        | scr cs =>
          obtain ⟨q1, hq, e1⟩ := Option.map_eq_some_iff.mp h
          have d := RR.den i _ q
          rw [hv] at d
          obtain ⟨as', ρ2'⟩ := q1
          cases e1
          obtain ⟨R1, f1, l1⟩ := handed_rel k.2 hq RR
          have R2 : Rel2 g G [] H (as' ++ ρ2') (vs.map some ++ σ) v (.scr cs) := ⟨R1.weaken fun a z => z.elim (fun z => z.elim) id, d.keep (fun _ _ _ q => q) fun a u q => ⟨q.1, fun z => q.2 (by
            rcases z with z | z | z
            · exact .inl (f1 a z)
            · exact z.elim
            · exact .inr z)⟩, fun a z => z.elim⟩
          exact ⟨R2.cons, fun a z => (fs_cons.mp z).elim (fun z => z.elim) (f1 a), by rw [List.length_cons, List.length_cons, l1]⟩
        | ow t =>
          obtain ⟨q1, hq, e1⟩ := Option.map_eq_some_iff.mp h
          exact moved _ q q1 hq e1
        | rn st cs ix =>
          obtain ⟨q1, hq, e1⟩ := Option.map_eq_some_iff.mp h
          exact moved _ q q1 hq e1
    · have hn : ∀ i, e ≠ .pk i := fun i z => he ⟨i, z⟩
      have k1 : ∃ t, o = some t ∧ Den g (AvO H (ou (FS H ρ σ) G)) t v := by
        have k1 := k.1
        unfold OpdOk at k1
        cases e <;> first | exact k1 | exact absurd rfl (hn _)
      obtain ⟨t, rfl, d⟩ := k1
      have q1 : handed (e :: es) (some t :: os) ρ = (handed es os ρ).map fun p => (.sh t :: p.1, p.2) := by
        cases e <;> first | (simp only [handed]; done) | exact absurd rfl (hn _)
      rw [q1] at h
      obtain ⟨q1, hq, e1⟩ := Option.map_eq_some_iff.mp h
      exact frozen t d q1 hq e1
  | [], [], _ :: _, _, _, _, _, k, _, _ => k.elim
  | [], _ :: _, _, _, _, _, _, k, _, _ => k.elim
  | _ :: _, [], _, _, _, _, _, k, _, _ => k.elim
  | _ :: _, _ :: _, [], _, _, _, _, k, _, _ => k.elim
/-- .. and come back -/
theorem back_rel {A : Av} : ∀ {es : List E} {ots : List (Option T)} {vs : List V} {as os : List Sl} {ρ : Env} {G : As}, OpdsOk g A σ es ots vs → as.length = es.length → Rel g G [] H (os ++ ρ) (vs.map some ++ σ) → os.length = vs.length →
    Rel g G [] H (back es as os ρ) σ ∧ ∀ a, FS H (back es as os ρ) σ a → FS H (os ++ ρ) (vs.map some ++ σ) a
  | [], [], [], as, os, ρ, G, _, hl, RR, ho => by
    have : os = [] := List.length_eq_zero_iff.mp ho
    subst this
    exact ⟨by simpa [back] using RR, fun a z => by simpa [back] using z⟩
  | e :: es, ot :: ots, v :: vs, a :: as, o :: os, ρ, G, k, hl, RR, ho => by
    have ho' : os.length = vs.length := by simpa using ho
    have hl' : as.length = es.length := by simpa using hl
    have drop : Rel g G [] H (back es as os ρ) σ ∧ ∀ a, FS H (back es as os ρ) σ a → FS H ((o :: os) ++ ρ) ((v :: vs).map some ++ σ) a := by
      obtain ⟨R1, f1⟩ := back_rel k.2 hl' (show Rel g G [] H (os ++ ρ) (vs.map some ++ σ) from RR.tail) ho'
      exact ⟨R1, fun a z => fs_cons.mpr (.inr (f1 a z))⟩
    by_cases he : ∃ i, e = .pk i
    · obtain ⟨i, rfl⟩ := he
      have hv : at' σ i = some v := by unfold at'; rw [show σ[i]? = some (some v) from k.1]; rfl
      have put : Rel g G [] H (back es as os (ρ.set i o)) σ ∧ ∀ a, FS H (back es as os (ρ.set i o)) σ a → FS H ((o :: os) ++ ρ) ((v :: vs).map some ++ σ) a := by
        have R2 : Rel2 g G [] H (os ++ ρ) (vs.map some ++ σ) v o := RR.uncons
        have hv' : at' (vs.map some ++ σ) (os.length + i) = some v := by
          unfold at'
          rw [List.getElem?_append_right (by rw [List.length_map]; omega), List.length_map, ho']
          simp only [Nat.add_sub_cancel_left]
          exact hv
        obtain ⟨R3, f3⟩ := R2.put hv'
        rw [List.set_append_right _ _ (by omega), Nat.add_sub_cancel_left] at R3 f3
        obtain ⟨R1, f1⟩ := back_rel k.2 hl' R3 ho'
        exact ⟨R1, fun a z => fs_cons.mpr (f3 a (f1 a z))⟩
      simp only [back]
      cases a with
      | sh t => exact drop
      | scr _ => exact drop
      | un => exact put
      | ow t => exact put
      | rn _ _ _ => exact put
    · have hn : ∀ i, e ≠ .pk i := fun i z => he ⟨i, z⟩
      have q1 : back (e :: es) (a :: as) (o :: os) ρ = back es as os ρ := by
        cases e <;> first | (simp only [back]; done) | exact absurd rfl (hn _)
      rw [q1]
      exact drop
  | [], [], _ :: _, _, _, _, _, k, _, _, _ => k.elim
  | [], _ :: _, _, _, _, _, _, k, _, _, _ => k.elim
  | _ :: _, [], _, _, _, _, _, k, _, _, _ => k.elim
  | _ :: _, _ :: _, [], _, _, _, _, k, _, _, _ => k.elim
  | _ :: _, _ :: _, _ :: _, [], _, _, _, _, hl, _, _ => by simp at hl
  | _ :: _, _ :: _, _ :: _, _ :: _, [], _, _, _, _, _, ho => by simp at ho
end

/-! ### a def's promise, by the evaluator -/
def PostC (g : Gd) (G : As) (H : Hp) (args : Env) (vs : List V) (m : Option (Out × List Sl)) (Q : VK) (E : XK) : Prop :=
  match m with
  | some (.ok r, outs) => ∀ v H', Stp (FS H args (vs.map some)) H (ou (fo H' (some v) r) (FS H' outs (vs.map some))) H' → Rel2 g G [] H' outs (vs.map some) v r → Q v H'
  | some (.ex x, outs) => ∀ cls d H', Stp (FS H args (vs.map some)) H (FS H' outs (vs.map some)) H' → Rel g G [] H' outs (vs.map some) → ExD g (AvO H' (ou (FS H' outs (vs.map some)) G)) x cls d → E cls d H'
  | none => False
def spOf (g : Gd) (n : Nat) (f : List Sl → Option (Out × List Sl)) : Sp := fun vs H Q E => vs.length = n ∧ ∃ (args : Env) (G : As), Rel g G [] H args (vs.map some) ∧ PostC g G H args vs (f args) Q E
section
variable {C : Cfg} {g : Gd} {X : Cx} {e : Expr} {G : As} {pv : List V} {H : Hp} {ρ : Env} {σ : St} {W : WX} {Q : VK}
/-- at the caller: what is due behind the call -/
theorem call_post {f : Nat} {es : List E} {ots : List (Option T)} {vs : List V} (k : OpdsOk g (AvO H (ou (FS H ρ σ) G)) σ es ots vs) (RR : Rel g G pv H ρ σ)
    (h : PostE g G pv H ρ σ ((R.of ρ (handed es ots ρ)).bind fun p _ => match C.call f p.1 with
      | some (.ok r, outs) => .ok r (back es p.1 outs p.2)
      | some (.ex x, outs) => .ex x (back es p.1 outs p.2)
      | none => .bad) Q W) : spOf g es.length (C.call f) vs H Q (fun cls d H' => W cls d σ H') := by
  obtain ⟨l1, l2⟩ := k.length
  refine ⟨l2, ?_⟩
  cases q : handed es ots ρ with
  | none => rw [q] at h; exact h.elim
  | some p =>
    obtain ⟨args, ρ2⟩ := p
    rw [q, R.of_some, R.bind_ok] at h
    obtain ⟨R1, f1, la⟩ := handed_rel k q RR.nopv
    obtain ⟨Ra, Rb, fs⟩ := R1.split (by rw [List.length_map]; exact la)
    refine ⟨args, ou (FS H ρ2 σ) G, Ra, ?_⟩
    -- the rest of the caller's state behind the call
    have rest : ∀ {outs : Env} {H2 : Hp} {F : As}, Stp (FS H args (vs.map some)) H (ou F (FS H2 outs (vs.map some))) H2 → Rel g (ou F (ou (FS H ρ2 σ) G)) [] H2 outs (vs.map some) →
        Rel g (ou F G) [] H2 (back es args outs ρ2) σ ∧ (∀ a, FS H2 (back es args outs ρ2) σ a → FS H2 outs (vs.map some) a ∨ FS H ρ2 σ a) ∧ Stp (FS H ρ σ) H (ou F (FS H2 (back es args outs ρ2) σ)) H2 := fun {outs H2 F} s2 R2 => by
      have notA : ∀ a, FS H ρ2 σ a → ¬ FS H args (vs.map some) a := fun a z z' => Ra.dg a z' (.inl z)
      obtain ⟨R3, f3⟩ := Rb.move (H' := H2) (G' := ou (FS H2 outs (vs.map some)) (ou F G)) (fun a u ha hu => (s2 a u hu (notA a ha)).1) (fun a u qa => by
          obtain ⟨q1, q2⟩ := qa
          have n1 : ¬ FS H args (vs.map some) a := fun z => q2 (.inr (.inl z))
          have n2 : ¬ G a := fun z => q2 (.inr (.inr z))
          rcases q1 with q1 | ⟨ni, o, q1⟩
          · obtain ⟨e1, m1⟩ := s2 a _ q1 n1
            exact ⟨.inl e1, fun z => z.elim (fun z => m1 (.inr z)) fun z => z.elim (fun z => m1 (.inl z)) n2⟩
          · obtain ⟨e1, m1⟩ := s2 a _ q1 n1
            exact ⟨.inr ⟨ni, o, e1⟩, fun z => z.elim (fun z => m1 (.inr z)) fun z => z.elim (fun z => m1 (.inl z)) n2⟩)
        (fun a z => by
          rcases z with z | z | z
          · exact R2.fs_there z
          · exact R2.gd a (.inl z)
          · exact R2.gd a (.inr (.inr z)))
        (fun a ha z => by
          obtain ⟨u, hu⟩ := Rb.fs_there ha
          obtain ⟨e1, m1⟩ := s2 a u hu (notA a ha)
          rcases z with z | z | z
          · exact m1 (.inr z)
          · exact m1 (.inl z)
          · exact Rb.dg a ha (.inr z))
      obtain ⟨R4, fs4⟩ := Rel.join (G := ou F G) (R2.weaken fun a z => by
        rcases z with z | z | z
        · exact .inr (.inl (f3 a z))
        · exact .inl z
        · exact .inr (.inr z)) R3
      obtain ⟨R5, f5⟩ := back_rel k (as := args) (by rw [la, l2]) R4 (by have := R2.len; rw [List.length_map] at this; exact this)
      have f6 : ∀ a, FS H2 (back es args outs ρ2) σ a → FS H2 outs (vs.map some) a ∨ FS H ρ2 σ a := fun a z => ((fs4 a).mp (f5 a z)).imp id (f3 a)
      refine ⟨R5, f6, fun a u hu n => ?_⟩
      have n1 : ¬ FS H args (vs.map some) a := fun z => n (f1 a ((fs a).mpr (.inl z)))
      have n2 : ¬ FS H ρ2 σ a := fun z => n (f1 a ((fs a).mpr (.inr z)))
      obtain ⟨e1, m1⟩ := s2 a u hu n1
      exact ⟨e1, fun z => z.elim (fun z => m1 (.inl z)) fun z => (f6 a z).elim (fun z => m1 (.inr z)) n2⟩
    cases q2 : C.call f args with
    | none => rw [q2] at h; exact h.elim
    | some p =>
      obtain ⟨o, outs⟩ := p
      rw [q2] at h
      cases o with
      | ok r =>
        intro v H2 s2 R2
        obtain ⟨R5, f6, s6⟩ := rest s2 R2.rel
        refine h v H2 s6 ⟨RR.wpv R5, R2.den.keep (fun _ _ _ q => q) fun a u q => ⟨q.1, fun z => q.2 ?_⟩, fun a z k => R2.ng a z (.inr k)⟩
        rcases z with z | z | z
        · rcases f6 a z with z | z
          · exact .inl z
          · exact .inr (.inr (.inl z))
        · exact .inr (.inl z)
        · exact .inr (.inr (.inr z))
      | ex x =>
        intro cls d H2 s2 R2 dx
        have s2' : Stp (FS H args (vs.map some)) H (ou (fun _ => False) (FS H2 outs (vs.map some))) H2 := s2.less fun a z => z.elim (fun z => z.elim) id
        obtain ⟨R5, f6, s6⟩ := rest (F := fun _ => False) s2' (R2.weaken fun a z => z.elim (fun z => z.elim) id)
        have h' : PostX g G pv H ρ σ x (back es args outs ρ2) W := h
        refine h' cls d σ H2 (s6.less fun a z => .inr z) (RR.wpv (R5.weaken fun a z => .inr z)) ⟨dx.1, ?_⟩
        have dx2 := dx.2
        revert dx2
        cases x.f with
        | none => exact fun z => z
        | some p =>
          intro dx2
          obtain ⟨fl, t⟩ := p
          obtain ⟨a, v, e, h1, h2⟩ := dx2
          have kk : ∀ a u, AvO H2 (ou (FS H2 outs (vs.map some)) (ou (FS H ρ2 σ) G)) a u → AvO H2 (ou (FS H2 (back es args outs ρ2) σ) G) a u := fun a u q => ⟨q.1, fun z => q.2 (by
            rcases z with z | z
            · exact (f6 a z).imp id .inl
            · exact .inr (.inr z))⟩
          exact ⟨a, v, e, kk _ _ h1, Den.mono kk _ _ h2⟩
end
/-- the callee runs; what it raises is wished for at the caller's slots -/
theorem run_fnW {X : Cx} {k : Nat} {f : Addr} {fd : FuncData} {ps : List Str} {sp : Sp} {pins : List (Addr × Obj)} {σ : St} {H : Hp} {s : Shared} {Q : VK} {W : WX} {us : List Value} {vs : List V}
    (F : FnOk X.prog X.w X.K X.mg X.base (L2.CX X.prog X.w) k f fd ps sp) (hr : Room k X.A) (hb : Binds X.K fd ps []) (tk : Takes X W) (I : Inv X pins σ H s) (r : Vals vs us)
    (h : sp vs H Q (fun cls d H' => W cls d σ H')) : wpAny (model X.prog X.w) X.A (call (.ref f) us) (EP X pins σ Q) X.xe s := by
  have hl : us.length = ps.length := by rw [← r.length]; exact F.len _ _ _ _ h
  have hb' := hb s us I.kIn (by rw [List.append_nil]; exact hl)
  rw [List.append_nil] at hb'
  refine wpAny_call (codeAny_mono (F.run X.A X.stack s H ⟨us, []⟩ us vs Q _ hr I.env0 hb' r h) fun r s' hq => ?_)
  cases r with
  | error e => exact tk _ _ (XE.of_call I (fun _ _ _ h => h) hq)
  | ok fl =>
    cases fl with
    | ret u => exact I.after hq
    | next => exact False.elim hq
    | brk => exact False.elim hq
    | cont => exact False.elim hq

/-- a def of the module, called by its name -/
structure FnAt (C : Cfg) (g : Gd) (X : Cx) (x : Str) (f n : Nat) : Prop where
  db : (x == ("__debug__" : Str)) = false
  ok : ∃ (a : Addr) (fd : FuncData) (k : Nat) (ps : List Str), X.mg x = some (.ref a) ∧ PySem.W.keepIn X.K (.ref a) = true ∧ FnOk X.prog X.w X.K X.mg X.base (L2.CX X.prog X.w) k a fd ps (spOf g n (C.call f)) ∧ Room k X.A ∧ Binds X.K fd ps []
section
variable {C : Cfg} {g : Gd} {X : Cx}
theorem snd_call {x : Str} {f : Nat} {p pos : Pos} {es : List Expr} {es' : List E} (hg : Gl X x) (F : FnAt C g X x f es'.length) (S : SndOs C g X es es') (hs : es.all notStar = true) :
    SndE C g X (.Call (.Name x p) es [] pos) (.call f es') := by
  obtain ⟨db, a, fd, k, ps, hm, hk, F, hr, hb⟩ := F
  refine ⟨fun G pv H ρ σ Q W hp tk RR h pins s I => ?_⟩
  simp only [ev] at h
  have go : taL X es σ H (fun vs H' => spOf g es'.length (C.call f) vs H' Q (fun cls d H'' => W cls d σ H'')) := by
    refine S.run hp tk RR ?_
    cases q : evOs C es' ρ with
    | bad => rw [q] at h; exact h
    | ex x ρ' => rw [q] at h; exact h
    | ok ots ρ1 =>
      rw [q, R.bind_ok] at h
      intro vs H1 s1 R1 kk
      exact call_post kk R1 (h.after s1)
  refine wpAny_Call_Name_kw (ld_glob I hg hm ?_ db)
  cases es with
  | nil => exact PySem.W.callWith_K0 I.kIn hk (run_fnW (us := []) F hr hb tk I .nil go)
  | cons e es =>
    have hs' := hs
    rw [List.all_cons, Bool.and_eq_true] at hs'
    exact PySem.W.callWith_K (h₀ := X.base) I.ok.mod.kin hk (thn ((pa0 X (e :: es) hs).run pos pins s σ H _ I go) fun us s1 ⟨vs, H1, I1, r, q⟩ => ⟨I1.kIn, run_fnW F hr hb tk I1 r q⟩) (starEach_cons hs'.1) (plain_any hs'.2)
end
end TL

set_option Elab.async false
set_option linter.all false
set_option maxRecDepth 100000
set_option autoImplicit false
/-! TLf: what is walked; comprehensions. -/
namespace TL
open PySem PySem.Spec PyProof.Rows L2

/-- a value at the top, its object frozen or among L -/
def TopK (g : Gd) (A : Av) (H : Hp) (L : As) (t : T) (v : V) : Prop := Den g A t v ∨ ∃ a o, v = .ref a ∧ L a ∧ H a = some o ∧ HoDen g A t o
def TopKL (g : Gd) (A : Av) (H : Hp) (L : As) : List T → List V → Prop
  | [], [] => True
  | t :: ts, v :: vs => TopK g A H L t v ∧ TopKL g A H L ts vs
  | _, _ => False
section
variable {g : Gd} {G : As} {H H' : Hp} {σ σ' : St} {np : Nat}
/-- locked objects: among others' from then on, and back -/
structure Locks (g : Gd) (np : Nat) (H : Hp) (σ : St) (G : As) (ρ ρ2 : Env) (ls : List (Nat × T)) (L : As) : Prop where
  rel : Rel g (ou L G) [] H ρ2 σ
  sub : ∀ a, L a → FS H ρ σ a
  less : ∀ a, FS H ρ2 σ a → FS H ρ σ a
  ng : ∀ a, L a → ¬ G a
  back : ∀ (G' : As) (H' : Hp) (ρ' : Env) (σ' : St), Rel g (ou L G') [] H' ρ' σ' → (∀ a, L a → ¬ G' a) → (∀ a u, L a → H a = some u → H' a = some u) → (∀ i, i < np → at' σ' i = at' σ i) →
    (∀ a u, AvO H (ou (FS H ρ2 σ) (ou L G)) a u → AvO H' (ou (FS H' ρ' σ') (ou L G')) a u) →
    Rel g G' [] H' (unlock ls ρ') σ' ∧ ∀ a, FS H' (unlock ls ρ') σ' a → L a ∨ FS H' ρ' σ' a
theorem lock_rel : ∀ {es : List E} {ρ : Env} {p : List (Nat × T) × Env} {G : As}, lockAll np es ρ = some p → Rel g G [] H ρ σ →
    ∃ L, Locks g np H σ G ρ p.2 p.1 L ∧ ∀ i t v, E.pk i ∈ es → ρ[i]? = some (.ow t) → at' σ i = some v → ∀ a, v = .ref a → L a
  | [], ρ, p, G, h, RR => by
    simp only [lockAll] at h
    cases h
    refine ⟨fun _ => False, ⟨RR.weaken fun a z => z.elim (fun z => z.elim) id, fun a z => z.elim, fun a z => z, fun a z => z.elim, fun G' H' ρ' σ' R' _ _ _ _ => ⟨R'.weaken fun a z => .inr z, fun a z => .inr z⟩⟩, fun i t v hm => by simp at hm⟩
  | e :: es, ρ, p, G, h, RR => by
    by_cases he : ∃ i, e = .pk i
    · obtain ⟨i, rfl⟩ := he
      simp only [lockAll] at h
      cases q : ρ[i]? with
      | none => rw [q] at h; cases h
      | some s =>
        rw [q] at h
        cases s with
        | un => cases h
        | rn _ _ _ => cases h
        | scr _ => cases h
        | sh t =>
          obtain ⟨L, hL, hm⟩ := lock_rel (es := es) h RR
          refine ⟨L, hL, fun j t' v hj ej => ?_⟩
          rcases List.mem_cons.mp hj with z | z
          · cases z; rw [q] at ej; cases ej
          · exact hm j t' v z ej
        | ow t =>
          by_cases hi : i < np
          · simp only [if_pos hi] at h
            obtain ⟨p1, hp1, rfl⟩ := Option.map_eq_some_iff.mp h
            obtain ⟨x, o, hv, ho, d⟩ := RR.den i _ q
            obtain ⟨R2, f1, f2⟩ := RR.take q hv
            obtain ⟨L1, hL, hm⟩ := lock_rel hp1 R2.rel
            have fop : ∀ (K : Hp) a, fo K (some (.ref x)) (.ow t) a ↔ a = x := fun K a => ⟨fun z => by have z' : some (V.ref x) = some (V.ref a) := z; cases z'; rfl, fun z => by subst z; exact rfl⟩
            have hx : FS H ρ σ x := ⟨i, _, q, by rw [hv]; exact rfl⟩
            have xL : ¬ L1 x := fun z => hL.ng x z (.inl ((fop H x).mpr rfl))
            refine ⟨ou L1 (fun a => a = x), ⟨?_, ?_, ?_, ?_, ?_⟩, ?_⟩
            · exact hL.rel.weaken fun a z => by
                rcases z with (z | z) | z
                · exact .inl z
                · exact .inr (.inl ((fop H a).mpr z))
                · exact .inr (.inr z)
            · intro a z
              rcases z with z | z
              · exact f1 a (hL.sub a z)
              · rw [show a = x from z]; exact hx
            · exact fun a z => f1 a (hL.less a z)
            · intro a z k
              rcases z with z | z
              · exact hL.ng a z (.inr k)
              · rw [show a = x from z] at k; exact RR.dg x hx k
            · intro G' H' ρ' σ' R' dj kp ats av
              have hxL : ou L1 (fun a => a = x) x := .inr rfl
              obtain ⟨R3, f3⟩ := hL.back (ou (fo H' (some (.ref x)) (.ow t)) G') H' ρ' σ'
                (R'.weaken fun a z => by
                  rcases z with z | z | z
                  · exact .inl (.inl z)
                  · exact .inl (.inr ((fop H' a).mp z))
                  · exact .inr z)
                (fun a z k => by
                  rcases k with k | k
                  · rw [(fop H' a).mp k] at z; exact xL z
                  · exact dj a (.inl z) k)
                (fun a u z => kp a u (.inl z)) ats
                (fun a u w => by
                  obtain ⟨w1, w2⟩ := w
                  obtain ⟨y1, y2⟩ := av a u ⟨w1, fun z => w2 (by
                    rcases z with z | (z | z) | z
                    · exact .inl z
                    · exact .inr (.inl z)
                    · exact .inr (.inr (.inl ((fop H a).mpr z)))
                    · exact .inr (.inr (.inr z)))⟩
                  exact ⟨y1, fun z => y2 (by
                    rcases z with z | z | z | z
                    · exact .inl z
                    · exact .inr (.inl (.inl z))
                    · exact .inr (.inl (.inr ((fop H' a).mp z)))
                    · exact .inr (.inr z))⟩)
              have R4 : Rel2 g G' [] H' (unlock p1.1 ρ') σ' (.ref x) (.ow t) := by
                refine ⟨R3, R2.den.keep (fun a u z hu => ?_) (fun a u w => ?_), fun a z => ?_⟩
                · rw [(fop H a).mp z] at hu ⊢
                  exact kp x u hxL hu
                · obtain ⟨w1, w2⟩ := w
                  obtain ⟨y1, y2⟩ := av a u ⟨w1, fun z => w2 (by
                    rcases z with z | (z | z) | z
                    · exact .inl (hL.less a z)
                    · exact .inl (hL.sub a z)
                    · exact .inr (.inl ((fop H a).mpr z))
                    · exact .inr (.inr z))⟩
                  exact ⟨y1, fun z => y2 (by
                    rcases z with z | z | z
                    · rcases f3 a z with z | z
                      · exact .inr (.inl (.inl z))
                      · exact .inl z
                    · exact .inr (.inl (.inr ((fop H' a).mp z)))
                    · exact .inr (.inr z))⟩
                · rw [(fop H' a).mp z]; exact dj x hxL
              obtain ⟨R5, f5⟩ := R4.put (i := i) (by rw [ats i hi]; exact hv)
              refine ⟨R5, fun a z => ?_⟩
              rcases f5 a z with z | z
              · exact .inl (.inr ((fop H' a).mp z))
              · exact (f3 a z).imp .inl id
            · intro j t' v hj ej hvj a ea
              rcases List.mem_cons.mp hj with z | z
              · cases z
                rw [hv] at hvj; cases hvj; cases ea
                exact .inr rfl
              · by_cases hji : j = i
                · subst hji
                  rw [hv] at hvj; cases hvj; cases ea
                  exact .inr rfl
                · exact .inl (hm j t' v z (by rw [List.getElem?_set_ne (Ne.symm hji)]; exact ej) hvj a ea)
          · simp only [if_neg hi] at h
            cases h
    · have hn : ∀ i, e ≠ .pk i := fun i z => he ⟨i, z⟩
      have q1 : lockAll np (e :: es) ρ = lockAll np es ρ := by
        cases e <;> first | (simp only [lockAll]; done) | exact absurd rfl (hn _)
      rw [q1] at h
      obtain ⟨L, hL, hm⟩ := lock_rel (es := es) h RR
      refine ⟨L, hL, fun j t v hj ej => ?_⟩
      rcases List.mem_cons.mp hj with z | z
      · exact absurd z.symm (hn j)
      · exact hm j t v z ej
/-- the operands while they are locked -/
theorem resolve_topK {ρ : Env} {L : As} {Av' : Av} (RR : Rel g G [] H ρ σ) (k : ∀ a u, AvO H (ou (FS H ρ σ) G) a u → Av' a u) :
    ∀ {es : List E} {os : List (Option T)} {vs : List V} {ts : List T}, (∀ i t v, E.pk i ∈ es → ρ[i]? = some (.ow t) → at' σ i = some v → ∀ a, v = .ref a → L a) →
    OpdsOk g (AvO H (ou (FS H ρ σ) G)) σ es os vs → resolve es os ρ = some ts → TopKL g Av' H L ts vs
  | [], [], [], ts, _, _, h => by
    have h' : ts = [] := by simpa [resolve] using h.symm
    subst h'; trivial
  | e :: es, o :: os, v :: vs, ts, hl, kk, h => by
    have hl' : ∀ i t v, E.pk i ∈ es → ρ[i]? = some (.ow t) → at' σ i = some v → ∀ a, v = .ref a → L a := fun i t v hm => hl i t v (List.mem_cons_of_mem _ hm)
    by_cases he : ∃ i, e = .pk i
    · obtain ⟨i, rfl⟩ := he
      simp only [resolve] at h
      cases q : peekT ρ i with
      | none => rw [q] at h; cases h
      | some t =>
        rw [q, Option.bind_some] at h
        cases q2 : resolve es os ρ with
        | none => rw [q2] at h; cases h
        | some ts' =>
          rw [q2] at h
          cases h
          refine ⟨?_, resolve_topK RR k hl' kk.2 q2⟩
          have hv : σ[i]? = some (some v) := kk.1
          have hat : at' σ i = some v := by unfold at'; rw [hv]; rfl
          unfold peekT at q
          cases e : ρ[i]? with
          | none => rw [e] at q; cases q
          | some s =>
            rw [e] at q
            have d := RR.den i s e
            rw [hat] at d
            cases s with
            | un => cases q
            | rn _ _ _ => cases q
            | scr _ => cases q
            | sh t' =>
              cases q
              obtain ⟨x, e1, d⟩ := d
              cases e1
              exact .inl (Den.mono k _ _ d)
            | ow t' =>
              cases q
              obtain ⟨a, o, e1, h1, d⟩ := d
              cases e1
              exact .inr ⟨a, o, rfl, hl i _ _ List.mem_cons_self e hat a rfl, h1, d.mono k⟩
    · have hn : ∀ i, e ≠ .pk i := fun i z => he ⟨i, z⟩
      have k1 : ∃ t, o = some t ∧ Den g (AvO H (ou (FS H ρ σ) G)) t v := by
        have k1 := kk.1
        unfold OpdOk at k1
        cases e <;> first | exact k1 | exact absurd rfl (hn _)
      obtain ⟨t, rfl, d⟩ := k1
      have q1 : resolve (e :: es) (some t :: os) ρ = (resolve es os ρ).map (t :: ·) := by
        cases e <;> first | (simp only [resolve]; done) | exact absurd rfl (hn _)
      rw [q1] at h
      cases q2 : resolve es os ρ with
      | none => rw [q2] at h; cases h
      | some ts' =>
        rw [q2] at h
        cases h
        exact ⟨.inl (Den.mono k _ _ d), resolve_topK RR k hl' kk.2 q2⟩
  | [], [], _ :: _, _, _, h, _ => h.elim
  | [], _ :: _, _, _, _, h, _ => h.elim
  | _ :: _, [], _, _, _, h, _ => h.elim
  | _ :: _, _ :: _, [], _, _, h, _ => h.elim
end

/-! ### what is walked -/
/-- J walks ts while Pr holds; L: locked objects -/
structure Wk (g : Gd) (L : As) (J : It) (ts : List T) (Pr : Av → Hp → Prop) : Prop where
  keep : ∀ (A A' : Av) (H H' : Hp), Pr A H → (∀ a u, A a u → A' a u) → (∀ a u, L a → H a = some u → H' a = some u) → Pr A' H'
  go : ∀ (A : Av) (H : Hp) (i : Nat), (∀ a u, A a u → Rd2 H a u) → Pr A H → i < ts.length → J.go i H
  yld : ∀ (A : Av) (H : Hp) (i : Nat) (x : V) (H' : Hp), (∀ a u, A a u → Rd2 H a u) → Pr A H → i < ts.length → J.yld i H x H' → ∃ t, ts[i]? = some t ∧ BiRes g A H (.sh t) x H'
  stop : ∀ (A : Av) (H : Hp) (i : Nat), (∀ a u, A a u → Rd2 H a u) → Pr A H → ts.length ≤ i → J.stop i H
def wi0 (X : Cx) (tg iter : Expr) : TI := fun σ H R => ∀ pins s, Inv X pins σ H s → wpAny (model X.prog X.w) X.A (eval iter X.env) (fun v s1 => wpAny (model X.prog X.w) X.A (pyIter v) (PIE X pins σ tg R) X.xe s1) X.xe s
theorem pi0 (X : Cx) (tg iter : Expr) : PI X tg iter (wi0 X tg iter) := ⟨fun pins s σ H R I h => h pins s I⟩
/-- what is asked of the operands' values by a kind of walk -/
def ItRd (K : PySem.W.Frag) (k : ItK) (vs : List V) (H : Hp) (Q : It → Hp → Prop) : Prop :=
  match k with
  | .seq => ∃ a, vs = [.ref a] ∧ ((∃ xs, SqL K H a xs ∧ Q (Itl K a) H) ∨ (∃ xs, SqT K H a xs ∧ Q (Itt K a) H))
  | .range1 => ∃ j : Int, vs = [.int j] ∧ -(2 ^ 62) ≤ j ∧ j < 2 ^ 62 ∧ Q (Itr 0 j.toNat) H
  | .range2 => ∃ i j : Int, vs = [.int i, .int j] ∧ (-(2 ^ 62) ≤ i ∧ i < 2 ^ 62 ∧ -(2 ^ 62) ≤ j ∧ j < 2 ^ 62) ∧ Q (Itr i (j - i).toNat) H
  | _ => False
structure ItSnd (X : Cx) (tg iter : Expr) (k : ItK) (es : List Expr) : Prop where
  run : ∀ (σ : St) (H : Hp) (Q : It → Hp → Prop), taL X es σ H (fun vs H1 => ItRd X.K k vs H1 Q) → wi0 X tg iter σ H Q
  fold : ∀ x, foldedSetIterable iter X.env x = pure x
theorem range_get {lo : Int} {n i : Nat} (h : i < n) : (rangeT lo n)[i]? = some (.int (lo + i)) := by
  unfold rangeT
  rw [List.getElem?_map, List.getElem?_range h]
  rfl
theorem range_len {lo : Int} {n : Nat} : (rangeT lo n).length = n := by simp [rangeT]
theorem wk_list {g : Gd} {L : As} {a : Addr} {xs : List V} {ts : List T} : Wk g L (Itl g.K a) ts (fun A H => (A a (.lst xs) ∨ (L a ∧ H a = some (.lst xs))) ∧ DenL g A ts xs) := by
  have sq : ∀ (A : Av) (H : Hp), (∀ a u, A a u → Rd2 H a u) → (A a (.lst xs) ∨ (L a ∧ H a = some (.lst xs))) → SqL g.K H a xs := fun A H hA h => by
    rcases h with h | h
    · exact .inl (hA _ _ h).rd
    · exact SqL.of h.2
  refine ⟨fun A A' H H' h k kl => ⟨?_, DenL.mono k _ _ h.2⟩, fun A H i hA h hi => ?_, fun A H i x H' hA h hi y => ?_, fun A H i hA h hi => ?_⟩
  · rcases h.1 with h | h
    · exact .inl (k _ _ h)
    · exact .inr ⟨h.1, kl _ _ h.1 h.2⟩
  · have hl := h.2.length
    exact ⟨xs, xs[i]'(by omega), sq A H hA h.1, by simp⟩
  · obtain ⟨e, y⟩ := y
    subst e
    have hx := y xs (sq A _ hA h.1)
    have hl := h.2.length
    obtain ⟨hlt, _⟩ := List.getElem?_eq_some_iff.mp hx
    obtain ⟨v, hv, d⟩ := h.2.get (List.getElem?_eq_getElem (l := ts) (i := i) (by omega))
    rw [hx] at hv; cases hv
    exact ⟨_, List.getElem?_eq_getElem (by omega), .inl ⟨fun _ _ z => z, _, rfl, d⟩⟩
  · have hl := h.2.length
    exact ⟨xs, sq A H hA h.1, by omega⟩
theorem wk_tup {g : Gd} {L : As} {a : Addr} {xs : List V} {ts : List T} : Wk g L (Itt g.K a) ts (fun A H => (A a (.tup xs) ∨ KT g.K a xs) ∧ DenL g A ts xs) := by
  have sq : ∀ (A : Av) (H : Hp), (∀ a u, A a u → Rd2 H a u) → (A a (.tup xs) ∨ KT g.K a xs) → SqT g.K H a xs := fun A H hA h => by
    rcases h with h | h
    · exact .inl (hA _ _ h).rd
    · exact h.sq
  refine ⟨fun A A' H H' h k kl => ⟨h.1.imp (k _ _) id, DenL.mono k _ _ h.2⟩, fun A H i hA h hi => ?_, fun A H i x H' hA h hi y => ?_, fun A H i hA h hi => ?_⟩
  · have hl := h.2.length
    exact ⟨xs, xs[i]'(by omega), sq A H hA h.1, by simp⟩
  · obtain ⟨e, y⟩ := y
    subst e
    have hx := y xs (sq A _ hA h.1)
    have hl := h.2.length
    obtain ⟨hlt, _⟩ := List.getElem?_eq_some_iff.mp hx
    obtain ⟨v, hv, d⟩ := h.2.get (List.getElem?_eq_getElem (l := ts) (i := i) (by omega))
    rw [hx] at hv; cases hv
    exact ⟨_, List.getElem?_eq_getElem (by omega), .inl ⟨fun _ _ z => z, _, rfl, d⟩⟩
  · have hl := h.2.length
    exact ⟨xs, sq A H hA h.1, by omega⟩
theorem wk_range {g : Gd} {L : As} {lo : Int} {n : Nat} : Wk g L (Itr lo n) (rangeT lo n) (fun _ _ => True) := by
  refine ⟨fun _ _ _ _ _ _ _ => trivial, fun A H i _ _ hi => by rw [range_len] at hi; exact hi, fun A H i x H' _ _ hi y => ?_, fun A H i _ _ hi => by rw [range_len] at hi; exact hi⟩
  obtain ⟨e1, e2⟩ := y
  subst e1; subst e2
  rw [range_len] at hi
  exact ⟨_, range_get hi, .inl ⟨fun _ _ z => z, _, rfl, by simp [Den]⟩⟩
theorem TopKL.one {g : Gd} {A : Av} {H : Hp} {L : As} {t : T} {vs : List V} (h : TopKL g A H L [t] vs) : ∃ v, vs = [v] ∧ TopK g A H L t v := by
  match vs, h with
  | [v], h => exact ⟨v, rfl, h.1⟩
theorem TopKL.two {g : Gd} {A : Av} {H : Hp} {L : As} {t u : T} {vs : List V} (h : TopKL g A H L [t, u] vs) : ∃ v w, vs = [v, w] ∧ TopK g A H L t v ∧ TopK g A H L u w := by
  match vs, h with
  | [v, w], h => exact ⟨v, w, rfl, h.1, h.2.1⟩
theorem TopK.int {g : Gd} {A : Av} {H : Hp} {L : As} {i : Int} {v : V} (h : TopK g A H L (.int i) v) : v = .int i := by
  rcases h with h | ⟨_, _, _, _, _, h⟩
  · simpa only [Den] using h
  · exact h.elim
theorem lo63_iff {i : Int} (h : lo63 i = true) : -(2 ^ 62) ≤ i ∧ i < 2 ^ 62 := by
  unfold lo63 at h
  rw [Bool.and_eq_true] at h
  exact ⟨of_decide_eq_true h.1, of_decide_eq_true h.2⟩
theorem it_ok {g : Gd} {A : Av} {H : Hp} {L : As} {k : ItK} {us : List T} {vs : List V} {ts : List T} (hA : ∀ a u, A a u → Rd2 H a u) (h : TopKL g A H L us vs) (e : itT k us = some ts) :
    ∃ J Pr, Wk g L J ts Pr ∧ Pr A H ∧ ∀ Q : It → Hp → Prop, Q J H → ItRd g.K k vs H Q := by
  unfold itT at e
  split at e
  · -- a list
    cases e
    obtain ⟨v, rfl, h⟩ := h.one
    rcases h with h | ⟨a, o, rfl, hL, ho, h⟩
    · simp only [Den] at h
      obtain ⟨a, xs, rfl, r, d⟩ := h
      refine ⟨_, _, wk_list (a := a) (xs := xs), ⟨.inl r, d⟩, fun Q q => ⟨a, rfl, .inl ⟨xs, .inl (hA _ _ r).rd, q⟩⟩⟩
    · obtain ⟨xs, rfl, d⟩ := h
      exact ⟨_, _, wk_list (a := a) (xs := xs), ⟨.inr ⟨hL, ho⟩, d⟩, fun Q q => ⟨a, rfl, .inl ⟨xs, SqL.of ho, q⟩⟩⟩
  · cases e
    obtain ⟨v, rfl, h⟩ := h.one
    rcases h with h | ⟨a, o, rfl, hL, ho, h⟩
    · simp only [Den] at h
      obtain ⟨a, xs, rfl, r, d⟩ := h
      refine ⟨_, _, wk_tup (a := a) (xs := xs), ⟨r, d⟩, fun Q q => ⟨a, rfl, .inr ⟨xs, ?_, q⟩⟩⟩
      rcases r with r | r
      · exact .inl (hA _ _ r).rd
      · exact r.sq
    · exact h.elim
  · rename_i j
    obtain ⟨v, rfl, h2⟩ := h.one
    have hv := h2.int
    subst hv
    by_cases hl : lo63 j = true
    · rw [if_pos hl] at e
      cases e
      obtain ⟨h1, h2⟩ := lo63_iff hl
      exact ⟨_, _, wk_range, trivial, fun Q q => ⟨j, rfl, h1, h2, q⟩⟩
    · rw [if_neg hl] at e; cases e
  · rename_i i j
    obtain ⟨v, w, rfl, hv, hw⟩ := h.two
    have hv := hv.int
    have hw := hw.int
    subst hv; subst hw
    by_cases hl : (lo63 i && lo63 j) = true
    · rw [if_pos hl] at e
      cases e
      rw [Bool.and_eq_true] at hl
      obtain ⟨h1, h2⟩ := lo63_iff hl.1
      obtain ⟨h3, h4⟩ := lo63_iff hl.2
      exact ⟨_, _, wk_range, trivial, fun Q q => ⟨i, j, rfl, ⟨h1, h2, h3, h4⟩, q⟩⟩
    · rw [if_neg hl] at e; cases e
  · cases e
end TL

set_option Elab.async false
set_option linter.all false
set_option maxRecDepth 100000
set_option autoImplicit false
/-! TLg: list comprehensions. -/
namespace TL
open PySem PySem.Spec PyProof.Rows L2

theorem AvO.sub {H : Hp} {O O' : As} (h : ∀ a, O' a → O a) : ∀ a u, AvO H O a u → AvO H O' a u := fun a u q => ⟨q.1, fun z => q.2 (h a z)⟩
section
variable {g : Gd} {G : As} {pv : List V} {H H' : Hp} {ρ ρ' : Env} {σ σ' : St} {v : V} {r : Sl}
/-- the objects in hand, whatever the heap -/
def FD (D : Addr) : As := fun a => some (V.ref D) = some (V.ref a)
theorem fd_iff {D a : Addr} : FD D a ↔ a = D := ⟨fun z => by cases z; rfl, fun z => by subst z; rfl⟩
theorem Rel2.storeUn (R2 : Rel2 g G pv H ρ σ v r) {i : Nat} (hi : pv.length ≤ i) (w : Option V) : Rel2 g G pv H (ρ.set i .un) (σ.set i w) v r ∧ ∀ a, FS H (ρ.set i .un) (σ.set i w) a → FS H ρ σ a := by
  obtain ⟨R1, f1⟩ := R2.rel.store (i := i) hi w
  exact ⟨⟨R1, R2.den.keep (fun _ _ _ q => q) (AvO.sub fun a z => z.imp (f1 a) id), R2.ng⟩, f1⟩
theorem set_at {σ : St} {i : Nat} (h : i < σ.length) : (σ.set i none).set i (at' σ i) = σ := by
  rw [List.set_set]
  unfold at'
  apply List.ext_getElem?
  intro j
  by_cases e : i = j
  · subst e
    rw [List.getElem?_set_self h, List.getElem?_eq_getElem h]; rfl
  · rw [List.getElem?_set_ne e]
/-- the object in hand is written -/
theorem Rel2.write {D : Addr} {t t' : T} {o' : HO} (R2 : Rel2 g G pv H ρ σ (.ref D) (.ow t)) (d : HoDen g (AvO H (ou (FS H ρ σ) (ou (FD D) G))) t' o') :
    Rel2 g G pv (upd H D o') ρ σ (.ref D) (.ow t') ∧ ∀ a, FS (upd H D o') ρ σ a → FS H ρ σ a := by
  have nF : ∀ a, FS H ρ σ a → a ≠ D := fun a z e => R2.rel.dg a z (.inl (fd_iff.mpr e))
  obtain ⟨R1, f1⟩ := R2.rel.move (H' := upd H D o') (G' := ou (FD D) G) (fun a u ha hu => by rw [upd_ne (nF a ha)]; exact hu) (fun a u q => by
      have nD : a ≠ D := fun e => q.2 (.inr (.inl (fd_iff.mpr e)))
      refine ⟨?_, fun z => q.2 (.inr z)⟩
      rcases q.1 with q | ⟨n, o, q⟩
      · exact .inl (by rw [upd_ne nD]; exact q)
      · exact .inr ⟨n, o, by rw [upd_ne nD]; exact q⟩) (fun a z => by
      by_cases e : a = D
      · subst e; exact ⟨o', upd_same⟩
      · obtain ⟨o, h⟩ := R2.rel.gd a z
        exact ⟨o, by rw [upd_ne e]; exact h⟩) R2.rel.dg
  refine ⟨⟨R1, ⟨D, o', rfl, upd_same, d.mono fun a u q => ?_⟩, R2.ng⟩, f1⟩
  have nD : a ≠ D := fun e => q.2 (.inr (.inl (fd_iff.mpr e)))
  refine ⟨?_, fun z => q.2 (z.imp (f1 a) id)⟩
  rcases q.1 with q | ⟨n, o, q⟩
  · exact .inl (by rw [upd_ne nD]; exact q)
  · exact .inr ⟨n, o, by rw [upd_ne nD]; exact q⟩
end
theorem noEx_ok {α : Type} {m : R α} {a : α} {ρ : Env} (h : noEx m = .ok a ρ) : m = .ok a ρ := by
  cases m <;> first | exact h | cases h
section
variable {C : Cfg} {g : Gd} {X : Cx}
abbrev Cx.in (X : Cx) (scope : Scope) (s : Shared) (H : Hp) (c : Addr) (cl : List (Str × Addr)) (fp : List Addr) : Cx := X.blk s H scope (compEnvC scope cl c X.env) fp
def teIn (X : Cx) (scope : Scope) (e : Expr) : TE := fun σ H Q => ∀ s H0 c cl fp, te0 (Cx.in X scope s H0 c cl fp) e σ H Q
def ttIn (X : Cx) (scope : Scope) (ifs : List Expr) : TT := match ifs with
  | [] => tYes
  | [c] => fun σ H Q => ∀ s H0 k cl fp, tt0 (Cx.in X scope s H0 k cl fp) c σ H Q
  | _ => fun _ _ _ => False
def CondIn (C : Cfg) (g : Gd) (X : Cx) (scope : Scope) : List Expr → Option E → Prop
  | [], none => True
  | [c], some c' => ∀ s H0 k cl fp, SndT C g (Cx.in X scope s H0 k cl fp) c c'
  | _, _ => False
theorem pts_in {scope : Scope} {ifs : List Expr} {cond' : Option E} (h : CondIn C g X scope ifs cond') (s : Shared) (H0 : Hp) (k : Addr) (cl : List (Str × Addr)) (fp : List Addr) : PTs (Cx.in X scope s H0 k cl fp) ifs (ttIn X scope ifs) := by
  match ifs, cond', h with
  | [], none, _ => exact pts_nil
  | [c], some c', _ => exact pts_one ⟨fun pins s1 σ H Q I h => h s H0 k cl fp pins s1 I⟩
theorem takes_no {X : Cx} : Takes X (fun _ _ _ _ => False) := fun _ _ ⟨_, _, _, _, _, _, _, _, _, _, _, _, _, _, _, _, w⟩ => w.elim
theorem cond_in {scope : Scope} {ifs : List Expr} {cond' : Option E} (h : CondIn C g X scope ifs cond') {G : As} {pv : List V} {H : Hp} {ρ ρa : Env} {σ : St} {b : Bool} {Q : Bool → Hp → Prop} (hp : pv.length = C.np) (RR : Rel g G pv H ρ σ) (e : evC C cond' ρ = .ok b ρa)
    (hq : ∀ H', Stp (FS H ρ σ) H (FS H' ρa σ) H' → Rel g G pv H' ρa σ → Q b H') : ttIn X scope ifs σ H Q := by
  match ifs, cond', h with
  | [], none, _ =>
    simp only [evC] at e
    cases e
    exact hq H Stp.refl RR
  | [c], some c', h =>
    intro s H0 k cl fp
    refine (h s H0 k cl fp).run G pv H ρ σ Q _ hp takes_no RR ?_
    simp only [evC] at e
    rw [e]
    exact hq
theorem snd_lc {elt iter : Expr} {x : Str} {xp pos : Pos} {ifs : List Expr} {scope : Scope} {i : Nat} {es : List Expr} {os : List E} {k : ItK} {elt' : E} {cond' : Option E}
    (hc : X.calm = true) (hN : X.N.Nodup) (hK : g.K = X.K) (hit : ItSnd X (.Name x xp) iter k es) (S : SndOs C g X es os) (ok : BlkOk X.N X.env.scope scope [(x, i)])
    (hg : ∀ s H c cl fp, PG (Cx.in X scope s H c cl fp) (.Name x xp) (gName i)) (hcnd : CondIn C g X scope ifs cond') (helt : ∀ s H c cl fp, SndE C g (Cx.in X scope s H c cl fp) elt elt') :
    ∀ (G : As) (pv : List V) (H : Hp) (ρ : Env) (σ : St) (Q : VK) (W : WX), pv.length = C.np → Takes X W → Rel g G pv H ρ σ → PostE g G pv H ρ σ (ev C (.lc elt' i k os cond') ρ) Q W →
      tLc (wi0 X (.Name x xp) iter) (gName i) (ttIn X scope ifs) (teIn X scope elt) [i] σ H Q := by
  intro G pv H ρ σ Q W hp tk RR h
  simp only [ev] at h
  refine hit.run σ H _ (S.run hp tk RR ?_)
  cases q : evOs C os ρ with
  | bad => rw [q] at h; exact h
  | ex x ρ' => rw [q] at h; exact h
  | ok ots ρ1 =>
  rw [q, R.bind_ok] at h
  intro vs H1 s1 R1 kk
  cases q1 : resolve os ots ρ1 with
  | none => rw [q1] at h; exact h.elim
  | some us =>
  rw [q1, Option.bind_some] at h
  cases q2 : itT k us with
  | none => rw [q2] at h; exact h.elim
  | some ts =>
  rw [q2, R.of_some, R.bind_ok] at h
  by_cases hi : C.np ≤ i ∧ i < ρ1.length
  case neg => rw [if_neg hi] at h; exact h.elim
  rw [if_pos hi] at h
  cases q3 : lockAll C.np os ρ1 with
  | none => rw [q3] at h; exact h.elim
  | some p =>
  rw [q3, R.of_some, R.bind_ok] at h
  cases q4 : noEx (lcL i (fun ρ => evC C cond' ρ) (fun ρ => (ev C elt' ρ).bind fun s ρ => R.of ρ (frz s)) ts [] (p.2.set i .un)) with
  | bad => rw [q4] at h; exact h.elim
  | ex x ρ' => exact absurd q4 (by cases (lcL i (fun ρ => evC C cond' ρ) (fun ρ => (ev C elt' ρ).bind fun s ρ => R.of ρ (frz s)) ts [] (p.2.set i .un)) <;> simp [noEx])
  | ok ys ρ' =>
  rw [q4, R.bind_ok] at h
  have q5 := noEx_ok q4
  have hpi : pv.length ≤ i := by omega
  obtain ⟨L, LK, hm⟩ := lock_rel q3 R1.nopv
  have lessO : ∀ a, ou (FS H1 p.2 σ) (ou L G) a → ou (FS H1 ρ1 σ) G a := fun a z => by
    rcases z with z | z | z
    · exact .inl (LK.less a z)
    · exact .inl (LK.sub a z)
    · exact .inr z
  have tops := resolve_topK (L := L) R1.nopv (AvO.sub lessO) hm kk q1
  obtain ⟨J, Pr, wk, pr0, hrd⟩ := it_ok (fun a u z => z.1) tops q2
  rw [← hK]
  refine hrd _ ?_
  intro D hD
  have LD : ∀ a, L a → a ≠ D := fun a z e => by
    obtain ⟨o, ho⟩ := R1.fs_there (LK.sub a z)
    rw [e, hD] at ho; cases ho
  have RL : Rel g (ou L G) pv H1 p.2 σ := R1.wpv LK.rel
  generalize hσb : σ.set i none = σb
  -- the invariant
  refine ⟨fun j m H2 => ∃ (acc : List T) (ρ2 : Env), m = ts.length - j ∧ j ≤ ts.length ∧
      lcL i (fun ρ => evC C cond' ρ) (fun ρ => (ev C elt' ρ).bind fun s ρ => R.of ρ (frz s)) (ts.drop j) acc ρ2 = .ok ys ρ' ∧ Rel2 g (ou L G) pv H2 ρ2 σb (.ref D) (.ow (.lst acc)) ∧
      Stp (FS H1 p.2 σ) H1 (ou (FD D) (FS H2 ρ2 σb)) H2 ∧ Pr (AvO H2 (ou (FS H2 ρ2 σb) (ou (FD D) (ou L G)))) H2, ⟨ts.length, [], p.2.set i .un, by simp, Nat.zero_le _, q5, ?_⟩, ?_⟩
  · -- the start
    have bb : BiRes g (AvO H1 (ou (FS H1 p.2 σ) (ou L G))) H1 (.ow (.lst [])) (.ref D) (upd H1 D (.lst [])) := .inr ⟨D, _, hD, rfl, rfl, .inl ⟨_, rfl, [], rfl, DenL.nil⟩⟩
    obtain ⟨s2, R2⟩ := bb.rel RL
    obtain ⟨R3, f3⟩ := R2.storeUn hpi none
    rw [hσb] at R3 f3
    have s3 : Stp (FS H1 p.2 σ) H1 (ou (FD D) (FS (upd H1 D (.lst [])) (p.2.set i .un) σb)) (upd H1 D (.lst [])) := s2.less fun a z => z.imp id (f3 a)
    refine ⟨R3, s3, wk.keep _ _ _ _ pr0 (fun a u z => ?_) (fun a u hl hu => by rw [upd_ne (LD a hl)]; exact hu)⟩
    have z' := s3.av (G := ou L G) a u z
    exact AvO.sub (fun a z => by
      rcases z with z | z | z
      · exact .inl (.inr z)
      · exact .inl (.inl z)
      · exact .inr z) a u z'
  · rintro j m H2 ⟨acc, ρ2, hm2, hj, hL2, R2, s2, pr2⟩
    have hA2 : ∀ a u, AvO H2 (ou (FS H2 ρ2 σb) (ou (FD D) (ou L G))) a u → Rd2 H2 a u := fun a u z => z.1
    by_cases hlt : j < ts.length
    case neg =>
      -- the end
      have ej : j = ts.length := by omega
      subst ej
      rw [List.drop_length] at hL2
      simp only [lcL] at hL2
      cases hL2
      refine .inl ⟨wk.stop _ H2 _ hA2 pr2 (Nat.le_refl _), ?_⟩
      obtain ⟨R3, f3⟩ := R2.storeUn hpi (at' σ i)
      have hlen : i < σ.length := by rw [← R1.len]; exact hi.2
      rw [← hσb, set_at hlen] at R3 f3
      rw [hσb] at f3
      obtain ⟨R4, f4⟩ := LK.back (ou (FD D) G) H2 (ρ'.set i .un) σ (R3.rel.nopv.weaken fun a z => by
          rcases z with z | z | z
          · exact .inr (.inl z)
          · exact .inl z
          · exact .inr (.inr z))
        (fun a z k => by
          rcases k with k | k
          · exact LD a z (fd_iff.mp k)
          · exact LK.ng a z k)
        (fun a u z hu => (s2 a u hu fun y => LK.rel.dg a y (.inl z)).1) (fun _ _ => rfl)
        (fun a u z => by
          have z' := s2.av (G := ou L G) a u z
          exact AvO.sub (fun a z => by
            rcases z with z | z | z | z
            · exact .inl (.inr (f3 a z))
            · exact .inr (.inl z)
            · exact .inl (.inl z)
            · exact .inr (.inr z)) a u z')
      refine h (.ref D) H2 (s1.trans fun a u hu n => ?_) ⟨R1.wpv R4, R3.den.keep (fun _ _ _ q => q) (AvO.sub fun a z => ?_), fun a z k => R3.ng a z (.inr k)⟩
      · obtain ⟨e1, n1⟩ := s2 a u hu fun z => n (LK.less a z)
        refine ⟨e1, fun z => ?_⟩
        rcases z with z | z
        · exact n1 (.inl z)
        · rcases f4 a z with z | z
          · exact n (LK.sub a z)
          · exact n1 (.inr (f3 a z))
      · rcases z with z | z | z
        · rcases f4 a z with z | z
          · exact .inr (.inr (.inl z))
          · exact .inl z
        · exact .inr (.inl z)
        · exact .inr (.inr (.inr z))
    case pos =>
      refine .inr ⟨wk.go _ H2 _ hA2 pr2 hlt, fun H' => ∃ (acc : List T) (ρ2 : Env), ts.length - (j + 1) = ts.length - (j + 1) ∧ j + 1 ≤ ts.length ∧
        lcL i (fun ρ => evC C cond' ρ) (fun ρ => (ev C elt' ρ).bind fun s ρ => R.of ρ (frz s)) (ts.drop (j + 1)) acc ρ2 = .ok ys ρ' ∧ Rel2 g (ou L G) pv H' ρ2 σb (.ref D) (.ow (.lst acc)) ∧
        Stp (FS H1 p.2 σ) H1 (ou (FD D) (FS H' ρ2 σb)) H' ∧ Pr (AvO H' (ou (FS H' ρ2 σb) (ou (FD D) (ou L G)))) H', fun H' h' => ⟨ts.length - (j + 1), by omega, h'⟩, fun x0 H3 y => ?_⟩
      obtain ⟨t, ht, bb⟩ := wk.yld _ H2 j x0 H3 hA2 pr2 hlt y
      rw [List.drop_eq_getElem_cons hlt] at hL2
      have et : ts[j] = t := by rw [List.getElem?_eq_getElem hlt] at ht; exact Option.some.inj ht
      rw [et] at hL2
      simp only [lcL] at hL2
      obtain ⟨s3, R3⟩ := bb.rel R2.rel
      have hl2 : i < ρ2.length := by
        have a1 := R2.rel.len
        rw [← hσb, List.length_set, ← R1.len] at a1
        rw [a1]; exact hi.2
      obtain ⟨R4, f4⟩ := R3.store hpi hl2
      have s4 : Stp (FS H2 ρ2 σb) H2 (FS H3 (ρ2.set i (.sh t)) (σb.set i (some x0))) H3 := s3.less fun a z => f4 a z
      have wσ : wipe σ [i] = σb := hσb
      show wipe ((wipe σ [i]).set i (some x0)) [i] = wipe σ [i] ∧ _
      rw [wσ]
      have wb : (σb.set i (some x0)).set i none = σb := by rw [← hσb, List.set_set, List.set_set]
      refine ⟨wb, ?_⟩
      -- the turn's end
      have fin : ∀ {H6 : Hp} {ρb : Env} {acc' : List T}, lcL i (fun ρ => evC C cond' ρ) (fun ρ => (ev C elt' ρ).bind fun s ρ => R.of ρ (frz s)) (ts.drop (j + 1)) acc' (ρb.set i .un) = .ok ys ρ' →
          Rel2 g (ou L G) pv H6 ρb (σb.set i (some x0)) (.ref D) (.ow (.lst acc')) → Stp (ou (FD D) (FS H2 ρ2 σb)) H2 (ou (FD D) (FS H6 ρb (σb.set i (some x0)))) H6 →
          ∃ (acc : List T) (ρ2 : Env), ts.length - (j + 1) = ts.length - (j + 1) ∧ j + 1 ≤ ts.length ∧
            lcL i (fun ρ => evC C cond' ρ) (fun ρ => (ev C elt' ρ).bind fun s ρ => R.of ρ (frz s)) (ts.drop (j + 1)) acc ρ2 = .ok ys ρ' ∧ Rel2 g (ou L G) pv H6 ρ2 σb (.ref D) (.ow (.lst acc)) ∧
            Stp (FS H1 p.2 σ) H1 (ou (FD D) (FS H6 ρ2 σb)) H6 ∧ Pr (AvO H6 (ou (FS H6 ρ2 σb) (ou (FD D) (ou L G)))) H6 := fun {H6 ρb acc'} e6 R6 s6 => by
        obtain ⟨R7, f7⟩ := R6.storeUn hpi none
        rw [wb] at R7 f7
        have s7 : Stp (ou (FD D) (FS H2 ρ2 σb)) H2 (ou (FD D) (FS H6 (ρb.set i .un) σb)) H6 := s6.less fun a z => z.imp id (f7 a)
        refine ⟨acc', ρb.set i .un, rfl, hlt, e6, R7, s2.trans s7, wk.keep _ _ _ _ pr2 (fun a u z => ?_) (fun a u hl hu => (s7 a u hu fun z => ?_).1)⟩
        · have z' := s7.av (G := ou L G) a u (AvO.sub (fun a z => by
            rcases z with (z | z) | z
            · exact .inr (.inl z)
            · exact .inl z
            · exact .inr (.inr z)) a u z)
          exact AvO.sub (fun a z => by
            rcases z with z | z | z
            · exact .inl (.inr z)
            · exact .inl (.inl z)
            · exact .inr z) a u z'
        · rcases z with z | z
          · exact LD a hl (fd_iff.mp z)
          · exact R2.rel.dg a z (.inr (.inl hl))
      cases qc : evC C cond' (ρ2.set i (.sh t)) with
      | bad => rw [qc] at hL2; cases hL2
      | ex x ρ' => rw [qc] at hL2; cases hL2
      | ok b ρa =>
      rw [qc, R.bind_ok] at hL2
      refine cond_in hcnd hp R4 qc fun H4 s5 R5 => ?_
      cases b with
      | false =>
        rw [if_neg (by decide)] at hL2 ⊢
        have st : Stp (FS H2 ρ2 σb) H2 (FS H4 ρa (σb.set i (some x0))) H4 := s4.trans s5
        exact fin hL2 (R2.keep st R5).1 st.with
      | true =>
        rw [if_pos rfl] at hL2 ⊢
        intro s0 H0 c cl fp
        cases qe : ((ev C elt' ρa).bind fun s ρ => R.of ρ (frz s)) with
        | bad => rw [qe] at hL2; cases hL2
        | ex x ρ' => rw [qe] at hL2; cases hL2
        | ok w ρb =>
        rw [qe, R.bind_ok] at hL2
        by_cases hz : acc.length < line
        case neg => rw [if_neg hz] at hL2; cases hL2
        rw [if_pos hz] at hL2
        refine (helt s0 H0 c cl fp).tree hp takes_no R5 ?_
        rw [qe]
        intro yv H5 s6 R6 d6
        have st : Stp (FS H2 ρ2 σb) H2 (FS H5 ρb (σb.set i (some x0))) H5 := (s4.trans s5).trans s6
        obtain ⟨RD, _⟩ := R2.keep st R6
        obtain ⟨D', o, eD, hD5, xs, eo, dl⟩ := RD.den
        cases eD
        subst eo
        refine ⟨xs, hD5, by rw [← dl.length]; exact hz, ?_⟩
        obtain ⟨RW, fW⟩ := RD.write (t' := .lst (acc ++ [w])) (o' := .lst (xs ++ [yv])) ⟨_, rfl, dl.append (DenL.cons d6 DenL.nil)⟩
        refine fin hL2 RW fun a u hu n => ?_
        obtain ⟨e1, n1⟩ := (st.with (F := FD D)) a u hu n
        refine ⟨by rw [upd_ne fun e => n1 (.inl (fd_iff.mpr e))]; exact e1, fun z => n1 (z.imp id (fW a))⟩
end
end TL

set_option Elab.async false
set_option linter.all false
set_option maxRecDepth 100000
set_option autoImplicit false
/-! TLh: statements. -/
namespace TL
open PySem PySem.Spec PyProof.Rows L2

def ts0 (X : Cx) (st : Stmt) : TS := fun D σ H => ∀ pins s, Inv X pins σ H s → wpAny (model X.prog X.w) X.A (exec st X.env) (SP X pins D) X.xe s
def tss0 (X : Cx) (sts : List Stmt) : TS := fun D σ H => ∀ pins s, Inv X pins σ H s → wpAny (model X.prog X.w) X.A (execs sts X.env) (SP X pins D) X.xe s
def tg0 (X : Cx) (tg : Expr) : TG := fun v σ H Q => ∀ pins s u, Inv X pins σ H s → RelV v u → wpAny (model X.prog X.w) X.A (assign tg X.env u) (fun _ s' => ∃ σ' H', Inv X pins σ' H' s' ∧ Q σ' H') X.xe s
theorem ps0 (X : Cx) (st : Stmt) : PS X st (ts0 X st) := ⟨fun pins s σ H D I h => h pins s I⟩
theorem pss0 (X : Cx) (st : List Stmt) : PSs X st (tss0 X st) := ⟨fun pins s σ H D I h => h pins s I⟩
theorem pg0 (X : Cx) (tg : Expr) : PG X tg (tg0 X tg) := ⟨fun pins s σ H v u Q I r h => h pins s u I r⟩
section
variable {X : Cx} {st : Stmt} {sts : List Stmt} {σ : St} {H : Hp} {D : Ends}
theorem ts0_of {t : TS} (h : PS X st t) (q : t D σ H) : ts0 X st D σ H := fun pins s I => h.run pins s σ H D I q
theorem tss0_of {t : TS} (h : PSs X sts t) (q : t D σ H) : tss0 X sts D σ H := fun pins s I => h.run pins s σ H D I q
theorem tg0_of {tg : Expr} {t : TG} {v : V} {Q : St → Hp → Prop} (h : PG X tg t) (q : t v σ H Q) : tg0 X tg v σ H Q := fun pins s u I r => h.run pins s σ H v u Q I r q
theorem tg0_mono {tg : Expr} {v : V} {Q Q' : St → Hp → Prop} (h : tg0 X tg v σ H Q) (hq : ∀ σ' H', Q σ' H' → Q' σ' H') : tg0 X tg v σ H Q' := fun pins s u I r =>
  thn (h pins s u I r) fun _ s' ⟨σ', H', I', q⟩ => ⟨σ', H', I', hq _ _ q⟩
end
def PostS (g : Gd) (G : As) (pv : List V) (H : Hp) (ρ : Env) (σ : St) (m : R Fl) (D : Ends) (W : WX) : Prop :=
  match m with
  | .ok .nx ρ' => ∀ σ' H', Stp (FS H ρ σ) H (FS H' ρ' σ') H' → Rel g G pv H' ρ' σ' → D.nx σ' H'
  | .ok .bk ρ' => ∀ σ' H', Stp (FS H ρ σ) H (FS H' ρ' σ') H' → Rel g G pv H' ρ' σ' → D.bk σ' H'
  | .ok .ct ρ' => ∀ σ' H', Stp (FS H ρ σ) H (FS H' ρ' σ') H' → Rel g G pv H' ρ' σ' → D.ct σ' H'
  | .ok (.ret r) ρ' => ∀ v σ' H', Stp (FS H ρ σ) H (ou (fo H' (some v) r) (FS H' ρ' σ')) H' → Rel2 g G pv H' ρ' σ' v r → D.rt v H'
  | .ex x ρ' => PostX g G pv H ρ σ x ρ' W
  | .bad => False
/-- behind a store of the value v (r) -/
def PostG (g : Gd) (G : As) (pv : List V) (H : Hp) (ρ : Env) (σ : St) (v : V) (r : Sl) (m : R Unit) (Q : St → Hp → Prop) (W : WX) : Prop :=
  match m with
  | .ok () ρ' => ∀ σ' H', Stp (ou (fo H (some v) r) (FS H ρ σ)) H (FS H' ρ' σ') H' → Rel g G pv H' ρ' σ' → Q σ' H'
  | .ex x ρ' => ∀ cls d σ' H', Stp (ou (fo H (some v) r) (FS H ρ σ)) H (FS H' ρ' σ') H' → Rel g G pv H' ρ' σ' → ExD g (AvO H' (ou (FS H' ρ' σ') G)) x cls d → W cls d σ' H'
  | .bad => False
structure SndS (C : Cfg) (g : Gd) (X : Cx) (st : Stmt) (st' : S) : Prop where
  run : ∀ (G : As) (pv : List V) (H : Hp) (ρ : Env) (σ : St) (D : Ends) (W : WX), pv.length = C.np → Takes X W → Rel g G pv H ρ σ → PostS g G pv H ρ σ (evS C st' ρ) D W → ts0 X st D σ H
structure SndSs (C : Cfg) (g : Gd) (X : Cx) (sts : List Stmt) (sts' : List S) : Prop where
  run : ∀ (G : As) (pv : List V) (H : Hp) (ρ : Env) (σ : St) (D : Ends) (W : WX), pv.length = C.np → Takes X W → Rel g G pv H ρ σ → PostS g G pv H ρ σ (evSs C sts' ρ) D W → tss0 X sts D σ H
structure SndG (C : Cfg) (g : Gd) (X : Cx) (tg : Expr) (tg' : Tg) : Prop where
  run : ∀ (G : As) (pv : List V) (H : Hp) (ρ : Env) (σ : St) (v : V) (r : Sl) (Q : St → Hp → Prop) (W : WX), pv.length = C.np → Takes X W → Rel2 g G pv H ρ σ v r → PostG g G pv H ρ σ v r (asgT C tg' r ρ) Q W → tg0 X tg v σ H Q
section
variable {C : Cfg} {g : Gd} {X : Cx} {G : As} {pv : List V} {H H1 : Hp} {ρ ρ1 : Env} {σ σ1 : St} {W : WX} {D : Ends} {e : Expr} {e' : E} {pos : Pos} {st : Stmt} {st' : S} {sts : List Stmt} {sts' : List S}
theorem PostS.after {m : R Fl} (h : PostS g G pv H ρ σ m D W) (s : Stp (FS H ρ σ) H (FS H1 ρ1 σ1) H1) : PostS g G pv H1 ρ1 σ1 m D W := by
  cases m with
  | bad => exact h
  | ex x ρ' => exact PostX.after (h : PostX g G pv H ρ σ x ρ' W) s fun _ z => z
  | ok f ρ' =>
    cases f with
    | nx => exact fun σ' H' s' R' => h σ' H' (s.trans s') R'
    | bk => exact fun σ' H' s' R' => h σ' H' (s.trans s') R'
    | ct => exact fun σ' H' s' R' => h σ' H' (s.trans s') R'
    | ret r => exact fun v σ' H' s' R' => h v σ' H' (s.trans s') R'
/-! ### blocks -/
theorem sndSs_nil : SndSs C g X [] [] := ⟨fun G pv H ρ σ D W hp tk RR h => tss0_of pss_nil (by
  simp only [evSs] at h
  exact h σ H Stp.refl RR)⟩
theorem sndSs_cons (h1 : SndS C g X st st') (h2 : SndSs C g X sts sts') : SndSs C g X (st :: sts) (st' :: sts') := by
  refine ⟨fun G pv H ρ σ D W hp tk RR h => tss0_of (pss_cons (ps0 X st) (pss0 X sts)) ?_⟩
  simp only [evSs] at h
  refine h1.run G pv H ρ σ _ W hp tk RR ?_
  cases q : evS C st' ρ with
  | bad => rw [q] at h; exact h
  | ex x ρ' => rw [q] at h; exact h
  | ok f ρ1 =>
    rw [q, R.bind_ok] at h
    cases f with
    | nx => exact fun σ1 H1 s1 R1 => h2.run G pv H1 ρ1 σ1 D W hp tk R1 (PostS.after h s1)
    | bk => exact h
    | ct => exact h
    | ret r => exact h
/-! ### small statements -/
theorem sndS_pass : SndS C g X (.Pass pos) .pass := ⟨fun G pv H ρ σ D W hp tk RR h => ts0_of ps_pass (by simp only [evS] at h; exact h σ H Stp.refl RR)⟩
theorem sndS_brk : SndS C g X (.Break pos) .brk := ⟨fun G pv H ρ σ D W hp tk RR h => ts0_of ps_break (by simp only [evS] at h; exact h σ H Stp.refl RR)⟩
theorem sndS_cont : SndS C g X (.Continue pos) .cont := ⟨fun G pv H ρ σ D W hp tk RR h => ts0_of ps_continue (by simp only [evS] at h; exact h σ H Stp.refl RR)⟩
theorem sndS_retN : SndS C g X (.Return none pos) (.ret none) := ⟨fun G pv H ρ σ D W hp tk RR h => ts0_of ps_retN (by
  simp only [evS] at h
  exact h .non σ H (Stp.refl.less fun a z => z.elim (fun z => z.elim) id) (Rel2.of_sh RR (by simp only [Den])))⟩
theorem sndS_ret (S : SndE C g X e e') : SndS C g X (.Return (some e) pos) (.ret (some e')) := by
  refine ⟨fun G pv H ρ σ D W hp tk RR h => ts0_of (ps_ret (pe0 X e)) ?_⟩
  simp only [evS] at h
  refine S.run G pv H ρ σ _ W hp tk RR ?_
  cases q : ev C e' ρ with
  | bad => rw [q] at h; exact h
  | ex x ρ' => rw [q] at h; exact h
  | ok r ρ1 =>
    rw [q, R.bind_ok] at h
    exact fun v H1 s R2 => h v σ H1 s R2
/-- no comprehension -/
def noComp : Expr → Bool
  | .ListComp .. => false
  | .SetComp .. => false
  | .DictComp .. => false
  | _ => true
theorem noComp_swaps {t : Option Expr} {l : Nat} {env : PySem.Env} (h : noComp e = true) : swapsWith e t l env = pure false := by
  cases e <;> first | rfl | (simp [noComp] at h)
theorem sndS_ex (S : SndE C g X e e') (hn : noComp e = true) : SndS C g X (.Expr e pos) (.ex e') := by
  refine ⟨fun G pv H ρ σ D W hp tk RR h => ts0_of (ps_expr (pe0 X e) (noComp_swaps hn)) ?_⟩
  simp only [evS] at h
  refine S.run G pv H ρ σ _ W hp tk RR ?_
  cases q : ev C e' ρ with
  | bad => rw [q] at h; exact h
  | ex x ρ' => rw [q] at h; exact h
  | ok r ρ1 =>
    rw [q, R.bind_ok] at h
    exact fun v H1 s R2 => h σ H1 (s.less fun a z => .inr z) (R2.rel.weaken fun a z => .inr z)
theorem SndT.stmt {a : Expr} {a' : E} (S : SndT C g X a a') {Q2 : Bool → Hp → Prop} (f : Bool → Env → R Fl) (hp : pv.length = C.np) (tk : Takes X W) (RR : Rel g G pv H ρ σ)
    (k : PostS g G pv H ρ σ ((ev C a' ρ).bind fun s ρ => (R.of ρ (asB s)).bind f) D W)
    (h : ∀ c ρ1 H1, Stp (FS H ρ σ) H (FS H1 ρ1 σ) H1 → Rel g G pv H1 ρ1 σ → PostS g G pv H ρ σ (f c ρ1) D W → Q2 c H1) : tt0 X a σ H Q2 := by
  rw [bindB] at k
  refine S.run G pv H ρ σ Q2 W hp tk RR ?_
  cases q : (ev C a' ρ).bind fun s ρ => R.of ρ (asB s) with
  | bad => rw [q] at k; exact k.elim
  | ex x ρ' => rw [q] at k; exact k
  | ok c ρ1 =>
    rw [q, R.bind_ok] at k
    exact fun H1 s R1 => h c ρ1 H1 s R1 k
theorem sndS_ite {c : Expr} {c' : E} {a b : List Stmt} {a' b' : List S} (hc : SndT C g X c c') (ha : SndSs C g X a a') (hb : SndSs C g X b b') : SndS C g X (.If c a b pos) (.ite c' a' b') := by
  refine ⟨fun G pv H ρ σ D W hp tk RR h => ts0_of (ps_if (pt0 X c) (pss0 X a) (pss0 X b)) ?_⟩
  simp only [evS] at h
  refine hc.stmt _ hp tk RR h fun c ρ1 H1 s R1 k1 => ?_
  cases c with
  | true => exact if_true_of rfl (ha.run G pv H1 ρ1 σ D W hp tk R1 (k1.after s))
  | false => exact if_false_of rfl (hb.run G pv H1 ρ1 σ D W hp tk R1 (k1.after s))
/-! ### targets -/
theorem sndG_v {x : Str} {i : Nat} (hN : X.N.Nodup) (hi : X.N[i]? = some x) (hx : Loc X.env.scope x) (hf : X.fn x = true ∨ X.env.scope.names.lookup x = some .local) : SndG C g X (.Name x pos) (.v i) := by
  refine ⟨fun G pv H ρ σ v r Q W hp tk R2 h => tg0_of (pg_name hN hi hx hf) ?_⟩
  simp only [asgT] at h
  unfold setS at h
  by_cases c : C.np ≤ i ∧ i < ρ.length
  · rw [if_pos c] at h
    obtain ⟨R3, f3⟩ := R2.store (i := i) (by omega) c.2
    exact h _ H (Stp.refl.less f3) R3
  · rw [if_neg c] at h; exact h.elim
inductive SndGs (C : Cfg) (g : Gd) (X : Cx) : List Expr → List Tg → Prop
  | nil : SndGs C g X [] []
  | cons {e : Expr} {e' : Tg} {es : List Expr} {es' : List Tg} (h : SndG C g X e e') (r : SndGs C g X es es') : SndGs C g X (e :: es) (e' :: es')
theorem SndGs.length {es : List Expr} {es' : List Tg} (S : SndGs C g X es es') : es.length = es'.length := by
  induction S with
  | nil => rfl
  | cons _ _ ih => rw [List.length_cons, List.length_cons, ih]
def tgs0 (X : Cx) : List Expr → TGs
  | [] => gNil
  | e :: es => gCons (tg0 X e) (tgs0 X es)
theorem assignEach_cons {e : Expr} {es : List Expr} {env : PySem.Env} (h : notStar e = true) : assignEach (e :: es) env = (false, assign e env) :: assignEach es env := by
  cases e <;> first | rfl | (simp [notStar] at h)
theorem pgs0 (X : Cx) : ∀ es : List Expr, es.all notStar = true → PGs X es (tgs0 X es)
  | [], _ => pgs_nil
  | e :: es, h => by
    rw [List.all_cons, Bool.and_eq_true] at h
    exact pgs_cons (pg0 X e) (pgs0 X es h.2) (by rw [assignEach_cons h.1]; rfl)
theorem assignEach_plain {es : List Expr} {env : PySem.Env} (h : es.all notStar = true) : (assignEach es env).length = es.length ∧ (assignEach es env).findIdx? (·.1) = none := by
  induction es with
  | nil => exact ⟨rfl, rfl⟩
  | cons e es ih =>
    rw [List.all_cons, Bool.and_eq_true] at h
    obtain ⟨h1, h2⟩ := ih h.2
    rw [assignEach_cons h.1]
    refine ⟨by rw [List.length_cons, List.length_cons, h1], ?_⟩
    rw [List.findIdx?_cons, h2]; rfl
theorem SndGs.run {es : List Expr} {gs : List Tg} (S : SndGs C g X es gs) : ∀ {H : Hp} {ρ : Env} {σ : St} {ts : List T} {vs : List V} {Q : St → Hp → Prop}, pv.length = C.np → Takes X W → Rel g G pv H ρ σ →
    DenL g (AvO H (ou (FS H ρ σ) G)) ts vs → PostG g G pv H ρ σ .non .un (asgTs C gs ts ρ) Q W → tgs0 X es vs σ H Q := by
  have ou_un' : ∀ {H : Hp} {ρ : Env} {σ : St}, ou (fo H (some .non) .un) (FS H ρ σ) = FS H ρ σ := fun {H ρ σ} => ou_un
  have ou_sh' : ∀ {H : Hp} {ρ : Env} {σ : St} {v : V} {t : T}, ou (fo H (some v) (.sh t)) (FS H ρ σ) = FS H ρ σ := fun {H ρ σ v t} => ou_sh
  induction S with
  | nil =>
    intro H ρ σ ts vs Q hp tk RR d h
    cases ts with
    | cons t ts => simp only [asgTs] at h; exact h.elim
    | nil =>
      simp only [asgTs] at h
      simp only [DenL] at d
      refine ⟨d, h σ H ?_ RR⟩
      rw [ou_un']; exact Stp.refl
  | @cons e e' es es' h1 r ih =>
    intro H ρ σ ts vs Q hp tk RR d h
    cases ts with
    | nil => simp only [asgTs] at h; exact h.elim
    | cons t ts =>
      simp only [asgTs] at h
      simp only [DenL] at d
      obtain ⟨v, ws, rfl, d1, d2⟩ := d
      refine ⟨v, ws, rfl, h1.run G pv H ρ σ v (.sh t) _ W hp tk (Rel2.of_sh RR d1) ?_⟩
      cases q : asgT C e' (.sh t) ρ with
      | bad => rw [q] at h; exact h.elim
      | ex x ρ' =>
        rw [q] at h
        intro cls d σ' H' s' R' dx
        rw [ou_sh'] at s'
        exact h cls d σ' H' (by rw [ou_un']; exact s') R' dx
      | ok u ρ1 =>
        rw [q, R.bind_ok] at h
        intro σ1 H1 s1 R1
        rw [ou_sh'] at s1
        refine ih hp tk R1 (DenL.mono s1.av _ _ d2) ?_
        cases q2 : asgTs C es' ts ρ1 with
        | bad => rw [q2] at h; exact h.elim
        | ex x ρ' =>
          rw [q2] at h
          intro cls d σ' H' s' R' dx
          rw [ou_un'] at s'
          exact h cls d σ' H' (by rw [ou_un']; exact s1.trans s') R' dx
        | ok u ρ2 =>
          rw [q2] at h
          intro σ2 H2 s2 R2
          rw [ou_un'] at s2
          exact h σ2 H2 (by rw [ou_un']; exact s1.trans s2) R2
theorem sndG_tup {es : List Expr} {gs : List Tg} {k : Nat} (hc : X.calm = true) (hK : g.K = X.K) (S : SndGs C g X es gs) (hs : es.all notStar = true) : SndG C g X (.Tuple es k pos) (.tup gs) := by
  refine ⟨fun G pv H ρ σ v r Q W hp tk R2 h => tg0_of (pg_tup hc (pgs0 X es hs) (assignEach_plain hs).1 (assignEach_plain hs).2) ?_⟩
  simp only [asgT] at h
  cases q : frz r with
  | none => rw [q] at h; exact h.elim
  | some t =>
    rw [q] at h
    cases t with
    | tup ts =>
      by_cases hl : ts.length = gs.length
      · simp only [if_pos hl] at h
        obtain ⟨R1, d⟩ := R2.freeze q
        simp only [Den] at d
        obtain ⟨a, xs, rfl, r1, d⟩ := d
        have sq : SqT X.K H a xs := by
          rcases r1 with r1 | r1
          · exact .inl r1.1.rd
          · rw [← hK]; exact r1.sq
        refine ⟨a, xs, rfl, sq, by rw [← d.length, hl, S.length], S.run hp tk R1 d ?_⟩
        cases q2 : asgTs C gs ts ρ with
        | bad => rw [q2] at h; exact h.elim
        | ex x ρ' =>
          rw [q2] at h
          intro cls d σ' H' s' R' dx
          refine h cls d σ' H' (fun b u e n => ?_) R' dx
          exact s' b u e fun z => z.elim (fun z => z.elim) fun z => n (.inr z)
        | ok u ρ2 =>
          rw [q2] at h
          intro σ' H' s' R'
          refine h σ' H' (fun b u e n => ?_) R'
          exact s' b u e fun z => z.elim (fun z => z.elim) fun z => n (.inr z)
      · simp only [if_neg hl] at h; exact h.elim
    | _ => exact h.elim
/-! ### assignments -/
theorem evS_asg {g' : Tg} : evS C (.asg g' e') ρ = (ev C e' ρ).bind fun s ρ => (asgT C g' s ρ).bind fun _ ρ => .ok .nx ρ := by simp only [evS]
/-- the value, then the store -/
theorem asg_post {tg : Expr} {g' : Tg} {te : TE} (SG : SndG C g X tg g') (hp : pv.length = C.np) (tk : Takes X W) (h : PostS g G pv H ρ σ (evS C (.asg g' e') ρ) D W)
    (he : ∀ Q, PostE g G pv H ρ σ (ev C e' ρ) Q W → te σ H Q) : tAsg te (tg0 X tg) D σ H := by
  rw [evS_asg] at h
  refine he _ ?_
  cases q : ev C e' ρ with
  | bad => rw [q] at h; exact h
  | ex x ρ' => rw [q] at h; exact h
  | ok r ρ1 =>
    rw [q, R.bind_ok] at h
    intro v H1 s1 R2
    refine SG.run G pv H1 ρ1 σ v r _ W hp tk R2 ?_
    cases q2 : asgT C g' r ρ1 with
    | bad => rw [q2] at h; exact h.elim
    | ex x ρ' =>
      rw [q2] at h
      exact fun cls d σ' H' s' R' dx => (h : PostX g G pv H ρ σ x ρ' W) cls d σ' H' (s1.trans s') R' dx
    | ok u ρ2 =>
      rw [q2] at h
      exact fun σ' H' s' R' => h σ' H' (s1.trans s') R'
theorem sole_swaps {tg : Expr} {l : Nat} {env : PySem.Env} (h : noComp e = true) : swapsWithSole [tg] e l env = pure false := noComp_swaps h
theorem assign_one {tg : Expr} {env : PySem.Env} (h : notStar tg = true) : (assignEach [tg] env).map (·.2) = [assign tg env] := by
  rw [assignEach_cons h]; rfl
theorem sndS_asg {tg : Expr} {g' : Tg} (S : SndE C g X e e') (SG : SndG C g X tg g') (hn : noComp e = true) (hs : notStar tg = true) (hw : swappedStores [tg] e X.env = pure none) : SndS C g X (.Assign [tg] e pos) (.asg g' e') :=
  ⟨fun G pv H ρ σ D W hp tk RR h => ts0_of (ps_asg (pe0 X e) (pg0 X tg) (sole_swaps hn) hw (assign_one hs)) (asg_post SG hp tk h fun Q k => S.run G pv H ρ σ Q W hp tk RR k)⟩
end
end TL

set_option Elab.async false
set_option linter.all false
set_option maxRecDepth 100000
set_option autoImplicit false
/-! TLi: for, while, several targets at once. -/
namespace TL
open PySem PySem.Spec PyProof.Rows L2
section
variable {C : Cfg} {g : Gd} {X : Cx} {G : As} {pv : List V} {H H1 H2 : Hp} {ρ ρ1 ρ' : Env} {σ σ1 σ2 : St} {W : WX} {D : Ends} {e : Expr} {e' : E} {pos : Pos}
/-- what was locked comes back: the state -/
theorem Locks.out {np : Nat} {ρ1 ρ2 : Env} {ls : List (Nat × T)} {L : As} (LK : Locks g np H1 σ G ρ1 ρ2 ls L) (hnp : pv.length = np) (R1 : Rel g G pv H1 ρ1 σ) {G' : As} (hG : ∀ a, L a → ¬ G' a) (R2 : Rel g (ou L G') pv H2 ρ' σ2)
    {F : As} (hF : ∀ a, G' a ↔ F a ∨ G a) (s : Stp (FS H1 ρ2 σ) H1 (ou F (FS H2 ρ' σ2)) H2) :
    Rel g G' pv H2 (unlock ls ρ') σ2 ∧ (∀ a, FS H2 (unlock ls ρ') σ2 a → L a ∨ FS H2 ρ' σ2 a) ∧ Stp (FS H1 ρ1 σ) H1 (ou F (FS H2 (unlock ls ρ') σ2)) H2 := by
  obtain ⟨R3, f3⟩ := LK.back G' H2 ρ' σ2 R2.nopv hG (fun a u z hu => (s a u hu fun y => LK.rel.dg a y (.inl z)).1)
    (fun i hi => by
      have e1 := R1.pv i (pv[i]'(by omega)) (by rw [List.getElem?_eq_getElem])
      have e2 := R2.pv i (pv[i]'(by omega)) (by rw [List.getElem?_eq_getElem])
      unfold at'; rw [e1, e2])
    (fun a u z => by
      have z' := s.av (G := ou L G) a u z
      exact AvO.sub (fun a z => by
        rcases z with z | z | z
        · exact .inl (.inr z)
        · exact .inr (.inl z)
        · rcases (hF a).mp z with z | z
          · exact .inl (.inl z)
          · exact .inr (.inr z)) a u z')
  refine ⟨R2.wpv R3, f3, fun a u hu n => ?_⟩
  obtain ⟨e1, n1⟩ := s a u hu fun z => n (LK.less a z)
  refine ⟨e1, fun z => ?_⟩
  rcases z with z | z
  · exact n1 (.inl z)
  · rcases f3 a z with z | z
    · exact n (LK.sub a z)
    · exact n1 (.inr z)
theorem ou_no {G : As} : ou (fun _ => False) G = G := by
  funext a; unfold ou; exact propext ⟨fun h => h.elim (fun z => z.elim) id, .inr⟩
/-- a loop's end -/
theorem PostS.out {np : Nat} {ρ2 : Env} {ls : List (Nat × T)} {L : As} {mr : R Fl} (LK : Locks g np H1 σ G ρ1 ρ2 ls L) (hnp : pv.length = np) (R1 : Rel g G pv H1 ρ1 σ) (h : PostS g G pv H1 ρ1 σ (reFl ls mr) D W) {Hs : Hp} {ρs : Env} {σs : St}
    (s0 : Stp (FS H1 ρ2 σ) H1 (FS Hs ρs σs) Hs) : PostS g (ou L G) pv Hs ρs σs mr D W := by
  have end_ : ∀ {σ' : St} {H' : Hp} {ρ' : Env}, Stp (FS Hs ρs σs) Hs (FS H' ρ' σ') H' → Rel g (ou L G) pv H' ρ' σ' → Stp (FS H1 ρ1 σ) H1 (FS H' (unlock ls ρ') σ') H' ∧ Rel g G pv H' (unlock ls ρ') σ' ∧ ∀ a, FS H' (unlock ls ρ') σ' a → L a ∨ FS H' ρ' σ' a := fun {σ' H' ρ'} s R' => by
    obtain ⟨R3, f3, s3⟩ := LK.out (F := fun _ => False) hnp R1 LK.ng R' (fun a => ⟨.inr, fun z => z.elim (fun z => z.elim) id⟩) (by rw [ou_no]; exact s0.trans s)
    rw [ou_no] at s3
    exact ⟨s3, R3, f3⟩
  cases mr with
  | bad => exact h
  | ex x ρ' =>
    intro cls d σ' H' s R' dx
    obtain ⟨s3, R3, f3⟩ := end_ s R'
    refine (h : PostX g G pv H1 ρ1 σ x (unlock ls ρ') W) cls d σ' H' s3 R3 ⟨dx.1, ?_⟩
    have dx2 := dx.2
    revert dx2
    cases x.f with
    | none => exact fun z => z
    | some p =>
      intro dx2
      obtain ⟨f, t⟩ := p
      obtain ⟨a, v, e, h1, h2⟩ := dx2
      have k : ∀ a u, AvO H' (ou (FS H' ρ' σ') (ou L G)) a u → AvO H' (ou (FS H' (unlock ls ρ') σ') G) a u := AvO.sub fun a z => by
        rcases z with z | z
        · exact (f3 a z).elim (fun z => .inr (.inl z)) .inl
        · exact .inr (.inr z)
      exact ⟨a, v, e, k _ _ h1, Den.mono k _ _ h2⟩
  | ok f ρ' =>
    cases f with
    | nx => exact fun σ' H' s R' => let ⟨s3, R3, _⟩ := end_ s R'; h σ' H' s3 R3
    | bk => exact fun σ' H' s R' => let ⟨s3, R3, _⟩ := end_ s R'; h σ' H' s3 R3
    | ct => exact fun σ' H' s R' => let ⟨s3, R3, _⟩ := end_ s R'; h σ' H' s3 R3
    | ret r =>
      intro v σ' H' s R'
      have ngL : ∀ a, L a → ¬ ou (fo H' (some v) r) G a := fun a z k => by
        rcases k with k | k
        · exact R'.ng a k (.inl z)
        · exact LK.ng a z k
      obtain ⟨R3, f3, s3⟩ := LK.out (G' := ou (fo H' (some v) r) G) (F := fo H' (some v) r) hnp R1 ngL (R'.rel.weaken fun a z => by
          rcases z with z | z | z
          · exact .inr (.inl z)
          · exact .inl z
          · exact .inr (.inr z)) (fun a => Iff.rfl) (s0.trans s)
      refine h v σ' H' s3 ⟨R3, R'.den.keep (fun _ _ _ q => q) (AvO.sub fun a z => ?_), fun a z k => R'.ng a z (.inr k)⟩
      rcases z with z | z | z
      · exact (f3 a z).elim (fun z => .inr (.inr (.inl z))) .inl
      · exact .inr (.inl z)
      · exact .inr (.inr (.inr z))
theorem forL_cons {set : T → Env → R Unit} {body : Env → R Fl} {t : T} {ts : List T} : forL set body (t :: ts) ρ = (set t ρ).bind fun _ ρ => (body ρ).bind fun f ρ => match f with
    | .nx => forL set body ts ρ
    | .ct => forL set body ts ρ
    | .bk => .ok .nx ρ
    | .ret s => .ok (.ret s) ρ := rfl
theorem sndS_for {tg iter : Expr} {tg' : Tg} {k : ItK} {es : List Expr} {os : List E} {body : List Stmt} {body' : List S} (hpo : PassesOwn (model X.prog X.w) X.A X.env X.xe) (hc : X.calm = true) (hK : g.K = X.K)
    (hit : ItSnd X tg iter k es) (S : SndOs C g X es os) (SG : SndG C g X tg tg') (SB : SndSs C g X body body') : SndS C g X (.For tg iter body [] pos) (.for tg' k os body') := by
  refine ⟨fun G pv H ρ σ D W hp tk RR h => ts0_of (ps_for hpo hc (pi0 X tg iter) (pg0 X tg) (pss0 X body) hit.fold) ?_⟩
  simp only [evS] at h
  refine hit.run σ H _ (S.run hp tk RR ?_)
  cases q : evOs C os ρ with
  | bad => rw [q] at h; exact h
  | ex x ρ' => rw [q] at h; exact h
  | ok ots ρ1 =>
  rw [q, R.bind_ok] at h
  intro vs H1 s1 R1 kk
  cases q1 : resolve os ots ρ1 with
  | none => rw [q1] at h; exact h.elim
  | some us =>
  rw [q1, Option.bind_some] at h
  cases q2 : itT k us with
  | none => rw [q2] at h; exact h.elim
  | some ts =>
  rw [q2, R.of_some, R.bind_ok] at h
  cases q3 : lockAll C.np os ρ1 with
  | none => rw [q3] at h; exact h.elim
  | some p =>
  rw [q3, R.of_some, R.bind_ok] at h
  replace h := h.after s1
  obtain ⟨L, LK, hm⟩ := lock_rel q3 R1.nopv
  have lessO : ∀ a, ou (FS H1 p.2 σ) (ou L G) a → ou (FS H1 ρ1 σ) G a := fun a z => by
    rcases z with z | z | z
    · exact .inl (LK.less a z)
    · exact .inl (LK.sub a z)
    · exact .inr z
  obtain ⟨J, Pr, wk, pr0, hrd⟩ := it_ok (fun a u z => z.1) (resolve_topK (L := L) R1.nopv (AvO.sub lessO) hm kk q1) q2
  rw [← hK]
  refine hrd _ ?_
  generalize hmr : forL (fun t ρ => asgT C tg' (.sh t) ρ) (fun ρ => evSs C body' ρ) ts p.2 = mr at h
  refine ⟨fun j m σ2 H2 => ∃ ρ2, m = ts.length - j ∧ j ≤ ts.length ∧ forL (fun t ρ => asgT C tg' (.sh t) ρ) (fun ρ => evSs C body' ρ) (ts.drop j) ρ2 = mr ∧ Rel g (ou L G) pv H2 ρ2 σ2 ∧
      Stp (FS H1 p.2 σ) H1 (FS H2 ρ2 σ2) H2 ∧ Pr (AvO H2 (ou (FS H2 ρ2 σ2) (ou L G))) H2, ⟨ts.length, p.2, by simp, Nat.zero_le _, hmr, R1.wpv LK.rel, Stp.refl, pr0⟩, ?_⟩
  rintro j m σ2 H2 ⟨ρ2, hm2, hj, hL2, R2, s2, pr2⟩
  have hA2 : ∀ a u, AvO H2 (ou (FS H2 ρ2 σ2) (ou L G)) a u → Rd2 H2 a u := fun a u z => z.1
  have out : PostS g (ou L G) pv H2 ρ2 σ2 mr D W := h.out LK hp R1 s2
  by_cases hlt : j < ts.length
  case neg =>
    have ej : j = ts.length := by omega
    subst ej
    rw [List.drop_length] at hL2
    rw [← hL2] at out
    exact .inl ⟨wk.stop _ H2 _ hA2 pr2 (Nat.le_refl _), out σ2 H2 Stp.refl R2⟩
  case pos =>
    refine .inr ⟨wk.go _ H2 _ hA2 pr2 hlt, fun σ' H' => ∃ ρ2, ts.length - (j + 1) = ts.length - (j + 1) ∧ j + 1 ≤ ts.length ∧ forL (fun t ρ => asgT C tg' (.sh t) ρ) (fun ρ => evSs C body' ρ) (ts.drop (j + 1)) ρ2 = mr ∧ Rel g (ou L G) pv H' ρ2 σ' ∧
      Stp (FS H1 p.2 σ) H1 (FS H' ρ2 σ') H' ∧ Pr (AvO H' (ou (FS H' ρ2 σ') (ou L G))) H', fun σ' H' h' => ⟨ts.length - (j + 1), by omega, h'⟩, fun x0 H3 y => ?_⟩
    obtain ⟨t, ht, bb⟩ := wk.yld _ H2 j x0 H3 hA2 pr2 hlt y
    rw [List.drop_eq_getElem_cons hlt] at hL2
    have et : ts[j] = t := by rw [List.getElem?_eq_getElem hlt] at ht; exact Option.some.inj ht
    rw [et, forL_cons] at hL2
    obtain ⟨s3, R3⟩ := bb.rel R2
    have s3' : Stp (FS H2 ρ2 σ2) H2 (FS H3 ρ2 σ2) H3 := s3.less fun a z => .inr z
    refine SG.run (ou L G) pv H3 ρ2 σ2 x0 (.sh t) _ W hp tk R3 ?_
    cases qa : asgT C tg' (.sh t) ρ2 with
    | bad => rw [qa] at hL2; rw [← hL2] at out; exact out.elim
    | ex x ρ' =>
      rw [qa] at hL2
      rw [← hL2] at out
      intro cls d σ' H' s' R' dx
      rw [ou_sh] at s'
      exact (out : PostX g (ou L G) pv H2 ρ2 σ2 x ρ' W) cls d σ' H' (s3'.trans s') R' dx
    | ok u ρ3 =>
    rw [qa, R.bind_ok] at hL2
    intro σ4 H4 s4 R4
    rw [ou_sh] at s4
    refine SB.run (ou L G) pv H4 ρ3 σ4 _ W hp tk R4 ?_
    have st := s3'.trans s4
    have next : ∀ {σ5 : St} {H5 : Hp} {ρ5 : Env}, forL (fun t ρ => asgT C tg' (.sh t) ρ) (fun ρ => evSs C body' ρ) (ts.drop (j + 1)) ρ5 = mr → Stp (FS H4 ρ3 σ4) H4 (FS H5 ρ5 σ5) H5 → Rel g (ou L G) pv H5 ρ5 σ5 →
        ∃ ρ2, ts.length - (j + 1) = ts.length - (j + 1) ∧ j + 1 ≤ ts.length ∧ forL (fun t ρ => asgT C tg' (.sh t) ρ) (fun ρ => evSs C body' ρ) (ts.drop (j + 1)) ρ2 = mr ∧ Rel g (ou L G) pv H5 ρ2 σ5 ∧
          Stp (FS H1 p.2 σ) H1 (FS H5 ρ2 σ5) H5 ∧ Pr (AvO H5 (ou (FS H5 ρ2 σ5) (ou L G))) H5 := fun {σ5 H5 ρ5} e5 s5 R5 => by
      have s6 := st.trans s5
      exact ⟨ρ5, rfl, hlt, e5, R5, s2.trans s6, wk.keep _ _ _ _ pr2 s6.av fun a u hl hu => (s6 a u hu fun z => R2.dg a z (.inl hl)).1⟩
    cases qb : evSs C body' ρ3 with
    | bad => rw [qb] at hL2; rw [← hL2] at out; exact out.elim
    | ex x ρ' =>
      rw [qb] at hL2
      rw [← hL2] at out
      exact PostX.after (out : PostX g (ou L G) pv H2 ρ2 σ2 x ρ' W) st fun _ z => z
    | ok f ρ5 =>
      rw [qb, R.bind_ok] at hL2
      cases f with
      | nx => exact fun σ5 H5 s5 R5 => next hL2 s5 R5
      | ct => exact fun σ5 H5 s5 R5 => next hL2 s5 R5
      | bk =>
        rw [← hL2] at out
        exact fun σ5 H5 s5 R5 => out σ5 H5 (st.trans s5) R5
      | ret r =>
        rw [← hL2] at out
        exact fun v σ5 H5 s5 R5 => out v σ5 H5 (st.trans s5) R5
theorem sndS_while {c : Expr} {c' : E} {body : List Stmt} {body' : List S} (hpo : PassesOwn (model X.prog X.w) X.A X.env X.xe) (SC : SndT C g X c c') (SB : SndSs C g X body body') : SndS C g X (.While c body [] pos) (.while c' body') := by
  refine ⟨fun G pv H ρ σ D W hp tk RR h => ts0_of (ps_while hpo (pt0 X c) (pss0 X body)) ?_⟩
  simp only [evS] at h
  refine ⟨fun m σ2 H2 => ∃ ρ2, Rel g G pv H2 ρ2 σ2 ∧ PostS g G pv H2 ρ2 σ2 (whL (fun ρ => (ev C c' ρ).bind fun s ρ => R.of ρ (asB s)) (fun ρ => evSs C body' ρ) m ρ2) D W, ⟨C.fuel, ρ, RR, h⟩, ?_⟩
  rintro m σ2 H2 ⟨ρ2, R2, h2⟩
  cases m with
  | zero => exact h2.elim
  | succ m =>
    have eq1 : whL (fun ρ => (ev C c' ρ).bind fun s ρ => R.of ρ (asB s)) (fun ρ => evSs C body' ρ) (m + 1) ρ2 = (ev C c' ρ2).bind fun s ρ => (R.of ρ (asB s)).bind fun b ρ => if b then (evSs C body' ρ).bind fun f ρ => (match f with
      | .nx => whL (fun ρ => (ev C c' ρ).bind fun s ρ => R.of ρ (asB s)) (fun ρ => evSs C body' ρ) m ρ
      | .ct => whL (fun ρ => (ev C c' ρ).bind fun s ρ => R.of ρ (asB s)) (fun ρ => evSs C body' ρ) m ρ
      | .bk => .ok .nx ρ
      | .ret s => .ok (.ret s) ρ) else .ok .nx ρ := by
      rw [bindB]; rfl
    rw [eq1] at h2
    refine SC.stmt _ hp tk R2 h2 fun b ρ3 H3 s3 R3 k3 => ?_
    cases b with
    | false => exact if_false_of rfl ((k3 : PostS g G pv H2 ρ2 σ2 (.ok .nx ρ3) D W) σ2 H3 s3 R3)
    | true =>
      refine if_true_of rfl ⟨fun σ' H' => ∃ ρ2, Rel g G pv H' ρ2 σ' ∧ PostS g G pv H' ρ2 σ' (whL (fun ρ => (ev C c' ρ).bind fun s ρ => R.of ρ (asB s)) (fun ρ => evSs C body' ρ) m ρ2) D W, fun σ' H' n' => ⟨m, Nat.lt_succ_self _, n'⟩, ?_⟩
      rw [if_pos rfl] at k3
      refine SB.run G pv H3 ρ3 σ2 _ W hp tk R3 ?_
      cases qb : evSs C body' ρ3 with
      | bad => rw [qb] at k3; exact k3.elim
      | ex x ρ' => rw [qb] at k3; exact PostX.after (k3 : PostX g G pv H2 ρ2 σ2 x ρ' W) s3 fun _ z => z
      | ok f ρ4 =>
        rw [qb, R.bind_ok] at k3
        cases f with
        | nx => exact fun σ4 H4 s4 R4 => ⟨ρ4, R4, PostS.after k3 (s3.trans s4)⟩
        | ct => exact fun σ4 H4 s4 R4 => ⟨ρ4, R4, PostS.after k3 (s3.trans s4)⟩
        | bk => exact fun σ4 H4 s4 R4 => (k3 : PostS g G pv H2 ρ2 σ2 (.ok .nx ρ4) D W) σ4 H4 (s3.trans s4) R4
        | ret r => exact fun v σ4 H4 s4 R4 => (k3 : PostS g G pv H2 ρ2 σ2 (.ok (.ret r) ρ4) D W) v σ4 H4 (s3.trans s4) R4
end
end TL

set_option Elab.async false
set_option linter.all false
set_option maxRecDepth 100000
set_option autoImplicit false
/-! TLj: a list grows; several names at once. -/
namespace TL
open PySem PySem.Spec PyProof.Rows L2
section
variable {C : Cfg} {g : Gd} {X : Cx} {G : As} {pv : List V} {H H1 H2 : Hp} {ρ ρ1 ρ' : Env} {σ σ1 σ2 : St} {W : WX} {D : Ends} {e : Expr} {e' : E} {pos : Pos}
/-- a slot's own object is written -/
theorem Rel.write (RR : Rel g G pv H ρ σ) {i : Nat} {t t' : T} {a : Addr} {o' : HO} (e : ρ[i]? = some (.ow t)) (hv : at' σ i = some (.ref a)) (d : HoDen g (AvO H (ou (FS H ρ σ) G)) t' o') :
    Rel g G pv (upd H a o') (ρ.set i (.ow t')) σ ∧ Stp (FS H ρ σ) H (FS (upd H a o') (ρ.set i (.ow t')) σ) (upd H a o') := by
  have fa : fo H (at' σ i) (.ow t) a := by rw [hv]; exact rfl
  refine RR.chg e (fun b u hb n => ?_) (fun b z => .inl z) (fun av => ⟨a, o', hv, upd_same, d.mono av⟩)
  rw [upd_ne fun z => n (by rw [z]; exact fa)]; exact hb
theorem few_one {e : Expr} {env : PySem.Env} {cpos : Pos} (h : notStar e = true) : ((backTo cpos (starEach [e] env)).all (fun x => !x.1) && (backToKw cpos (keywordEach [] env)).all (fun x => x.1.isSome)
      && decide ([e].length + ([] : List Keyword).length + (if ([] : List Keyword).isEmpty then 0 else 1) < 30)) = true := by
  rw [starEach_cons h]; rfl
theorem isOwL_some {s : Option Sl} (h : isOwL s = true) : ∃ ts, s = some (.ow (.lst ts)) := by
  unfold isOwL at h
  split at h
  · exact ⟨_, rfl⟩
  · cases h
theorem evS_mut {i : Nat} {m : Mt} : evS C (.mut i m e') ρ = if isOwL ρ[i]? then (ev C e' ρ).bind fun s ρ => (R.of ρ (frz s)).bind fun t ρ => (R.of ρ ((ρ[i]?).bind fun s => mutT m s t)).bind fun s ρ => .ok .nx (ρ.set i s) else .bad := by simp only [evS]
theorem mut_core {i : Nat} {m : Mt} {x : Str} {r : V → List V → Hp → VK → Prop} (S : SndE C g X e e') (hp : pv.length = C.np) (tk : Takes X W) (RR : Rel g G pv H ρ σ) (h : PostS g G pv H ρ σ (evS C (.mut i m e') ρ) D W)
    (hr : ∀ (H1 : Hp) (ρ1 : Env) (s s' : Sl) (t : T) (a : Addr) (v : V) (Q : VK), Rel g G pv H1 ρ1 σ → ρ1[i]? = some s → at' σ i = some (.ref a) → Den g (AvO H1 (ou (FS H1 ρ1 σ) G)) t v → mutT m s t = some s' →
      (∀ H2, Stp (FS H1 ρ1 σ) H1 (FS H2 (ρ1.set i s') σ) H2 → Rel g G pv H2 (ρ1.set i s') σ → Q .non H2) → r (.ref a) [v] H1 Q) : tDrop (tBM X.K "list" r (tVar i) (taL X [e])) D σ H := by
  rw [evS_mut] at h
  by_cases c : isOwL ρ[i]? = true
  case neg => rw [if_neg c] at h; exact h.elim
  rw [if_pos c] at h
  obtain ⟨ts, hts⟩ := isOwL_some c
  obtain ⟨a, o, hv, ho, xs, eo, dl⟩ := RR.den i _ hts
  subst eo
  refine ⟨.ref a, RR.at_some hv, .inl ⟨rfl, xs, SqL.of ho⟩, ?_⟩
  refine te0_mono (S.tree hp tk RR (Q := fun v H1 => r (.ref a) [v] H1 fun _ H2 => D.nx σ H2) ?_) fun v H1 q => q
  cases q : ev C e' ρ with
  | bad => rw [q] at h; exact h
  | ex x ρ' => rw [q] at h; exact h
  | ok s1 ρ1 =>
    rw [q, R.bind_ok] at h
    rw [R.bind_ok]
    cases q1 : frz s1 with
    | none => rw [q1] at h; exact h.elim
    | some t =>
      rw [q1, R.of_some, R.bind_ok] at h
      intro v H1 st1 R1 d1
      cases q2 : ρ1[i]? with
      | none => rw [q2] at h; exact h.elim
      | some s =>
        rw [q2, Option.bind_some] at h
        cases q3 : mutT m s t with
        | none => rw [q3] at h; exact h.elim
        | some s' =>
          rw [q3, R.of_some, R.bind_ok] at h
          exact hr H1 ρ1 s s' t a v _ R1 q2 hv d1 q3 fun H2 s2 R2 => (h : PostS g G pv H ρ σ (.ok .nx (ρ1.set i s')) D W) σ H2 (st1.trans s2) R2
theorem app_snd {i : Nat} {x : Str} {xp apos cpos : Pos} (hx : PE X (.Name x xp) (tVar i)) (S : SndE C g X e e') (hs : notStar e = true) (hline : (apos.endLine == cpos.line) = true) :
    SndS C g X (.Expr (.Call (.Attribute (.Name x xp) "append" apos) [e] [] cpos) pos) (.mut i .append e') := by
  refine ⟨fun G pv H ρ σ D W hp tk RR h => ts0_of (ps_expr (pe_bm PySem.F.plainAttrs_list PySem.F.slot_list_append PySem.F.type_list_append mt_append hx (pa0 X [e] (by rw [List.all_cons, hs]; rfl)) rfl (few_one hs) hline (starEach_cons hs) rfl) rfl) ?_⟩
  refine mut_core (x := x) S hp tk RR h fun H1 ρ1 s s' t a v Q R1 es hv d hm hq => ?_
  cases s with
  | ow u =>
    cases u with
    | lst xs =>
      simp only [mutT] at hm
      by_cases hl : xs.length < line
      · rw [if_pos hl] at hm
        cases hm
        obtain ⟨a', o, hv', ho, vs, eo, dl⟩ := R1.den i _ es
        rw [hv] at hv'; cases hv'; subst eo
        obtain ⟨R2, s2⟩ := R1.write (t' := .lst (xs ++ [t])) (o' := .lst (vs ++ [v])) es hv ⟨_, rfl, dl.append (DenL.cons d DenL.nil)⟩
        exact ⟨a, vs, v, rfl, rfl, ho, by rw [← dl.length]; exact hl, hq _ s2 R2⟩
      · rw [if_neg hl] at hm; cases hm
    | _ => simp [mutT] at hm
  | _ => simp [mutT] at hm
theorem ext_snd {i : Nat} {x : Str} {xp apos cpos : Pos} (hx : PE X (.Name x xp) (tVar i)) (S : SndE C g X e e') (hs : notStar e = true) (hline : (apos.endLine == cpos.line) = true) :
    SndS C g X (.Expr (.Call (.Attribute (.Name x xp) "extend" apos) [e] [] cpos) pos) (.mut i .extend e') := by
  refine ⟨fun G pv H ρ σ D W hp tk RR h => ts0_of (ps_expr (pe_bm PySem.F.plainAttrs_list PySem.F.slot_list_extend PySem.F.type_list_extend mt_extend hx (pa0 X [e] (by rw [List.all_cons, hs]; rfl)) rfl (few_one hs) hline (starEach_cons hs) rfl) rfl) ?_⟩
  refine mut_core (x := x) S hp tk RR h fun H1 ρ1 s s' t a v Q R1 es hv d hm hq => ?_
  cases s with
  | ow u =>
    cases u with
    | lst xs =>
      cases t with
      | lst ys =>
        simp only [mutT] at hm
        by_cases hl : xs.length + ys.length ≤ line
        · rw [if_pos hl] at hm
          cases hm
          obtain ⟨a', o, hv', ho, vs, eo, dl⟩ := R1.den i _ es
          rw [hv] at hv'; cases hv'; subst eo
          simp only [Den] at d
          obtain ⟨b, ws, rfl, hb, dw⟩ := d
          have hb' : H1 b = some (.lst ws) := hb.1.elim id fun z => z.1.elim
          obtain ⟨R2, s2⟩ := R1.write (t' := .lst (xs ++ ys)) (o' := .lst (vs ++ ws)) es hv ⟨_, rfl, dl.append dw⟩
          exact ⟨a, b, vs, ws, rfl, rfl, ho, hb', by rw [← dl.length, ← dw.length]; exact hl, hq _ s2 R2⟩
        · rw [if_neg hl] at hm; cases hm
      | _ => simp [mutT] at hm
    | _ => simp [mutT] at hm
  | _ => simp [mutT] at hm

/-! ### several names at once -/
inductive SndPs (C : Cfg) (g : Gd) (X : Cx) : List Expr → List E → Prop
  | nil : SndPs C g X [] []
  | cons {e : Expr} {e' : E} {es : List Expr} {es' : List E} (h : SndE C g X e e') (r : SndPs C g X es es') : SndPs C g X (e :: es) (e' :: es')
def PostP (g : Gd) (G : As) (pv : List V) (H : Hp) (ρ : Env) (σ : St) (m : R (List Sl)) (Q : List V → Hp → Prop) (W : WX) : Prop :=
  match m with
  | .ok ss ρ' => ∀ vs H', Stp (FS H ρ σ) H (FS H' (ss ++ ρ') (vs.map some ++ σ)) H' → Rel g G [] H' (ss ++ ρ') (vs.map some ++ σ) → vs.length = ss.length → Q vs H'
  | .ex x ρ' => PostX g G pv H ρ σ x ρ' W
  | .bad => False
theorem SndPs.run {es : List Expr} {es' : List E} (S : SndPs C g X es es') : ∀ {G : As} {H : Hp} {ρ : Env} {Q : List V → Hp → Prop}, pv.length = C.np → Takes X W → Rel g G pv H ρ σ → PostP g G pv H ρ σ (evPs C es' ρ) Q W → taL X es σ H Q := by
  induction S with
  | nil =>
    intro G H ρ Q hp tk RR h
    simp only [evPs] at h
    exact h [] H Stp.refl RR.nopv rfl
  | @cons e e' es es' hS r ih =>
    intro G H ρ Q hp tk RR h
    simp only [evPs] at h
    refine hS.run G pv H ρ σ _ W hp tk RR ?_
    cases q : ev C e' ρ with
    | bad => rw [q] at h; exact h
    | ex x ρ' => rw [q] at h; exact h
    | ok r1 ρ1 =>
      rw [q, R.bind_ok] at h
      intro v H1 s1 R1
      refine ih hp tk R1.rel ?_
      cases q2 : evPs C es' ρ1 with
      | bad => rw [q2] at h; exact h.elim
      | ex x ρ' =>
        rw [q2] at h
        intro cls d σ' H' s' R' dx
        refine (h : PostX g G pv H ρ σ x ρ' W) cls d σ' H' ((s1.less fun a z => .inr z).trans s') (R'.weaken fun a z => .inr z) (dx.mono (AvO.sub fun a z => z.imp id .inr))
      | ok ss ρ2 =>
        rw [q2, R.bind_ok] at h
        intro vs H2 s2 R2 hl
        obtain ⟨R3, f3⟩ := R1.nopv.keep s2 R2
        refine h (v :: vs) H2 (fun a u hu n => ?_) R3.cons (by rw [List.length_cons, List.length_cons, hl])
        obtain ⟨e1, n1⟩ := s1 a u hu n
        obtain ⟨e2, n2⟩ := s2 a u e1 fun z => n1 (.inr z)
        exact ⟨e2, fun z => (fs_cons.mp z).elim (fun z => n1 (.inl (f3 a z))) n2⟩
/-- the stores, from the left -/
def setAll : St → List Nat → List V → St
  | σ, i :: is, v :: vs => setAll (σ.set i (some v)) is vs
  | σ, _, _ => σ
theorem par_rel : ∀ {is : List Nat} {ss : List Sl} {vs : List V} {ρ ρ' : Env} {σ : St}, parS C is ss ρ = some ρ' → vs.length = ss.length → pv.length = C.np → (∀ (i : Nat) (v : V), pv[i]? = some v → σ[i]? = some (some v)) → Rel g G [] H (ss ++ ρ) (vs.map some ++ σ) →
    Rel g G pv H ρ' (setAll σ is vs) ∧ ∀ a, FS H ρ' (setAll σ is vs) a → FS H (ss ++ ρ) (vs.map some ++ σ) a
  | [], [], [], ρ, ρ', σ, h, _, hp, hpv, RR => by
    simp only [parS] at h
    cases h
    exact ⟨⟨RR.len, RR.den, RR.dj, RR.dg, RR.gd, hpv⟩, fun a z => z⟩
  | i :: is, s :: ss, v :: vs, ρ, ρ', σ, h, hl, hp, hpv, RR => by
    simp only [parS] at h
    unfold setS at h
    by_cases c : C.np ≤ i ∧ i < ρ.length
    case neg => rw [if_neg c] at h; cases h
    rw [if_pos c, Option.bind_some] at h
    have hl' : vs.length = ss.length := by simpa using hl
    have R2 : Rel2 g G [] H (ss ++ ρ) (vs.map some ++ σ) v s := RR.uncons
    obtain ⟨R3, f3⟩ := R2.store (i := ss.length + i) (Nat.zero_le _) (by rw [List.length_append]; omega)
    rw [List.set_append_right _ _ (by omega), Nat.add_sub_cancel_left, List.set_append_right _ _ (by rw [List.length_map]; omega), List.length_map, hl', Nat.add_sub_cancel_left] at R3 f3
    obtain ⟨R4, f4⟩ := par_rel h hl' hp (fun j w hj => by
      have : j ≠ i := fun z => by
        obtain ⟨hlt, _⟩ := List.getElem?_eq_some_iff.mp hj
        omega
      rw [List.getElem?_set_ne (Ne.symm this)]; exact hpv j w hj) R3
    exact ⟨R4, fun a z => fs_cons.mpr (f3 a (f4 a z))⟩
  | [], _ :: _, _, _, _, _, h, _, _, _, _ => by simp [parS] at h
  | _ :: _, [], _, _, _, _, h, _, _, _, _ => by simp [parS] at h
  | [], [], _ :: _, _, _, _, _, hl, _, _, _ => by simp at hl
  | _ :: _, _ :: _, [], _, _, _, _, hl, _, _, _ => by simp at hl
theorem par_core {is : List Nat} {es : List Expr} {es' : List E} (S : SndPs C g X es es') (hp : pv.length = C.np) (tk : Takes X W) (RR : Rel g G pv H ρ σ) (h : PostS g G pv H ρ σ (evS C (.par is es') ρ) D W) :
    taL X es σ H fun vs H1 => is.Nodup ∧ vs.length = is.length ∧ ∀ H2, (∀ a u, H1 a = some u → H2 a = some u) → D.nx (setAll σ is vs) H2 := by
  simp only [evS] at h
  refine S.run hp tk RR ?_
  cases q : evPs C es' ρ with
  | bad => rw [q] at h; exact h
  | ex x ρ' => rw [q] at h; exact h
  | ok ss ρ1 =>
    rw [q, R.bind_ok] at h
    intro vs H1 s1 R1 hl
    by_cases nd : is.Nodup
    case neg => rw [if_neg nd] at h; exact h.elim
    rw [if_pos nd] at h
    cases q2 : parS C is ss ρ1 with
    | none => rw [q2] at h; exact h.elim
    | some ρ2 =>
      rw [q2, R.of_some, R.bind_ok] at h
      have hlen : is.length = ss.length := by
        have aux : ∀ (is : List Nat) (ss : List Sl) (ρ ρ' : Env), parS C is ss ρ = some ρ' → is.length = ss.length := by
          intro is
          induction is with
          | nil => intro ss ρ ρ' h; cases ss <;> simp [parS] at h ⊢
          | cons i is ih =>
            intro ss ρ ρ' h
            cases ss with
            | nil => simp [parS] at h
            | cons s ss =>
              simp only [parS] at h
              cases q : setS C i s ρ with
              | none => rw [q] at h; cases h
              | some ρ1 => rw [q, Option.bind_some] at h; rw [List.length_cons, List.length_cons, ih ss ρ1 ρ' h]
        exact aux is ss ρ1 ρ2 q2
      refine ⟨nd, by rw [hl, hlen], fun H2 k => ?_⟩
      obtain ⟨R2, f2⟩ := par_rel q2 hl hp RR.pv R1
      obtain ⟨R3, s3⟩ := R2.ext k
      exact (h : PostS g G pv H ρ σ (.ok .nx ρ2) D W) _ H2 ((s1.less f2).trans s3) R3
theorem taL_pa {es : List Expr} {Q : List V → Hp → Prop} (h : taL X es σ H Q) (hs : es.all notStar = true) : ∃ t, PA X es t ∧ t σ H Q := ⟨_, pa0 X es hs, h⟩
/-- a, b = e1, e2: two local names -/
theorem par2_snd {i j : Nat} {x y : Str} {a b : Expr} {es' : List E} {px py pt : Pos} {kt k2 : Nat} {pt2 : Pos} (hc : X.calm = true) (hN : X.N.Nodup) (hi : X.N[i]? = some x) (hj : X.N[j]? = some y) (hij : i ≠ j)
    (hx : X.env.scope.names.lookup x = some .local) (hy : X.env.scope.names.lookup y = some .local) (S : SndPs C g X [a, b] es') (hs : [a, b].all notStar = true)
    (hw : swappedStores [.Tuple [.Name x px, .Name y py] kt pt] (.Tuple [a, b] k2 pt2) X.env = pure (some [x, y])) :
    SndS C g X (.Assign [.Tuple [.Name x px, .Name y py] kt pt] (.Tuple [a, b] k2 pt2) pos) (.par [i, j] es') := by
  refine ⟨fun G pv H ρ σ D W hp tk RR h => ts0_of (ps_par (ta := taL X [a, b]) hc hN hi hj hij hx hy (pa0 X _ hs) hw) ?_⟩
  exact taL_mono (par_core S hp tk RR h) fun vs H1 hl q => by
    obtain ⟨nd, l2, q⟩ := q
    match vs, l2 with
    | [v, w], _ => exact ⟨v, w, rfl, q H1 fun _ _ z => z⟩
theorem par3_snd {i j l : Nat} {x y z : Str} {a b c : Expr} {es' : List E} {px py pz pt : Pos} {kt k2 : Nat} {pt2 : Pos} (hc : X.calm = true) (hN : X.N.Nodup) (hi : X.N[i]? = some x) (hj : X.N[j]? = some y) (hl : X.N[l]? = some z) (hij : i ≠ j) (hil : i ≠ l) (hjl : j ≠ l)
    (hx : X.env.scope.names.lookup x = some .local) (hy : X.env.scope.names.lookup y = some .local) (hz : X.env.scope.names.lookup z = some .local) (S : SndPs C g X [a, b, c] es') (hs : [a, b, c].all notStar = true)
    (hw : swappedStores [.Tuple [.Name x px, .Name y py, .Name z pz] kt pt] (.Tuple [a, b, c] k2 pt2) X.env = pure (some [x, y, z])) :
    SndS C g X (.Assign [.Tuple [.Name x px, .Name y py, .Name z pz] kt pt] (.Tuple [a, b, c] k2 pt2) pos) (.par [i, j, l] es') := by
  refine ⟨fun G pv H ρ σ D W hp tk RR h => ts0_of (ps_par3 (ta := taL X [a, b, c]) hc hN hi hj hl hij hil hjl hx hy hz (pa0 X _ hs) hw) ?_⟩
  exact taL_mono (par_core S hp tk RR h) fun vs H1 hl q => by
    obtain ⟨nd, l2, q⟩ := q
    match vs, l2 with
    | [u, v, w], _ => exact ⟨u, v, w, rfl, q H1 fun _ _ z => z⟩
/-- the names one by one -/
inductive Names' (X : Cx) : List Expr → List Nat → Prop
  | nil : Names' X [] []
  | cons {x : Str} {p : Pos} {i : Nat} {es : List Expr} {is : List Nat} (h : PG X (.Name x p) (gName i)) (r : Names' X es is) : Names' X (.Name x p :: es) (i :: is)
theorem Names'.run {es : List Expr} {is : List Nat} (N : Names' X es is) : ∃ t, PGs X es t ∧ ∀ (vs : List V) (σ : St) (H : Hp) (Q : St → Hp → Prop), vs.length = is.length → Q (setAll σ is vs) H → t vs σ H Q := by
  induction N with
  | nil =>
    refine ⟨gNil, pgs_nil, fun vs σ H Q hl q => ?_⟩
    have : vs = [] := List.length_eq_zero_iff.mp hl
    subst this
    exact ⟨rfl, q⟩
  | @cons x p i es is h r ih =>
    obtain ⟨t, ht, hq⟩ := ih
    refine ⟨gCons (gName i) t, pgs_cons h ht rfl, fun vs σ H Q hl q => ?_⟩
    match vs, hl with
    | v :: vs, hl => exact ⟨v, vs, rfl, hq vs _ H Q (by simpa using hl) q⟩
theorem Names'.plain {es : List Expr} {is : List Nat} (N : Names' X es is) : es.all notStar = true ∧ es.length = is.length := by
  induction N with
  | nil => exact ⟨rfl, rfl⟩
  | cons h r ih => exact ⟨by rw [List.all_cons, ih.1]; rfl, by rw [List.length_cons, List.length_cons, ih.2]⟩
/-- .. through a tuple -/
theorem parT_snd {is : List Nat} {tgs es : List Expr} {es' : List E} {kt k2 : Nat} {pt pt2 : Pos} (hc : X.calm = true) (N : Names' X tgs is) (S : SndPs C g X es es') (hs : es.all notStar = true) (hz : es.length ≤ 100)
    (hw : swappedStores [.Tuple tgs kt pt] (.Tuple es k2 pt2) X.env = pure none) :
    SndS C g X (.Assign [.Tuple tgs kt pt] (.Tuple es k2 pt2) pos) (.par is es') := by
  obtain ⟨t, ht, hq⟩ := N.run
  obtain ⟨n1, n2⟩ := N.plain
  refine ⟨fun G pv H ρ σ D W hp tk RR h => ts0_of (ps_asg (pe_tup (pa0 X es hs)) (pg_tup hc ht (assignEach_plain n1).1 (assignEach_plain n1).2) rfl hw rfl) ?_⟩
  exact taL_mono (par_core S hp tk RR h) fun vs H1 hl q => by
    obtain ⟨nd, l2, q⟩ := q
    refine ⟨by rw [hl, sizeLine_eq]; omega, fun p np => ⟨p, vs, rfl, SqT.of upd_same, by rw [l2, n2], hq vs σ _ _ l2 (q _ (upd_ext np))⟩⟩
end
end TL

set_option Elab.async false
set_option linter.all false
set_option maxRecDepth 100000
set_option autoImplicit false
/-! TLk: the strict operations. -/
namespace TL
open PySem PySem.Spec PyProof.Rows L2
section
variable {g : Gd} {A : Av} {H H' : Hp} {v w : V} {vs : List V}
/-! ### values at the top -/
theorem Top.non (h : Top g A H .non v) : v = .non := by
  rcases h with h | ⟨_, _, _, _, h⟩
  · simpa only [Den] using h
  · exact h.elim
theorem Top.bl {b : Bool} (h : Top g A H (.bl b) v) : v = .bl b := by
  rcases h with h | ⟨_, _, _, _, h⟩
  · simpa only [Den] using h
  · exact h.elim
theorem Top.int {i : Int} (h : Top g A H (.int i) v) : v = .int i := by
  rcases h with h | ⟨_, _, _, _, h⟩
  · simpa only [Den] using h
  · exact h.elim
theorem Top.str {s : Str} (h : Top g A H (.str s) v) : v = .str s := by
  rcases h with h | ⟨_, _, _, _, h⟩
  · simpa only [Den] using h
  · exact h.elim
theorem Top.tup {ts : List T} (h : Top g A H (.tup ts) v) : Den g A (.tup ts) v := by
  rcases h with h | ⟨_, _, _, _, h⟩
  · exact h
  · exact h.elim
theorem lst_of {a : Addr} {xs : List V} (hA : ∀ a u, A a u → Rd2 H a u) (h : A a (.lst xs)) : H a = some (.lst xs) := (hA _ _ h).elim id fun z => z.1.elim
theorem tup_of {a : Addr} {xs : List V} (hA : ∀ a u, A a u → Rd2 H a u) (h : A a (.tup xs)) : H a = some (.tup xs) := (hA _ _ h).elim id fun z => z.1.elim
theorem ins_of {a : Addr} {C dx : Addr} {fs : List (Str × V)} (hA : ∀ a u, A a u → Rd2 H a u) (h : A a (.ins C dx fs)) : H a = some (.ins C dx fs) := (hA _ _ h).elim id fun z => z.1.elim
theorem Top.lst {ts : List T} (hA : ∀ a u, A a u → Rd2 H a u) (h : Top g A H (.lst ts) v) : ∃ a xs, v = .ref a ∧ H a = some (.lst xs) ∧ DenL g A ts xs := by
  rcases h with h | ⟨a, o, rfl, ho, xs, rfl, d⟩
  · simp only [Den] at h
    obtain ⟨a, xs, rfl, h, d⟩ := h
    exact ⟨a, xs, rfl, lst_of hA h, d⟩
  · exact ⟨a, xs, rfl, ho, d⟩
theorem Top.tupS {ts : List T} (hA : ∀ a u, A a u → Rd2 H a u) (h : Top g A H (.tup ts) v) : ∃ a xs, v = .ref a ∧ SqT g.K H a xs ∧ DenL g A ts xs := by
  have h := h.tup
  simp only [Den] at h
  obtain ⟨a, xs, rfl, h, d⟩ := h
  rcases h with h | h
  · exact ⟨a, xs, rfl, SqT.of (tup_of hA h), d⟩
  · exact ⟨a, xs, rfl, h.sq, d⟩
theorem Top.ins {c : Nat} {fs : List Str} {ts : List T} (hA : ∀ a u, A a u → Rd2 H a u) (h : Top g A H (.ins c fs ts) v) : ∃ a dx us, v = .ref a ∧ H a = some (.ins (g.cl c) dx us) ∧ fs = us.map (·.1) ∧ DenL g A ts (us.map (·.2)) := by
  rcases h with h | ⟨a, o, rfl, ho, dx, us, rfl, k, d⟩
  · simp only [Den] at h
    obtain ⟨a, dx, us, rfl, h, k, d⟩ := h
    exact ⟨a, dx, us, rfl, ins_of hA h, k, d⟩
  · exact ⟨a, dx, us, rfl, ho, k, d⟩
theorem TopL.one {t : T} (h : TopL g A H [t] vs) : ∃ v, vs = [v] ∧ Top g A H t v := by
  match vs, h with
  | [v], h => exact ⟨v, rfl, h.1⟩
theorem TopL.two {t u : T} (h : TopL g A H [t, u] vs) : ∃ v w, vs = [v, w] ∧ Top g A H t v ∧ Top g A H u w := by
  match vs, h with
  | [v, w], h => exact ⟨v, w, rfl, h.1, h.2.1⟩
theorem BiRes.val {t : T} (d : Den g A t v) : BiRes g A H (.sh t) v H := .inl ⟨fun _ _ z => z, t, rfl, d⟩
theorem BiRes.int {i : Int} : BiRes g A H (.sh (.int i)) (.int i) H := .val (by simp only [Den])
theorem BiRes.bl {b : Bool} : BiRes g A H (.sh (.bl b)) (.bl b) H := .val (by simp only [Den])
theorem BiRes.str {s : Str} : BiRes g A H (.sh (.str s)) (.str s) H := .val (by simp only [Den])
theorem BiRes.newL {p : Addr} {ts : List T} {xs : List V} (hp : H p = none) (d : DenL g A ts xs) : BiRes g A H (.ow (.lst ts)) (.ref p) (upd H p (.lst xs)) := .inr ⟨p, _, hp, rfl, rfl, .inl ⟨_, rfl, xs, rfl, d⟩⟩
theorem BiRes.newT {p : Addr} {ts : List T} {xs : List V} (hp : H p = none) (d : DenL g A ts xs) : BiRes g A H (.sh (.tup ts)) (.ref p) (upd H p (.tup xs)) := .inr ⟨p, _, hp, rfl, rfl, .inr ⟨ts, xs, rfl, rfl, d⟩⟩
/-- all frozen -/
def DenAll (g : Gd) (A : Av) : List T → List V → Prop := DenL g A
end
def r2 (r : R2) : List V → Hp → VK → Prop := fun vs H Q => ∃ x y, vs = [x, y] ∧ r x y H Q
def r1 (r : V → Hp → VK → Prop) : List V → Hp → VK → Prop := fun vs H Q => ∃ x, vs = [x] ∧ r x H Q
section
variable {X : Cx} {a b : Expr} {pos : Pos} {σ : St} {H : Hp} {Q : VK} {r : R2}
theorem taL2 {R : V → V → Hp → Prop} (h : taL X [a, b] σ H (fun vs H' => ∃ x y, vs = [x, y] ∧ R x y H')) : te0 X a σ H fun x H1 => te0 X b σ H1 fun y H2 => R x y H2 :=
  te0_mono h fun x H1 h1 => te0_mono h1 fun y H2 ⟨x', y', e, q⟩ => by cases e; exact q
theorem taL1 {R : V → Hp → Prop} (h : taL X [a] σ H (fun vs H' => ∃ x, vs = [x] ∧ R x H')) : te0 X a σ H R := te0_mono h fun x H1 ⟨x', e, q⟩ => by cases e; exact q
theorem te_bin {op : Operator} (ho : OpR X (binaryOp op) r) (h : taL X [a, b] σ H (fun vs H' => r2 r vs H' Q)) : te0 X (.BinOp a op b pos) σ H Q := te0_of (pe_op ho (pe0 X a) (pe0 X b)) (taL2 h)
theorem te_cmp {op : CmpOp} (ho : OpR X (compareOp op) r) (hm : behindInMarks op b = false) (h : taL X [a, b] σ H (fun vs H' => r2 r vs H' Q)) : te0 X (.Compare a [op] [b] pos) σ H Q := te0_of (pe_cmpR ho (pe0 X a) (pe0 X b) hm) (taL2 h)
theorem tt_cmp {op : CmpOp} (ho : OpR X (compareOp op) r) (hm : behindInMarks op b = false) {Q : Bool → Hp → Prop} (h : taL X [a, b] σ H (fun vs H' => r2 r vs H' (fun v H2 => ∃ c, v = .bl c ∧ Q c H2))) : tt0 X (.Compare a [op] [b] pos) σ H Q :=
  tt0_of (pt_cmpR ho (pe0 X a) (pe0 X b) hm) (taL2 h)
theorem te_un {op : UnaryOp} {r : V → Hp → VK → Prop} (ho : UnR X (unaryOp op) r) (h : taL X [a] σ H (fun vs H' => r1 r vs H' Q)) : te0 X (.UnaryOp op a pos) σ H Q := te0_of (pe_un ho (pe0 X a)) (taL1 h)
theorem te_ix (ho : IxR X r) (hs : PlainIx b) (h : taL X [a, b] σ H (fun vs H' => r2 r vs H' Q)) : te0 X (.Subscript a b pos) σ H Q := te0_of (pe_ix ho (pe0 X a) (pe0 X b) hs) (taL2 h)
theorem te_callB {es : List Expr} {x : Str} {id : String} {p : Pos} {r : List V → Hp → VK → Prop} (hc : CallR X (.builtin id) r) (hg : Gl X x) (hm : X.mg x = none) (hv : bootBuiltins x = some (.builtin id)) (hs : (a :: es).all notStar = true)
    (hn : x ≠ "__name__") (hdb : (x == ("__debug__" : Str)) = false) (h : taL X (a :: es) σ H (fun vs H' => r vs H' Q)) : te0 X (.Call (.Name x p) (a :: es) [] pos) σ H Q := by
  have hs' := hs
  rw [List.all_cons, Bool.and_eq_true] at hs'
  exact te0_of (pe_callB hc hg hm hv (pa0 X _ hs) hn hdb (starEach_cons hs'.1) (plain_any hs'.2)) h
theorem te_callTy {es : List Expr} {x : Str} {id : String} {p : Pos} {r : List V → Hp → VK → Prop} (hc : CallR X (.type id) r) (hg : Gl X x) (hm : X.mg x = none) (hv : bootBuiltins x = some (.type id)) (hs : (a :: es).all notStar = true)
    (hn : x ≠ "__name__") (hdb : (x == ("__debug__" : Str)) = false) (h : taL X (a :: es) σ H (fun vs H' => r vs H' Q)) : te0 X (.Call (.Name x p) (a :: es) [] pos) σ H Q := by
  have hs' := hs
  rw [List.all_cons, Bool.and_eq_true] at hs'
  exact te0_of (pe_callTy hc hg hm hv (pa0 X _ hs) hn hdb (starEach_cons hs'.1) (plain_any hs'.2)) h
theorem te_tup {es : List Expr} {k : Nat} (hs : es.all notStar = true) (h : taL X es σ H (fun vs H' => vs.length ≤ sizeLine ∧ ∀ p, H' p = none → Q (.ref p) (upd H' p (.tup vs)))) : te0 X (.Tuple es k pos) σ H Q := te0_of (pe_tup (pa0 X es hs)) h
theorem te_lst {es : List Expr} (hs : es.all notStar = true) (h : taL X es σ H (fun vs H' => vs.length ≤ sizeLine ∧ ∀ p, H' p = none → Q (.ref p) (upd H' p (.lst vs)))) : te0 X (.List es pos) σ H Q := te0_of (pe_lst (pa0 X es hs)) h
end
section
variable {C : Cfg} {g : Gd} {X : Cx}
theorem BiOk.imp {f : List T → Option Sl} {r r' : List V → Hp → VK → Prop} (h : BiOk g f r) (k : ∀ vs H Q, r vs H Q → r' vs H Q) : BiOk g f r' := fun A H ts vs s Q hA ht e hq => k _ _ _ (h A H ts vs s Q hA ht e hq)
/-! ### ints -/
theorem bo_int2 {f : Int → Int → T} {h : Int → Int → V} (d : ∀ i j A, Den g A (f i j) (h i j)) : BiOk g (bInt2 f) (r2 (rI0 h)) := by
  intro A H ts vs s Q hA ht e hq
  unfold bInt2 at e
  split at e
  · cases e
    obtain ⟨v, w, rfl, h1, h2⟩ := ht.two
    have e1 := h1.int
    have e2 := h2.int
    subst e1; subst e2
    exact ⟨_, _, rfl, _, _, rfl, rfl, hq _ _ (.val (d _ _ _))⟩
  · cases e
theorem bo_int2c {c : Int → Int → Bool} {f : Int → Int → T} {P : Int → Int → Prop} {h : Int → Int → V} (hc : ∀ i j, c i j = true → P i j) (d : ∀ i j A, c i j = true → Den g A (f i j) (h i j)) : BiOk g (bInt2C c f) (r2 (rI P h)) := by
  intro A H ts vs s Q hA ht e hq
  unfold bInt2C at e
  split at e
  · rename_i i j
    by_cases k : c i j = true
    · rw [if_pos k] at e
      cases e
      obtain ⟨v, w, rfl, h1, h2⟩ := ht.two
      have e1 := h1.int
      have e2 := h2.int
      subst e1; subst e2
      exact ⟨_, _, rfl, _, _, rfl, rfl, hc _ _ k, hq _ _ (.val (d _ _ _ k))⟩
    · rw [if_neg k] at e; cases e
  · cases e
theorem bo_int1 {f : Int → T} {h : Int → V} (d : ∀ i A, Den g A (f i) (h i)) : BiOk g (bInt1 f) (r1 (rU h)) := by
  intro A H ts vs s Q hA ht e hq
  unfold bInt1 at e
  split at e
  · cases e
    obtain ⟨v, rfl, h1⟩ := ht.one
    have e1 := h1.int
    subst e1
    exact ⟨_, rfl, _, rfl, hq _ _ (.val (d _ _))⟩
  · cases e
theorem den_int {A : Av} {i : Int} : Den g A (.int i) (.int i) := by simp only [Den]
theorem den_bl {A : Av} {i : Bool} : Den g A (.bl i) (.bl i) := by simp only [Den]
theorem den_str {A : Av} {i : Str} : Den g A (.str i) (.str i) := by simp only [Den]
theorem bo_sub : BiOk g (biT C .sub) (r2 (rI0 fun i j => .int (i - j))) := bo_int2 fun _ _ _ => den_int
theorem bo_mul : BiOk g (biT C .mul) (r2 (rI CMul fun i j => .int (i * j))) := bo_int2c (fun i j k => by simpa [CMul] using k) fun _ _ _ _ => den_int
theorem bo_fdiv : BiOk g (biT C .fdiv) (r2 (rI CDiv fun i j => .int (i / j))) := bo_int2c (fun i j k => by simpa [CDiv] using k) fun _ _ _ _ => den_int
theorem bo_mod : BiOk g (biT C .mod) (r2 (rI (fun _ j => 0 < j) fun i j => .int (i % j))) := bo_int2c (fun i j k => by simpa using k) fun _ _ _ _ => den_int
theorem bo_pow : BiOk g (biT C .pow) (r2 (rI CPow fun i j => .int (i ^ j.toNat))) := bo_int2c (fun i j k => by
  have k' := of_decide_eq_true k
  exact ⟨k'.1, by omega, k'.2.2⟩) fun _ _ _ _ => den_int
theorem bo_neg : BiOk g (biT C .neg) (r1 (rU fun i => .int (-i))) := bo_int1 fun _ _ => den_int
theorem bo_lt : BiOk g (biT C .lt) (r2 (rI0 fun i j => .bl (decide (i < j)))) := bo_int2 fun _ _ _ => den_bl
theorem bo_le : BiOk g (biT C .le) (r2 (rI0 fun i j => .bl (decide (i ≤ j)))) := bo_int2 fun _ _ _ => den_bl
theorem bo_gt : BiOk g (biT C .gt) (r2 (rI0 fun i j => .bl (decide (j < i)))) := bo_int2 fun _ _ _ => den_bl
theorem bo_ge : BiOk g (biT C .ge) (r2 (rI0 fun i j => .bl (decide (j ≤ i)))) := bo_int2 fun _ _ _ => den_bl
def rAddA : R2 := fun x y H Q => (rI0 fun i j => .int (i + j)) x y H Q ∨ (∃ i j, x = .str i ∧ y = .str j ∧ i.length + j.length ≤ sizeLine ∧ Q (.str (i ++ j)) H) ∨ rCat x y H Q
theorem op_addA : OpR X (binaryOp .Add) rAddA := op_add.or (op_add_str.or op_cat)
theorem bo_add : BiOk g (biT C .add) (r2 rAddA) := by
  intro A H ts vs s Q hA ht e hq
  have e' : bAdd ts = some s := e
  unfold bAdd at e'
  split at e'
  · cases e'
    obtain ⟨v, w, rfl, h1, h2⟩ := ht.two
    have e1 := h1.int
    have e2 := h2.int
    subst e1; subst e2
    exact ⟨_, _, rfl, .inl ⟨_, _, rfl, rfl, hq _ _ .int⟩⟩
  · rename_i x y
    by_cases k : x.length + y.length ≤ line
    · rw [if_pos k] at e'
      cases e'
      obtain ⟨v, w, rfl, h1, h2⟩ := ht.two
      have e1 := h1.str
      have e2 := h2.str
      subst e1; subst e2
      exact ⟨_, _, rfl, .inr (.inl ⟨_, _, rfl, rfl, k, hq _ _ .str⟩)⟩
    · rw [if_neg k] at e'; cases e'
  · rename_i xs ys
    by_cases k : xs.length + ys.length ≤ line
    · rw [if_pos k] at e'
      cases e'
      obtain ⟨v, w, rfl, h1, h2⟩ := ht.two
      obtain ⟨a, us, rfl, ha, d1⟩ := h1.lst hA
      obtain ⟨b, ws, rfl, hb, d2⟩ := h2.lst hA
      exact ⟨_, _, rfl, .inr (.inr ⟨a, b, us, ws, rfl, rfl, ha, hb, by rw [← d1.length, ← d2.length]; exact k, fun p hp => hq _ _ (.newL hp (d1.append d2))⟩)⟩
    · rw [if_neg k] at e'; cases e'
  · cases e'
/-! ### calls on ints -/
def c2 (h : Int → Int → V) : List V → Hp → VK → Prop := fun xs H Q => ∃ i j, xs = [.int i, .int j] ∧ Q (h i j) H
theorem bo_c2 {f : Int → Int → T} {h : Int → Int → V} (d : ∀ i j A, Den g A (f i j) (h i j)) : BiOk g (bInt2 f) (c2 h) := (bo_int2 d).imp fun vs H Q ⟨x, y, e, i, j, e1, e2, q⟩ => ⟨i, j, by rw [e, e1, e2], q⟩
theorem bo_max2 : BiOk g (biT C .max2) (c2 fun i j => .int (if j > i then j else i)) := bo_c2 fun _ _ _ => den_int
theorem bo_min2 : BiOk g (biT C .min2) (c2 fun i j => .int (if j < i then j else i)) := bo_c2 fun _ _ _ => den_int
theorem bo_abs : BiOk g (biT C .abs) (fun xs H Q => ∃ i, xs = [.int i] ∧ Q (.int (if i < 0 then -i else i)) H) :=
  (bo_int1 (h := fun i => .int (if i < 0 then -i else i)) fun _ _ => den_int).imp fun vs H Q ⟨x, e, i, e1, q⟩ => ⟨i, by rw [e, e1], q⟩
theorem bo_int : BiOk g (biT C .int1) (fun xs H Q => (∃ i, xs = [.int i] ∧ Q (.int i) H) ∨ ∃ k, xs = [.bl k] ∧ Q (.int (if k then 1 else 0)) H) := by
  intro A H ts vs s Q hA ht e hq
  have e' : bInt ts = some s := e
  unfold bInt at e'
  split at e'
  · cases e'
    obtain ⟨v, rfl, h1⟩ := ht.one
    have e1 := h1.int
    subst e1
    exact .inl ⟨_, rfl, hq _ _ .int⟩
  · cases e'
    obtain ⟨v, rfl, h1⟩ := ht.one
    have e1 := h1.bl
    subst e1
    exact .inr ⟨_, rfl, hq _ _ .int⟩
  · cases e'
/-! ### equality -/
mutual
theorem den_dp {A : Av} {H : Hp} (hA : ∀ a u, A a u → Rd2 H a u) : ∀ (t : T) (d : PyData) (v : V), toD t = some d → Den g A t v → Dp g.K H v d
  | .non, d, v, e, h => by simp only [toD] at e; cases e; simp only [Den] at h; subst h; exact .non
  | .bl b, d, v, e, h => by simp only [toD] at e; cases e; simp only [Den] at h; subst h; exact .bl b
  | .int i, d, v, e, h => by simp only [toD] at e; cases e; simp only [Den] at h; subst h; exact .int i
  | .str x, d, v, e, h => by simp only [toD] at e; cases e; simp only [Den] at h; subst h; exact .str x
  | .tup ts, d, v, e, h => by
    simp only [toD] at e
    obtain ⟨ds, e1, rfl⟩ := Option.map_eq_some_iff.mp e
    simp only [Den] at h
    obtain ⟨a, xs, rfl, h, l⟩ := h
    refine .tup ?_ (den_dps hA ts ds xs e1 l)
    rcases h with h | h
    · exact SqT.of (tup_of hA h)
    · exact h.sq
  | .lst ts, d, v, e, h => by
    simp only [toD] at e
    obtain ⟨ds, e1, rfl⟩ := Option.map_eq_some_iff.mp e
    simp only [Den] at h
    obtain ⟨a, xs, rfl, h, l⟩ := h
    exact .lst (SqL.of (lst_of hA h)) (den_dps hA ts ds xs e1 l)
  | .dct _ _ _, d, v, e, h => by simp only [toD] at e; cases e
  | .ins _ _ _, d, v, e, h => by simp only [toD] at e; cases e
theorem den_dps {A : Av} {H : Hp} (hA : ∀ a u, A a u → Rd2 H a u) : ∀ (ts : List T) (ds : List PyData) (vs : List V), toDs ts = some ds → DenL g A ts vs → DpAll g.K H vs ds
  | [], ds, vs, e, h => by
    simp only [toDs] at e; cases e
    simp only [DenL] at h; subst h
    exact .nil
  | t :: ts, ds, vs, e, h => by
    simp only [toDs] at e
    obtain ⟨d, e1, e2⟩ := Option.bind_eq_some_iff.mp e
    obtain ⟨ds', e3, rfl⟩ := Option.map_eq_some_iff.mp e2
    simp only [DenL] at h
    obtain ⟨v, ws, rfl, h1, h2⟩ := h
    exact .cons (den_dp hA t d v e1 h1) (den_dps hA ts ds' ws e3 h2)
end
theorem top_dp {A : Av} {H : Hp} {t : T} {d : PyData} {v : V} (hA : ∀ a u, A a u → Rd2 H a u) (e : toD t = some d) (h : Top g A H t v) : Dp g.K H v d := by
  rcases h with h | ⟨a, o, rfl, ho, h⟩
  · exact den_dp hA t d v e h
  · cases t with
    | lst ts =>
      obtain ⟨xs, rfl, l⟩ := h
      simp only [toD] at e
      obtain ⟨ds, e1, rfl⟩ := Option.map_eq_some_iff.mp e
      exact .lst (SqL.of ho) (den_dps hA ts ds xs e1 l)
    | dct _ _ _ => simp only [toD] at e; cases e
    | ins _ _ _ => simp only [toD] at e; cases e
    | _ => exact h.elim
theorem eqD_some {t u : T} {b : Bool} (h : eqD t u = some b) : ∃ d e, toD t = some d ∧ toD u = some e ∧ SeqAt.shaped d = true ∧ SeqAt.shaped e = true ∧ b = PyData.eqv d e := by
  unfold eqD at h
  obtain ⟨d, e1, h⟩ := Option.bind_eq_some_iff.mp h
  obtain ⟨e, e2, h⟩ := Option.bind_eq_some_iff.mp h
  by_cases k : (SeqAt.shaped d && SeqAt.shaped e) = true
  · rw [if_pos k] at h
    rw [Bool.and_eq_true] at k
    exact ⟨d, e, e1, e2, k.1, k.2, (Option.some.inj h).symm⟩
  · rw [if_neg k] at h; cases h
theorem bo_eq : BiOk g (biT C .eq) (r2 (rEqD g.K)) := by
  intro A H ts vs s Q hA ht e hq
  have e' : bEq false ts = some s := e
  unfold bEq at e'
  split at e'
  · obtain ⟨b, e1, rfl⟩ := Option.map_eq_some_iff.mp e'
    obtain ⟨d, ee, h1, h2, s1, s2, rfl⟩ := eqD_some e1
    obtain ⟨v, w, rfl, t1, t2⟩ := ht.two
    exact ⟨v, w, rfl, d, ee, top_dp hA h1 t1, top_dp hA h2 t2, s1, s2, hq _ _ .bl⟩
  · cases e'
theorem bo_ne : BiOk g (biT C .ne) (r2 (rNeD g.K)) := by
  intro A H ts vs s Q hA ht e hq
  have e' : bEq true ts = some s := e
  unfold bEq at e'
  split at e'
  · obtain ⟨b, e1, rfl⟩ := Option.map_eq_some_iff.mp e'
    obtain ⟨d, ee, h1, h2, s1, s2, rfl⟩ := eqD_some e1
    obtain ⟨v, w, rfl, t1, t2⟩ := ht.two
    exact ⟨v, w, rfl, d, ee, top_dp hA h1 t1, top_dp hA h2 t2, s1, s2, hq _ _ .bl⟩
  · cases e'
theorem isNon_iff {A : Av} {H : Hp} {t : T} {v : V} (h : Top g A H t v) : isNon t = decide (v = .non) := by
  rcases h with h | ⟨a, o, rfl, ho, h⟩
  · cases t with
    | dct tk ks ts => cases tk <;> (simp only [Den] at h; obtain ⟨a, kvs, rfl, _⟩ := h; rfl)
    | ins c fs ts => simp only [Den] at h; obtain ⟨a, dx, us, rfl, _⟩ := h; rfl
    | tup ts => simp only [Den] at h; obtain ⟨a, xs, rfl, _⟩ := h; rfl
    | lst ts => simp only [Den] at h; obtain ⟨a, xs, rfl, _⟩ := h; rfl
    | _ => simp only [Den] at h; subst h; rfl
  · cases t <;> first | rfl | exact h.elim
theorem bo_isN : BiOk g (biT C .isN) (r2 fun x y H Q => y = .non ∧ Q (.bl (decide (x = .non))) H) := by
  intro A H ts vs s Q hA ht e hq
  have e' : bIsN false ts = some s := e
  unfold bIsN at e'
  split at e'
  · cases e'
    obtain ⟨v, w, rfl, t1, t2⟩ := ht.two
    have ew := t2.non
    subst ew
    refine ⟨v, _, rfl, rfl, hq _ _ ?_⟩
    rw [← isNon_iff t1]
    exact .bl
  · cases e'
theorem bo_notN : BiOk g (biT C .notN) (r2 fun x y H Q => y = .non ∧ Q (.bl (!decide (x = .non))) H) := by
  intro A H ts vs s Q hA ht e hq
  have e' : bIsN true ts = some s := e
  unfold bIsN at e'
  split at e'
  · cases e'
    obtain ⟨v, w, rfl, t1, t2⟩ := ht.two
    have ew := t2.non
    subst ew
    refine ⟨v, _, rfl, rfl, hq _ _ ?_⟩
    rw [← isNon_iff t1]
    exact .bl
  · cases e'
/-! ### in -/
theorem flat_den {A : Av} {t : T} {v : V} (f : flT t = true) (h : Den g A t v) : flatV v = true ∧ ∀ u w, flT u = true → Den g A u w → eqV w v = eqF u t := by
  cases t with
  | non =>
    simp only [Den] at h; subst h
    refine ⟨rfl, fun u w fu hu => ?_⟩
    cases u <;> first | (simp only [Den] at hu; subst hu; rfl) | (simp [flT] at fu)
  | bl b =>
    simp only [Den] at h; subst h
    refine ⟨rfl, fun u w fu hu => ?_⟩
    cases u <;> first | (simp only [Den] at hu; subst hu; rfl) | (simp [flT] at fu)
  | int i =>
    simp only [Den] at h; subst h
    refine ⟨rfl, fun u w fu hu => ?_⟩
    cases u <;> first | (simp only [Den] at hu; subst hu; rfl) | (simp [flT] at fu)
  | str x =>
    simp only [Den] at h; subst h
    refine ⟨rfl, fun u w fu hu => ?_⟩
    cases u <;> first | (simp only [Den] at hu; subst hu; rfl) | (simp [flT] at fu)
  | _ => simp [flT] at f
theorem flats_den {A : Av} {x : T} {v : V} (fx : flT x = true) (hx : Den g A x v) : ∀ {ts : List T} {vs : List V}, ts.all flT = true → DenL g A ts vs → vs.all flatV = true ∧ inV v vs = inT x ts
  | [], vs, _, d => by simp only [DenL] at d; subst d; exact ⟨rfl, rfl⟩
  | t :: ts, vs, f, d => by
    simp only [DenL] at d
    obtain ⟨w, ws, rfl, d1, d2⟩ := d
    rw [List.all_cons, Bool.and_eq_true] at f
    obtain ⟨h1, h2⟩ := flats_den fx hx f.2 d2
    refine ⟨by rw [List.all_cons, (flat_den f.1 d1).1, h1]; rfl, ?_⟩
    unfold inV inT at h2 ⊢
    rw [List.any_cons, List.any_cons, h2, (flat_den fx hx).2 t w f.1 d1]
theorem top_flat {A : Av} {H : Hp} {t : T} {v : V} (f : flT t = true) (h : Top g A H t v) : Den g A t v := by
  rcases h with h | ⟨a, o, rfl, ho, h⟩
  · exact h
  · cases t <;> first | exact h.elim | (simp [flT] at f)
def rInA (K : PySem.W.Frag) (n : Bool) : R2 := fun x y H Q => rIn K n x y H Q ∨ ∃ a ov, y = .ref a ∧ DGet H a x ov ∧ Q (.bl (if n then !ov.isSome else ov.isSome)) H
theorem in_dict (hu : X.A.units + 1 < cLine) : OpR X (compareOp .In) (fun x y H Q => ∃ a ov, y = .ref a ∧ DGet H a x ov ∧ Q (.bl ov.isSome) H) := by
  intro pins s σ H x y v u Q I rx ry h
  obtain ⟨a, ov, rfl, gg, q⟩ := h
  obtain rfl : u = Value.ref a := ry
  exact d_in hu I gg rx fun s3 I3 => ⟨.bl ov.isSome, H, I3, rfl, q⟩
theorem nin_dict (hu : X.A.units + 1 < cLine) : OpR X (compareOp .NotIn) (fun x y H Q => ∃ a ov, y = .ref a ∧ DGet H a x ov ∧ Q (.bl !ov.isSome) H) := by
  intro pins s σ H x y v u Q I rx ry h
  obtain ⟨a, ov, rfl, gg, q⟩ := h
  obtain rfl : u = Value.ref a := ry
  exact d_notIn hu I gg rx fun s3 I3 => ⟨.bl !ov.isSome, H, I3, rfl, q⟩
theorem op_inA (hu : X.A.units + 1 < cLine) : OpR X (compareOp .In) (rInA X.K false) := op_in_seq.or (in_dict hu)
theorem op_ninA (hu : X.A.units + 1 < cLine) : OpR X (compareOp .NotIn) (rInA X.K true) := op_notIn_seq.or (nin_dict hu)
/-- a dict's key as a value -/
theorem key_den {A : Av} {t : T} {k : Key} {v : V} (e : keyT t = some (.inl k)) (h : Den g A t v) : v = kV k := by
  cases t with
  | int i => simp only [keyT] at e; cases e; simp only [Den] at h; exact h
  | str s => simp only [keyT] at e; cases e; simp only [Den] at h; exact h
  | tup xs =>
    simp only [keyT] at e
    obtain ⟨_, _, e⟩ := Option.map_eq_some_iff.mp e
    cases e
  | _ => simp [keyT] at e
theorem key_top {A : Av} {H : Hp} {t : T} {k : DK} {v : V} (e : keyT t = some k) (h : Top g A H t v) : Den g A t v := by
  rcases h with h | ⟨a, o, rfl, ho, h⟩
  · exact h
  · cases t <;> first | exact h.elim | (simp [keyT] at e)
theorem valV_dGet {A : Av} {k : Key} : ∀ {kvs : List (Key × V)} {ts : List T}, DenL g A ts (kvs.map (·.2)) →
    (dGet (kvs.map fun p => .inl p.1) ts (.inl k) = none ↔ valV kvs k = none) ∧ ∀ t, dGet (kvs.map fun p => .inl p.1) ts (.inl k) = some t → ∃ v, valV kvs k = some v ∧ Den g A t v
  | [], ts, d => by
    simp only [List.map_nil] at d ⊢
    refine ⟨⟨fun _ => by simp [valV], fun _ => by cases ts <;> simp [dGet]⟩, fun t h => ?_⟩
    cases ts <;> simp [dGet] at h
  | (k', v) :: kvs, ts, d => by
    simp only [List.map_cons] at d ⊢
    cases ts with
    | nil => simp [DenL] at d
    | cons t ts =>
      simp only [DenL] at d
      obtain ⟨w, ws, e, d1, d2⟩ := d
      cases e
      have ih := valV_dGet (k := k) d2
      simp only [dGet, Sum.inl.injEq]
      by_cases c : k' = k
      · subst c
        rw [if_pos rfl]
        refine ⟨⟨fun h => by simp at h, fun h => by simp [valV] at h⟩, fun u hu => ?_⟩
        cases hu
        exact ⟨_, by simp [valV], d1⟩
      · rw [if_neg c]
        have e : valV ((k', v) :: kvs) k = valV kvs k := by simp [valV, c]
        rw [e]
        exact ih
theorem contains_valV {k : Key} : ∀ {kvs : List (Key × V)}, hasK (kvs.map fun p => (Sum.inl p.1 : DK)) (.inl k) = (valV kvs k).isSome
  | [] => by simp [valV, hasK]
  | (k', v) :: kvs => by
    have ih := contains_valV (k := k) (kvs := kvs)
    unfold hasK at ih ⊢
    rw [List.map_cons, List.any_cons, ih]
    by_cases c : k' = k
    · subst c
      rw [valV_pos rfl, decide_eq_true rfl]; rfl
    · rw [valV_neg c, decide_eq_false (fun z => c (Sum.inl.inj z))]; rfl
/-- a dict whose keys are ints and texts -/
theorem Top.dK {A : Av} {H : Hp} {ks : List DK} {ts : List T} {v : V} (hA : ∀ a u, A a u → Rd2 H a u) (h : Top g A H (.dct false ks ts) v) :
    ∃ a kvs, v = .ref a ∧ Rd H a (.dK kvs) ∧ ks = kvs.map (fun p => .inl p.1) ∧ DenL g A ts (kvs.map (·.2)) := by
  rcases h with h | ⟨a, o, rfl, ho, h⟩
  · simp only [Den] at h
    obtain ⟨a, kvs, rfl, h, k, d⟩ := h
    exact ⟨a, kvs, rfl, (hA _ _ h).rd, k, d⟩
  · obtain ⟨kvs, rfl, k, d⟩ := h
    exact ⟨a, kvs, rfl, .inl ho, k, d⟩
theorem bo_in (n : Bool) : BiOk g (bIn n) (r2 (rInA g.K n)) := by
  intro A H ts vs s Q hA ht e hq
  unfold bIn at e
  split at e
  · rename_i x xs
    by_cases k : (flT x && xs.all flT) = true
    · rw [if_pos k] at e
      cases e
      rw [Bool.and_eq_true] at k
      obtain ⟨v, w, rfl, t1, t2⟩ := ht.two
      obtain ⟨a, us, rfl, sq, d⟩ := t2.tupS hA
      obtain ⟨f1, f2⟩ := flats_den k.1 (top_flat k.1 t1) k.2 d
      exact ⟨v, _, rfl, .inl ⟨a, us, rfl, .inr sq, (flat_den k.1 (top_flat k.1 t1)).1, f1, hq _ _ (by rw [f2]; exact .bl)⟩⟩
    · rw [if_neg k] at e; cases e
  · rename_i x xs
    by_cases k : (flT x && xs.all flT) = true
    · rw [if_pos k] at e
      cases e
      rw [Bool.and_eq_true] at k
      obtain ⟨v, w, rfl, t1, t2⟩ := ht.two
      obtain ⟨a, us, rfl, sq, d⟩ := t2.lst hA
      obtain ⟨f1, f2⟩ := flats_den k.1 (top_flat k.1 t1) k.2 d
      exact ⟨v, _, rfl, .inl ⟨a, us, rfl, .inl (SqL.of sq), (flat_den k.1 (top_flat k.1 t1)).1, f1, hq _ _ (by rw [f2]; exact .bl)⟩⟩
    · rw [if_neg k] at e; cases e
  · rename_i x ks us
    obtain ⟨k, e1, e2⟩ := Option.bind_eq_some_iff.mp e
    cases k with
    | inr _ => cases e2
    | inl k =>
      cases e2
      obtain ⟨v, w, rfl, t1, t2⟩ := ht.two
      have ev := key_den e1 (key_top e1 t1)
      subst ev
      obtain ⟨a, kvs, rfl, hr, rfl, d⟩ := t2.dK hA
      exact ⟨_, _, rfl, .inr ⟨a, valV kvs k, rfl, .inl ⟨kvs, k, hr, rfl, rfl⟩, hq _ _ (by rw [← contains_valV]; exact .bl)⟩⟩
  · cases e
/-! ### items -/
def rIxA (K : PySem.W.Frag) : R2 := fun x y H Q => rIxL K x y H Q ∨ rIxT K x y H Q ∨ rIxS x y H Q ∨ ∃ a v, x = .ref a ∧ DGet H a y (some v) ∧ Q v H
theorem IxR.dict (hu : X.A.units + 1 < cLine) : IxR X (fun x y H Q => ∃ a v, x = .ref a ∧ DGet H a y (some v) ∧ Q v H) := by
  intro value slice pins s σ H x y v u Q I rx ry q hs
  obtain ⟨a, w, rfl, gg, q⟩ := q
  cases rx
  exact tail_any (dict_typeIs I gg) PySem.F.slot_dict_getitem.lookup (d_getItem hu I gg ry fun w' s3 I3 rw' => ⟨w, H, I3, rw', q⟩) hs
theorem ix_all (hu : X.A.units + 1 < cLine) : IxR X (rIxA X.K) := ix_list.or (ix_tup.or (ix_str.or (IxR.dict hu)))
end
end TL

set_option Elab.async false
set_option linter.all false
set_option maxRecDepth 100000
set_option maxHeartbeats 2000000
set_option autoImplicit false
/-! TLm: an own error whose __init__ says super().__init__('..') and perhaps keeps its argument. -/
namespace TL
open PySem PySem.Spec PyProof.Rows PySem.W PySem.Calls

/-- self's and the argument's names in the scope of __init__ -/
structure SupScope (sc : Scope) : Prop where
  kind : sc.kind = .function
  sup : sc.names.lookup ("super" : Str) = some .globalImplicit
  cls : sc.names.lookup ("__class__" : Str) = some .free
  slf : sc.names.lookup ("self" : Str) = some .local
  nocell : ∀ x ∈ sc.names, x.2 ≠ .cell
  co : sc.isCoroutine = false
  gen : sc.isGenerator = false
/-- what the written part says of an error class at C and its __init__ at fI -/
structure ErrTxt (P : Program) (K : Frag) (mg : Str → Option Value) (C fI : Addr) (qual : Str) (params : Arguments) (body : List Stmt) (sc : Scope) : Prop where
  cls : ∃ nm q N bs bm sn sub ab col dd k0 k1 k2 k3 k5, K.lookup C = some (excClassObj nm q C N bs bm true sn sub ab col dd k0 k1 k2 k3 k5 "ValueError.__new__") ∧ HandSPX.refsVE bm = true
  sa : findIn K (.ref C) "__setattr__" = some (some (.builtin "object.__setattr__"))
  iC : findIn K (.ref C) "__init__" = some (some (.ref fI))
  tI : typeIn K (.ref fI) = some (.type "function")
  kC : keepIn K (.ref C) = true
  exC : subIn K (.ref C) (.type "BaseException") = some true
  tyC : typeIn K (.ref C) = some (.type "type")
  sve : subIn K (.ref C) (.type "ValueError") = some true
  slf : mroIn K C (.ref C) = some true
  sup : ks_superIn K C C "__init__" = some (some (.builtin "ValueError.__init__"))
  opq : nsIn K cStatics "thirdparty.any" = some none
  sup0 : mg "super" = none
  top : (P.main.scope.names.lookup ("super" : Str)).isSome = false
  scope : SupScope sc
  fn : ∃ (oc : Value) (od : Option Addr) (name : Str) (kV doc pm : Value) (an : Option Addr) (cda : Addr) (ct : Value) (osl : Array (Option Value)) (cc : Addr),
    K.lookup fI = some ⟨oc, od, .func (ksFn name qual params body sc .none kV doc pm an (.ref cda) ct cc), osl⟩ ∧ codeIn K (.ref cda) qual = true ∧
    (∃ ccl cdd vs ccs file tf, K.lookup cda = some ⟨ccl, cdd, .fields vs, ccs⟩ ∧ vs[2]? = some (.str file tf) ∧ ((P.main.file : Str) == file) = true) ∧
    ∃ cl cld csl, K.lookup cc = some ⟨cl, cld, .cell (some (.ref C)), csl⟩
theorem mc_line {o : Expr} {name : Str} {p2 p4 : Pos} {env : PySem.Env} {e : Expr} (hl : (p2.endLine == p4.line) = true) (hs : starEach [e] env = (false, eval e env) :: starEach [] env) :
    eval (.Call (.Attribute o name p2) [e] [] p4) env = (do
      let ov ← attributeBase o name env (eval o env)
      standAt p2.atName
      let (f, first) ← holding [ov] (getMethod ov name (do return (← importBound o env).getD true))
      callWith p4 f first (backTo p4 (starEach [e] env)) []) := by
  have hf : methodCallForm 1 (backTo p4 (starEach [e] env)) (backToKw p4 (keywordEach [] env)) = true := by rw [hs]; rfl
  have hp : methodCallPos true o env p2 p4 = pure p4 := by
    unfold methodCallPos
    rw [hl]; rfl
  have h1 : ∀ ov : Value, methodCall o name p2 p4 env ov ([e].length + ([] : List Keyword).length) (backTo p4 (starEach [e] env)) (backToKw p4 (keywordEach [] env)) = (do
      let (f, first) ← holding [ov] (getMethod ov name (do return (← importBound o env).getD true))
      callWith p4 f first (backTo p4 (starEach [e] env)) []) := by
    intro ov
    unfold methodCall
    rw [show [e].length + ([] : List Keyword).length = 1 from rfl, hf, hp]
    rfl
  show (attributeBase o name env (eval o env) >>= fun ov => standAt p2.atName >>= fun _ => methodCall o name p2 p4 env ov ([e].length + ([] : List Keyword).length) (backTo p4 (starEach [e] env)) (backToKw p4 (keywordEach [] env))) = _
  simp only [h1]
theorem exc_there {K : Frag} {h : Heap} {C x t0 : Addr} {cd : ClassData} (X : K.In h) (hx : h.get? x = some (HandSPX.excO C t0)) (hc : clsIn K C = some cd) : x ≠ C :=
  ks_ne (ox := HandSPX.excO C t0) (odx := none) X ⟨hx, rfl, rfl, trivial⟩ hc
section
variable {prog : Program} {w : World} {A : Around} {E : Value → Shared → Prop} {h : Heap} {g : Array GenState} {d : Drawn} {t : Nat} {os : OsState}
/-- the wrapper is called -/
theorem mw_call {K : Frag} {C u x t0 : Addr} {rest : List Value} {Q : Value → Shared → Prop} {nm q : Str} {N : Addr} {bs bm : List Value} {sn : List Str} {sub : List Value} {ab : Bool} {col : Option Bool} {dd : Option Addr} {k0 k1 k2 k3 k5 : Option Value}
    (hC : h.get? C = some (excClassObj nm q C N bs bm true sn sub ab col dd k0 k1 k2 k3 k5 "ValueError.__new__")) (hu : h.get? u = some (kxs_mw "ValueError.__init__" x)) (hx : h.get? x = some (HandSPX.excO C t0)) (hz : rest.length ≤ sizeLine)
    (k : ∀ h' t1, (∀ b o, b ≠ x → h.get? b = some o → h'.get? b = some o) → h'.get? x = some (HandSPX.excO C t1) → Q .none ⟨h', g, d, t, os⟩) :
    wpAny (model prog w) A (call (.ref u) rest) Q E ⟨h, g, d, t, os⟩ := by
  refine wpAny_call (codeAny_of_tree ?_)
  show wpAny _ A.in1 (callAny (.ref u) ⟨rest, []⟩) _ _ _
  simp only [callAny]
  refine wpAny_bind (wpAny_load hu ?_)
  have e1 : (Value.type "method-wrapper" == Value.type "method" || Value.type "method-wrapper" == Value.type "builtin_function_or_method" || Value.type "method-wrapper" == Value.type "method-wrapper") = true := by decide
  simp only [kxs_mw, e1, if_true]
  refine KFB.if_so (by decide) ?_
  refine wpAny_bind (check_bound_init F.excBase_ValueError.toExcCallFacts hC hx rfl ?_)
  refine wpAny_bind (wpAny_pure (wpAny_pure ?_))
  exact ⟨plainId_quiet F.excBase_ValueError.init.plain _, codeAny_builtin F.excBase_ValueError.initEntry
    (exc_init_tree (cls := .ref C) (t0 := t0) (dv := none) (c2 := .none) (c3 := .none) (b4 := .bool false) hx hz fun h' kk e1 _ => k h' _ kk e1)⟩
end
section
variable {prog : Program} {w : World} {A : Around} {E : Value → Shared → Prop} {R : Result → Shared → Prop} {s : Shared} {K : Frag} {mg : Str → Option Value} {C fI : Addr} {qual : Str} {params : Arguments} {body : List Stmt} {sc : Scope}
/-- super().__init__('m') -/
theorem super_stmt (T : ErrTxt prog K mg C fI qual params body sc) {L x t0 cda cc : Addr} {m : Str → Option Value} {mb : Str → Option Value} {p0 p1 p2 p3 p4 p5 : Pos} {j : Nat} {msg : Str}
    {oc : Value} {od : Option Addr} {name : Str} {kV doc pm : Value} {an : Option Addr} {ct : Value} {osl : Array (Option Value)}
    (hf : K.lookup fI = some ⟨oc, od, .func (ksFn name qual params body sc .none kV doc pm an (.ref cda) ct cc), osl⟩) (har : ∃ ar, (params.posonlyargs ++ params.args).head? = some ar ∧ ar.arg = "self")
    (hcd : ∃ ccl cdd vs ccs file tf, K.lookup cda = some ⟨ccl, cdd, .fields vs, ccs⟩ ∧ vs[2]? = some (.str file tf) ∧ ((prog.main.file : Str) == file) = true)
    (hcc : ∃ cl cld csl, K.lookup cc = some ⟨cl, cld, .cell (some (.ref C)), csl⟩)
    (X : K.In s.heap) (G : s.heap.Ns mainGlobals mg) (B : s.heap.Ns builtinsNs mb) (hb : mb "super" = some (.type "super")) (hn : s.heap.Ns L m) (hm : m "self" = some (.ref x)) (hl : (p2.endLine == p4.line) = true) (hx : s.heap.get? x = some (HandSPX.excO C t0)) {Q : Flow → Shared → Prop}
    (k : ∀ h' tk t1, (∀ b o, b ≠ x → s.heap.get? b = some o → h'.get? b = some o) → h'.get? x = some (HandSPX.excO C t1) → Q .next { s with heap := h', toks := tk }) :
    _root_.PySem.wpAt (model prog w) A (.func body (ksEnv qual sc L fI (.ref cda) cc)) (exec (.Expr (.Call (.Attribute (.Call (.Name "super" p0) [] [] p1) "__init__" p2) [.Constant (.str msg) j p3] [] p4) p5) (ksEnv qual sc L fI (.ref cda) cc)) Q E s := by
  obtain ⟨nm, q, N, bs, bm, sn, sub, ab, col, dd, k0, k1, k2, k3, k5, hC, hbm⟩ := T.cls
  obtain ⟨ar, ha1, ha2⟩ := har
  obtain ⟨ccl, cdd, vs, ccs, file, tf, hc1, hc2, hc3⟩ := hcd
  obtain ⟨cl, cld, csl, hcc⟩ := hcc
  have hcl : clsIn K C = some { name := nm, bases := bs, mro := .ref C :: bm, ns := N, qualname := q, hasDict := true, slotNames := sn, subclasses := sub, abstract := ab, collection := col, hasDel := false } := by unfold clsIn; rw [hC] <;> rfl
  obtain ⟨hh, g, d, t, os⟩ := s
  have xC : x ≠ C := exc_there X hx hcl
  refine ks_wpAt_Expr_any (ks_wpAt_MethodCall ?_ (mc_line hl rfl)) (by unfold interactive; rw [T.scope.kind]; rfl)
  refine ks_wpAt_super_base (env := ksEnv qual sc L fI (.ref cda) cc) T.scope.sup T.scope.cls (by decide) rfl (X _ _ hf) rfl ha1 rfl (X _ _ hc1) rfl hc2 hc3 T.top ?_
  refine ks_loadName_global T.scope.kind T.scope.sup (loadGlobal_builtin (env := ksEnv qual sc L fI (.ref cda) cc) G T.sup0 B hb ⟨rfl, ?_⟩)
  refine wpAny_loadName_free T.scope.kind T.scope.cls rfl ⟨_, X _ _ hcc, rfl⟩ ?_
  rw [ha2]
  refine wpAny_loadName_local T.scope.kind T.scope.slf hn hm ?_
  refine ks_wpAny_isType_cls (X _ _ hC) rfl ⟨rfl, ?_⟩
  refine ks_wpAny_call_super (X _ _ hC) rfl hx rfl (fun c e => by cases e) (looks_mroIn X T.slf) fun h1 e1 up1 => ?_
  have X1 : K.In h1 := X.keeps up1
  have hx1 := up1 _ _ hx
  have I1 : InstAt h1 x (HandSPX.excO C t0) C none := ⟨hx1, rfl, rfl, trivial⟩
  have hsup := T.sup
  unfold ks_superIn at hsup
  rw [hcl] at hsup
  refine kxs_getMethod kxs_ValueError e1 (looks_opaque X1 T.opq) (l₀ := .ref C :: bm) (fun A Q E s kp q => wpAny_bind ((looks_clsIn X1 hcl) A _ E s kp (wpAny_pure q))) rfl X1 hsup (I1.type.andThen (looks_subIn X1 T.sve)) xC (by decide) ?_
  have hmw : (h1.push (kxs_mw "ValueError.__init__" x)).get? h1.objs.size = some (kxs_mw "ValueError.__init__" x) := Heap.get?_push_at rfl rfl
  have up2 : ∀ b o, hh.get? b = some o → (h1.push (kxs_mw "ValueError.__init__" x)).get? b = some o := fun b o e => Heap.get?_push_of_some _ (up1 b o e)
  refine kxs_callWith (i := "ValueError.__init__") (x := x) (by rfl) ?_
  refine evalArgs_plain (spliced_cons (Constant_str (k := j) (pos := p3) (spliced_nil ⟨hmw, ?_⟩)))
  refine mw_call (K := K) (up2 _ _ (X _ _ hC)) hmw (up2 _ _ hx) (by rw [sizeLine_eq]; exact (by decide : 1 ≤ 16777216)) fun h' t1 kk hx' => ?_
  exact k h' _ t1 (fun b o hb e => kk b o hb (up2 b o e)) hx'
/-- what __init__ leaves of a fresh exception at x: no field | one field -/
def InitE (h h' : Heap) (x C : Addr) (fl : Option (Str × Value)) : Prop :=
  (∀ b o, b ≠ x → h.get? b = some o → h'.get? b = some o) ∧ ∃ t1 : Addr, match fl with
    | none => h'.get? x = some (HandSPX.excO C t1)
    | some (f, v) => ∃ dx, h.objs.size ≤ dx ∧ dx ≠ x ∧ h'.get? x = some { cls := .ref C, dict := some dx, data := .fields #[.ref t1, .none, .none, .none, .bool false, .none] } ∧ h'.Ns1 dx (fun y => if y = f then some v else none)
/-- the bodies of __init__ that are known -/
inductive InitBody : List Stmt → Option (Str × Str) → Prop
  | plain {p0 p1 p2 p3 p4 p5 : Pos} {j : Nat} {msg : Str} (hl : (p2.endLine == p4.line) = true) :
    InitBody [.Expr (.Call (.Attribute (.Call (.Name "super" p0) [] [] p1) "__init__" p2) [.Constant (.str msg) j p3] [] p4) p5] none
  | keeps {p0 p1 p2 p3 p4 p5 q0 q1 q2 q3 : Pos} {j : Nat} {msg f n : Str} (hl : (p2.endLine == p4.line) = true) :
    InitBody [.Expr (.Call (.Attribute (.Call (.Name "super" p0) [] [] p1) "__init__" p2) [.Constant (.str msg) j p3] [] p4) p5, .Assign [.Attribute (.Name "self" q0) f q1] (.Name n q2) q3] (some (f, n))
def argsOfB (x : Addr) (n : Option (Str × Str)) (v : Value) : List Value := match n with
  | none => [.ref x]
  | some _ => [.ref x, v]
def bindsOfB (x : Addr) (n : Option (Str × Str)) (v : Value) : List (Str × Value) := match n with
  | none => [("self", .ref x)]
  | some (_, a) => [("self", .ref x), (a, v)]
structure InitArgs (K : Frag) (C : Addr) (params : Arguments) (sc : Scope) (n : Option (Str × Str)) : Prop where
  head : ∃ ar, (params.posonlyargs ++ params.args).head? = some ar ∧ ar.arg = "self"
  fld : ∀ f a, n = some (f, a) → findIn K (.ref C) f = some none ∧ sc.names.lookup a = some .local ∧ (a == ("__debug__" : Str)) = false ∧ (("self" : Str) == a) = false
theorem err_init (T : ErrTxt prog K mg C fI qual params body sc) {n : Option (Str × Str)} (hbody : InitBody body n) (ha : InitArgs K C params sc n) {x t0 : Addr} {v : Value} {mb : Str → Option Value}
    (hbd : ∀ (s : Shared) (fd : FuncData), (∃ (name : Str) (kV doc pm : Value) (an : Option Addr) (cdv ct : Value) (cc : Addr), fd = ksFn name qual params body sc .none kV doc pm an cdv ct cc) → BindsTo s fd ⟨argsOfB x n v, []⟩ (bindsOfB x n v))
    (X : K.In s.heap) (G : s.heap.Ns mainGlobals mg) (B : s.heap.Ns builtinsNs mb) (hb : mb "super" = some (.type "super")) (hlim : s.heap.NoLimit) (hx : s.heap.get? x = some (HandSPX.excO C t0)) (hnx : K.lookup x = none) (hroom : A.depth < recursionLimit)
    (hq : ∀ h' tk, InitE s.heap h' x C (n.map fun p => (p.1, v)) → R (.ok (.ret .none)) { s with heap := h', toks := tk }) :
    codeAny (model prog w) A (.call (.ref fI) ⟨argsOfB x n v, []⟩) R s := by
  obtain ⟨nm, q, N, bs, bm, sn, sub, ab, col, dd, k0, k1, k2, k3, k5, hC, hbm⟩ := T.cls
  have hcl : clsIn K C = some { name := nm, bases := bs, mro := .ref C :: bm, ns := N, qualname := q, hasDict := true, slotNames := sn, subclasses := sub, abstract := ab, collection := col, hasDel := false } := by unfold clsIn; rw [hC] <;> rfl
  obtain ⟨oc, od, name, kV, doc, pm, an, cda, ct, osl, cc, hf, hcd, hcode, hcc⟩ := T.fn
  have hloc : ∀ y ∈ bindsOfB x n v, sc.names.lookup y.1 = some .local := by
    intro y hy
    cases n with
    | none =>
      cases List.mem_singleton.mp hy
      exact T.scope.slf
    | some p =>
      obtain ⟨f, a⟩ := p
      rcases List.mem_cons.mp hy with rfl | hy
      · exact T.scope.slf
      · cases List.mem_singleton.mp hy
        exact (ha.fld f a rfl).2.1
  refine ks_codeAny_call_defAt (fd := ksFn name qual params body sc .none kV doc pm an (.ref cda) ct cc) (body := body) (binds := bindsOfB x n v) hroom (X _ _ hf) rfl hlim (codeRec_of X hcd) rfl (hbd _ _ ⟨_, _, _, _, _, _, _, _, rfl⟩) T.scope.nocell hloc
    (fun h₀ hns up => ?_) T.scope.co T.scope.gen T.scope.kind
  have hself : (fun y => (bindsOfB x n v).reverse.lookup y) ("self" : Str) = some (.ref x) := by
    cases n with
    | none => rfl
    | some p =>
      obtain ⟨f, a⟩ := p
      show List.lookup ("self" : Str) [(a, v), ("self", .ref x)] = _
      simp only [List.lookup, (ha.fld f a rfl).2.2.2, beq_self_eq_true]
  have xs : x < s.heap.objs.size := Heap.lt_size hx
  show _root_.PySem.wpAt (model prog w) (A.deeper (ksEnv qual sc s.heap.objs.size fI (.ref cda) cc)) (.func body (ksEnv qual sc s.heap.objs.size fI (.ref cda) cc)) (execs body (ksEnv qual sc s.heap.objs.size fI (.ref cda) cc)) _ _ _
  cases hbody with
  | plain hl =>
    refine ks_wpAt_execs_cons (super_stmt (s := { s with heap := h₀, toks := _ }) T hf ha.head hcode hcc (X.keeps up) (G.keeps up) (B.keeps up) hb hns hself hl (up _ _ hx) fun h' tk t1 kk hx' => ?_)
    exact wpAt_of_wpAny (wpAny_execs_nil (hq h' tk ⟨fun b o hb e => kk b o hb (up b o e), t1, hx'⟩))
  | @keeps p0 p1 p2 p3 p4 p5 q0 q1 q2 q3 j msg f a hl =>
    obtain ⟨f1, f2, f3, f4⟩ := ha.fld f a rfl
    refine ks_wpAt_execs_cons (super_stmt (s := { s with heap := h₀, toks := _ }) T hf ha.head hcode hcc (X.keeps up) (G.keeps up) (B.keeps up) hb hns hself hl (up _ _ hx) fun h' tk t1 kk hx' => ?_)
    have up' : ∀ b o, b ≠ x → s.heap.get? b = some o → h'.get? b = some o := fun b o hb e => kk b o hb (up b o e)
    have hns' : h'.Ns s.heap.objs.size (fun y => (bindsOfB x (some (f, a)) v).reverse.lookup y) := by
      obtain ⟨oL, es, ep, hL, r⟩ := hns
      exact ⟨oL, es, ep, kk _ _ (Nat.ne_of_gt xs) hL, r⟩
    have X' : K.In h' := fun b o e => up' b o (fun z => by rw [z, hnx] at e; cases e) (X _ _ e)
    have ha2 : (fun y => (bindsOfB x (some (f, a)) v).reverse.lookup y) a = some v := by
      show List.lookup a [(a, v), ("self", .ref x)] = some v
      simp only [List.lookup, beq_self_eq_true]
    refine wpAt_of_wpAny (wpAny_execs_cons (plainObj_wpAny_Assign_Attribute ?_ rfl))
    refine wpAny_Name (wpAny_loadName_local T.scope.kind f2 hns' ha2 ?_) f3
    refine wpAny_Name (wpAny_loadName_local T.scope.kind T.scope.slf hns' hself ?_) (by decide)
    refine set_plain X' (ox := HandSPX.excO C t1) (od := none) ⟨hx', rfl, rfl, trivial⟩ T.sa ?_
    refine HandSPX.exc_osa X' hx' hcl (show HandSPX.refsVE (.ref C :: bm) = true from hbm) rfl f1 fun h3 tk3 dx k3 dn dne hx3 hn3 => ?_
    have sz : s.heap.objs.size ≤ h'.objs.size := by
      obtain ⟨oL, es, ep, hL, r⟩ := hns'
      exact Nat.le_of_lt (Heap.lt_size hL)
    exact wpAny_execs_nil (hq h3 tk3 ⟨fun b o hb e => k3 b o hb (up' b o hb e), t1, dx, Nat.le_trans sz dn, dne, hx3, hn3⟩)
end
end TL
namespace TL
open PySem PySem.Spec PyProof.Rows L2
section
variable {X : Cx} {C fI : Addr} {qual : Str} {params : Arguments} {body : List Stmt} {sc : Scope}
/-- how many arguments -/
def nArgs (n : Option (Str × Str)) : Nat := match n with
  | none => 0
  | some _ => 1
theorem relO_one {f : Str} {v : V} {u : Value} (r : RelV v u) (y : Str) : RelO (List.lookup y [(f, v)]) (if y = f then some u else none) := by
  by_cases c : y = f
  · subst c
    rw [if_pos rfl]
    simp only [List.lookup, beq_self_eq_true]
    exact r
  · rw [if_neg c]
    have c' : (y == f) = false := by simpa using c
    simp only [List.lookup, c']
    trivial
/-- C(..) -/
def tMkErr (C : Addr) (n : Option (Str × Str)) (ta : TA) : St → Hp → XK → Prop := fun σ H Q => ta σ H fun vs H1 => match n with
  | none => vs = [] ∧ Q (.ref C) none H1
  | some (f, _) => ∃ v, vs = [v] ∧ ∀ d, H1 d = none → Q (.ref C) (some d) (upd H1 d (.xd [(f, v)]))
theorem err_call {n : Option (Str × Str)} (T : ErrTxt X.prog X.K X.mg C fI qual params body sc) (hbody : InitBody body n) (ha : InitArgs X.K C params sc n)
    (hbd : ∀ (x : Addr) (v : Value) (s : Shared) (fd : FuncData), (∃ (name : Str) (kV doc pm : Value) (an : Option Addr) (cdv ct : Value) (cc : Addr), fd = PySem.W.ksFn name qual params body sc .none kV doc pm an cdv ct cc) → BindsTo s fd ⟨argsOfB x n v, []⟩ (bindsOfB x n v))
    (hr : Room 1 X.A) {pins : List (Addr × Obj)} {σ : St} {H : Hp} {s : Shared} {Q : XK} (I : Inv X pins σ H s) {us : List Value} {vs : List V} (r : Vals vs us)
    (q : match (generalizing := false) n with
      | none => vs = [] ∧ Q (.ref C) none H
      | some (f, _) => ∃ v, vs = [v] ∧ ∀ d, H d = none → Q (.ref C) (some d) (upd H d (.xd [(f, v)]))) :
    wpAny (model X.prog X.w) X.A (call (.ref C) us) (MkP X pins σ Q) X.xe s := by
  obtain ⟨nm, qn, N, bs, bm, sn, sub, ab, col, dd, k0, k1, k2, k3, k5, hC, hbm⟩ := T.cls
  obtain ⟨mb, hB, hbt⟩ := I.mod.blt
  have hG := I.mod.glob.keeps I.bk
  have hB' := hB.keeps I.bk
  have hlim := I.nolimit
  have hus : ∃ v, us = (match n with | none => [] | some _ => [v]) ∧ ∀ f a, n = some (f, a) → ∃ y, vs = [y] ∧ RelV y v := by
    cases n with
    | none =>
      obtain ⟨rfl, _⟩ := q
      cases r
      exact ⟨.none, rfl, fun _ _ z => by cases z⟩
    | some p =>
      obtain ⟨f, a⟩ := p
      obtain ⟨v, rfl, _⟩ := q
      cases r with
      | cons rv rn =>
        cases rn
        exact ⟨_, rfl, fun _ _ _ => ⟨v, rfl, rv⟩⟩
  obtain ⟨v', eu, hv'⟩ := hus
  have I0 := I
  obtain ⟨hp, g, dr, tk, os⟩ := s
  have up : ∀ b o, hp.get? b = some o → ((hp.push (PySem.W.kdv_tup us)).push (PySem.HandSPX.excO C hp.objs.size)).get? b = some o := fun b o e => Heap.get?_push_of_some _ (Heap.get?_push_of_some _ e)
  have hget : ((hp.push (PySem.W.kdv_tup us)).push (PySem.HandSPX.excO C hp.objs.size)).get? (hp.objs.size + 1) = some (PySem.HandSPX.excO C hp.objs.size) := by heap_get
  have hnx : X.K.lookup (hp.objs.size + 1) = none := by
    cases e : X.K.lookup (hp.objs.size + 1) with
    | none => rfl
    | some o =>
      have z : hp.get? (hp.objs.size + 1) = some o := I0.kIn _ _ e
      exact absurd (Nat.lt_of_succ_lt (Heap.lt_size z)) (Nat.lt_irrefl _)
  have hlen : us.length ≤ sizeLine := by
    rw [eu, sizeLine_eq]
    cases n <;> simp
  have hargs : (⟨Value.ref (hp.objs.size + 1) :: us, []⟩ : Args) = ⟨argsOfB (hp.objs.size + 1) n v', []⟩ := by
    rw [eu]
    cases n <;> rfl
  refine wpAny_call (PySem.HandSPX.call_own F.excBase_ValueError (fun Y => PySem.HandSPX.refsVE_contains Y bm hbm) (I0.kIn _ _ hC) (PySem.W.looks_findIn I0.kIn T.iC) (fun self => PySem.W.bind_fn I0.kIn self T.tI) hlen ?_)
  rw [hargs]
  refine err_init (s := ⟨(hp.push (PySem.W.kdv_tup us)).push (PySem.HandSPX.excO C hp.objs.size), g, dr, tk, os⟩) T hbody ha (hbd _ _) (PySem.W.Frag.In.keeps I0.kIn up) (hG.keeps up) (hB'.keeps up)
    ((hbt _ (by decide)).trans (by first | decide +kernel | kernel_rfl)) (hlim.keeps up) hget hnx (by have := hr.dp; show X.A.depth + 1 < recursionLimit; omega) fun h' tk' hi => ⟨rfl, ?_⟩
  obtain ⟨kk, t1, hi⟩ := hi
  have old : ∀ b o, hp.get? b = some o → h'.get? b = some o := fun b o e => kk b o (Nat.ne_of_lt (Nat.lt_succ_of_lt (Heap.lt_size e))) (up b o e)
  have fr : H (hp.objs.size + 1) = none := I0.hok.fresh (Nat.le_succ _)
  obtain ⟨G', g1, g2⟩ := restrict h' fun b => decide (b ≠ hp.objs.size + 1)
  have gk : ∀ b, b ≠ hp.objs.size + 1 → G'.get? b = h'.get? b := fun b hb => g1 b (decide_eq_true hb)
  have ge : G'.get? (hp.objs.size + 1) = none := g2 _ (by simp)
  have oldG : ∀ b o, hp.get? b = some o → G'.get? b = some o := fun b o e => (gk b (Nat.ne_of_lt (Nat.lt_succ_of_lt (Heap.lt_size e)))).trans (old b o e)
  have back : ∀ b o, G'.get? b = some o → h'.get? b = some o := fun b o e => by
    by_cases hb : b = hp.objs.size + 1
    · rw [hb, ge] at e; cases e
    · exact (gk b hb).symm.trans e
  cases n with
  | none =>
    obtain ⟨rfl, q⟩ := q
    have J : Inv X pins σ H ⟨G', g, dr, tk', os⟩ := I0.kept (t' := tk') oldG
    exact ⟨hp.objs.size + 1, _, _, ⟨G', g, dr, tk', os⟩, H, .ref C, none, rfl, J, back, ge, hi, ⟨rfl, rfl⟩, rfl, rfl, fr, rfl, I0.bare, raises_own T.exC T.tyC, q⟩
  | some p =>
    obtain ⟨f, a⟩ := p
    obtain ⟨v, rfl, q⟩ := q
    obtain ⟨y, ey, rv⟩ := hv' f a rfl
    cases ey
    obtain ⟨dx, dn, dne, hx', hns⟩ := hi
    have dn' : hp.objs.size ≤ dx := Nat.le_trans (by simp only [Heap.size_push]; omega) dn
    have ob : ObjOk X.prog X.w (upd H dx (.xd [(f, v)])) G' dx (.xd [(f, v)]) := ⟨_, hns.at (fun o e => (gk dx dne).trans e), fun z => relO_one rv z⟩
    have J : Inv X pins σ (upd H dx (.xd [(f, v)])) ⟨G', g, dr, tk', os⟩ := I0.laid (t' := tk') oldG dn' ob
    exact ⟨hp.objs.size + 1, _, _, ⟨G', g, dr, tk', os⟩, _, .ref C, some dx, rfl, J, back, ge, hx', ⟨rfl, rfl⟩, rfl, rfl, by rw [upd_ne (Ne.symm dne)]; exact fr, rfl, I0.bare, raises_own T.exC T.tyC, q dx (I0.hok.fresh dn')⟩
end
end TL

set_option Elab.async false
set_option linter.all false
set_option maxRecDepth 100000
set_option maxHeartbeats 2000000
set_option autoImplicit false
/-! TLn: raise, try. -/
namespace TL
open PySem PySem.Spec PyProof.Rows L2
/-- how the binding of __init__'s arguments goes -/
def InitBind (qual : Str) (params : Arguments) (body : List Stmt) (sc : Scope) (n : Option (Str × Str)) : Prop :=
  ∀ (x : Addr) (v : Value) (s : Shared) (fd : FuncData), (∃ (name : Str) (kV doc pm : Value) (an : Option Addr) (cdv ct : Value) (cc : Addr), fd = PySem.W.ksFn name qual params body sc .none kV doc pm an cdv ct cc) → BindsTo s fd ⟨argsOfB x n v, []⟩ (bindsOfB x n v)
structure ErrAt (C : Cfg) (g : Gd) (P : Program) (K : PySem.W.Frag) (mg : Str → Option Value) (x : Str) (c : Nat) : Prop where
  db : (x == ("__debug__" : Str)) = false
  at_ : mg x = some (.ref (g.cl c))
  ok : ∃ fI qual params body sc n, ErrTxt P K mg (g.cl c) fI qual params body sc ∧ InitBody body n ∧ InitArgs K (g.cl c) params sc n ∧ InitBind qual params body sc n ∧ C.exc c = excOf c (n.map (·.1))
section
variable {C : Cfg} {g : Gd} {X : Cx}
theorem pmk_err {Ca fI : Addr} {qual : Str} {params : Arguments} {body : List Stmt} {sc : Scope} {n : Option (Str × Str)} {x : Str} {p pos : Pos} {es : List Expr} (T : ErrTxt X.prog X.K X.mg Ca fI qual params body sc) (hbody : InitBody body n) (ha : InitArgs X.K Ca params sc n)
    (hbd : InitBind qual params body sc n) (hr : Room 1 X.A) (hg : Gl X x) (hm : X.mg x = some (.ref Ca)) (hdb : (x == ("__debug__" : Str)) = false) (hs : es.all notStar = true) : PMk X (.Call (.Name x p) es [] pos) (tMkErr Ca n (taL X es)) := by
  intro pins s σ H Q I h
  refine wpAny_Call_Name_kw (ld_glob I hg hm ?_ hdb)
  cases es with
  | nil => exact PySem.W.callWith_K0 I.kIn T.kC (err_call T hbody ha hbd hr I .nil h)
  | cons e es =>
    have hs' := hs
    rw [List.all_cons, Bool.and_eq_true] at hs'
    exact PySem.W.callWith_K (h₀ := X.base) I.ok.mod.kin T.kC (thn ((pa0 X _ hs).run pos pins s σ H _ I h) fun us s1 ⟨vs, H1, I1, r1, q⟩ => ⟨I1.kIn, err_call T hbody ha hbd hr I1 r1 q⟩) (starEach_cons hs'.1) (plain_any hs'.2)
theorem Rel.newX {G : As} {pv : List V} {H : Hp} {ρ : Env} {σ : St} {p : Addr} {o : HO} (RR : Rel g G pv H ρ σ) (hp : H p = none) : Rel g G pv (upd H p o) ρ σ ∧ Stp (FS H ρ σ) H (FS (upd H p o) ρ σ) (upd H p o) ∧ AvO (upd H p o) (ou (FS (upd H p o) ρ σ) G) p o := by
  obtain ⟨R', s'⟩ := RR.ext (H' := upd H p o) (upd_ext hp)
  have nG : ¬ G p := fun z => by obtain ⟨u, e⟩ := RR.gd p z; rw [hp] at e; cases e
  have nF : ¬ FS (upd H p o) ρ σ p := fun z => by
    obtain ⟨i, s1, e1, h1⟩ := z
    have d := RR.den i s1 e1
    have k : fo H (at' σ i) s1 p := d.fo_keep (fun a u _ hu => upd_ext hp a u hu) h1
    obtain ⟨u, e⟩ := d.fo_there k
    rw [hp] at e; cases e
  exact ⟨R', s', .inl upd_same, fun z => z.elim nF nG⟩
theorem sndS_raise {c : Nat} {x : Str} {p pos pos2 : Pos} {es : List Expr} {es' : List E} (hc : X.calm = true) (hr : Room 1 X.A) (hg : Gl X x) (EA : ErrAt C g X.prog X.K X.mg x c) (hs : es.all notStar = true) (S : SndOs C g X es es') :
    SndS C g X (.Raise (some (.Call (.Name x p) es [] pos)) none pos2) (.raise c es') := by
  obtain ⟨hdb, hm, fI, qual, params, body, sc, n, T, hbody, ha, hbd, he⟩ := EA
  refine ⟨fun G pv H ρ σ D W hp tk RR h => ts0_of (ps_raise hc tk (pmk_err T hbody ha hbd hr hg hm hdb hs)) ?_⟩
  simp only [evS] at h
  refine S.run hp tk RR ?_
  cases q : evOs C es' ρ with
  | bad => rw [q] at h; exact h
  | ex x ρ' => rw [q] at h; exact h
  | ok ts ρ1 =>
    rw [q, R.bind_ok] at h
    intro vs H1 s1 R1 k
    cases q1 : resolve es' ts ρ1 with
    | none => rw [q1] at h; exact h.elim
    | some us =>
      rw [q1, Option.bind_some, he] at h
      have tl := resolve_top R1 k q1
      cases n with
      | none =>
        cases us with
        | nil =>
          have h' : PostX g G pv H ρ σ ⟨c, none⟩ ρ1 W := h
          have ev : vs = [] := by cases vs with
            | nil => rfl
            | cons _ _ => exact tl.elim
          exact ⟨ev, h' (.ref (g.cl c)) none σ H1 s1 R1 ⟨rfl, rfl⟩⟩
        | cons _ _ => exact h.elim
      | some fa =>
        obtain ⟨f, a⟩ := fa
        match us, tl, h with
        | [t], tl, h =>
          have e2 : excOf c (some f) [t] = if flT t then some ⟨c, some (f, t)⟩ else none := rfl
          rw [show Option.map (fun x => x.1) (some (f, a)) = some f from rfl, e2] at h
          by_cases fl : flT t = true
          · rw [if_pos fl] at h
            have h' : PostX g G pv H ρ σ ⟨c, some (f, t)⟩ ρ1 W := h
            obtain ⟨v, rfl, tv⟩ := tl.one
            refine ⟨v, rfl, fun d hd => ?_⟩
            obtain ⟨R2, s2, av⟩ := R1.newX (o := .xd [(f, v)]) hd
            exact h' (.ref (g.cl c)) (some d) σ _ (s1.trans s2) R2 ⟨rfl, d, v, rfl, av, Den.mono s2.av _ _ (top_flat fl tv)⟩
          · rw [if_neg fl] at h; exact h.elim
        | [], tl, h => exact h.elim
        | _ :: _ :: _, tl, h => exact h.elim
end
end TL

set_option Elab.async false
set_option linter.all false
set_option maxRecDepth 100000
set_option maxHeartbeats 2000000
set_option autoImplicit false
/-! TLo: isinstance of a caught error that keeps a field; the suites; try. -/
namespace TL
open PySem PySem.Spec PyProof.Rows L2
section
open PySem.W
variable {prog : Program} {w : World} {A : Around} {E : Value → Shared → Prop} {s : Shared} {K : Frag} {x D : Addr} {ox : Obj} {od : Option Obj}
theorem find_data {C : Addr} {name : Str} {a g : Value} (hc : (clsIn K C).isSome = true) (ha : findIn K (.ref C) name = some (some a)) (hg : specialIn K a "__get__" = some (some g)) (ht : takesIn K a = some true) : findObj K C od name = some (.bind g a) := by
  obtain ⟨cd, hc⟩ := Option.isSome_iff_exists.mp hc
  unfold findObj
  simp only [hc, Option.bind_some, ha, hg, ht]
theorem cls_of_exc {Q : Option Value → Shared → Prop} (T : ExcC K D) (X : K.In s.heap) (I : InstAt s.heap x ox D od) (h : Q (some (.ref D)) { s with toks := s.toks + 1 }) : wpAny (model prog w) A (getAttr? (.ref x) "__class__") Q E s := by
  have hdct := T.hd
  have hf : findObj K D od "__class__" = some (.bind (.builtin "getset_descriptor.__get__") (.builtin "object.__class__")) :=
    find_data (by obtain ⟨cd, hc, _⟩ := any_some hdct; rw [hc]; rfl) T.ha T.hn T.ht
  obtain ⟨hp, g, d, t, os⟩ := s
  have k0 := I.type (M := model prog w)
  have k1 := looks_findIn (M := model prog w) X T.hg
  have k2 := looks_findIn (M := model prog w) X T.hk
  have k3 := looks_find (M := model prog w) X I hf
  have sub : Looks (model prog w) hp (isInstance (.ref x) (.type "BaseException")) true := k0.andThen (looks_subIn X T.hs)
  have b2 : (Value.builtin "BaseException.__getattribute__" == Value.builtin "object.__getattribute__") = false := by decide +kernel
  have b1 : (onTheHeap (Value.ref D) && Value.builtin "BaseException.__getattribute__" == Value.builtin "object.__getattribute__") = false := by rw [b2]; rfl
  unfold getAttr? getAttrBy? getAttrBy
  refine wpAny_bind (wpAny_mkText (wpAny_bind (wpAny_attempt (wpAny_holding (wpAny_bind (k0.at (wpAny_bind (k1.at ?_))))))))
  show wpAny _ _ (if (onTheHeap (Value.ref D) && Value.builtin "BaseException.__getattribute__" == Value.builtin "object.__getattribute__") = true then _ else _) _ _ _
  rw [b1, if_neg Bool.false_ne_true]
  unfold getAttrByItsOwn hookBefore
  refine wpAny_bind ?_
  rw [if_pos (show onTheHeap (Value.ref D) = true from rfl)]
  refine k2.at (wpAny_bind (wpAny_attempt (wpAny_holding ?_)))
  unfold callGetattribute
  rw [show (false && onTheHeap (Value.builtin "BaseException.__getattribute__")) = false from rfl, if_neg Bool.false_ne_true]
  unfold boundAndCalled
  rw [PySem.F.excAttr_ValueError.ga.bind (.ref x)]
  refine wpAny_bind (wpAny_pure ?_)
  show wpAny _ _ (call (.builtin "BaseException.__getattribute__") [.ref x, .str "__class__" t]) _ _ _
  refine wpAny_call (codeAny_call_builtin PySem.F.excAttr_ValueError.ga.plain PySem.F.entry_bexc_ga ?_)
  refine @check_slot (model prog w) _ _ ⟨hp, g, d, t + 1, os⟩ "BaseException.__getattribute__" "BaseException" "__getattribute__" (.ref x) [.str "__class__" t] [] _
    (by decide +kernel) (by decide +kernel) sub (PySem.F.args_bexc_ga (.ref x) (.str "__class__" t)) ?_
  unfold Builtin.«object.__getattribute__»
  refine wpAny_bind (wpAny_of_eq (a := ((Value.ref x : Value), [Value.str "__class__" t])) (by first | rfl | (simp only [slotArgs]; rfl)) ?_)
  refine wpAny_bind (wpAny_pure (wpAny_bind (k0.at (wpAny_bind (k3.at ?_)))))
  show wpAny _ _ (holding [Value.builtin "object.__class__"] (call (.builtin "getset_descriptor.__get__") [.builtin "object.__class__", .ref x, .ref D]) >>= ret) _ _ _
  refine wpAny_bind (wpAny_holding (wpAny_call (class_get (s := ⟨hp, g, d, t + 1, os⟩) (ox := ox) (od := od) X I T.hm ?_)))
  refine wpAny_pure ?_
  show wpAny _ _ (handedOut (.ref D)) _ _ _
  rw [handedOut_of (v := .ref D) rfl]
  first
    | exact wpAny_pure (wpAny_pure h)
    | exact wpAny_pure h
    | exact wpAny_pure (wpAny_bind (wpAny_pure (wpAny_pure h)))
theorem kit_exc (T : ExcC K D) : KitX K (.ref x) (.ref D) (fun h => InstAt h x ox D od) where
  ty := fun _ _ _ I => I.type
  it := fun _ _ X _ => by
    obtain ⟨cd, hc, _⟩ := any_some T.hd
    unfold clsIn at hc
    split at hc
    · rename_i ho
      intro A' Q' E' s' k q
      unfold isType loadHead
      exact wpAny_bind (wpAny_loadPart (k _ _ (X _ _ ho)) (wpAny_pure q))
    · cases hc
  ne := fun h tp dd its n sl X htp => by
    obtain ⟨cd, hc, _⟩ := any_some T.hd
    refine Bool.eq_false_iff.mpr fun q => ?_
    have e : D = tp := Value.ref.inj (beq_iff_eq.mp q)
    subst e
    unfold clsIn at hc
    split at hc
    · rename_i ho
      have z := (X _ _ ho).symm.trans htp
      cases z
    · cases hc
  ca := fun X I k => cls_of_exc T X I k
end
/-- isinstance(e, c), whatever e keeps -/
theorem call_isX {X : Cx} {a D : Addr} {oe : Obj} {d : Option Addr} {pn : List (Addr × Obj)} (T : ExcC X.K D) (hz : Zc (.ref D) d oe) (hf : ∃ vs, oe.data = .fields vs) : CallR (X.suite a ((a, oe) :: pn)) (.builtin "isinstance")
    (fun xs H Q => ∃ (c : V) (cv : Value) (b : Bool), xs = [.ref a, c] ∧ (∀ u, RelV c u → u = cv) ∧ (∀ dx, d = some dx → ∃ fs, H dx = some (.xd fs)) ∧ PySem.W.kitOne X.K (.ref D) cv = some b ∧ Q (.bl b) H) := by
  intro pins s σ H xs us Q I r h
  obtain ⟨c, cv, b, rfl, hcv, hd, e, q⟩ := h
  obtain ⟨u1, u2, rfl, r1, r2⟩ := vals2 r
  cases (show u1 = Value.ref a from r1)
  have ec := hcv _ r2
  subst ec
  obtain ⟨hget, _⟩ := I.pin (a, oe) (List.mem_append.mpr (.inl List.mem_cons_self))
  obtain ⟨vs, hv⟩ := hf
  have J : ∃ od, PySem.W.InstAt s.heap a oe D od := by
    obtain ⟨oc, odd, oda, osl⟩ := oe
    obtain ⟨h1, h2⟩ := hz
    dsimp only at h1 h2 hv
    subst h1 hv
    cases d with
    | none =>
      subst h2
      exact ⟨none, hget, rfl, rfl, trivial⟩
    | some dx =>
      obtain ⟨fs, hfs⟩ := hd dx rfl
      obtain ⟨mA, hns, hr⟩ := (show ObjOk X.prog X.w H s.heap dx (.xd fs) from I.hok dx _ hfs)
      obtain ⟨oD, ho, hl⟩ := lookIn_ns hns
      subst h2
      exact ⟨some oD, hget, rfl, rfl, ho⟩
  obtain ⟨od, J⟩ := J
  exact PySem.W.kia_one (kit_exc T) I.kIn J e (fun z => nomatch z) fun tk => ⟨.bl b, H, I.kept (t' := tk) fun _ _ z => z, rfl, q⟩
/-! ### what the written part says of all errors -/
structure ErrW (C : Cfg) (g : Gd) (K : PySem.W.Frag) : Prop where
  c : ∀ d, C.errs.contains d = true → ExcC K (g.cl d)
  m : ∀ d c, C.errs.contains d = true → C.errs.contains c = true → PySem.W.exmOne K (.ref (g.cl d)) (.ref (g.cl c)) = some (C.sub d c)
  k : ∀ d c, C.errs.contains d = true → C.errs.contains c = true → PySem.W.kitOne K (.ref (g.cl d)) (.ref (g.cl c)) = some (C.sub d c)
  f : ∀ d f, C.errs.contains d = true → C.fld d f = true → PySem.W.findIn K (.ref (g.cl d)) f = some none
section
variable {C : Cfg} {g : Gd} {Y : Cx} {a : Addr} {cls : Value} {d : Option Addr} {io : Option Nat}
/-- an expression of a suite -/
def XR (C : Cfg) (g : Gd) (Y : Cx) (a : Addr) (cls : Value) (d : Option Addr) (io : Option Nat) (e : Expr) (e' : X1) : Prop :=
  ∀ (x : Exc) (σ : St) (H : Hp) (A : Av) (t : T) (Q : VK), (∀ b u, A b u → Rd2 H b u) → ExD g A x cls d → (∀ k, io = some k → σ[k]? = some (some (.ref a))) → evX C x e' = some t → (∀ v, Den g A t v → Q v H) → te0 Y e σ H Q
theorem xr_cst {e : Expr} {t : T} {v : V} (h : PE Y e (tC v)) (hd : ∀ A, Den g A t v) : XR C g Y a cls d io e (.cst t) := fun x σ H A t' Q hA hx hi e1 q => te0_of h (by
  simp only [evX] at e1
  split at e1
  · cases e1; exact q _ (hd A)
  · cases e1)
theorem xr_ite {c p q : Expr} {c' p' q' : X1} {pos : Pos} (hc : XR C g Y a cls d io c c') (hcp : ∀ whole, isTrue c Y.env whole = (do let v ← whole; standAt c.pos; holding [v] (truthy v))) (hp : XR C g Y a cls d io p p') (hq : XR C g Y a cls d io q q') : XR C g Y a cls d io (.IfExp c p q pos) (.ite c' p' q') := by
  intro x σ H A t Q hA hx hi e1 k
  simp only [evX] at e1
  refine te0_of (pe_ifExp (pt0 Y c) (pe0 Y p) (pe0 Y q)) ?_
  split at e1
  · rename_i ec
    exact tt0_of (pt_val (pe0 Y c) hcp) (hc x σ H A _ _ hA hx hi ec fun v dv => ⟨true, by simpa only [Den] using dv, if_true_of rfl (hp x σ H A t Q hA hx hi e1 k)⟩)
  · rename_i ec
    exact tt0_of (pt_val (pe0 Y c) hcp) (hc x σ H A _ _ hA hx hi ec fun v dv => ⟨false, by simpa only [Den] using dv, if_false_of rfl (hq x σ H A t Q hA hx hi e1 k)⟩)
  · cases e1
end
section
variable {C : Cfg} {g : Gd} {X : Cx} {a : Addr} {cls : Value} {d : Option Addr} {i : Nat} {oe : Obj} {pn : List (Addr × Obj)}
theorem xr_erf {n f : Str} {p pos : Pos} (EW : ErrW C g X.K) (hz : Zc cls d oe) (hf : ∃ vs, oe.data = .fields vs) (hn : PE (X.suite a ((a, oe) :: pn)) (.Name n p) (tVar i)) (hb : attributeBase (.Name n p) f X.env (eval (.Name n p) X.env) = eval (.Name n p) X.env) :
    XR C g (X.suite a ((a, oe) :: pn)) a cls d (some i) (.Attribute (.Name n p) f pos) (.erf f) := by
  intro x σ H A t Q hA hx hi e1 k
  simp only [evX] at e1
  obtain ⟨h1, h2⟩ := hx
  split at e1
  · rename_i g' t' ef
    split at e1
    · rename_i cc
      cases e1
      obtain ⟨rfl, c2, c3⟩ := cc
      rw [ef] at h2
      obtain ⟨dx, v, rfl, av, dv⟩ := h2
      have T := EW.c _ c3
      have hdx : H dx = some (.xd [(f, v)]) := (hA _ _ av).elim id fun z => z.1.elim
      exact te0_of (pe_xf (C := g.cl x.c) ⟨T.hg, T.hk, T.hs, T.hd⟩ (EW.f _ _ c3 c2) hz hf hn hb) ⟨_, hi i rfl, rfl, h1, dx, [(f, v)], v, rfl, hdx, by simp [List.lookup], k v dv⟩
    · cases e1
  · cases e1
theorem xr_eri {n cn : Str} {c : Nat} {p p2 p3 pos : Pos} (EW : ErrW C g X.K) (hz : Zc cls d oe) (hf : ∃ vs, oe.data = .fields vs) (hn : PE (X.suite a ((a, oe) :: pn)) (.Name n p) (tVar i)) (hg : Gl X "isinstance") (hm : X.mg "isinstance" = none)
    (hcn : PE (X.suite a ((a, oe) :: pn)) (.Name cn p2) (tC (.ref (g.cl c)))) : XR C g (X.suite a ((a, oe) :: pn)) a cls d (some i) (.Call (.Name "isinstance" p3) [.Name n p, .Name cn p2] [] pos) (.eri c) := by
  intro x σ H A t Q hA hx hi e1 k
  simp only [evX] at e1
  obtain ⟨h1, h2⟩ := hx
  split at e1
  · rename_i cc
    rw [Bool.and_eq_true] at cc
    cases e1
    subst h1
    refine te0_of (pe_callB (X := X.suite a ((a, oe) :: pn)) (call_isX (EW.c _ cc.2) hz hf) hg hm (by first | rfl | decide +kernel | kernel_rfl) (pa_cons hn (pa_cons hcn pa_nil))) ?_
    refine ⟨_, hi i rfl, .ref (g.cl c), .ref (g.cl c), C.sub x.c c, rfl, fun u r => r, fun dx e => ?_, EW.k _ _ cc.2 cc.1, k _ (by simp only [Den])⟩
    subst e
    revert h2
    cases x.f with
    | none => exact fun e => by cases e
    | some ft => exact fun ⟨dx', v, e, av, _⟩ => by cases e; exact ⟨_, (hA _ _ av).elim id fun z => z.1.elim⟩
  · cases e1
end
end TL
namespace TL
open PySem PySem.Spec PyProof.Rows L2
/-! ### try with named clauses -/
def unE (D : Ends) : Option Nat → Ends
  | none => D
  | some i => { nx := fun σ' H' => D.nx (σ'.set i none) H', rt := D.rt, bk := fun σ' H' => D.bk (σ'.set i none) H', ct := fun σ' H' => D.ct (σ'.set i none) H' }
def seE (σ : St) (a : Addr) : Option Nat → St
  | none => σ
  | some i => σ.set i (some (.ref a))
def wGen (K : PySem.W.Frag) (Wout : WX) (D : Ends) : List (Value × Option Nat × (Addr → Value → Option Addr → TS)) → WX
  | [] => Wout
  | (c, i, ts) :: r => fun cls d σ H => ∃ b, PySem.W.exmOne K cls c = some b ∧ (b = true → ∀ a, H a = none → ts a cls d (unE D i) (seE σ a i) H) ∧ (b = false → wGen K Wout D r cls d σ H)
def NameAt (X : Cx) : Option Str → Option Nat → Prop
  | none, none => True
  | some n, some i => X.N[i]? = some n ∧ X.env.kindOf n = some .local
  | _, _ => False
inductive HdsGen (X : Cx) : List ExceptHandler → List (Value × Option Nat × (Addr → Value → Option Addr → TS)) → Prop
  | nil : HdsGen X [] []
  | cons {x : Str} {c : Value} {nm : Option Str} {i : Option Nat} {ts : Addr → Value → Option Addr → TS} {b₀ : Stmt} {suite : List Stmt} {np pos' : Pos} {hds : List ExceptHandler} {l : List (Value × Option Nat × (Addr → Value → Option Addr → TS))}
      (hc : Names X x c) (hn : NameAt X nm i)
      (hsu : ∀ (a : Addr) (oe : Obj) (cls : Value) (d : Option Addr) (pn : List (Addr × Obj)), Zc cls d oe → (∃ vs, oe.data = .fields vs) → PSs (X.suite a ((a, oe) :: pn)) (b₀ :: suite) (ts a cls d))
      (r : HdsGen X hds l) : HdsGen X (.ExceptHandler (some (.Name x np)) nm (b₀ :: suite) pos' :: hds) ((c, i, ts) :: l)
section
variable {X : Cx} {body : List Stmt} {h₀ : ExceptHandler} {hds : List ExceptHandler} {l : List (Value × Option Nat × (Addr → Value → Option Addr → TS))} {pos : Pos} {tb : WX → TS} {Wout : WX}
theorem ps_try_gen (hs : X.stack = X.env :: X.outer) (hf : X.env.frame = some X.env.locals) (hN : X.N.Nodup) (tk : Takes X Wout)
    (hb : ∀ (W : WX) (pn : List (Addr × Obj)) (xe : Value → Shared → Prop), Takes (X.tr pn xe) W → PassesOwn (model X.prog X.w) X.A X.env xe → PSs (X.tr pn xe) body (tb W))
    (hh : HdsGen X (h₀ :: hds) l) : PS X (.Try body (h₀ :: hds) [] [] pos) (fun D σ H => tb (wGen X.K Wout D l) D σ H) := by
  refine ⟨fun pins s σ H D I h => ?_⟩
  have ok := I.ok
  have hfr : X.A.frames = some (X.env :: X.outer) := by rw [ok.frames, hs]
  refine wpAny_Try_except (wpAny_mono ((hb (wGen X.K Wout D l) (X.pn ++ pins)
    (fun e s₁ => wpAny (model X.prog X.w) X.A (noteFrame e X.env) (fun _ s₂ => wpAny (model X.prog X.w) X.A (setFlight e none) (fun _ s₃ => wpAny (model X.prog X.w) X.A (handleBy e X.env (h₀ :: hds)) (SP X pins D) X.xe s₃) X.xe s₂) X.xe s₁)
    (fun u s' xx => ?_) PassesOwn.looking).run [] s σ H D (I.toTry _) h) (fun f s1 hsp => ?_) (fun e s1 he => he))
  · obtain ⟨a, B, sI, pins', σ', H', cls, d, rfl, J', nb, up, sky, na, os, ag, w⟩ := xx
    have J : Inv X pins σ' H' sI := J'.ofTry ok
    show wpAny (model X.prog X.w) X.A (noteFrame (.ref a) X.env) _ _ _
    refine Sky.land Zc.steady hfr hf (by rw [← hs]; exact sky) fun h3 fl3 up3 => ?_
    have J3 : Inv X pins σ' H' { s' with heap := h3 } := J.landed nb fl3.1 (up.trans up3) os ag
    obtain ⟨oe3, vs3, he3, hz3, hd3⟩ := fl3.there
    have nfr : a ∉ frs (X.env :: X.outer) := fun hm => by
      obtain ⟨_, o', e', hnf⟩ := fl3.2.2.1.mem hm
      rw [he3] at e'; cases e'
      exact hnf _ hd3
    have nL : a ≠ X.env.locals := fun z => nfr (List.mem_filterMap.mpr ⟨X.env, List.mem_cons_self, by rw [hf, z]⟩)
    have nF : a ∉ X.fs := fun hm => by
      obtain ⟨e, he, q⟩ := List.mem_filterMap.mp hm
      exact nfr (List.mem_filterMap.mpr ⟨e, List.mem_cons_of_mem _ he, q⟩)
    have S3 := J3.suite he3 hd3 na nL nF
    have go : ∀ {hds' : List ExceptHandler} {l' : List (Value × Option Nat × (Addr → Value → Option Addr → TS))}, HdsGen X hds' l' → wGen X.K Wout D l' cls d σ' H' → wpAny (model X.prog X.w) X.A (handleBy (.ref a) X.env hds') (SP X pins D) X.xe { s' with heap := h3 } := by
      intro hds' l' hk
      induction hk with
      | nil =>
        intro w
        refine wpAny_handleBy_nil ?_
        obtain ⟨k1, k2, k3, oe, vs, T, oT, ts', he, hz, hd, h1, hr⟩ := id fl3
        unfold PySem.passOn
        refine wpAny_bind (wpAny_field he hd h1 ?_)
        rw [if_neg (show ¬ ((Value.ref T == Value.none) = true) from by simp)]
        have fin : wpAny (model X.prog X.w) X.A (setFlight (.ref a) X.env.frame) (fun _ s4 => wpAny (model X.prog X.w) X.A (throw (.ref a) : Sem Flow) (SP X pins D) X.xe s4) X.xe { s' with heap := h3 } := by
          rw [hf]
          exact HandSPX.setFlight_upZ fl3 fun h4 hh4 up4 => wpAny_throw (tk _ _ ⟨a, B, sI, pins, σ', H', cls, d, rfl, J, nb, (up.trans up3).trans up4, .inr (.inr (by rw [hs]; exact hh4)), na, os, ag, w⟩)
        first
          | exact wpAny_bind (wpAny_pure (wpAny_bind fin))
          | exact wpAny_bind fin
      | @cons x c nm i ts b₀ suite np pos' hds2 l2 hc hn hsu r ih =>
        intro w
        obtain ⟨b, hb1, hyes, hno⟩ := w
        refine wpAny_handleBy_cons (codeAny_handlers_test ?_) (by intro q; cases q)
        have LT : PySem.W.Looks (model X.prog X.w) h3 (typeOf (.ref a)) cls := fun A Q E s k q => wpAny_typeOf_ref (k _ _ he3) (by rw [hz3.1]; exact q)
        have LM := PySem.W.exm_one (M := model X.prog X.w) (J3.kIn) LT hb1
        have test : ∀ {Q : Value → Shared → Prop} {E : Value → Shared → Prop}, Q c { s' with heap := h3 } → wpAny (model X.prog X.w) (X.A.mark (some (.ref a))) (eval (.Name x np) X.env) Q E { s' with heap := h3 } := fun {Q E} q => by
          obtain ⟨hg, hdbg, hm | ⟨hm, hv, hnn⟩⟩ := hc
          · exact ld_glob (X := X.suite a ((a, oe3) :: (X.pn ++ pins))) S3 hg hm q hdbg
          · exact ld_blt (X := X.suite a ((a, oe3) :: (X.pn ++ pins))) S3 hg hm hv q hnn hdbg
        refine test (LM.here ?_)
        cases b with
        | false =>
          show wpAny _ X.A (handleBy (.ref a) X.env hds2) _ _ _
          exact ih (hno rfl)
        | true =>
          have h5 := hyes rfl a na
          cases nm with
          | none =>
            cases i with
            | some i => exact hn.elim
            | none =>
              refine codeAny_handlers_suite (HandSPX.lands_againZ fl3 fun h4 fl4 up4 => ?_)
              have J4 : Inv X pins σ' H' { s' with heap := h4 } := J.landed nb fl4.1 ((up.trans up3).trans up4) os ag
              obtain ⟨oe4, vs4, he4, hz4, hd4⟩ := fl4.there
              refine wpAny_mono ((hsu a oe4 cls d (X.pn ++ pins) hz4 ⟨_, hd4⟩).run [] _ _ H' _ (J4.suite he4 hd4 na nL nF) h5) (fun f s6 hsp => ?_) (fun _ _ z => False.elim z)
              cases f with
              | next => obtain ⟨σ6, H6, S6, q6⟩ := hsp; exact ⟨_, _, S6.unsuite ok, q6⟩
              | brk => obtain ⟨σ6, H6, S6, q6⟩ := hsp; exact ⟨_, _, S6.unsuite ok, q6⟩
              | cont => obtain ⟨σ6, H6, S6, q6⟩ := hsp; exact ⟨_, _, S6.unsuite ok, q6⟩
              | ret u => obtain ⟨v6, σ6, H6, S6, r6, q6⟩ := hsp; exact ⟨_, _, _, S6.unsuite ok, r6, q6⟩
          | some n =>
            cases i with
            | none => exact hn.elim
            | some i =>
              obtain ⟨hi, hln⟩ := hn
              refine codeAny_handlers_suite_as (HandSPX.lands_againZ fl3 fun h4 fl4 up4 => ?_)
              have J4 : Inv X pins σ' H' { s' with heap := h4 } := J.landed nb fl4.1 ((up.trans up3).trans up4) os ag
              obtain ⟨oe4, vs4, he4, hz4, hd4⟩ := fl4.there
              refine store_ok (X := X.suite a ((a, oe4) :: (X.pn ++ pins))) (v := .ref a) (J4.suite he4 hd4 na nL nF) hN hi (.inl hln) rfl (fun s5 S5 => ?_) (.inr hln)
              refine wpAny_mono ((hsu a oe4 cls d (X.pn ++ pins) hz4 ⟨_, hd4⟩).run [] s5 _ H' _ S5 h5) (fun f s6 hsp => ?_) (fun _ _ z => False.elim z)
              have away : ∀ {σ6 : St} {H6 : Hp} {Q : Shared → Prop}, Inv (X.suite a ((a, oe4) :: (X.pn ++ pins))) [] σ6 H6 s6 → (∀ s7, Inv X pins (σ6.set i none) H6 s7 → Q s7) →
                  wpAny (model X.prog X.w) X.A (do bindName X.env n .none; unbindBehindTheSuite X.env n pos') (fun _ s7 => Q s7) X.xe s6 := fun {σ6 H6 Q} S6 hq => gone_ok (S6.unsuite ok) hN hi hln hq
              cases f with
              | next => obtain ⟨σ6, H6, S6, q6⟩ := hsp; exact away S6 fun s7 J7 => ⟨_, _, J7, q6⟩
              | brk => obtain ⟨σ6, H6, S6, q6⟩ := hsp; exact away S6 fun s7 J7 => ⟨_, _, J7, q6⟩
              | cont => obtain ⟨σ6, H6, S6, q6⟩ := hsp; exact away S6 fun s7 J7 => ⟨_, _, J7, q6⟩
              | ret u => obtain ⟨v6, σ6, H6, S6, r6, q6⟩ := hsp; exact away S6 fun s7 J7 => ⟨_, _, _, J7, r6, q6⟩
    exact go hh w
  · cases f with
    | next => obtain ⟨σ', H', J', q⟩ := hsp; exact wpAny_execs_nil ⟨σ', H', J'.ofTry ok, q⟩
    | brk => obtain ⟨σ', H', J', q⟩ := hsp; exact ⟨σ', H', J'.ofTry ok, q⟩
    | cont => obtain ⟨σ', H', J', q⟩ := hsp; exact ⟨σ', H', J'.ofTry ok, q⟩
    | ret u => obtain ⟨v, σ', H', J', r, q⟩ := hsp; exact ⟨v, σ', H', J'.ofTry ok, r, q⟩
end
end TL

set_option Elab.async false
set_option linter.all false
set_option maxRecDepth 100000
set_option maxHeartbeats 2000000
set_option autoImplicit false
/-! TLp: except suites, the try statement. -/
namespace TL
open PySem PySem.Spec PyProof.Rows L2
section
variable {C : Cfg} {g : Gd} {Y : Cx} {a : Addr} {cls : Value} {d : Option Addr} {io : Option Nat}
/-- a suite of one statement -/
def SR (C : Cfg) (g : Gd) (Y : Cx) (a : Addr) (cls : Value) (d : Option Addr) (io : Option Nat) (sts : List Stmt) (s' : XS) : Prop :=
  ∀ (x : Exc) (G : As) (pv : List V) (H : Hp) (ρ : Env) (σ : St) (D : Ends) (W : WX), pv.length = C.np → Rel g G pv H ρ σ → ExD g (AvO H (ou (FS H ρ σ) G)) x cls d → (∀ k, io = some k → σ[k]? = some (some (.ref a))) → PostS g G pv H ρ σ (evXS C x s' ρ) D W → tss0 Y sts D σ H
theorem sr_pass {pos : Pos} : SR C g Y a cls d io [.Pass pos] .pass := fun x G pv H ρ σ D W hp RR hx hi h => tss0_of (pss_one ps_pass) (by
  simp only [evXS] at h
  exact h σ H Stp.refl RR)
theorem sr_ret {e : Expr} {e' : X1} {pos : Pos} (hr : XR C g Y a cls d io e e') : SR C g Y a cls d io [.Return (some e) pos] (.ret e') := fun x G pv H ρ σ D W hp RR hx hi h => tss0_of (pss_one (ps_ret (pe0 Y e))) (by
  simp only [evXS] at h
  cases q : evX C x e' with
  | none => rw [q] at h; exact h.elim
  | some t =>
    rw [q, R.of_some, R.bind_ok] at h
    exact hr x σ H _ t _ (fun b u z => z.1) hx hi q fun v dv => h v σ H (Stp.refl.less fun a z => z.elim (fun z => z.elim) id) (Rel2.of_sh RR dv))
theorem sr_set {e : Expr} {e' : X1} {i : Nat} {y : Str} {p pos : Pos} (hr : XR C g Y a cls d io e e') (hN : Y.N.Nodup) (hi' : Y.N[i]? = some y) (hx' : Loc Y.env.scope y) (hf : Y.fn y = true ∨ Y.env.scope.names.lookup y = some .local) (hn : noComp e = true)
    (hw : swappedStores [.Name y p] e Y.env = pure none) : SR C g Y a cls d io [.Assign [.Name y p] e pos] (.set i e') := fun x G pv H ρ σ D W hp RR hx hi h => tss0_of (pss_one (ps_asg (pe0 Y e) (pg_name hN hi' hx' hf) (sole_swaps hn) hw (assign_one rfl))) (by
  simp only [evXS] at h
  cases q : evX C x e' with
  | none => rw [q] at h; exact h.elim
  | some t =>
    rw [q, R.of_some, R.bind_ok] at h
    refine hr x σ H _ t _ (fun b u z => z.1) hx hi q fun v dv => ?_
    unfold setS at h
    by_cases c : C.np ≤ i ∧ i < ρ.length
    · rw [if_pos c] at h
      obtain ⟨R3, f3⟩ := (Rel2.of_sh RR dv).store (i := i) (by omega) c.2
      exact h _ H (Stp.refl.less fun a z => (f3 a z).elim (fun z => z.elim) id) R3
    · rw [if_neg c] at h; exact h.elim)
theorem sr_app {e : Expr} {e' : X1} {i : Nat} {y : Str} {xp apos cpos pos : Pos} (hr : XR C g Y a cls d io e e') (hy : PE Y (.Name y xp) (tVar i)) (hs : notStar e = true) (hline : (apos.endLine == cpos.line) = true) :
    SR C g Y a cls d io [.Expr (.Call (.Attribute (.Name y xp) "append" apos) [e] [] cpos) pos] (.app i e') := fun x G pv H ρ σ D W hp RR hx hi h =>
  tss0_of (pss_one (ps_expr (pe_bm PySem.F.plainAttrs_list PySem.F.slot_list_append PySem.F.type_list_append mt_append hy (pa0 Y [e] (by rw [List.all_cons, hs]; rfl)) rfl (few_one hs) hline (starEach_cons hs) rfl) rfl)) (by
  simp only [evXS] at h
  cases q : evX C x e' with
  | none => rw [q] at h; exact h.elim
  | some t =>
    rw [q, R.of_some, R.bind_ok] at h
    cases e1 : ρ[i]? with
    | none => rw [e1] at h; exact h.elim
    | some s =>
      rw [e1, Option.bind_some] at h
      cases e2 : mutT .append s t with
      | none => rw [e2] at h; exact h.elim
      | some s2 =>
        rw [e2, R.of_some, R.bind_ok] at h
        cases s with
        | ow u =>
          cases u with
          | lst xs =>
            simp only [mutT] at e2
            by_cases hl : xs.length < line
            · rw [if_pos hl] at e2
              cases e2
              obtain ⟨b, o, hv, ho, vs, eo, dl⟩ := RR.den i _ e1
              subst eo
              refine ⟨_, RR.at_some hv, .inl ⟨rfl, vs, SqL.of ho⟩, ?_⟩
              refine hr x σ H _ t _ (fun b u z => z.1) hx hi q fun v dv => ?_
              obtain ⟨R2, s2⟩ := RR.write (t' := .lst (xs ++ [t])) (o' := .lst (vs ++ [v])) e1 hv ⟨_, rfl, dl.append (DenL.cons dv DenL.nil)⟩
              exact ⟨b, vs, v, rfl, rfl, ho, by rw [← dl.length]; exact hl, h σ _ s2 R2⟩
            · rw [if_neg hl] at e2; cases e2
          | _ => simp [mutT] at e2
        | _ => simp [mutT] at e2)
end
/-! ### the statement -/
section
variable {C : Cfg} {g : Gd} {X : Cx}
/-- a clause -/
inductive HdSnd (C : Cfg) (g : Gd) (X : Cx) : List ExceptHandler → List (List Nat × Option Nat × XS) → Prop
  | nil : HdSnd C g X [] []
  | cons {x : Str} {c : Nat} {nm : Option Str} {i : Option Nat} {s' : XS} {b₀ : Stmt} {np pos' : Pos} {hds : List ExceptHandler} {l : List (List Nat × Option Nat × XS)} (hc : Names X x (.ref (g.cl c))) (hn : NameAt X nm i)
      (hsu : ∀ (a : Addr) (oe : Obj) (cls : Value) (d : Option Addr) (pn : List (Addr × Obj)), Zc cls d oe → (∃ vs, oe.data = .fields vs) → SR C g (X.suite a ((a, oe) :: pn)) a cls d i [b₀] s')
      (r : HdSnd C g X hds l) : HdSnd C g X (.ExceptHandler (some (.Name x np)) nm [b₀] pos' :: hds) (([c], i, s') :: l)
def suT (X : Cx) (sts : List Stmt) : Addr → Value → Option Addr → TS := fun a cls d D σ H => ∀ (oe : Obj) (pn : List (Addr × Obj)), Zc cls d oe → (∃ vs, oe.data = .fields vs) → tss0 (X.suite a ((a, oe) :: pn)) sts D σ H
theorem suT_ok {sts : List Stmt} (a : Addr) (oe : Obj) (cls : Value) (d : Option Addr) (pn : List (Addr × Obj)) (hz : Zc cls d oe) (hf : ∃ vs, oe.data = .fields vs) : PSs (X.suite a ((a, oe) :: pn)) sts (suT X sts a cls d) :=
  ⟨fun pins s σ H D I h => h oe pn hz hf pins s I⟩
def clsOf (g : Gd) (X : Cx) : List ExceptHandler → List (List Nat × Option Nat × XS) → List (Value × Option Nat × (Addr → Value → Option Addr → TS))
  | .ExceptHandler _ _ sts _ :: hds, (cs, i, _) :: l => (.ref (g.cl (cs.headD 0)), i, suT X sts) :: clsOf g X hds l
  | _, _ => []
theorem HdSnd.gen {hds : List ExceptHandler} {l : List (List Nat × Option Nat × XS)} (h : HdSnd C g X hds l) : HdsGen X hds (clsOf g X hds l) := by
  induction h with
  | nil => exact .nil
  | cons hc hn hsu r ih => exact .cons hc hn (fun a oe cls d pn hz hf => suT_ok a oe cls d pn hz hf) ih
theorem handle_snd {hds : List ExceptHandler} {l : List (List Nat × Option Nat × XS)} (EW : ErrW C g X.K) (h : HdSnd C g X hds l) {x : Exc} {G : As} {pv : List V} {H0 H : Hp} {ρ0 ρ : Env} {σ0 σ : St} {D : Ends} {W : WX} {cls : Value} {d : Option Addr}
    (hp : pv.length = C.np) (st : Stp (FS H0 ρ0 σ0) H0 (FS H ρ σ) H) (RR : Rel g G pv H ρ σ) (hx : ExD g (AvO H (ou (FS H ρ σ) G)) x cls d) :
    PostS g G pv H0 ρ0 σ0 (handle C x l ρ) D W → wGen X.K W D (clsOf g X hds l) cls d σ H := by
  induction h with
  | nil =>
    intro h
    simp only [handle] at h
    exact (h : PostX g G pv H0 ρ0 σ0 x ρ W) cls d σ H st RR hx
  | @cons x' c nm i s' b₀ np pos' hds l hc hn hsu r ih =>
    intro h
    simp only [handle] at h
    by_cases k1 : ([c].all (C.errs.contains ·) && C.errs.contains x.c) = true
    case neg => rw [if_neg k1] at h; exact h.elim
    rw [if_pos k1] at h
    rw [Bool.and_eq_true] at k1
    have hcE : C.errs.contains c = true := by simpa using k1.1
    obtain ⟨e1, hf⟩ := hx
    subst e1
    refine ⟨C.sub x.c c, EW.m _ _ k1.2 hcE, fun hb a na oe pn hz hfs => ?_, fun hb => ?_⟩
    · have k2 : [c].any (C.sub x.c) = true := by simpa using hb
      rw [if_pos k2] at h
      cases i with
      | none => exact hsu a oe _ d pn hz hfs x G pv H ρ σ D W hp RR ⟨rfl, hf⟩ (fun k e => by cases e) (PostS.after (h : PostS g G pv H0 ρ0 σ0 (evXS C x s' ρ) D W) st)
      | some i =>
        by_cases k3 : C.np ≤ i ∧ i < ρ.length
        case neg => simp only [if_neg k3] at h; exact h.elim
        simp only [if_pos k3] at h
        obtain ⟨R1, f1⟩ := RR.store (i := i) (by omega) (some (.ref a))
        have s1 : Stp (FS H ρ σ) H (FS H (ρ.set i .un) (σ.set i (some (.ref a)))) H := Stp.refl.less f1
        have hil : i < σ.length := by rw [← RR.len]; exact k3.2
        refine hsu a oe _ d pn hz hfs x G pv H (ρ.set i .un) (σ.set i (some (.ref a))) (unE D (some i)) W hp R1 ⟨rfl, ?_⟩ (fun k e => ?_) ?_
        · have hx2 : ExD g (AvO H (ou (FS H (ρ.set i .un) (σ.set i (some (.ref a)))) G)) x (.ref (g.cl x.c)) d := ExD.mono ⟨rfl, hf⟩ (AvO.sub fun a z => z.imp (f1 a) id)
          exact hx2.2
        · cases e
          rw [List.getElem?_set_self hil]
        · have un : ∀ {ρ' : Env} {σ' : St} {H' : Hp}, Rel g G pv H' ρ' σ' → Rel g G pv H' (ρ'.set i .un) (σ'.set i none) ∧ ∀ b, FS H' (ρ'.set i .un) (σ'.set i none) b → FS H' ρ' σ' b := fun R => R.store (i := i) (by omega) none
          have s2 := st.trans s1
          cases q : evXS C x s' (ρ.set i .un) with
          | bad => rw [q] at h; exact h
          | ex y ρ' => rw [q] at h; exact PostX.after (h : PostX g G pv H0 ρ0 σ0 y ρ' W) s2 fun _ z => z
          | ok f ρ' =>
            rw [q] at h
            cases f with
            | nx => exact fun σ' H' s3 R3 => let ⟨R4, f4⟩ := un R3; (h : PostS g G pv H0 ρ0 σ0 (.ok .nx (ρ'.set i .un)) D W) _ H' (s2.trans (s3.less f4)) R4
            | bk => exact fun σ' H' s3 R3 => let ⟨R4, f4⟩ := un R3; (h : PostS g G pv H0 ρ0 σ0 (.ok .bk (ρ'.set i .un)) D W) _ H' (s2.trans (s3.less f4)) R4
            | ct => exact fun σ' H' s3 R3 => let ⟨R4, f4⟩ := un R3; (h : PostS g G pv H0 ρ0 σ0 (.ok .ct (ρ'.set i .un)) D W) _ H' (s2.trans (s3.less f4)) R4
            | ret r => exact fun v σ' H' s3 R3 => let ⟨R4, f4⟩ := R3.storeUn (i := i) (by omega) none; (h : PostS g G pv H0 ρ0 σ0 (.ok (.ret r) (ρ'.set i .un)) D W) v _ H' (s2.trans (s3.less fun a z => z.imp id (f4 a))) R4
    · have k2 : ¬ [c].any (C.sub x.c) = true := by simpa using hb
      rw [if_neg k2] at h
      exact ih h
theorem sndS_try {body : List Stmt} {body' : List S} {h₀ : ExceptHandler} {hds : List ExceptHandler} {l : List (List Nat × Option Nat × XS)} {pos : Pos} (hs : X.stack = X.env :: X.outer) (hf : X.env.frame = some X.env.locals) (hN : X.N.Nodup) (EW : ErrW C g X.K)
    (hb : ∀ (pn : List (Addr × Obj)) (xe : Value → Shared → Prop), PassesOwn (model X.prog X.w) X.A X.env xe → SndSs C g (X.tr pn xe) body body') (hh : HdSnd C g X (h₀ :: hds) l) : SndS C g X (.Try body (h₀ :: hds) [] [] pos) (.try body' l) := by
  refine ⟨fun G pv H ρ σ D W hp tk RR h => ts0_of (ps_try_gen (tb := fun W' D σ H => ∀ (pn : List (Addr × Obj)) (xe : Value → Shared → Prop), Takes (X.tr pn xe) W' → PassesOwn (model X.prog X.w) X.A X.env xe → tss0 (X.tr pn xe) body D σ H) hs hf hN tk
    (fun W' pn xe tk' po => ⟨fun pins s σ H D I h => h pn xe tk' po pins s I⟩) hh.gen) fun pn xe tk' po => (hb pn xe po).run G pv H ρ σ D _ hp tk' RR ?_⟩
  simp only [evS] at h
  cases q : evSs C body' ρ with
  | bad => rw [q] at h; exact h
  | ok f ρ' => rw [q] at h; cases f <;> exact h
  | ex x ρ' =>
    rw [q] at h
    exact fun cls d σ' H' st R' hx => handle_snd EW hh hp st R' hx h
end
end TL

set_option Elab.async false
set_option linter.all false
set_option maxRecDepth 100000
set_option maxHeartbeats 2000000
set_option autoImplicit false
/-! TLq: list(range(a, b)) for bounds of any size. -/
namespace TL
open PySem PySem.Spec PyProof.Rows L2
section
variable {prog : Program} {w : World} {A : Around} {E : Value → Shared → Prop} {s : Shared}
theorem extend_long {R : Result → Shared → Prop} {r : Addr} {a b c : Int} {t u v : Tok} {n : Nat} (hh : A.handled = none) (hr : IsRange s.heap r a b c t u v) (hbig : Builtin.Range.small a b c = false) (hn : Builtin.Range.rangeSize a b c = n) (hlen : n ≤ 2 ^ 24)
    (S : Addr) (res : Value) (c₀ : Nat) (hS : s.heap.get? S = some { cls := .type "list", data := .seq #[] c₀ })
    (hR : ∀ h' tk acc' c', (∀ b o, b ≠ S → s.heap.get? b = some o → h'.get? b = some o) → h'.get? S = some { cls := .type "list", dict := none, data := .seq acc' c', slots := #[] } → ItemsOf (fun i v => ∃ t, v = .int (a + i * c) t) acc' n → R (.ok (.ret res)) { s with heap := h', toks := tk }) :
    wpAny (model prog w) A.in1 (Builtin.List.listExtendWith (.ref S) (.ref r) res) (fun fin s' => match fin with | .done f => R (.ok f) s' | .again c' => c'.quiet = true ∧ codeAny (model prog w) A c' R s') (fun e s' => R (.error e) s') s := by
  have ne : S ≠ r := fun e => by rw [e, hr] at hS; simp at hS
  have lt : S < s.heap.objs.size := Heap.lt_size hS
  have nI : S ≠ s.heap.objs.size := Nat.ne_of_lt lt
  have W := (Walks.longrange (prog := prog) (w := w) (A := A.in1) hh s.heap.objs.size a c n).toS
  have key : ∀ (h : Heap) (c₁ tk : Nat), IsLongIter h s.heap.objs.size (a + ((0 : Nat) : Int) * c) ((n : Int) - ((0 : Nat) : Int)) c → (∀ b o, b ≠ S → s.heap.get? b = some o → h.get? b = some o) → h.get? S = some { cls := .type "list", data := .seq #[] c₁ } →
      codeAny (model prog w) A (.builtin "list.extend.loop" ⟨[.ref S, .ref s.heap.objs.size, res], []⟩) R { s with heap := h, toks := tk } := by
    intro h c₁ tk hit hk hS₁
    refine codeAny_extend_loopS W (by rw [sizeLine_eq]; omega) S (fun hm => nI (List.mem_singleton.mp hm)) res n 0 _ #[] c₁ rfl (Nat.zero_le _) hit hS₁ (ItemsOf.nil _) fun s' acc' c' hm hS' hacc => ?_
    rw [Moved.eq_with hm]
    refine hR s'.heap s'.toks acc' c' (fun b o hb e => hm.heap b o (fun z => ?_) (hk b o hb e)) hS' hacc
    rcases List.mem_cons.mp z with e' | z
    · exact hb e'
    · exact absurd (Heap.lt_size e) (by rw [List.mem_singleton.mp z]; exact Nat.lt_irrefl _)
  unfold Builtin.List.listExtendWith
  refine wpAny_bind (wpAny_typeOf (T := "range") ⟨_, hr, rfl⟩ ?_)
  have h1 : Builtin.List.listSameRef (.ref S) (.ref r) = false := by simp [Builtin.List.listSameRef, ne]
  have h2 : (Value.type "range" == Value.type "list") = false := by decide
  have h3 : (Value.type "range" == Value.type "tuple") = false := by decide
  simp only [h1, h2, h3, Bool.or_false, Bool.false_eq_true, if_false]
  refine wpAny_bind (wpAny_pyIter_longrange hr hbig ?_)
  refine wpAny_bind (wpAny_holding (wpAny_hint_range (n := n) (Heap.get?_push_of_some _ hr) hn hlen ?_))
  have hit₁ : IsLongIter (s.heap.push { cls := .type "longrange_iterator", data := .fields #[rawInt a, rawInt (Builtin.Range.rangeSize a b c), rawInt c] }) s.heap.objs.size (a + ((0 : Nat) : Int) * c) ((n : Int) - ((0 : Nat) : Int)) c := by
    show IsLongIter _ _ _ _ _
    rw [hn]
    simpa using Heap.get?_push_size _ rfl
  have hS₁ := Heap.get?_push_of_some { cls := .type "longrange_iterator", data := .fields #[rawInt a, rawInt (Builtin.Range.rangeSize a b c), rawInt c] } hS
  refine wpAny_ite_split (fun _ => ?_) (fun _ => wpAny_pure ⟨plainId_quiet F.plain_extend_loop _, key _ c₀ _ hit₁ (fun b o _ e => Heap.get?_push_of_some _ e) hS₁⟩)
  refine wpAny_bind (wpAny_rule (wpAny_bind ?_))
  show wpAny _ _ (updateSeq S (·.push .none) >>= fun _ => updateSeq S (·.pop)) _ _ _
  refine wpAny_bind (wpAny_updateSeq hS₁ rfl ?_)
  have hS₂ := Heap.get?_update_self (Obj.mapSeq (·.push Value.none)) hS₁ rfl
  refine wpAny_updateSeq (hz := by seq_fits) hS₂ rfl ?_
  have hS₃ := Heap.get?_update_self (Obj.mapSeq (·.pop)) hS₂ rfl
  refine wpAny_pure ⟨plainId_quiet F.plain_extend_loop _, key _ _ _ ?_ (fun b o hb e => ?_) hS₃⟩
  · exact (Heap.get?_update_other _ _ nI).trans ((Heap.get?_update_other _ _ nI).trans hit₁)
  · exact (Heap.get?_update_other _ _ (Ne.symm hb)).trans ((Heap.get?_update_other _ _ (Ne.symm hb)).trans (Heap.get?_push_of_some _ e))
theorem list_init_long {R : Result → Shared → Prop} {r : Addr} {a b c : Int} {t u v : Tok} {n : Nat} (hh : A.handled = none) (hr : IsRange s.heap r a b c t u v) (hbig : Builtin.Range.small a b c = false) (hn : Builtin.Range.rangeSize a b c = n) (hlen : n ≤ 2 ^ 24)
    (S : Addr) (hS : s.heap.get? S = some { cls := .type "list", data := .seq #[] })
    (hR : ∀ h' tk acc' c', (∀ b o, b ≠ S → s.heap.get? b = some o → h'.get? b = some o) → h'.get? S = some { cls := .type "list", dict := none, data := .seq acc' c', slots := #[] } → ItemsOf (fun i v => ∃ t, v = .int (a + i * c) t) acc' n → R (.ok (.ret .none)) { s with heap := h', toks := tk }) :
    wpAny (model prog w) A.in1 (Builtin.«list.__init__» ⟨[.ref S, .ref r], []⟩) (fun fin s' => match fin with | .done f => R (.ok f) s' | .again c' => c'.quiet = true ∧ codeAny (model prog w) A c' R s') (fun e s' => R (.error e) s') s := by
  have ne : S ≠ r := fun e => by rw [e, hr] at hS; simp at hS
  show wpAny _ _ (do let old ← Builtin.List.listItems (.ref S); Builtin.List.listUpdate (.ref S) (fun _ => #[]); letGo old.toList.reverse; Builtin.List.listExtendWith (.ref S) (.ref r) .none) _ _ s
  refine wpAny_bind ?_
  unfold Builtin.List.listItems
  refine wpAny_bind (wpAny_seqItems hS rfl (wpAny_pure ?_))
  show wpAny _ _ (updateSeq S (fun _ => #[]) >>= fun _ => letGo (#[] : Array Value).toList.reverse >>= fun _ => Builtin.List.listExtendWith (.ref S) (.ref r) .none) _ _ s
  refine wpAny_bind (wpAny_updateSeq hS rfl ?_)
  have hS₂ := Heap.get?_update_self (Obj.mapSeq (fun _ => (#[] : Array Value))) hS rfl
  have oth : ∀ b o, b ≠ S → s.heap.get? b = some o → (s.heap.update S (Obj.mapSeq (fun _ => (#[] : Array Value)))).get? b = some o := fun b o hb e => (Heap.get?_update_other _ _ (Ne.symm hb)).trans e
  exact wpAny_bind (wpAny_letGo (extend_long hh (oth r _ (Ne.symm ne) hr) hbig hn hlen S .none _ hS₂ fun h' tk acc' c' hk hS' hacc => hR h' tk acc' c' (fun b o hb e => hk b o hb (oth b o hb e)) hS' hacc))
theorem call_list_long {Q : Value → Shared → Prop} {r : Addr} {a b c : Int} {t u v : Tok} {n : Nat} (hh : A.handled = none) (hr : IsRange s.heap r a b c t u v) (hn : Builtin.Range.rangeSize a b c = n) (hlen : n ≤ 2 ^ 24)
    (hQ : ∀ h' tk acc' c', (∀ b o, s.heap.get? b = some o → h'.get? b = some o) → h'.get? s.heap.objs.size = some { cls := .type "list", dict := none, data := .seq acc' c', slots := #[] } → ItemsOf (fun i v => ∃ t, v = .int (a + i * c) t) acc' n →
      Q (.ref s.heap.objs.size) { s with heap := h', toks := tk }) : wpAny (model prog w) A (call (.type "list") [.ref r]) Q E s := by
  cases hs : Builtin.Range.small a b c with
  | true => exact call_list_range hh hr hs hn hlen hQ
  | false =>
    refine callType_codes (Q₁ := fun obj s₁ => obj = .ref s.heap.objs.size ∧ s₁ = { s with heap := s.heap.push { cls := .type "list", data := .seq #[] } }) F.called_list (F.typeCall_list_1 _) F.entry_list_init (code_list_new _ ⟨rfl, rfl⟩) fun obj s₁ h₁ => ?_
    obtain ⟨rfl, rfl⟩ := h₁
    have hS : (s.heap.push { cls := .type "list", data := .seq #[] }).get? s.heap.objs.size = some { cls := .type "list", data := .seq #[] } := Heap.get?_push_size _ rfl
    exact ⟨⟨_, hS, rfl⟩, F.args_list_init_2 _ _, list_init_long (A := A.in1) hh (Heap.get?_push_of_some _ hr) hs hn hlen _ hS fun h' tk acc' c' hk hS' hacc => ⟨rfl, hQ h' tk acc' c' (fun b o e => hk b o (Nat.ne_of_lt (Heap.lt_size e)) (Heap.get?_push_of_some _ e)) hS' hacc⟩⟩
end
section
variable {X : Cx} {e : Expr} {te : St → Hp → (Int → Int → Hp → Prop) → Prop}
theorem pe_listRgL {p pos : Pos} (hc : X.calm = true) (hg : Gl X "list") (hm : X.mg "list" = none) (he : PRg X e te) (na : starEach [e] X.env = (false, eval e X.env) :: starEach [] X.env) : PE X (.Call (.Name "list" p) [e] [] pos)
    (fun σ H Q => te σ H fun a b H1 => (b - a).toNat ≤ 2 ^ 24 ∧ ∀ q, H1 q = none → Q (.ref q) (upd H1 q (.lst (rgV a b)))) := by
  refine ⟨fun pins s σ H Q I h => ?_⟩
  refine Call_ (ld_blt I hg hm boot_list (PyProof.Rows.callWith_type1 (args_cons (thn (he pins s σ H _ I h) fun x s1 ⟨r, a, b, t, u, v, H1, ex, hr, I1, ok, q⟩ => args_nil ?_) na) na))
  subst ex
  refine call_list_long (n := (b - a).toNat) (I1.ok.hd hc) hr (rangeSize_nat a b) ok fun h' tk acc c' hk e' hi => ?_
  exact ⟨.ref s1.heap.objs.size, upd H1 s1.heap.objs.size (.lst (rgV a b)), I1.laid hk (Nat.le_refl _) (show ObjOk X.prog X.w _ _ _ (.lst (rgV a b)) from ⟨by rw [rgV_length, sizeLine_eq]; omega, acc.toList, c', vals_rg hi, by rw [Array.toArray_toList]; exact e'⟩), rfl, q _ (I1.hok.fresh (Nat.le_refl _))⟩
end
end TL

set_option Elab.async false
set_option linter.all false
set_option maxRecDepth 100000
set_option maxHeartbeats 2000000
set_option autoImplicit false
/-! TLr: the other strict operations; operators, calls of builtins, isinstance, attributes. -/
namespace TL
open PySem PySem.Spec PyProof.Rows L2
section
variable {C : Cfg} {g : Gd} {X : Cx}
theorem TopL.length {A : Av} {H : Hp} : ∀ {ts : List T} {vs : List V}, TopL g A H ts vs → ts.length = vs.length
  | [], [], _ => rfl
  | _ :: _, _ :: _, h => by rw [List.length_cons, List.length_cons, TopL.length h.2]
  | [], _ :: _, h => h.elim
  | _ :: _, [], h => h.elim
/-! ### len, list, tuple, all, displays -/
def rLenA (K : PySem.W.Frag) : List V → Hp → VK → Prop := fun xs H Q => (∃ p ys, xs = [V.ref p] ∧ (SqL K H p ys ∨ SqT K H p ys) ∧ Q (.int ys.length) H) ∨ ∃ z, xs = [V.str z] ∧ z.length ≤ sizeLine ∧ Q (.int z.length) H
theorem call_lenA : CallR X (.builtin "len") (rLenA X.K) := call_len_seq.or call_len_str
theorem bo_len : BiOk g (biT C .len) (rLenA g.K) := by
  intro A H ts vs s Q hA ht e hq
  have e' : bLen ts = some s := e
  unfold bLen at e'
  split at e'
  · cases e'
    obtain ⟨v, rfl, h1⟩ := ht.one
    obtain ⟨a, xs, rfl, ha, d⟩ := h1.lst hA
    exact .inl ⟨a, xs, rfl, .inl (SqL.of ha), hq _ _ (by rw [← d.length]; exact .int)⟩
  · cases e'
    obtain ⟨v, rfl, h1⟩ := ht.one
    obtain ⟨a, xs, rfl, ha, d⟩ := h1.tupS hA
    exact .inl ⟨a, xs, rfl, .inr ha, hq _ _ (by rw [← d.length]; exact .int)⟩
  · split at e'
    · cases e'
      obtain ⟨v, rfl, h1⟩ := ht.one
      have e1 := h1.str
      subst e1
      exact .inr ⟨_, rfl, by assumption, hq _ _ .int⟩
    · cases e'
  · cases e'
def rListA (K : PySem.W.Frag) : List V → Hp → VK → Prop := fun xs H Q => ∃ p ys, xs = [V.ref p] ∧ (SqL K H p ys ∨ SqT K H p ys) ∧ ∀ l, H l = none → Q (.ref l) (upd H l (.lst ys))
theorem bo_list : BiOk g (biT C .listOf) (rListA g.K) := by
  intro A H ts vs s Q hA ht e hq
  have e' : bList ts = some s := e
  unfold bList at e'
  split at e'
  · cases e'
    obtain ⟨v, rfl, h1⟩ := ht.one
    obtain ⟨a, xs, rfl, ha, d⟩ := h1.lst hA
    exact ⟨a, xs, rfl, .inl (SqL.of ha), fun l hl => hq _ _ (.newL hl d)⟩
  · cases e'
    obtain ⟨v, rfl, h1⟩ := ht.one
    obtain ⟨a, xs, rfl, ha, d⟩ := h1.tupS hA
    exact ⟨a, xs, rfl, .inr ha, fun l hl => hq _ _ (.newL hl d)⟩
  · cases e'
def rTupA (K : PySem.W.Frag) : List V → Hp → VK → Prop := fun xs H Q => ∃ p ys, xs = [V.ref p] ∧ ((SqL K H p ys ∧ ∀ l, H l = none → Q (.ref l) (upd H l (.tup ys))) ∨ (SqT K H p ys ∧ Q (.ref p) H))
theorem bo_tup : BiOk g (biT C .tupOf) (rTupA g.K) := by
  intro A H ts vs s Q hA ht e hq
  have e' : bTup ts = some s := e
  unfold bTup at e'
  split at e'
  · cases e'
    obtain ⟨v, rfl, h1⟩ := ht.one
    obtain ⟨a, xs, rfl, ha, d⟩ := h1.lst hA
    exact ⟨a, xs, rfl, .inl ⟨SqL.of ha, fun l hl => hq _ _ (.newT hl d)⟩⟩
  · cases e'
    obtain ⟨v, rfl, h1⟩ := ht.one
    obtain ⟨a, xs, rfl, ha, d⟩ := h1.tupS hA
    exact ⟨a, xs, rfl, .inr ⟨ha, hq _ _ (.val h1.tup)⟩⟩
  · cases e'
theorem bls_of {A : Av} : ∀ {ts : List T} {bs : List Bool} {xs : List V}, blsOf ts = some bs → DenL g A ts xs → xs = bs.map V.bl
  | [], bs, xs, e, d => by simp only [blsOf] at e; cases e; simp only [DenL] at d; subst d; rfl
  | .bl b :: ts, bs, xs, e, d => by
    simp only [blsOf] at e
    obtain ⟨bs', e1, rfl⟩ := Option.map_eq_some_iff.mp e
    simp only [DenL] at d
    obtain ⟨v, vs, rfl, d1, d2⟩ := d
    simp only [Den] at d1
    subst d1
    rw [bls_of e1 d2]; rfl
  | .non :: _, _, _, e, _ => by simp [blsOf] at e
  | .int _ :: _, _, _, e, _ => by simp [blsOf] at e
  | .str _ :: _, _, _, e, _ => by simp [blsOf] at e
  | .tup _ :: _, _, _, e, _ => by simp [blsOf] at e
  | .lst _ :: _, _, _, e, _ => by simp [blsOf] at e
  | .dct _ _ _ :: _, _, _, e, _ => by simp [blsOf] at e
  | .ins _ _ _ :: _, _, _, e, _ => by simp [blsOf] at e
theorem bo_all : BiOk g (biT C .all) (rAll g.K) := by
  intro A H ts vs s Q hA ht e hq
  have e' : bAll ts = some s := e
  unfold bAll at e'
  split at e'
  · obtain ⟨bs, e1, rfl⟩ := Option.map_eq_some_iff.mp e'
    obtain ⟨v, rfl, h1⟩ := ht.one
    obtain ⟨a, xs, rfl, ha, d⟩ := h1.lst hA
    exact ⟨a, bs, rfl, SqL.of (by rw [← bls_of e1 d]; exact ha), hq _ _ .bl⟩
  · cases e'
/-! ### items -/
theorem atI_den {A : Av} {ts : List T} {xs : List V} (d : DenL g A ts xs) {i : Int} {t : T} (e : atI ts i = some t) : ∃ v, atI xs i = some v ∧ Den g A t v := by
  have hl := d.length
  unfold atI at e ⊢
  rw [← hl]
  have get : ∀ {ts : List T} {xs : List V} {n : Nat} {t : T}, DenL g A ts xs → ts[n]? = some t → ∃ v, xs[n]? = some v ∧ Den g A t v := by
    intro ts
    induction ts with
    | nil => intro xs n t d e; simp at e
    | cons t' ts ih =>
      intro xs n t d e
      simp only [DenL] at d
      obtain ⟨v, vs, rfl, d1, d2⟩ := d
      cases n with
      | zero => simp at e; subst e; exact ⟨v, by simp, d1⟩
      | succ n => simpa using ih d2 (by simpa using e)
  obtain ⟨j, e1, e2⟩ := Option.bind_eq_some_iff.mp e
  rw [e1, Option.bind_some]
  exact get d e2
theorem bo_ix : BiOk g (biT C .ix) (r2 (rIxA g.K)) := by
  intro A H ts vs s Q hA ht e hq
  have e' : bIx ts = some s := e
  unfold bIx at e'
  split at e'
  · obtain ⟨t, e1, rfl⟩ := Option.map_eq_some_iff.mp e'
    obtain ⟨v, w, rfl, h1, h2⟩ := ht.two
    have e2 := h2.int
    subst e2
    obtain ⟨a, xs, rfl, ha, d⟩ := h1.lst hA
    obtain ⟨u, hu, du⟩ := atI_den d e1
    exact ⟨_, _, rfl, .inl ⟨a, xs, _, u, rfl, rfl, SqL.of ha, hu, hq _ _ (.val du)⟩⟩
  · obtain ⟨t, e1, rfl⟩ := Option.map_eq_some_iff.mp e'
    obtain ⟨v, w, rfl, h1, h2⟩ := ht.two
    have e2 := h2.int
    subst e2
    obtain ⟨a, xs, rfl, ha, d⟩ := h1.tupS hA
    obtain ⟨u, hu, du⟩ := atI_den d e1
    exact ⟨_, _, rfl, .inr (.inl ⟨a, xs, _, u, rfl, rfl, ha, hu, hq _ _ (.val du)⟩)⟩
  · split at e'
    · obtain ⟨c, e1, rfl⟩ := Option.map_eq_some_iff.mp e'
      obtain ⟨v, w, rfl, h1, h2⟩ := ht.two
      have e2 := h2.int
      have e3 := h1.str
      subst e2; subst e3
      exact ⟨_, _, rfl, .inr (.inr (.inl ⟨_, _, c, rfl, rfl, by assumption, e1, hq _ _ .str⟩))⟩
    · cases e'
  · rename_i ks us k0
    obtain ⟨k, e1, e2⟩ := Option.bind_eq_some_iff.mp e'
    cases k with
    | inr _ => cases e2
    | inl k =>
      obtain ⟨t, e3, rfl⟩ := Option.map_eq_some_iff.mp (by simpa [isKK] using e2)
      obtain ⟨v, w, rfl, h1, h2⟩ := ht.two
      have ev := key_den e1 (key_top e1 h2)
      subst ev
      obtain ⟨a, kvs, rfl, hr, rfl, d⟩ := h1.dK hA
      obtain ⟨u, hu, du⟩ := (valV_dGet d).2 t e3
      exact ⟨_, _, rfl, .inr (.inr (.inr ⟨a, u, rfl, .inl ⟨kvs, k, hr, rfl, hu.symm⟩, hq _ _ (.val du)⟩))⟩
  · cases e'
/-! ### attributes of objects -/
structure ObjW (C : Cfg) (g : Gd) (K : PySem.W.Frag) : Prop where
  cls : ∀ c, C.objs.contains c = true → Cls K (g.cl c)
  no : ∀ c f, C.objs.contains c = true → C.fld c f = true → NoAttr K (g.cl c) f
  ha : ∀ c, C.objs.contains c = true → PySem.W.findIn K (.ref (g.cl c)) "__class__" = some (some (.builtin "object.__class__"))
  hn : ∀ c, C.objs.contains c = true → PySem.W.specialIn K (.builtin "object.__class__") "__get__" = some (some (.builtin "getset_descriptor.__get__"))
  ht : ∀ c, C.objs.contains c = true → PySem.W.takesIn K (.builtin "object.__class__") = some true
  hm : ∀ c, C.objs.contains c = true → PySem.W.mroIn K (g.cl c) (.type "object") = some true
  cb : ∀ c n, C.objs.contains c = true → n ∈ ["str", "int", "bool", "tuple", "list", "dict"] → PySem.W.kitOne K (.ref (g.cl c)) (.type n) = some false
  bc : ∀ c n, C.objs.contains c = true → n ∈ ["NoneType", "str", "int", "bool", "tuple", "list", "dict"] → PySem.W.kitOne K (.type n) (.ref (g.cl c)) = some false
  cc : ∀ c d, C.objs.contains c = true → C.objs.contains d = true → PySem.W.kitOne K (.ref (g.cl c)) (.ref (g.cl d)) = some (C.sub c d)
theorem lookup_den {A : Av} {f : Str} : ∀ {us : List (Str × V)} {ts : List T} {t : T}, DenL g A ts (us.map (·.2)) → ((us.map (·.1)).zip ts).lookup f = some t → ∃ v, us.lookup f = some v ∧ Den g A t v
  | [], ts, t, d, e => by simp at e
  | (k, v) :: us, ts, t, d, e => by
    simp only [List.map_cons] at d e
    cases ts with
    | nil => simp at e
    | cons t' ts =>
      simp only [DenL] at d
      obtain ⟨w, ws, e1, d1, d2⟩ := d
      cases e1
      rw [List.zip_cons_cons] at e
      by_cases c : f == k
      · simp only [List.lookup, c] at e ⊢
        cases e
        exact ⟨_, rfl, d1⟩
      · have c' : (f == k) = false := by simpa using c
        simp only [List.lookup, c'] at e ⊢
        exact lookup_den d2 e
def rFldA (K : PySem.W.Frag) (f : Str) : List V → Hp → VK → Prop := fun vs H Q => ∃ a Ca dx fs v, vs = [V.ref a] ∧ H a = some (.ins Ca dx fs) ∧ Cls K Ca ∧ NoAttr K Ca f ∧ fs.lookup f = some v ∧ Q v H
theorem bo_fld {f : Str} (O : ObjW C g g.K) : BiOk g (biT C (.fld f)) (rFldA g.K f) := by
  intro A H ts vs s Q hA ht e hq
  have e' : bFld C f ts = some s := e
  unfold bFld at e'
  split at e'
  · split at e'
    · rename_i cc
      rw [Bool.and_eq_true] at cc
      obtain ⟨t, e1, rfl⟩ := Option.map_eq_some_iff.mp e'
      obtain ⟨v, rfl, h1⟩ := ht.one
      obtain ⟨a, dx, us, rfl, ha, rfl, d⟩ := h1.ins hA
      obtain ⟨u, hu, du⟩ := lookup_den d e1
      exact ⟨a, _, dx, us, u, rfl, ha, O.cls _ cc.1, O.no _ _ cc.1 cc.2, hu, hq _ _ (.val du)⟩
    · cases e'
  · cases e'
theorem te_fld {e : Expr} {f : Str} {pos : Pos} {σ : St} {H : Hp} {Q : VK} (hb : attributeBase e f X.env (eval e X.env) = eval e X.env) (h : taL X [e] σ H (fun vs H' => rFldA X.K f vs H' Q)) : te0 X (.Attribute e f pos) σ H Q :=
  te0_of (pe_fld (pe0 X e) hb) (te0_mono h fun v H' ⟨a, Ca, dx, fs, u, e1, r⟩ => by cases e1; exact ⟨a, Ca, dx, fs, u, rfl, r⟩)
/-! ### isinstance -/
def tagV (g : Gd) : T → Value
  | .non => .type "NoneType"
  | .bl _ => .type "bool"
  | .int _ => .type "int"
  | .str _ => .type "str"
  | .tup _ => .type "tuple"
  | .lst _ => .type "list"
  | .dct _ _ _ => .type "dict"
  | .ins c _ _ => .ref (g.cl c)
def tyName : Ty → String
  | .str => "str" | .int => "int" | .bool => "bool" | .tuple => "tuple" | .list => "list" | .dict => "dict" | .cls _ => ""
def tyVal (g : Gd) : Ty → Value
  | .cls c => .ref (g.cl c)
  | k => .type (tyName k)
def tyV (g : Gd) : Ty → V
  | .cls c => .ref (g.cl c)
  | k => .ty (tyName k)
theorem tyx_of {A : Av} {H : Hp} {t : T} {v : V} (O : ObjW C g g.K) (hA : ∀ a u, A a u → Rd2 H a u) (h : Top g A H t v) (c1 : ∀ ks ts, t ≠ .dct true ks ts) (c2 : ∀ c fs ts, t = .ins c fs ts → C.objs.contains c = true) : TyX g.K H v (tagV g t) := by
  cases t with
  | non => have e := h.non; subst e; exact .base .non
  | bl b => have e := h.bl; subst e; exact .base (.bl b)
  | int i => have e := h.int; subst e; exact .base (.int i)
  | str x => have e := h.str; subst e; exact .base (.str x)
  | tup ts =>
    obtain ⟨a, xs, rfl, h, d⟩ := h.tupS hA
    rcases h with (h | ⟨o, h⟩) | h
    · exact .base (.tup h)
    · exact .fTuple h
    · obtain ⟨o, its, n, e, c, _⟩ := h
      exact .kTuple e c
  | lst ts =>
    obtain ⟨a, xs, rfl, h, d⟩ := h.lst hA
    exact .base (.lst h)
  | dct tk ks ts =>
    cases tk with
    | true => exact absurd rfl (c1 ks ts)
    | false =>
      obtain ⟨a, kvs, rfl, h, _, d⟩ := h.dK hA
      rcases h with h | ⟨o, h⟩
      · exact .base (.dK h)
      · exact .fDict h
  | ins c fs ts =>
    obtain ⟨a, dx, us, rfl, h, _, d⟩ := h.ins hA
    have k := c2 c fs ts rfl
    exact .base (.ins h (O.cls _ k) (O.ha _ k) (O.hn _ k) (O.ht _ k) (O.hm _ k))
theorem kit_tab {t : T} {k : Ty} (O : ObjW C g g.K) (h : isiOk C [k] t = true) : PySem.W.kitOne g.K (tagV g t) (tyVal g k) = some (isTy C.sub t k) := by
  cases t with
  | dct tk ks ts => 
    cases tk with
    | true => simp [isiOk] at h
    | false =>
      cases k with
      | cls d => exact O.bc d "dict" (by simpa [isiOk] using h) (by decide)
      | _ => exact kit_ty (by first | rfl | decide +kernel)
  | ins c fs ts =>
    have hc : C.objs.contains c = true := by
      simp only [isiOk, Bool.and_eq_true] at h
      exact h.1
    cases k with
    | cls d => exact O.cc c d hc (by simp only [isiOk, Bool.and_eq_true, List.all_cons] at h; exact h.2.1)
    | _ => exact O.cb c _ hc (by decide)
  | non =>
    cases k with
    | cls d => exact O.bc d "NoneType" (by simpa [isiOk] using h) (by decide)
    | _ => exact kit_ty (by first | rfl | decide +kernel)
  | bl b =>
    cases k with
    | cls d => exact O.bc d "bool" (by simpa [isiOk] using h) (by decide)
    | _ => exact kit_ty (by first | rfl | decide +kernel)
  | int b =>
    cases k with
    | cls d => exact O.bc d "int" (by simpa [isiOk] using h) (by decide)
    | _ => exact kit_ty (by first | rfl | decide +kernel)
  | str b =>
    cases k with
    | cls d => exact O.bc d "str" (by simpa [isiOk] using h) (by decide)
    | _ => exact kit_ty (by first | rfl | decide +kernel)
  | tup b =>
    cases k with
    | cls d => exact O.bc d "tuple" (by simpa [isiOk] using h) (by decide)
    | _ => exact kit_ty (by first | rfl | decide +kernel)
  | lst b =>
    cases k with
    | cls d => exact O.bc d "list" (by simpa [isiOk] using h) (by decide)
    | _ => exact kit_ty (by first | rfl | decide +kernel)
theorem isiOk_cons {k : Ty} {ks : List Ty} {t : T} (h : isiOk C (k :: ks) t = true) : isiOk C [k] t = true ∧ isiOk C ks t = true := by
  cases t with
  | dct tk _ _ => cases tk <;> simp_all [isiOk]
  | _ => simp_all [isiOk]
theorem kit_tabs {t : T} (O : ObjW C g g.K) : ∀ {ks : List Ty}, isiOk C ks t = true → PySem.W.kitAny g.K (tagV g t) (ks.map (tyVal g)) = some (ks.any (isTy C.sub t))
  | [], _ => kitAny_nil
  | k :: ks, h => by
    obtain ⟨h1, h2⟩ := isiOk_cons h
    have ih := kit_tabs O h2
    rw [List.map_cons, List.any_cons]
    refine kitAny_cons (kit_tab O h1) (fun e => ?_) (fun e => ?_)
    · rw [e, ih]; rfl
    · rw [e]; rfl
/-- isinstance's reading: one class, or a tuple of them -/
def rIsi1 (K : PySem.W.Frag) (u : Value) : List V → Hp → VK → Prop := fun vs H Q => ∃ x t b, vs = [x] ∧ TyX K H x t ∧ PySem.W.kitOne K t u = some b ∧ Q (.bl b) H
def rIsiN (K : PySem.W.Frag) (cs : List V) (us : List Value) : List V → Hp → VK → Prop := fun vs H Q => ∃ x t b, vs = [x] ∧ TyX K H x t ∧ PySem.W.kitAny K t us = some b ∧ cs.length ≤ sizeLine ∧ ∀ p, H p = none → Q (.bl b) (upd H p (.tup cs))
theorem isi_core {ks : List Ty} {A : Av} {H : Hp} {ts : List T} {vs : List V} {s : Sl} (O : ObjW C g g.K) (hA : ∀ a u, A a u → Rd2 H a u) (ht : TopL g A H ts vs) (e : bIsi C ks ts = some s) :
    ∃ t v, vs = [v] ∧ TyX g.K H v (tagV g t) ∧ isiOk C ks t = true ∧ s = .sh (.bl (ks.any (isTy C.sub t))) := by
  unfold bIsi at e
  split at e
  · rename_i t
    split at e
    · rename_i c
      cases e
      obtain ⟨v, rfl, h1⟩ := ht.one
      refine ⟨t, v, rfl, tyx_of O hA h1 (fun a b z => by subst z; simp [isiOk] at c) (fun a b d z => ?_), c, rfl⟩
      subst z
      simp only [isiOk, Bool.and_eq_true] at c
      exact c.1
    · cases e
  · cases e
theorem bo_isi1 {k : Ty} (O : ObjW C g g.K) : BiOk g (biT C (.isi [k])) (rIsi1 g.K (tyVal g k)) := by
  intro A H ts vs s Q hA ht e hq
  obtain ⟨t, v, rfl, ty, c, rfl⟩ := isi_core O hA ht e
  refine ⟨v, tagV g t, _, rfl, ty, kit_tab O c, hq _ _ ?_⟩
  rw [show [k].any (isTy C.sub t) = isTy C.sub t k by simp]
  exact .bl
theorem bo_isiN {ks : List Ty} (O : ObjW C g g.K) (hl : ks.length ≤ 100) : BiOk g (biT C (.isi ks)) (rIsiN g.K (ks.map (tyV g)) (ks.map (tyVal g))) := by
  intro A H ts vs s Q hA ht e hq
  obtain ⟨t, v, rfl, ty, c, rfl⟩ := isi_core O hA ht e
  exact ⟨v, tagV g t, _, rfl, ty, kit_tabs O c, by rw [List.length_map, sizeLine_eq]; omega, fun p hp => hq _ _ (.inl ⟨upd_ext hp, _, rfl, den_bl⟩)⟩
theorem tyx_ext {K : PySem.W.Frag} {H : Hp} {p : Addr} {o : HO} {v : V} {t : Value} (hp : H p = none) (h : TyX K H v t) : TyX K (upd H p o) v t := by
  have up := upd_ext (o := o) hp
  cases h with
  | base b =>
    refine .base ?_
    cases b with
    | non => exact .non
    | bl x => exact .bl x
    | int i => exact .int i
    | str x => exact .str x
    | flt x => exact .flt x
    | lst e => exact .lst (up _ _ e)
    | frz e => exact .frz (up _ _ e)
    | tup e => exact .tup (up _ _ e)
    | dK e => exact .dK (up _ _ e)
    | dT e => exact .dT (up _ _ e)
    | ins e cl ha hn htk hm => exact .ins (up _ _ e) cl ha hn htk hm
  | byt b => exact .byt b
  | set e => exact .set (up _ _ e)
  | kList e c => exact .kList e c
  | kTuple e c => exact .kTuple e c
  | kDict e c => exact .kDict e c
  | fTuple e => exact .fTuple (up _ _ e)
  | fDict e => exact .fDict (up _ _ e)
theorem te_isi1 {e c : Expr} {p pos : Pos} {k : Ty} {σ : St} {H : Hp} {Q : VK} (hg : Gl X "isinstance") (hm : X.mg "isinstance" = none) (hs : [e, c].all notStar = true) (hc : PE X c (tC (tyV g k))) (h : taL X [e] σ H (fun vs H' => rIsi1 X.K (tyVal g k) vs H' Q)) :
    te0 X (.Call (.Name "isinstance" p) [e, c] [] pos) σ H Q := by
  have hs' := hs
  rw [List.all_cons, Bool.and_eq_true] at hs'
  refine te0_of (pe_callB call_isi hg hm PyProof.Rows.boot_isinstance (pa_cons (pe0 X e) (pa_cons hc pa_nil (by first | rfl | exact starEach_cons (by simpa using hs'.2))) (starEach_cons hs'.1)) (by decide) (by decide) (starEach_cons hs'.1) (plain_any hs'.2)) ?_
  refine te0_mono h fun v H1 ⟨x, t, b, e1, ty, kk, q⟩ => ?_
  cases e1
  exact ⟨_, _, t, tyVal g k, b, rfl, (by cases k <;> first | exact .own _ | exact .ty _), ty, kk, q⟩
inductive ClsAs (g : Gd) (X : Cx) : List Expr → List Ty → Prop
  | nil : ClsAs g X [] []
  | cons {e : Expr} {k : Ty} {es : List Expr} {ks : List Ty} (h : PE X e (tC (tyV g k))) (hs : notStar e = true) (r : ClsAs g X es ks) : ClsAs g X (e :: es) (k :: ks)
theorem ClsAs.run {es : List Expr} {ks : List Ty} (N : ClsAs g X es ks) : es.all notStar = true ∧ ∃ t, PA X es t ∧ ∀ (σ : St) (H : Hp) (Q : List V → Hp → Prop), Q (ks.map (tyV g)) H → t σ H Q := by
  induction N with
  | nil => exact ⟨rfl, tNil, pa_nil, fun σ H Q q => q⟩
  | @cons e k es ks h hs r ih =>
    obtain ⟨i1, t, i2, i3⟩ := ih
    exact ⟨by rw [List.all_cons, hs, i1]; rfl, tCons (tC (tyV g k)) t, pa_cons h i2 (starEach_cons hs), fun σ H Q q => i3 σ H _ q⟩
theorem ty_paired : ∀ ks : List Ty, Paired ClsV (ks.map (tyV g)) (ks.map (tyVal g))
  | [] => .nil
  | k :: ks => .cons (by cases k <;> first | exact .own _ | exact .ty _) (ty_paired ks)
theorem te_isiN {e : Expr} {cs : List Expr} {p pos tp : Pos} {kk : Nat} {ks : List Ty} {σ : St} {H : Hp} {Q : VK} (hg : Gl X "isinstance") (hm : X.mg "isinstance" = none) (hs : notStar e = true) (N : ClsAs g X cs ks)
    (h : taL X [e] σ H (fun vs H' => rIsiN X.K (ks.map (tyV g)) (ks.map (tyVal g)) vs H' Q)) : te0 X (.Call (.Name "isinstance" p) [e, .Tuple cs kk tp] [] pos) σ H Q := by
  obtain ⟨n1, t, n2, n3⟩ := N.run
  refine te0_of (pe_callB call_isiT hg hm PyProof.Rows.boot_isinstance (pa_cons (pe0 X e) (pa_cons (pe_tup n2) pa_nil (starEach_cons rfl)) (starEach_cons hs)) (by decide) (by decide) (starEach_cons hs) (plain_any (by rfl))) ?_
  refine te0_mono h fun v H1 ⟨x, t0, b, e1, ty, kk, hl, q⟩ => ?_
  cases e1
  exact n3 σ H1 _ ⟨hl, fun p hp => ⟨_, p, _, t0, _, b, rfl, upd_same, ty_paired ks, tyx_ext hp ty, kk, q p hp⟩⟩
/-! ### the tables -/
def binB : Operator → Option Bi
  | .Add => some .add | .Sub => some .sub | .Mult => some .mul | .FloorDiv => some .fdiv | .Mod => some .mod | .Pow => some .pow
  | _ => none
theorem binB_ok {op : Operator} {b : Bi} (h : binB op = some b) : ∃ r, OpR X (binaryOp op) r ∧ BiOk g (biT C b) (r2 r) := by
  cases op <;> simp only [binB, Option.some.injEq, reduceCtorEq] at h <;> subst h
  · exact ⟨_, op_addA, bo_add⟩
  · exact ⟨_, op_sub, bo_sub⟩
  · exact ⟨_, op_mul, bo_mul⟩
  · exact ⟨_, op_mod, bo_mod⟩
  · exact ⟨_, op_pow, bo_pow⟩
  · exact ⟨_, op_fdiv, bo_fdiv⟩
def cmpB : CmpOp → Option Bi
  | .Eq => some .eq | .NotEq => some .ne | .Lt => some .lt | .LtE => some .le | .Gt => some .gt | .GtE => some .ge | .Is => some .isN | .IsNot => some .notN | .In => some .inn | .NotIn => some .nin
theorem cmpB_ok {op : CmpOp} {b : Bi} (hK : g.K = X.K) (hu : X.A.units + 64 < cLine) (h : cmpB op = some b) : ∃ r, OpR X (compareOp op) r ∧ BiOk g (biT C b) (r2 r) := by
  cases op <;> simp only [cmpB, Option.some.injEq] at h <;> subst h
  · exact ⟨_, op_eqD hu, hK ▸ bo_eq⟩
  · exact ⟨_, op_neD hu, hK ▸ bo_ne⟩
  · exact ⟨_, op_lt, bo_lt⟩
  · exact ⟨_, op_le, bo_le⟩
  · exact ⟨_, op_gt, bo_gt⟩
  · exact ⟨_, op_ge, bo_ge⟩
  · exact ⟨_, op_isN, bo_isN⟩
  · exact ⟨_, op_notN, bo_notN⟩
  · exact ⟨_, op_inA (by omega), hK ▸ bo_in false⟩
  · exact ⟨_, op_ninA (by omega), hK ▸ bo_in true⟩
/-- calls of builtins -/
def callB (x : Str) (n : Nat) : Option Bi :=
  if n = 1 then (if x = "len" then some .len else if x = "int" then some .int1 else if x = "abs" then some .abs else if x = "list" then some .listOf else if x = "tuple" then some .tupOf else if x = "all" then some .all else none)
  else if n = 2 then (if x = "max" then some .max2 else if x = "min" then some .min2 else none) else none
theorem callB_ok {x : Str} {n : Nat} {b : Bi} (hK : g.K = X.K) (hc : X.calm = true) (h : callB x n = some b) : ∃ r, BiOk g (biT C b) r ∧ x ≠ "__name__" ∧ (x == ("__debug__" : Str)) = false ∧
    ((∃ id, CallR X (.builtin id) r ∧ bootBuiltins x = some (.builtin id)) ∨ ∃ id, CallR X (.type id) r ∧ bootBuiltins x = some (.type id)) := by
  unfold callB at h
  split at h
  · split at h
    · rename_i e; subst e; cases h
      exact ⟨_, hK ▸ bo_len, by decide, by decide, .inl ⟨_, call_lenA, by decide +kernel⟩⟩
    split at h
    · rename_i e; subst e; cases h
      exact ⟨_, bo_int, by decide, by decide, .inr ⟨_, call_int1, by decide +kernel⟩⟩
    split at h
    · rename_i e; subst e; cases h
      exact ⟨_, bo_abs, by decide, by decide, .inl ⟨_, call_abs, by decide +kernel⟩⟩
    split at h
    · rename_i e; subst e; cases h
      exact ⟨_, hK ▸ bo_list, by decide, by decide, .inr ⟨_, call_list_of, by decide +kernel⟩⟩
    split at h
    · rename_i e; subst e; cases h
      exact ⟨_, hK ▸ bo_tup, by decide, by decide, .inr ⟨_, call_tuple_of, by decide +kernel⟩⟩
    split at h
    · rename_i e; subst e; cases h
      exact ⟨_, hK ▸ bo_all, by decide, by decide, .inl ⟨_, cr_all hc, by decide +kernel⟩⟩
    · cases h
  · split at h
    · split at h
      · rename_i e; subst e; cases h
        exact ⟨_, bo_max2, by decide, by decide, .inl ⟨_, call_max2 hc, by decide +kernel⟩⟩
      split at h
      · rename_i e; subst e; cases h
        exact ⟨_, bo_min2, by decide, by decide, .inl ⟨_, call_min2 hc, by decide +kernel⟩⟩
      · cases h
    · cases h
/-! ### displays: frozen parts -/
theorem TopL.den {A : Av} {H : Hp} {ts : List T} {vs : List V} (h : TopL g A H ts vs) (d : ∀ (t : T) (v : V), Top g A H t v → Den g A t v) : DenL g A ts vs := by
  induction ts generalizing vs with
  | nil => cases vs with
    | nil => simp only [DenL]
    | cons _ _ => exact h.elim
  | cons t ts ih => cases vs with
    | nil => exact h.elim
    | cons v vs => simp only [DenL]; exact ⟨v, vs, rfl, d t v h.1, ih h.2⟩
end
end TL

set_option Elab.async false
set_option linter.all false
set_option maxRecDepth 100000
set_option maxHeartbeats 2000000
set_option autoImplicit false
/-! TLs: walks' sources, displays, chains, +=, stores into items. -/
namespace TL
open PySem PySem.Spec PyProof.Rows L2
section
variable {X : Cx} {tg e : Expr}
theorem it_seq (hs : ∀ elts k pos, e ≠ .Set elts k pos) : ItSnd X tg e .seq [e] := by
  refine ⟨fun σ H Q h pins s I => ?_, fun x => ?_⟩
  · refine thn (h pins s I) fun v s1 ⟨x, H1, I1, r1, a, ev, h1⟩ => ?_
    cases ev
    cases r1
    have fin : ∀ (T : It), (∀ x, PIE X pins σ tg Q x { s1 with heap := s1.heap } → True) → True := fun _ _ => trivial
    rcases h1 with ⟨xs, hq, q⟩ | ⟨xs, hq, q⟩
    · obtain ⟨its, rv, p, hz⟩ := I1.list hq
      refine wpAny_pyIter_list p.isList ?_
      refine ⟨s1.heap.objs.size, [s1.heap.objs.size], _, _, H1, rfl, I1.kept (t' := s1.toks) fun b o e => Heap.get?_push_of_some _ e, turn_list a _, ⟨_, Heap.get?_push_size _ rfl, rfl, rfl⟩, fun b hb => ?_, q⟩
      cases List.mem_singleton.mp hb
      exact I1.fpOk (Nat.le_refl _) (I1.hok.fresh (Nat.le_refl _))
    · obtain ⟨its, rv, p, hz⟩ := I1.tuple hq
      refine wpAny_pyIter_tuple (show s1.heap.IsTuple a its.toArray from p) ?_
      refine ⟨s1.heap.objs.size, [s1.heap.objs.size], _, _, H1, rfl, I1.kept (t' := s1.toks) fun b o e => Heap.get?_push_of_some _ e, turn_tuple a _, ⟨_, Heap.get?_push_size _ rfl, rfl, rfl⟩, fun b hb => ?_, q⟩
      cases List.mem_singleton.mp hb
      exact I1.fpOk (Nat.le_refl _) (I1.hok.fresh (Nat.le_refl _))
  · cases e <;> first | rfl | exact absurd rfl (hs _ _ _)
theorem it_range1 {a : Expr} {p pos : Pos} (hg : Gl X "range") (hm : X.mg "range" = none) (ha : notStar a = true) : ItSnd X tg (.Call (.Name "range" p) [a] [] pos) .range1 [a] :=
  ⟨fun σ H Q h pins s I => (pi_range1 hg hm (pa0 X [a] (by rw [List.all_cons, ha]; rfl)) (starEach_cons ha)).run pins s σ H Q I (te0_mono h fun v H1 ⟨j, e1, q1, q2, q⟩ => ⟨j, e1, q1, q2, q⟩), fun x => rfl⟩
theorem it_range2 {a b : Expr} {p pos : Pos} (hg : Gl X "range") (hm : X.mg "range" = none) (ha : notStar a = true) (hb : notStar b = true) : ItSnd X tg (.Call (.Name "range" p) [a, b] [] pos) .range2 [a, b] :=
  ⟨fun σ H Q h pins s I => (pi_range2 hg hm (pa0 X [a, b] (by rw [List.all_cons, List.all_cons, ha, hb]; rfl)) (by rw [starEach_cons ha, starEach_cons hb]; rfl) (by rw [starEach_cons hb]; rfl)).run pins s σ H Q I
    (te0_mono h fun v H1 h1 => te0_mono h1 fun w H2 ⟨i, j, e1, q1, q⟩ => ⟨i, j, e1, q1, q⟩), fun x => rfl⟩
end
/-! ### displays -/
def notPk : E → Bool
  | .pk _ => false
  | _ => true
section
variable {C : Cfg} {g : Gd} {X : Cx} {e : Expr} {e' : E} {G : As} {pv : List V} {H H1 : Hp} {ρ ρ1 : Env} {σ σ1 : St} {W : WX}
theorem resolve_den {A : Av} {ρ : Env} : ∀ {os : List E} {ots : List (Option T)} {vs : List V} {ts : List T}, os.all notPk = true → OpdsOk g A σ os ots vs → resolve os ots ρ = some ts → DenL g A ts vs
  | [], [], [], ts, _, _, h => by
    have h' : ts = [] := by simpa [resolve] using h.symm
    subst h'; simp only [DenL]
  | o :: os, ot :: ots, v :: vs, ts, hn, k, h => by
    rw [List.all_cons, Bool.and_eq_true] at hn
    obtain ⟨k1, k2⟩ := k
    have key : ∀ t, ot = some t → Den g A t v → (resolve os ots ρ).map (t :: ·) = some ts → DenL g A ts (v :: vs) := fun t e1 d e2 => by
      obtain ⟨ts', e3, rfl⟩ := Option.map_eq_some_iff.mp e2
      simp only [DenL]
      exact ⟨v, vs, rfl, d, resolve_den hn.2 k2 e3⟩
    cases o with
    | pk i => simp [notPk] at hn
    | _ =>
      obtain ⟨t, rfl, d⟩ := k1
      exact key t rfl d (by simpa only [resolve] using h)
  | [], [], _ :: _, _, _, k, _ => k.elim
  | [], _ :: _, _, _, _, k, _ => k.elim
  | _ :: _, [], _, _, _, k, _ => k.elim
  | _ :: _, _ :: _, [], _, _, k, _ => k.elim
theorem snd_mk {es : List Expr} {os : List E} {b : Bi} {F : List V → HO} (S : SndOs C g X es os) (hn : os.all notPk = true) (hb : ∀ A ts vs s, DenL g A ts vs → biT C b ts = some s → vs.length ≤ sizeLine ∧ ∀ H p, H p = none → BiRes g A H s (.ref p) (upd H p (F vs)))
    (hpe : ∀ (σ : St) (H : Hp) (Q : VK), taL X es σ H (fun vs H' => vs.length ≤ sizeLine ∧ ∀ p, H' p = none → Q (.ref p) (upd H' p (F vs))) → te0 X e σ H Q) : SndE C g X e (.bi b os) := by
  refine ⟨fun G pv H ρ σ Q W hp tk RR h => hpe σ H Q ?_⟩
  rw [ev_bi] at h
  refine S.run hp tk RR ?_
  cases q : evOs C os ρ with
  | bad => rw [q] at h; exact h
  | ex x ρ' => rw [q] at h; exact h
  | ok ts ρ1 =>
    rw [q, R.bind_ok] at h
    intro vs H1 s1 R1 k
    cases q1 : resolve os ts ρ1 with
    | none => rw [q1] at h; exact h.elim
    | some us =>
      rw [q1, Option.bind_some] at h
      cases q2 : biT C b us with
      | none => rw [q2] at h; exact h.elim
      | some s =>
        rw [q2] at h
        obtain ⟨hz, hr⟩ := hb _ us vs s (resolve_den hn k q1) q2
        refine ⟨hz, fun p hp' => ?_⟩
        obtain ⟨s2, R2⟩ := (hr H1 p hp').rel R1
        exact h _ _ (s1.trans s2) R2
theorem snd_mkT {es : List Expr} {os : List E} {k : Nat} {pos : Pos} (S : SndOs C g X es os) (hn : os.all notPk = true) (hs : es.all notStar = true) : SndE C g X (.Tuple es k pos) (.bi .mkT os) :=
  snd_mk (F := fun vs => .tup vs) S hn (fun A ts vs s d e => by
    have e' : bMkT ts = some s := e
    unfold bMkT at e'
    split at e'
    · rename_i hz
      cases e'
      exact ⟨by rw [← d.length]; exact hz, fun H p hp => .newT hp d⟩
    · cases e') fun σ H Q h => te_tup hs h
theorem snd_mkL {es : List Expr} {os : List E} {pos : Pos} (S : SndOs C g X es os) (hn : os.all notPk = true) (hs : es.all notStar = true) : SndE C g X (.List es pos) (.bi .mkL os) :=
  snd_mk (F := fun vs => .lst vs) S hn (fun A ts vs s d e => by
    have e' : bMkL ts = some s := e
    unfold bMkL at e'
    split at e'
    · rename_i hz
      cases e'
      exact ⟨by rw [← d.length]; exact hz, fun H p hp => .newL hp d⟩
    · cases e') fun σ H Q h => te_lst hs h
/-! ### a < b < c -/
variable {a b c : Expr} {a' b' c' : E} {pos : Pos}
theorem chain_core {b1 b2 : Bi} {r r' : R2} (B1 : BiOk g (biT C b1) (r2 r)) (B2 : BiOk g (biT C b2) (r2 r')) (Sa : SndO C g X a a') (Sb : SndO C g X b b') (Sc : SndO C g X c c') (hp : pv.length = C.np) (tk : Takes X W) (RR : Rel g G pv H ρ σ) {Q : VK}
    (h : PostE g G pv H ρ σ (ev C (.chain b1 b2 a' b' c') ρ) Q W) : tChain r r' (te0 X a) (te0 X b) (te0 X c) σ H Q := by
  simp only [ev] at h
  refine Sa.run hp tk RR ?_
  cases q : oOf a' (ev C a') ρ with
  | bad => rw [q] at h; exact h
  | ex x ρ' => rw [q] at h; exact h
  | ok ta ρ1 =>
  rw [q, R.bind_ok] at h
  intro x H1 s1 R1 k1
  refine Sb.run hp tk R1 ?_
  cases q' : oOf b' (ev C b') ρ1 with
  | bad => rw [q'] at h; exact h
  | ex x ρ' => rw [q'] at h; exact PostX.after (h : PostX g G pv H ρ σ x ρ' W) s1 fun _ z => z
  | ok tb ρ2 =>
  rw [q', R.bind_ok] at h
  intro y H2 s2 R2 k2
  have s12 := s1.trans s2
  cases q1 : resolve [a', b'] [ta, tb] ρ2 with
  | none => rw [q1] at h; exact h.elim
  | some us =>
  rw [q1, Option.bind_some] at h
  cases q2 : biT C b1 us with
  | none => rw [q2] at h; exact h.elim
  | some s =>
  rw [q2, R.of_some, R.bind_ok] at h
  cases q3 : asB s with
  | none => rw [q3] at h; exact h.elim
  | some cc =>
  rw [q3, R.of_some, R.bind_ok] at h
  have es := asB_some q3
  subst es
  have kab : OpdsOk g (AvO H2 (ou (FS H2 ρ2 σ) G)) σ [a', b'] [ta, tb] [x, y] := ⟨k1.mono s2.av, k2, trivial⟩
  obtain ⟨x', y', e1, q5⟩ := B1 _ H2 us [x, y] _ (fun z H3 => ∃ k, z = .bl k ∧ (if k = true then te0 X c σ H3 fun w' H4 => r' y w' H4 Q else Q (.bl false) H3)) (fun a u z => z.1) (resolve_top R2 kab q1) q2 fun v H3 bb => by
    obtain ⟨s3, R3⟩ := bb.rel R2
    obtain ⟨R3', d3⟩ := R3.sh
    simp only [Den] at d3
    have s3' : Stp (FS H2 ρ2 σ) H2 (FS H3 ρ2 σ) H3 := s3.less fun a z => .inr z
    refine ⟨cc, d3, ?_⟩
    cases cc with
    | false => exact if_false_of rfl (PostE.okB h (s12.trans s3') R3')
    | true =>
      refine if_true_of rfl ?_
      simp only [if_true] at h
      refine Sc.run hp tk R3' ?_
      cases q6 : oOf c' (ev C c') ρ2 with
      | bad => rw [q6] at h; exact h
      | ex x ρ' => rw [q6] at h; exact PostX.after (h : PostX g G pv H ρ σ x ρ' W) (s12.trans s3') fun _ z => z
      | ok tc ρ3 =>
        rw [q6, R.bind_ok] at h
        intro z H4 s4 R4 k4
        cases q7 : resolve [b', c'] [tb, tc] ρ3 with
        | none => rw [q7] at h; exact h.elim
        | some ws =>
          rw [q7, Option.bind_some] at h
          cases q8 : biT C b2 ws with
          | none => rw [q8] at h; exact h.elim
          | some s' =>
            rw [q8] at h
            have kbc : OpdsOk g (AvO H4 (ou (FS H4 ρ3 σ) G)) σ [b', c'] [tb, tc] [y, z] := ⟨(k2.mono s3'.av).mono s4.av, k4, trivial⟩
            obtain ⟨y2, z2, e9, q9⟩ := B2 _ H4 ws [y, z] s' Q (fun a u z => z.1) (resolve_top R4 kbc q7) q8 fun v H5 bb' => by
              obtain ⟨s5, R5⟩ := bb'.rel R4
              exact (h : PostE g G pv H ρ σ (.ok s' ρ3) Q W) v H5 ((s12.trans s3').trans (s4.trans s5)) R5
            cases e9
            exact q9
  cases e1
  exact q5
theorem snd_chain {op op' : CmpOp} {b1 b2 : Bi} {r r' : R2} (O1 : OpR X (compareOp op) r) (O2 : OpR X (compareOp op') r') (B1 : BiOk g (biT C b1) (r2 r)) (B2 : BiOk g (biT C b2) (r2 r')) (Sa : SndO C g X a a') (Sb : SndO C g X b b') (Sc : SndO C g X c c')
    (hm : lastMarks [op, op'] [b, c] = false) : SndE C g X (.Compare a [op, op'] [b, c] pos) (.chain b1 b2 a' b' c') :=
  ⟨fun G pv H ρ σ Q W hp tk RR h => te0_of (pe_chain O1 O2 (pe0 X a) (pe0 X b) (pe0 X c) hm) (chain_core B1 B2 Sa Sb Sc hp tk RR h)⟩
theorem sndT_chain {op op' : CmpOp} {b1 b2 : Bi} {r r' : R2} (O1 : OpR X (compareOp op) r) (O2 : OpR X (compareOp op') r') (B1 : BiOk g (biT C b1) (r2 r)) (B2 : BiOk g (biT C b2) (r2 r')) (Sa : SndO C g X a a') (Sb : SndO C g X b b') (Sc : SndO C g X c c')
    (hm : lastMarks [op, op'] [b, c] = false) : SndT C g X (.Compare a [op, op'] [b, c] pos) (.chain b1 b2 a' b' c') :=
  ⟨fun G pv H ρ σ Q W hp tk RR h => tt0_of (pt_chain O1 O2 (pe0 X a) (pe0 X b) (pe0 X c) hm) (chain_core B1 B2 Sa Sb Sc hp tk RR (PostE.ofB h))⟩
end
end TL

set_option Elab.async false
set_option linter.all false
set_option maxRecDepth 100000
set_option maxHeartbeats 2000000
set_option autoImplicit false
/-! TLt: expressions are put into E, and rightly so. -/
namespace TL
open PySem PySem.Spec PyProof.Rows L2
/-! ### += on ints -/
section
variable {C : Cfg} {g : Gd} {X : Cx} {e : Expr} {e' : E}
theorem evS_aug {i : Nat} {ρ : Env} : evS C (.aug i e') ρ = if known ρ[i]? = true then (oOf e' (ev C e') ρ).bind fun o ρ1 => (R.of ρ1 ((resolve [.pk i, e'] [none, o] ρ1).bind (biT C .add))).bind fun s ρ => (R.of ρ (match s with
      | .sh (.int _) => setS C i s ρ
      | _ => none)).bind fun ρ' _ => .ok .nx ρ' else .bad := by
  simp only [evS, ev_bi, evOs]
  rw [show oOf (.pk i) (ev C (.pk i)) ρ = if known ρ[i]? = true then .ok none ρ else .bad from rfl]
  by_cases kn : known ρ[i]? = true
  · rw [if_pos kn, if_pos kn, R.bind_ok]
    cases oOf e' (ev C e') ρ <;> rfl
  · rw [if_neg kn, if_neg kn]; rfl
theorem aug_snd {x : Str} {i : Nat} {p pos : Pos} (hN : X.N.Nodup) (hi : X.N[i]? = some x) (hx : Loc X.env.scope x) (hf : X.fn x = true ∨ X.env.scope.names.lookup x = some .local) (S : SndO C g X e e') :
    SndS C g X (.AugAssign (.Name x p) .Add e pos) (.aug i e') := by
  refine ⟨fun G pv H ρ σ D W hp tk RR h => ts0_of (ps_aug hN hi hx (pe0 X e) ip_add hf) ?_⟩
  rw [evS_aug] at h
  by_cases kn : known ρ[i]? = true
  case neg => rw [if_neg kn] at h; exact h.elim
  rw [if_pos kn] at h
  obtain ⟨v, hv⟩ := RR.known kn
  refine ⟨v, hv, S.run hp tk RR ?_⟩
  cases q : oOf e' (ev C e') ρ with
  | bad => rw [q] at h; exact h.elim
  | ex y ρ' => rw [q] at h; exact h
  | ok o ρ1 =>
    rw [q, R.bind_ok] at h
    intro w H1 s1 R1 k1
    cases q1 : resolve [.pk i, e'] [none, o] ρ1 with
    | none => rw [q1] at h; exact h.elim
    | some us =>
      rw [q1, Option.bind_some] at h
      cases q2 : biT C .add us with
      | none => rw [q2] at h; exact h.elim
      | some s =>
        rw [q2, R.of_some, R.bind_ok] at h
        have kk : OpdsOk g (AvO H1 (ou (FS H1 ρ1 σ) G)) σ [.pk i, e'] [none, o] [v, w] := ⟨hv, k1, trivial⟩
        have tt := resolve_top R1 kk q1
        have e2 : bAdd us = some s := q2
        unfold bAdd at e2
        split at e2
        · cases e2
          obtain ⟨v', w', ev, h1, h2⟩ := tt.two
          cases ev
          have e3 := h1.int
          have e4 := h2.int
          subst e3; subst e4
          refine ⟨_, _, rfl, rfl, ?_⟩
          simp only [] at h
          unfold setS at h
          by_cases c : C.np ≤ i ∧ i < ρ1.length
          · rw [if_pos c] at h
            obtain ⟨R3, f3⟩ := (Rel2.of_sh R1 (show Den g (AvO H1 (ou (FS H1 ρ1 σ) G)) (.int _) (.int _) from den_int)).store (i := i) (by omega) c.2
            exact (h : PostS g G pv H ρ σ (.ok .nx _) D W) _ H1 (s1.less fun a z => (f3 a z).elim (fun z => z.elim) id) R3
          · rw [if_neg c] at h; exact h.elim
        · split at e2
          · cases e2; exact h.elim
          · cases e2
        · split at e2
          · cases e2; exact h.elim
          · cases e2
        · cases e2
end
end TL

set_option Elab.async false
set_option linter.all false
set_option maxRecDepth 100000
set_option maxHeartbeats 2000000
set_option autoImplicit false
/-! TLu: expressions are put into E, and rightly so. -/
namespace TL
open PySem PySem.Spec PyProof.Rows L2
/-- what is known beforehand of a def -/
structure SI where
  sc : Scope
  N : List Str
  np : Nat
  fns : List (Str × Nat × Nat)
  cls : List (Str × Nat)
  con : List (Str × Nat)
def ixOf (x : Str) : List Str → Option Nat
  | [] => none
  | y :: r => if y = x then some 0 else (ixOf x r).map (· + 1)
theorem ixOf_get {x : Str} : ∀ {N : List Str} {i : Nat}, ixOf x N = some i → N[i]? = some x
  | [], i, h => by cases h
  | y :: r, i, h => by
    unfold ixOf at h
    by_cases c : y = x
    · rw [if_pos c] at h; cases h; simp [c]
    · rw [if_neg c] at h
      obtain ⟨j, e, rfl⟩ := Option.map_eq_some_iff.mp h
      simpa using ixOf_get e
def visK : Option NameKind → Bool
  | some .local => true
  | some .cell => true
  | some .free => true
  | _ => false
def SI.kind (si : SI) (x : Str) : Option NameKind := si.sc.names.lookup x
def SI.vis (si : SI) (x : Str) : Option Nat := if visK (si.kind x) && (!decide (x = "__debug__") && !decide (x = "__classdict__")) then ixOf x si.N else none
def isLC : Option NameKind → Bool
  | some .local => true
  | some .cell => true
  | _ => false
def isGl : Option NameKind → Bool
  | some .globalImplicit => true
  | _ => false
def SI.gl (si : SI) (x : Str) : Bool := isGl (si.kind x)
def bltNames : List Str := ["len", "int", "abs", "list", "tuple", "all", "max", "min", "range", "isinstance", "str", "bool", "dict", "sum", "sorted", "any", "zip", "enumerate"]
def badE : E := .not (.pk 0)
def gdE : E → E
  | .pk _ => badE
  | e => e
theorem gdE_notPk (e : E) : notPk (gdE e) = true := by cases e <;> rfl
def plainIxB : Expr → Bool
  | .Slice _ _ _ _ => false
  | _ => true
def notCall : Expr → Bool
  | .Call _ _ _ _ => false
  | _ => true
def notSet : Expr → Bool
  | .Set _ _ _ => false
  | _ => true
def tyOfName (x : Str) : Option Ty :=
  if x = "str" then some .str else if x = "int" then some .int else if x = "bool" then some .bool else if x = "tuple" then some .tuple else if x = "list" then some .list else if x = "dict" then some .dict else none
def clsOfE (si : SI) : Expr → Option Ty
  | .Name x _ => if si.gl x then (match tyOfName x with
    | some k => some k
    | none => (si.cls.lookup x).map .cls) else none
  | _ => none
def clsOfEs (si : SI) : List Expr → Option (List Ty)
  | [] => some []
  | e :: es => (clsOfE si e).bind fun k => (clsOfEs si es).map (k :: ·)
def trO (si : SI) (tr : Expr → E) (e : Expr) : E :=
  match e with
  | .Name x _ => match si.vis x with
    | some i => .pk i
    | none => gdE (tr e)
  | _ => gdE (tr e)
/-- what is walked: a parameter is looked at, anything else frozen -/
def trI (si : SI) (tr : Expr → E) (e : Expr) : E :=
  match e with
  | .Name x _ => match si.vis x with
    | some i => if i < si.np then .pk i else gdE (tr e)
    | none => gdE (tr e)
  | _ => gdE (tr e)
def isRange (si : SI) (x : Str) : Bool := decide (x = "range") && si.gl x
def trIt (si : SI) (iter : Expr) : Option (ItK × List Expr) :=
  match iter with
  | .Call (.Name x _) [a] [] _ => if isRange si x then (if notStar a then some (.range1, [a]) else none) else some (.seq, [iter])
  | .Call (.Name x _) [a, b] [] _ => if isRange si x then (if notStar a && notStar b then some (.range2, [a, b]) else none) else some (.seq, [iter])
  | .Set _ _ _ => none
  | _ => some (.seq, [iter])
def trCall (si : SI) (tr : Expr → E) (x : Str) (args : List Expr) : E :=
  match si.fns.lookup x with
  | some (f, n) => if args.length = n then .call f (args.map (trO si tr)) else badE
  | none => if !bltNames.contains x then badE else if x = "isinstance" then (match args with
      | [a, .Tuple cs _ _] => (match clsOfEs si cs with
        | some ks => if ks.length ≤ 100 then .bi (.isi ks) [trO si tr a] else badE
        | none => badE)
      | [a, c] => (match clsOfE si c with
        | some k => .bi (.isi [k]) [trO si tr a]
        | none => badE)
      | _ => badE)
    else match x == "list", args with
      | true, [.Call (.Name y _) [a, b] [] _] => if isRange si y && (notStar a && notStar b) then .bi .rangeL [trO si tr a, trO si tr b] else badE
      | _, _ => match callB x args.length with
        | some k => .bi k (args.map (trO si tr))
        | none => badE
def trCond (tr : Expr → E) : List Expr → Option (Option E)
  | [] => some none
  | [c] => some (some (tr c))
  | _ => none
def constT : Const → Option T
  | .int i => some (.int i)
  | .str s => some (.str s)
  | .bool b => some (.bl b)
  | .none => some .non
  | _ => none
def trE : Nat → SI → Expr → E
  | 0, _, _ => badE
  | n + 1, si, e => match e with
    | .Constant c _ _ => match constT c with
      | some t => .cst t
      | none => badE
    | .Name x _ => match si.vis x with
      | some i => .var i
      | none => if si.gl x then (match si.con.lookup x with
        | some k => .glb k
        | none => badE) else badE
    | .BoolOp .And [a] _ => trE n si a
    | .BoolOp .Or [a] _ => trE n si a
    | .BoolOp .And (a :: b :: r) pos => .and (trE n si a) (trE n si (.BoolOp .And (b :: r) pos))
    | .BoolOp .Or (a :: b :: r) pos => .or (trE n si a) (trE n si (.BoolOp .Or (b :: r) pos))
    | .UnaryOp .Not a _ => .not (trE n si a)
    | .UnaryOp .USub a _ => .bi .neg [trO si (trE n si) a]
    | .BinOp a op b _ => match binB op with
      | some k => .bi k [trO si (trE n si) a, trO si (trE n si) b]
      | none => badE
    | .Compare a [op] [b] _ => match cmpB op with
      | some k => if notSet b then .bi k [trO si (trE n si) a, trO si (trE n si) b] else badE
      | none => badE
    | .Compare a [op, op'] [b, c] _ => match cmpB op, cmpB op' with
      | some k, some k' => if notSet c then .chain k k' (trO si (trE n si) a) (trO si (trE n si) b) (trO si (trE n si) c) else badE
      | _, _ => badE
    | .IfExp c a b _ => .ite (trE n si c) (trE n si a) (trE n si b)
    | .Tuple es _ _ => if es.all notStar then .bi .mkT (es.map fun e => gdE (trE n si e)) else badE
    | .List es _ => if es.all notStar then .bi .mkL (es.map fun e => gdE (trE n si e)) else badE
    | .Subscript a b _ => if plainIxB b then .bi .ix [trO si (trE n si) a, trO si (trE n si) b] else badE
    | .Attribute a f _ => if notCall a then .bi (.fld f) [trO si (trE n si) a] else badE
    | .Call (.Name x _) args [] _ => if si.gl x && args.all notStar then trCall si (trE n si) x args else badE
    | .ListComp elt [⟨.Name x _, iter, ifs, 0⟩] scope _ => match ixOf x si.N, trIt si iter, trCond (trE n { si with sc := scope }) ifs with
      | some i, some (k, ops), some cond => if blkC si.N si.sc scope [(x, i)] && isLC (scope.names.lookup x) then
          .lc (trE n { si with sc := scope } elt) i k (ops.map (trI si (trE n si))) cond else badE
      | _, _, _ => badE
    | _ => badE
end TL

set_option Elab.async false
set_option linter.all false
set_option maxRecDepth 100000
set_option maxHeartbeats 4000000
set_option autoImplicit false
/-! TLv: what the translation of expressions gives, is right. -/
namespace TL
open PySem PySem.Spec PyProof.Rows L2
structure SOk (C : Cfg) (g : Gd) (X : Cx) (si : SI) : Prop where
  N : X.N = si.N
  nd : si.N.Nodup
  vis : ∀ x, visK (si.kind x) = true → Vis X.env.scope x
  gl : ∀ x, isGl (si.kind x) = true → Gl X x
  clf : ∀ x, (si.kind x = some .cell ∨ si.kind x = some .free) → X.env.scope.names.lookup x = some .cell ∨ X.env.scope.names.lookup x = some .free
  K : g.K = X.K
  calm : X.calm = true
  un : X.A.units + 64 < cLine
  blt : ∀ x, bltNames.contains x = true → X.mg x = none
  fn : ∀ x f n, si.fns.lookup x = some (f, n) → FnAt C g X x f n
  con : ∀ x k, si.con.lookup x = some k → (x == ("__debug__" : Str)) = false ∧ ∃ u v t, X.mg x = some u ∧ RelV v u ∧ C.glob k = some t ∧ ∀ A, Den g A t v
  cls : ∀ x c, si.cls.lookup x = some c → (x == ("__debug__" : Str)) = false ∧ X.mg x = some (.ref (g.cl c))
  obj : ObjW C g g.K
theorem rel_lookup {env : PySem.Env} : ∀ {names : List (Str × NameKind)} {x : Str} {k : NameKind}, names.lookup x = some k →
    (names.map fun (n, k) => if (k == NameKind.free && env.scope.kind == .function && env.kindOf n == some .cell) then (n, NameKind.cell) else (n, k)).lookup x = some k ∨
      (k = .free ∧ (names.map fun (n, k) => if (k == NameKind.free && env.scope.kind == .function && env.kindOf n == some .cell) then (n, NameKind.cell) else (n, k)).lookup x = some .cell)
  | [], x, k, h => by simp at h
  | (n, j) :: r, x, k, h => by
    rw [List.map_cons]
    by_cases c : x = n
    · subst c
      simp only [List.lookup, beq_self_eq_true, Option.some.injEq] at h
      subst h
      by_cases d : (j == NameKind.free && env.scope.kind == .function && env.kindOf x == some .cell) = true
      · simp only [d, if_true, List.lookup, beq_self_eq_true]
        right
        simp only [Bool.and_eq_true] at d
        exact ⟨by simpa using d.1.1, trivial⟩
      · simp only [d, if_false, List.lookup, beq_self_eq_true]
        left; simp
    · have c' : (x == n) = false := by simpa using c
      simp only [List.lookup, c'] at h
      have ih := rel_lookup (env := env) h
      by_cases d : (j == NameKind.free && env.scope.kind == .function && env.kindOf n == some .cell) = true
      · simp only [d, if_true, List.lookup, c']
        exact ih
      · simp only [d, if_false, List.lookup, c']
        simpa [List.lookup, c'] using ih
section
variable {C : Cfg} {g : Gd} {X : Cx} {si : SI}
theorem SOk.blk (O : SOk C g X si) {scope : Scope} (s : Shared) (H : Hp) (c : Addr) (cl : List (Str × Addr)) (fp : List Addr) : SOk C g (Cx.in X scope s H c cl fp) { si with sc := scope } where
  N := O.N
  nd := O.nd
  vis := fun x h => by
    have h' : visK (scope.names.lookup x) = true := h
    cases e : scope.names.lookup x with
    | none => rw [e] at h'; cases h'
    | some k =>
      rcases rel_lookup (env := X.env) e with q | ⟨_, q⟩
      · rw [e] at h'
        cases k with
        | «local» => exact .inl q
        | cell => exact .inr (.inl q)
        | free => exact .inr (.inr q)
        | _ => cases h'
      · exact .inr (.inl q)
  gl := fun x h => by
    have h' : isGl (scope.names.lookup x) = true := h
    cases e : scope.names.lookup x with
    | none => rw [e] at h'; cases h'
    | some k =>
      rw [e] at h'
      cases k with
      | globalImplicit =>
        rcases rel_lookup (env := X.env) e with q | ⟨z, _⟩
        · exact q
        · cases z
      | _ => cases h'
  clf := fun x h => by
    have h' : scope.names.lookup x = some .cell ∨ scope.names.lookup x = some .free := h
    rcases h' with h' | h'
    · rcases rel_lookup (env := X.env) h' with q | ⟨z, _⟩
      · exact .inl q
      · cases z
    · rcases rel_lookup (env := X.env) h' with q | ⟨_, q⟩
      · exact .inr q
      · exact .inl q
  K := O.K
  calm := O.calm
  un := O.un
  blt := O.blt
  fn := fun x f n h => ⟨(O.fn x f n h).db, (O.fn x f n h).ok⟩
  con := O.con
  cls := O.cls
  obj := O.obj
theorem SOk.blkOk (O : SOk C g X si) {scope : Scope} {own : List (Str × Nat)} (h : blkC si.N si.sc scope own = true) : BlkOk X.N X.env.scope scope own := by
  obtain ⟨h1, h2, h3, h4, h5⟩ := blkOk_by h
  exact ⟨h1, h2, by rw [O.N]; exact h3, fun y hy e => O.clf y.1 (h4 y hy e), by rw [O.N]; exact h5⟩
theorem SOk.var (O : SOk C g X si) {x : Str} {i : Nat} {pos : Pos} (h : si.vis x = some i) : X.N[i]? = some x ∧ PE X (.Name x pos) (tVar i) := by
  unfold SI.vis at h
  split at h
  · rename_i c
    simp only [Bool.and_eq_true, Bool.not_eq_true', decide_eq_false_iff_not] at c
    have hi : X.N[i]? = some x := by rw [O.N]; exact ixOf_get h
    exact ⟨hi, pe_var hi (O.vis x c.1) (by simpa using c.2.1) (by simpa using c.2.2)⟩
  · cases h
theorem SOk.gl' (O : SOk C g X si) {x : Str} (h : si.gl x = true) : Gl X x := O.gl x h
theorem snd_bad {e : Expr} : SndE C g X e badE ∧ SndT C g X e badE := by
  refine ⟨⟨fun G pv H ρ σ Q W hp tk RR h => ?_⟩, ⟨fun G pv H ρ σ Q W hp tk RR h => ?_⟩⟩
  · simp only [badE, ev, R.bind_bad] at h; exact h.elim
  · simp only [badE, ev, R.bind_bad] at h; exact h.elim
theorem snd_gd {e : Expr} {e' : E} (S : SndE C g X e e') : SndE C g X e (gdE e') := by
  cases e' <;> first | exact S | exact snd_bad.1
theorem gd_ne {e' : E} (i : Nat) : gdE e' ≠ .pk i := fun z => by
  have := gdE_notPk e'
  rw [z] at this; cases this
theorem sndO_tr (O : SOk C g X si) {tr : Expr → E} {e : Expr} (S : SndE C g X e (tr e)) : SndO C g X e (trO si tr e) := by
  unfold trO
  split
  · split
    · rename_i h
      obtain ⟨h1, h2⟩ := O.var h
      exact .pk h2 h1
    · exact .val (snd_gd S) gd_ne
  · exact .val (snd_gd S) gd_ne
theorem sndI_tr (O : SOk C g X si) {tr : Expr → E} {e : Expr} (S : SndE C g X e (tr e)) : SndO C g X e (trI si tr e) := by
  unfold trI
  split
  · split
    · rename_i h
      split
      · obtain ⟨h1, h2⟩ := O.var h
        exact .pk h2 h1
      · exact .val (snd_gd S) gd_ne
    · exact .val (snd_gd S) gd_ne
  · exact .val (snd_gd S) gd_ne
theorem sndOs_map {f : Expr → E} : ∀ {es : List Expr}, (∀ e ∈ es, SndO C g X e (f e)) → SndOs C g X es (es.map f)
  | [], _ => .nil
  | e :: es, h => .cons (h e List.mem_cons_self) (sndOs_map fun e' he => h e' (List.mem_cons_of_mem _ he))
theorem plain_ix {b : Expr} (h : plainIxB b = true) : PlainIx b := by
  cases b <;> first | (intro o i; rfl) | (simp [plainIxB] at h)
theorem base_of {a : Expr} {f : Str} {env : PySem.Env} (h : notCall a = true) : attributeBase a f env (eval a env) = eval a env := by
  cases a <;> first | rfl | (simp [notCall] at h)
theorem marks_of {op : CmpOp} {b : Expr} (h : notSet b = true) : behindInMarks op b = false := by
  cases b <;> first | rfl | (simp [notSet] at h)
theorem callB_blt {x : Str} {n : Nat} {b : Bi} (h : callB x n = some b) : True := trivial
theorem ty_pe (O : SOk C g X si) {e : Expr} {k : Ty} (h : clsOfE si e = some k) : PE X e (tC (tyV g k)) ∧ notStar e = true := by
  unfold clsOfE at h
  split at h
  · rename_i x p
    split at h
    · rename_i hg
      refine ⟨?_, rfl⟩
      split at h
      · rename_i k' hk
        cases h
        unfold tyOfName at hk
        have key : ∀ (s : Str) (T : String), x = s → bltNames.contains s = true → bootBuiltins s = some (.type T) → s ≠ "__name__" → (s == ("__debug__" : Str)) = false → PE X (.Name x p) (tC (.ty T)) := fun s T e h1 h2 h3 h4 => by
          subst e
          exact pe_bltn (O.gl' hg) (O.blt _ h1) h2 (show RelV (.ty T) (.type T) from rfl) h3 h4
        split at hk
        · cases hk; exact key "str" "str" (by assumption) (by decide) boot_str (by decide) (by decide)
        split at hk
        · cases hk; exact key "int" "int" (by assumption) (by decide) boot_int (by decide) (by decide)
        split at hk
        · cases hk; exact key "bool" "bool" (by assumption) (by decide) boot_bool (by decide) (by decide)
        split at hk
        · cases hk; exact key "tuple" "tuple" (by assumption) (by decide) boot_tuple (by decide) (by decide)
        split at hk
        · cases hk; exact key "list" "list" (by assumption) (by decide) boot_list (by decide) (by decide)
        split at hk
        · cases hk; exact key "dict" "dict" (by assumption) (by decide) boot_dict (by decide) (by decide)
        · cases hk
      · obtain ⟨c, hc, rfl⟩ := Option.map_eq_some_iff.mp h
        obtain ⟨h1, h2⟩ := O.cls _ _ hc
        exact pe_glob (O.gl' hg) h2 (show RelV (.ref (g.cl c)) (.ref (g.cl c)) from rfl) h1
    · cases h
  · cases h
theorem ty_pes (O : SOk C g X si) : ∀ {es : List Expr} {ks : List Ty}, clsOfEs si es = some ks → ClsAs g X es ks
  | [], ks, h => by cases h; exact .nil
  | e :: es, ks, h => by
    obtain ⟨k, h1, h2⟩ := Option.bind_eq_some_iff.mp h
    obtain ⟨ks', h3, rfl⟩ := Option.map_eq_some_iff.mp h2
    obtain ⟨p, n⟩ := ty_pe O h1
    exact .cons p n (ty_pes O h3)
theorem isRange_iff {x : Str} (h : isRange si x = true) : x = "range" ∧ si.gl x = true := by
  unfold isRange at h
  rw [Bool.and_eq_true] at h
  exact ⟨of_decide_eq_true h.1, h.2⟩
theorem trIt_snd (O : SOk C g X si) {iter tg : Expr} {k : ItK} {ops : List Expr} (h : trIt si iter = some (k, ops)) : ItSnd X tg iter k ops := by
  unfold trIt at h
  split at h
  · split at h
    · rename_i hr
      obtain ⟨rfl, hg⟩ := isRange_iff hr
      split at h
      · cases h; exact it_range1 (O.gl' hg) (O.blt _ (by decide)) (by assumption)
      · cases h
    · cases h; exact it_seq (fun _ _ _ z => by cases z)
  · split at h
    · rename_i hr
      obtain ⟨rfl, hg⟩ := isRange_iff hr
      split at h
      · rename_i hs
        rw [Bool.and_eq_true] at hs
        cases h; exact it_range2 (O.gl' hg) (O.blt _ (by decide)) hs.1 hs.2
      · cases h
    · cases h; exact it_seq (fun _ _ _ z => by cases z)
  · cases h
  · rename_i hn
    cases h
    exact it_seq (fun elts k pos z => by subst z; exact hn _ _ _ rfl)
end
end TL

set_option Elab.async false
set_option linter.all false
set_option maxRecDepth 100000
set_option maxHeartbeats 4000000
set_option autoImplicit false
/-! TLw: calls, comprehensions, all expressions. -/
namespace TL
open PySem PySem.Spec PyProof.Rows L2
section
variable {C : Cfg} {g : Gd} {X : Cx} {si : SI}
theorem callB_name {x : Str} {n : Nat} {b : Bi} (h : callB x n = some b) : bltNames.contains x = true ∧ (n = 1 ∨ n = 2) := by
  unfold callB at h
  split at h
  · refine ⟨?_, .inl (by assumption)⟩
    split at h; · rename_i e; subst e; decide
    split at h; · rename_i e; subst e; decide
    split at h; · rename_i e; subst e; decide
    split at h; · rename_i e; subst e; decide
    split at h; · rename_i e; subst e; decide
    split at h; · rename_i e; subst e; decide
    cases h
  · split at h
    · refine ⟨?_, .inr (by assumption)⟩
      split at h; · rename_i e; subst e; decide
      split at h; · rename_i e; subst e; decide
      cases h
    · cases h
theorem snd_callB (O : SOk C g X si) {x : Str} {p pos : Pos} {es : List Expr} {os : List E} {b : Bi} (hg : si.gl x = true) (hs : es.all notStar = true) (S : SndOs C g X es os) (h : callB x es.length = some b) : SndE C g X (.Call (.Name x p) es [] pos) (.bi b os) := by
  obtain ⟨r, hr, h1, h2, h3⟩ := callB_ok (g := g) (C := C) O.K O.calm h
  obtain ⟨h4, h5⟩ := callB_name h
  cases es with
  | nil => rcases h5 with h5 | h5 <;> cases h5
  | cons a es =>
    rcases h3 with ⟨id, c, bt⟩ | ⟨id, c, bt⟩
    · exact snd_bi S hr fun σ H Q k => te_callB c (O.gl' hg) (O.blt _ h4) bt hs h1 h2 k
    · exact snd_bi S hr fun σ H Q k => te_callTy c (O.gl' hg) (O.blt _ h4) bt hs h1 h2 k
def rRg : List V → Hp → VK → Prop := fun vs H Q => ∃ i j : Int, vs = [.int i, .int j] ∧ (j - i).toNat ≤ 2 ^ 24 ∧ ∀ q, H q = none → Q (.ref q) (upd H q (.lst (rgV i j)))
theorem range_den {A : Av} (i j : Int) : DenL g A (rangeT i (j - i).toNat) (rgV i j) := by
  unfold rangeT rgV
  generalize (j - i).toNat = n
  generalize hk : List.range n = ks
  clear hk
  induction ks with
  | nil => simp only [List.map_nil, DenL]
  | cons k ks ih => simp only [List.map_cons, DenL]; exact ⟨_, _, rfl, by simp only [Den], ih⟩
theorem bo_range : BiOk g (biT C .rangeL) rRg := by
  intro A H ts vs s Q hA ht e hq
  have e' : bRange ts = some s := e
  unfold bRange at e'
  split at e'
  · split at e'
    · rename_i hz
      cases e'
      obtain ⟨v, w, rfl, h1, h2⟩ := ht.two
      have e1 := h1.int
      have e2 := h2.int
      subst e1; subst e2
      exact ⟨_, _, rfl, Nat.le_trans hz (by decide), fun q hq' => hq _ _ (.newL hq' (range_den _ _))⟩
    · cases e'
  · cases e'
theorem snd_rangeL (O : SOk C g X si) {a b : Expr} {a' b' : E} {p1 p2 p3 p4 : Pos} (h1 : si.gl "list" = true) (h2 : si.gl "range" = true) (ha : notStar a = true) (hb : notStar b = true) (Sa : SndO C g X a a') (Sb : SndO C g X b b') :
    SndE C g X (.Call (.Name "list" p1) [.Call (.Name "range" p2) [a, b] [] p3] [] p4) (.bi .rangeL [a', b']) :=
  snd_bi (.cons Sa (.cons Sb .nil)) bo_range fun σ H Q k => te0_of (pe_listRgL O.calm (O.gl' h1) (O.blt _ (by decide)) (prg_2 (O.gl' h2) (O.blt _ (by decide)) (pe0 X a) (pe0 X b) (starEach_cons ha) (starEach_cons hb) (plain_any (by rw [List.all_cons, hb]; rfl))) (starEach_cons rfl))
    (te0_mono k fun x H1 k1 => te0_mono k1 fun y H2 ⟨i, j, e, hz, q⟩ => by cases e; exact ⟨i, j, rfl, rfl, hz, q⟩)
theorem trCall_snd (O : SOk C g X si) {tr : Expr → E} {x : Str} {args : List Expr} {p pos : Pos} (hg : si.gl x = true) (hs : args.all notStar = true) (ih : ∀ e, SndE C g X e (tr e)) : SndE C g X (.Call (.Name x p) args [] pos) (trCall si tr x args) := by
  have os : SndOs C g X args (args.map (trO si tr)) := sndOs_map fun e _ => sndO_tr O (ih e)
  unfold trCall
  split
  · rename_i f n hf
    split
    · rename_i hl
      exact snd_call (O.gl' hg) (by rw [List.length_map, hl]; exact O.fn x f n hf) os hs
    · exact snd_bad.1
  · split
    · exact snd_bad.1
    · split
      · rename_i hx
        subst hx
        split
        · rename_i a cs kk tp
          split
          · rename_i ks hk
            split
            · rename_i hl
              rw [List.all_cons, Bool.and_eq_true] at hs
              exact snd_bi (.cons (sndO_tr O (ih a)) .nil) (bo_isiN O.obj hl) fun σ H Q k => te_isiN (O.gl' hg) (O.blt _ (by decide)) hs.1 (ty_pes O hk) (by rw [← O.K]; exact k)
            · exact snd_bad.1
          · exact snd_bad.1
        · rename_i a c hn
          split
          · rename_i k hk
            obtain ⟨hp, hns⟩ := ty_pe O hk
            exact snd_bi (.cons (sndO_tr O (ih a)) .nil) (bo_isi1 O.obj) fun σ H Q k => te_isi1 (O.gl' hg) (O.blt _ (by decide)) hs hp (by rw [← O.K]; exact k)
          · exact snd_bad.1
        · exact snd_bad.1
      · split
        · rename_i hx _ args' bb y py a b pp hxx
          split
          · rename_i hr
            simp only [Bool.and_eq_true] at hr
            obtain ⟨rfl, hgy⟩ := isRange_iff hr.1
            have hxl : x = "list" := by simpa using hxx
            subst hxl
            exact snd_rangeL O hg hgy hr.2.1 hr.2.2 (sndO_tr O (ih a)) (sndO_tr O (ih b))
          · exact snd_bad.1
        · split
          · rename_i k hk
            exact snd_callB O hg hs os hk
          · exact snd_bad.1
theorem snd_lcE (O : SOk C g X si) {elt iter : Expr} {x : Str} {xp pos : Pos} {ifs : List Expr} {scope : Scope} {i : Nat} {es : List Expr} {os : List E} {k : ItK} {elt' : E} {cond' : Option E} (hi : si.N[i]? = some x)
    (hit : ItSnd X (.Name x xp) iter k es) (S : SndOs C g X es os) (ok : blkC si.N si.sc scope [(x, i)] = true) (hx : scope.names.lookup x = some .local ∨ scope.names.lookup x = some .cell)
    (hcnd : CondIn C g X scope ifs cond') (helt : ∀ s H c cl fp, SndE C g (Cx.in X scope s H c cl fp) elt elt') : SndE C g X (.ListComp elt [⟨.Name x xp, iter, ifs, 0⟩] scope pos) (.lc elt' i k os cond') := by
  have hg : ∀ s H c cl fp, PG (Cx.in X scope s H c cl fp) (.Name x xp) (gName i) := fun s H c cl fp => by
    have O' := O.blk (scope := scope) s H c cl fp
    have hN : (Cx.in X scope s H c cl fp).N[i]? = some x := by rw [O'.N]; exact hi
    rcases hx with hx | hx
    · have e1 : (Cx.in X scope s H c cl fp).env.scope.names.lookup x = some .local := lookup_relabel_local hx
      exact pg_name (by rw [O'.N]; exact O.nd) hN (.inl e1) (.inr e1)
    · have e1 : (Cx.in X scope s H c cl fp).env.scope.names.lookup x = some .cell := by
        rcases rel_lookup (env := X.env) hx with q | ⟨z, _⟩
        · exact q
        · cases z
      exact pg_name (by rw [O'.N]; exact O.nd) hN (.inr e1) (.inl (by show (scope.names.lookup x == some .cell) = true; rw [hx]; rfl))
  have nd : X.N.Nodup := by rw [O.N]; exact O.nd
  refine ⟨fun G pv H ρ σ Q W hp tk RR h => te0_of (pe_lc O.calm nd (pi0 X (.Name x xp) iter) (O.blkOk ok) hg (pts_in hcnd) (te := teIn X scope elt) (fun s H c cl fp => ⟨fun pins s' σ' H' Q' I k => k s H c cl fp pins s' I⟩) hit.fold) ?_⟩
  exact snd_lc (pos := pos) O.calm nd O.K hit S (O.blkOk ok) hg hcnd helt G pv H ρ σ Q W hp tk RR h
theorem const_snd {c : Const} {k : Nat} {pos : Pos} {t : T} (h : constT c = some t) : SndE C g X (.Constant c k pos) (.cst t) := by
  cases c <;> simp only [constT, Option.some.injEq, reduceCtorEq] at h <;> subst h
  all_goals first
    | exact snd_const pe_int fun A => den_int
    | exact snd_const pe_str fun A => den_str
    | exact snd_const pe_bl fun A => den_bl
    | exact snd_const pe_non fun A => by simp only [Den]
theorem both {e : Expr} {e' : E} (S : SndE C g X e e') (h : ∀ whole, isTrue e X.env whole = (do let v ← whole; standAt e.pos; holding [v] (truthy v))) : SndE C g X e e' ∧ SndT C g X e e' := ⟨S, snd_plain S h⟩
theorem isLC_iff {o : Option NameKind} (h : isLC o = true) : o = some .local ∨ o = some .cell := by
  cases o with
  | none => cases h
  | some k => cases k <;> first | exact .inl rfl | exact .inr rfl | cases h
theorem cond_snd {scope : Scope} {tr : Expr → E} {ifs : List Expr} {cond : Option E} (h : trCond tr ifs = some cond) (ih : ∀ c s H0 k cl fp, SndT C g (Cx.in X scope s H0 k cl fp) c (tr c)) : CondIn C g X scope ifs cond := by
  match ifs, h with
  | [], h => cases h; exact trivial
  | [c], h => cases h; exact fun s H0 k cl fp => ih c s H0 k cl fp
end
theorem trE_snd {C : Cfg} {g : Gd} : ∀ (n : Nat) (X : Cx) (si : SI) (e : Expr), SOk C g X si → SndE C g X e (trE n si e) ∧ SndT C g X e (trE n si e)
  | 0, X, si, e, O => by unfold trE; exact snd_bad
  | n + 1, X, si, e, O => by
    have ihE : ∀ e, SndE C g X e (trE n si e) := fun e => (trE_snd n X si e O).1
    have ihT : ∀ e, SndT C g X e (trE n si e) := fun e => (trE_snd n X si e O).2
    have op := fun e => sndO_tr O (tr := trE n si) (ihE e)
    unfold trE
    split
    · split
      · rename_i h
        exact ⟨const_snd h, snd_plain (const_snd h) fun w => rfl⟩
      · exact snd_bad
    · split
      · rename_i h
        exact ⟨snd_var (O.var h).2, snd_plain (snd_var (O.var h).2) fun w => rfl⟩
      · split
        · rename_i hg
          split
          · rename_i k hk
            obtain ⟨hd, u, v, t, h1, h2, h3, h4⟩ := O.con _ _ hk
            refine both ?_ fun w => rfl
            exact snd_glb (pe_glob (O.gl' hg) h1 h2 hd) h3 h4
          · exact snd_bad
        · exact snd_bad
    · exact ⟨snd_one (ihE _), sndT_oneA (ihT _)⟩
    · exact ⟨snd_one (ihE _), sndT_oneO (ihT _)⟩
    · exact ⟨snd_and (ihE _) (ihE _), sndT_and (ihT _) (ihT _)⟩
    · exact ⟨snd_or (ihE _) (ihE _), sndT_or (ihT _) (ihT _)⟩
    · exact ⟨snd_not (ihE _), sndT_not (ihT _)⟩
    · refine both ?_ fun w => rfl
      exact snd_bi (.cons (op _) .nil) bo_neg fun σ H Q k => te_un un_neg k
    · split
      · rename_i h
        obtain ⟨r, h1, h2⟩ := binB_ok (X := X) (g := g) (C := C) h
        refine both ?_ fun w => rfl
        exact snd_bi (.cons (op _) (.cons (op _) .nil)) h2 fun σ H Q k => te_bin h1 k
      · exact snd_bad
    · split
      · rename_i h
        split
        · rename_i hm
          obtain ⟨r, h1, h2⟩ := cmpB_ok (X := X) (g := g) (C := C) O.K O.un h
          exact ⟨snd_bi (.cons (op _) (.cons (op _) .nil)) h2 fun σ H Q k => te_cmp h1 (marks_of hm) k, snd_biT (.cons (op _) (.cons (op _) .nil)) h2 fun σ H Q k => tt_cmp h1 (marks_of hm) k⟩
        · exact snd_bad
      · exact snd_bad
    · split
      · rename_i h h'
        split
        · rename_i hm
          obtain ⟨r, h1, h2⟩ := cmpB_ok (X := X) (g := g) (C := C) O.K O.un h
          obtain ⟨r', h3, h4⟩ := cmpB_ok (X := X) (g := g) (C := C) O.K O.un h'
          exact ⟨snd_chain h1 h3 h2 h4 (op _) (op _) (op _) (marks_of hm), sndT_chain h1 h3 h2 h4 (op _) (op _) (op _) (marks_of hm)⟩
        · exact snd_bad
      · exact snd_bad
    · exact ⟨snd_ite (ihT _) (ihE _) (ihE _), sndT_ite (ihT _) (ihT _) (ihT _)⟩
    · split
      · rename_i es k pos hs
        have S : SndE C g X (.Tuple es k pos) (.bi .mkT (es.map fun e => gdE (trE n si e))) := snd_mkT (sndOs_map fun e _ => .val (snd_gd (ihE e)) gd_ne) (by simp [List.all_map, gdE_notPk]) hs
        exact ⟨S, snd_plain S fun w => rfl⟩
      · exact snd_bad
    · split
      · rename_i es pos hs
        have S : SndE C g X (.List es pos) (.bi .mkL (es.map fun e => gdE (trE n si e))) := snd_mkL (sndOs_map fun e _ => .val (snd_gd (ihE e)) gd_ne) (by simp [List.all_map, gdE_notPk]) hs
        exact ⟨S, snd_plain S fun w => rfl⟩
      · exact snd_bad
    · split
      · rename_i h
        refine both ?_ fun w => rfl
        exact snd_bi (.cons (op _) (.cons (op _) .nil)) bo_ix fun σ H Q k => te_ix (by rw [O.K]; exact ix_all (by have := O.un; omega)) (plain_ix h) k
      · exact snd_bad
    · split
      · rename_i h
        refine both ?_ fun w => rfl
        exact snd_bi (.cons (op _) .nil) (bo_fld O.obj) fun σ H Q k => te_fld (base_of h) (by rw [← O.K]; exact k)
      · exact snd_bad
    · split
      · rename_i hc
        rw [Bool.and_eq_true] at hc
        refine both ?_ fun w => rfl
        exact trCall_snd O hc.1 hc.2 ihE
      · exact snd_bad
    · split
      · rename_i i k ops cond hi hit hcond
        split
        · rename_i hb
          rw [Bool.and_eq_true] at hb
          refine both ?_ fun w => rfl
          exact snd_lcE O (ixOf_get hi) (trIt_snd O hit) (sndOs_map fun e _ => sndI_tr O (ihE e)) hb.1 (isLC_iff hb.2) (cond_snd hcond fun c s H0 k cl fp => (trE_snd n _ _ c (O.blk s H0 k cl fp)).2) (fun s H c cl fp => (trE_snd n _ _ _ (O.blk s H c cl fp)).1)
        · exact snd_bad
      · exact snd_bad
    · exact snd_bad
end TL

set_option Elab.async false
set_option linter.all false
set_option maxRecDepth 100000
set_option maxHeartbeats 4000000
set_option autoImplicit false
/-! TLx: statements are put into S. -/
namespace TL
open PySem PySem.Spec PyProof.Rows L2
def isName : Expr → Bool
  | .Name _ _ => true
  | _ => false
def isStar : Expr → Bool
  | .Starred _ _ => true
  | _ => false
def isLoc : Option NameKind → Bool
  | some .local => true
  | _ => false
def swName (sc : Scope) (l : Nat) : Expr → Option Str
  | .Name id pos => if sc.names.lookup id == some .local && pos.line == l then some id else none
  | _ => none
def swNames (sc : Scope) (ts : List Expr) : List Str := ts.filterMap (swName sc ((ts.head?.map (·.pos.line)).getD 0))
def swRes (sc : Scope) (ts vs : List Expr) : Option (Option (List Str)) :=
  if (!(ts.length == 2 || ts.length == 3) || vs.length != ts.length) = true then some none
  else if (vs.any isStar) = true then some none
  else if ((swNames sc ts).length != ts.length || (swNames sc ts).eraseDups.length != (swNames sc ts).length) = true then some none
  else if (vs.all (foldedForSure 8)) = true then some none
  else if (vs.all (constantsAlone 8)) = true then none
  else some (some (swNames sc ts))
theorem sw_ok {env : PySem.Env} {ts vs : List Expr} {k k2 : Nat} {p p2 : Pos} {r : Option (List Str)} (hk : env.scope.kind = .function) (h : swRes env.scope ts vs = some r) : swappedStores [.Tuple ts k p] (.Tuple vs k2 p2) env = pure r := by
  have hb : (env.blockKind != .function) = false := by
    unfold Env.blockKind
    rw [hk]; rfl
  have e1 : ∀ f : Expr → Bool, (∀ e, f e = isStar e) → vs.any f = vs.any isStar := fun f hf => by rw [funext hf]
  have e2 : ∀ f : Expr → Option Str, (∀ e, f e = swName env.scope ((ts.head?.map (·.pos.line)).getD 0) e) → ts.filterMap f = swNames env.scope ts := fun f hf => by rw [funext hf]; rfl
  unfold swRes at h
  unfold swappedStores
  simp only [hb, Bool.or_false, pure_bind]
  rw [e1 _ (by intro e; cases e <;> rfl)]
  rw [e2 _ (by intro e; cases e <;> rfl)]
  split at h
  · rename_i c; cases h; rw [if_pos c]
  rename_i c; rw [if_neg c]
  split at h
  · rename_i c; cases h; rw [if_pos c]
  rename_i c; rw [if_neg c]
  split at h
  · rename_i c; cases h; rw [if_pos c]
  rename_i c; rw [if_neg c]
  split at h
  · rename_i c; cases h; rw [if_pos c]
  rename_i c; rw [if_neg c]
  split at h
  · cases h
  rename_i c; rw [if_neg c]
  cases h; rfl
/-! ### the translation -/
def badS : S := .ex badE
structure SI2 extends SI where
  exs : List (Str × Nat)
/-- a list's comprehension or such is no value here (its store goes another way) -/
def trTg : Nat → SI → Expr → Option Tg
  | 0, _, _ => none
  | n + 1, si, e => match e with
    | .Name x _ => if isLC (si.kind x) then (ixOf x si.N).map .v else none
    | .Tuple es _ _ => if es.all notStar then (trTgs n si es).map .tup else none
    | _ => none
where trTgs (n : Nat) (si : SI) : List Expr → Option (List Tg)
  | [] => some []
  | e :: es => (trTg n si e).bind fun g => (trTgs n si es).map (g :: ·)
def namesIx (si : SI) : List Expr → Option (List Nat)
  | [] => some []
  | .Name x _ :: es => if isLC (si.kind x) then (ixOf x si.N).bind fun i => (namesIx si es).map (i :: ·) else none
  | _ => none
/-- a value that is given back: its name's object goes over -/
def trR (n : Nat) (si : SI) (e : Expr) : E :=
  match e with
  | .Name x _ => match si.vis x with
    | some i => .mv i
    | none => trE n si e
  | _ => trE n si e
def trX1 : Nat → SI → Option Str → Expr → Option X1
  | 0, _, _, _ => none
  | n + 1, si, nm, e => match e with
    | .Constant c _ _ => (constT c).map .cst
    | .UnaryOp .USub (.Constant (.int i) _ _) _ => some (.cst (.int (-i)))
    | .Attribute (.Name y _) f _ => if some y = nm then some (.erf f) else none
    | .Call (.Name "isinstance" _) [.Name y _, .Name c _] [] _ => if decide (some y = nm) && (si.gl "isinstance" && si.gl c) then (si.cls.lookup c).map .eri else none
    | .IfExp (.Call cf ca ck cp) a b _ => match trX1 n si nm (.Call cf ca ck cp), trX1 n si nm a, trX1 n si nm b with
      | some c', some a', some b' => some (.ite c' a' b')
      | _, _, _ => none
    | _ => none
def trXS (si : SI) (nm : Option Str) : Stmt → Option XS
  | .Pass _ => some .pass
  | .Return (some e) _ => (trX1 4 si nm e).map .ret
  | .Assign [.Name y _] e _ => if isLC (si.kind y) && noComp e then (match e with
      | .Tuple _ _ _ => none
      | _ => (ixOf y si.N).bind fun i => (trX1 4 si nm e).map (.set i)) else none
  | .Expr (.Call (.Attribute (.Name y _) "append" ap) [e] [] cp) _ => if notStar e && (ap.endLine == cp.line) then (si.vis y).bind fun i => (trX1 4 si nm e).map (.app i) else none
  | _ => none
def trHd (si : SI) : ExceptHandler → Option (List Nat × Option Nat × XS)
  | .ExceptHandler (some (.Name x _)) nm [b] _ => if si.gl x && !decide (x = "__debug__") then (si.cls.lookup x).bind fun c => (match nm with
    | none => (trXS si none b).map fun s => ([c], none, s)
    | some n => if isLoc (si.kind n) && (!decide (n = "__debug__") && !decide (n = "__classdict__")) then (ixOf n si.N).bind fun i => (trXS si (some n) b).map fun s => ([c], some i, s) else none) else none
  | _ => none
def trHds (si : SI) : List ExceptHandler → Option (List (List Nat × Option Nat × XS))
  | [] => some []
  | h :: hs => (trHd si h).bind fun x => (trHds si hs).map (x :: ·)
def isLocN0 (si : SI) : Expr → Bool
  | .Name x _ => isLoc (si.kind x)
  | _ => false
def isTup : Expr → Bool
  | .Tuple _ _ _ => true
  | _ => false
def trAsg (n : Nat) (si : SI) (tg e : Expr) : S :=
  match tg, e with
  | .Tuple ts _ _, .Tuple vs _ _ => match namesIx si ts, swRes si.sc ts vs with
    | some is, some none => if vs.all notStar && (decide (vs.length ≤ 100) && decide (vs.length = ts.length)) then .par is (vs.map (trE n si)) else badS
    | some is, some (some _) => if vs.all notStar && ts.all (isLocN0 si) && (decide (ts.length = 2) || decide (ts.length = 3)) && decide (vs.length = ts.length) && decide (is.Nodup) then .par is (vs.map (trE n si)) else badS
    | _, _ => badS
  | _, _ => if noComp e && (notStar tg && !(isTup tg && isTup e)) then (match trTg n si tg with
      | some g => .asg g (trE n si e)
      | none => badS) else badS
def trExpr (n : Nat) (si : SI) (e : Expr) : S :=
  match e with
  | .Call (.Attribute (.Name x _) m ap) [a] [] cp => if m = "append" then (match si.vis x with
      | some i => if notStar a && (ap.endLine == cp.line) then .mut i .append (trE n si a) else badS
      | none => badS) else if m = "extend" then (match si.vis x with
      | some i => if notStar a && (ap.endLine == cp.line) then .mut i .extend (trE n si a) else badS
      | none => badS) else badS
  | _ => if noComp e then .ex (trE n si e) else badS
mutual
def trS : Nat → SI2 → Stmt → S
  | 0, _, _ => badS
  | n + 1, si, st => match st with
    | .Pass _ => .pass
    | .Break _ => .brk
    | .Continue _ => .cont
    | .Return none _ => .ret none
    | .Return (some e) _ => .ret (some (trR n si.toSI e))
    | .Expr e _ => trExpr n si.toSI e
    | .Assign [tg] e _ => trAsg n si.toSI tg e
    | .AugAssign (.Name x _) .Add e _ => if isLC (si.kind x) then (match ixOf x si.N with
        | some i => .aug i (trO si.toSI (trE n si.toSI) e)
        | none => badS) else badS
    | .If c a b _ => .ite (trE n si.toSI c) (trSs n si a) (trSs n si b)
    | .While c b [] _ => .while (trE n si.toSI c) (trSs n si b)
    | .For tg iter b [] _ => match trTg n si.toSI tg, trIt si.toSI iter with
      | some g, some (k, ops) => .for g k (ops.map (trI si.toSI (trE n si.toSI))) (trSs n si b)
      | _, _ => badS
    | .Raise (some (.Call (.Name x _) es [] _)) none _ => if si.gl x && es.all notStar then (match si.exs.lookup x with
        | some c => .raise c (es.map (trO si.toSI (trE n si.toSI)))
        | none => badS) else badS
    | .Try b (h :: hs) [] [] _ => match trHds si.toSI (h :: hs) with
      | some l => .try (trSs n si b) l
      | none => badS
    | _ => badS
def trSs : Nat → SI2 → List Stmt → List S
  | 0, _, _ => [badS]
  | n + 1, si, sts => match sts with
    | [] => []
    | s :: ss => trS n si s :: trSs n si ss
end
end TL

set_option Elab.async false
set_option linter.all false
set_option maxRecDepth 100000
set_option maxHeartbeats 4000000
set_option autoImplicit false
/-! TLy: what the translation of statements gives, is right. -/
namespace TL
open PySem PySem.Spec PyProof.Rows L2
structure SOkS (C : Cfg) (g : Gd) (X : Cx) (si : SI2) : Prop where
  ok : SOk C g X si.toSI
  sc : X.env.scope = si.sc
  kind : si.sc.kind = .function
  fnl : ∀ x, X.fn x = true
  po : PassesOwn (model X.prog X.w) X.A X.env X.xe
  stk : X.stack = X.env :: X.outer
  frm : X.env.frame = some X.env.locals
  room : Room 1 X.A
  exs : ∀ x c, si.exs.lookup x = some c → ErrAt C g X.prog X.K X.mg x c
  err : ErrW C g X.K
section
variable {C : Cfg} {g : Gd} {X : Cx} {si : SI2}
theorem SOkS.tr (O : SOkS C g X si) {pn : List (Addr × Obj)} {xe : Value → Shared → Prop} (po : PassesOwn (model X.prog X.w) X.A X.env xe) : SOkS C g (X.tr pn xe) si where
  ok := ⟨O.ok.N, O.ok.nd, O.ok.vis, O.ok.gl, O.ok.clf, O.ok.K, O.ok.calm, O.ok.un, O.ok.blt, fun x f n h => ⟨(O.ok.fn x f n h).db, (O.ok.fn x f n h).ok⟩, O.ok.con, O.ok.cls, O.ok.obj⟩
  sc := O.sc
  kind := O.kind
  fnl := O.fnl
  po := po
  stk := O.stk
  frm := O.frm
  room := O.room
  exs := O.exs
  err := O.err
theorem SOkS.loc (O : SOkS C g X si) {x : Str} (h : isLC (si.kind x) = true) : Loc X.env.scope x := by
  have e : X.env.scope.names.lookup x = si.kind x := by rw [O.sc]; rfl
  rcases isLC_iff h with k | k
  · exact .inl (e.trans k)
  · exact .inr (e.trans k)
theorem SOkS.lo (O : SOkS C g X si) {x : Str} (h : isLoc (si.kind x) = true) : X.env.scope.names.lookup x = some .local := by
  have e : X.env.scope.names.lookup x = si.kind x := by rw [O.sc]; rfl
  rw [e]
  revert h
  cases si.kind x with
  | none => intro h; cases h
  | some k => cases k <;> intro h <;> first | rfl | cases h
theorem sndS_bad {st : Stmt} : SndS C g X st badS := ⟨fun G pv H ρ σ D W hp tk RR h => by
  simp only [badS, badE, evS, ev, R.bind_bad] at h
  exact h.elim⟩
theorem sndSs_bad {sts : List Stmt} : SndSs C g X sts [badS] := ⟨fun G pv H ρ σ D W hp tk RR h => by
  simp only [badS, badE, evSs, evS, ev, R.bind_bad] at h
  exact h.elim⟩
/-! ### targets -/
mutual
theorem trTg_snd (O : SOkS C g X si) : ∀ (n : Nat) (e : Expr) (t : Tg), trTg n si.toSI e = some t → SndG C g X e t
  | 0, e, t, h => by unfold trTg at h; cases h
  | n + 1, e, t, h => by
    unfold trTg at h
    split at h
    · split at h
      · rename_i x p hx
        obtain ⟨i, hi, rfl⟩ := Option.map_eq_some_iff.mp h
        exact sndG_v (by rw [O.ok.N]; exact O.ok.nd) (by rw [O.ok.N]; exact ixOf_get hi) (O.loc hx) (.inl (O.fnl _))
      · cases h
    · split at h
      · rename_i hs
        obtain ⟨ts, ht, rfl⟩ := Option.map_eq_some_iff.mp h
        exact sndG_tup O.ok.calm O.ok.K (trTgs_snd O n _ ts ht) hs
      · cases h
    · cases h
theorem trTgs_snd (O : SOkS C g X si) (n : Nat) : ∀ (es : List Expr) (ts : List Tg), trTg.trTgs n si.toSI es = some ts → SndGs C g X es ts
  | [], ts, h => by unfold trTg.trTgs at h; cases h; exact .nil
  | e :: es, ts, h => by
    unfold trTg.trTgs at h
    obtain ⟨t, h1, h2⟩ := Option.bind_eq_some_iff.mp h
    obtain ⟨ts', h3, rfl⟩ := Option.map_eq_some_iff.mp h2
    exact .cons (trTg_snd O n e t h1) (trTgs_snd O n es ts' h3)
end
theorem trR_snd (O : SOkS C g X si) (n : Nat) (e : Expr) : SndE C g X e (trR n si.toSI e) := by
  unfold trR
  split
  · split
    · rename_i h
      exact snd_mv (O.ok.var h).2
    · exact (trE_snd n X _ _ O.ok).1
  · exact (trE_snd n X _ _ O.ok).1
/-! ### several names at once -/
theorem names_ok (O : SOkS C g X si) : ∀ {es : List Expr} {is : List Nat}, namesIx si.toSI es = some is → Names' X es is
  | [], is, h => by unfold namesIx at h; cases h; exact .nil
  | e :: es, is, h => by
    cases e with
    | Name x p =>
      simp only [namesIx] at h
      split at h
      · rename_i hx
        obtain ⟨i, h1, h2⟩ := Option.bind_eq_some_iff.mp h
        obtain ⟨is', h3, rfl⟩ := Option.map_eq_some_iff.mp h2
        exact .cons (pg_name (by rw [O.ok.N]; exact O.ok.nd) (by rw [O.ok.N]; exact ixOf_get h1) (O.loc hx) (.inl (O.fnl _))) (names_ok O h3)
      · cases h
    | _ => simp [namesIx] at h
theorem names_get {si : SI} : ∀ {es : List Expr} {is : List Nat}, namesIx si es = some is → es.length = is.length ∧ ∀ (j : Nat) (x : Str) (p : Pos), es[j]? = some (.Name x p) → ∃ i, is[j]? = some i ∧ si.N[i]? = some x
  | [], is, h => by unfold namesIx at h; cases h; exact ⟨rfl, fun j x p e => by simp at e⟩
  | e :: es, is, h => by
    cases e with
    | Name y p =>
      simp only [namesIx] at h
      split at h
      · obtain ⟨i, h1, h2⟩ := Option.bind_eq_some_iff.mp h
        obtain ⟨is', h3, rfl⟩ := Option.map_eq_some_iff.mp h2
        obtain ⟨i1, i2⟩ := names_get h3
        refine ⟨by rw [List.length_cons, List.length_cons, i1], fun j x p' e => ?_⟩
        cases j with
        | zero => simp at e; obtain ⟨rfl, rfl⟩ := e; exact ⟨i, by simp, ixOf_get h1⟩
        | succ j => simpa using i2 j x p' (by simpa using e)
      · cases h
    | _ => simp [namesIx] at h
theorem sndPs_map {f : Expr → E} : ∀ {es : List Expr}, (∀ e ∈ es, SndE C g X e (f e)) → SndPs C g X es (es.map f)
  | [], _ => .nil
  | e :: es, h => .cons (h e List.mem_cons_self) (sndPs_map fun e' he => h e' (List.mem_cons_of_mem _ he))
theorem sw_names {sc : Scope} {ts vs : List Expr} {l : List Str} (h : swRes sc ts vs = some (some l)) : l = swNames sc ts ∧ (swNames sc ts).length = ts.length := by
  unfold swRes at h
  split at h
  · cases h
  split at h
  · cases h
  split at h
  · cases h
  rename_i c
  split at h
  · cases h
  split at h
  · cases h
  cases h
  simp only [Bool.or_eq_true, bne_iff_ne, ne_eq, not_or, Decidable.not_not] at c
  exact ⟨rfl, c.1⟩
def nmOf : Expr → Str
  | .Name x _ => x
  | _ => ""
theorem fm_all {f : Expr → Option Str} (hf : ∀ e s, f e = some s → s = nmOf e) : ∀ ts : List Expr, (ts.filterMap f).length = ts.length → ts.filterMap f = ts.map nmOf
  | [], _ => rfl
  | t :: ts, h => by
    rw [List.filterMap_cons] at h ⊢
    cases e : f t with
    | none =>
      rw [e] at h
      have := List.length_filterMap_le f ts
      simp only [List.length_cons] at h
      omega
    | some s =>
      rw [e] at h
      simp only [List.length_cons, Nat.add_right_cancel_iff] at h
      simp only [List.map_cons]
      rw [fm_all hf ts h, hf t s e]
theorem sw_map {sc : Scope} {ts vs : List Expr} {l : List Str} (h : swRes sc ts vs = some (some l)) : l = ts.map nmOf := by
  obtain ⟨rfl, h2⟩ := sw_names h
  refine fm_all (fun e s q => ?_) ts h2
  unfold swName at q
  split at q
  · split at q
    · cases q; rfl
    · cases q
  · cases q
theorem isLocN0_name {si : SI} {e : Expr} (h : isLocN0 si e = true) : ∃ x p, e = .Name x p ∧ isLoc (si.kind x) = true := by
  cases e <;> simp only [isLocN0, Bool.false_eq_true] at h
  exact ⟨_, _, rfl, h⟩
theorem nodup_two {i j : Nat} (h : [i, j].Nodup) : i ≠ j := by simpa using h
theorem trAsg_snd (O : SOkS C g X si) (n : Nat) {tg e : Expr} {pos : Pos} : SndS C g X (.Assign [tg] e pos) (trAsg n si.toSI tg e) := by
  have ihE : ∀ e, SndE C g X e (trE n si.toSI e) := fun e => (trE_snd n X _ e O.ok).1
  have nd : X.N.Nodup := by rw [O.ok.N]; exact O.ok.nd
  have hkind : X.env.scope.kind = .function := by rw [O.sc]; exact O.kind
  unfold trAsg
  split
  · rename_i ts k1 p1 vs k2 p2
    split
    · rename_i is hn hs
      split
      · rename_i hc
        simp only [Bool.and_eq_true, decide_eq_true_eq] at hc
        exact parT_snd O.ok.calm (names_ok O hn) (sndPs_map fun e _ => ihE e) hc.1 hc.2.1 (sw_ok hkind (by rw [O.sc]; exact hs))
      · exact sndS_bad
    · rename_i is l hn hs
      split
      · rename_i hc
        simp only [Bool.and_eq_true, decide_eq_true_eq, Bool.or_eq_true] at hc
        obtain ⟨⟨⟨⟨c1, c2⟩, c3⟩, c4⟩, c5⟩ := hc
        have hl := sw_map hs
        obtain ⟨g1, g2⟩ := names_get hn
        have hsw := sw_ok (k := k1) (k2 := k2) (p := p1) (p2 := p2) hkind (show swRes X.env.scope ts vs = some (some l) by rw [O.sc]; exact hs)
        rcases c3 with c3 | c3
        · match ts, vs, is, c3, c4, g1 with
          | [t1, t2], [v1, v2], [i, j], _, _, _ =>
            simp only [List.all_cons, List.all_nil, Bool.and_true, Bool.and_eq_true] at c2
            obtain ⟨x, px, rfl, hx⟩ := isLocN0_name (si := si.toSI) c2.1
            obtain ⟨y, py, rfl, hy⟩ := isLocN0_name (si := si.toSI) c2.2
            obtain ⟨i', hi, ni⟩ := g2 0 x px rfl
            obtain ⟨j', hj, nj⟩ := g2 1 y py rfl
            simp at hi hj
            subst hi; subst hj
            exact par2_snd O.ok.calm nd (by rw [O.ok.N]; exact ni) (by rw [O.ok.N]; exact nj) (nodup_two c5) (O.lo hx) (O.lo hy) (sndPs_map fun e _ => ihE e) c1 (by rw [hsw, hl]; rfl)
        · match ts, vs, is, c3, c4, g1 with
          | [t1, t2, t3], [v1, v2, v3], [i, j, m], _, _, _ =>
            simp only [List.all_cons, List.all_nil, Bool.and_true, Bool.and_eq_true] at c2
            obtain ⟨x, px, rfl, hx⟩ := isLocN0_name (si := si.toSI) c2.1
            obtain ⟨y, py, rfl, hy⟩ := isLocN0_name (si := si.toSI) c2.2.1
            obtain ⟨z, pz, rfl, hz⟩ := isLocN0_name (si := si.toSI) c2.2.2
            obtain ⟨i', hi, ni⟩ := g2 0 x px rfl
            obtain ⟨j', hj, nj⟩ := g2 1 y py rfl
            obtain ⟨m', hm, nm⟩ := g2 2 z pz rfl
            simp at hi hj hm
            subst hi; subst hj; subst hm
            have c6 : i ≠ j ∧ i ≠ m ∧ j ≠ m := by
              simp at c5
              exact ⟨c5.1.1, c5.1.2, c5.2⟩
            exact par3_snd O.ok.calm nd (by rw [O.ok.N]; exact ni) (by rw [O.ok.N]; exact nj) (by rw [O.ok.N]; exact nm) c6.1 c6.2.1 c6.2.2 (O.lo hx) (O.lo hy) (O.lo hz) (sndPs_map fun e _ => ihE e) c1 (by rw [hsw, hl]; rfl)
      · exact sndS_bad
    · exact sndS_bad
  · rename_i hne
    split
    · rename_i hc
      simp only [Bool.and_eq_true, Bool.not_eq_true', Bool.and_eq_false_iff] at hc
      split
      · rename_i t ht
        refine sndS_asg (ihE e) (trTg_snd O n tg t ht) hc.1 hc.2.1 ?_
        cases tg <;> first | rfl | (cases e <;> first | rfl | exact (hne _ _ _ _ _ _ rfl rfl).elim | (cases n <;> simp [trTg] at ht))
      · exact sndS_bad
    · exact sndS_bad
/-! ### suites -/
theorem us_const {Y : Cx} {i : Int} {k : Nat} {p p2 : Pos} : PE Y (.UnaryOp .USub (.Constant (.int i) k p) p2) (tC (.int (-i))) :=
  ⟨fun pins s σ H Q I h => (pe_un un_neg pe_int).run pins s σ H Q I ⟨i, rfl, h⟩⟩
theorem const_pe {Y : Cx} {c : Const} {k : Nat} {pos : Pos} {t : T} (h : constT c = some t) : ∃ v, PE Y (.Constant c k pos) (tC v) ∧ ∀ A, Den g A t v := by
  cases c <;> simp only [constT, Option.some.injEq, reduceCtorEq] at h <;> subst h
  all_goals first
    | exact ⟨_, pe_int, fun A => den_int⟩
    | exact ⟨_, pe_str, fun A => den_str⟩
    | exact ⟨_, pe_bl, fun A => den_bl⟩
    | exact ⟨_, pe_non, fun A => by simp only [Den]⟩
theorem trX1_snd (O : SOkS C g X si) {a : Addr} {oe : Obj} {cls : Value} {d : Option Addr} {pn : List (Addr × Obj)} (hz : Zc cls d oe) (hf : ∃ vs, oe.data = .fields vs) {nm : Option Str} {io : Option Nat}
    (hnm : ∀ y, some y = nm → ∃ i, io = some i ∧ ∀ p, PE (X.suite a ((a, oe) :: pn)) (.Name y p) (tVar i)) : ∀ (n : Nat) (e : Expr) (x : X1), trX1 n si.toSI nm e = some x → XR C g (X.suite a ((a, oe) :: pn)) a cls d io e x
  | 0, e, x, h => by unfold trX1 at h; cases h
  | n + 1, e, x, h => by
    unfold trX1 at h
    split at h
    · obtain ⟨t, h1, rfl⟩ := Option.map_eq_some_iff.mp h
      obtain ⟨v, p, dv⟩ := const_pe (g := g) h1
      exact xr_cst p dv
    · cases h
      exact xr_cst us_const fun A => den_int
    · split at h
      · rename_i hy
        cases h
        obtain ⟨i, rfl, hp⟩ := hnm _ hy
        exact xr_erf O.err hz hf (hp _) (base_of rfl)
      · cases h
    · split at h
      · rename_i hc
        simp only [Bool.and_eq_true, decide_eq_true_eq] at hc
        obtain ⟨c, h1, rfl⟩ := Option.map_eq_some_iff.mp h
        obtain ⟨h2, h3⟩ := O.ok.cls _ _ h1
        obtain ⟨i, rfl, hp⟩ := hnm _ hc.1
        exact xr_eri O.err hz hf (hp _) (O.ok.gl' hc.2.1) (O.ok.blt _ (by decide)) (pe_glob (X := X.suite a ((a, oe) :: pn)) (O.ok.gl' hc.2.2) h3 (show RelV (.ref (g.cl c)) (.ref (g.cl c)) from rfl) h2)
      · cases h
    · split at h
      · rename_i c' a' b' hc ha hb
        cases h
        exact xr_ite (trX1_snd O hz hf hnm n _ c' hc) (fun w => rfl) (trX1_snd O hz hf hnm n _ a' ha) (trX1_snd O hz hf hnm n _ b' hb)
      · cases h
    · cases h
theorem trXS_snd (O : SOkS C g X si) {a : Addr} {oe : Obj} {cls : Value} {d : Option Addr} {pn : List (Addr × Obj)} (hz : Zc cls d oe) (hf : ∃ vs, oe.data = .fields vs) {nm : Option Str} {io : Option Nat}
    (hnm : ∀ y, some y = nm → ∃ i, io = some i ∧ ∀ p, PE (X.suite a ((a, oe) :: pn)) (.Name y p) (tVar i)) {st : Stmt} {s : XS} (h : trXS si.toSI nm st = some s) : SR C g (X.suite a ((a, oe) :: pn)) a cls d io [st] s := by
  have xr := fun e x h => trX1_snd (C := C) (g := g) O hz hf hnm 4 e x h
  have vr : ∀ {y : Str} {i : Nat} {p : Pos}, si.vis y = some i → PE (X.suite a ((a, oe) :: pn)) (.Name y p) (tVar i) := fun {y i p} hv => by
    have O' : SI.vis si.toSI y = some i := hv
    unfold SI.vis at O'
    split at O'
    · rename_i c
      simp only [Bool.and_eq_true, Bool.not_eq_true', decide_eq_false_iff_not] at c
      exact pe_var (X := X.suite a ((a, oe) :: pn)) (by show X.N[i]? = some y; rw [O.ok.N]; exact ixOf_get O') (O.ok.vis y c.1) (by simpa using c.2.1) (by simpa using c.2.2)
    · cases O'
  unfold trXS at h
  split at h
  · cases h; exact sr_pass
  · obtain ⟨x, h1, rfl⟩ := Option.map_eq_some_iff.mp h
    exact sr_ret (xr _ x h1)
  · split at h
    · rename_i hc
      rw [Bool.and_eq_true] at hc
      split at h
      · cases h
      · rename_i hne
        obtain ⟨i, h1, h2⟩ := Option.bind_eq_some_iff.mp h
        obtain ⟨x, h3, rfl⟩ := Option.map_eq_some_iff.mp h2
        refine sr_set (xr _ x h3) (Y := X.suite a ((a, oe) :: pn)) (by show X.N.Nodup; rw [O.ok.N]; exact O.ok.nd) (by show X.N[i]? = _; rw [O.ok.N]; exact ixOf_get h1) (O.loc hc.1) (.inl (O.fnl _)) hc.2 ?_
        rfl
    · cases h
  · split at h
    · rename_i hc
      rw [Bool.and_eq_true] at hc
      obtain ⟨i, h1, h2⟩ := Option.bind_eq_some_iff.mp h
      obtain ⟨x, h3, rfl⟩ := Option.map_eq_some_iff.mp h2
      exact sr_app (xr _ x h3) (vr h1) hc.1 hc.2
    · cases h
  · cases h
theorem trHd_snd (O : SOkS C g X si) : ∀ {hds : List ExceptHandler} {l : List (List Nat × Option Nat × XS)}, trHds si.toSI hds = some l → HdSnd C g X hds l
  | [], l, h => by unfold trHds at h; cases h; exact .nil
  | hd :: hds, l, h => by
    unfold trHds at h
    obtain ⟨x, h1, h2⟩ := Option.bind_eq_some_iff.mp h
    obtain ⟨l', h3, rfl⟩ := Option.map_eq_some_iff.mp h2
    have ih := trHd_snd O h3
    unfold trHd at h1
    split at h1
    · split at h1
      · rename_i y np nm b p hc
        simp only [Bool.and_eq_true, Bool.not_eq_true', decide_eq_false_iff_not] at hc
        obtain ⟨c, hcl, h4⟩ := Option.bind_eq_some_iff.mp h1
        obtain ⟨k1, k2⟩ := O.ok.cls _ _ hcl
        have hN : Names X y (.ref (g.cl c)) := ⟨O.ok.gl' hc.1, k1, .inl k2⟩
        split at h4
        · obtain ⟨s, h5, rfl⟩ := Option.map_eq_some_iff.mp h4
          exact .cons hN trivial (fun a oe cls d pn hz hf => trXS_snd O hz hf (fun y e => by cases e) h5) ih
        · rename_i n
          split at h4
          · rename_i hn
            simp only [Bool.and_eq_true, Bool.not_eq_true', decide_eq_false_iff_not] at hn
            obtain ⟨i, h5, h6⟩ := Option.bind_eq_some_iff.mp h4
            obtain ⟨s, h7, rfl⟩ := Option.map_eq_some_iff.mp h6
            have hi : X.N[i]? = some n := by rw [O.ok.N]; exact ixOf_get h5
            refine .cons hN (show NameAt X (some n) (some i) from ⟨hi, O.lo hn.1⟩) (fun a oe cls d pn hz hf => trXS_snd O hz hf (fun y e => ?_) h7) ih
            cases e
            exact ⟨i, rfl, fun p => pe_var (X := X.suite a ((a, oe) :: pn)) hi (.inl (O.lo hn.1)) (by simpa using hn.2.1) (by simpa using hn.2.2)⟩
          · cases h4
      · cases h1
    · cases h1
theorem trExpr_snd (O : SOkS C g X si) (n : Nat) (e : Expr) (pos : Pos) : SndS C g X (.Expr e pos) (trExpr n si.toSI e) := by
  have ihE : ∀ e, SndE C g X e (trE n si.toSI e) := fun e => (trE_snd n X _ e O.ok).1
  unfold trExpr
  split
  · split
    · rename_i hm
      subst hm
      split
      · rename_i i hv
        split
        · rename_i hc
          rw [Bool.and_eq_true] at hc
          exact app_snd (O.ok.var hv).2 (ihE _) hc.1 hc.2
        · exact sndS_bad
      · exact sndS_bad
    · split
      · rename_i hm
        subst hm
        split
        · rename_i i hv
          split
          · rename_i hc
            rw [Bool.and_eq_true] at hc
            exact ext_snd (O.ok.var hv).2 (ihE _) hc.1 hc.2
          · exact sndS_bad
        · exact sndS_bad
      · exact sndS_bad
  · split
    · rename_i hc
      exact sndS_ex (ihE e) hc
    · exact sndS_bad
end
/-! ### all statements -/
mutual
theorem trS_snd {C : Cfg} {g : Gd} : ∀ (n : Nat) (X : Cx) (si : SI2) (st : Stmt), SOkS C g X si → SndS C g X st (trS n si st)
  | 0, X, si, st, O => by unfold trS; exact sndS_bad
  | n + 1, X, si, st, O => by
    have ihE : ∀ e, SndE C g X e (trE n si.toSI e) := fun e => (trE_snd n X _ e O.ok).1
    have ihT : ∀ e, SndT C g X e (trE n si.toSI e) := fun e => (trE_snd n X _ e O.ok).2
    have nd : X.N.Nodup := by rw [O.ok.N]; exact O.ok.nd
    unfold trS
    split
    · exact sndS_pass
    · exact sndS_brk
    · exact sndS_cont
    · exact sndS_retN
    · exact sndS_ret (trR_snd O n _)
    · exact trExpr_snd O n _ _
    · exact trAsg_snd O n
    · split
      · rename_i hx
        split
        · rename_i i hi
          exact aug_snd nd (by rw [O.ok.N]; exact ixOf_get hi) (O.loc hx) (.inl (O.fnl _)) (sndO_tr O.ok (ihE _))
        · exact sndS_bad
      · exact sndS_bad
    · exact sndS_ite (ihT _) (trSs_snd n X si _ O) (trSs_snd n X si _ O)
    · exact sndS_while O.po (ihT _) (trSs_snd n X si _ O)
    · split
      · rename_i t k ops ht hit
        exact sndS_for O.po O.ok.calm O.ok.K (trIt_snd O.ok hit) (sndOs_map fun e _ => sndI_tr O.ok (ihE e)) (trTg_snd O n _ t ht) (trSs_snd n X si _ O)
      · exact sndS_bad
    · split
      · rename_i hc
        rw [Bool.and_eq_true] at hc
        split
        · rename_i c hx
          exact sndS_raise O.ok.calm O.room (O.ok.gl' hc.1) (O.exs _ _ hx) hc.2 (sndOs_map fun e _ => sndO_tr O.ok (ihE e))
        · exact sndS_bad
      · exact sndS_bad
    · split
      · rename_i l hl
        exact sndS_try O.stk O.frm nd O.err (fun pn xe po => trSs_snd n _ si _ (O.tr po)) (trHd_snd O hl)
      · exact sndS_bad
    · exact sndS_bad
theorem trSs_snd {C : Cfg} {g : Gd} : ∀ (n : Nat) (X : Cx) (si : SI2) (sts : List Stmt), SOkS C g X si → SndSs C g X sts (trSs n si sts)
  | 0, X, si, sts, O => by unfold trSs; exact sndSs_bad
  | n + 1, X, si, sts, O => by
    unfold trSs
    split
    · exact sndSs_nil
    · exact sndSs_cons (trS_snd n X si _ O) (trSs_snd n X si _ O)
end
end TL

set_option Elab.async false
set_option linter.all false
set_option maxRecDepth 100000
set_option maxHeartbeats 4000000
set_option autoImplicit false
/-! TLz: defs. -/
namespace TL
open PySem PySem.Spec PyProof.Rows L2
section
variable {g : Gd} {G : As} {H H' : Hp} {pv : List V}
/-- empty slots behind -/
theorem Rel.room {args : Env} {vs : List V} (RR : Rel g G [] H args (vs.map some)) (m : Nat) : Rel g G vs H (args ++ List.replicate m .un) (vs.map some ++ List.replicate m none) ∧ ∀ a, FS H (args ++ List.replicate m .un) (vs.map some ++ List.replicate m none) a ↔ FS H args (vs.map some) a := by
  have hl : args.length = vs.length := by simpa using RR.len
  have atl : ∀ i, i < args.length → at' (vs.map some ++ List.replicate m none) i = at' (vs.map some) i := fun i hi => by unfold at'; rw [List.getElem?_append_left (by simpa using (hl ▸ hi))]
  have un : ∀ (i : Nat) (s : Sl), (args ++ List.replicate m Sl.un)[i]? = some s → (i < args.length ∧ args[i]? = some s) ∨ s = .un := fun i s e => by
    by_cases hi : i < args.length
    · rw [List.getElem?_append_left hi] at e; exact .inl ⟨hi, e⟩
    · rw [List.getElem?_append_right (by omega)] at e
      exact .inr (List.eq_of_mem_replicate (List.mem_of_getElem? e))
  have fs : ∀ a, FS H (args ++ List.replicate m .un) (vs.map some ++ List.replicate m none) a ↔ FS H args (vs.map some) a := fun a => by
    constructor
    · rintro ⟨i, s, e, h⟩
      rcases un i s e with ⟨hi, e⟩ | rfl
      · exact ⟨i, s, e, by rw [← atl i hi]; exact h⟩
      · exact h.elim
    · rintro ⟨i, s, e, h⟩
      have hi : i < args.length := by
        by_cases c : i < args.length
        · exact c
        · rw [List.getElem?_eq_none (by omega)] at e; cases e
      exact ⟨i, s, by rw [List.getElem?_append_left hi]; exact e, by rw [atl i hi]; exact h⟩
  refine ⟨⟨by simp [hl], fun i s e => ?_, fun i j s s' a e e' h h' => ?_, fun a h => RR.dg a ((fs a).mp h), RR.gd, fun i v e => ?_⟩, fs⟩
  · rcases un i s e with ⟨hi, e⟩ | rfl
    · rw [atl i hi]
      exact (RR.den i s e).keep (fun _ _ _ z => z) fun a u q => ⟨q.1, fun z => q.2 (z.imp (fs a).mp id)⟩
    · trivial
  · rcases un i s e with ⟨hi, e⟩ | rfl
    · rcases un j s' e' with ⟨hj, e'⟩ | rfl
      · rw [atl i hi] at h; rw [atl j hj] at h'
        exact RR.dj i j s s' a e e' h h'
      · exact h'.elim
    · exact h.elim
  · have hi : i < vs.length := by
      by_cases c : i < vs.length
      · exact c
      · rw [List.getElem?_eq_none (by omega)] at e; cases e
    rw [List.getElem?_append_left (by simpa using hi), List.getElem?_map, e]
    rfl
theorem take_pv {σ : St} {vs : List V} (hl : vs.length ≤ σ.length) (h : ∀ (i : Nat) (v : V), vs[i]? = some v → σ[i]? = some (some v)) : σ.take vs.length = vs.map some := by
  apply List.ext_getElem?
  intro i
  by_cases c : i < vs.length
  · rw [List.getElem?_take_of_lt c, List.getElem?_map, h i vs[i] (List.getElem?_eq_getElem c), List.getElem?_eq_getElem c]; rfl
  · rw [List.getElem?_eq_none (by rw [List.length_take]; omega), List.getElem?_eq_none (by simpa using c)]
/-- the parameters alone -/
theorem Rel.front {ρ : Env} {σ : St} {vs : List V} (RR : Rel g G vs H ρ σ) (hl : vs.length ≤ ρ.length) : Rel g G [] H (ρ.take vs.length) (vs.map some) ∧ (∀ a, FS H (ρ.take vs.length) (vs.map some) a → FS H ρ σ a) := by
  have e := take_pv (by rw [← RR.len]; exact hl) RR.pv
  have h : Rel g G [] H (ρ.take vs.length ++ ρ.drop vs.length) (σ.take vs.length ++ σ.drop vs.length) := by
    rw [List.take_append_drop, List.take_append_drop]; exact RR.nopv
  obtain ⟨h1, _, h3⟩ := Rel.split (by rw [List.length_take, List.length_take, RR.len]) h
  rw [List.take_append_drop, List.take_append_drop] at h3
  rw [e] at h1 h3
  exact ⟨h1.weaken fun a z => .inr z, fun a z => (h3 a).mpr (.inl z)⟩
theorem Rel2.front {ρ : Env} {σ : St} {vs : List V} {v : V} {r : Sl} (R2 : Rel2 g G vs H ρ σ v r) (hl : vs.length ≤ ρ.length) : Rel2 g G [] H (ρ.take vs.length) (vs.map some) v r ∧ (∀ a, FS H (ρ.take vs.length) (vs.map some) a → FS H ρ σ a) := by
  obtain ⟨h1, h2⟩ := R2.rel.front hl
  exact ⟨⟨h1, R2.den.keep (fun _ _ _ z => z) (AvO.sub fun a z => z.imp (h2 a) id), R2.ng⟩, h2⟩
end
/-- a def as a table's row: its name, its text, its slots, how many of them are parameters, its number, its body -/
structure DefI where
  name : Str
  st : Stmt
  N : List Str
  np : Nat
  id : Nat
  body : List S
/-- what the written part says of it -/
structure DefF (K : PySem.W.Frag) (mg : Str → Option Value) (d : DefI) : Prop where
  db : (d.name == ("__debug__" : Str)) = false
  sc : FnScope d.N (d.N.take d.np) (defScope d.st)
  np : d.np ≤ d.N.length
  ex : ∃ f fd, Fun K d.name d.name d.st f fd ∧ mg d.name = some (.ref f) ∧ Binds K fd (d.N.take d.np) []
theorem start_eq {N : List Str} {vs : List V} : start N vs = vs.map some ++ List.replicate (N.length - vs.length) none := rfl
section
variable {P : Program} {w : World} {K : PySem.W.Frag} {mg : Str → Option Value} {base : Heap}
/-- a def keeps its promise, the body's context being fit -/
theorem def_ok {C : Cfg} {g : Gd} {si : SI2} {d : DefI} {n k : Nat} {x qual : Str} {f : Addr} {fd : FuncData} (F : Fun K x qual d.st f fd) (S : FnScope d.N (d.N.take d.np) (defScope d.st)) (hnp : d.np ≤ d.N.length) (hC : C.np = d.np)
    (hO : ∀ (cdv : Value) (A : Around) (outer : List PySem.Env) (s : Shared) (H : Hp) (E : XK), Room k (A.deeper (envOfC qual (defScope d.st) s.heap.objs.size f cdv)) → SOkS C g (cxOf (L2.CX P w) P w K mg base d.N qual (defScope d.st) f cdv A outer s H E) si)
    (hb : d.body = trSs n si (defBody d.st)) : FnOk P w K mg base (L2.CX P w) (k + 1) f fd (d.N.take d.np) (spOf g d.np (runDef C (d.N.length - d.np) d.body)) := by
  have hlen : (d.N.take d.np).length = d.np := by rw [List.length_take]; omega
  refine F.okX S (fun vs H Q E h => by rw [hlen]; exact h.1) (fun cdv A outer s H vs Q E hr h => ?_)
  obtain ⟨hl, args, G, RR, post⟩ := h
  refine ⟨_, pss0 _ _, ?_⟩
  have O := hO cdv A outer s H E hr
  have SS := trSs_snd (C := C) (g := g) n _ si (defBody d.st) O
  rw [← hb] at SS
  have ha : args.length = d.np := by rw [← hl]; simpa using RR.len
  obtain ⟨R1, f1⟩ := RR.room (d.N.length - d.np)
  have es : start d.N vs = vs.map some ++ List.replicate (d.N.length - d.np) none := by rw [start_eq, hl]
  rw [es]
  have lens : ∀ {ρ' : Env} {σ' : St} {H' : Hp} {G' : As}, Rel g G' vs H' ρ' σ' → (∃ σ0 : St, σ'.length = σ0.length ∧ σ0.length = d.N.length) → vs.length ≤ ρ'.length := fun R ⟨σ0, e1, e2⟩ => by rw [R.len, e1, e2, hl]; exact hnp
  have pvl : ∀ {ρ' : Env} {σ' : St} {H' : Hp} {G' : As}, Rel g G' vs H' ρ' σ' → vs.length ≤ ρ'.length := fun {ρ' σ' H' G'} R => by
    rw [R.len]
    by_cases c : vs.length = 0
    · omega
    · have hlt : vs.length - 1 < vs.length := by omega
      have := R.pv (vs.length - 1) vs[vs.length - 1] (List.getElem?_eq_getElem hlt)
      have h2 : vs.length - 1 < σ'.length := by
        by_cases c2 : vs.length - 1 < σ'.length
        · exact c2
        · rw [List.getElem?_eq_none (by omega)] at this; cases this
      omega
  refine SS.run G vs H (args ++ List.replicate (d.N.length - d.np) .un) _ _ (fun cls d _ H' => E cls d H') (by rw [hC, hl]) (takes_of rfl rfl rfl rfl) R1 ?_
  unfold runDef at post
  rw [hC, if_pos ha] at post
  have st1 : ∀ {O' : As} {H' : Hp}, Stp (FS H (args ++ List.replicate (d.N.length - d.np) .un) (vs.map some ++ List.replicate (d.N.length - d.np) none)) H O' H' → Stp (FS H args (vs.map some)) H O' H' := fun s a u e nn => s a u e fun z => nn ((f1 a).mp z)
  cases q : evSs C d.body (args ++ List.replicate (d.N.length - d.np) .un) with
  | bad => rw [q] at post; exact post.elim
  | ex y ρ' =>
    rw [q] at post
    intro cls dd σ' H' s' R' hx
    obtain ⟨R2, f2⟩ := R'.front (pvl R')
    rw [hl] at R2 f2
    exact post cls dd H' ((st1 s').less f2) R2 (hx.mono (AvO.sub fun a z => z.imp (f2 a) id))
  | ok fl ρ' =>
    rw [q] at post
    cases fl with
    | nx =>
      intro σ' H' s' R'
      obtain ⟨R2, f2⟩ := R'.front (pvl R')
      rw [hl] at R2 f2
      exact post .non H' ((st1 s').less fun a z => z.elim (fun z => z.elim) (f2 a)) (Rel2.of_sh R2 (by simp only [Den]))
    | bk => exact post.elim
    | ct => exact post.elim
    | ret r =>
      intro v σ' H' s' R'
      obtain ⟨R2, f2⟩ := R'.front (pvl R'.rel)
      rw [hl] at R2 f2
      exact post v H' ((st1 s').less fun a z => z.imp id (f2 a)) R2
end
end TL

set_option Elab.async false
set_option linter.all false
set_option maxRecDepth 100000
set_option maxHeartbeats 4000000
set_option autoImplicit false
/-! TMa: a table of defs, all of them right at every depth. -/
namespace TL
open PySem PySem.Spec PyProof.Rows L2
structure Tab where
  defs : List DefI
  prims : List (Str × Nat × Nat)
  primF : Nat → Option (List Sl → Option (Out × List Sl))
  con : List (Str × Nat)
  glob : Nat → Option T
  cls : List (Str × Nat)
  exs : List (Str × Nat)
  exc : Nat → List T → Option Exc
  sub : Nat → Nat → Bool
  fld : Nat → Str → Bool
  errs : List Nat
  objs : List Nat
  fuel : Nat
  dep : Nat
def Tab.si (tb : Tab) (d : DefI) : SI2 := { sc := defScope d.st, N := d.N, np := d.np, fns := tb.defs.map (fun d => (d.name, d.id, d.np)) ++ tb.prims, cls := tb.cls, con := tb.con, exs := tb.exs }
def Tab.cfgOf (tb : Tab) (call : Nat → List Sl → Option (Out × List Sl)) (np : Nat) : Cfg := { call := call, glob := tb.glob, exc := tb.exc, sub := tb.sub, fld := tb.fld, np := np, fuel := tb.fuel, errs := tb.errs, objs := tb.objs }
def callD (tb : Tab) : Nat → Nat → List Sl → Option (Out × List Sl)
  | 0, _, _ => none
  | n + 1, f, args => match tb.primF f with
    | some h => h args
    | none => match tb.defs.find? (fun (d : DefI) => d.id == f) with
      | some d => runDef (tb.cfgOf (callD tb n) d.np) (d.N.length - d.np) d.body args
      | none => none
abbrev Tab.cfg (tb : Tab) (n np : Nat) : Cfg := tb.cfgOf (callD tb n) np
structure TabOk (P : Program) (w : World) (K : PySem.W.Frag) (mg : Str → Option Value) (base : Heap) (g : Gd) (tb : Tab) : Prop where
  hK : g.K = K
  defs : ∀ d ∈ tb.defs, DefF K mg d ∧ d.body = trSs tb.dep (tb.si d) (defBody d.st) ∧ tb.primF d.id = none ∧ tb.defs.find? (fun (e : DefI) => e.id == d.id) = some d ∧ (defScope d.st).kind = .function
  prims : ∀ x f n, (x, f, n) ∈ tb.prims → (x == ("__debug__" : Str)) = false ∧ ∃ a fd ps h, tb.primF f = some h ∧ mg x = some (.ref a) ∧ PySem.W.keepIn K (.ref a) = true ∧ Binds K fd ps [] ∧ ps.length = n ∧ FnOk P w K mg base (L2.CX P w) 3 a fd ps (spOf g n h)
  blt : ∀ x, bltNames.contains x = true → mg x = none
  con : ∀ x k, tb.con.lookup x = some k → (x == ("__debug__" : Str)) = false ∧ ∃ u v t, mg x = some u ∧ RelV v u ∧ tb.glob k = some t ∧ ∀ A, Den g A t v
  cls : ∀ x c, tb.cls.lookup x = some c → (x == ("__debug__" : Str)) = false ∧ mg x = some (.ref (g.cl c))
  obj : ObjW (tb.cfg 0 0) g g.K
  err : ErrW (tb.cfg 0 0) g K
  exs : ∀ x c, tb.exs.lookup x = some c → ErrAt (tb.cfg 0 0) g P K mg x c
section
variable {P : Program} {w : World} {K : PySem.W.Frag} {mg : Str → Option Value} {base : Heap} {g : Gd} {tb : Tab}
/-- a def, found and right at a depth -/
def Right (P : Program) (w : World) (K : PySem.W.Frag) (mg : Str → Option Value) (base : Heap) (g : Gd) (tb : Tab) (n : Nat) (x : Str) (f ar : Nat) : Prop :=
  (x == ("__debug__" : Str)) = false ∧ ∃ a fd ps, mg x = some (.ref a) ∧ PySem.W.keepIn K (.ref a) = true ∧ Binds K fd ps [] ∧ ps.length = ar ∧ FnOk P w K mg base (L2.CX P w) (n + 3) a fd ps (spOf g ar (callD tb n f))
theorem mem_of_lookup {α β : Type} [BEq α] [LawfulBEq α] {x : α} {y : β} : ∀ {l : List (α × β)}, l.lookup x = some y → (x, y) ∈ l
  | [], h => by simp at h
  | (a, b) :: l, h => by
    by_cases c : (x == a) = true
    · simp only [List.lookup, c, Option.some.injEq] at h
      subst h
      have := eq_of_beq c
      subst this
      exact List.mem_cons_self
    · simp only [List.lookup, c] at h
      exact List.mem_cons_of_mem _ (mem_of_lookup h)
theorem len_take {d : DefI} (h : d.np ≤ d.N.length) : (d.N.take d.np).length = d.np := by rw [List.length_take]; omega
theorem fnOk_none {k n : Nat} {a : Addr} {fd : FuncData} {ps : List Str} : FnOk P w K mg base (L2.CX P w) k a fd ps (spOf g n fun _ => none) :=
  ⟨fun vs H Q E h => by obtain ⟨_, args, G, _, p⟩ := h; exact p.elim, fun A outer s H args us vs Q E hr e0 hb hv h => by obtain ⟨_, args, G, _, p⟩ := h; exact p.elim⟩
theorem sok_of (T : TabOk P w K mg base g tb) {n : Nat} (ih : ∀ x f ar, (x, f, ar) ∈ tb.defs.map (fun d => (d.name, d.id, d.np)) ++ tb.prims → Right P w K mg base g tb n x f ar) {d : DefI} (hS : FnScope d.N (d.N.take d.np) (defScope d.st)) {qual : Str} {f : Addr} {cdv : Value} {A : Around}
    {outer : List PySem.Env} {s : Shared} {H : Hp} {E : XK} (hr : Room (n + 3) (A.deeper (envOfC qual (defScope d.st) s.heap.objs.size f cdv))) :
    SOkS (tb.cfg n d.np) g (cxOf (L2.CX P w) P w K mg base d.N qual (defScope d.st) f cdv A outer s H E) (tb.si d) where
  ok :=
    { N := rfl
      nd := hS.nd
      vis := fun x h => by
        have h' : visK ((defScope d.st).names.lookup x) = true := h
        show Vis (defScope d.st) x
        cases e : (defScope d.st).names.lookup x with
        | none => rw [e] at h'; cases h'
        | some k =>
          rw [e] at h'
          cases k with
          | «local» => exact .inl e
          | cell => exact .inr (.inl e)
          | free => exact .inr (.inr e)
          | _ => cases h'
      gl := fun x h => by
        have h' : isGl ((defScope d.st).names.lookup x) = true := h
        show (defScope d.st).names.lookup x = some .globalImplicit
        cases e : (defScope d.st).names.lookup x with
        | none => rw [e] at h'; cases h'
        | some k =>
          rw [e] at h'
          cases k with
          | globalImplicit => rfl
          | _ => cases h'
      clf := fun x h => h
      K := T.hK
      calm := rfl
      un := by
        have := hr.un
        show (A.deeper (envOfC qual (defScope d.st) s.heap.objs.size f cdv)).units + 64 < cLine
        omega
      blt := T.blt
      fn := fun x f' ar h => by
        obtain ⟨db, a, fd, ps, h1, h2, h3, h4, h5⟩ := ih x f' ar (mem_of_lookup h)
        exact ⟨db, a, fd, n + 3, ps, h1, h2, h5, hr, h3⟩
      con := T.con
      cls := T.cls
      obj := ⟨T.obj.cls, T.obj.no, T.obj.ha, T.obj.hn, T.obj.ht, T.obj.hm, T.obj.cb, T.obj.bc, T.obj.cc⟩ }
  sc := rfl
  kind := hS.kind
  fnl := fun _ => rfl
  po := passes_of (K := fun e s'' => L2.CX P w outer H s E e s'') rfl
  stk := rfl
  frm := rfl
  room := hr.mono (by omega)
  exs := fun x c h => by
    obtain ⟨h1, h2, h3⟩ := T.exs x c h
    exact ⟨h1, h2, h3⟩
  err := ⟨T.err.c, T.err.m, T.err.k, T.err.f⟩
theorem all_right (T : TabOk P w K mg base g tb) : ∀ (n : Nat) (x : Str) (f ar : Nat), (x, f, ar) ∈ tb.defs.map (fun d => (d.name, d.id, d.np)) ++ tb.prims → Right P w K mg base g tb n x f ar
  | 0, x, f, ar, h => by
    rcases List.mem_append.mp h with h | h
    · obtain ⟨d, hd, e⟩ := List.mem_map.mp h
      cases e
      obtain ⟨F, hb, hp, hf, hk⟩ := T.defs d hd
      obtain ⟨fa, fd, h1, h2, h3⟩ := F.ex
      exact ⟨F.db, fa, fd, _, h2, h1.kp, h3, len_take F.np, fnOk_none⟩
    · obtain ⟨db, a, fd, ps, hh, h1, h2, h3, h4, h5, h6⟩ := T.prims x f ar h
      exact ⟨db, a, fd, ps, h2, h3, h4, h5, fnOk_none⟩
  | n + 1, x, f, ar, h => by
    have ih := all_right T n
    rcases List.mem_append.mp h with h | h
    · obtain ⟨d, hd, e⟩ := List.mem_map.mp h
      cases e
      obtain ⟨F, hb, hp, hf, hk⟩ := T.defs d hd
      obtain ⟨fa, fd, h1, h2, h3⟩ := F.ex
      refine ⟨F.db, fa, fd, _, h2, h1.kp, h3, len_take F.np, ?_⟩
      have e : callD tb (n + 1) d.id = runDef (tb.cfg n d.np) (d.N.length - d.np) d.body := by
        funext args
        show (match tb.primF d.id with | some h => h args | none => match tb.defs.find? (fun (e : DefI) => e.id == d.id) with | some d => runDef (tb.cfgOf (callD tb n) d.np) (d.N.length - d.np) d.body args | none => none) = _
        rw [hp, hf]
      rw [e]
      exact def_ok (C := tb.cfg n d.np) (si := tb.si d) h1 F.sc F.np rfl (fun cdv A outer s H E hr => sok_of T ih F.sc hr) hb
    · obtain ⟨db, a, fd, ps, hh, h1, h2, h3, h4, h5, h6⟩ := T.prims x f ar h
      refine ⟨db, a, fd, ps, h2, h3, h4, h5, ?_⟩
      have e : callD tb (n + 1) f = hh := by
        funext args
        show (match tb.primF f with | some h => h args | none => match tb.defs.find? (fun (e : DefI) => e.id == f) with | some d => runDef (tb.cfgOf (callD tb n) d.np) (d.N.length - d.np) d.body args | none => none) = _
        rw [h1]
      rw [e]
      exact h6.mono (by omega)
end
end TL

set_option Elab.async false
set_option linter.all false
set_option maxRecDepth 100000
set_option maxHeartbeats 4000000
set_option autoImplicit false
/-! TMb: the draws, told of values. -/
namespace TL
open PySem PySem.Spec PyProof.Rows L2
/-- one draw: what is drawn, the state behind it -/
def nextF (st : Int) (cells : List Int) (ix cap : Int) : Int × Int × List Int × Int :=
  let m : Int := if (cells.length : Int) > 1 then cells.length else 1
  let cell := ((cells ++ [0])[(ix % m).toNat]?).getD 0
  if 10 ^ 18 ≤ cell then (cell % cap, st, cells.set (ix % cells.length).toNat (cell / cap), ix)
  else ((st * 48271 + cell * 69621 + 11) % 2147483647 / 7 % cap, (st * 48271 + cell * 69621 + 11) % 2147483647, cells, ix + 1)
def nextH : List Sl → Option (Out × List Sl)
  | [.rn st cells ix, .sh (.int cap)] => if 0 < cap ∧ cap < 1073741824 ∧ 0 ≤ ix ∧ cells.length ≤ 1000 then
      some (.ok (.sh (.int (nextF st cells ix cap).1)), [.rn (nextF st cells ix cap).2.1 (nextF st cells ix cap).2.2.1 (nextF st cells ix cap).2.2.2, .sh (.int cap)]) else none
  | _ => none
def mixF (cells : List Int) (seed : Int) : Int := cells.foldl (fun s c => (s * 48271 + c % 2147483629 + 1) % 2147483647) seed
def mixH : List Sl → Option (Out × List Sl)
  | [.scr cells, .sh (.int seed)] => if cells.length ≤ 1000 then some (.ok (.rn (mixF cells seed) cells 0), [.scr cells, .sh (.int seed)]) else none
  | _ => none
section
variable {g : Gd} {G : As} {H H' : Hp}
/-- the draws' state goes on -/
theorem rn_step {st st' ix ix' : Int} {cells cells' : List Int} {cap : Int} {a : Addr} {v2 : V} {r : Int} {b : Addr} (RR : Rel g G [] H [.rn st cells ix, .sh (.int cap)] [some (.ref a), some v2]) (ha : H a = some (rnO st b ix)) (hb : H b = some (.lst (cells.map V.int))) (hab : a ≠ b)
    (ha' : H' a = some (rnO st' b ix')) (hb' : H' b = some (.lst (cells'.map V.int))) (up : ∀ x u, x ≠ a → x ≠ b → H x = some u → H' x = some u) :
    Stp (FS H [.rn st cells ix, .sh (.int cap)] [some (.ref a), some v2]) H (ou (fo H' (some (.int r)) (.sh (.int r))) (FS H' [.rn st' cells' ix', .sh (.int cap)] [some (.ref a), some v2])) H' ∧ Rel2 g G [] H' [.rn st' cells' ix', .sh (.int cap)] [some (.ref a), some v2] (.int r) (.sh (.int r)) := by
  have f1 : ∀ x, FS H [.rn st cells ix, .sh (.int cap)] [some (.ref a), some v2] x ↔ x = a ∨ x = b := fun x => by
    constructor
    · rintro ⟨i, s, e, h⟩
      match i, e with
      | 0, e =>
        cases e
        rcases h with h | ⟨y, h, q⟩
        · cases h; exact .inl rfl
        · cases h
          rw [ha] at q
          have q' := Option.some.inj q
          unfold rnO at q'
          cases q'
          exact .inr rfl
      | 1, e => cases e; exact h.elim
      | n + 2, e => simp at e
    · rintro (rfl | rfl)
      · exact ⟨0, _, rfl, .inl rfl⟩
      · exact ⟨0, _, rfl, .inr ⟨a, rfl, ha⟩⟩
  have f2 : ∀ x, FS H' [.rn st' cells' ix', .sh (.int cap)] [some (.ref a), some v2] x ↔ x = a ∨ x = b := fun x => by
    constructor
    · rintro ⟨i, s, e, h⟩
      match i, e with
      | 0, e =>
        cases e
        rcases h with h | ⟨y, h, q⟩
        · cases h; exact .inl rfl
        · cases h
          rw [ha'] at q
          have q' := Option.some.inj q
          unfold rnO at q'
          cases q'
          exact .inr rfl
      | 1, e => cases e; exact h.elim
      | n + 2, e => simp at e
    · rintro (rfl | rfl)
      · exact ⟨0, _, rfl, .inl rfl⟩
      · exact ⟨0, _, rfl, .inr ⟨a, rfl, ha'⟩⟩
  have e2 : v2 = .int cap := by
    obtain ⟨x, e, d⟩ := RR.den 1 _ rfl
    cases e
    simpa only [Den] using d
  subst e2
  have R' : Rel g G [] H' [.rn st' cells' ix', .sh (.int cap)] [some (.ref a), some (.int cap)] := by
    refine ⟨rfl, fun i s e => ?_, fun i j s s' x e e' h h' => ?_, fun x h => RR.dg x ((f1 x).mpr ((f2 x).mp h)), fun x h => ?_, fun i v e => by simp at e⟩
    · match i, e with
      | 0, e => cases e; exact ⟨a, b, rfl, hab, ha', hb'⟩
      | 1, e => cases e; exact ⟨_, rfl, den_int⟩
      | n + 2, e => simp at e
    · match i, j, e, e' with
      | 0, 0, _, _ => rfl
      | 1, _, e, _ => cases e; exact h.elim
      | 0, 1, _, e' => cases e'; exact h'.elim
      | n + 2, _, e, _ => simp at e
      | 0, n + 2, _, e' => simp at e'
    · obtain ⟨o, q⟩ := RR.gd x h
      have nx : x ≠ a ∧ x ≠ b := ⟨fun z => RR.dg x ((f1 x).mpr (.inl z)) h, fun z => RR.dg x ((f1 x).mpr (.inr z)) h⟩
      exact ⟨o, up x o nx.1 nx.2 q⟩
  refine ⟨fun x u e n => ?_, Rel2.of_sh R' den_int⟩
  have nx : x ≠ a ∧ x ≠ b := ⟨fun z => n ((f1 x).mpr (.inl z)), fun z => n ((f1 x).mpr (.inr z))⟩
  exact ⟨up x u nx.1 nx.2 e, fun z => z.elim (fun z => z.elim) fun z => ((f2 x).mp z).elim nx.1 nx.2⟩
theorem rn_inv {st ix cap : Int} {cells : List Int} {vs : List V} (RR : Rel g G [] H [.rn st cells ix, .sh (.int cap)] (vs.map some)) : ∃ a b, vs = [.ref a, .int cap] ∧ a ≠ b ∧ H a = some (rnO st b ix) ∧ H b = some (.lst (cells.map V.int)) := by
  have hl : vs.length = 2 := by simpa using RR.len.symm
  match vs, hl with
  | [v1, v2], _ =>
    obtain ⟨a, b, e, hab, ha, hb⟩ := RR.den 0 _ rfl
    obtain ⟨x, e2, d⟩ := RR.den 1 _ rfl
    cases e; cases e2
    simp only [Den] at d
    subst d
    exact ⟨a, b, rfl, hab, ha, hb⟩
/-- a new state -/
theorem rn_new {ρ : Env} {σ : St} {st ix : Int} {cells : List Int} {p1 p2 : Addr} (RR : Rel g G [] H ρ σ) (h1 : H p1 = none) (h2 : upd H p1 (.lst (cells.map V.int)) p2 = none) :
    Stp (FS H ρ σ) H (ou (fo (upd (upd H p1 (.lst (cells.map V.int))) p2 (rnO st p1 ix)) (some (.ref p2)) (.rn st cells ix)) (FS (upd (upd H p1 (.lst (cells.map V.int))) p2 (rnO st p1 ix)) ρ σ)) (upd (upd H p1 (.lst (cells.map V.int))) p2 (rnO st p1 ix)) ∧
      Rel2 g G [] (upd (upd H p1 (.lst (cells.map V.int))) p2 (rnO st p1 ix)) ρ σ (.ref p2) (.rn st cells ix) := by
  have n12 : p2 ≠ p1 := fun z => by rw [z, upd_same] at h2; cases h2
  have h2' : H p2 = none := by rw [upd_ne n12] at h2; exact h2
  obtain ⟨H2, e2⟩ : ∃ H2, H2 = upd (upd H p1 (.lst (cells.map V.int))) p2 (rnO st p1 ix) := ⟨_, rfl⟩
  rw [← e2]
  have up : ∀ a u, H a = some u → H2 a = some u := fun a u e => by
    rw [e2]
    exact upd_ext h2 a u (upd_ext h1 a u e)
  have hp2 : H2 p2 = some (rnO st p1 ix) := by rw [e2]; exact upd_same
  have hp1 : H2 p1 = some (.lst (cells.map V.int)) := by rw [e2, upd_ne n12.symm]; exact upd_same
  obtain ⟨R2, s2⟩ := RR.ext up
  have fo2 : ∀ x, fo H2 (some (.ref p2)) (.rn st cells ix) x ↔ x = p2 ∨ x = p1 := fun x => by
    constructor
    · rintro (h | ⟨y, h, q⟩)
      · cases h; exact .inl rfl
      · cases h
        rw [hp2] at q
        have q' := Option.some.inj q
        unfold rnO at q'
        cases q'
        exact .inr rfl
    · rintro (rfl | rfl)
      · exact .inl rfl
      · exact .inr ⟨p2, rfl, hp2⟩
  have nG : ∀ x, H x = none → ¬ G x := fun x e z => by obtain ⟨u, q⟩ := RR.gd x z; rw [e] at q; cases q
  have nF : ∀ x, H x = none → ¬ FS H2 ρ σ x := fun x e z => by
    obtain ⟨i, s1, e1, h1⟩ := z
    have d := RR.den i s1 e1
    have k : fo H (at' σ i) s1 x := d.fo_keep (fun a u _ hu => up a u hu) h1
    obtain ⟨u, q⟩ := d.fo_there k
    rw [e] at q; cases q
  have nn : ∀ x, fo H2 (some (.ref p2)) (.rn st cells ix) x → H x = none := fun x h => by
    rcases (fo2 x).mp h with rfl | rfl
    · exact h2'
    · exact h1
  refine ⟨fun a u e n => ?_, ⟨⟨R2.len, fun i s e => ?_, R2.dj, fun a z k => ?_, fun a z => ?_, R2.pv⟩, ⟨p2, p1, rfl, n12, hp2, hp1⟩, fun a z => nG a (nn a z)⟩⟩
  · obtain ⟨q1, q2⟩ := s2 a u e n
    exact ⟨q1, fun z => z.elim (fun z => by rw [nn a z] at e; cases e) q2⟩
  · refine (RR.den i s e).keep (fun a u _ hu => up a u hu) fun a u q => ?_
    obtain ⟨q1, q2⟩ := s2.av a u q
    refine ⟨q1, fun z => ?_⟩
    rcases z with z | z | z
    · exact q2 (.inl z)
    · have e0 := nn a z
      rcases q.1 with q | ⟨_, o', q⟩ <;> (rw [e0] at q; cases q)
    · exact q2 (.inr z)
  · rcases k with k | k
    · exact nF a (nn a k) z
    · exact R2.dg a z k
  · rcases z with z | z
    · rcases (fo2 a).mp z with rfl | rfl
      · exact ⟨_, hp2⟩
      · exact ⟨_, hp1⟩
    · exact R2.gd a z
theorem scr_inv {cells : List Int} {seed : Int} {vs : List V} (RR : Rel g G [] H [.scr cells, .sh (.int seed)] (vs.map some)) : ∃ a, vs = [.ref a, .int seed] ∧ SqL g.K H a (cells.map V.int) := by
  have hl : vs.length = 2 := by simpa using RR.len.symm
  match vs, hl with
  | [v1, v2], _ =>
    obtain ⟨a, e, h⟩ := RR.den 0 _ rfl
    obtain ⟨x, e2, d⟩ := RR.den 1 _ rfl
    cases e; cases e2
    simp only [Den] at d
    subst d
    refine ⟨a, rfl, ?_⟩
    rcases h with ⟨o, h⟩ | (h | ⟨o, h⟩) | h
    · exact .inl (.inr ⟨o, h.1.elim id fun z => z.1.elim⟩)
    · cases h
    · cases h
    · exact .inr h
end
end TL

set_option Elab.async false
set_option linter.all false
set_option maxRecDepth 100000
set_option maxHeartbeats 4000000
set_option autoImplicit false
/-! TMd: the law's end; facts put together. -/
namespace TL
open PySem PySem.Spec PyProof.Rows L2
section
variable {P : Program} {w : World} {K : PySem.W.Frag} {mg : Str → Option Value} {base h : Heap} {g : Gd} {tb : Tab}
theorem law_sp {f : List Sl → Option (Out × List Sl)} {H : Hp} {a : Addr} {ns : List Int} (hK : g.K = K) (hO : Only H) (hS : SqL K H a (ns.map V.int)) (hf : ∃ outs, f [.scr ns] = some (.ok (.sh (.bl true)), outs))
    {Q : VK} {E : XK} (hQ : ∀ H', Q (.bl true) H') : spOf g 1 f [.ref a] H Q E := by
  obtain ⟨outs, e⟩ := hf
  refine ⟨rfl, [.scr ns], fun _ => False, ⟨rfl, fun i s q => ?_, fun i j s s' x q q' z z' => ?_, fun x z => ?_, fun x z => z.elim, fun i v q => by simp at q⟩, ?_⟩
  · match i, q with
    | 0, q =>
      cases q
      refine ⟨a, rfl, ?_⟩
      rcases hS with (z | ⟨o, z⟩) | z
      · rcases hO a with q | ⟨o, u, q⟩
        · rw [q] at z; cases z
        · rw [q] at z; cases z
      · refine .inl ⟨o, .inl z, fun q => q.elim (fun ⟨i, s, q, z⟩ => ?_) id⟩
        match i, q with
        | 0, q => cases q; exact z.elim
        | n + 1, q => simp at q
      · exact .inr (.inr (by rw [hK]; exact z))
    | n + 1, q => simp at q
  · match i, q with
    | 0, q => cases q; exact z.elim
    | n + 1, q => simp at q
  · obtain ⟨i, s, q, z⟩ := z
    match i, q with
    | 0, q => cases q; exact z.elim
    | n + 1, q => simp at q
  · rw [e]
    intro v H' s R2
    obtain ⟨R1, d⟩ := R2.sh
    have e2 : v = .bl true := by simpa only [Den] using d
    rw [e2]
    exact hQ H'
theorem defF_mk {d : DefI} {f : Addr} {oc : Value} {od an : Option Addr} {osl : Array (Option Value)} {kV doc pm cdv ct : Value} (X : K.In h) (G : h.Ns mainGlobals mg) (db : (d.name == ("__debug__" : Str)) = false) (sc : FnScope d.N (d.N.take d.np) (defScope d.st)) (np : d.np ≤ d.N.length)
    (a : PySem.W.nsIn K mainGlobals d.name = some (some (.ref f))) (l : K.lookup f = some ⟨oc, od, .func (PySem.W.fnOf d.name d.name (defArgs d.st) (defBody d.st) (defScope d.st) .none kV doc pm an cdv ct), osl⟩) (c : PySem.W.codeIn K cdv d.name = true) (k : PySem.W.keepIn K (.ref f) = true)
    (b : ∀ (kV doc pm : Value) (an : Option Addr) (cdv ct : Value) (us : List Value), us.length = (d.N.take d.np).length → bindArgs (PySem.W.fnOf d.name d.name (defArgs d.st) (defBody d.st) (defScope d.st) .none kV doc pm an cdv ct) ⟨us, []⟩ = pure ((d.N.take d.np).zip us)) : DefF K mg d :=
  have F := fun_mk (st := d.st) l c k
  ⟨db, sc, np, f, _, F, PySem.W.mg_of X G a, F.binds b⟩
end
end TL

set_option Elab.async false
set_option linter.all false
set_option maxRecDepth 100000
set_option maxHeartbeats 4000000
set_option autoImplicit false
/-! TMe: facts of errors, of names. -/
namespace TL
open PySem PySem.Spec PyProof.Rows L2
/-- of one error class -/
structure Err1 (K : PySem.W.Frag) (a : Addr) : Prop where
  x : ExcC K a
  ty : PySem.W.typeIn K (.ref a) = some (.type "type")
  sf : PySem.W.subIn K (.ref a) (.ref a) = some true
theorem err1_mk {K : PySem.W.Frag} {a : Addr} (hn : PySem.W.specialIn K (.builtin "object.__class__") "__get__" = some (some (.builtin "getset_descriptor.__get__"))) (ht : PySem.W.takesIn K (.builtin "object.__class__") = some true)
    (h1 : PySem.W.findIn K (.ref a) "__getattribute__" = some (some (.builtin "BaseException.__getattribute__"))) (h2 : PySem.W.findIn K (.ref a) "__getattr__" = some none) (h3 : PySem.W.subIn K (.ref a) (.type "BaseException") = some true) (h4 : PySem.W.hasDictIn K a = true)
    (h5 : PySem.W.findIn K (.ref a) "__class__" = some (some (.builtin "object.__class__"))) (h6 : PySem.W.mroIn K a (.type "object") = some true) (h7 : PySem.W.typeIn K (.ref a) = some (.type "type")) (h8 : PySem.W.subIn K (.ref a) (.ref a) = some true) : Err1 K a :=
  ⟨⟨h1, h2, h3, h4, h5, hn, ht, h6⟩, h7, h8⟩
theorem Err1.m {K : PySem.W.Frag} {a : Addr} {cls : Value} {b : Bool} (E : Err1 K a) (h : PySem.W.subIn K cls (.ref a) = some b) : PySem.W.exmOne K cls (.ref a) = some b := PySem.W.exm_ref E.x.hs E.x.hd E.ty h
theorem Err1.k {K : PySem.W.Frag} {a d : Addr} {b : Bool} (E : Err1 K a) (h : PySem.W.subIn K (.ref d) (.ref a) = some b) : PySem.W.kitOne K (.ref d) (.ref a) = some b := by
  unfold PySem.W.kitOne
  by_cases c : d = a
  · subst c
    rw [E.sf] at h
    cases h
    simp
  · have e : ((Value.ref d : Value) == Value.ref a) = false := by simp [c]
    rw [e, if_neg Bool.false_ne_true]
    obtain ⟨cd, hc, _⟩ := PySem.W.any_some E.x.hd
    show (if ((PySem.W.clsIn K a).isSome && PySem.W.typeIn K (.ref a) == some (.type "type")) = true then PySem.W.subIn K (.ref d) (.ref a) else none) = some b
    rw [hc, E.ty]
    exact h
theorem obj_none {C : Cfg} {g : Gd} {K : PySem.W.Frag} (h : C.objs = []) : ObjW C g K := by
  have e : ∀ c, ¬ C.objs.contains c = true := fun c z => by rw [h] at z; cases z
  exact ⟨fun c z => (e c z).elim, fun c f z => (e c z).elim, fun c z => (e c z).elim, fun c z => (e c z).elim, fun c z => (e c z).elim, fun c z => (e c z).elim, fun c n z => (e c z).elim, fun c n z => (e c z).elim, fun c d z => (e c z).elim⟩
/-- the law's promise -/
def spL (K : PySem.W.Frag) : Sp := fun vs H Q _ => ∃ (a : Addr) (ns : List Int), vs = [.ref a] ∧ ns.length ≤ 63 ∧ Only H ∧ SqL K H a (ns.map V.int) ∧ ∀ H', Q (.bl true) H'
theorem walkL {l : PySem.W.OpenLaw} {q : Program} {loose : List Str} {XP : (Str → Option Value) → Heap → Prop} {YP : World → Heap → Prop} {d : DefRec} {K : Params → PySem.W.Frag} (hn : l.most = some 63) (hdf : d.params.defaults = []) (hY : ∀ (w : World) (h : Heap), YP w h → (K w.params).In h)
    (F : ∀ (w : World) (mg : Str → Option Value) (fa : Addr) (h : Heap), (K w.params).In h → h.Ns mainGlobals mg → mg d.name = some (.ref fa) → ∃ fd : FuncData, (∀ (s : Shared) (u : Value), BindsTo s fd ⟨[u], []⟩ [("_law_script", u)]) ∧
      ∀ base : Heap, (K w.params).In base → base.Ns mainGlobals mg → FnOk l.prog w (K w.params) mg base (L2.CX l.prog w) 43 fa fd ["_law_script"] (spL (K w.params))) : PySem.W.WalkO q loose XP YP l.row.toRowW d [] (fun f vs => PySem.call f vs) :=
  L2.walk_of (n := 63) (k := 43) (x := "_law_script") (CX := fun w => L2.CX l.prog w) (sp := fun w => spL (K w.params)) hn (by decide) hdf ⟨rfl, by decide, by decide⟩ hY F (fun w H a ns hl hO hS => ⟨a, ns, rfl, hl, hO, hS, fun _ => rfl⟩) fun w H s e s' h => by
    obtain ⟨_, _, _, _, _, _, _, _, _, _, _, _, z⟩ := h
    exact z.elim
section
variable {P : Program} {w : World} {K : PySem.W.Frag} {mg : Str → Option Value} {base : Heap} {g : Gd} {tb : Tab}
theorem def_right (T : TabOk P w K mg base g tb) {d : DefI} (hd : d ∈ tb.defs) {f : Addr} {fd : FuncData} (h1 : Fun K d.name d.name d.st f fd) (n : Nat) : FnOk P w K mg base (L2.CX P w) (n + 4) f fd (d.N.take d.np) (spOf g d.np (callD tb (n + 1) d.id)) := by
  obtain ⟨F, hb, hp, hf, hk⟩ := T.defs d hd
  have e : callD tb (n + 1) d.id = runDef (tb.cfg n d.np) (d.N.length - d.np) d.body := by
    funext args
    show (match tb.primF d.id with | some h => h args | none => match tb.defs.find? (fun (e : DefI) => e.id == d.id) with | some d => runDef (tb.cfgOf (callD tb n) d.np) (d.N.length - d.np) d.body args | none => none) = _
    rw [hp, hf]
  rw [e]
  exact def_ok (C := tb.cfg n d.np) (si := tb.si d) h1 F.sc F.np rfl (fun cdv A outer s H E hr => sok_of T (all_right T n) F.sc hr) hb
theorem law_fn (T : TabOk P w K mg base g tb) {d : DefI} (hd : d ∈ tb.defs) {f : Addr} {fd : FuncData} (h1 : Fun K d.name d.name d.st f fd) (h2 : d.np = 1) (h3 : d.N.take 1 = [("_law_script" : Str)]) (h : ∀ ns : List Int, ns.length ≤ 63 → ∃ outs, callD tb 40 d.id [.scr ns] = some (.ok (.sh (.bl true)), outs)) :
    FnOk P w K mg base (L2.CX P w) 43 f fd ["_law_script"] (spL K) := by
  have k := def_right T hd h1 39
  rw [h2, h3] at k
  exact k.imp fun vs H Q E ⟨a, ns, e, hl, hO, hS, q⟩ => by
    subst e
    exact law_sp T.hK hO hS (h ns hl) q
end
end TL

set_option Elab.async false
set_option linter.all false
set_option maxRecDepth 100000
set_option maxHeartbeats 4000000
set_option autoImplicit false
/-! the table of the law's defs -/
namespace TL
open PySem PySem.Spec PyProof.Rows L2
def top (i : Nat) : Stmt := PySem.Challenge.pw_endsmeant_k01_meanings_and_casts.main.body.getD i (.Pass ⟨0, 0, 0, 0⟩)
abbrev s2 : Stmt := top 5
abbrev n2 : List Str := ["thing"]
abbrev s3 : Stmt := top 6
abbrev n3 : List Str := ["thing"]
abbrev s4 : Stmt := top 7
abbrev n4 : List Str := ["meaning", "pair"]
abbrev s5 : Stmt := top 8
abbrev n5 : List Str := ["meaning", "pair", "first", "last"]
abbrev s6 : Stmt := top 9
abbrev n6 : List Str := ["meaning", "pair"]
abbrev s7 : Stmt := top 10
abbrev n7 : List Str := ["meaning", "pair"]
abbrev s8 : Stmt := top 11
abbrev n8 : List Str := ["meaning", "goal", "pair", "first", "last"]
abbrev s9 : Stmt := top 12
abbrev n9 : List Str := ["meaning", "goal", "pair"]
abbrev s0 : Stmt := top 14
abbrev n0 : List Str := ["_law_script", "_law_seed", "_law_state", "_law_cell"]
abbrev s1 : Stmt := top 15
abbrev n1 : List Str := ["_law_h", "_law_cap", "_law_cell"]
abbrev s10 : Stmt := top 16
abbrev n10 : List Str := ["_law_found", "_law_due", "_law_k"]
abbrev s11 : Stmt := top 17
abbrev n11 : List Str := ["_law_h", "_law_things"]
abbrev s12 : Stmt := top 18
abbrev n12 : List Str := ["_law_meaning", "_law_goal", "_law_found", "error"]
abbrev s13 : Stmt := top 19
abbrev n13 : List Str := ["_law_script", "_law_h", "_law_every", "_law_turn", "_law_left", "_law_pair", "_law_meaning", "_law_goal", "_law_inner", "_law_due", "_law_other", "_law_odd"]
def b2 : List S := [(.ret (some (.and (.bi (.isi [.str]) [(.pk 0)]) (.bi .inn [(.pk 0), (.glb 0)]))))]
def d2 : DefI := ⟨"is_meaning", s2, n2, 1, 2, b2⟩
def b3 : List S := [(.ite (.not (.call 2 [(.pk 0)])) [(.raise 1 [])] [])]
def d3 : DefI := ⟨"check_meaning", s3, n3, 1, 3, b3⟩
def b4 : List S := [(.ret (some (.bi .mkT [(.bi .add [(.bi .ix [(.pk 1), (.cst (.int 0))]), (.bi .int1 [(.bi .eq [(.bi .ix [(.pk 0), (.cst (.int 0))]), (.cst (.str ⟨#[40]⟩))])])]), (.bi .sub [(.bi .ix [(.pk 1), (.cst (.int 1))]), (.bi .int1 [(.bi .eq [(.bi .ix [(.pk 0), (.cst (.int 1))]), (.cst (.str ⟨#[41]⟩))])])])])))]
def d4 : DefI := ⟨"ends_of", s4, n4, 2, 4, b4⟩
def b5 : List S := [(.asg (.tup [(.v 2), (.v 3)]) (.call 4 [(.pk 0), (.pk 1)])), (.ret (some (.bi .gt [(.pk 2), (.pk 3)])))]
def d5 : DefI := ⟨"is_empty", s5, n5, 2, 5, b5⟩
def b6 : List S := [(.ret (some (.ite (.call 5 [(.pk 0), (.pk 1)]) (.cst .non) (.call 4 [(.pk 0), (.pk 1)]))))]
def d6 : DefI := ⟨"numbers_of", s6, n6, 2, 6, b6⟩
def b7 : List S := [(.ex (.call 3 [(.pk 0)])), (.ret (some (.call 6 [(.pk 0), (.pk 1)])))]
def d7 : DefI := ⟨"numbers", s7, n7, 2, 7, b7⟩
def b8 : List S := [(.asg (.tup [(.v 3), (.v 4)]) (.call 4 [(.pk 0), (.pk 2)])), (.ret (some (.bi .mkT [(.bi .sub [(.pk 3), (.bi .int1 [(.bi .eq [(.bi .ix [(.pk 1), (.cst (.int 0))]), (.cst (.str ⟨#[40]⟩))])])]), (.bi .add [(.pk 4), (.bi .int1 [(.bi .eq [(.bi .ix [(.pk 1), (.cst (.int 1))]), (.cst (.str ⟨#[41]⟩))])])])])))]
def d8 : DefI := ⟨"turned", s8, n8, 3, 8, b8⟩
def b9 : List S := [(.ex (.call 3 [(.pk 0)])), (.ex (.call 3 [(.pk 1)])), (.ret (some (.call 8 [(.pk 0), (.pk 1), (.pk 2)])))]
def d9 : DefI := ⟨"cast", s9, n9, 3, 9, b9⟩
def b10 : List S := [(.ite (.bi (.isi [.dict]) [(.pk 1)]) [(.ret (some (.and (.bi (.isi [.dict]) [(.pk 0)]) (.and (.call 10 [(.bi .listOf [(.pk 0)]), (.bi .listOf [(.pk 1)])]) (.bi .eq [(.pk 0), (.pk 1)])))))] []), (.ite (.bi (.isi [.tuple, .list]) [(.pk 1)]) [(.ite (.or (.not (.bi (.isi [.tuple, .list]) [(.pk 0)])) (.bi .ne [(.bi (.isi [.list]) [(.pk 0)]), (.bi (.isi [.list]) [(.pk 1)])])) [(.ret (some (.cst (.bl false))))] []), (.ite (.bi .ne [(.bi .len [(.pk 0)]), (.bi .len [(.pk 1)])]) [(.ret (some (.cst (.bl false))))] []), (.ret (some (.bi .eq [(.lc (.var 2) 2 .range1 [(.bi .len [(.pk 1)])] (some (.not (.call 10 [(.bi .ix [(.pk 0), (.pk 2)]), (.bi .ix [(.pk 1), (.pk 2)])])))), (.bi .mkL [])])))] []), (.ite (.or (.bi .isN [(.pk 1), (.cst .non)]) (.bi (.isi [.str]) [(.pk 1)])) [(.ret (some (.and (.bi .eq [(.pk 0), (.pk 1)]) (.bi .eq [(.bi (.isi [.str]) [(.pk 0)]), (.bi (.isi [.str]) [(.pk 1)])]))))] []), (.ret (some (.and (.bi (.isi [.int]) [(.pk 0)]) (.and (.bi .eq [(.bi (.isi [.bool]) [(.pk 0)]), (.bi (.isi [.bool]) [(.pk 1)])]) (.bi .eq [(.pk 0), (.pk 1)])))))]
def d10 : DefI := ⟨"_law_alike", s10, n10, 2, 10, b10⟩
def b11 : List S := [(.ret (some (.bi .ix [(.pk 1), (.call 1 [(.pk 0), (.bi .len [(.pk 1)])])])))]
def d11 : DefI := ⟨"_law_pick", s11, n11, 2, 11, b11⟩
def b12 : List S := [(.asg (.v 2) (.bi .mkL [])), (.try [(.ex (.call 7 [(.pk 0), (.bi .mkT [(.cst (.int 0)), (.cst (.int 1))])]))] [([1], (some 3), (.app 2 (.eri 0)))]), (.try [(.ex (.call 9 [(.pk 0), (.pk 1), (.bi .mkT [(.cst (.int 0)), (.cst (.int 1))])]))] [([1], none, (.app 2 (.cst (.str ⟨#[99, 97, 115, 116]⟩))))]), (.ret (some (.mv 2)))]
def d12 : DefI := ⟨"_law_refused", s12, n12, 2, 12, b12⟩
def b13 : List S := [(.par [1, 2] [(.call 0 [(.pk 0), (.cst (.int 1))]), (.bi .mkL [(.cst (.str ⟨#[91, 93]⟩)), (.cst (.str ⟨#[91, 41]⟩)), (.cst (.str ⟨#[40, 93]⟩)), (.cst (.str ⟨#[40, 41]⟩))])]), (.for (.v 3) .range1 [(.cst (.int 20))] [(.asg (.v 4) (.bi .mul [(.bi .sub [(.call 1 [(.pk 1), (.cst (.int 41))]), (.cst (.int 20))]), (.bi .ix [(.bi .mkL [(.cst (.int 1)), (.cst (.int 1)), (.bi .pow [(.cst (.int 10)), (.cst (.int 30))])]), (.call 1 [(.pk 1), (.cst (.int 3))])])])), (.par [5, 6, 7] [(.bi .mkT [(.var 4), (.bi .sub [(.bi .add [(.pk 4), (.call 1 [(.pk 1), (.cst (.int 9))])]), (.cst (.int 3))])]), (.call 11 [(.pk 1), (.pk 2)]), (.call 11 [(.pk 1), (.pk 2)])]), (.asg (.v 8) (.bi .rangeL [(.bi .add [(.bi .ix [(.pk 5), (.cst (.int 0))]), (.bi .int1 [(.bi .eq [(.bi .ix [(.pk 6), (.cst (.int 0))]), (.cst (.str ⟨#[40]⟩))])])]), (.bi .add [(.bi .ix [(.pk 5), (.cst (.int 1))]), (.bi .int1 [(.bi .eq [(.bi .ix [(.pk 6), (.cst (.int 1))]), (.cst (.str ⟨#[93]⟩))])])])])), (.asg (.v 9) (.ite (.bi .ne [(.pk 8), (.bi .mkL [])]) (.bi .mkT [(.bi .ix [(.pk 8), (.cst (.int 0))]), (.bi .ix [(.pk 8), (.bi .neg [(.cst (.int 1))])])]) (.cst .non))), (.ite (.not (.call 10 [(.call 7 [(.pk 6), (.pk 5)]), (.pk 9)])) [(.ret (some (.cst (.bl false))))] []), (.asg (.v 10) (.call 9 [(.pk 6), (.pk 7), (.pk 5)])), (.ite (.or (.not (.bi (.isi [.tuple]) [(.pk 10)])) (.or (.bi .ne [(.bi .len [(.pk 10)]), (.cst (.int 2))]) (.bi .ne [(.call 7 [(.pk 7), (.pk 10)]), (.pk 9)]))) [(.ret (some (.cst (.bl false))))] []), (.ite (.or (.bi .ne [(.bi .abs [(.bi .sub [(.bi .ix [(.pk 10), (.cst (.int 0))]), (.bi .ix [(.pk 5), (.cst (.int 0))])])]), (.bi .int1 [(.bi .ne [(.bi .ix [(.pk 6), (.cst (.int 0))]), (.bi .ix [(.pk 7), (.cst (.int 0))])])])]) (.bi .ne [(.call 9 [(.pk 7), (.pk 6), (.pk 10)]), (.pk 5)])) [(.ret (some (.cst (.bl false))))] []), (.ite (.or (.bi .ne [(.bi .abs [(.bi .sub [(.bi .ix [(.pk 10), (.cst (.int 1))]), (.bi .ix [(.pk 5), (.cst (.int 1))])])]), (.bi .int1 [(.bi .ne [(.bi .ix [(.pk 6), (.cst (.int 1))]), (.bi .ix [(.pk 7), (.cst (.int 1))])])])]) (.bi .ne [(.call 9 [(.pk 6), (.pk 6), (.pk 5)]), (.pk 5)])) [(.ret (some (.cst (.bl false))))] [])]), (.asg (.v 11) (.call 11 [(.pk 1), (.bi .mkL [(.cst (.str ⟨#[]⟩)), (.cst (.str ⟨#[91]⟩)), (.cst (.str ⟨#[93, 91]⟩)), (.cst (.str ⟨#[91, 91, 93]⟩)), (.cst .non), (.cst (.int 5)), (.bi .mkL [(.cst (.str ⟨#[91]⟩)), (.cst (.str ⟨#[93]⟩))]), (.bi .mkT [(.cst (.str ⟨#[91]⟩)), (.cst (.str ⟨#[41]⟩))]), (.cst (.str ⟨#[123, 125]⟩)), (.cst (.bl true))])])), (.ite (.or (.bi .ne [(.call 12 [(.pk 11), (.cst (.str ⟨#[91, 93]⟩))]), (.bi .mkL [(.cst (.bl true)), (.cst (.str ⟨#[99, 97, 115, 116]⟩))])]) (.bi .ne [(.call 12 [(.cst (.str ⟨#[91, 93]⟩)), (.pk 11)]), (.bi .mkL [(.cst (.str ⟨#[99, 97, 115, 116]⟩))])])) [(.ret (some (.cst (.bl false))))] []), (.ret (some (.bi .eq [(.call 12 [(.cst (.str ⟨#[91, 41]⟩)), (.cst (.str ⟨#[40, 41]⟩))]), (.bi .mkL [])])))]
def d13 : DefI := ⟨"law", s13, n13, 1, 13, b13⟩
def tb : Tab where
  defs := [d2, d3, d4, d5, d6, d7, d8, d9, d10, d11, d12, d13]
  prims := [("_law_mix", 0, 2), ("_law_next", 1, 2)]
  primF := fun i => if i = 0 then some mixH else if i = 1 then some nextH else none
  con := [("MEANINGS", 0)]
  glob := fun i => if i = 0 then some (.tup [(.str ⟨#[40, 41]⟩), (.str ⟨#[40, 93]⟩), (.str ⟨#[91, 41]⟩), (.str ⟨#[91, 93]⟩)]) else none
  cls := [("EndsError", 0), ("InvalidMeaning", 1)]
  exs := [("InvalidMeaning", 1)]
  exc := fun c => if c = 1 then excOf 1 none else fun _ => none
  sub := fun a b => if a = 1 then decide (b ∈ [1, 0]) else if a = 0 then decide (b ∈ [0]) else false
  fld := fun c f => false
  errs := [0, 1]
  objs := []
  fuel := 1000
  dep := 80
theorem tr2 : b2 = trSs 80 (tb.si d2) (defBody s2) := by kernel_rfl
theorem tr3 : b3 = trSs 80 (tb.si d3) (defBody s3) := by kernel_rfl
theorem tr4 : b4 = trSs 80 (tb.si d4) (defBody s4) := by kernel_rfl
theorem tr5 : b5 = trSs 80 (tb.si d5) (defBody s5) := by kernel_rfl
theorem tr6 : b6 = trSs 80 (tb.si d6) (defBody s6) := by kernel_rfl
theorem tr7 : b7 = trSs 80 (tb.si d7) (defBody s7) := by kernel_rfl
theorem tr8 : b8 = trSs 80 (tb.si d8) (defBody s8) := by kernel_rfl
theorem tr9 : b9 = trSs 80 (tb.si d9) (defBody s9) := by kernel_rfl
theorem tr10 : b10 = trSs 80 (tb.si d10) (defBody s10) := by kernel_rfl
theorem tr11 : b11 = trSs 80 (tb.si d11) (defBody s11) := by kernel_rfl
theorem tr12 : b12 = trSs 80 (tb.si d12) (defBody s12) := by kernel_rfl
theorem tr13 : b13 = trSs 80 (tb.si d13) (defBody s13) := by kernel_rfl
end TL

set_option Elab.async false
set_option linter.all false
set_option maxRecDepth 100000
set_option maxHeartbeats 4000000
set_option autoImplicit false
/-! the facts of the law -/
namespace TL
open PySem PySem.Spec PyProof.Rows L2
abbrev nMix : List Str := ["_law_script", "_law_seed", "_law_state", "_law_cell"]
abbrev nNext : List Str := ["_law_h", "_law_cap", "_law_cell"]
section
variable {P : Program} {w : World} {K : PySem.W.Frag} {mg : Str → Option Value} {base : Heap} {g : Gd}
theorem scNext : FnScope nNext ["_law_h", "_law_cap"] (defScope s1) := ⟨rfl, rfl, rfl, by decide +kernel, rfl, by decide +kernel, by decide +kernel⟩
theorem scMix : FnScope nMix ["_law_script", "_law_seed"] (defScope s0) := ⟨rfl, rfl, rfl, by decide +kernel, rfl, by decide +kernel, by decide +kernel⟩
theorem next_ok {f : Addr} {fd : FuncData} (hK : g.K = K) (F : Fun K "_law_next" "_law_next" s1 f fd) (mI : mg "int" = none) (mM : mg "max" = none) (mL : mg "len" = none) :
    FnOk P w K mg base (L2.CX P w) 3 f fd ["_law_h", "_law_cap"] (spOf g 2 nextH) := by
  refine F.okX scNext (fun vs H Q E h => h.1) (fun cdv A outer s H vs Q E hr h => ?_)
  have hu : (cxOf (L2.CX P w) P w K mg base nNext "_law_next" (defScope s1) f cdv A outer s H E).A.units + 1 < cLine := by
    have := hr.un
    show (A.deeper (envOfC "_law_next" (defScope s1) s.heap.objs.size f cdv)).units + 1 < cLine
    omega
  refine ⟨_, pss_cons (ps_asg (pe_ix (ix_all hu) (pe_op op_addA (pe_ix (ix_all hu) (pv 0) pe_int fun _ _ => rfl) (pe_lst (pa_cons pe_int pa_nil)))
      (pe_op op_mod (pe_callTy call_int1 rfl mI boot_int (pa_cons (pe_ix (ix_all hu) (pv 0) pe_int fun _ _ => rfl) pa_nil))
        (pe_callB (call_max2 rfl) rfl mM (by decide +kernel) (pa_cons pe_int (pa_cons (pe_callB call_lenA rfl mL (by decide +kernel) (pa_cons (pe_ix (ix_all hu) (pv 0) pe_int fun _ _ => rfl) pa_nil)) pa_nil)))) fun _ _ => rfl) (pg_name (i := 2) scNext.nd rfl (Or.inl rfl)))
    (pss_cons (ps_if (pt_cmpR op_ge (pv 2) (pe_op op_pow pe_int pe_int) rfl)
      (pss_cons (ps_asg (pe_op op_fdiv (pv 2) (pv 1)) (pg_sub (pe_ix (ix_all hu) (pv 0) pe_int fun _ _ => rfl)
          (pe_op op_mod (pe_callTy call_int1 rfl mI boot_int (pa_cons (pe_ix (ix_all hu) (pv 0) pe_int fun _ _ => rfl) pa_nil)) (pe_callB call_lenA rfl mL (by decide +kernel) (pa_cons (pe_ix (ix_all hu) (pv 0) pe_int fun _ _ => rfl) pa_nil))) set_list))
        (pss_one (ps_ret (pe_op op_mod (pe_callTy call_int1 rfl mI boot_int (pa_cons (pv 2) pa_nil)) (pv 1))))) pss_nil)
    (pss_cons (ps_asg (pe_op op_mod (pe_callTy call_int1 rfl mI boot_int (pa_cons (pe_op op_addA (pe_op op_addA (pe_op op_mul (pe_ix (ix_all hu) (pv 0) pe_int fun _ _ => rfl) pe_int) (pe_op op_mul (pv 2) pe_int)) pe_int) pa_nil)) pe_int) (pg_sub (pv 0) pe_int set_list))
    (pss_cons (ps_asg (pe_op op_addA (pe_ix (ix_all hu) (pv 0) pe_int fun _ _ => rfl) pe_int) (pg_sub (pv 0) pe_int set_list))
    (pss_one (ps_ret (pe_op op_mod (pe_callTy call_int1 rfl mI boot_int (pa_cons (pe_op op_fdiv (pe_ix (ix_all hu) (pv 0) pe_int fun _ _ => rfl) pe_int) pa_nil)) (pv 1))))))), ?_⟩
  obtain ⟨hl, args, G, RR, post⟩ := h
  unfold nextH at post
  split at post
  case h_2 => exact post.elim
  rename_i st cells ix cap
  split at post
  case isFalse => exact post.elim
  rename_i cond
  obtain ⟨c1, c2, c3, c4⟩ := cond
  obtain ⟨a, b, rfl, hab, ha, hb⟩ := rn_inv RR
  have sz : sizeLine = 16777216 := sizeLine_eq
  have post' : ∀ (H' : Hp) (st' ix' r : Int) (cells' : List Int), nextF st cells ix cap = (r, st', cells', ix') → H' a = some (rnO st' b ix') → H' b = some (.lst (cells'.map V.int)) → (∀ x u, x ≠ a → x ≠ b → H x = some u → H' x = some u) → Q (.int r) H' := fun H' st' ix' r cells' e e1 e2 e3 => by
    rw [e] at post
    obtain ⟨s1, R1⟩ := rn_step (r := r) RR ha hb hab e1 e2 e3
    exact post (.int r) H' s1 R1
  -- the cell
  have hm : 0 < (if (cells.length : Int) > 1 then (cells.length : Int) else 1) := by split <;> omega
  obtain ⟨m, em⟩ : ∃ m : Int, m = (if (cells.length : Int) > 1 then (cells.length : Int) else 1) := ⟨_, rfl⟩
  rw [← em] at hm
  have hj0 : 0 ≤ ix % m := Int.emod_nonneg _ (by omega)
  have hj1 : ix % m < m := Int.emod_lt_of_pos _ hm
  have hj2 : (ix % m).toNat < (cells ++ [0]).length := by
    rw [List.length_append, List.length_singleton]
    have : m ≤ cells.length + 1 := by rw [em]; split <;> omega
    omega
  obtain ⟨cell, ecell⟩ : ∃ cell, (cells ++ [0])[(ix % m).toNat]? = some cell := ⟨_, List.getElem?_eq_getElem hj2⟩
  have hat : atI (cells.map V.int ++ [V.int 0]) (ix % m) = some (.int cell) := by
    have e1 : cells.map V.int ++ [V.int 0] = (cells ++ [0]).map V.int := by simp
    unfold atI ixN
    rw [e1, List.length_map, if_pos hj0, if_pos (by omega), Option.bind_some, List.getElem?_map, ecell]
    rfl
  have eF : nextF st cells ix cap = if 10 ^ 18 ≤ cell then (cell % cap, st, cells.set (ix % cells.length).toNat (cell / cap), ix)
      else ((st * 48271 + cell * 69621 + 11) % 2147483647 / 7 % cap, (st * 48271 + cell * 69621 + 11) % 2147483647, cells, ix + 1) := by
    unfold nextF
    simp only [← em, ecell, Option.getD_some]
  have qa : ∀ {H1 : Hp}, H1 a = some (rnO st b ix) → SqL K H1 a [.int st, .ref b, .int ix] := fun h => SqL.of h
  refine ⟨_, rfl, .inl ⟨a, _, 1, .ref b, rfl, rfl, qa ha, rfl, ?_⟩⟩
  refine ⟨by show 1 ≤ sizeLine; omega, fun p hp => ?_⟩
  have pa : p ≠ a := fun z => by rw [z, ha] at hp; cases hp
  have pb : p ≠ b := fun z => by rw [z, hb] at hp; cases hp
  have ha1 : upd H p (.lst [V.int 0]) a = some (rnO st b ix) := by rw [upd_ne pa.symm]; exact ha
  have hb1 : upd H p (.lst [V.int 0]) b = some (.lst (cells.map V.int)) := by rw [upd_ne pb.symm]; exact hb
  refine .inr (.inr ⟨b, p, _, _, rfl, rfl, hb1, upd_same, by simp only [List.length_map, List.length_singleton]; omega, fun q hq => ?_⟩)
  have qa' : q ≠ a := fun z => by rw [z, ha1] at hq; cases hq
  have qb' : q ≠ b := fun z => by rw [z, hb1] at hq; cases hq
  obtain ⟨H2, eH2⟩ : ∃ H2, H2 = upd (upd H p (.lst [V.int 0])) q (.lst (cells.map V.int ++ [V.int 0])) := ⟨_, rfl⟩
  rw [← eH2]
  have ha2 : H2 a = some (rnO st b ix) := by rw [eH2, upd_ne qa'.symm]; exact ha1
  have hb2 : H2 b = some (.lst (cells.map V.int)) := by rw [eH2, upd_ne qb'.symm]; exact hb1
  have hq2 : H2 q = some (.lst (cells.map V.int ++ [V.int 0])) := by rw [eH2]; exact upd_same
  have up2 : ∀ x u, H x = some u → H2 x = some u := fun x u e => by
    have e1 := upd_ext (o := .lst [V.int 0]) hp x u e
    rw [eH2]
    exact upd_ext hq x u e1
  refine ⟨_, rfl, .inl ⟨a, _, 2, .int ix, rfl, rfl, qa ha2, rfl, ?_⟩⟩
  refine .inl ⟨ix, rfl, ?_⟩
  refine ⟨_, rfl, .inl ⟨a, _, 1, .ref b, rfl, rfl, qa ha2, rfl, ?_⟩⟩
  refine .inl ⟨b, _, rfl, .inl (SqL.of hb2), ?_⟩
  refine ⟨1, ((cells.map V.int).length : Nat), rfl, ?_⟩
  rw [List.length_map, ← em]
  refine ⟨ix, m, rfl, rfl, hm, ?_⟩
  refine .inl ⟨q, _, ix % m, .int cell, rfl, rfl, SqL.of hq2, hat, ?_⟩
  -- the branch
  refine ⟨_, rfl, 10, 18, rfl, rfl, ⟨by decide, by decide, by decide⟩, ?_⟩
  refine ⟨cell, _, rfl, rfl, _, rfl, ?_⟩
  have e18 : ((10 : Int) ^ ((18 : Int).toNat)) = 10 ^ 18 := rfl
  by_cases big : (10 : Int) ^ 18 ≤ cell
  · refine if_true_of (decide_eq_true big) ?_
    rw [if_pos big] at eF
    have hL : 0 < cells.length := by
      rcases Nat.eq_zero_or_pos cells.length with z | z
      · have ec : cells = [] := List.length_eq_zero_iff.mp z
        subst ec
        have e1 : m = 1 := by rw [em]; rfl
        rw [e1, Int.emod_one] at ecell
        simp at ecell
        rw [← ecell] at big
        exact absurd big (by decide)
      · exact z
    have hLi : (0 : Int) < cells.length := by omega
    have k0 : 0 ≤ ix % cells.length := Int.emod_nonneg _ (by omega)
    have k1 : ix % cells.length < cells.length := Int.emod_lt_of_pos _ hLi
    refine ⟨_, rfl, _, rfl, cell, cap, rfl, rfl, ⟨c1, c2⟩, ?_⟩
    refine ⟨_, rfl, .inl ⟨a, _, 1, .ref b, rfl, rfl, qa ha2, rfl, ?_⟩⟩
    refine ⟨_, rfl, .inl ⟨a, _, 2, .int ix, rfl, rfl, qa ha2, rfl, ?_⟩⟩
    refine .inl ⟨ix, rfl, ?_⟩
    refine ⟨_, rfl, .inl ⟨a, _, 1, .ref b, rfl, rfl, qa ha2, rfl, ?_⟩⟩
    refine .inl ⟨b, _, rfl, .inl (SqL.of hb2), ?_⟩
    rw [List.length_map]
    refine ⟨ix, cells.length, rfl, rfl, hLi, ?_⟩
    refine ⟨b, cells.map V.int, ix % cells.length, (ix % cells.length).toNat, rfl, rfl, hb2, by unfold ixN; rw [List.length_map, if_pos k0, if_pos k1], ?_⟩
    refine ⟨_, rfl, .inl ⟨cell, rfl, _, rfl, cell, cap, rfl, rfl, c1, ?_⟩⟩
    refine post' _ st ix _ (cells.set (ix % cells.length).toNat (cell / cap)) eF ?_ ?_ fun x u n1 n2 e => ?_
    · rw [upd_ne hab]; exact ha2
    · rw [upd_same]; simp [List.map_set]
    · rw [upd_ne n2]; exact up2 x u e
  · refine if_false_of (decide_eq_false big) ?_
    rw [if_neg big] at eF
    -- the state's number
    refine ⟨_, rfl, .inl ⟨a, _, 0, .int st, rfl, rfl, qa ha2, rfl, ?_⟩⟩
    refine ⟨st, 48271, rfl, rfl, by unfold CMul; omega, ?_⟩
    refine ⟨_, rfl, cell, 69621, rfl, rfl, by unfold CMul; omega, ?_⟩
    refine .inl ⟨_, _, rfl, rfl, .inl ⟨_, _, rfl, rfl, .inl ⟨_, rfl, _, _, rfl, rfl, by show (0 : Int) < 2147483647; decide, ?_⟩⟩⟩
    refine ⟨_, rfl, a, _, 0, 0, rfl, rfl, ha2, rfl, ?_⟩
    obtain ⟨H3, eH3⟩ : ∃ H3, H3 = upd H2 a (.lst ([V.int st, V.ref b, V.int ix].set 0 (.int ((st * 48271 + cell * 69621 + 11) % 2147483647)))) := ⟨_, rfl⟩
    have ha3 : H3 a = some (rnO ((st * 48271 + cell * 69621 + 11) % 2147483647) b ix) := by rw [eH3]; exact upd_same
    have hb3 : H3 b = some (.lst (cells.map V.int)) := by rw [eH3, upd_ne hab.symm]; exact hb2
    have up3 : ∀ x u, x ≠ a → H x = some u → H3 x = some u := fun x u n e => by rw [eH3, upd_ne n]; exact up2 x u e
    refine eH3 ▸ ?_
    -- the place
    refine ⟨_, rfl, .inl ⟨a, _, 2, .int ix, rfl, rfl, SqL.of ha3, rfl, ?_⟩⟩
    refine .inl ⟨ix, 1, rfl, rfl, ?_⟩
    refine ⟨_, rfl, a, _, 2, 2, rfl, rfl, ha3, rfl, ?_⟩
    have ha4 : upd H3 a (.lst ([V.int ((st * 48271 + cell * 69621 + 11) % 2147483647), V.ref b, V.int ix].set 2 (.int (ix + 1)))) a = some (rnO ((st * 48271 + cell * 69621 + 11) % 2147483647) b (ix + 1)) := upd_same
    have hb4 : upd H3 a (.lst ([V.int ((st * 48271 + cell * 69621 + 11) % 2147483647), V.ref b, V.int ix].set 2 (.int (ix + 1)))) b = some (.lst (cells.map V.int)) := by rw [upd_ne hab.symm]; exact hb3
    refine ⟨_, rfl, .inl ⟨a, _, 0, .int ((st * 48271 + cell * 69621 + 11) % 2147483647), rfl, rfl, SqL.of ha4, rfl, ?_⟩⟩
    refine ⟨((st * 48271 + cell * 69621 + 11) % 2147483647), 7, rfl, rfl, ⟨by decide, by decide⟩, .inl ⟨_, rfl, _, rfl, _, cap, rfl, rfl, c1, ?_⟩⟩
    exact post' _ ((st * 48271 + cell * 69621 + 11) % 2147483647) (ix + 1) _ cells eF ha4 hb4 fun x u n1 n2 e => by rw [upd_ne n1]; exact up3 x u n1 e
theorem foldl_more {α β : Type} {f : β → α → β} {x : β} {l : List α} {i : Nat} {y : α} (h : l[i]? = some y) : (l.take (i + 1)).foldl f x = f ((l.take i).foldl f x) y := by
  rw [List.take_add_one, h]
  simp
theorem mix_ok {f : Addr} {fd : FuncData} (hK : g.K = K) (F : Fun K "_law_mix" "_law_mix" s0 f fd) (mI : mg "int" = none) (mL : mg "list" = none) :
    FnOk P w K mg base (L2.CX P w) 3 f fd ["_law_script", "_law_seed"] (spOf g 2 mixH) := by
  refine F.okX scMix (fun vs H Q E h => h.1) (fun cdv A outer s H vs Q E hr h => ?_)
  refine ⟨_, pss_cons (ps_asg (pv 1) (pg_name (i := 2) scMix.nd rfl (Or.inl rfl)))
    (pss_cons (ps_for (passes_of (K := fun e s'' => L2.CX P w outer H s E e s'') rfl) rfl (pi_list (pv 0)) (pg_name (i := 3) scMix.nd rfl (Or.inl rfl))
      (pss_one (ps_asg (pe_op op_mod (pe_callTy call_int1 rfl mI boot_int (pa_cons (pe_op op_addA (pe_op op_addA (pe_op op_mul (pv 2) pe_int) (pe_op op_mod (pe_callTy call_int1 rfl mI boot_int (pa_cons (pv 3) pa_nil)) pe_int)) pe_int) pa_nil)) pe_int) (pg_name (i := 2) scMix.nd rfl (Or.inl rfl)))))
    (pss_one (ps_ret (pe_lst (pa_cons (pv 2) (pa_cons (pe_callTy call_list_of rfl mL boot_list (pa_cons (pv 0) pa_nil)) (pa_cons pe_int pa_nil))))))), ?_⟩
  obtain ⟨hl, args, G, RR, post⟩ := h
  unfold mixH at post
  split at post
  case h_2 => exact post.elim
  rename_i cells seed
  split at post
  case isFalse => exact post.elim
  rename_i cond
  obtain ⟨a, rfl, hs⟩ := scr_inv RR
  rw [hK] at hs
  have sz : sizeLine = 16777216 := sizeLine_eq
  refine ⟨_, rfl, _, rfl, a, rfl, ⟨_, hs⟩, for_list (K := K) (a := a) (xs := cells.map V.int) (fun i σ H' => H' = H ∧ ∃ v : Option V, σ = [some (.ref a), some (.int seed), some (.int (mixF (cells.take i) seed)), v]) ⟨rfl, none, rfl⟩ (fun i σ H' _ z => by rw [z.1]; exact hs) ?_ ?_⟩
  · rintro i y σ H' hi ⟨rfl, v, rfl⟩
    obtain ⟨z, hz, rfl⟩ : ∃ z, cells[i]? = some z ∧ y = V.int z := by
      rw [List.getElem?_map] at hi
      cases e : cells[i]? with
      | none => rw [e] at hi; cases hi
      | some z => rw [e] at hi; exact ⟨z, rfl, (Option.some.inj hi).symm⟩
    refine ⟨_, rfl, _, 48271, rfl, rfl, by unfold CMul; omega, ?_⟩
    refine ⟨_, rfl, .inl ⟨z, rfl, z, 2147483629, rfl, rfl, by show (0 : Int) < 2147483629; decide, ?_⟩⟩
    refine .inl ⟨_, _, rfl, rfl, .inl ⟨_, _, rfl, rfl, .inl ⟨_, rfl, _, _, rfl, rfl, by show (0 : Int) < 2147483647; decide, ?_⟩⟩⟩
    refine ⟨rfl, some (.int z), ?_⟩
    unfold mixF
    rw [foldl_more hz]
    rfl
  · rintro σ H' ⟨rfl, v, rfl⟩
    rw [List.length_map, List.take_length]
    refine ⟨_, rfl, _, rfl, a, _, rfl, .inl hs, fun p1 h1 => ⟨by show 3 ≤ sizeLine; omega, fun p2 h2 => ?_⟩⟩
    obtain ⟨s1, R1⟩ := rn_new (st := mixF cells seed) (ix := 0) RR h1 h2
    exact post (.ref p2) _ s1 R1
end
theorem vals_den {g : Gd} {A : Av} : ∀ {xs : List Str} {us : List Value}, Paired (fun (x : Str) (u : Value) => ∃ t, u = .str x t) xs us → Vals (xs.map V.str) us ∧ DenL g A (xs.map T.str) (xs.map V.str)
  | _, _, .nil => ⟨.nil, by simp only [List.map_nil, DenL]⟩
  | _, _, .cons h r => by
    obtain ⟨h1, h2⟩ := vals_den (g := g) (A := A) r
    exact ⟨.cons h h1, by simp only [List.map_cons, DenL]; exact ⟨_, _, rfl, den_str, h2⟩⟩
theorem den_con {g : Gd} {A : Av} {xs : List Str} {us : List Value} {a : Addr} {d : Option Addr} {n : Nat} {s : Array (Option Value)} (h : g.K.lookup a = some ⟨.type "tuple", d, .seq us.toArray n, s⟩) (hz : us.length ≤ 1000) (p : Paired (fun (x : Str) (u : Value) => ∃ t, u = .str x t) xs us) : Den g A (.tup (xs.map T.str)) (.ref a) := by
  obtain ⟨h1, h2⟩ := vals_den (g := g) (A := A) p
  simp only [Den]
  exact ⟨a, _, rfl, .inr (.inr ⟨_, us.toArray, n, h, rfl, rfl, by rw [List.size_toArray, sizeLine_eq]; omega, by simpa using h1⟩), h2⟩
abbrev i1 : Stmt := match top 2 with | .ClassDef _ _ _ b _ _ _ _ _ _ _ => b.getD 0 (.Pass ⟨0, 0, 0, 0⟩) | s => s
def clT (C0 C1 : Addr) : Nat → Addr := fun i => if i = 0 then C0 else if i = 1 then C1 else 0
theorem tab_ok {w : World} {K : PySem.W.Frag} {h : Heap} {mg : Str → Option Value} (X : K.In h) (G : h.Ns mainGlobals mg)
    {f0 : Addr} {od0 an0 : Option Addr} {sl0 : Array (Option Value)} {oc0 kV0 dc0 pm0 cd0 ct0 : Value}
    {f1 : Addr} {od1 an1 : Option Addr} {sl1 : Array (Option Value)} {oc1 kV1 dc1 pm1 cd1 ct1 : Value}
    {f2 : Addr} {od2 an2 : Option Addr} {sl2 : Array (Option Value)} {oc2 kV2 dc2 pm2 cd2 ct2 : Value}
    {f3 : Addr} {od3 an3 : Option Addr} {sl3 : Array (Option Value)} {oc3 kV3 dc3 pm3 cd3 ct3 : Value}
    {f4 : Addr} {od4 an4 : Option Addr} {sl4 : Array (Option Value)} {oc4 kV4 dc4 pm4 cd4 ct4 : Value}
    {f5 : Addr} {od5 an5 : Option Addr} {sl5 : Array (Option Value)} {oc5 kV5 dc5 pm5 cd5 ct5 : Value}
    {f6 : Addr} {od6 an6 : Option Addr} {sl6 : Array (Option Value)} {oc6 kV6 dc6 pm6 cd6 ct6 : Value}
    {f7 : Addr} {od7 an7 : Option Addr} {sl7 : Array (Option Value)} {oc7 kV7 dc7 pm7 cd7 ct7 : Value}
    {f8 : Addr} {od8 an8 : Option Addr} {sl8 : Array (Option Value)} {oc8 kV8 dc8 pm8 cd8 ct8 : Value}
    {f9 : Addr} {od9 an9 : Option Addr} {sl9 : Array (Option Value)} {oc9 kV9 dc9 pm9 cd9 ct9 : Value}
    {f10 : Addr} {od10 an10 : Option Addr} {sl10 : Array (Option Value)} {oc10 kV10 dc10 pm10 cd10 ct10 : Value}
    {f11 : Addr} {od11 an11 : Option Addr} {sl11 : Array (Option Value)} {oc11 kV11 dc11 pm11 cd11 ct11 : Value}
    {f12 : Addr} {od12 an12 : Option Addr} {sl12 : Array (Option Value)} {oc12 kV12 dc12 pm12 cd12 ct12 : Value}
    {f13 : Addr} {od13 an13 : Option Addr} {sl13 : Array (Option Value)} {oc13 kV13 dc13 pm13 cd13 ct13 : Value}
    {C0 : Addr}
    {C1 : Addr}
    {I1 N1 D1 Z1 : Addr} {inm1 iq1 : Str} {ibs1 ibm1 isub1 : List Value} {isn1 : List Str} {iab1 : Bool} {icol1 : Option Bool} {idd1 : Option Addr} {ik10 ik11 ik12 ik13 ik15 : Option Value}
    {iod1 ian1 : Option Addr} {isl1 : Array (Option Value)} {ioc1 ikV1 idc1 ipm1 ict1 : Value} {ccl1 : Value} {cdd1 : Option Addr} {vs1 : Array Value} {ccs1 : Array (Option Value)} {zl1 : Value} {zd1 : Option Addr} {zs1 : Array (Option Value)}
    {ca0 : Addr} {cb0 : Option Addr} {cn0 : Nat} {cs0 : Array (Option Value)} {ct0_0 ct0_1 ct0_2 ct0_3 : Tok}
    (a0 : PySem.W.nsIn K mainGlobals "_law_mix" = some (some (.ref f0)))
    (l0 : K.lookup f0 = some ⟨oc0, od0, .func (PySem.W.fnOf "_law_mix" "_law_mix" (defArgs s0) (defBody s0) (defScope s0) .none kV0 dc0 pm0 an0 cd0 ct0), sl0⟩)
    (c0 : PySem.W.codeIn K cd0 "_law_mix" = true)
    (k0 : PySem.W.keepIn K (.ref f0) = true)
    (a1 : PySem.W.nsIn K mainGlobals "_law_next" = some (some (.ref f1)))
    (l1 : K.lookup f1 = some ⟨oc1, od1, .func (PySem.W.fnOf "_law_next" "_law_next" (defArgs s1) (defBody s1) (defScope s1) .none kV1 dc1 pm1 an1 cd1 ct1), sl1⟩)
    (c1 : PySem.W.codeIn K cd1 "_law_next" = true)
    (k1 : PySem.W.keepIn K (.ref f1) = true)
    (a2 : PySem.W.nsIn K mainGlobals "is_meaning" = some (some (.ref f2)))
    (l2 : K.lookup f2 = some ⟨oc2, od2, .func (PySem.W.fnOf "is_meaning" "is_meaning" (defArgs s2) (defBody s2) (defScope s2) .none kV2 dc2 pm2 an2 cd2 ct2), sl2⟩)
    (c2 : PySem.W.codeIn K cd2 "is_meaning" = true)
    (k2 : PySem.W.keepIn K (.ref f2) = true)
    (a3 : PySem.W.nsIn K mainGlobals "check_meaning" = some (some (.ref f3)))
    (l3 : K.lookup f3 = some ⟨oc3, od3, .func (PySem.W.fnOf "check_meaning" "check_meaning" (defArgs s3) (defBody s3) (defScope s3) .none kV3 dc3 pm3 an3 cd3 ct3), sl3⟩)
    (c3 : PySem.W.codeIn K cd3 "check_meaning" = true)
    (k3 : PySem.W.keepIn K (.ref f3) = true)
    (a4 : PySem.W.nsIn K mainGlobals "ends_of" = some (some (.ref f4)))
    (l4 : K.lookup f4 = some ⟨oc4, od4, .func (PySem.W.fnOf "ends_of" "ends_of" (defArgs s4) (defBody s4) (defScope s4) .none kV4 dc4 pm4 an4 cd4 ct4), sl4⟩)
    (c4 : PySem.W.codeIn K cd4 "ends_of" = true)
    (k4 : PySem.W.keepIn K (.ref f4) = true)
    (a5 : PySem.W.nsIn K mainGlobals "is_empty" = some (some (.ref f5)))
    (l5 : K.lookup f5 = some ⟨oc5, od5, .func (PySem.W.fnOf "is_empty" "is_empty" (defArgs s5) (defBody s5) (defScope s5) .none kV5 dc5 pm5 an5 cd5 ct5), sl5⟩)
    (c5 : PySem.W.codeIn K cd5 "is_empty" = true)
    (k5 : PySem.W.keepIn K (.ref f5) = true)
    (a6 : PySem.W.nsIn K mainGlobals "numbers_of" = some (some (.ref f6)))
    (l6 : K.lookup f6 = some ⟨oc6, od6, .func (PySem.W.fnOf "numbers_of" "numbers_of" (defArgs s6) (defBody s6) (defScope s6) .none kV6 dc6 pm6 an6 cd6 ct6), sl6⟩)
    (c6 : PySem.W.codeIn K cd6 "numbers_of" = true)
    (k6 : PySem.W.keepIn K (.ref f6) = true)
    (a7 : PySem.W.nsIn K mainGlobals "numbers" = some (some (.ref f7)))
    (l7 : K.lookup f7 = some ⟨oc7, od7, .func (PySem.W.fnOf "numbers" "numbers" (defArgs s7) (defBody s7) (defScope s7) .none kV7 dc7 pm7 an7 cd7 ct7), sl7⟩)
    (c7 : PySem.W.codeIn K cd7 "numbers" = true)
    (k7 : PySem.W.keepIn K (.ref f7) = true)
    (a8 : PySem.W.nsIn K mainGlobals "turned" = some (some (.ref f8)))
    (l8 : K.lookup f8 = some ⟨oc8, od8, .func (PySem.W.fnOf "turned" "turned" (defArgs s8) (defBody s8) (defScope s8) .none kV8 dc8 pm8 an8 cd8 ct8), sl8⟩)
    (c8 : PySem.W.codeIn K cd8 "turned" = true)
    (k8 : PySem.W.keepIn K (.ref f8) = true)
    (a9 : PySem.W.nsIn K mainGlobals "cast" = some (some (.ref f9)))
    (l9 : K.lookup f9 = some ⟨oc9, od9, .func (PySem.W.fnOf "cast" "cast" (defArgs s9) (defBody s9) (defScope s9) .none kV9 dc9 pm9 an9 cd9 ct9), sl9⟩)
    (c9 : PySem.W.codeIn K cd9 "cast" = true)
    (k9 : PySem.W.keepIn K (.ref f9) = true)
    (a10 : PySem.W.nsIn K mainGlobals "_law_alike" = some (some (.ref f10)))
    (l10 : K.lookup f10 = some ⟨oc10, od10, .func (PySem.W.fnOf "_law_alike" "_law_alike" (defArgs s10) (defBody s10) (defScope s10) .none kV10 dc10 pm10 an10 cd10 ct10), sl10⟩)
    (c10 : PySem.W.codeIn K cd10 "_law_alike" = true)
    (k10 : PySem.W.keepIn K (.ref f10) = true)
    (a11 : PySem.W.nsIn K mainGlobals "_law_pick" = some (some (.ref f11)))
    (l11 : K.lookup f11 = some ⟨oc11, od11, .func (PySem.W.fnOf "_law_pick" "_law_pick" (defArgs s11) (defBody s11) (defScope s11) .none kV11 dc11 pm11 an11 cd11 ct11), sl11⟩)
    (c11 : PySem.W.codeIn K cd11 "_law_pick" = true)
    (k11 : PySem.W.keepIn K (.ref f11) = true)
    (a12 : PySem.W.nsIn K mainGlobals "_law_refused" = some (some (.ref f12)))
    (l12 : K.lookup f12 = some ⟨oc12, od12, .func (PySem.W.fnOf "_law_refused" "_law_refused" (defArgs s12) (defBody s12) (defScope s12) .none kV12 dc12 pm12 an12 cd12 ct12), sl12⟩)
    (c12 : PySem.W.codeIn K cd12 "_law_refused" = true)
    (k12 : PySem.W.keepIn K (.ref f12) = true)
    (a13 : PySem.W.nsIn K mainGlobals "law" = some (some (.ref f13)))
    (l13 : K.lookup f13 = some ⟨oc13, od13, .func (PySem.W.fnOf "law" "law" (defArgs s13) (defBody s13) (defScope s13) .none kV13 dc13 pm13 an13 cd13 ct13), sl13⟩)
    (c13 : PySem.W.codeIn K cd13 "law" = true)
    (k13 : PySem.W.keepIn K (.ref f13) = true)
    (z_len : PySem.W.nsIn K mainGlobals "len" = some none)
    (z_int : PySem.W.nsIn K mainGlobals "int" = some none)
    (z_abs : PySem.W.nsIn K mainGlobals "abs" = some none)
    (z_list : PySem.W.nsIn K mainGlobals "list" = some none)
    (z_tuple : PySem.W.nsIn K mainGlobals "tuple" = some none)
    (z_all : PySem.W.nsIn K mainGlobals "all" = some none)
    (z_max : PySem.W.nsIn K mainGlobals "max" = some none)
    (z_min : PySem.W.nsIn K mainGlobals "min" = some none)
    (z_range : PySem.W.nsIn K mainGlobals "range" = some none)
    (z_isinstance : PySem.W.nsIn K mainGlobals "isinstance" = some none)
    (z_str : PySem.W.nsIn K mainGlobals "str" = some none)
    (z_bool : PySem.W.nsIn K mainGlobals "bool" = some none)
    (z_dict : PySem.W.nsIn K mainGlobals "dict" = some none)
    (z_sum : PySem.W.nsIn K mainGlobals "sum" = some none)
    (z_sorted : PySem.W.nsIn K mainGlobals "sorted" = some none)
    (z_any : PySem.W.nsIn K mainGlobals "any" = some none)
    (z_zip : PySem.W.nsIn K mainGlobals "zip" = some none)
    (z_enumerate : PySem.W.nsIn K mainGlobals "enumerate" = some none)
    (z_super : PySem.W.nsIn K mainGlobals "super" = some none)
    (sp : PySem.W.specialIn K (.builtin "object.__class__") "__get__" = some (some (.builtin "getset_descriptor.__get__")))
    (tk : PySem.W.takesIn K (.builtin "object.__class__") = some true)
    (opq : PySem.W.nsIn K cStatics "thirdparty.any" = some none)
    (gc0 : PySem.W.nsIn K mainGlobals "EndsError" = some (some (.ref C0)))
    (e0_1 : PySem.W.findIn K (.ref C0) "__getattribute__" = some (some (.builtin "BaseException.__getattribute__")))
    (e0_2 : PySem.W.findIn K (.ref C0) "__getattr__" = some none)
    (e0_3 : PySem.W.subIn K (.ref C0) (.type "BaseException") = some true)
    (e0_4 : PySem.W.hasDictIn K C0 = true)
    (e0_5 : PySem.W.findIn K (.ref C0) "__class__" = some (some (.builtin "object.__class__")))
    (e0_6 : PySem.W.mroIn K C0 (.type "object") = some true)
    (e0_7 : PySem.W.typeIn K (.ref C0) = some (.type "type"))
    (gc1 : PySem.W.nsIn K mainGlobals "InvalidMeaning" = some (some (.ref C1)))
    (e1_1 : PySem.W.findIn K (.ref C1) "__getattribute__" = some (some (.builtin "BaseException.__getattribute__")))
    (e1_2 : PySem.W.findIn K (.ref C1) "__getattr__" = some none)
    (e1_3 : PySem.W.subIn K (.ref C1) (.type "BaseException") = some true)
    (e1_4 : PySem.W.hasDictIn K C1 = true)
    (e1_5 : PySem.W.findIn K (.ref C1) "__class__" = some (some (.builtin "object.__class__")))
    (e1_6 : PySem.W.mroIn K C1 (.type "object") = some true)
    (e1_7 : PySem.W.typeIn K (.ref C1) = some (.type "type"))
    (s0_0 : PySem.W.subIn K (.ref C0) (.ref C0) = some true)
    (s0_1 : PySem.W.subIn K (.ref C0) (.ref C1) = some false)
    (s1_0 : PySem.W.subIn K (.ref C1) (.ref C0) = some true)
    (s1_1 : PySem.W.subIn K (.ref C1) (.ref C1) = some true)
    (x1_l : K.lookup C1 = some (excClassObj inm1 iq1 C1 N1 ibs1 ibm1 true isn1 isub1 iab1 icol1 idd1 ik10 ik11 ik12 ik13 ik15 "ValueError.__new__"))
    (x1_b : HandSPX.refsVE ibm1 = true)
    (x1_sa : PySem.W.findIn K (.ref C1) "__setattr__" = some (some (.builtin "object.__setattr__")))
    (x1_i : PySem.W.findIn K (.ref C1) "__init__" = some (some (.ref I1)))
    (x1_t : PySem.W.typeIn K (.ref I1) = some (.type "function"))
    (x1_k : PySem.W.keepIn K (.ref C1) = true)
    (x1_v : PySem.W.subIn K (.ref C1) (.type "ValueError") = some true)
    (x1_m : PySem.W.mroIn K C1 (.ref C1) = some true)
    (x1_s : PySem.W.ks_superIn K C1 C1 "__init__" = some (some (.builtin "ValueError.__init__")))
    (x1_f : K.lookup I1 = some ⟨ioc1, iod1, .func (PySem.W.ksFn "__init__" "InvalidMeaning.__init__" (defArgs i1) (defBody i1) (defScope i1) .none ikV1 idc1 ipm1 ian1 (.ref D1) ict1 Z1), isl1⟩)
    (x1_c : PySem.W.codeIn K (.ref D1) "InvalidMeaning.__init__" = true)
    (x1_d : K.lookup D1 = some ⟨ccl1, cdd1, .fields vs1, ccs1⟩)
    (x1_g : ∃ file tf, vs1[2]? = some (.str file tf) ∧ ((PySem.Challenge.pw_endsmeant_k01_meanings_and_casts.main.file : Str) == file) = true)
    (x1_z : K.lookup Z1 = some ⟨zl1, zd1, .cell (some (.ref C1)), zs1⟩)
    (con0_a : PySem.W.nsIn K mainGlobals "MEANINGS" = some (some (.ref ca0)))
    (con0_l : K.lookup ca0 = some ⟨.type "tuple", cb0, .seq #[.str "()" ct0_0, .str "(]" ct0_1, .str "[)" ct0_2, .str "[]" ct0_3] cn0, cs0⟩)
    (base : Heap) : TabOk PySem.Challenge.pw_endsmeant_k01_meanings_and_casts w K mg base ⟨K, (clT C0 C1)⟩ tb := by
  have none_of : ∀ {x : Str}, PySem.W.nsIn K mainGlobals x = some none → mg x = none := fun h => PySem.W.mg_none_of X G h
  have E0 : Err1 K C0 := err1_mk sp tk e0_1 e0_2 e0_3 e0_4 e0_5 e0_6 e0_7 s0_0
  have E1 : Err1 K C1 := err1_mk sp tk e1_1 e1_2 e1_3 e1_4 e1_5 e1_6 e1_7 s1_1
  have F2 : DefF K mg d2 := defF_mk (d := d2) X G (by decide) ⟨rfl, rfl, rfl, by decide +kernel, rfl, by decide +kernel, by decide +kernel⟩ (by decide) a2 l2 c2 k2 fun _ _ _ _ _ _ us hl => match us, hl with | [_], _ => rfl
  have F3 : DefF K mg d3 := defF_mk (d := d3) X G (by decide) ⟨rfl, rfl, rfl, by decide +kernel, rfl, by decide +kernel, by decide +kernel⟩ (by decide) a3 l3 c3 k3 fun _ _ _ _ _ _ us hl => match us, hl with | [_], _ => rfl
  have F4 : DefF K mg d4 := defF_mk (d := d4) X G (by decide) ⟨rfl, rfl, rfl, by decide +kernel, rfl, by decide +kernel, by decide +kernel⟩ (by decide) a4 l4 c4 k4 fun _ _ _ _ _ _ us hl => match us, hl with | [_, _], _ => rfl
  have F5 : DefF K mg d5 := defF_mk (d := d5) X G (by decide) ⟨rfl, rfl, rfl, by decide +kernel, rfl, by decide +kernel, by decide +kernel⟩ (by decide) a5 l5 c5 k5 fun _ _ _ _ _ _ us hl => match us, hl with | [_, _], _ => rfl
  have F6 : DefF K mg d6 := defF_mk (d := d6) X G (by decide) ⟨rfl, rfl, rfl, by decide +kernel, rfl, by decide +kernel, by decide +kernel⟩ (by decide) a6 l6 c6 k6 fun _ _ _ _ _ _ us hl => match us, hl with | [_, _], _ => rfl
  have F7 : DefF K mg d7 := defF_mk (d := d7) X G (by decide) ⟨rfl, rfl, rfl, by decide +kernel, rfl, by decide +kernel, by decide +kernel⟩ (by decide) a7 l7 c7 k7 fun _ _ _ _ _ _ us hl => match us, hl with | [_, _], _ => rfl
  have F8 : DefF K mg d8 := defF_mk (d := d8) X G (by decide) ⟨rfl, rfl, rfl, by decide +kernel, rfl, by decide +kernel, by decide +kernel⟩ (by decide) a8 l8 c8 k8 fun _ _ _ _ _ _ us hl => match us, hl with | [_, _, _], _ => rfl
  have F9 : DefF K mg d9 := defF_mk (d := d9) X G (by decide) ⟨rfl, rfl, rfl, by decide +kernel, rfl, by decide +kernel, by decide +kernel⟩ (by decide) a9 l9 c9 k9 fun _ _ _ _ _ _ us hl => match us, hl with | [_, _, _], _ => rfl
  have F10 : DefF K mg d10 := defF_mk (d := d10) X G (by decide) ⟨rfl, rfl, rfl, by decide +kernel, rfl, by decide +kernel, by decide +kernel⟩ (by decide) a10 l10 c10 k10 fun _ _ _ _ _ _ us hl => match us, hl with | [_, _], _ => rfl
  have F11 : DefF K mg d11 := defF_mk (d := d11) X G (by decide) ⟨rfl, rfl, rfl, by decide +kernel, rfl, by decide +kernel, by decide +kernel⟩ (by decide) a11 l11 c11 k11 fun _ _ _ _ _ _ us hl => match us, hl with | [_, _], _ => rfl
  have F12 : DefF K mg d12 := defF_mk (d := d12) X G (by decide) ⟨rfl, rfl, rfl, by decide +kernel, rfl, by decide +kernel, by decide +kernel⟩ (by decide) a12 l12 c12 k12 fun _ _ _ _ _ _ us hl => match us, hl with | [_, _], _ => rfl
  have F13 : DefF K mg d13 := defF_mk (d := d13) X G (by decide) ⟨rfl, rfl, rfl, by decide +kernel, rfl, by decide +kernel, by decide +kernel⟩ (by decide) a13 l13 c13 k13 fun _ _ _ _ _ _ us hl => match us, hl with | [_], _ => rfl
  refine ⟨rfl, fun d hd => ?_, fun x f n hx => ?_, fun x hx => ?_, fun x k hx => ?_, fun x c hx => ?_, obj_none rfl, ?_, fun x c hx => ?_⟩
  · simp only [tb, List.mem_cons, List.not_mem_nil, or_false] at hd
    rcases hd with rfl | rfl | rfl | rfl | rfl | rfl | rfl | rfl | rfl | rfl | rfl | rfl
    · exact ⟨F2, tr2, rfl, rfl, rfl⟩
    · exact ⟨F3, tr3, rfl, rfl, rfl⟩
    · exact ⟨F4, tr4, rfl, rfl, rfl⟩
    · exact ⟨F5, tr5, rfl, rfl, rfl⟩
    · exact ⟨F6, tr6, rfl, rfl, rfl⟩
    · exact ⟨F7, tr7, rfl, rfl, rfl⟩
    · exact ⟨F8, tr8, rfl, rfl, rfl⟩
    · exact ⟨F9, tr9, rfl, rfl, rfl⟩
    · exact ⟨F10, tr10, rfl, rfl, rfl⟩
    · exact ⟨F11, tr11, rfl, rfl, rfl⟩
    · exact ⟨F12, tr12, rfl, rfl, rfl⟩
    · exact ⟨F13, tr13, rfl, rfl, rfl⟩
  · simp only [tb, List.mem_cons, List.not_mem_nil, or_false, Prod.mk.injEq] at hx
    rcases hx with ⟨rfl, rfl, rfl⟩ | ⟨rfl, rfl, rfl⟩
    · have F := fun_mk (st := s0) l0 c0 k0
      exact ⟨by decide, f0, _, _, mixH, rfl, PySem.W.mg_of X G a0, k0, F.binds (ps := ["_law_script", "_law_seed"]) fun _ _ _ _ _ _ us hl => match us, hl with | [_, _], _ => rfl, rfl, mix_ok rfl F (none_of z_int) (none_of z_list)⟩
    · have F := fun_mk (st := s1) l1 c1 k1
      exact ⟨by decide, f1, _, _, nextH, rfl, PySem.W.mg_of X G a1, k1, F.binds (ps := ["_law_h", "_law_cap"]) fun _ _ _ _ _ _ us hl => match us, hl with | [_, _], _ => rfl, rfl, next_ok rfl F (none_of z_int) (none_of z_max) (none_of z_len)⟩
  · simp only [bltNames, List.contains_eq_mem, List.mem_cons, List.not_mem_nil, or_false, decide_eq_true_eq] at hx
    rcases hx with rfl | rfl | rfl | rfl | rfl | rfl | rfl | rfl | rfl | rfl | rfl | rfl | rfl | rfl | rfl | rfl | rfl | rfl
    · exact none_of z_len
    · exact none_of z_int
    · exact none_of z_abs
    · exact none_of z_list
    · exact none_of z_tuple
    · exact none_of z_all
    · exact none_of z_max
    · exact none_of z_min
    · exact none_of z_range
    · exact none_of z_isinstance
    · exact none_of z_str
    · exact none_of z_bool
    · exact none_of z_dict
    · exact none_of z_sum
    · exact none_of z_sorted
    · exact none_of z_any
    · exact none_of z_zip
    · exact none_of z_enumerate
  · have hx := mem_of_lookup hx
    simp only [tb, List.mem_cons, List.not_mem_nil, or_false, Prod.mk.injEq] at hx
    rcases hx with ⟨rfl, rfl⟩
    · refine ⟨by decide, _, .ref ca0, _, PySem.W.mg_of X G con0_a, rfl, rfl, fun A => ?_⟩
      exact den_con con0_l (by simp) (.cons ⟨_, rfl⟩ (.cons ⟨_, rfl⟩ (.cons ⟨_, rfl⟩ (.cons ⟨_, rfl⟩ (.nil)))))
  · have hx := mem_of_lookup hx
    simp only [tb, List.mem_cons, List.not_mem_nil, or_false, Prod.mk.injEq] at hx
    rcases hx with ⟨rfl, rfl⟩ | ⟨rfl, rfl⟩
    · exact ⟨by decide, PySem.W.mg_of X G gc0⟩
    · exact ⟨by decide, PySem.W.mg_of X G gc1⟩
  · have two : ∀ d, (tb.cfg 0 0).errs.contains d = true → d = 0 ∨ d = 1 := fun d h => by simpa [Tab.cfgOf, tb] using h
    refine ⟨fun d hd => ?_, fun d c hd hc => ?_, fun d c hd hc => ?_, fun d f hd hf => ?_⟩
    · rcases two d hd with rfl | rfl
      · exact E0.x
      · exact E1.x
    · rcases two d hd with rfl | rfl
      · rcases two c hc with rfl | rfl
        · exact E0.m s0_0
        · exact E1.m s0_1
      · rcases two c hc with rfl | rfl
        · exact E0.m s1_0
        · exact E1.m s1_1
    · rcases two d hd with rfl | rfl
      · rcases two c hc with rfl | rfl
        · exact E0.k s0_0
        · exact E1.k s0_1
      · rcases two c hc with rfl | rfl
        · exact E0.k s1_0
        · exact E1.k s1_1
    · rcases two d hd with rfl | rfl
      · exact absurd hf (by simp [Tab.cfgOf, tb])
      · exact absurd hf (by simp [Tab.cfgOf, tb])
  · have hx := mem_of_lookup hx
    simp only [tb, List.mem_cons, List.not_mem_nil, or_false, Prod.mk.injEq] at hx
    rcases hx with ⟨rfl, rfl⟩
    · refine ⟨by decide, PySem.W.mg_of X G gc1, I1, "InvalidMeaning.__init__", defArgs i1, defBody i1, defScope i1, none, ⟨⟨_, _, _, _, _, _, _, _, _, _, _, _, _, _, _, x1_l, x1_b⟩, x1_sa, x1_i, x1_t, x1_k, e1_3, e1_7, x1_v, x1_m, x1_s, opq, none_of z_super, by decide +kernel, ⟨rfl, rfl, rfl, rfl, by decide +kernel, rfl, rfl⟩, _, _, _, _, _, _, _, _, _, _, _, x1_f, x1_c, ?_, _, _, _, x1_z⟩, .plain (by rfl), ⟨⟨_, rfl, rfl⟩, ?_⟩, ?_, rfl⟩
      · obtain ⟨file, tf, y1, y2⟩ := x1_g
        exact ⟨_, _, _, _, file, tf, x1_d, y1, y2⟩
      · rintro f a e; cases e
      · rintro x v s fd ⟨name, kV, doc, pm, an, cdv, ct, cc, rfl⟩
        exact BindsTo.of_eq (by first | rfl | with_unfolding_all rfl | kernel_rfl)
theorem law_end {w : World} {K : PySem.W.Frag} {h : Heap} {mg : Str → Option Value} {fa : Addr} (X : K.In h) (G : h.Ns mainGlobals mg) (hfa : mg "law" = some (.ref fa))
    (plain : ∀ ns : List Int, ns.length ≤ 63 → ∃ outs, callD tb 40 13 [.scr ns] = some (.ok (.sh (.bl true)), outs))
    {f0 : Addr} {od0 an0 : Option Addr} {sl0 : Array (Option Value)} {oc0 kV0 dc0 pm0 cd0 ct0 : Value}
    {f1 : Addr} {od1 an1 : Option Addr} {sl1 : Array (Option Value)} {oc1 kV1 dc1 pm1 cd1 ct1 : Value}
    {f2 : Addr} {od2 an2 : Option Addr} {sl2 : Array (Option Value)} {oc2 kV2 dc2 pm2 cd2 ct2 : Value}
    {f3 : Addr} {od3 an3 : Option Addr} {sl3 : Array (Option Value)} {oc3 kV3 dc3 pm3 cd3 ct3 : Value}
    {f4 : Addr} {od4 an4 : Option Addr} {sl4 : Array (Option Value)} {oc4 kV4 dc4 pm4 cd4 ct4 : Value}
    {f5 : Addr} {od5 an5 : Option Addr} {sl5 : Array (Option Value)} {oc5 kV5 dc5 pm5 cd5 ct5 : Value}
    {f6 : Addr} {od6 an6 : Option Addr} {sl6 : Array (Option Value)} {oc6 kV6 dc6 pm6 cd6 ct6 : Value}
    {f7 : Addr} {od7 an7 : Option Addr} {sl7 : Array (Option Value)} {oc7 kV7 dc7 pm7 cd7 ct7 : Value}
    {f8 : Addr} {od8 an8 : Option Addr} {sl8 : Array (Option Value)} {oc8 kV8 dc8 pm8 cd8 ct8 : Value}
    {f9 : Addr} {od9 an9 : Option Addr} {sl9 : Array (Option Value)} {oc9 kV9 dc9 pm9 cd9 ct9 : Value}
    {f10 : Addr} {od10 an10 : Option Addr} {sl10 : Array (Option Value)} {oc10 kV10 dc10 pm10 cd10 ct10 : Value}
    {f11 : Addr} {od11 an11 : Option Addr} {sl11 : Array (Option Value)} {oc11 kV11 dc11 pm11 cd11 ct11 : Value}
    {f12 : Addr} {od12 an12 : Option Addr} {sl12 : Array (Option Value)} {oc12 kV12 dc12 pm12 cd12 ct12 : Value}
    {f13 : Addr} {od13 an13 : Option Addr} {sl13 : Array (Option Value)} {oc13 kV13 dc13 pm13 cd13 ct13 : Value}
    {C0 : Addr}
    {C1 : Addr}
    {I1 N1 D1 Z1 : Addr} {inm1 iq1 : Str} {ibs1 ibm1 isub1 : List Value} {isn1 : List Str} {iab1 : Bool} {icol1 : Option Bool} {idd1 : Option Addr} {ik10 ik11 ik12 ik13 ik15 : Option Value}
    {iod1 ian1 : Option Addr} {isl1 : Array (Option Value)} {ioc1 ikV1 idc1 ipm1 ict1 : Value} {ccl1 : Value} {cdd1 : Option Addr} {vs1 : Array Value} {ccs1 : Array (Option Value)} {zl1 : Value} {zd1 : Option Addr} {zs1 : Array (Option Value)}
    {ca0 : Addr} {cb0 : Option Addr} {cn0 : Nat} {cs0 : Array (Option Value)} {ct0_0 ct0_1 ct0_2 ct0_3 : Tok}
    (a0 : PySem.W.nsIn K mainGlobals "_law_mix" = some (some (.ref f0)))
    (l0 : K.lookup f0 = some ⟨oc0, od0, .func (PySem.W.fnOf "_law_mix" "_law_mix" (defArgs s0) (defBody s0) (defScope s0) .none kV0 dc0 pm0 an0 cd0 ct0), sl0⟩)
    (c0 : PySem.W.codeIn K cd0 "_law_mix" = true)
    (k0 : PySem.W.keepIn K (.ref f0) = true)
    (a1 : PySem.W.nsIn K mainGlobals "_law_next" = some (some (.ref f1)))
    (l1 : K.lookup f1 = some ⟨oc1, od1, .func (PySem.W.fnOf "_law_next" "_law_next" (defArgs s1) (defBody s1) (defScope s1) .none kV1 dc1 pm1 an1 cd1 ct1), sl1⟩)
    (c1 : PySem.W.codeIn K cd1 "_law_next" = true)
    (k1 : PySem.W.keepIn K (.ref f1) = true)
    (a2 : PySem.W.nsIn K mainGlobals "is_meaning" = some (some (.ref f2)))
    (l2 : K.lookup f2 = some ⟨oc2, od2, .func (PySem.W.fnOf "is_meaning" "is_meaning" (defArgs s2) (defBody s2) (defScope s2) .none kV2 dc2 pm2 an2 cd2 ct2), sl2⟩)
    (c2 : PySem.W.codeIn K cd2 "is_meaning" = true)
    (k2 : PySem.W.keepIn K (.ref f2) = true)
    (a3 : PySem.W.nsIn K mainGlobals "check_meaning" = some (some (.ref f3)))
    (l3 : K.lookup f3 = some ⟨oc3, od3, .func (PySem.W.fnOf "check_meaning" "check_meaning" (defArgs s3) (defBody s3) (defScope s3) .none kV3 dc3 pm3 an3 cd3 ct3), sl3⟩)
    (c3 : PySem.W.codeIn K cd3 "check_meaning" = true)
    (k3 : PySem.W.keepIn K (.ref f3) = true)
    (a4 : PySem.W.nsIn K mainGlobals "ends_of" = some (some (.ref f4)))
    (l4 : K.lookup f4 = some ⟨oc4, od4, .func (PySem.W.fnOf "ends_of" "ends_of" (defArgs s4) (defBody s4) (defScope s4) .none kV4 dc4 pm4 an4 cd4 ct4), sl4⟩)
    (c4 : PySem.W.codeIn K cd4 "ends_of" = true)
    (k4 : PySem.W.keepIn K (.ref f4) = true)
    (a5 : PySem.W.nsIn K mainGlobals "is_empty" = some (some (.ref f5)))
    (l5 : K.lookup f5 = some ⟨oc5, od5, .func (PySem.W.fnOf "is_empty" "is_empty" (defArgs s5) (defBody s5) (defScope s5) .none kV5 dc5 pm5 an5 cd5 ct5), sl5⟩)
    (c5 : PySem.W.codeIn K cd5 "is_empty" = true)
    (k5 : PySem.W.keepIn K (.ref f5) = true)
    (a6 : PySem.W.nsIn K mainGlobals "numbers_of" = some (some (.ref f6)))
    (l6 : K.lookup f6 = some ⟨oc6, od6, .func (PySem.W.fnOf "numbers_of" "numbers_of" (defArgs s6) (defBody s6) (defScope s6) .none kV6 dc6 pm6 an6 cd6 ct6), sl6⟩)
    (c6 : PySem.W.codeIn K cd6 "numbers_of" = true)
    (k6 : PySem.W.keepIn K (.ref f6) = true)
    (a7 : PySem.W.nsIn K mainGlobals "numbers" = some (some (.ref f7)))
    (l7 : K.lookup f7 = some ⟨oc7, od7, .func (PySem.W.fnOf "numbers" "numbers" (defArgs s7) (defBody s7) (defScope s7) .none kV7 dc7 pm7 an7 cd7 ct7), sl7⟩)
    (c7 : PySem.W.codeIn K cd7 "numbers" = true)
    (k7 : PySem.W.keepIn K (.ref f7) = true)
    (a8 : PySem.W.nsIn K mainGlobals "turned" = some (some (.ref f8)))
    (l8 : K.lookup f8 = some ⟨oc8, od8, .func (PySem.W.fnOf "turned" "turned" (defArgs s8) (defBody s8) (defScope s8) .none kV8 dc8 pm8 an8 cd8 ct8), sl8⟩)
    (c8 : PySem.W.codeIn K cd8 "turned" = true)
    (k8 : PySem.W.keepIn K (.ref f8) = true)
    (a9 : PySem.W.nsIn K mainGlobals "cast" = some (some (.ref f9)))
    (l9 : K.lookup f9 = some ⟨oc9, od9, .func (PySem.W.fnOf "cast" "cast" (defArgs s9) (defBody s9) (defScope s9) .none kV9 dc9 pm9 an9 cd9 ct9), sl9⟩)
    (c9 : PySem.W.codeIn K cd9 "cast" = true)
    (k9 : PySem.W.keepIn K (.ref f9) = true)
    (a10 : PySem.W.nsIn K mainGlobals "_law_alike" = some (some (.ref f10)))
    (l10 : K.lookup f10 = some ⟨oc10, od10, .func (PySem.W.fnOf "_law_alike" "_law_alike" (defArgs s10) (defBody s10) (defScope s10) .none kV10 dc10 pm10 an10 cd10 ct10), sl10⟩)
    (c10 : PySem.W.codeIn K cd10 "_law_alike" = true)
    (k10 : PySem.W.keepIn K (.ref f10) = true)
    (a11 : PySem.W.nsIn K mainGlobals "_law_pick" = some (some (.ref f11)))
    (l11 : K.lookup f11 = some ⟨oc11, od11, .func (PySem.W.fnOf "_law_pick" "_law_pick" (defArgs s11) (defBody s11) (defScope s11) .none kV11 dc11 pm11 an11 cd11 ct11), sl11⟩)
    (c11 : PySem.W.codeIn K cd11 "_law_pick" = true)
    (k11 : PySem.W.keepIn K (.ref f11) = true)
    (a12 : PySem.W.nsIn K mainGlobals "_law_refused" = some (some (.ref f12)))
    (l12 : K.lookup f12 = some ⟨oc12, od12, .func (PySem.W.fnOf "_law_refused" "_law_refused" (defArgs s12) (defBody s12) (defScope s12) .none kV12 dc12 pm12 an12 cd12 ct12), sl12⟩)
    (c12 : PySem.W.codeIn K cd12 "_law_refused" = true)
    (k12 : PySem.W.keepIn K (.ref f12) = true)
    (a13 : PySem.W.nsIn K mainGlobals "law" = some (some (.ref f13)))
    (l13 : K.lookup f13 = some ⟨oc13, od13, .func (PySem.W.fnOf "law" "law" (defArgs s13) (defBody s13) (defScope s13) .none kV13 dc13 pm13 an13 cd13 ct13), sl13⟩)
    (c13 : PySem.W.codeIn K cd13 "law" = true)
    (k13 : PySem.W.keepIn K (.ref f13) = true)
    (z_len : PySem.W.nsIn K mainGlobals "len" = some none)
    (z_int : PySem.W.nsIn K mainGlobals "int" = some none)
    (z_abs : PySem.W.nsIn K mainGlobals "abs" = some none)
    (z_list : PySem.W.nsIn K mainGlobals "list" = some none)
    (z_tuple : PySem.W.nsIn K mainGlobals "tuple" = some none)
    (z_all : PySem.W.nsIn K mainGlobals "all" = some none)
    (z_max : PySem.W.nsIn K mainGlobals "max" = some none)
    (z_min : PySem.W.nsIn K mainGlobals "min" = some none)
    (z_range : PySem.W.nsIn K mainGlobals "range" = some none)
    (z_isinstance : PySem.W.nsIn K mainGlobals "isinstance" = some none)
    (z_str : PySem.W.nsIn K mainGlobals "str" = some none)
    (z_bool : PySem.W.nsIn K mainGlobals "bool" = some none)
    (z_dict : PySem.W.nsIn K mainGlobals "dict" = some none)
    (z_sum : PySem.W.nsIn K mainGlobals "sum" = some none)
    (z_sorted : PySem.W.nsIn K mainGlobals "sorted" = some none)
    (z_any : PySem.W.nsIn K mainGlobals "any" = some none)
    (z_zip : PySem.W.nsIn K mainGlobals "zip" = some none)
    (z_enumerate : PySem.W.nsIn K mainGlobals "enumerate" = some none)
    (z_super : PySem.W.nsIn K mainGlobals "super" = some none)
    (sp : PySem.W.specialIn K (.builtin "object.__class__") "__get__" = some (some (.builtin "getset_descriptor.__get__")))
    (tk : PySem.W.takesIn K (.builtin "object.__class__") = some true)
    (opq : PySem.W.nsIn K cStatics "thirdparty.any" = some none)
    (gc0 : PySem.W.nsIn K mainGlobals "EndsError" = some (some (.ref C0)))
    (e0_1 : PySem.W.findIn K (.ref C0) "__getattribute__" = some (some (.builtin "BaseException.__getattribute__")))
    (e0_2 : PySem.W.findIn K (.ref C0) "__getattr__" = some none)
    (e0_3 : PySem.W.subIn K (.ref C0) (.type "BaseException") = some true)
    (e0_4 : PySem.W.hasDictIn K C0 = true)
    (e0_5 : PySem.W.findIn K (.ref C0) "__class__" = some (some (.builtin "object.__class__")))
    (e0_6 : PySem.W.mroIn K C0 (.type "object") = some true)
    (e0_7 : PySem.W.typeIn K (.ref C0) = some (.type "type"))
    (gc1 : PySem.W.nsIn K mainGlobals "InvalidMeaning" = some (some (.ref C1)))
    (e1_1 : PySem.W.findIn K (.ref C1) "__getattribute__" = some (some (.builtin "BaseException.__getattribute__")))
    (e1_2 : PySem.W.findIn K (.ref C1) "__getattr__" = some none)
    (e1_3 : PySem.W.subIn K (.ref C1) (.type "BaseException") = some true)
    (e1_4 : PySem.W.hasDictIn K C1 = true)
    (e1_5 : PySem.W.findIn K (.ref C1) "__class__" = some (some (.builtin "object.__class__")))
    (e1_6 : PySem.W.mroIn K C1 (.type "object") = some true)
    (e1_7 : PySem.W.typeIn K (.ref C1) = some (.type "type"))
    (s0_0 : PySem.W.subIn K (.ref C0) (.ref C0) = some true)
    (s0_1 : PySem.W.subIn K (.ref C0) (.ref C1) = some false)
    (s1_0 : PySem.W.subIn K (.ref C1) (.ref C0) = some true)
    (s1_1 : PySem.W.subIn K (.ref C1) (.ref C1) = some true)
    (x1_l : K.lookup C1 = some (excClassObj inm1 iq1 C1 N1 ibs1 ibm1 true isn1 isub1 iab1 icol1 idd1 ik10 ik11 ik12 ik13 ik15 "ValueError.__new__"))
    (x1_b : HandSPX.refsVE ibm1 = true)
    (x1_sa : PySem.W.findIn K (.ref C1) "__setattr__" = some (some (.builtin "object.__setattr__")))
    (x1_i : PySem.W.findIn K (.ref C1) "__init__" = some (some (.ref I1)))
    (x1_t : PySem.W.typeIn K (.ref I1) = some (.type "function"))
    (x1_k : PySem.W.keepIn K (.ref C1) = true)
    (x1_v : PySem.W.subIn K (.ref C1) (.type "ValueError") = some true)
    (x1_m : PySem.W.mroIn K C1 (.ref C1) = some true)
    (x1_s : PySem.W.ks_superIn K C1 C1 "__init__" = some (some (.builtin "ValueError.__init__")))
    (x1_f : K.lookup I1 = some ⟨ioc1, iod1, .func (PySem.W.ksFn "__init__" "InvalidMeaning.__init__" (defArgs i1) (defBody i1) (defScope i1) .none ikV1 idc1 ipm1 ian1 (.ref D1) ict1 Z1), isl1⟩)
    (x1_c : PySem.W.codeIn K (.ref D1) "InvalidMeaning.__init__" = true)
    (x1_d : K.lookup D1 = some ⟨ccl1, cdd1, .fields vs1, ccs1⟩)
    (x1_g : ∃ file tf, vs1[2]? = some (.str file tf) ∧ ((PySem.Challenge.pw_endsmeant_k01_meanings_and_casts.main.file : Str) == file) = true)
    (x1_z : K.lookup Z1 = some ⟨zl1, zd1, .cell (some (.ref C1)), zs1⟩)
    (con0_a : PySem.W.nsIn K mainGlobals "MEANINGS" = some (some (.ref ca0)))
    (con0_l : K.lookup ca0 = some ⟨.type "tuple", cb0, .seq #[.str "()" ct0_0, .str "(]" ct0_1, .str "[)" ct0_2, .str "[]" ct0_3] cn0, cs0⟩)
    : ∃ fd : FuncData, (∀ (s : Shared) (u : Value), BindsTo s fd ⟨[u], []⟩ [("_law_script", u)]) ∧ ∀ base : Heap, K.In base → base.Ns mainGlobals mg → FnOk PySem.Challenge.pw_endsmeant_k01_meanings_and_casts w K mg base (L2.CX PySem.Challenge.pw_endsmeant_k01_meanings_and_casts w) 43 fa fd ["_law_script"] (spL K) := by
  have e := hfa.symm.trans (PySem.W.mg_of X G a13)
  cases e
  exact ⟨_, fun s u => .of_eq rfl, fun base _ _ => law_fn (tab_ok X G a0 l0 c0 k0 a1 l1 c1 k1 a2 l2 c2 k2 a3 l3 c3 k3 a4 l4 c4 k4 a5 l5 c5 k5 a6 l6 c6 k6 a7 l7 c7 k7 a8 l8 c8 k8 a9 l9 c9 k9 a10 l10 c10 k10 a11 l11 c11 k11 a12 l12 c12 k12 a13 l13 c13 k13 z_len z_int z_abs z_list z_tuple z_all z_max z_min z_range z_isinstance z_str z_bool z_dict z_sum z_sorted z_any z_zip z_enumerate z_super sp tk opq gc0 e0_1 e0_2 e0_3 e0_4 e0_5 e0_6 e0_7 gc1 e1_1 e1_2 e1_3 e1_4 e1_5 e1_6 e1_7 s0_0 s0_1 s1_0 s1_1 x1_l x1_b x1_sa x1_i x1_t x1_k x1_v x1_m x1_s x1_f x1_c x1_d x1_g x1_z con0_a con0_l base) (d := d13) (by simp [tb]) (fun_mk (st := s13) l13 c13 k13) rfl rfl plain⟩
end TL

set_option Elab.async false
set_option linter.all false
set_option maxRecDepth 100000
set_option maxHeartbeats 4000000
set_option autoImplicit false
namespace TL
open PySem PySem.Spec PyProof.Rows L2
/-- the four meanings by the ends that are left out -/
def mean (o c : Bool) : Str := ⟨#[if o then 40 else 91, if c then 41 else 93]⟩
abbrev one (b : Bool) : Int := if b then 1 else 0
abbrev mT (o c : Bool) : Sl := .sh (.str (mean o c))
abbrev pT (a b : Int) : Sl := .sh (.tup [.int a, .int b])
theorem ends_eq (n : Nat) (o c : Bool) (a b : Int) : callD tb (n + 1) 4 [mT o c, pT a b] = some (.ok (pT (a + one o) (b - one c)), [mT o c, pT a b]) := by
  cases o <;> cases c <;> kernel_rfl
theorem empty_eq (n : Nat) (o c : Bool) (a b : Int) : callD tb (n + 2) 5 [mT o c, pT a b] = some (.ok (.sh (.bl (decide (b - one c < a + one o)))), [mT o c, pT a b]) := by
  cases o <;> cases c <;> kernel_rfl
/-- what numbers tells -/
def numF (o c : Bool) (a b : Int) : T := if b - one c < a + one o then .non else .tup [.int (a + one o), .int (b - one c)]
theorem nof_eq (n : Nat) (o c : Bool) (a b : Int) : callD tb (n + 3) 6 [mT o c, pT a b] = some (.ok (.sh (numF o c a b)), [mT o c, pT a b]) := by
  have h : callD tb (n + 3) 6 [mT o c, pT a b] = match callD tb (n + 2) 5 [mT o c, pT a b] with
    | some (.ok (.sh (.bl true)), _) => some (.ok (.sh .non), [mT o c, pT a b])
    | some (.ok (.sh (.bl false)), _) => some (.ok (pT (a + one o) (b - one c)), [mT o c, pT a b])
    | _ => none := by
    rw [empty_eq]
    by_cases k : b - one c < a + one o
    · rw [decide_eq_true k]
      have e : callD tb (n + 3) 6 [mT o c, pT a b] = (evSs (tb.cfg (n + 2) 2) b6 [mT o c, pT a b] |> fun r => match r with
        | .ok .nx ρ => some (.ok (.sh .non), ρ.take 2) | .ok (.ret s) ρ => some (.ok s, ρ.take 2) | .ex x ρ => some (.ex x, ρ.take 2) | _ => none) := by kernel_rfl
      rw [e]
      have e5 : (tb.cfg (n + 2) 2).call 5 [mT o c, pT a b] = _ := empty_eq n o c a b
      rw [decide_eq_true k] at e5
      simp [b6, evSs, evS, ev, evOs, oOf, known, handed, e5, R.bind, R.of, back, asB]
    · rw [decide_eq_false k]
      have e : callD tb (n + 3) 6 [mT o c, pT a b] = (evSs (tb.cfg (n + 2) 2) b6 [mT o c, pT a b] |> fun r => match r with
        | .ok .nx ρ => some (.ok (.sh .non), ρ.take 2) | .ok (.ret s) ρ => some (.ok s, ρ.take 2) | .ex x ρ => some (.ex x, ρ.take 2) | _ => none) := by kernel_rfl
      rw [e]
      have e5 : (tb.cfg (n + 2) 2).call 5 [mT o c, pT a b] = _ := empty_eq n o c a b
      rw [decide_eq_false k] at e5
      have e4 : (tb.cfg (n + 2) 2).call 4 [mT o c, pT a b] = _ := ends_eq (n + 1) o c a b
      simp [b6, evSs, evS, ev, evOs, oOf, known, handed, e5, e4, R.bind, R.of, back, asB]
  rw [h, empty_eq]
  unfold numF
  by_cases k : b - one c < a + one o
  · rw [decide_eq_true k, if_pos k]
  · rw [decide_eq_false k, if_neg k]
theorem chk_eq (n : Nat) (o c : Bool) : callD tb (n + 2) 3 [mT o c] = some (.ok (.sh .non), [mT o c]) := by
  cases o <;> cases c <;> kernel_rfl
theorem num_eq (n : Nat) (o c : Bool) (a b : Int) : callD tb (n + 4) 7 [mT o c, pT a b] = some (.ok (.sh (numF o c a b)), [mT o c, pT a b]) := by
  have e : callD tb (n + 4) 7 [mT o c, pT a b] = (evSs (tb.cfg (n + 3) 2) b7 [mT o c, pT a b] |> fun r => match r with
    | .ok .nx ρ => some (.ok (.sh .non), ρ.take 2) | .ok (.ret s) ρ => some (.ok s, ρ.take 2) | .ex x ρ => some (.ex x, ρ.take 2) | _ => none) := by kernel_rfl
  rw [e]
  have e3 : (tb.cfg (n + 3) 2).call 3 [mT o c] = _ := chk_eq (n + 1) o c
  have e6 : (tb.cfg (n + 3) 2).call 6 [mT o c, pT a b] = _ := nof_eq n o c a b
  simp [b7, evSs, evS, ev, evOs, oOf, known, handed, e3, e6, R.bind, R.of, back, asB]
theorem turn_eq (n : Nat) (o c o2 c2 : Bool) (a b : Int) : callD tb (n + 2) 8 [mT o c, mT o2 c2, pT a b] = some (.ok (pT (a + one o - one o2) (b - one c + one c2)), [mT o c, mT o2 c2, pT a b]) := by
  cases o <;> cases c <;> cases o2 <;> cases c2 <;> kernel_rfl
theorem cast_eq (n : Nat) (o c o2 c2 : Bool) (a b : Int) : callD tb (n + 3) 9 [mT o c, mT o2 c2, pT a b] = some (.ok (pT (a + one o - one o2) (b - one c + one c2)), [mT o c, mT o2 c2, pT a b]) := by
  cases o <;> cases c <;> cases o2 <;> cases c2 <;> kernel_rfl
/-- a None or a pair of ints is alike itself -/
theorem alike_non (n : Nat) : callD tb (n + 1) 10 [.sh .non, .sh .non] = some (.ok (.sh (.bl true)), [.sh .non, .sh .non]) := by kernel_rfl
theorem eqD_int (i j : Int) : eqD (.int i) (.int j) = some (decide (i = j)) := by
  have h : eqD (.int i) (.int j) = some (PyData.eqv (.int i) (.int j)) := by kernel_rfl
  rw [h]
  congr 1
theorem eqD_bl (i j : Bool) : eqD (.bl i) (.bl j) = some (decide (i = j)) := by cases i <;> cases j <;> kernel_rfl
/-- what a def gives of its body's end -/
def fin (np : Nat) : R Fl → Option (Out × List Sl)
  | .ok .nx ρ => some (.ok (.sh .non), ρ.take np)
  | .ok (.ret s) ρ => some (.ok s, ρ.take np)
  | .ex x ρ => some (.ex x, ρ.take np)
  | _ => none
theorem run_alike (n : Nat) (s t : Sl) : callD tb (n + 1) 10 [s, t] = fin 2 (evSs (tb.cfg n 2) b10 [s, t, .un]) := rfl
theorem run_pick (n : Nat) (s t : Sl) : callD tb (n + 1) 11 [s, t] = fin 2 (evSs (tb.cfg n 2) b11 [s, t]) := rfl
theorem run_ref (n : Nat) (s t : Sl) : callD tb (n + 1) 12 [s, t] = fin 2 (evSs (tb.cfg n 2) b12 [s, t, .un, .un]) := rfl
theorem run_law (n : Nat) (s : Sl) : callD tb (n + 1) 13 [s] = fin 1 (evSs (tb.cfg n 1) b13 [s, .un, .un, .un, .un, .un, .un, .un, .un, .un, .un, .un]) := rfl
theorem alike_int (n : Nat) (a : Int) : callD tb (n + 1) 10 [.sh (.int a), .sh (.int a)] = some (.ok (.sh (.bl true)), [.sh (.int a), .sh (.int a)]) := by
  rw [run_alike]
  simp [fin, b10, evSs, evS, ev, evOs, oOf, known, resolve, peekT, frz, biT, bIsi, isiOk, isTy, bIsN, isNon, bEq, eqD_int, eqD_bl, R.bind, R.of, asB]
theorem alike_pair (n : Nat) (a b : Int) : callD tb (n + 2) 10 [pT a b, pT a b] = some (.ok (.sh (.bl true)), [pT a b, pT a b]) := by
  rw [run_alike]
  have ca : (tb.cfg (n + 1) 2).call 10 [.sh (.int a), .sh (.int a)] = _ := alike_int n a
  have cb : (tb.cfg (n + 1) 2).call 10 [.sh (.int b), .sh (.int b)] = _ := alike_int n b
  have hr : rangeT 0 2 = [.int 0, .int 1] := rfl
  have hl : lo63 2 = true := by rfl
  have e0 : eqD (.lst []) (.lst []) = some true := by kernel_rfl
  have np : (tb.cfg (n + 1) 2).np = 2 := rfl
  have a0 : L2.atI [T.int a, T.int b] 0 = some (.int a) := by kernel_rfl
  have a1 : L2.atI [T.int a, T.int b] 1 = some (.int b) := by kernel_rfl
  have l0 : (0 : Nat) ≤ line := Nat.zero_le _
  simp [fin, b10, evSs, evS, ev, evOs, evC, oOf, known, resolve, peekT, frz, biT, bIsi, isiOk, isTy, bIsN, isNon, bEq, bLen, bIx, bMkL, eqD_int, eqD_bl, R.bind, R.of, asB, itT, hr, hl, lockAll, unlock, lcL, handed, back, ca, cb, noEx, e0, np, a0, a1, l0]
/-! ### the draws -/
theorem next_ex {st : Int} {cells : List Int} {ix cap : Int} (h1 : 0 < cap) (h2 : cap < 1073741824) (h3 : 0 ≤ ix) (h4 : cells.length ≤ 63) : ∃ (v st' : Int) (cells' : List Int) (ix' : Int),
    nextH [.rn st cells ix, .sh (.int cap)] = some (.ok (.sh (.int v)), [.rn st' cells' ix', .sh (.int cap)]) ∧ 0 ≤ v ∧ v < cap ∧ 0 ≤ ix' ∧ cells'.length ≤ 63 := by
  refine ⟨(nextF st cells ix cap).1, (nextF st cells ix cap).2.1, (nextF st cells ix cap).2.2.1, (nextF st cells ix cap).2.2.2, ?_, ?_⟩
  · exact if_pos ⟨h1, h2, h3, by omega⟩
  · simp only [nextF]
    generalize (if (cells.length : Int) > 1 then (cells.length : Int) else 1) = m
    generalize ((cells ++ [0])[(ix % m).toNat]?).getD 0 = cell
    split
    · exact ⟨Int.emod_nonneg _ (by omega), Int.emod_lt_of_pos _ h1, h3, by rw [List.length_set]; exact h4⟩
    · exact ⟨Int.emod_nonneg _ (by omega), Int.emod_lt_of_pos _ h1, by show 0 ≤ ix + 1; omega, h4⟩
theorem call1 (n : Nat) (a : List Sl) : callD tb (n + 1) 1 a = nextH a := rfl
theorem call0 (n : Nat) (a : List Sl) : callD tb (n + 1) 0 a = mixH a := rfl
/-- a pick of a list's item -/
theorem pick_eq (n : Nat) {st : Int} {cells : List Int} {ix : Int} {s : Sl} {xs : List T} (hs : s = .ow (.lst xs) ∨ s = .sh (.lst xs)) {v st' : Int} {cells' : List Int} {ix' : Int} (h : nextH [.rn st cells ix, .sh (.int xs.length)] = some (.ok (.sh (.int v)), [.rn st' cells' ix', .sh (.int xs.length)]))
    (h1 : 0 ≤ v) (h2 : v < xs.length) : ∃ t, xs[v.toNat]? = some t ∧ callD tb (n + 2) 11 [.rn st cells ix, s] = some (.ok (.sh t), [.rn st' cells' ix', s]) := by
  have hv : v.toNat < xs.length := by omega
  refine ⟨xs[v.toNat], List.getElem?_eq_getElem hv, ?_⟩
  have hc : (tb.cfg (n + 1) 2).call 1 [.rn st cells ix, .sh (.int xs.length)] = _ := h
  have ha : L2.atI xs v = some xs[v.toNat] := by
    unfold L2.atI L2.ixN
    rw [if_pos h1, if_pos h2, Option.bind_some, List.getElem?_eq_getElem hv]
  rw [run_pick]
  rcases hs with rfl | rfl
  · simp [fin, b11, evSs, evS, ev, evOs, oOf, known, resolve, peekT, frz, biT, bLen, bIx, R.bind, R.of, handed, back, hc, ha]
  · simp [fin, b11, evSs, evS, ev, evOs, oOf, known, resolve, peekT, frz, biT, bLen, bIx, R.bind, R.of, handed, back, hc, ha]
/-! ### refusals -/
def refF (s t : T) : Option T := match callD tb 38 12 [.sh s, .sh t] with
  | some (.ok r, _) => frz r
  | _ => none
def odds : List T := [.str ⟨#[]⟩, .str ⟨#[91]⟩, .str ⟨#[93, 91]⟩, .str ⟨#[91, 91, 93]⟩, .non, .int 5, .lst [.str ⟨#[91]⟩, .str ⟨#[93]⟩], .tup [.str ⟨#[91]⟩, .str ⟨#[41]⟩], .str ⟨#[123, 125]⟩, .bl true]
theorem ref_odd : ∀ t ∈ odds, callD tb 39 12 [.sh t, .sh (.str ⟨#[91, 93]⟩)] = some (.ok (.ow (.lst [.bl true, .str ⟨#[99, 97, 115, 116]⟩])), [.sh t, .sh (.str ⟨#[91, 93]⟩)]) ∧
    callD tb 39 12 [.sh (.str ⟨#[91, 93]⟩), .sh t] = some (.ok (.ow (.lst [.str ⟨#[99, 97, 115, 116]⟩])), [.sh (.str ⟨#[91, 93]⟩), .sh t]) := by
  intro t ht
  unfold odds at ht
  simp only [List.mem_cons, List.not_mem_nil, or_false] at ht
  rcases ht with rfl | rfl | rfl | rfl | rfl | rfl | rfl | rfl | rfl | rfl <;> exact ⟨by kernel_rfl, by kernel_rfl⟩
theorem ref_fine : callD tb 39 12 [.sh (.str ⟨#[91, 41]⟩), .sh (.str ⟨#[40, 41]⟩)] = some (.ok (.ow (.lst [])), [.sh (.str ⟨#[91, 41]⟩), .sh (.str ⟨#[40, 41]⟩)]) := by kernel_rfl
/-! ### the law's body -/
def ch (b : Bool) (x y : Nat) : Str := ⟨#[if b then x else y]⟩
theorem ix0 (o c : Bool) : bIx [.str (mean o c), .int 0] = some (.sh (.str (ch o 40 91))) := by cases o <;> cases c <;> kernel_rfl
theorem ix1 (o c : Bool) : bIx [.str (mean o c), .int 1] = some (.sh (.str (ch c 41 93))) := by cases o <;> cases c <;> kernel_rfl
theorem eq_open (o : Bool) : eqD (.str (ch o 40 91)) (.str ⟨#[40]⟩) = some o := by cases o <;> kernel_rfl
theorem eq_clos (c : Bool) : eqD (.str (ch c 41 93)) (.str ⟨#[93]⟩) = some (!c) := by cases c <;> kernel_rfl
theorem eq_ch0 (o o2 : Bool) : eqD (.str (ch o 40 91)) (.str (ch o2 40 91)) = some (o == o2) := by cases o <;> cases o2 <;> kernel_rfl
theorem eq_ch1 (o o2 : Bool) : eqD (.str (ch o 41 93)) (.str (ch o2 41 93)) = some (o == o2) := by cases o <;> cases o2 <;> kernel_rfl
theorem eq_non : eqD .non .non = some true := by kernel_rfl
theorem eq_pair (a b c d : Int) : eqD (.tup [.int a, .int b]) (.tup [.int c, .int d]) = some (decide (a = c ∧ b = d)) := by
  have h : eqD (.tup [.int a, .int b]) (.tup [.int c, .int d]) = some (PyData.eqv (.tuple [.int a, .int b]) (.tuple [.int c, .int d])) := by kernel_rfl
  rw [h]
  congr 1
  by_cases h1 : a = c
  · by_cases h2 : b = d
    · subst h1; subst h2
      simp [PyData.eqv, PyData.eqvAll]
    · simp [PyData.eqv, PyData.eqvAll, h2]
  · simp [PyData.eqv, PyData.eqvAll, h1]
theorem eq_numF (o c : Bool) (a b : Int) : eqD (numF o c a b) (numF o c a b) = some true := by
  unfold numF
  split
  · exact eq_non
  · rw [eq_pair]; simp
theorem alike_num (n : Nat) (o c : Bool) (a b : Int) : callD tb (n + 2) 10 [.sh (numF o c a b), .sh (numF o c a b)] = some (.ok (.sh (.bl true)), [.sh (numF o c a b), .sh (numF o c a b)]) := by
  unfold numF
  split
  · exact alike_non (n + 1)
  · exact alike_pair n _ _
theorem eq_rng (lo : Int) (n : Nat) (h : n ≤ 8) : eqD (.lst (rangeT lo n)) (.lst []) = some (decide (n = 0)) := by
  match n, h with
  | 0, _ => kernel_rfl
  | 1, _ => kernel_rfl
  | 2, _ => kernel_rfl
  | 3, _ => kernel_rfl
  | 4, _ => kernel_rfl
  | 5, _ => kernel_rfl
  | 6, _ => kernel_rfl
  | 7, _ => kernel_rfl
  | 8, _ => kernel_rfl
theorem rng_first (lo : Int) (n : Nat) (h : 0 < n) : L2.atI (rangeT lo n) 0 = some (.int lo) := by
  unfold L2.atI L2.ixN
  rw [range_len, if_pos (by omega), if_pos (by omega), Option.bind_some, range_get (by omega)]
  simp
theorem rng_last (lo : Int) (n : Nat) (h : 0 < n) : L2.atI (rangeT lo n) (-1) = some (.int (lo + n - 1)) := by
  unfold L2.atI L2.ixN
  rw [range_len, if_neg (by omega), if_pos (by omega), Option.bind_some, range_get (by omega)]
  congr 2
  omega
def body : List S := match b13 with | _ :: .for _ _ _ b :: _ => b | _ => []
abbrev CL : Cfg := tb.cfg 39 1
def every : List T := [.str ⟨#[91, 93]⟩, .str ⟨#[91, 41]⟩, .str ⟨#[40, 93]⟩, .str ⟨#[40, 41]⟩]
theorem every_mean {i : Nat} {t : T} (h : every[i]? = some t) : ∃ o c, t = .str (mean o c) := by
  match i, h with
  | 0, h => cases h; exact ⟨false, false, rfl⟩
  | 1, h => cases h; exact ⟨false, true, rfl⟩
  | 2, h => cases h; exact ⟨true, false, rfl⟩
  | 3, h => cases h; exact ⟨true, true, rfl⟩
  | n + 4, h => simp [every] at h
/-- the slots in the loop -/
def env (ns : List Int) (st : Int) (cells : List Int) (ix : Int) (w : List Sl) : Env := [.scr ns, .rn st cells ix, .ow (.lst every)] ++ w
theorem st1 {ns : List Int} {st : Int} {cells : List Int} {ix : Int} (h3 : 0 ≤ ix) (h4 : cells.length ≤ 63) (w3 w4 w5 w6 w7 w8 w9 w10 w11 : Sl) : ∃ (left st' : Int) (cells' : List Int) (ix' : Int), 0 ≤ ix' ∧ cells'.length ≤ 63 ∧
    evS CL (body.getD 0 .pass) [.scr ns, .rn st cells ix, .ow (.lst every), w3, w4, w5, w6, w7, w8, w9, w10, w11] = .ok .nx [.scr ns, .rn st' cells' ix', .ow (.lst every), w3, .sh (.int left), w5, w6, w7, w8, w9, w10, w11] := by
  obtain ⟨v1, s1, c1, i1, e1, a1, b1, p1, q1⟩ := next_ex (st := st) (cells := cells) (ix := ix) (cap := 41) (by decide) (by decide) h3 h4
  obtain ⟨v2, s2, c2, i2, e2, a2, b2, p2, q2⟩ := next_ex (st := s1) (cells := c1) (ix := i1) (cap := 3) (by decide) (by decide) p1 q1
  have k1 : CL.call 1 [.rn st cells ix, .sh (.int 41)] = _ := e1
  have k2 : CL.call 1 [.rn s1 c1 i1, .sh (.int 3)] = _ := e2
  obtain ⟨k, hk⟩ : ∃ k : Int, L2.atI [T.int 1, T.int 1, T.int (10 ^ 30)] v2 = some (.int k) := by
    have : v2 = 0 ∨ v2 = 1 ∨ v2 = 2 := by omega
    rcases this with rfl | rfl | rfl
    · exact ⟨1, by kernel_rfl⟩
    · exact ⟨1, by kernel_rfl⟩
    · exact ⟨10 ^ 30, by kernel_rfl⟩
  have hm : ((-(2 ^ 64) < v1 - 20 ∧ v1 - 20 < 2 ^ 64) ∨ (-(2 ^ 64) < k ∧ k < 2 ^ 64)) := .inl ⟨by omega, by omega⟩
  have hp : bInt2C (fun i j => decide (0 ≤ j ∧ j ≤ 1000 ∧ i.natAbs < 2 ^ 64)) (fun i j => .int (i ^ j.toNat)) [.int 10, .int 30] = some (.sh (.int (10 ^ 30))) := by kernel_rfl
  have hl : bMkL [.int 1, .int 1, .int (10 ^ 30)] = some (.ow (.lst [.int 1, .int 1, .int (10 ^ 30)])) := by kernel_rfl
  have np : CL.np = 1 := rfl
  refine ⟨(v1 - 20) * k, s2, c2, i2, p2, q2, ?_⟩
  have hm' : bInt2C (fun i j => decide ((-(2 ^ 64) < i ∧ i < 2 ^ 64) ∨ (-(2 ^ 64) < j ∧ j < 2 ^ 64))) (fun i j => .int (i * j)) [.int (v1 - 20), .int k] = some (.sh (.int ((v1 - 20) * k))) := by
    show (if decide _ = true then _ else _) = _
    rw [if_pos (decide_eq_true hm)]
  simp only [body, b13, List.getD_cons_zero, evS, ev, evOs, oOf, known, List.getElem?_cons_succ, List.getElem?_cons_zero, if_true, R.bind, R.of, handed, resolve, peekT, frz, k1, k2, back, Option.bind, Option.map, biT, bInt2, bIx, hp, hl, hk, hm', asgT, setS, np, List.set, List.length]
  simp [List.getElem?_cons_succ, handed, k1, k2, hk, R.of, R.bind, resolve, bIx, back, hm', asgT, setS, np, frz, biT, bInt2, hl, hp, peekT]
theorem st2 {ns : List Int} {st : Int} {cells : List Int} {ix : Int} (h3 : 0 ≤ ix) (h4 : cells.length ≤ 63) (left : Int) (w3 w5 w6 w7 w8 w9 w10 w11 : Sl) : ∃ (d : Int) (o c o2 c2 : Bool) (st' : Int) (cells' : List Int) (ix' : Int), 0 ≤ d ∧ d < 9 ∧ 0 ≤ ix' ∧ cells'.length ≤ 63 ∧
    evS CL (body.getD 1 .pass) [.scr ns, .rn st cells ix, .ow (.lst every), w3, .sh (.int left), w5, w6, w7, w8, w9, w10, w11] = .ok .nx [.scr ns, .rn st' cells' ix', .ow (.lst every), w3, .sh (.int left), pT left (left + d - 3), mT o c, mT o2 c2, w8, w9, w10, w11] := by
  obtain ⟨v1, s1, c1, i1, e1, a1, b1, p1, q1⟩ := next_ex (st := st) (cells := cells) (ix := ix) (cap := 9) (by decide) (by decide) h3 h4
  obtain ⟨v2, s2, c2, i2, e2, a2, b2, p2, q2⟩ := next_ex (st := s1) (cells := c1) (ix := i1) (cap := 4) (by decide) (by decide) p1 q1
  obtain ⟨v3, s3, c3, i3, e3, a3, b3, p3, q3⟩ := next_ex (st := s2) (cells := c2) (ix := i2) (cap := 4) (by decide) (by decide) p2 q2
  obtain ⟨t2, g2, k2⟩ := pick_eq 37 (s := .ow (.lst every)) (xs := every) (.inl rfl) e2 a2 b2
  obtain ⟨t3, g3, k3⟩ := pick_eq 37 (s := .ow (.lst every)) (xs := every) (.inl rfl) e3 a3 b3
  obtain ⟨o, c, rfl⟩ := every_mean g2
  obtain ⟨o2, c2', rfl⟩ := every_mean g3
  have k1 : CL.call 1 [.rn st cells ix, .sh (.int 9)] = _ := e1
  have k2' : CL.call 11 [.rn s1 c1 i1, .ow (.lst every)] = _ := k2
  have k3' : CL.call 11 [.rn s2 c2 i2, .ow (.lst every)] = _ := k3
  have np : CL.np = 1 := rfl
  have hT : bMkT [.int left, .int (left + v1 - 3)] = some (.sh (.tup [.int left, .int (left + v1 - 3)])) := by kernel_rfl
  refine ⟨v1, o, c, o2, c2', s3, c3, i3, a1, b1, p3, q3, ?_⟩
  simp [body, b13, evS, evPs, ev, evOs, oOf, known, R.bind, R.of, handed, resolve, peekT, frz, k1, k2', k3', back, biT, bAdd, bInt2, hT, parS, setS, np]
/-- the left end, inside or not -/
theorem st3 {ns : List Int} {r : Sl} (a b : Int) (hab : b - a ≤ 6) (o c : Bool) (w3 w4 w7 w8 w9 w10 w11 : Sl) :
    evS CL (body.getD 2 .pass) [.scr ns, r, .ow (.lst every), w3, w4, pT a b, mT o c, w7, w8, w9, w10, w11] =
      .ok .nx [.scr ns, r, .ow (.lst every), w3, w4, pT a b, mT o c, w7, .ow (.lst (rangeT (a + one o) (b + one (!c) - (a + one o)).toNat)), w9, w10, w11] := by
  have np : CL.np = 1 := rfl
  have i0 : L2.atI [T.int a, T.int b] 0 = some (.int a) := by kernel_rfl
  have i1 : L2.atI [T.int a, T.int b] 1 = some (.int b) := by kernel_rfl
  have hz : (b + one (!c) - (a + one o)).toNat ≤ 1000000 := by
    cases o <;> cases c <;> simp [one] <;> omega
  have hr : bRange [.int (a + one o), .int (b + one (!c))] = some (.ow (.lst (rangeT (a + one o) (b + one (!c) - (a + one o)).toNat))) := if_pos hz
  have x0 : bIx [T.tup [.int a, .int b], .int 0] = some (.sh (.int a)) := by show (L2.atI [T.int a, T.int b] 0).map Sl.sh = _; rw [i0]; rfl
  have x1 : bIx [T.tup [.int a, .int b], .int 1] = some (.sh (.int b)) := by show (L2.atI [T.int a, T.int b] 1).map Sl.sh = _; rw [i1]; rfl
  have y0 : ∀ x : Bool, bInt [.bl x] = some (.sh (.int (one x))) := fun x => rfl
  have z0 : ∀ x y : Int, bAdd [.int x, .int y] = some (.sh (.int (x + y))) := fun _ _ => rfl
  have q0 : bEq false [.str (ch o 40 91), .str ⟨#[40]⟩] = some (.sh (.bl o)) := by show (eqD _ _).map _ = _; rw [eq_open]; rfl
  have q1 : bEq false [.str (ch c 41 93), .str ⟨#[93]⟩] = some (.sh (.bl (!c))) := by show (eqD _ _).map _ = _; rw [eq_clos]; rfl
  simp [body, b13, evS, ev, evOs, oOf, known, R.bind, R.of, resolve, peekT, frz, biT, ix0, ix1, x0, x1, y0, z0, q0, q1, hr, asgT, setS, np]
theorem st4 {ns : List Int} {r : Sl} (a b : Int) (hab : b - a ≤ 6) (o c : Bool) (w3 w4 w5 w6 w7 w9 w10 w11 : Sl) :
    evS CL (body.getD 3 .pass) [.scr ns, r, .ow (.lst every), w3, w4, w5, w6, w7, .ow (.lst (rangeT (a + one o) (b + one (!c) - (a + one o)).toNat)), w9, w10, w11] =
      .ok .nx [.scr ns, r, .ow (.lst every), w3, w4, w5, w6, w7, .ow (.lst (rangeT (a + one o) (b + one (!c) - (a + one o)).toNat)), .sh (numF o c a b), w10, w11] := by
  have np : CL.np = 1 := rfl
  have hn : (b + one (!c) - (a + one o)).toNat ≤ 8 := by cases o <;> cases c <;> simp [one] <;> omega
  have e0 := eq_rng (a + one o) _ hn
  have l0 : bMkL [] = some (.ow (.lst [])) := by kernel_rfl
  by_cases k : b - one c < a + one o
  · have z : (b + one (!c) - (a + one o)).toNat = 0 := by revert k; cases o <;> cases c <;> simp [one] <;> omega
    have ne : bEq true [.lst (rangeT (a + one o) (b + one (!c) - (a + one o)).toNat), .lst []] = some (.sh (.bl false)) := by show (eqD _ _).map _ = _; rw [e0, z]; rfl
    have eN : numF o c a b = .non := if_pos k
    rw [eN]
    simp [body, b13, evS, ev, evOs, oOf, known, R.bind, R.of, resolve, peekT, frz, biT, l0, ne, asB, asgT, setS, np]
  · have z : 0 < (b + one (!c) - (a + one o)).toNat := by revert k; cases o <;> cases c <;> simp [one] <;> omega
    have ne : bEq true [.lst (rangeT (a + one o) (b + one (!c) - (a + one o)).toNat), .lst []] = some (.sh (.bl true)) := by
      show (eqD _ _).map _ = _
      rw [e0, decide_eq_false (by omega)]; rfl
    have eN : numF o c a b = .tup [.int (a + one o), .int (b - one c)] := if_neg k
    have x0 : bIx [.lst (rangeT (a + one o) (b + one (!c) - (a + one o)).toNat), .int 0] = some (.sh (.int (a + one o))) := by
      show (L2.atI _ _).map Sl.sh = _
      rw [rng_first _ _ z]; rfl
    have x1 : bIx [.lst (rangeT (a + one o) (b + one (!c) - (a + one o)).toNat), .int (-1)] = some (.sh (.int (b - one c))) := by
      show (L2.atI _ _).map Sl.sh = _
      rw [rng_last _ _ z]
      have : a + one o + ((b + one (!c) - (a + one o)).toNat : Int) - 1 = b - one c := by revert z; cases o <;> cases c <;> simp [one] <;> omega
      rw [this]; rfl
    have y0 : bInt1 (fun i => .int (-i)) [.int 1] = some (.sh (.int (-1))) := by kernel_rfl
    have t0 : bMkT [.int (a + one o), .int (b - one c)] = some (.sh (.tup [.int (a + one o), .int (b - one c)])) := by kernel_rfl
    rw [eN]
    simp [body, b13, evS, ev, evOs, oOf, known, R.bind, R.of, resolve, peekT, frz, biT, l0, ne, x0, x1, y0, t0, asB, asgT, setS, np]
theorem st5 {ns : List Int} {r : Sl} (a b : Int) (o c : Bool) (w3 w4 w7 w8 w10 w11 : Sl) :
    evS CL (body.getD 4 .pass) [.scr ns, r, .ow (.lst every), w3, w4, pT a b, mT o c, w7, w8, .sh (numF o c a b), w10, w11] = .ok .nx [.scr ns, r, .ow (.lst every), w3, w4, pT a b, mT o c, w7, w8, .sh (numF o c a b), w10, w11] := by
  have k7 : CL.call 7 [mT o c, pT a b] = _ := num_eq 35 o c a b
  have k10 : CL.call 10 [.sh (numF o c a b), .sh (numF o c a b)] = _ := alike_num 37 o c a b
  simp [body, b13, evS, evSs, ev, evOs, oOf, known, R.bind, R.of, handed, resolve, peekT, frz, k7, k10, back, asB]
theorem st6 {ns : List Int} {r : Sl} (a b : Int) (o c o2 c2 : Bool) (w3 w4 w8 w9 w10 w11 : Sl) :
    evS CL (body.getD 5 .pass) [.scr ns, r, .ow (.lst every), w3, w4, pT a b, mT o c, mT o2 c2, w8, w9, w10, w11] = .ok .nx [.scr ns, r, .ow (.lst every), w3, w4, pT a b, mT o c, mT o2 c2, w8, w9, pT (a + one o - one o2) (b - one c + one c2), w11] := by
  have k9 : CL.call 9 [mT o c, mT o2 c2, pT a b] = _ := cast_eq 36 o c o2 c2 a b
  have np : CL.np = 1 := rfl
  simp [body, b13, evS, evSs, ev, evOs, oOf, known, R.bind, R.of, handed, resolve, peekT, frz, k9, back, asgT, setS, np]
theorem num_same (o c o2 c2 : Bool) (a b : Int) : numF o2 c2 (a + one o - one o2) (b - one c + one c2) = numF o c a b := by
  unfold numF
  have h1 : a + one o - one o2 + one o2 = a + one o := by omega
  have h2 : b - one c + one c2 - one c2 = b - one c := by omega
  rw [h1, h2]
theorem st7 {ns : List Int} {r : Sl} (a b : Int) (o c o2 c2 : Bool) (w3 w4 w5 w6 w8 w11 : Sl) :
    evS CL (body.getD 6 .pass) [.scr ns, r, .ow (.lst every), w3, w4, w5, w6, mT o2 c2, w8, .sh (numF o c a b), pT (a + one o - one o2) (b - one c + one c2), w11] = .ok .nx [.scr ns, r, .ow (.lst every), w3, w4, w5, w6, mT o2 c2, w8, .sh (numF o c a b), pT (a + one o - one o2) (b - one c + one c2), w11] := by
  have k7 : CL.call 7 [mT o2 c2, pT (a + one o - one o2) (b - one c + one c2)] = _ := num_eq 35 o2 c2 _ _
  rw [num_same] at k7
  have ne : bEq true [numF o c a b, numF o c a b] = some (.sh (.bl false)) := by show (eqD _ _).map _ = _; rw [eq_numF]; rfl
  have n2 : bEq true [.int 2, .int 2] = some (.sh (.bl false)) := by kernel_rfl
  simp [body, b13, evS, evSs, ev, evOs, oOf, known, R.bind, R.of, handed, resolve, peekT, frz, biT, bIsi, isiOk, isTy, bLen, k7, n2, ne, back, asB]
theorem abs_one (o o2 : Bool) (a : Int) : (if a + one o - one o2 - a < 0 then -(a + one o - one o2 - a) else a + one o - one o2 - a) = one (!(o == o2)) := by
  cases o <;> cases o2 <;> simp [one] <;> omega
theorem abs_one' (o o2 : Bool) (a : Int) : (if a - one o + one o2 - a < 0 then -(a - one o + one o2 - a) else a - one o + one o2 - a) = one (!(o == o2)) := by
  cases o <;> cases o2 <;> simp [one] <;> omega
theorem at0 (a b : Int) : bIx [T.tup [.int a, .int b], .int 0] = some (.sh (.int a)) := by kernel_rfl
theorem at1 (a b : Int) : bIx [T.tup [.int a, .int b], .int 1] = some (.sh (.int b)) := by kernel_rfl
theorem bint_bl (x : Bool) : bInt [.bl x] = some (.sh (.int (one x))) := rfl
theorem ne_int (x : Int) : bEq true [.int x, .int x] = some (.sh (.bl false)) := by
  have h : eqD (.int x) (.int x) = some true := by rw [eqD_int]; simp
  simp [bEq, h]
theorem ne_pair (a b : Int) : bEq true [.tup [.int a, .int b], .tup [.int a, .int b]] = some (.sh (.bl false)) := by
  have h : eqD (.tup [.int a, .int b]) (.tup [.int a, .int b]) = some true := by rw [eq_pair]; simp
  simp [bEq, h]
theorem st8 {ns : List Int} {r : Sl} (a b : Int) (o c o2 c2 : Bool) (w3 w4 w8 w9 w11 : Sl) :
    evS CL (body.getD 7 .pass) [.scr ns, r, .ow (.lst every), w3, w4, pT a b, mT o c, mT o2 c2, w8, w9, pT (a + one o - one o2) (b - one c + one c2), w11] = .ok .nx [.scr ns, r, .ow (.lst every), w3, w4, pT a b, mT o c, mT o2 c2, w8, w9, pT (a + one o - one o2) (b - one c + one c2), w11] := by
  have k9 : CL.call 9 [mT o2 c2, mT o c, pT (a + one o - one o2) (b - one c + one c2)] = some (.ok (pT a b), [mT o2 c2, mT o c, pT (a + one o - one o2) (b - one c + one c2)]) := by
    have h : CL.call 9 [mT o2 c2, mT o c, pT (a + one o - one o2) (b - one c + one c2)] = _ := cast_eq 36 o2 c2 o c _ _
    rw [h]
    have h1 : a + one o - one o2 + one o2 - one o = a := by omega
    have h2 : b - one c + one c2 - one c2 + one c = b := by omega
    rw [h1, h2]
  have q0 : bEq true [.str (ch o 40 91), .str (ch o2 40 91)] = some (.sh (.bl (!(o == o2)))) := by show (eqD _ _).map _ = _; rw [eq_ch0]; rfl
  have q1 := ne_int
  have q2 := ne_pair a b
  have y0 : bInt1 (fun i => .int (if i < 0 then -i else i)) [.int (a + one o - one o2 - a)] = some (.sh (.int (one (!(o == o2))))) := by
    show some (Sl.sh (T.int _)) = _
    rw [abs_one]
  simp only [body, b13, List.getD_cons_succ, List.getD_cons_zero, evS, evSs, ev, evOs, oOf, known, List.getElem?_cons_succ, List.getElem?_cons_zero, if_true, R.bind, R.of, handed, resolve, peekT, frz, Option.bind, Option.map, biT, at0, bInt2, y0, ix0, q0, bint_bl, q1, asB]
  simp [handed, resolve, peekT, frz, biT, k9, back, R.of, R.bind, q2, asB, at0, bInt2, y0, ix0, q0, bint_bl, q1]
theorem st9 {ns : List Int} {r : Sl} (a b : Int) (o c o2 c2 : Bool) (w3 w4 w8 w9 w11 : Sl) :
    evS CL (body.getD 8 .pass) [.scr ns, r, .ow (.lst every), w3, w4, pT a b, mT o c, mT o2 c2, w8, w9, pT (a + one o - one o2) (b - one c + one c2), w11] = .ok .nx [.scr ns, r, .ow (.lst every), w3, w4, pT a b, mT o c, mT o2 c2, w8, w9, pT (a + one o - one o2) (b - one c + one c2), w11] := by
  have k9 : CL.call 9 [mT o c, mT o c, pT a b] = some (.ok (pT a b), [mT o c, mT o c, pT a b]) := by
    have h : CL.call 9 [mT o c, mT o c, pT a b] = _ := cast_eq 36 o c o c _ _
    rw [h]
    have h1 : a + one o - one o = a := by omega
    have h2 : b - one c + one c = b := by omega
    rw [h1, h2]
  have q0 : bEq true [.str (ch c 41 93), .str (ch c2 41 93)] = some (.sh (.bl (!(c == c2)))) := by show (eqD _ _).map _ = _; rw [eq_ch1]; rfl
  have q1 := ne_int
  have q2 := ne_pair a b
  have y0 : bInt1 (fun i => .int (if i < 0 then -i else i)) [.int (b - one c + one c2 - b)] = some (.sh (.int (one (!(c == c2))))) := by
    show some (Sl.sh (T.int _)) = _
    rw [abs_one']
  simp only [body, b13, List.getD_cons_succ, List.getD_cons_zero, evS, evSs, ev, evOs, oOf, known, List.getElem?_cons_succ, List.getElem?_cons_zero, if_true, R.bind, R.of, handed, resolve, peekT, frz, Option.bind, Option.map, biT, at1, bInt2, y0, ix1, q0, bint_bl, q1, asB]
  simp [handed, resolve, peekT, frz, biT, k9, back, R.of, R.bind, q2, asB, at1, bInt2, y0, ix1, q0, bint_bl, q1]
/-! ### a turn, all turns -/
def Inv1 (ns : List Int) (ρ : Env) : Prop := ∃ (st : Int) (cells : List Int) (ix : Int) (w3 w4 w5 w6 w7 w8 w9 w10 : Sl), 0 ≤ ix ∧ cells.length ≤ 63 ∧ ρ = [.scr ns, .rn st cells ix, .ow (.lst every), w3, w4, w5, w6, w7, w8, w9, w10, .un]
theorem evSs_nx {C : Cfg} {s : S} {ss : List S} {ρ ρ1 : Env} (h : evS C s ρ = .ok .nx ρ1) : evSs C (s :: ss) ρ = evSs C ss ρ1 := by
  simp only [evSs, h, R.bind_ok]
theorem body_eq : body = [body.getD 0 .pass, body.getD 1 .pass, body.getD 2 .pass, body.getD 3 .pass, body.getD 4 .pass, body.getD 5 .pass, body.getD 6 .pass, body.getD 7 .pass, body.getD 8 .pass] := rfl
theorem turn1 {ns : List Int} {ρ : Env} (h : Inv1 ns ρ) : ∃ ρ', evSs CL body ρ = .ok .nx ρ' ∧ Inv1 ns ρ' := by
  obtain ⟨st, cells, ix, w3, w4, w5, w6, w7, w8, w9, w10, h3, h4, rfl⟩ := h
  obtain ⟨left, s1, c1, i1, p1, q1, e1⟩ := st1 (ns := ns) (st := st) h3 h4 w3 w4 w5 w6 w7 w8 w9 w10 .un
  obtain ⟨d, o, c, o2, c2, s2, cc2, i2, d0, d1, p2, q2, e2⟩ := st2 (ns := ns) (st := s1) p1 q1 left w3 w5 w6 w7 w8 w9 w10 .un
  refine ⟨[.scr ns, .rn s2 cc2 i2, .ow (.lst every), w3, .sh (.int left), pT left (left + d - 3), mT o c, mT o2 c2, .ow (.lst (rangeT (left + one o) (left + d - 3 + one (!c) - (left + one o)).toNat)), .sh (numF o c left (left + d - 3)), pT (left + one o - one o2) (left + d - 3 - one c + one c2), .un], ?_, s2, cc2, i2, w3, _, _, _, _, _, _, _, p2, q2, rfl⟩
  rw [body_eq, evSs_nx e1, evSs_nx e2, evSs_nx (st3 _ _ (by omega) _ _ _ _ _ _ _ _ _), evSs_nx (st4 _ _ (by omega) _ _ _ _ _ _ _ _ _ _), evSs_nx (st5 _ _ _ _ _ _ _ _ _ _), evSs_nx (st6 _ _ _ _ _ _ _ _ _ _ _ _),
    evSs_nx (st7 _ _ _ _ _ _ _ _ _ _ _ _), evSs_nx (st8 _ _ _ _ _ _ _ _ _ _ _), evSs_nx (st9 _ _ _ _ _ _ _ _ _ _ _)]
  simp only [evSs]
theorem turns {ns : List Int} : ∀ (ts : List T) (ρ : Env), Inv1 ns ρ → ∃ ρ', forL (fun t ρ => asgT CL (.v 3) (.sh t) ρ) (fun ρ => evSs CL body ρ) ts ρ = .ok .nx ρ' ∧ Inv1 ns ρ'
  | [], ρ, h => ⟨ρ, rfl, h⟩
  | t :: ts, ρ, h => by
    obtain ⟨st, cells, ix, w3, w4, w5, w6, w7, w8, w9, w10, h3, h4, rfl⟩ := h
    obtain ⟨ρ1, e1, i1⟩ := turn1 (ns := ns) (ρ := [.scr ns, .rn st cells ix, .ow (.lst every), .sh t, w4, w5, w6, w7, w8, w9, w10, .un]) ⟨st, cells, ix, .sh t, w4, w5, w6, w7, w8, w9, w10, h3, h4, rfl⟩
    obtain ⟨ρ2, e2, i2⟩ := turns ts ρ1 i1
    refine ⟨ρ2, ?_, i2⟩
    have ea : asgT CL (.v 3) (.sh t) [.scr ns, .rn st cells ix, .ow (.lst every), w3, w4, w5, w6, w7, w8, w9, w10, .un] = .ok () [.scr ns, .rn st cells ix, .ow (.lst every), .sh t, w4, w5, w6, w7, w8, w9, w10, .un] := rfl
    simp only [forL, ea, R.bind_ok, e1]
    exact e2
theorem plain : ∀ ns : List Int, ns.length ≤ 63 → ∃ outs, callD tb 40 13 [.scr ns] = some (.ok (.sh (.bl true)), outs) := by
  intro ns hns
  rw [run_law]
  have np : CL.np = 1 := rfl
  have k0 : CL.call 0 [.scr ns, .sh (.int 1)] = some (.ok (.rn (mixF ns 1) ns 0), [.scr ns, .sh (.int 1)]) := if_pos (by omega)
  have l0 : bMkL every = some (.ow (.lst every)) := by kernel_rfl
  have l0' : bMkL [.str ⟨#[91, 93]⟩, .str ⟨#[91, 41]⟩, .str ⟨#[40, 93]⟩, .str ⟨#[40, 41]⟩] = some (.ow (.lst every)) := l0
  have e0 : evS CL (b13.getD 0 .pass) [.scr ns, .un, .un, .un, .un, .un, .un, .un, .un, .un, .un, .un] = .ok .nx [.scr ns, .rn (mixF ns 1) ns 0, .ow (.lst every), .un, .un, .un, .un, .un, .un, .un, .un, .un] := by
    simp [b13, evS, evPs, ev, evOs, oOf, known, R.bind, R.of, handed, resolve, peekT, frz, k0, back, biT, l0', parS, setS, np]
  obtain ⟨ρ1, e1, i1⟩ := turns (ns := ns) (rangeT 0 20) _ ⟨mixF ns 1, ns, 0, .un, .un, .un, .un, .un, .un, .un, .un, by omega, hns, rfl⟩
  have e1' : evS CL (b13.getD 1 .pass) [.scr ns, .rn (mixF ns 1) ns 0, .ow (.lst every), .un, .un, .un, .un, .un, .un, .un, .un, .un] = .ok .nx ρ1 := by
    have hb : b13.getD 1 .pass = .for (.v 3) .range1 [.cst (.int 20)] body := rfl
    have hl : lo63 20 = true := by kernel_rfl
    rw [hb]
    simp only [evS, evOs, oOf, ev, R.bind_ok, frz, R.of_some, resolve, Option.bind, Option.map, itT, hl, if_true, lockAll]
    rw [show Int.toNat 20 = 20 from rfl, e1]
    rfl
  obtain ⟨st, cells, ix, w3, w4, w5, w6, w7, w8, w9, w10, h3, h4, rfl⟩ := i1
  obtain ⟨v, s2, c2, i2, e2, a2, b2, p2, q2⟩ := next_ex (st := st) (cells := cells) (ix := ix) (cap := 10) (by decide) (by decide) h3 h4
  obtain ⟨t, gt, k11⟩ := pick_eq 37 (s := .sh (.lst odds)) (xs := odds) (.inr rfl) e2 a2 b2
  have k11' : CL.call 11 [.rn st cells ix, .sh (.lst odds)] = _ := k11
  have hodd : t ∈ odds := List.mem_of_getElem? gt
  obtain ⟨r1, r2⟩ := ref_odd t hodd
  have k1 : CL.call 12 [.sh t, .sh (.str ⟨#[91, 93]⟩)] = _ := r1
  have k2 : CL.call 12 [.sh (.str ⟨#[91, 93]⟩), .sh t] = _ := r2
  have k3 : CL.call 12 [.sh (.str ⟨#[91, 41]⟩), .sh (.str ⟨#[40, 41]⟩)] = _ := ref_fine
  have e3 : ∃ w, evS CL (b13.getD 2 .pass) [.scr ns, .rn st cells ix, .ow (.lst every), w3, w4, w5, w6, w7, w8, w9, w10, .un] = .ok .nx [.scr ns, w, .ow (.lst every), w3, w4, w5, w6, w7, w8, w9, w10, .sh t] := by
    have m1 : bMkL [.str ⟨#[91]⟩, .str ⟨#[93]⟩] = some (.ow (.lst [.str ⟨#[91]⟩, .str ⟨#[93]⟩])) := by kernel_rfl
    have m2 : bMkT [.str ⟨#[91]⟩, .str ⟨#[41]⟩] = some (.sh (.tup [.str ⟨#[91]⟩, .str ⟨#[41]⟩])) := by kernel_rfl
    have m3 : bMkL [.str ⟨#[]⟩, .str ⟨#[91]⟩, .str ⟨#[93, 91]⟩, .str ⟨#[91, 91, 93]⟩, .non, .int 5, .lst [.str ⟨#[91]⟩, .str ⟨#[93]⟩], .tup [.str ⟨#[91]⟩, .str ⟨#[41]⟩], .str ⟨#[123, 125]⟩, .bl true] = some (.ow (.lst odds)) := by kernel_rfl
    refine ⟨.rn s2 c2 i2, ?_⟩
    simp [b13, evS, ev, evOs, oOf, known, R.bind, R.of, handed, resolve, peekT, frz, biT, m1, m2, m3, k11', back, asgT, setS, np]
  obtain ⟨w, e3⟩ := e3
  have e4 : evS CL (b13.getD 3 .pass) [.scr ns, w, .ow (.lst every), w3, w4, w5, w6, w7, w8, w9, w10, .sh t] = .ok .nx [.scr ns, w, .ow (.lst every), w3, w4, w5, w6, w7, w8, w9, w10, .sh t] := by
    have m1 : bMkL [.bl true, .str ⟨#[99, 97, 115, 116]⟩] = some (.ow (.lst [.bl true, .str ⟨#[99, 97, 115, 116]⟩])) := by kernel_rfl
    have m2 : bMkL [.str ⟨#[99, 97, 115, 116]⟩] = some (.ow (.lst [.str ⟨#[99, 97, 115, 116]⟩])) := by kernel_rfl
    have n1 : bEq true [.lst [.bl true, .str ⟨#[99, 97, 115, 116]⟩], .lst [.bl true, .str ⟨#[99, 97, 115, 116]⟩]] = some (.sh (.bl false)) := by kernel_rfl
    have n2 : bEq true [.lst [.str ⟨#[99, 97, 115, 116]⟩], .lst [.str ⟨#[99, 97, 115, 116]⟩]] = some (.sh (.bl false)) := by kernel_rfl
    simp [b13, evS, evSs, ev, evOs, oOf, known, R.bind, R.of, handed, resolve, peekT, frz, biT, m1, m2, k1, k2, n1, n2, back, asB]
  have e5 : evS CL (b13.getD 4 .pass) [.scr ns, w, .ow (.lst every), w3, w4, w5, w6, w7, w8, w9, w10, .sh t] = .ok (.ret (.sh (.bl true))) [.scr ns, w, .ow (.lst every), w3, w4, w5, w6, w7, w8, w9, w10, .sh t] := by
    have m1 : bMkL [] = some (.ow (.lst [])) := by kernel_rfl
    have n1 : bEq false [.lst [], .lst []] = some (.sh (.bl true)) := by kernel_rfl
    simp [b13, evS, evSs, ev, evOs, oOf, known, R.bind, R.of, handed, resolve, peekT, frz, biT, m1, k3, n1, back, asB]
  have hb : b13 = [b13.getD 0 .pass, b13.getD 1 .pass, b13.getD 2 .pass, b13.getD 3 .pass, b13.getD 4 .pass] := rfl
  refine ⟨[.scr ns], ?_⟩
  rw [hb, evSs_nx e0, evSs_nx e1', evSs_nx e3, evSs_nx e4]
  simp only [evSs, e5, R.bind_ok]
  rfl
end TL

open PySem PySem.W PyProof.Rows
set_option maxRecDepth 100000 in
set_option maxHeartbeats 0 in
theorem PySem.Challenge.cw_endsmeant_k01_meanings_and_casts_holds : PySem.Challenge.rw_endsmeant_k01_meanings_and_casts.Holds := by
  w_on; o_law; k_head; (case hw => w_witness2)
  k_fill
  refine TL.walkL (l := PySem.Challenge.rw_endsmeant_k01_meanings_and_casts) rfl rfl (fun w h Y => kIn_of Y) ?F
  case F =>
    intro w mg fa h KX G hmg
    refine' TL.law_end KX G hmg TL.plain ?a0 ?l0 ?c0 ?k0 ?a1 ?l1 ?c1 ?k1 ?a2 ?l2 ?c2 ?k2 ?a3 ?l3 ?c3 ?k3 ?a4 ?l4 ?c4 ?k4 ?a5 ?l5 ?c5 ?k5 ?a6 ?l6 ?c6 ?k6 ?a7 ?l7 ?c7 ?k7 ?a8 ?l8 ?c8 ?k8 ?a9 ?l9 ?c9 ?k9 ?a10 ?l10 ?c10 ?k10 ?a11 ?l11 ?c11 ?k11 ?a12 ?l12 ?c12 ?k12 ?a13 ?l13 ?c13 ?k13 ?z_len ?z_int ?z_abs ?z_list ?z_tuple ?z_all ?z_max ?z_min ?z_range ?z_isinstance ?z_str ?z_bool ?z_dict ?z_sum ?z_sorted ?z_any ?z_zip ?z_enumerate ?z_super ?sp ?tk ?opq ?gc0 ?e0_1 ?e0_2 ?e0_3 ?e0_4 ?e0_5 ?e0_6 ?e0_7 ?gc1 ?e1_1 ?e1_2 ?e1_3 ?e1_4 ?e1_5 ?e1_6 ?e1_7 ?s0_0 ?s0_1 ?s1_0 ?s1_1 ?x1_l ?x1_b ?x1_sa ?x1_i ?x1_t ?x1_k ?x1_v ?x1_m ?x1_s ?x1_f ?x1_c ?x1_d ?x1_g ?x1_z ?con0_a ?con0_l
    (case a0 => first | k_is | rfl)
    (case l0 => first | k_is | rfl)
    (case c0 => first | k_is | rfl)
    (case k0 => first | k_is | rfl)
    (case a1 => first | k_is | rfl)
    (case l1 => first | k_is | rfl)
    (case c1 => first | k_is | rfl)
    (case k1 => first | k_is | rfl)
    (case a2 => first | k_is | rfl)
    (case l2 => first | k_is | rfl)
    (case c2 => first | k_is | rfl)
    (case k2 => first | k_is | rfl)
    (case a3 => first | k_is | rfl)
    (case l3 => first | k_is | rfl)
    (case c3 => first | k_is | rfl)
    (case k3 => first | k_is | rfl)
    (case a4 => first | k_is | rfl)
    (case l4 => first | k_is | rfl)
    (case c4 => first | k_is | rfl)
    (case k4 => first | k_is | rfl)
    (case a5 => first | k_is | rfl)
    (case l5 => first | k_is | rfl)
    (case c5 => first | k_is | rfl)
    (case k5 => first | k_is | rfl)
    (case a6 => first | k_is | rfl)
    (case l6 => first | k_is | rfl)
    (case c6 => first | k_is | rfl)
    (case k6 => first | k_is | rfl)
    (case a7 => first | k_is | rfl)
    (case l7 => first | k_is | rfl)
    (case c7 => first | k_is | rfl)
    (case k7 => first | k_is | rfl)
    (case a8 => first | k_is | rfl)
    (case l8 => first | k_is | rfl)
    (case c8 => first | k_is | rfl)
    (case k8 => first | k_is | rfl)
    (case a9 => first | k_is | rfl)
    (case l9 => first | k_is | rfl)
    (case c9 => first | k_is | rfl)
    (case k9 => first | k_is | rfl)
    (case a10 => first | k_is | rfl)
    (case l10 => first | k_is | rfl)
    (case c10 => first | k_is | rfl)
    (case k10 => first | k_is | rfl)
    (case a11 => first | k_is | rfl)
    (case l11 => first | k_is | rfl)
    (case c11 => first | k_is | rfl)
    (case k11 => first | k_is | rfl)
    (case a12 => first | k_is | rfl)
    (case l12 => first | k_is | rfl)
    (case c12 => first | k_is | rfl)
    (case k12 => first | k_is | rfl)
    (case a13 => first | k_is | rfl)
    (case l13 => first | k_is | rfl)
    (case c13 => first | k_is | rfl)
    (case k13 => first | k_is | rfl)
    (case z_len => first | k_is | rfl)
    (case z_int => first | k_is | rfl)
    (case z_abs => first | k_is | rfl)
    (case z_list => first | k_is | rfl)
    (case z_tuple => first | k_is | rfl)
    (case z_all => first | k_is | rfl)
    (case z_max => first | k_is | rfl)
    (case z_min => first | k_is | rfl)
    (case z_range => first | k_is | rfl)
    (case z_isinstance => first | k_is | rfl)
    (case z_str => first | k_is | rfl)
    (case z_bool => first | k_is | rfl)
    (case z_dict => first | k_is | rfl)
    (case z_sum => first | k_is | rfl)
    (case z_sorted => first | k_is | rfl)
    (case z_any => first | k_is | rfl)
    (case z_zip => first | k_is | rfl)
    (case z_enumerate => first | k_is | rfl)
    (case z_super => first | k_is | rfl)
    (case sp => first | k_is | rfl)
    (case tk => first | k_is | rfl)
    (case opq => first | k_is | rfl)
    (case gc0 => first | k_is | rfl)
    (case e0_1 => first | k_is | rfl)
    (case e0_2 => first | k_is | rfl)
    (case e0_3 => first | k_is | rfl)
    (case e0_4 => first | k_is | rfl)
    (case e0_5 => first | k_is | rfl)
    (case e0_6 => first | k_is | rfl)
    (case e0_7 => first | k_is | rfl)
    (case gc1 => first | k_is | rfl)
    (case e1_1 => first | k_is | rfl)
    (case e1_2 => first | k_is | rfl)
    (case e1_3 => first | k_is | rfl)
    (case e1_4 => first | k_is | rfl)
    (case e1_5 => first | k_is | rfl)
    (case e1_6 => first | k_is | rfl)
    (case e1_7 => first | k_is | rfl)
    (case s0_0 => first | k_is | rfl)
    (case s0_1 => first | k_is | rfl)
    (case s1_0 => first | k_is | rfl)
    (case s1_1 => first | k_is | rfl)
    (case x1_l => first | k_is | rfl)
    (case x1_b => decide +kernel)
    (case x1_sa => first | k_is | rfl)
    (case x1_i => first | k_is | rfl)
    (case x1_t => first | k_is | rfl)
    (case x1_k => first | k_is | rfl)
    (case x1_v => first | k_is | rfl)
    (case x1_m => first | k_is | rfl)
    (case x1_s => ks_is)
    (case x1_f => first | k_is | rfl)
    (case x1_c => first | k_is | rfl)
    (case x1_d => first | k_is | rfl)
    (case x1_g => exact ⟨_, _, rfl, by decide +kernel⟩)
    (case x1_z => first | k_is | rfl)
    (case con0_a => first | k_is | rfl)
    (case con0_l => first | k_is | rfl)
#print axioms PySem.Challenge.cw_endsmeant_k01_meanings_and_casts_holds
