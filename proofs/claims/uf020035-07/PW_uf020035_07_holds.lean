import PyProof.Rows.All
import PySem.Value
import PyProof.P3Statements
import PyProof.StationsW
import PyProof.Cells
import PyProof.Rows.Frame
import PyProof.TupleKey
import PyProof.DictKinds
import PyProof.Rows.News
import OpenK.KWalk
import KE.KIntText
import PyProof.CallStr
import PyProof.IsiPairs
import PyProof.IsiNone
import PyProof.IsiH_list
import PyProof.IsiH_tuple
import PyProof.IsiH_dict
import PyProof.StrCalls2
import PyProof.StrLawsTight
import PyProof.StrLawsChain
import PyProof.StrLawsIn
import PyProof.Rows.CellsKey
import KE.KTurns
import PyProof.Logic
import PyProof.Heap
import PyProof.StrWalks
import PyProof.WalksMore
import PyProof.RangeFor
import PyProof.Draws
import PyProof.ZipIter
import PyProof.CompFree
import PyProof.Rows.Top
import Wide.All
import OpenK.AllK
import Wide.FinOn
import PySem.Challenge.RW_uf020035_07
set_option Elab.async false
set_option linter.all false
set_option linter.unusedSimpArgs false
set_option linter.unusedVariables false
set_option linter.unusedSectionVars false
set_option genSizeOf false
/-! part MInterp -/
/-! A small pure interpreter for the subset of Python that the laws use. -/
namespace Mine
open PySem

/-- values -/
inductive D where
  | none | bool (b : Bool) | int (i : Int) | str (s : List Nat) | tup (ds : List D) | ref (n : Nat) | exc (c : Nat)

/-- objects of the store -/
inductive AObj where
  | list (ds : List D)
  | froz (ds : List D)
  | dict (es : List (D × D))
  | fdict (es : List (D × D))
  | inst (c : Nat) (k : Nat)
  | flds (fs : List (Nat × D))

noncomputable abbrev Sto := List AObj

inductive Res (α : Type) where
  | ok (a : α) (σ : Sto)
  | exc (c : Nat) (own : Bool) (σ : Sto)
  | stuck

noncomputable def Res.bind {α β : Type} (r : Res α) (f : α → Sto → Res β) : Res β :=
  match r with
  | .ok a σ => f a σ
  | .exc c o σ => .exc c o σ
  | .stuck => .stuck
@[simp] theorem Res.bind_ok {α β : Type} (a : α) (σ : Sto) (f : α → Sto → Res β) : (Res.ok a σ).bind f = f a σ := rfl
@[simp] theorem Res.bind_exc {α β : Type} (c : Nat) (o : Bool) (σ : Sto) (f : α → Sto → Res β) : (Res.exc c o σ).bind f = .exc c o σ := rfl
@[simp] theorem Res.bind_stuck {α β : Type} (f : α → Sto → Res β) : (Res.stuck).bind f = .stuck := rfl

inductive Bop where | add | sub | mul | fdiv | mod | pow
  deriving DecidableEq
inductive Cop where | eq | ne | lt | le | gt | ge | is | isnot | mem | nmem
  deriving DecidableEq

/-- types asked by isinstance -/
inductive Ty where | int | bool | str | tuple | list | exc (c : Nat)
  deriving DecidableEq

inductive Bi where | len | sum | sorted | sortedRev | min | max | list | tuple | dict | str | int
  deriving DecidableEq

mutual
inductive CE where
  | lit (d : D)
  | loc (i : Nat)
  | gcon (x : Nat) (d : D)
  | bin (o : Bop) (l r : CE)
  | neg (e : CE)
  | not (e : CE)
  | and (es : List CE)
  | or (es : List CE)
  | cmp (o : Cop) (l r : CE)
  | cmp2 (o1 o2 : Cop) (a b c : CE)
  | ife (c a b : CE)
  | list (es : List CE)
  | tup (es : List CE)
  | sub (o i : CE)
  | slice (o : CE) (lo hi : Option CE)
  | callF (f : Nat) (args : List CE)
  | callB (f : Bi) (args : List CE)
  | isinst (e : CE) (t : Ty)
  | meth (o : CE) (m : Nat) (args : List CE)
  | comp (elt : CE) (k : Nat) (it : CI) (cond : Option CE)
inductive CI where
  | ev (e : CE)
  | range (e : CE)
  | zip (es : List CE)
end

inductive CS where
  | ret (e : Option CE)
  | asg (i : Nat) (e : CE)
  | iff (c : CE) (t e : List CS)
  | for (is : List Nat) (it : CI) (body : List CS)
  | while (c : CE) (body : List CS)
  | raise
  | pass

noncomputable abbrev Rho := List (Option D)

inductive Fl where
  | next (ρ : Rho)
  | ret (d : D)

structure CFn where
  np : Nat
  nv : Nat
  body : List CS

/-! ## the operations -/

/-- a value as plain data, lists read out of the store, to a depth -/
noncomputable def rd : Nat → Sto → D → Option PyData
  | 0, _, _ => none
  | n + 1, σ, d => match d with
    | .none => some .none
    | .bool b => some (.bool b)
    | .int i => some (.int i)
    | .str s => some (.str ⟨s.toArray⟩)
    | .tup ds => (ds.mapM (rd n σ)).map .tuple
    | .ref k => match σ[k]? with
      | some (.list ds) => (ds.mapM (rd n σ)).map .list
      | some (.froz ds) => (ds.mapM (rd n σ)).map .list
      | _ => none
    | .exc _ => none

noncomputable def rdDepth : Nat := 8

noncomputable def pyEq (σ : Sto) (a b : D) : Option Bool :=
  match rd rdDepth σ a, rd rdDepth σ b with
  | some x, some y => some (PyData.eqv x y)
  | _, _ => none

/-- the items of a list, or of a tuple -/
noncomputable def seqOf (σ : Sto) : D → Option (List D)
  | .tup ds => some ds
  | .ref k => match σ[k]? with
    | some (.list ds) => some ds
    | some (.froz ds) => some ds
    | _ => none
  | _ => none

noncomputable def isIn (σ : Sto) (a b : D) : Option Bool :=
  match a, b with
  | .str [c], .str s => some (s.contains c)
  | a, b => match rd rdDepth σ a, (seqOf σ b).bind (·.mapM (rd rdDepth σ)) with
    | some x, some ys => some (ys.any fun y => PyData.eqv y x)
    | _, _ => none

noncomputable def isSame : D → D → Option Bool
  | .none, .none => some true
  | .bool a, .bool b => some (a == b)
  | .none, _ => some false
  | _, .none => some false
  | .bool _, _ => some false
  | _, .bool _ => some false
  | _, _ => none

noncomputable def ofOpt {α : Type} (o : Option α) (σ : Sto) : Res α := match o with | some a => .ok a σ | none => .stuck

noncomputable def cmpOp (o : Cop) (a b : D) (σ : Sto) : Res D :=
  match o with
  | .eq => ofOpt ((pyEq σ a b).map .bool) σ
  | .ne => ofOpt ((pyEq σ a b).map fun x => .bool (!x)) σ
  | .is => ofOpt ((isSame a b).map .bool) σ
  | .isnot => ofOpt ((isSame a b).map fun x => .bool (!x)) σ
  | .mem => ofOpt ((isIn σ a b).map .bool) σ
  | .nmem => ofOpt ((isIn σ a b).map fun x => .bool (!x)) σ
  | .lt => match a, b with | .int x, .int y => .ok (.bool (decide (x < y))) σ | _, _ => .stuck
  | .le => match a, b with | .int x, .int y => .ok (.bool (decide (x ≤ y))) σ | _, _ => .stuck
  | .gt => match a, b with | .int x, .int y => .ok (.bool (decide (y < x))) σ | _, _ => .stuck
  | .ge => match a, b with | .int x, .int y => .ok (.bool (decide (y ≤ x))) σ | _, _ => .stuck

noncomputable def alloc (o : AObj) (σ : Sto) : Res D := .ok (.ref σ.length) (σ ++ [o])

noncomputable def most : Nat := 100000

noncomputable def divMost : Int := 10000000000000000000000000000000000000000

noncomputable def repeatL {α : Type} (n : Nat) (l : List α) : List α := (List.replicate n l).flatten

noncomputable def binOp (o : Bop) (a b : D) (σ : Sto) : Res D :=
  match o, a, b with
  | .add, .int x, .int y => .ok (.int (x + y)) σ
  | .sub, .int x, .int y => .ok (.int (x - y)) σ
  | .mul, .int x, .int y => if x.natAbs < 2 ^ 64 ∨ y.natAbs < 2 ^ 64 then .ok (.int (x * y)) σ else .stuck
  | .fdiv, .int x, .int y => if 0 < y ∧ y ≤ divMost then .ok (.int (x / y)) σ else .stuck
  | .mod, .int x, .int y => if 0 < y then .ok (.int (x % y)) σ else .stuck
  | .pow, .int x, .int y => if 0 ≤ y ∧ y ≤ 1000 ∧ x.natAbs < 2 ^ 64 then .ok (.int (x ^ y.toNat)) σ else .stuck
  | .add, .str x, .str y => if x.length + y.length ≤ most then .ok (.str (x ++ y)) σ else .stuck
  | .mul, .str x, .int n => if 0 ≤ n ∧ n.toNat * x.length ≤ most ∧ n ≤ most then .ok (.str (repeatL n.toNat x)) σ else .stuck
  | .add, .ref i, .ref j => match σ[i]?, σ[j]? with
    | some (.list xs), some (.list ys) => if xs.length + ys.length ≤ most then alloc (.list (xs ++ ys)) σ else .stuck
    | _, _ => .stuck
  | .mul, .ref i, .int n => match σ[i]? with
    | some (.list xs) => if 0 ≤ n ∧ n.toNat * xs.length ≤ most ∧ n ≤ most then alloc (.list (repeatL n.toNat xs)) σ else .stuck
    | _ => .stuck
  | _, _, _ => .stuck

/-- an index as Python counts it -/
noncomputable def idx? (i : Int) (n : Nat) : Option Nat :=
  let j := if i < 0 then i + n else i
  if 0 ≤ j ∧ j < n then some j.toNat else none

noncomputable def subOp (o i : D) (σ : Sto) : Res D :=
  match o, i with
  | .str s, .int k => match (idx? k s.length).bind (s[·]?) with
    | some c => .ok (.str [c]) σ
    | none => .stuck
  | o, i => match seqOf σ o, i with
    | some ds, .int k => match (idx? k ds.length).bind (ds[·]?) with
      | some d => .ok d σ
      | none => .stuck
    | _, _ => .stuck

/-- a slice's bound as Python clips it -/
noncomputable def clip (i : Int) (n : Nat) : Nat :=
  let j := if i < 0 then i + n else i
  if j < 0 then 0 else if (n : Int) < j then n else j.toNat

noncomputable def bnd (d : Option D) (dflt n : Nat) : Option Nat :=
  match d with
  | none => some dflt
  | some (.int i) => some (clip i n)
  | some _ => none

noncomputable def cut {α : Type} (l : List α) (a b : Nat) : List α := (l.take b).drop a

noncomputable def sliceOp (o : D) (lo hi : Option D) (σ : Sto) : Res D :=
  match o with
  | .str s => match bnd lo 0 s.length, bnd hi s.length s.length with
    | some a, some b => .ok (.str (cut s a b)) σ
    | _, _ => .stuck
  | .tup ds => match lo, hi with
    | some (.int k), none => if 1 ≤ k ∧ k ≤ ds.length then .ok (.tup (ds.drop k.toNat)) σ else .stuck
    | _, _ => .stuck
  | o => match seqOf σ o with
    | some ds => match bnd lo 0 ds.length, bnd hi ds.length ds.length with
      | some a, some b => alloc (.list (cut ds a b)) σ
      | _, _ => .stuck
    | none => .stuck

/-- subclasses of own exceptions: 0 is ValueError, 1 StockError, the rest stand under StockError -/
noncomputable def excSub (c t : Nat) : Bool := c == t || t == 0 || (t == 1 && c != 0)

noncomputable def isInst (d : D) (t : Ty) (σ : Sto) : Option Bool :=
  match t, d with
  | .int, .int _ => some true
  | .int, .bool _ => some true
  | .bool, .bool _ => some true
  | .str, .str _ => some true
  | .tuple, .tup _ => some true
  | .list, .ref n => match σ[n]? with
    | some (.list _) => some true
    | some (.froz _) => some true
    | some (.dict _) => some false
    | _ => none
  | .exc t, .exc c => some (excSub c t)
  | .exc _, _ => none
  | _, .exc _ => none
  | .int, .ref n | .bool, .ref n | .str, .ref n | .tuple, .ref n => match σ[n]? with
    | some (.list _) => some false
    | some (.froz _) => some false
    | some (.dict _) => some false
    | _ => none
  | _, _ => some false

noncomputable def digitsN : Nat → Nat → List Nat
  | 0, _ => []
  | f + 1, n => if n < 10 then [48 + n] else digitsN f (n / 10) ++ [48 + n % 10]
noncomputable def digits (n : Nat) : List Nat := digitsN (n + 1) n
noncomputable def intText (i : Int) : List Nat := if i < 0 then 45 :: digits i.natAbs else digits i.natAbs
noncomputable def textInt (s : List Nat) : Option Nat :=
  if !s.isEmpty && s.all (fun c => 48 ≤ c && c ≤ 57) then some (s.foldl (fun a c => 10 * a + (c - 48)) 0) else none

noncomputable def trueText : List Nat := [84, 114, 117, 101]
noncomputable def falseText : List Nat := [70, 97, 108, 115, 101]

noncomputable def callBi (f : Bi) (as : List D) (σ : Sto) : Res D :=
  match f, as with
  | .len, [.str s] => .ok (.int s.length) σ
  | .len, [d] => match seqOf σ d with
    | some ds => .ok (.int ds.length) σ
    | none => .stuck
  | .str, [.int i] => if 0 ≤ i ∧ i < 10 ^ 70 then .ok (.str (intText i)) σ else .stuck
  | .str, [.bool b] => .ok (.str (if b then trueText else falseText)) σ
  | .str, [.str s] => .ok (.str s) σ
  | .int, [.str s] => match textInt s with
    | some n => if s.length ≤ 640 then .ok (.int n) σ else .stuck
    | none => .stuck
  | _, _ => .stuck

/-! methods of the built-in kinds; the numbers are the names' (see names below) -/
namespace Nm
noncomputable abbrev append := 0
noncomputable abbrev extend := 1
noncomputable abbrev index := 2
noncomputable abbrev get := 3
noncomputable abbrev pop := 4
noncomputable abbrev join := 5
noncomputable abbrev split := 6
noncomputable abbrev replace := 7
noncomputable abbrev init := 8
end Nm

noncomputable def strsOf (ds : List D) : Option (List (List Nat)) := ds.mapM fun | .str s => some s | _ => none
noncomputable def joinS (sep : List Nat) : List (List Nat) → List Nat
  | [] => []
  | [s] => s
  | s :: r => s ++ sep ++ joinS sep r
noncomputable def splitOn (c : Nat) : List Nat → List (List Nat)
  | [] => [[]]
  | x :: r => if x = c then [] :: splitOn c r else match splitOn c r with
    | [] => [[x]]
    | w :: ws => (x :: w) :: ws
/-- a method of a list, a dict or a text -/
noncomputable def methBi (o : D) (m : Nat) (as : List D) (σ : Sto) : Res D :=
  match o with
  | .str s => match m, as with
    | 2, [.str [c]] => match s.findIdx? (· == c) with
      | some i => .ok (.int i) σ
      | none => .stuck
    | 5, [.ref n] => match σ[n]? with
      | some (.list ds) => match strsOf ds with
        | some ss => if (ss.map (·.length)).sum + ss.length * s.length ≤ most then .ok (.str (joinS s ss)) σ else .stuck
        | none => .stuck
      | _ => .stuck
    | 6, [.str [c]] => if s.length ≤ most then alloc (.list ((splitOn c s).map .str)) σ else .stuck
    | _, _ => .stuck
  | _ => .stuck

/-- what a loop goes over: the items, and the object that must stand as it stood -/
noncomputable def itemsOf (d : D) (_ : Sto) : Option (List D × Option Nat) :=
  match d with
  | .str s => some (s.map fun c => .str [c], none)
  | .tup ds => some (ds, none)
  | _ => none

/-- does the object looped over stand with these items? -/
noncomputable def stands (_ : Sto) (src : Option Nat) (_ : List D) : Bool :=
  match src with
  | none => true
  | some _ => false

noncomputable def zipD : List D → List D → List D
  | a :: as, b :: bs => .tup [a, b] :: zipD as bs
  | _, _ => []
/-- the values for k targets -/
noncomputable def unpackT (k : Nat) (d : D) : Option (List D) :=
  if k = 1 then some [d] else match d with
    | .tup ds => if ds.length = k then some ds else none
    | _ => none

noncomputable def tests (d : D) : Option Bool := match d with | .bool b => some b | _ => none

noncomputable def compGo (elt : Rho → Sto → Res D) (cond : Option (Rho → Sto → Res D)) (k : Nat) (ρ : Rho) (src : Option Nat × Option Nat) (all : List D × List D) : List D → List D → Sto → Res (List D)
  | [], acc, σ => if stands σ src.1 all.1 && stands σ src.2 all.2 then .ok acc.reverse σ else .stuck
  | d :: r, acc, σ =>
    if stands σ src.1 all.1 && stands σ src.2 all.2 then
      match unpackT k d with
      | none => .stuck
      | some vs =>
        let ρ' := ρ ++ vs.map some
        match cond with
        | none => match elt ρ' σ with
          | .ok v σ' => compGo elt cond k ρ src all r (v :: acc) σ'
          | _ => .stuck
        | some c => match c ρ' σ with
          | .ok (.bool true) σ' => match elt ρ' σ' with
            | .ok v σ'' => compGo elt cond k ρ src all r (v :: acc) σ''
            | _ => .stuck
          | .ok (.bool false) σ' => compGo elt cond k ρ src all r acc σ'
          | _ => .stuck
    else .stuck

noncomputable abbrev Call := Nat → List D → Sto → Res D
/-- the source of a loop: its items, the objects that must stand, their items -/
structure Src where
  items : List D
  src : Option Nat × Option Nat
  all : List D × List D

mutual
noncomputable def ev (cl : Call) : CE → Rho → Sto → Res D
  | .lit d, _, σ => .ok d σ
  | .loc i, ρ, σ => match ρ[i]? with
    | some (some d) => .ok d σ
    | _ => .stuck
  | .gcon _ d, _, σ => .ok d σ
  | .bin o l r, ρ, σ => (ev cl l ρ σ).bind fun a σ => (ev cl r ρ σ).bind fun b σ => binOp o a b σ
  | .neg e, ρ, σ => (ev cl e ρ σ).bind fun a σ => match a with | .int i => .ok (.int (-i)) σ | _ => .stuck
  | .not e, ρ, σ => (ev cl e ρ σ).bind fun a σ => match a with | .bool b => .ok (.bool (!b)) σ | _ => .stuck
  | .and es, ρ, σ => evAnd cl es ρ σ
  | .or es, ρ, σ => evOr cl es ρ σ
  | .cmp o l r, ρ, σ => (ev cl l ρ σ).bind fun a σ => (ev cl r ρ σ).bind fun b σ => cmpOp o a b σ
  | .cmp2 o1 o2 a b c, ρ, σ => (ev cl a ρ σ).bind fun x σ => (ev cl b ρ σ).bind fun y σ => (cmpOp o1 x y σ).bind fun t σ =>
      match t with
      | .bool true => (ev cl c ρ σ).bind fun z σ => cmpOp o2 y z σ
      | .bool false => .ok (.bool false) σ
      | _ => .stuck
  | .ife c a b, ρ, σ => (ev cl c ρ σ).bind fun t σ => match t with
      | .bool true => ev cl a ρ σ
      | .bool false => ev cl b ρ σ
      | _ => .stuck
  | .list es, ρ, σ => (evs cl es ρ σ).bind fun ds σ => alloc (.list ds) σ
  | .tup es, ρ, σ => (evs cl es ρ σ).bind fun ds σ => .ok (.tup ds) σ
  | .sub o i, ρ, σ => (ev cl o ρ σ).bind fun a σ => (ev cl i ρ σ).bind fun b σ => subOp a b σ
  | .slice o lo hi, ρ, σ => (ev cl o ρ σ).bind fun a σ => (evo cl lo ρ σ).bind fun l σ => (evo cl hi ρ σ).bind fun h σ => sliceOp a l h σ
  | .callF f as, ρ, σ => (evs cl as ρ σ).bind fun ds σ => cl f ds σ
  | .callB f as, ρ, σ => (evs cl as ρ σ).bind fun ds σ => callBi f ds σ
  | .isinst e t, ρ, σ => (ev cl e ρ σ).bind fun d σ => ofOpt ((isInst d t σ).map .bool) σ
  | .meth o m as, ρ, σ => (ev cl o ρ σ).bind fun x σ => match x with
      | .str s => if m = 2 ∨ m = 5 ∨ m = 6 then (evs cl as ρ σ).bind fun ds σ => methBi (.str s) m ds σ else .stuck
      | _ => .stuck
  | .comp elt k it cond, ρ, σ => (evi cl it ρ σ).bind fun s σ =>
      (compGo (fun ρ σ => ev cl elt ρ σ) (match cond with | none => none | some c => some fun ρ σ => ev cl c ρ σ) k ρ s.src s.all s.items [] σ).bind fun ds σ => alloc (.list ds) σ
noncomputable def evs (cl : Call) : List CE → Rho → Sto → Res (List D)
  | [], _, σ => .ok [] σ
  | e :: r, ρ, σ => (ev cl e ρ σ).bind fun d σ => (evs cl r ρ σ).bind fun ds σ => .ok (d :: ds) σ
noncomputable def evo (cl : Call) : Option CE → Rho → Sto → Res (Option D)
  | none, _, σ => .ok none σ
  | some e, ρ, σ => (ev cl e ρ σ).bind fun d σ => .ok (some d) σ
noncomputable def evAnd (cl : Call) : List CE → Rho → Sto → Res D
  | [], _, _ => .stuck
  | [e], ρ, σ => ev cl e ρ σ
  | e :: r, ρ, σ => (ev cl e ρ σ).bind fun a σ => match a with
    | .bool true => evAnd cl r ρ σ
    | .bool false => .ok (.bool false) σ
    | _ => .stuck
noncomputable def evOr (cl : Call) : List CE → Rho → Sto → Res D
  | [], _, _ => .stuck
  | [e], ρ, σ => ev cl e ρ σ
  | e :: r, ρ, σ => (ev cl e ρ σ).bind fun a σ => match a with
    | .bool false => evOr cl r ρ σ
    | .bool true => .ok (.bool true) σ
    | _ => .stuck
noncomputable def evi (cl : Call) : CI → Rho → Sto → Res Src
  | .ev e, ρ, σ => (ev cl e ρ σ).bind fun d σ => match itemsOf d σ with
    | some (ds, src) => .ok ⟨ds, (src, none), (ds, [])⟩ σ
    | none => .stuck
  | .range e, ρ, σ => (ev cl e ρ σ).bind fun d σ => match d with
    | .int n => if 0 ≤ n ∧ n ≤ most then .ok ⟨(List.range n.toNat).map fun (i : Nat) => D.int (i : Int), (none, none), ([], [])⟩ σ else .stuck
    | _ => .stuck
  | .zip es, ρ, σ => (evs cl es ρ σ).bind fun ds σ => match ds with
    | [.tup ds, .tup es] => .ok ⟨zipD ds es, (none, none), ([], [])⟩ σ
    | _ => .stuck
end

noncomputable def setVars (ρ : Rho) : List Nat → List D → Option Rho
  | [], [] => some ρ
  | i :: is, d :: ds => if i < ρ.length then setVars (ρ.set i (some d)) is ds else none
  | _, _ => none

noncomputable def forGo (body : Rho → Sto → Res Fl) (is : List Nat) (src : Option Nat × Option Nat) (all : List D × List D) : List D → Rho → Sto → Res Fl
  | [], ρ, σ => if stands σ src.1 all.1 && stands σ src.2 all.2 then .ok (.next ρ) σ else .stuck
  | d :: r, ρ, σ =>
    if stands σ src.1 all.1 && stands σ src.2 all.2 then
      match (unpackT is.length d).bind (setVars ρ is) with
      | none => .stuck
      | some ρ' => match body ρ' σ with
        | .ok (.next ρ'') σ' => forGo body is src all r ρ'' σ'
        | .ok (.ret v) σ' => .ok (.ret v) σ'
        | _ => .stuck
    else .stuck

noncomputable def whileGo (test : Rho → Sto → Res D) (body : Rho → Sto → Res Fl) : Nat → Rho → Sto → Res Fl
  | 0, _, _ => .stuck
  | n + 1, ρ, σ => match test ρ σ with
    | .ok (.bool true) σ' => match body ρ σ' with
      | .ok (.next ρ') σ'' => whileGo test body n ρ' σ''
      | .ok (.ret v) σ'' => .ok (.ret v) σ''
      | _ => .stuck
    | .ok (.bool false) σ' => .ok (.next ρ) σ'
    | _ => .stuck

noncomputable def whileMost : Nat := 1000

mutual
noncomputable def ex (cl : Bool → Call) : Bool → CS → Rho → Sto → Res Fl
  | _, .pass, ρ, σ => .ok (.next ρ) σ
  | _, .ret none, _, σ => .ok (.ret .none) σ
  | hd, .ret (some e), ρ, σ => (ev (cl hd) e ρ σ).bind fun d σ => .ok (.ret d) σ
  | hd, .asg i e, ρ, σ => (ev (cl hd) e ρ σ).bind fun d σ => if i < ρ.length then .ok (.next (ρ.set i (some d))) σ else .stuck
  | hd, .iff c t e, ρ, σ => (ev (cl hd) c ρ σ).bind fun b σ => match b with
    | .bool true => exs cl hd t ρ σ
    | .bool false => exs cl hd e ρ σ
    | _ => .stuck
  | hd, .for is it body, ρ, σ => (evi (cl hd) it ρ σ).bind fun s σ => forGo (fun ρ σ => exs cl hd body ρ σ) is s.src s.all s.items ρ σ
  | hd, .while c body, ρ, σ => whileGo (fun ρ σ => ev (cl hd) c ρ σ) (fun ρ σ => exs cl hd body ρ σ) whileMost ρ σ
  | _, .raise, _, _ => .stuck
noncomputable def exs (cl : Bool → Call) : Bool → List CS → Rho → Sto → Res Fl
  | _, [], ρ, σ => .ok (.next ρ) σ
  | hd, s :: r, ρ, σ => (ex cl hd s ρ σ).bind fun fl σ => match fl with
    | .next ρ' => exs cl hd r ρ' σ
    | .ret d => .ok (.ret d) σ
end

noncomputable abbrev Prog := Nat → Option CFn

/-- a call of one of the text's own functions, to a depth -/
noncomputable def callN (P : Prog) : Nat → Bool → Call
  | 0, _, _, _, _ => .stuck
  | n + 1, hd, f, as, σ => match P f with
    | none => .stuck
    | some fn => if as.length = fn.np ∧ fn.np ≤ fn.nv then
        match exs (callN P n) hd fn.body (as.map some ++ List.replicate (fn.nv - fn.np) none) σ with
        | .ok (.ret d) σ' => .ok d σ'
        | .ok (.next _) σ' => .ok .none σ'
        | _ => .stuck
      else .stuck

end Mine

/-! part MComp -/
/-! From the model's trees to the interpreter's. -/
namespace Mine
open PySem

noncomputable def allNames : List Str := (["append", "extend", "index", "get", "pop", "join", "split", "replace", "__init__", "stock", "kept", "standing", "last", "ins", "outs", "fixed", "deeds", "_wall", "is_whole", "is_ware", "is_place", "is_many", "need_ware", "need_place", "need_many", "_law_whole", "_law_cell_at", "_law_ware_by", "_law_wares", "_law_places", "_law_is", "_law_holds", "law", "come", "go", "move", "hold", "let", "take", "shift", "counted", "wish", "put", "begun", "ended", "need_hold", "need_free", "there", "held", "free", "places", "whole", "came", "went", "righted", "total", "numbers", "holding", "book", "_law_gone", "_law_held_by", "_law_over", "_law_many_by", "_law_moved", "_law_shifted", "_law_due", "_law_put", "_law_lost", "_law_alike", "_law_count_by", "dealt", "_law_bad_ware", "_law_bad_number", "_law_done", "_law_told", "_law_floor", "_law_parts", "shown", "number_of", "ware_of", "place_of", "read", "_law_number_by", "_law_figures", "_law_entry_by", "_law_line_of", "_law_marks", "_law_good", "_law_bad", "_law_read", "_law_whole_parts", "_law_part", "_law_odd", "_law_free_by", "_law_rooms", "_law_pairs", "_law_ahead", "_law_chosen", "_law_do", "_law_scale", "_law_was_done", "_law_added", "_law_tried", "_law_covered", "_law_made", "_law_kept", "_law_free", "_law_changed", "_law_wished", "_law_counted", "_law_by_number", "_law_step", "_law_spoil", "done", "replayed", "fault", "_law_seen", "_law_strange", "_law_names", "_law_refused", "_law_done_alone", "_law_next", "_law_same_again", "_law_entered", "_law_more", "_law_let"] : List String).map Str.ofString
noncomputable def excNames : List Str := (["ValueError", "StockError", "BadWare", "BadPlace", "BadMany", "TooFew", "SamePlace", "NoHold", "NoEntry", "NoLine"] : List String).map Str.ofString

noncomputable def idIn (l : List Str) (x : Str) : Option Nat := l.findIdx? (· == x)
noncomputable def nameId (x : Str) : Option Nat := idIn allNames x
noncomputable def excId (x : Str) : Option Nat := idIn excNames x

/-- the compiler's ground: constants of the top, plain functions of the text, classes that are made, exceptions -/
structure CG where
  gc : List (Str × D)
  fns : List Str
  cls : List Str

structure CC where
  g : CG
  vars : List (Option Str)
  sc : Scope

/-- the last place of a name -/
noncomputable def lastIdx (x : Str) : List (Option Str) → Option Nat
  | [] => none
  | v :: r => match lastIdx x r with
    | some i => some (i + 1)
    | none => if v = some x then some 0 else none

noncomputable def nodupB : List Str → Bool
  | [] => true
  | x :: r => !r.contains x && nodupB r
theorem nodupB_nodup : ∀ {l : List Str}, nodupB l = true → l.Nodup
  | [], _ => List.nodup_nil
  | x :: r, h => by
    simp only [nodupB, Bool.and_eq_true, Bool.not_eq_true', List.contains_eq_mem, decide_eq_false_iff_not] at h
    exact List.nodup_cons.mpr ⟨h.1, nodupB_nodup h.2⟩

noncomputable def CC.kind (C : CC) (x : Str) : Option NameKind := C.sc.names.lookup x
noncomputable def CC.isGlob (C : CC) (x : Str) : Bool := C.kind x == some .globalImplicit && (lastIdx x C.vars).isNone

noncomputable def compScope (outer inner : Scope) : Scope :=
  { inner with names := inner.names.map fun (n, k) => if k == .free && outer.kind == .function && outer.names.lookup n == some .cell then (n, .cell) else (n, k) }

noncomputable def keepVar (sc : Scope) (v : Option Str) : Option Str :=
  match v with
  | some x => if sc.names.lookup x == some .cell || sc.names.lookup x == some .free then some x else none
  | none => none
noncomputable def compCC (C : CC) (scope : Scope) (ts : List Str) : CC := ⟨C.g, C.vars.map (keepVar (compScope C.sc scope)) ++ ts.map some, compScope C.sc scope⟩

noncomputable def cBop : Operator → Option Bop
  | .Add => some .add | .Sub => some .sub | .Mult => some .mul | .FloorDiv => some .fdiv | .Mod => some .mod | .Pow => some .pow
  | _ => none
noncomputable def cCop : CmpOp → Cop
  | .Eq => .eq | .NotEq => .ne | .Lt => .lt | .LtE => .le | .Gt => .gt | .GtE => .ge | .Is => .is | .IsNot => .isnot | .In => .mem | .NotIn => .nmem
noncomputable def cConst : Const → Option D
  | .none => some .none
  | .bool b => some (.bool b)
  | .int i => some (.int i)
  | .str s => if s.cps.all (· < 0x110000) && s.cps.size ≤ most then some (.str s.cps.toList) else none
  | _ => none
noncomputable def biOf (x : Str) : Option Bi := if x == "len" then some .len else if x == "str" then some .str else if x == "int" then some .int else none
noncomputable def tyOf (x : Str) : Option Ty :=
  if x == "int" then some .int else if x == "bool" then some .bool else if x == "str" then some .str else if x == "tuple" then some .tuple
  else if x == "list" then some .list else none
/-- is it a call without arguments of a plain name? (attributeBase looks at those) -/
noncomputable def bareCall : PySem.Expr → Bool
  | .Call (.Name _ _) [] [] _ => true
  | _ => false
noncomputable def isStar : PySem.Expr → Bool
  | .Starred .. => true
  | _ => false
noncomputable def isSlice : PySem.Expr → Bool
  | .Slice .. => true
  | _ => false
noncomputable def isComp : PySem.Expr → Bool
  | .ListComp .. | .SetComp .. | .DictComp .. => true
  | _ => false

structure CRec where
  e : CC → PySem.Expr → Option CE
  es : CC → List PySem.Expr → Option (List CE)
  o : CC → Option PySem.Expr → Option (Option CE)
  i : CC → PySem.Expr → Option CI

noncomputable def cUn (rc : CRec) (C : CC) (op : PySem.UnaryOp) (x : PySem.Expr) : Option CE :=
  match op with
  | .Not => (rc.e C x).map .not
  | .USub => (rc.e C x).map .neg
  | _ => none
noncomputable def cBool (rc : CRec) (C : CC) (op : PySem.BoolOp) (vs : List PySem.Expr) : Option CE :=
  if 2 ≤ vs.length then (match op with
    | .And => (rc.es C vs).map .and
    | .Or => (rc.es C vs).map .or) else none
noncomputable def cCompare (rc : CRec) (C : CC) (l : PySem.Expr) (ops : List CmpOp) (rs : List PySem.Expr) : Option CE :=
  match ops with
  | [] => none
  | o1 :: ops => match rs with
    | [] => none
    | a :: rs => match ops with
      | [] => (match rs with
        | [] => if behindInMarks o1 a then none else do some (.cmp (cCop o1) (← rc.e C l) (← rc.e C a))
        | _ :: _ => none)
      | o2 :: ops => (match rs with
        | [] => none
        | b :: rs => if ops.isEmpty && rs.isEmpty && !behindInMarks o2 b then do some (.cmp2 (cCop o1) (cCop o2) (← rc.e C l) (← rc.e C a) (← rc.e C b)) else none)
noncomputable def sliceOf : PySem.Expr → Option (Option PySem.Expr × Option PySem.Expr × Option PySem.Expr)
  | .Slice lo hi st _ => some (lo, hi, st)
  | _ => none
noncomputable def cSub (rc : CRec) (C : CC) (v s : PySem.Expr) : Option CE :=
  match sliceOf s with
  | some (lo, hi, st) => if st.isNone then do some (.slice (← rc.e C v) (← rc.o C lo) (← rc.o C hi)) else none
  | none => do some (.sub (← rc.e C v) (← rc.e C s))
noncomputable def nameOf : PySem.Expr → Option Str
  | .Name x _ => some x
  | _ => none
noncomputable def attrOf : PySem.Expr → Option (PySem.Expr × Str × Pos)
  | .Attribute o m ap => some (o, m, ap)
  | _ => none
noncomputable def cIsi (rc : CRec) (C : CC) (args : List PySem.Expr) : Option CE :=
  match args with
  | [] => none
  | e :: r => match r with
    | [] => none
    | t :: r => if r.isEmpty then (match nameOf t with
      | some t => if C.isGlob t then do some (.isinst (← rc.e C e) (← tyOf t)) else none
      | none => none) else none
noncomputable def cCallN (rc : CRec) (C : CC) (f : Str) (args : List PySem.Expr) : Option CE :=
  if !C.isGlob f || f == "__debug__" then none
  else if C.g.fns.contains f then do some (.callF (← nameId f) (← rc.es C args))
  else if C.g.cls.contains f then none
  else if f == "isinstance" then cIsi rc C args
  else do some (.callB (← biOf f) (← rc.es C args))
noncomputable def cCall (rc : CRec) (C : CC) (f : PySem.Expr) (args : List PySem.Expr) (p : Pos) : Option CE :=
  match nameOf f with
  | some f => cCallN rc C f args
  | none => match attrOf f with
    | some (o, m, ap) => if bareCall o || !(decide (args.length < 30)) || !(ap.endLine == p.line) then none else do some (.meth (← rc.e C o) (← nameId m) (← rc.es C args))
    | none => none
noncomputable def cComp (rc : CRec) (C : CC) (elt target iter : PySem.Expr) (ifs : List PySem.Expr) (scope : Scope) : Option CE := do
  let x ← nameOf target
  if scope.kind == .function && scope.names.lookup x == some .local && scope.names.all (fun p => p.2 != .cell) && scope.names.all (fun p => p.2 != .local || scope.names.lookup p.1 == some .local) &&
      scope.names.all (fun p => p.2 != .free || ((lastIdx p.1 C.vars).isSome && (C.kind p.1 == some .cell || C.kind p.1 == some .free))) then
    let C' : CC := compCC C scope [x]
    let e ← rc.e C' elt
    let i ← rc.i C iter
    match ifs with
    | [] => some (.comp e 1 i none)
    | c :: r => if r.isEmpty then do some (.comp e 1 i (some (← rc.e C' c))) else none
  else none
noncomputable def cName (C : CC) (x : Str) : Option CE :=
  if x == "__debug__" || x == "__classdict__" then none else match lastIdx x C.vars with
    | some i => if C.kind x == some .local || C.kind x == some .cell || C.kind x == some .free then some (.loc i) else none
    | none => if C.kind x == some .globalImplicit then (C.g.gc.lookup x).map (.gcon 0) else none

noncomputable def cEstep (rc : CRec) (C : CC) (e : PySem.Expr) : Option CE :=
  match e with
  | .Constant c _ _ => (cConst c).map .lit
  | .Name x _ => cName C x
  | .BinOp l op r _ => do some (.bin (← cBop op) (← rc.e C l) (← rc.e C r))
  | .UnaryOp op x _ => cUn rc C op x
  | .BoolOp op vs _ => cBool rc C op vs
  | .Compare l ops rs _ => cCompare rc C l ops rs
  | .IfExp t a b _ => do some (.ife (← rc.e C t) (← rc.e C a) (← rc.e C b))
  | .List es _ => if es.length ≤ 1000 then (rc.es C es).map .list else none
  | .Tuple es _ _ => if es.length ≤ 1000 then (rc.es C es).map .tup else none
  | .Subscript v s _ => cSub rc C v s
  | .Call f args kws p => if kws.isEmpty then cCall rc C f args p else none
  | .ListComp elt gens scope _ => match gens with
    | [] => none
    | g :: r => if r.isEmpty && g.is_async == 0 then cComp rc C elt g.target g.iter g.ifs scope else none
  | _ => none

noncomputable def cEsStep (rc : CRec) (C : CC) (es : List PySem.Expr) : Option (List CE) :=
  match es with
  | [] => some []
  | e :: t => if isStar e then none else do some ((← rc.e C e) :: (← rc.es C t))
noncomputable def cEoStep (rc : CRec) (C : CC) (e : Option PySem.Expr) : Option (Option CE) :=
  match e with
  | none => some none
  | some e => do some (some (← rc.e C e))
noncomputable def isRange (C : CC) (f : Str) : Bool := C.isGlob f && !C.g.fns.contains f && !C.g.cls.contains f && f == "range"
noncomputable def callOf : PySem.Expr → Option (Str × List PySem.Expr)
  | .Call f args kws _ => if kws.isEmpty then (nameOf f).map fun x => (x, args) else none
  | _ => none
noncomputable def cIstep (rc : CRec) (C : CC) (e : PySem.Expr) : Option CI :=
  match callOf e with
  | some (f, args) => if isRange C f then (match args with
      | [] => none
      | a :: r => if r.isEmpty && !isStar a then do some (.range (← rc.e C a)) else none) else (rc.e C e).map .ev
  | none => (rc.e C e).map .ev

mutual
noncomputable def cE : Nat → CC → PySem.Expr → Option CE
  | 0, _, _ => none
  | n + 1, C, e => cEstep ⟨cE n, cEs n, cEo n, cI n⟩ C e
noncomputable def cEs : Nat → CC → List PySem.Expr → Option (List CE)
  | 0, _, _ => none
  | n + 1, C, es => cEsStep ⟨cE n, cEs n, cEo n, cI n⟩ C es
noncomputable def cEo : Nat → CC → Option PySem.Expr → Option (Option CE)
  | 0, _, _ => none
  | n + 1, C, e => cEoStep ⟨cE n, cEs n, cEo n, cI n⟩ C e
noncomputable def cI : Nat → CC → PySem.Expr → Option CI
  | 0, _, _ => none
  | n + 1, C, e => cIstep ⟨cE n, cEs n, cEo n, cI n⟩ C e
end

noncomputable def CC.own (C : CC) (x : Str) : Option Nat := match C.kind x with
  | some .local | some .cell => lastIdx x C.vars
  | _ => none

structure SRec where
  e : CC → PySem.Expr → Option CE
  i : CC → PySem.Expr → Option CI
  ss : CC → List Stmt → Option (List CS)

noncomputable def cAsg (rc : SRec) (C : CC) (ts : List PySem.Expr) (v : PySem.Expr) : Option CS :=
  match ts with
  | [] => none
  | t :: r => if r.isEmpty && !isComp v then (match nameOf t with
    | some x => do some (.asg (← C.own x) (← rc.e C v))
    | none => none) else none
noncomputable def twoOf : PySem.Expr → Option (Str × Str)
  | .Tuple es _ _ => match es with
    | [] => none
    | a :: es => match es with
      | [] => none
      | b :: es => if es.isEmpty then do some (← nameOf a, ← nameOf b) else none
  | _ => none
noncomputable def zipArgs (C : CC) (e : PySem.Expr) : Option (PySem.Expr × PySem.Expr) :=
  match callOf e with
  | some (f, args) => if C.isGlob f && f == "zip" then (match args with
    | [] => none
    | a :: r => match r with
      | [] => none
      | b :: r => if r.isEmpty then some (a, b) else none) else none
  | none => none
noncomputable def cFor (rc : SRec) (C : CC) (t it : PySem.Expr) (b : List Stmt) : Option CS :=
  match nameOf t with
  | some x => do some (.for [← C.own x] (← rc.i C it) (← rc.ss C b))
  | none => match twoOf t with
    | some (x, y) => (match zipArgs C it with
      | some (e1, e2) => do some (.for [← C.own x, ← C.own y] (.zip [← rc.e C e1, ← rc.e C e2]) (← rc.ss C b))
      | none => none)
    | none => none

noncomputable def cSstep (rc : SRec) (C : CC) (s : Stmt) : Option CS :=
  match s with
  | .Pass _ => some .pass
  | .Return v _ => (match v with
    | none => some (.ret none)
    | some e => do some (.ret (some (← rc.e C e))))
  | .Assign ts v _ => cAsg rc C ts v
  | .If t b o _ => do some (.iff (← rc.e C t) (← rc.ss C b) (← rc.ss C o))
  | .For t it b o _ => if o.isEmpty then cFor rc C t it b else none
  | .While t b o _ => if o.isEmpty then do some (.while (← rc.e C t) (← rc.ss C b)) else none
  | .Raise _ _ _ => some .raise
  | _ => none

mutual
noncomputable def cS : Nat → CC → Stmt → Option CS
  | 0, _, _ => none
  | n + 1, C, s => cSstep ⟨cE n, cI n, cSs n⟩ C s
noncomputable def cSs : Nat → CC → List Stmt → Option (List CS)
  | 0, _, _ => none
  | n + 1, C, ss => match ss with
    | [] => some []
    | s :: t => do some ((← cS n C s) :: (← cSs n C t))
end

noncomputable def fuelC : Nat := 400

noncomputable def varsOf (params : List Str) (sc : Scope) : List Str :=
  params ++ (sc.names.filter fun p => (p.2 == .local || p.2 == .cell) && !params.contains p.1).map (·.1)

noncomputable def plainArgs (a : Arguments) : Option (List Str) :=
  match a with
  | ⟨[], as, none, [], [], none, []⟩ => some (as.map (·.arg))
  | _ => none

/-- a function of the text -/
noncomputable def cFn (g : CG) (a : Arguments) (body : List Stmt) (sc : Scope) : Option CFn := do
  let ps ← plainArgs a
  let vs := varsOf ps sc
  if sc.kind == .function && !sc.isGenerator && !sc.isCoroutine && ps.all (fun x => sc.names.lookup x == some .local || sc.names.lookup x == some .cell) && nodupB vs &&
      sc.names.all (fun p => p.2 != .free) then
    some ⟨ps.length, vs.length, ← cSs fuelC ⟨g, vs.map some, sc⟩ body⟩
  else none

end Mine

/-! part MSnd1 -/
/-! The ground, the relation between the store and the heap. -/
namespace Mine
open PySem PyProof.Rows

noncomputable def cap : Nat := 1000000
noncomputable def sOk (s : List Nat) : Bool := s.all (· < 0x110000) && decide (s.length ≤ most)
noncomputable abbrev tx (s : List Nat) : Str := ⟨s.toArray⟩
noncomputable abbrev lstO (vs : List Value) (n : Nat) : Obj := { cls := .type "list", data := .seq vs.toArray n }
noncomputable abbrev dctO (es : List DictEntry) (n : Nat) : Obj := { cls := .type "dict", data := .dict es.toArray n }

/-- the ground -/
structure Gd where
  prog : Program
  w : World
  H : Heap
  mg : Str → Option Value
  mb : Str → Option Value
  ec : Nat → Value
  fc : Addr
  g : CG
  P : Prog
  b0 : List Addr
  N : Addr → Prop

mutual
inductive Rel (G : Gd) (h : Heap) (β : List Addr) : D → Value → Prop
  | none : Rel G h β .none .none
  | bool (b : Bool) : Rel G h β (.bool b) (.bool b)
  | int (i : Int) (t : Tok) : Rel G h β (.int i) (.int i t)
  | str {s : List Nat} (t : Tok) (ok : sOk s = true) : Rel G h β (.str s) (.str (tx s) t)
  | tup {a : Addr} {o : Obj} {n : Nat} {ds : List D} {vs : List Value} (ho : h.get? a = some o) (hc : o.cls = .type "tuple") (hd : o.data = .seq vs.toArray n) (r : RelL G h β ds vs) (sz : ds.length ≤ cap) (nN : ¬ G.N a) : Rel G h β (.tup ds) (.ref a)
  | ref {n : Nat} {a : Addr} (hb : β[n]? = some a) : Rel G h β (.ref n) (.ref a)
  | exc {c : Nat} {a : Addr} {o : Obj} {fs : Array Value} (ho : h.get? a = some o) (hc : o.cls = G.ec c) (hd : o.data = .fields fs) (nN : ¬ G.N a) : Rel G h β (.exc c) (.ref a)
inductive RelL (G : Gd) (h : Heap) (β : List Addr) : List D → List Value → Prop
  | nil : RelL G h β [] []
  | cons {d : D} {v : Value} {ds : List D} {vs : List Value} (r : Rel G h β d v) (rs : RelL G h β ds vs) : RelL G h β (d :: ds) (v :: vs)
end

/-- what a relation leans on: tuples and records -/
noncomputable def firmO (o : Obj) : Prop := (o.cls = .type "tuple" ∧ ∃ vs n, o.data = .seq vs n) ∨ ∃ fs, o.data = .fields fs
noncomputable def Firm (N : Addr → Prop) (h h' : Heap) : Prop := ∀ a o, ¬ N a → h.get? a = some o → firmO o → h'.get? a = some o
theorem Firm.refl {N : Addr → Prop} (h : Heap) : Firm N h h := fun _ _ _ e _ => e
theorem Firm.trans {N : Addr → Prop} {h₁ h₂ h₃ : Heap} (x : Firm N h₁ h₂) (y : Firm N h₂ h₃) : Firm N h₁ h₃ := fun a o n e q => y a o n (x a o n e q) q
theorem Firm.of_keeps {N : Addr → Prop} {h h' : Heap} (k : ∀ b o, h.get? b = some o → h'.get? b = some o) : Firm N h h' := fun a o _ e _ => k a o e

theorem pre_get {β β' : List Addr} (p : β <+: β') {n : Nat} {a : Addr} (h : β[n]? = some a) : β'[n]? = some a := by
  obtain ⟨t, rfl⟩ := p
  rw [List.getElem?_append_left (List.getElem?_eq_some_iff.mp h).1]; exact h

mutual
theorem Rel.mono {G : Gd} {h h' : Heap} {β β' : List Addr} (k : Firm G.N h h') (p : β <+: β') : ∀ {d : D} {v : Value}, Rel G h β d v → Rel G h' β' d v
  | _, _, .none => .none
  | _, _, .bool b => .bool b
  | _, _, .int i t => .int i t
  | _, _, .str t ok => .str t ok
  | _, _, .tup ho hc hd r sz nN => .tup (k _ _ nN ho (.inl ⟨hc, _, _, hd⟩)) hc hd (RelL.mono k p r) sz nN
  | _, _, .ref hb => .ref (pre_get p hb)
  | _, _, .exc ho hc hd nN => .exc (k _ _ nN ho (.inr ⟨_, hd⟩)) hc hd nN
theorem RelL.mono {G : Gd} {h h' : Heap} {β β' : List Addr} (k : Firm G.N h h') (p : β <+: β') : ∀ {ds : List D} {vs : List Value}, RelL G h β ds vs → RelL G h' β' ds vs
  | _, _, .nil => .nil
  | _, _, .cons r rs => .cons (Rel.mono k p r) (RelL.mono k p rs)
end

theorem RelL.length {G : Gd} {h : Heap} {β : List Addr} : ∀ {ds : List D} {vs : List Value}, RelL G h β ds vs → ds.length = vs.length
  | _, _, .nil => rfl
  | _, _, .cons _ rs => by simp [RelL.length rs]
theorem RelL.append {G : Gd} {h : Heap} {β : List Addr} : ∀ {ds es : List D} {vs ws : List Value}, RelL G h β ds vs → RelL G h β es ws → RelL G h β (ds ++ es) (vs ++ ws)
  | _, _, _, _, .nil, y => y
  | _, _, _, _, .cons r rs, y => .cons r (RelL.append rs y)
theorem RelL.get {G : Gd} {h : Heap} {β : List Addr} : ∀ {ds : List D} {vs : List Value}, RelL G h β ds vs → ∀ {i : Nat} {d : D}, ds[i]? = some d → ∃ v, vs[i]? = some v ∧ Rel G h β d v
  | _, _, .nil, i, d, e => by simp at e
  | _, _, .cons r rs, 0, d, e => by simp at e; subst e; exact ⟨_, rfl, r⟩
  | _, _, .cons r rs, i + 1, d, e => by simpa using RelL.get rs (by simpa using e)

/-- the entries of a dict -/
inductive Ents (G : Gd) (h : Heap) (β : List Addr) (hash : D → Int) : List (D × D) → List DictEntry → Prop
  | nil : Ents G h β hash [] []
  | cons {k v : D} {kv vv : Value} {es : List (D × D)} {xs : List DictEntry} (rk : Rel G h β k kv) (rv : Rel G h β v vv) (r : Ents G h β hash es xs) :
      Ents G h β hash ((k, v) :: es) (⟨hash k, kv, vv⟩ :: xs)
theorem Ents.mono {G : Gd} {h h' : Heap} {β β' : List Addr} {hash : D → Int} (k : Firm G.N h h') (p : β <+: β') : ∀ {es : List (D × D)} {xs : List DictEntry}, Ents G h β hash es xs → Ents G h' β' hash es xs
  | _, _, .nil => .nil
  | _, _, .cons rk rv r => .cons (rk.mono k p) (rv.mono k p) (Ents.mono k p r)

end Mine

/-! part MSnd2 -/
namespace Mine
open PySem PyProof.Rows

noncomputable def flatHash (w : World) : D → Int
  | .int i => hashInt i
  | .str s => hashStr w (tx s)
  | _ => 0
noncomputable def hashD (w : World) : D → Int
  | .tup ds => reduceHash (Builtin.Tuple.tupleHashOf (ds.map (flatHash w)))
  | d => flatHash w d

/-- the fields of an instance -/
inductive Flds (G : Gd) (h : Heap) (β : List Addr) : List (Nat × D) → List DictEntry → Prop
  | nil : Flds G h β [] []
  | cons {a : Nat} {x : Str} {t : Tok} {v : D} {vv : Value} {hs : Int} {fs : List (Nat × D)} {xs : List DictEntry} (hx : allNames[a]? = some x) (rv : Rel G h β v vv) (r : Flds G h β fs xs) :
      Flds G h β ((a, v) :: fs) (⟨hs, .str x t, vv⟩ :: xs)
theorem Flds.mono {G : Gd} {h h' : Heap} {β β' : List Addr} (k : Firm G.N h h') (p : β <+: β') : ∀ {fs : List (Nat × D)} {xs : List DictEntry}, Flds G h β fs xs → Flds G h' β' fs xs
  | _, _, .nil => .nil
  | _, _, .cons hx rv r => .cons hx (rv.mono k p) (Flds.mono k p r)

inductive CObj (G : Gd) (h : Heap) (β : List Addr) : AObj → Addr → Prop
  | list {a : Addr} {vs : List Value} {n : Nat} {ds : List D} (ho : h.get? a = some (lstO vs n)) (r : RelL G h β ds vs) (new : G.H.get? a = none) (sz : ds.length ≤ cap) : CObj G h β (.list ds) a
  | froz {a : Addr} {o : Obj} {vs : List Value} {n : Nat} {ds : List D} (ho : G.H.get? a = some o) (hc : o.cls = .type "list") (hd : o.data = .seq vs.toArray n) (r : RelL G h β ds vs) (sz : ds.length ≤ cap) : CObj G h β (.froz ds) a
  | dict {a : Addr} {xs : List DictEntry} {n : Nat} {es : List (D × D)} (ho : h.get? a = some (dctO xs n)) (r : Ents G h β (hashD G.w) es xs) (nd : (es.map (·.1)).Nodup) (new : G.H.get? a = none) (sz : es.length ≤ cap) : CObj G h β (.dict es) a
  | fdict {a : Addr} {xs : List DictEntry} {n : Nat} {es : List (D × D)} (ho : G.H.get? a = some (dctO xs n)) (r : Ents G h β (hashD G.w) es xs) (nd : (es.map (·.1)).Nodup) (sz : es.length ≤ cap) : CObj G h β (.fdict es) a
  | inst {a d : Addr} {k c : Nat} (hd : β[k]? = some d) (ho : h.get? a = some ⟨.ref G.fc, some d, .plain, #[]⟩) (new : G.H.get? a = none) : CObj G h β (.inst c k) a
  | flds {a : Addr} {xs : List DictEntry} {n : Nat} {fs : List (Nat × D)} (ho : h.get? a = some (dctO xs n)) (r : Flds G h β fs xs) (new : G.H.get? a = none) (sz : fs.length ≤ 100) : CObj G h β (.flds fs) a

structure Inv (G : Gd) (β : List Addr) (σ : Sto) (h : Heap) : Prop where
  keep : ∀ b o, G.H.get? b = some o → h.get? b = some o
  base : G.b0 <+: β
  len : β.length = σ.length
  nodup : β.Nodup
  obj : ∀ (i : Nat) (ob : AObj), σ[i]? = some ob → ∃ a, β[i]? = some a ∧ CObj G h β ob a

theorem CObj.at {G : Gd} {h : Heap} {β : List Addr} {ob : AObj} {a : Addr} (k : ∀ b o, G.H.get? b = some o → h.get? b = some o) (c : CObj G h β ob a) :
    ∃ o, h.get? a = some o ∧ o.cls ≠ .type "tuple" ∧ (∀ fs, o.data ≠ .fields fs) ∧ ∀ v, o.data ≠ .cell v := by
  cases c with
  | list ho => exact ⟨_, ho, (by simp), (by intro _ h; cases h), (by intro _ h; cases h)⟩
  | froz ho hc hd => exact ⟨_, k _ _ ho, (by rw [hc]; simp), (by intro _ h; rw [hd] at h; cases h), (by intro _ h; rw [hd] at h; cases h)⟩
  | dict ho => exact ⟨_, ho, (by simp), (by intro _ h; cases h), (by intro _ h; cases h)⟩
  | fdict ho => exact ⟨_, k _ _ ho, (by simp), (by intro _ h; cases h), (by intro _ h; cases h)⟩
  | inst _ ho => exact ⟨_, ho, (by simp), (by intro _ h; cases h), (by intro _ h; cases h)⟩
  | flds ho => exact ⟨_, ho, (by simp), (by intro _ h; cases h), (by intro _ h; cases h)⟩

theorem Inv.mem {G : Gd} {β : List Addr} {σ : Sto} {h : Heap} (I : Inv G β σ h) {a : Addr} (ha : a ∈ β) : ∃ (i : Nat) (ob : AObj), β[i]? = some a ∧ σ[i]? = some ob ∧ CObj G h β ob a := by
  obtain ⟨i, hi, e⟩ := List.mem_iff_getElem.mp ha
  have hi' : i < σ.length := I.len ▸ hi
  have e1 : β[i]? = some a := by rw [List.getElem?_eq_getElem hi, e]
  have e2 : σ[i]? = some σ[i] := List.getElem?_eq_getElem hi'
  obtain ⟨a', h1, h2⟩ := I.obj i _ e2
  rw [e1] at h1; cases h1
  exact ⟨i, _, e1, e2, h2⟩
/-- an object of the store is no tuple, no record, no cell -/
theorem Inv.at {G : Gd} {β : List Addr} {σ : Sto} {h : Heap} (I : Inv G β σ h) {a : Addr} (ha : a ∈ β) :
    ∃ o, h.get? a = some o ∧ o.cls ≠ .type "tuple" ∧ (∀ fs, o.data ≠ .fields fs) ∧ ∀ v, o.data ≠ .cell v := by
  obtain ⟨i, ob, _, _, c⟩ := I.mem ha
  exact c.at I.keep
theorem Inv.lt {G : Gd} {β : List Addr} {σ : Sto} {h : Heap} (I : Inv G β σ h) {a : Addr} (ha : a ∈ β) : a < h.objs.size := by
  obtain ⟨o, ho, _⟩ := I.at ha
  exact Heap.lt_size ho
theorem Inv.firm_notin {G : Gd} {β : List Addr} {σ : Sto} {h : Heap} (I : Inv G β σ h) {a : Addr} {o : Obj} (e : h.get? a = some o) (q : firmO o) : a ∉ β := fun ha => by
  obtain ⟨o', ho', h1, h2, _⟩ := I.at ha
  rw [e] at ho'; cases ho'
  rcases q with ⟨q, _⟩ | ⟨fs, q⟩
  · exact h1 q
  · exact h2 fs q

theorem CObj.mono {G : Gd} {h h' : Heap} {β β' : List Addr} {ob : AObj} {a : Addr} (k : Firm G.N h h') (p : β <+: β') (ka : ∀ o, h.get? a = some o → h'.get? a = some o) (c : CObj G h β ob a) : CObj G h' β' ob a := by
  cases c with
  | list ho r new sz => exact .list (ka _ ho) (r.mono k p) new sz
  | froz ho hc hd r sz => exact .froz ho hc hd (r.mono k p) sz
  | dict ho r nd new sz => exact .dict (ka _ ho) (r.mono k p) nd new sz
  | fdict ho r nd sz => exact .fdict ho (r.mono k p) nd sz
  | inst hd ho new => exact .inst (pre_get p hd) (ka _ ho) new
  | flds ho r new sz => exact .flds (ka _ ho) (r.mono k p) new sz

/-- the same store in a heap that keeps what it leans on -/
theorem Inv.keeps {G : Gd} {β : List Addr} {σ : Sto} {h h' : Heap} (I : Inv G β σ h) (k : ∀ b o, G.H.get? b = some o → h'.get? b = some o) (f : Firm G.N h h') (kb : ∀ b ∈ β, ∀ o, h.get? b = some o → h'.get? b = some o) : Inv G β σ h' := by
  refine ⟨k, I.base, I.len, I.nodup, fun i ob e => ?_⟩
  obtain ⟨a, h1, h2⟩ := I.obj i ob e
  exact ⟨a, h1, h2.mono f (List.prefix_refl _) fun o ho => kb a (List.mem_of_getElem? h1) o ho⟩
theorem Inv.grown {G : Gd} {β : List Addr} {σ : Sto} {h h' : Heap} (I : Inv G β σ h) (k : ∀ b o, h.get? b = some o → h'.get? b = some o) : Inv G β σ h' :=
  I.keeps (fun b o e => k b o (I.keep b o e)) (Firm.of_keeps k) fun b _ o e => k b o e

/-- a new object -/
theorem Inv.push {G : Gd} {β : List Addr} {σ : Sto} {h : Heap} {a : Addr} {ob : AObj} (I : Inv G β σ h) (hna : a ∉ β) (c : CObj G h (β ++ [a]) ob a) : Inv G (β ++ [a]) (σ ++ [ob]) h := by
  refine ⟨I.keep, I.base.trans (List.prefix_append ..), by simp [I.len], ?_, fun i ob' e => ?_⟩
  · rw [List.nodup_append]; exact ⟨I.nodup, by simp, by intro x hx y hy; simp at hy; subst hy; exact fun q => hna (q ▸ hx)⟩
  · rcases Nat.lt_or_ge i σ.length with hi | hi
    · rw [List.getElem?_append_left hi] at e
      obtain ⟨a', h1, h2⟩ := I.obj i ob' e
      exact ⟨a', pre_get (List.prefix_append ..) h1, h2.mono (Firm.refl _) (List.prefix_append ..) fun o ho => ho⟩
    · rw [List.getElem?_append_right hi] at e
      have hi0 : i - σ.length = 0 := by
        rcases Nat.eq_zero_or_pos (i - σ.length) with q | q
        · exact q
        · rw [List.getElem?_eq_none (by simp; omega)] at e; cases e
      rw [hi0] at e; simp at e; subst e
      refine ⟨a, ?_, c⟩
      rw [List.getElem?_append_right (by rw [I.len]; omega), show i - β.length = 0 by rw [I.len]; omega]; rfl

/-- an object turned -/
theorem Inv.update {G : Gd} {β : List Addr} {σ : Sto} {h h' : Heap} {a : Addr} {i : Nat} {ob : AObj} (I : Inv G β σ h) (hs : ∀ b o, b ≠ a → h.get? b = some o → h'.get? b = some o) (hi : β[i]? = some a) (new : G.H.get? a = none)
    (c : (Firm G.N h h') → CObj G h' β ob a) : Inv G β (σ.set i ob) h' := by
  have hf : Firm G.N h h' := fun b o _ e q => hs b o (fun hb => I.firm_notin e q (hb ▸ List.mem_of_getElem? hi)) e
  refine ⟨fun b o e => hs b o (fun hb => by rw [hb, new] at e; cases e) (I.keep b o e), I.base, by simp [I.len], I.nodup, fun j ob' e => ?_⟩
  rw [List.getElem?_set] at e
  split at e
  · rename_i hij
    subst hij
    split at e
    · cases e; exact ⟨a, hi, c hf⟩
    · cases e
  · rename_i hij
    obtain ⟨a', h1, h2⟩ := I.obj j ob' e
    refine ⟨a', h1, h2.mono hf (List.prefix_refl _) fun o ho => hs a' o (fun q => ?_) ho⟩
    subst q
    have hl1 := (List.getElem?_eq_some_iff.mp hi)
    have hl2 := (List.getElem?_eq_some_iff.mp h1)
    obtain ⟨l1, e1⟩ := hl1
    obtain ⟨l2, e2⟩ := hl2
    exact hij ((List.getElem_inj I.nodup).mp (e1.trans e2.symm))

/-- a step of the machine: what it may change is the store's objects and X -/
structure Stp (G : Gd) (fs : List Addr) (X : Addr → Prop) (β β' : List Addr) (σ' : Sto) (s s' : Shared) : Prop where
  pre : β <+: β'
  new : ∀ a ∈ β', a ∈ β ∨ s.heap.objs.size ≤ a
  inv : Inv G β' σ' s'.heap
  ext : ∀ b o, s.heap.get? b = some o → b ∉ β → ¬ X b → b ∉ fs → s'.heap.get? b = some o
  ns : ∀ b m, s.heap.Ns b m → b ∉ β → ¬ X b → s'.heap.Ns b m
  size : s.heap.objs.size ≤ s'.heap.objs.size
  gens : s'.gens = s.gens
  os : s'.os = s.os

theorem Stp.trans {G : Gd} {fs : List Addr} {X : Addr → Prop} {β β' β'' : List Addr} {σ' σ'' : Sto} {s s' s'' : Shared} (a : Stp G fs X β β' σ' s s') (b : Stp G fs X β' β'' σ'' s' s'') : Stp G fs X β β'' σ'' s s'' := by
  have nb : ∀ x o, s.heap.get? x = some o → x ∉ β → x ∉ β' := fun x o e n q => by
    rcases a.new x q with q | q
    · exact n q
    · exact Nat.lt_irrefl _ (Nat.lt_of_lt_of_le (Heap.lt_size e) q)
  refine ⟨a.pre.trans b.pre, fun x hx => ?_, b.inv, fun x o e n nx nf => b.ext x o (a.ext x o e n nx nf) (nb x o e n) nx nf, fun x m e n nx => b.ns x m (a.ns x m e n nx) (fun q => ?_) nx, Nat.le_trans a.size b.size, b.gens.trans a.gens, b.os.trans a.os⟩
  · rcases b.new x hx with q | q
    · exact a.new x q
    · exact .inr (Nat.le_trans a.size q)
  · obtain ⟨o, _, _, ho, _⟩ := e
    exact nb x o ho n q

theorem Stp.refl {G : Gd} {fs : List Addr} {X : Addr → Prop} {β : List Addr} {σ : Sto} {s : Shared} (I : Inv G β σ s.heap) : Stp G fs X β β σ s s :=
  ⟨List.prefix_refl _, fun _ h => .inl h, I, fun _ _ e _ _ _ => e, fun _ _ e _ _ => e, Nat.le_refl _, rfl, rfl⟩

theorem Stp.weaken {G : Gd} {fs : List Addr} {X X' : Addr → Prop} {β β' : List Addr} {σ' : Sto} {s s' : Shared} (a : Stp G fs X β β' σ' s s') (h : ∀ b, X b → X' b) : Stp G fs X' β β' σ' s s' :=
  ⟨a.pre, a.new, a.inv, fun b o e n nx nf => a.ext b o e n (fun q => nx (h b q)) nf, fun b m e n nx => a.ns b m e n fun q => nx (h b q), a.size, a.gens, a.os⟩

/-- what only makes things -/
theorem Stp.grow {G : Gd} {fs : List Addr} {X : Addr → Prop} {β : List Addr} {σ : Sto} {s s' : Shared} (I : Inv G β σ s.heap) (k : ∀ b o, s.heap.get? b = some o → s'.heap.get? b = some o) (hz : s.heap.objs.size ≤ s'.heap.objs.size)
    (hg : s'.gens = s.gens) (ho : s'.os = s.os) : Stp G fs X β β σ s s' :=
  ⟨List.prefix_refl _, fun _ h => .inl h, I.grown k, fun b o e _ _ _ => k b o e, fun b m e _ _ => e.keeps k, hz, hg, ho⟩

theorem Stp.firm {G : Gd} {fs : List Addr} {X : Addr → Prop} {β β' : List Addr} {σ σ' : Sto} {s s' : Shared} (a : Stp G fs X β β' σ' s s') (I : Inv G β σ s.heap) (hx : ∀ b o, s.heap.get? b = some o → firmO o → ¬ X b ∧ b ∉ fs) : Firm G.N s.heap s'.heap :=
  fun b o _ e q => a.ext b o e (I.firm_notin e q) (hx b o e q).1 (hx b o e q).2

end Mine

/-! part MSnd3 -/
namespace Mine
open PySem PyProof.Rows

noncomputable def fsOf (envs : List Env) : List Addr := envs.filterMap (·.frame)
noncomputable abbrev Gd.M (G : Gd) : Model := model G.prog G.w
noncomputable abbrev no : Addr → Prop := fun _ => False

structure EnvR (G : Gd) (env : Env) (vars : List (Option Str)) (β : List Addr) (ρ : Rho) (h : Heap) : Prop where
  kind : env.scope.kind = .function
  glob : env.globals = mainGlobals
  blt : env.builtins = builtinsNs
  above : G.H.objs.size ≤ env.locals
  notin : env.locals ∉ β
  ns : ∃ m, h.Ns env.locals m ∧ ∀ (i : Nat) (x : Str) (d : D), vars[i]? = some (some x) → env.kindOf x = some .local → ρ[i]? = some (some d) → ∃ v, m x = some v ∧ Rel G h β d v
  cells : ∀ (i : Nat) (x : Str), vars[i]? = some (some x) → (env.kindOf x = some .cell ∨ env.kindOf x = some .free) →
    ∃ c ov, env.cells.lookup x = some c ∧ G.H.objs.size ≤ c ∧ h.IsCell c ov ∧ ∀ d, ρ[i]? = some (some d) → ∃ v, ov = some v ∧ Rel G h β d v
  apart : ∀ x y c, env.cells.lookup x = some c → env.cells.lookup y = some c → x = y
  len : ρ.length = vars.length

structure ArOk (G : Gd) (n : Nat) (hd : Bool) (A : Around) (env : Env) (envs : List Env) (β : List Addr) (h : Heap) : Prop where
  fr : A.frames = some envs
  hf : ∃ e0 rest, envs = e0 :: rest ∧ e0.frame = env.frame
  frs : ∀ e ∈ envs, e.scope.kind ≠ .module ∧ ∃ L m, e.frame = some L ∧ G.H.objs.size ≤ L ∧ L ∉ β ∧ h.Ns L m
  depth : A.depth + 4 * (n + 1) < recursionLimit
  units : A.units + 100 * (n + 1) < cLine
  handled : A.handled = none

structure At (G : Gd) (n : Nat) (hd : Bool) (A : Around) (env : Env) (envs : List Env) (C : CC) (β : List Addr) (ρ : Rho) (σ : Sto) (s : Shared) : Prop where
  inv : Inv G β σ s.heap
  er : EnvR G env C.vars β ρ s.heap
  ar : ArOk G n hd A env envs β s.heap
  sc : env.scope = C.sc
  gg : C.g = G.g
  nlt : ∀ b, G.N b → b < s.heap.objs.size

theorem ArOk.fs_data {G : Gd} {n : Nat} {hd : Bool} {A : Around} {env : Env} {envs : List Env} {β : List Addr} {h : Heap} (a : ArOk G n hd A env envs β h) {b : Addr} (hb : b ∈ fsOf envs) :
    ∃ o es k, h.get? b = some o ∧ o.data = .dict es k ∧ G.H.objs.size ≤ b ∧ b ∉ β := by
  obtain ⟨e, he, hf⟩ := List.mem_filterMap.mp hb
  obtain ⟨_, L, m, h1, h2, h3, o, es, k, h4, h5, _⟩ := a.frs e he
  rw [h1] at hf; cases hf
  exact ⟨o, es, k, h4, h5, h2, h3⟩
theorem ArOk.cell_fs {G : Gd} {n : Nat} {hd : Bool} {A : Around} {env : Env} {envs : List Env} {β : List Addr} {h : Heap} (a : ArOk G n hd A env envs β h) {b : Addr} {v : Option Value} (x : h.IsCell b v) : b ∉ fsOf envs := fun hb => by
  obtain ⟨o', es, k, h1, h2, _⟩ := a.fs_data hb
  obtain ⟨o, ho, hd⟩ := x
  rw [ho] at h1; cases h1
  rw [h2] at hd; cases hd

theorem ArOk.firm_fs {G : Gd} {n : Nat} {hd : Bool} {A : Around} {env : Env} {envs : List Env} {β : List Addr} {h : Heap} (a : ArOk G n hd A env envs β h) {b : Addr} {o : Obj} (e : h.get? b = some o) (q : firmO o) : b ∉ fsOf envs := fun hb => by
  obtain ⟨o', es, k, h1, h2, _⟩ := a.fs_data hb
  rw [e] at h1; cases h1
  rcases q with ⟨_, vs, m, q⟩ | ⟨fs, q⟩ <;> (rw [h2] at q; cases q)

theorem At.firm {G : Gd} {n : Nat} {hd : Bool} {A : Around} {env : Env} {envs : List Env} {C : CC} {β β' : List Addr} {ρ : Rho} {σ σ' : Sto} {s s' : Shared} (a : At G n hd A env envs C β ρ σ s) (st : Stp G (fsOf envs) no β β' σ' s s') : Firm G.N s.heap s'.heap :=
  st.firm a.inv fun _ _ e q => ⟨id, a.ar.firm_fs e q⟩

theorem Stp.notin {G : Gd} {fs : List Addr} {X : Addr → Prop} {β β' : List Addr} {σ' : Sto} {s s' : Shared} (st : Stp G fs X β β' σ' s s') {b : Addr} (hb : b < s.heap.objs.size) (n : b ∉ β) : b ∉ β' := fun q => by
  rcases st.new b q with q | q
  · exact n q
  · exact Nat.lt_irrefl _ (Nat.lt_of_lt_of_le hb q)

theorem Inv.cell_notin {G : Gd} {β : List Addr} {σ : Sto} {h : Heap} (I : Inv G β σ h) {c : Addr} {v : Option Value} (x : h.IsCell c v) : c ∉ β := fun hc => by
  obtain ⟨o, ho, hd⟩ := x
  obtain ⟨o', ho', _, _, h3⟩ := I.at hc
  rw [ho] at ho'; cases ho'
  exact h3 _ hd

/-- where a step that stores no name leads -/
theorem At.step {G : Gd} {n : Nat} {hd : Bool} {A : Around} {env : Env} {envs : List Env} {C : CC} {β β' : List Addr} {ρ : Rho} {σ σ' : Sto} {s s' : Shared} (a : At G n hd A env envs C β ρ σ s) (st : Stp G (fsOf envs) no β β' σ' s s') : At G n hd A env envs C β' ρ σ' s' := by
  have f := a.firm st
  refine ⟨st.inv, ⟨a.er.kind, a.er.glob, a.er.blt, a.er.above, ?_, ?_, ?_, a.er.apart, a.er.len⟩, ⟨a.ar.fr, a.ar.hf, ?_, a.ar.depth, a.ar.units, a.ar.handled⟩, a.sc, a.gg, fun b hb => Nat.lt_of_lt_of_le (a.nlt b hb) st.size⟩
  · obtain ⟨m, hn, _⟩ := a.er.ns
    exact st.notin hn.lt a.er.notin
  · obtain ⟨m, hn, r⟩ := a.er.ns
    refine ⟨m, st.ns _ _ hn a.er.notin id, fun i x d h1 h2 h3 => ?_⟩
    obtain ⟨v, hv, hr⟩ := r i x d h1 h2 h3
    exact ⟨v, hv, hr.mono f st.pre⟩
  · intro i x h1 h2
    obtain ⟨c, ov, k1, k2, k3, k4⟩ := a.er.cells i x h1 h2
    refine ⟨c, ov, k1, k2, (by obtain ⟨o, ho, hd⟩ := k3; exact ⟨o, st.ext _ o ho (a.inv.cell_notin ⟨o, ho, hd⟩) id (a.ar.cell_fs ⟨o, ho, hd⟩), hd⟩), fun d hd => ?_⟩
    obtain ⟨v, hv, hr⟩ := k4 d hd
    exact ⟨v, hv, hr.mono f st.pre⟩
  · intro e he
    obtain ⟨k1, L, m, k2, k3, k4, k5⟩ := a.ar.frs e he
    exact ⟨k1, L, m, k2, k3, st.notin k5.lt k4, st.ns L m k5 k4 id⟩

structure Fly (G : Gd) (envs : List Env) (X : Addr → Prop) (β : List Addr) (σ' : Sto) (c : Nat) (s : Shared) (e : Addr) (s' : Shared) : Prop where
  ex : ∃ base β' a0, β <+: β' ∧ (∀ a ∈ β', a ∈ β ∨ s.heap.objs.size ≤ a) ∧ Inv G β' σ' base ∧
    (∀ b o, s.heap.get? b = some o → b ∉ β → ¬ X b → b ∉ fsOf envs → base.get? b = some o) ∧
    (∀ b m, s.heap.Ns b m → b ∉ β → ¬ X b → s'.heap.Ns b m) ∧
    Heap.FlyingW base envs e (G.ec c) a0 s'.heap
  size : s.heap.objs.size ≤ s'.heap.objs.size
  gens : s'.gens = s.gens
  os : s'.os = s.os

theorem Fly.after {G : Gd} {envs : List Env} {X : Addr → Prop} {β β₁ : List Addr} {σ₁ σ' : Sto} {c : Nat} {s s₁ s' : Shared} {e : Addr} (a : Stp G (fsOf envs) X β β₁ σ₁ s s₁) (f : Fly G envs X β₁ σ' c s₁ e s') : Fly G envs X β σ' c s e s' := by
  obtain ⟨⟨base, β', a0, p, nw, iv, ex, sl, fl⟩, sz, g, o⟩ := f
  have nb : ∀ x o, s.heap.get? x = some o → x ∉ β → x ∉ β₁ := fun x o e n q => by
    rcases a.new x q with q | q
    · exact n q
    · exact Nat.lt_irrefl _ (Nat.lt_of_lt_of_le (Heap.lt_size e) q)
  refine ⟨⟨base, β', a0, a.pre.trans p, fun x hx => ?_, iv, fun b ob h1 h2 h3 h4 => ex b ob (a.ext b ob h1 h2 h3 h4) (nb b ob h1 h2) h3 h4, fun b m h1 h2 h3 => ?_, fl⟩, Nat.le_trans a.size sz, g.trans a.gens, o.trans a.os⟩
  · rcases nw x hx with q | q
    · exact a.new x q
    · exact .inr (Nat.le_trans a.size q)
  · obtain ⟨o', _, _, ho', _⟩ := id h1
    exact sl b m (a.ns b m h1 h2 h3) (nb b o' ho' h2) h3

/-- the frame at hand, as the library says it -/
theorem At.frame {G : Gd} {n : Nat} {hd : Bool} {A : Around} {env : Env} {envs : List Env} {C : CC} {β : List Addr} {ρ : Rho} {σ : Sto} {s : Shared} (a : At G n hd A env envs C β ρ σ s) : ∃ L m, L ∈ fsOf envs ∧ L ∉ β ∧ Fr G.H L s.heap m := by
  obtain ⟨e0, rest, h1, h2⟩ := a.ar.hf
  obtain ⟨_, L, m, k2, k3, k4, k5⟩ := a.ar.frs e0 (by rw [h1]; exact .head _)
  exact ⟨L, m, List.mem_filterMap.mpr ⟨e0, by rw [h1]; exact .head _, k2⟩, k4, k5, a.inv.keep, k3⟩

/-- the whole ledger -/
noncomputable def ledger (h₀ : Heap) (L : Addr) (h : Heap) : List (Addr × Obj) := (List.range h.objs.size).filterMap fun a => if a = L ∨ (h₀.get? a).isSome = true then none else (h.get? a).map (a, ·)
theorem ledger_news (h₀ : Heap) (L : Addr) (h : Heap) : News h₀ L h (ledger h₀ L h) := fun p hp => by
  obtain ⟨a, _, ha⟩ := List.mem_filterMap.mp hp
  split at ha
  · cases ha
  · rename_i q
    cases e : h.get? a with
    | none => rw [e] at ha; cases ha
    | some o =>
      rw [e] at ha; cases ha
      refine ⟨e, fun x => q (.inl x), ?_⟩
      cases e2 : h₀.get? a with
      | none => rfl
      | some o' => exact absurd (.inr (by rw [e2]; rfl)) q
theorem mem_ledger {h₀ : Heap} {L : Addr} {h : Heap} {a : Addr} {o : Obj} (e : h.get? a = some o) (h1 : a ≠ L) (h2 : h₀.get? a = none) : (a, o) ∈ ledger h₀ L h :=
  List.mem_filterMap.mpr ⟨a, List.mem_range.mpr (Heap.lt_size e), by rw [if_neg (by rintro (q | q); exact h1 q; rw [h2] at q; cases q), e]; rfl⟩
/-- what a rule of the library leaves: everything but the frame stands -/
theorem ledger_keeps {h₀ : Heap} {L : Addr} {h h' : Heap} {m m' : Str → Option Value} {news : List (Addr × Obj)} (F : Fr h₀ L h m) (F' : Fr h₀ L h' m') (N' : News h₀ L h' news) (hs : ∀ p ∈ ledger h₀ L h, p ∈ news) {b : Addr} {o : Obj} (e : h.get? b = some o) (hb : b ≠ L) : h'.get? b = some o := by
  cases q : h₀.get? b with
  | none => exact (N' _ (hs _ (mem_ledger e hb q))).1
  | some o' =>
    have := F.keep b o' q
    rw [e] at this; cases this
    exact F'.keep b o q

/-- a rule of the library that only makes things -/
theorem ledger_stp {G : Gd} {n : Nat} {hd : Bool} {A : Around} {env : Env} {envs : List Env} {C : CC} {β : List Addr} {ρ : Rho} {σ : Sto} {s : Shared} (a : At G n hd A env envs C β ρ σ s) {L : Addr} {m : Str → Option Value} {h' : Heap} {news : List (Addr × Obj)} {tk : Nat}
    (hL : L ∈ fsOf envs) (hLβ : L ∉ β) (F : Fr G.H L s.heap m) (F' : Fr G.H L h' m) (N' : News G.H L h' news) (hs : ∀ p ∈ ledger G.H L s.heap, p ∈ news) (hz : s.heap.objs.size ≤ h'.objs.size) : Stp G (fsOf envs) no β β σ s { s with heap := h', toks := tk } := by
  have k : ∀ b o, s.heap.get? b = some o → b ≠ L → h'.get? b = some o := fun b o e hb => ledger_keeps F F' N' hs e hb
  refine ⟨List.prefix_refl _, fun _ h => .inl h, a.inv.keeps F'.keep (fun b o _ e q => k b o e fun hb => a.ar.firm_fs e q (hb ▸ hL)) fun b hb o e => k b o e fun q => hLβ (q ▸ hb), fun b o e _ _ nf => k b o e fun hb => nf (hb ▸ hL), fun b m' e nb _ => ?_, hz, rfl, rfl⟩
  by_cases hb : b = L
  · subst hb
    have e2 := F.ns
    have : m' = m := by
      obtain ⟨o, es, ep, ho, hd, _, hf⟩ := e
      obtain ⟨o2, es2, ep2, ho2, hd2, _, hf2⟩ := e2
      rw [ho] at ho2; cases ho2
      rw [hd] at hd2; cases hd2
      funext x; rw [← hf x, ← hf2 x]
    rw [this]; exact F'.ns
  · obtain ⟨o, es, ep, ho, r⟩ := e
    exact ⟨o, es, ep, k b o ho hb, r⟩

/-- a new list -/
theorem ledger_list {G : Gd} {n : Nat} {hd : Bool} {A : Around} {env : Env} {envs : List Env} {C : CC} {β : List Addr} {ρ : Rho} {σ : Sto} {s : Shared} (a : At G n hd A env envs C β ρ σ s) {L D : Addr} {m : Str → Option Value} {h' : Heap} {news : List (Addr × Obj)} {tk k : Nat} {vs : List Value} {ds : List Mine.D}
    (hL : L ∈ fsOf envs) (hLβ : L ∉ β) (F : Fr G.H L s.heap m) (F' : Fr G.H L h' m) (N' : News G.H L h' news) (hs : ∀ p ∈ ledger G.H L s.heap, p ∈ news) (hD : (D, lstO vs k) ∈ news) (hn : s.heap.objs.size ≤ D) (r : RelL G s.heap β ds vs) (sz : ds.length ≤ cap) :
    ∃ β', Stp G (fsOf envs) no β β' (σ ++ [.list ds]) s { s with heap := h', toks := tk } ∧ Rel G h' β' (.ref σ.length) (.ref D) := by
  have hz : s.heap.objs.size ≤ h'.objs.size := Nat.le_trans hn (Nat.le_of_lt (Heap.lt_size (N' _ hD).1))
  have st := ledger_stp (tk := tk) a hL hLβ F F' N' hs hz
  have hna : D ∉ β := fun q => Nat.lt_irrefl _ (Nat.lt_of_lt_of_le (a.inv.lt q) hn)
  refine ⟨β ++ [D], ⟨List.prefix_append .., fun x hx => ?_, st.inv.push hna (.list (N' _ hD).1 (r.mono (a.firm st) (List.prefix_append ..)) (N' _ hD).2.2 sz), st.ext, st.ns, st.size, rfl, rfl⟩, .ref ?_⟩
  · rcases List.mem_append.mp hx with q | q
    · exact .inl q
    · simp at q; subst q; exact .inr hn
  · rw [List.getElem?_append_right (by rw [a.inv.len]; exact Nat.le_refl _), a.inv.len, Nat.sub_self]; rfl

noncomputable def PostE (G : Gd) (envs : List Env) (β : List Addr) (s : Shared) (r : Res D) (v : Value) (s' : Shared) : Prop :=
  ∃ d σ' β', r = .ok d σ' ∧ Stp G (fsOf envs) no β β' σ' s s' ∧ Rel G s'.heap β' d v
noncomputable def PostX (G : Gd) (envs : List Env) {α : Type} (β : List Addr) (s : Shared) (r : Res α) (x : Value) (s' : Shared) : Prop :=
  ∃ c σ' e, r = .exc c false σ' ∧ x = .ref e ∧ Fly G envs no β σ' c s e s'

/-- the tree m does what r says -/
noncomputable def Does (G : Gd) (A : Around) (envs : List Env) (β : List Addr) (s : Shared) (m : Sem Value) (r : Res D) : Prop :=
  r ≠ .stuck → wpAny G.M A m (PostE G envs β s r) (PostX G envs β s r) s

theorem PostX.after {G : Gd} {envs : List Env} {α γ : Type} {β β₁ : List Addr} {σ₁ : Sto} {s s₁ s' : Shared} {r : Res α} {r' : Res γ} {x : Value} (a : Stp G (fsOf envs) no β β₁ σ₁ s s₁) (p : PostX G envs β₁ s₁ r x s') (hr : ∀ c o σ, r = .exc c o σ → r' = .exc c o σ) : PostX G envs β s r' x s' := by
  obtain ⟨c, σ', e, h1, h2, h3⟩ := p
  exact ⟨c, σ', e, hr _ _ _ h1, h2, h3.after a⟩
theorem PostE.after {G : Gd} {envs : List Env} {β β₁ : List Addr} {σ₁ : Sto} {s s₁ s' : Shared} {r : Res D} {v : Value} (a : Stp G (fsOf envs) no β β₁ σ₁ s s₁) (p : PostE G envs β₁ s₁ r v s') : PostE G envs β s r v s' := by
  obtain ⟨d, σ', β', h1, h2, h3⟩ := p
  exact ⟨d, σ', β', h1, a.trans h2, h3⟩

theorem bind_ne {α γ : Type} {r : Res α} {k : α → Sto → Res γ} (h : r.bind k ≠ .stuck) : r ≠ .stuck := fun q => h (by rw [q]; rfl)

/-- one value, then the rest; the rest's end Q is free -/
theorem seqQ {G : Gd} {A : Around} {envs : List Env} {β : List Addr} {s : Shared} {m : Sem Value} {γ δ : Type} {f : Value → Sem γ} {r : Res D} {k : D → Sto → Res δ} {Q : γ → Shared → Prop} (h : Does G A envs β s m r) (hr : r.bind k ≠ .stuck)
    (hk : ∀ d σ₁ β₁ v s₁, r = .ok d σ₁ → Stp G (fsOf envs) no β β₁ σ₁ s s₁ → Rel G s₁.heap β₁ d v → k d σ₁ ≠ .stuck → wpAny G.M A (f v) Q (PostX G envs β₁ s₁ (k d σ₁)) s₁) :
    wpAny G.M A (m >>= f) Q (PostX G envs β s (r.bind k)) s := by
  refine wpAny_bind (wpAny_mono (h (bind_ne hr)) (fun v s₁ p => ?_) fun x s₁ p => ?_)
  · obtain ⟨d, σ₁, β₁, h1, h2, h3⟩ := p
    refine wpAny_mono (hk d σ₁ β₁ v s₁ h1 h2 h3 (by intro q; exact hr (by rw [h1]; exact q))) (fun _ _ y => y) fun x s' y => y.after h2 ?_
    intro c o σ q; rw [h1]; exact q
  · obtain ⟨c, σ', e, h1, h2, h3⟩ := p
    exact ⟨c, σ', e, by rw [h1]; rfl, h2, h3⟩

/-- one value, then a tree that gives a value -/
theorem seqE {G : Gd} {A : Around} {envs : List Env} {β : List Addr} {s : Shared} {m : Sem Value} {f : Value → Sem Value} {r : Res D} {k : D → Sto → Res D} (h : Does G A envs β s m r)
    (hk : ∀ d σ₁ β₁ v s₁, r = .ok d σ₁ → Stp G (fsOf envs) no β β₁ σ₁ s s₁ → Rel G s₁.heap β₁ d v → Does G A envs β₁ s₁ (f v) (k d σ₁)) :
    Does G A envs β s (m >>= f) (r.bind k) := fun hr =>
  seqQ h hr fun d σ₁ β₁ v s₁ h1 h2 h3 hne => wpAny_mono (hk d σ₁ β₁ v s₁ h1 h2 h3 hne) (fun _ _ p => by rw [h1]; exact p.after h2) fun _ _ p => p

theorem Does.of_eq {G : Gd} {A : Around} {envs : List Env} {β : List Addr} {s : Shared} {m m' : Sem Value} {r r' : Res D} (h : Does G A envs β s m r) (e : m' = m) (e' : r' = r) : Does G A envs β s m' r' := by
  subst e; subst e'; exact h

theorem Does.imp {G : Gd} {A : Around} {envs : List Env} {β : List Addr} {s : Shared} {m m' : Sem Value} {r : Res D} (h : Does G A envs β s m r) (e : ∀ Q E, wpAny G.M A m Q E s → wpAny G.M A m' Q E s) : Does G A envs β s m' r :=
  fun hr => e _ _ (h hr)

/-- a tree that changes nothing but the count of tokens -/
theorem Does.same {G : Gd} {A : Around} {envs : List Env} {β : List Addr} {σ : Sto} {s : Shared} {m : Sem Value} {d : D} (I : Inv G β σ s.heap)
    (h : ∀ Q : Value → Shared → Prop, (∀ v tk, Rel G s.heap β d v → Q v { s with toks := tk }) → wpAny G.M A m Q (fun _ _ => False) s) : Does G A envs β s m (.ok d σ) := fun _ =>
  wpAny_mono (h _ fun v tk r => ⟨d, σ, β, rfl, Stp.grow I (fun _ _ e => e) (Nat.le_refl _) rfl rfl, r⟩) (fun _ _ p => p) fun _ _ f => f.elim

end Mine

/-! part MSnd4 -/
namespace Mine
open PySem PyProof.Rows

section
variable {G : Gd} {n : Nat} {hd : Bool} {A : Around} {env : Env} {envs : List Env} {C : CC} {β : List Addr} {ρ : Rho} {σ : Sto} {s : Shared}

theorem Does.holding {m : Sem Value} {r : Res D} {vs : List Value} (h : Does G A envs β s m r) : Does G A envs β s (PySem.holding vs m) r := h.imp fun _ _ x => wpAny_holding x
theorem Does.stand {m : Sem Value} {r : Res D} {pos : Pos} (h : Does G A envs β s m r) : Does G A envs β s (standAt pos >>= fun _ => m) r := h.imp fun _ _ x => wpAny_bind (wpAny_standAt x)
theorem wpAny_operate {M : Model} {vs : List Value} {m : Sem Value} {Q : Value → Shared → Prop} {E : Value → Shared → Prop} (h : wpAny M A m Q E s) : wpAny M A (operate vs m) Q E s := fun Γ p hΓ => by rw [Sem.wp_operate]; exact h Γ p hΓ
theorem Does.operate {m : Sem Value} {r : Res D} {vs : List Value} (h : Does G A envs β s m r) : Does G A envs β s (PySem.operate vs m) r := h.imp fun _ _ x => wpAny_operate x

theorem Does.int {m : Sem Value} {i : Int} (a : At G n hd A env envs C β ρ σ s) (h : ∀ Q : Value → Shared → Prop, Q (.int i s.toks) { s with toks := s.toks + 1 } → wpAny G.M A m Q (fun _ _ => False) s) : Does G A envs β s m (.ok (.int i) σ) :=
  Does.same a.inv fun Q hQ => h Q (hQ _ _ (.int i _))
theorem Does.bool {m : Sem Value} {b : Bool} (a : At G n hd A env envs C β ρ σ s) (h : ∀ Q : Value → Shared → Prop, Q (.bool b) s → wpAny G.M A m Q (fun _ _ => False) s) : Does G A envs β s m (.ok (.bool b) σ) :=
  Does.same a.inv fun Q hQ => h Q (hQ _ s.toks (.bool b))
theorem Does.stuck {m : Sem Value} : Does G A envs β s m .stuck := fun h => absurd rfl h
theorem Does.ite {m : Sem Value} {c : Prop} [Decidable c] {r r' : Res D} (h1 : c → Does G A envs β s m r) (h2 : ¬ c → Does G A envs β s m r') : Does G A envs β s m (if c then r else r') := by
  split
  · exact h1 ‹_›
  · exact h2 ‹_›

theorem sOk_append {x y : List Nat} (hx : sOk x = true) (hy : sOk y = true) (hz : x.length + y.length ≤ most) : sOk (x ++ y) = true := by
  simp only [sOk, Bool.and_eq_true, List.all_append, decide_eq_true_eq, List.length_append] at *
  exact ⟨⟨hx.1, hy.1⟩, hz⟩
theorem tx_append (x y : List Nat) : tx x ++ tx y = tx (x ++ y) := by
  show Str.mk _ = _
  simp [tx]
theorem tx_len (x : List Nat) : (tx x).length = x.length := by simp [tx, Str.length]

theorem bin_int (a : At G n hd A env envs C β ρ σ s) {op : Operator} {o : Bop} (ho : cBop op = some o) {i j : Int} {t u : Tok} : Does G A envs β s (binaryOp op (.int i t) (.int j u)) (binOp o (.int i) (.int j) σ) := by
  cases op <;> simp only [cBop, Option.some.injEq, reduceCtorEq] at ho <;> subst ho <;> simp only [binOp]
  · exact Does.int a fun Q h => add_int h
  · exact Does.int a fun Q h => sub_int h
  · refine Does.ite (fun hc => Does.int a fun Q h => mul_int h ?_) fun _ => Does.stuck
    rcases hc with hc | hc
    · exact .of_left (PySem.intBits_le_64 (by omega) (by omega))
    · exact .of_right (PySem.intBits_le_64 (by omega) (by omega))
  · refine Does.ite (fun hc => Does.int a fun Q h => mod_int' (by omega) ?_) fun _ => Does.stuck
    rw [Int.fmod_eq_emod_of_nonneg _ (by omega)]; exact h
  · refine Does.ite (fun hc => Does.int a fun Q h => pow_int_small hc.1 (by omega) hc.2.2 h) fun _ => Does.stuck
  · refine Does.ite (fun hc => Does.int a fun Q h => floordiv_int (by omega) ?_ (.inl ?_)) fun _ => Does.stuck
    · rw [Int.fdiv_eq_ediv_of_nonneg _ (by omega)]; exact h
    · refine PyProof.noPylong_of_log2 ?_
      have h1 := hc.1
      have h2 := hc.2
      unfold divMost at h2
      have h3 : j.natAbs ≤ 10000000000000000000000000000000000000000 := by omega
      have h4 : j.natAbs < 2 ^ 200 := Nat.lt_of_le_of_lt h3 (by decide)
      have := (Nat.log2_lt (by omega)).mpr h4
      omega

end
end Mine

/-! part MSnd5 -/
namespace Mine
open PySem PyProof.Rows

section
variable {G : Gd} {n : Nat} {hd : Bool} {A : Around} {env : Env} {envs : List Env} {C : CC} {β : List Addr} {ρ : Rho} {σ : Sto} {s : Shared}

theorem Does.str {m : Sem Value} {x : List Nat} (a : At G n hd A env envs C β ρ σ s) (ok : sOk x = true) (h : ∀ Q : Value → Shared → Prop, (∀ t tk, Q (.str (tx x) t) { s with toks := tk }) → wpAny G.M A m Q (fun _ _ => False) s) : Does G A envs β s m (.ok (.str x) σ) :=
  Does.same a.inv fun Q hQ => h Q fun t tk => hQ _ tk (.str t ok)

theorem Inv.look {σ : Sto} {h : Heap} (I : Inv G β σ h) {i : Nat} {v : Value} {ob : AObj} (r : Rel G h β (.ref i) v) (e : σ[i]? = some ob) : ∃ a, v = .ref a ∧ β[i]? = some a ∧ CObj G h β ob a := by
  cases r with
  | ref hb =>
    obtain ⟨a, h1, h2⟩ := I.obj i ob e
    rw [hb] at h1; cases h1
    exact ⟨_, rfl, hb, h2⟩
theorem Inv.list {σ : Sto} {h : Heap} (I : Inv G β σ h) {i : Nat} {v : Value} {ds : List D} (r : Rel G h β (.ref i) v) (e : σ[i]? = some (.list ds)) :
    ∃ a vs k, v = .ref a ∧ β[i]? = some a ∧ h.get? a = some (lstO vs k) ∧ RelL G h β ds vs ∧ G.H.get? a = none ∧ ds.length ≤ cap := by
  obtain ⟨a, h1, h2, c⟩ := I.look r e
  cases c with
  | list ho rl new sz => exact ⟨a, _, _, h1, h2, ho, rl, new, sz⟩

/-- a list or a tuple -/
noncomputable def SeqAt (h : Heap) (a : Addr) (vs : List Value) : Prop := h.IsList a vs.toArray ∨ h.IsTuple a vs.toArray
theorem Inv.isList {σ : Sto} {h : Heap} (I : Inv G β σ h) {ob : AObj} {a : Addr} {ds : List D} (c : CObj G h β ob a) (e : ob = .list ds ∨ ob = .froz ds) : ∃ vs, h.IsList a vs.toArray ∧ RelL G h β ds vs ∧ ds.length ≤ cap := by
  rcases e with e | e
  · subst e
    cases c with
    | list ho rl new sz => exact ⟨_, ⟨_, ho, rfl, _, rfl⟩, rl, sz⟩
  · subst e
    cases c with
    | froz ho hc hd rl sz => exact ⟨_, ⟨_, I.keep _ _ ho, hc, _, hd⟩, rl, sz⟩

theorem repeat_rel {h : Heap} {ds : List D} {vs : List Value} (r : RelL G h β ds vs) : ∀ k : Nat, RelL G h β (repeatL k ds) (repeatL k vs)
  | 0 => .nil
  | k + 1 => by
    show RelL G h β ((List.replicate (k + 1) ds).flatten) ((List.replicate (k + 1) vs).flatten)
    rw [List.replicate_succ, List.replicate_succ, List.flatten_cons, List.flatten_cons]
    exact r.append (repeat_rel r k)
theorem repeat_len {α : Type} (l : List α) : ∀ k : Nat, (repeatL k l).length = k * l.length
  | 0 => by simp [repeatL]
  | k + 1 => by
    have := repeat_len l k
    simp only [repeatL] at this ⊢
    rw [List.replicate_succ, List.flatten_cons, List.length_append, this, Nat.succ_mul, Nat.add_comm]
theorem foldl_rep {α : Type} (xs : Array α) : ∀ (k : Nat) (acc : Array α), (List.foldl (fun x1 x2 => x1 ++ x2) acc (List.replicate k xs)).toList = acc.toList ++ repeatL k xs.toList
  | 0, acc => by simp [repeatL]
  | k + 1, acc => by
    rw [List.replicate_succ, List.foldl_cons, foldl_rep xs k]
    simp [repeatL, List.replicate_succ]
theorem sOk_repeat {x : List Nat} (hx : sOk x = true) {k : Nat} (hz : k * x.length ≤ most) : sOk (repeatL k x) = true := by
  simp only [sOk, Bool.and_eq_true, decide_eq_true_eq] at *
  refine ⟨?_, by rw [repeat_len]; exact hz⟩
  rw [List.all_eq_true]
  intro c hc
  unfold repeatL at hc
  obtain ⟨l, hl, hc⟩ := List.mem_flatten.mp hc
  rw [List.eq_of_mem_replicate hl] at hc
  exact List.all_eq_true.mp hx.1 c hc

theorem most_le : most ≤ sizeLine := by decide
theorem cap_le : cap ≤ sizeLine := by decide

theorem bin_strmul (a : At G n hd A env envs C β ρ σ s) {x : List Nat} {j : Int} {t u : Tok} (hx : sOk x = true) : Does G A envs β s (binaryOp .Mult (.str (tx x) t) (.int j u)) (binOp .mul (.str x) (.int j) σ) := by
  simp only [binOp]
  refine Does.ite (fun hc => ?_) fun _ => Does.stuck
  obtain ⟨h0, h1, h2⟩ := hc
  have hm : most = 100000 := rfl
  refine Does.str a (sOk_repeat hx h1) fun Q hQ => ?_
  obtain ⟨k, rfl⟩ := Int.eq_ofNat_of_zero_le h0
  have h1' : k * x.length ≤ 100000 := by
    have h := h1
    rw [Int.toNat_natCast] at h
    exact h
  refine P.mul_str ?_ ?_ ?_ ?_
  · have hk : (k : Int) ≤ 100000 := h2
    clear h1 h2 h1' hm h0 hQ
    rw [Bool.or_eq_false_iff, decide_eq_false_iff_not, decide_eq_false_iff_not]
    exact ⟨by omega, by omega⟩
  · intro hj hl
    rw [tx_len]
    have h4 : ((x.length : Nat) : Int) * (k : Int) ≤ 2 ^ 63 - 1 := by
      have : ((x.length * k : Nat) : Int) ≤ 100000 := by rw [Nat.mul_comm]; omega
      rw [Int.natCast_mul] at this
      omega
    have := Int.le_ediv_of_mul_le (by omega : (0 : Int) < k) h4
    omega
  · intro hj hl
    unfold Builtin.Str.tooLong
    rw [tx_len, sizeLine_eq, decide_eq_false_iff_not]
    have : x.length * k = k * x.length := Nat.mul_comm ..
    simp only [Int.toNat_natCast]
    omega
  · simp only [Int.toNat_natCast] at hQ ⊢
    by_cases c1 : (k : Int) < 1
    · rw [if_pos c1]
      have : k = 0 := by omega
      subst this
      exact ⟨by decide, hQ _ _⟩
    · rw [if_neg c1]
      by_cases c2 : ((k : Int) == 1 || (tx x).length == 0) = true
      · rw [if_pos c2]
        have e : repeatL k x = x := by
          rcases Bool.or_eq_true_iff.mp c2 with c | c
          · have c' : (k : Int) = 1 := by simpa using c
            have : k = 1 := by omega
            subst this
            simp [repeatL]
          · rw [tx_len] at c
            have : x = [] := by simpa using c
            subst this
            simp [repeatL]
        rw [e] at hQ
        exact hQ t s.toks
      · rw [if_neg c2]
        refine ⟨?_, ?_⟩
        · show (Str.mk _).cps.size ≤ sizeLine
          rw [sizeLine_eq, ← Array.length_toList, foldl_rep]
          simp [repeat_len]; omega
        · have e : (⟨List.foldl (fun x1 x2 => x1 ++ x2) #[] (List.replicate k (tx x).cps)⟩ : Str) = tx (repeatL k x) := by
            show Str.mk _ = Str.mk _
            congr 1
            rw [← Array.toList_inj, foldl_rep]
            simp
          rw [e]; exact hQ _ _

theorem bin_listadd (a : At G n hd A env envs C β ρ σ s) {i j : Nat} {v w : Value} (ri : Rel G s.heap β (.ref i) v) (rj : Rel G s.heap β (.ref j) w) : Does G A envs β s (binaryOp .Add v w) (binOp .add (.ref i) (.ref j) σ) := by
  simp only [binOp]
  split
  · rename_i xs ys e1 e2
    refine Does.ite (fun hc => ?_) fun _ => Does.stuck
    obtain ⟨b1, vs, k1, rfl, _, ho1, r1, _⟩ := a.inv.list ri e1
    obtain ⟨b2, ws, k2, rfl, _, ho2, r2, _⟩ := a.inv.list rj e2
    obtain ⟨L, m, hL, hLβ, F⟩ := a.frame
    intro _
    have hm : most = 100000 := rfl
    refine add_lists (vs := vs) (ws := ws) F (ledger_news G.H L s.heap) ⟨_, ho1, rfl, _, rfl⟩ ⟨_, ho2, rfl, _, rfl⟩ (fun h' F' N' => ?_) (by rw [← r1.length, ← r2.length, sizeLine_eq]; omega)
    obtain ⟨β', st, r⟩ := ledger_list (tk := s.toks) (k := 0) (ds := xs ++ ys) a hL hLβ F F' N' (fun p hp => .tail _ hp) (.head _) (Nat.le_refl _) (r1.append r2) (by simp only [List.length_append, cap]; omega)
    exact ⟨_, _, β', rfl, st, r⟩
  · exact Does.stuck

theorem bin_listmul (a : At G n hd A env envs C β ρ σ s) {i : Nat} {j : Int} {u : Tok} {v : Value} (ri : Rel G s.heap β (.ref i) v) : Does G A envs β s (binaryOp .Mult v (.int j u)) (binOp .mul (.ref i) (.int j) σ) := by
  simp only [binOp]
  split
  · rename_i xs e1
    refine Does.ite (fun hc => ?_) fun _ => Does.stuck
    obtain ⟨b1, vs, k1, rfl, _, ho1, r1, _⟩ := a.inv.list ri e1
    obtain ⟨L, m, hL, hLβ, F⟩ := a.frame
    intro _
    have hm : most = 100000 := rfl
    obtain ⟨h0, h1, h2⟩ := hc
    refine mul_list (k := k1) (items := vs.toArray) F (ledger_news G.H L s.heap) ho1 (by omega) (by omega) (by rw [List.size_toArray, ← r1.length, Nat.mul_comm]; omega) (fun h' F' N' => ?_)
    have e : (List.foldl (fun x1 x2 => x1 ++ x2) #[] (List.replicate (if vs.toArray.isEmpty = true then 0 else j.toNat) vs.toArray)) = (repeatL j.toNat vs).toArray := by
      rw [← Array.toList_inj, foldl_rep]
      by_cases hv : vs.toArray.isEmpty = true
      · rw [if_pos hv]
        have : vs = [] := by simpa using hv
        subst this
        simp [repeatL]
      · rw [if_neg hv]; simp
    rw [e] at N'
    obtain ⟨β', st, r⟩ := ledger_list (tk := s.toks) (k := 0) (ds := repeatL j.toNat xs) a hL hLβ F F' N' (fun p hp => .tail _ hp) (.head _) (Nat.le_refl _) (repeat_rel r1 _) (by rw [repeat_len]; simp only [cap]; omega)
    exact ⟨_, _, β', rfl, st, r⟩
  · exact Does.stuck

/-- every operation of two values -/
theorem bin_sound (a : At G n hd A env envs C β ρ σ s) {op : Operator} {o : Bop} (ho : cBop op = some o) {x y : D} {v w : Value} (rx : Rel G s.heap β x v) (ry : Rel G s.heap β y w) : Does G A envs β s (binaryOp op v w) (binOp o x y σ) := by
  cases rx with
  | int i t =>
    cases ry with
    | int j u => exact bin_int a ho
    | _ => cases o <;> exact Does.stuck
  | str t ok =>
    cases ry with
    | int j u =>
      cases op <;> simp only [cBop, Option.some.injEq, reduceCtorEq] at ho <;> subst ho <;> first | exact Does.stuck | exact bin_strmul a ok
    | str u ok' =>
      cases op <;> simp only [cBop, Option.some.injEq, reduceCtorEq] at ho <;> subst ho <;> first | exact Does.stuck | skip
      simp only [binOp]
      refine Does.ite (fun hc => Does.str a (sOk_append ok ok' hc) fun Q hQ => ?_) fun _ => Does.stuck
      refine add_str (fun t' tk => ?_) (by rw [tx_len, tx_len]; exact Nat.le_trans hc most_le)
      rw [tx_append]; exact hQ _ _
    | _ => cases o <;> exact Does.stuck
  | ref hb =>
    cases ry with
    | int j u => cases op <;> simp only [cBop, Option.some.injEq, reduceCtorEq] at ho <;> subst ho <;> first | exact Does.stuck | exact bin_listmul a (.ref hb)
    | ref hb' => cases op <;> simp only [cBop, Option.some.injEq, reduceCtorEq] at ho <;> subst ho <;> first | exact Does.stuck | exact bin_listadd a (.ref hb) (.ref hb')
    | _ => cases o <;> exact Does.stuck
  | _ => cases o <;> exact Does.stuck

end
end Mine

/-! part MSnd6 -/
namespace Mine
open PySem PyProof.Rows

section
variable {G : Gd} {n : Nat} {hd : Bool} {A : Around} {env : Env} {envs : List Env} {C : CC} {β : List Addr} {ρ : Rho} {σ : Sto} {s : Shared}

theorem mapM_cons_some {α γ : Type} {f : α → Option γ} {x : α} {xs : List α} {ys : List γ} (h : (x :: xs).mapM f = some ys) : ∃ y r, f x = some y ∧ xs.mapM f = some r ∧ ys = y :: r := by
  rw [List.mapM_cons] at h
  cases h1 : f x with
  | none => rw [h1] at h; cases h
  | some y =>
    cases h2 : xs.mapM f with
    | none => rw [h1, h2] at h; cases h
    | some r => rw [h1, h2] at h; cases h; exact ⟨y, r, rfl, rfl, rfl⟩

theorem rd_reads {h : Heap} (I : Inv G β σ h) : ∀ (k : Nat) (d : D) (p : PyData) (v : Value), rd k σ d = some p → Rel G h β d v → ∃ as, Reads h v p as ∧ p.canLay0 = true ∧ p.depth ≤ k := by
  intro k
  induction k with
  | zero => intro d p v e; cases e
  | succ k ih =>
    have all : ∀ (ds : List D) (ps : List PyData) (vs : List Value), ds.mapM (rd k σ) = some ps → RelL G h β ds vs → ∃ as, ReadsAll h vs ps as ∧ PyData.canLayAll0 ps = true ∧ PyData.depthAll ps ≤ k := by
      intro ds
      induction ds with
      | nil => intro ps vs e r; cases r; cases e; exact ⟨[], .nil, rfl, Nat.zero_le _⟩
      | cons d ds ihd =>
        intro ps vs e r
        obtain ⟨y, r', h1, h2, rfl⟩ := mapM_cons_some e
        cases r with
        | cons rv rs =>
          obtain ⟨as, a1, a2, a3⟩ := ih _ _ _ h1 rv
          obtain ⟨bs, b1, b2, b3⟩ := ihd _ _ h2 rs
          exact ⟨as ++ bs, .cons a1 b1, by simp [PyData.canLayAll0, a2, b2], Nat.max_le.mpr ⟨a3, b3⟩⟩
    intro d p v e r
    cases r with
    | none => cases e; exact ⟨[], .none, rfl, Nat.zero_le _⟩
    | bool b => cases e; exact ⟨[], .bool b, rfl, Nat.zero_le _⟩
    | int i t => cases e; exact ⟨[], .int i t, rfl, Nat.zero_le _⟩
    | @str x t ok =>
      cases e
      refine ⟨[], .str _ t, ?_, Nat.zero_le _⟩
      simp only [sOk, Bool.and_eq_true] at ok
      simp only [PyData.canLay0, PyData.strOk]
      rw [← Array.all_toList]; exact ok.1
    | @tup a o m ds vs ho hc hd rl sz _ =>
      simp only [rd] at e
      cases h1 : ds.mapM (rd k σ) with
      | none => rw [h1] at e; cases e
      | some ps =>
        rw [h1] at e; cases e
        obtain ⟨as, a1, a2, a3⟩ := all _ _ _ h1 rl
        exact ⟨as, .tuple ho hc hd (by simpa using a1), by simpa [PyData.canLay0] using a2, by simp only [PyData.depth]; omega⟩
    | @ref i a hb =>
      have key : ∀ ds, (σ[i]? = some (.list ds) ∨ σ[i]? = some (.froz ds)) → (ds.mapM (rd k σ)).map PyData.list = some p → ∃ as, Reads h (.ref a) p as ∧ p.canLay0 = true ∧ p.depth ≤ k + 1 := by
        intro ds hs e
        cases h1 : ds.mapM (rd k σ) with
        | none => rw [h1] at e; cases e
        | some ps =>
          rw [h1] at e; cases e
          have : ∃ ob, σ[i]? = some ob ∧ (ob = .list ds ∨ ob = .froz ds) := by rcases hs with hs | hs <;> exact ⟨_, hs, by simp⟩
          obtain ⟨ob, ho, hob⟩ := this
          obtain ⟨a', h2, h3, c⟩ := I.look (.ref hb) ho
          cases h2
          obtain ⟨vs, ⟨o, k1, k2, m, k3⟩, rl, _⟩ := I.isList c hob
          obtain ⟨as, a1, a2, a3⟩ := all _ _ _ h1 rl
          exact ⟨_, .list k1 k2 k3 (by simpa using a1), by simpa [PyData.canLay0] using a2, by simp only [PyData.depth]; omega⟩
      simp only [rd] at e
      split at e
      · exact key _ (.inl ‹_›) e
      · exact key _ (.inr ‹_›) e
      · cases e
    | exc => simp [rd] at e

theorem rd_all {h : Heap} (I : Inv G β σ h) (k : Nat) : ∀ (ds : List D) (ps : List PyData) (vs : List Value), ds.mapM (rd k σ) = some ps → RelL G h β ds vs → ∃ as, ReadsAll h vs ps as ∧ PyData.canLayAll0 ps = true ∧ PyData.depthAll ps ≤ k
  | [], ps, vs, e, r => by cases r; cases e; exact ⟨[], .nil, rfl, Nat.zero_le _⟩
  | d :: ds, ps, vs, e, r => by
    obtain ⟨y, r', h1, h2, rfl⟩ := mapM_cons_some e
    cases r with
    | cons rv rs =>
      obtain ⟨as, a1, a2, a3⟩ := rd_reads I _ _ _ _ h1 rv
      obtain ⟨bs, b1, b2, b3⟩ := rd_all I k _ _ _ h2 rs
      exact ⟨as ++ bs, .cons a1 b1, by simp [PyData.canLayAll0, a2, b2], Nat.max_le.mpr ⟨a3, b3⟩⟩

theorem At.room (a : At G n hd A env envs C β ρ σ s) {k : Nat} (hk : k ≤ 50) : A.units + 1 + k < cLine := by
  have := a.ar.units
  omega

theorem cmp_eq (a : At G n hd A env envs C β ρ σ s) {x y : D} {v w : Value} (rx : Rel G s.heap β x v) (ry : Rel G s.heap β y w) : Does G A envs β s (compareOp .Eq v w) (cmpOp .eq x y σ) := by
  simp only [cmpOp, pyEq]
  split
  · rename_i p q h1 h2
    obtain ⟨as, a1, a2, a3⟩ := rd_reads a.inv _ _ _ _ h1 rx
    obtain ⟨bs, b1, b2, b3⟩ := rd_reads a.inv _ _ _ _ h2 ry
    refine Does.bool a fun Q hQ => ?_
    show wpAny _ _ (richCompare .Eq v w) _ _ _
    refine SeqAt.eqOverData _ _ _ _ _ _ _ _ _ _ _ _ a1 b1 a2 b2 ?_ hQ
    have := a.room (k := 8) (by decide)
    have h8 : rdDepth = 8 := rfl
    have := Nat.min_le_left p.depth q.depth
    omega
  · exact Does.stuck
theorem cmp_ne (a : At G n hd A env envs C β ρ σ s) {x y : D} {v w : Value} (rx : Rel G s.heap β x v) (ry : Rel G s.heap β y w) : Does G A envs β s (compareOp .NotEq v w) (cmpOp .ne x y σ) := by
  simp only [cmpOp, pyEq]
  split
  · rename_i p q h1 h2
    obtain ⟨as, a1, a2, a3⟩ := rd_reads a.inv _ _ _ _ h1 rx
    obtain ⟨bs, b1, b2, b3⟩ := rd_reads a.inv _ _ _ _ h2 ry
    refine Does.bool a fun Q hQ => ?_
    show wpAny _ _ (richCompare .NotEq v w) _ _ _
    refine SeqAt.neOverData _ _ _ _ _ _ _ _ _ _ _ _ a1 b1 a2 b2 ?_ hQ
    have := a.room (k := 8) (by decide)
    have h8 : rdDepth = 8 := rfl
    have := Nat.min_le_left p.depth q.depth
    omega
  · exact Does.stuck

theorem is_plain {x y : D} {v w : Value} {b : Bool} {h : Heap} (rx : Rel G h β x v) (ry : Rel G h β y w) (e : isSame x y = some b) : plainIs v w = true ∧ (v == w) = b := by
  cases rx <;> cases ry <;> simp_all [isSame, plainIs] <;> first | rfl | (rename_i a b; subst e; cases a <;> cases b <;> rfl)

theorem cmp_is (a : At G n hd A env envs C β ρ σ s) {x y : D} {v w : Value} (rx : Rel G s.heap β x v) (ry : Rel G s.heap β y w) : Does G A envs β s (compareOp .Is v w) (cmpOp .is x y σ) := by
  simp only [cmpOp]
  cases e : isSame x y with
  | none => exact Does.stuck
  | some b =>
    obtain ⟨h1, h2⟩ := is_plain rx ry e
    exact Does.bool a fun Q hQ => wpAny_is_plain h1 (by rw [h2]; exact hQ)
theorem cmp_isnot (a : At G n hd A env envs C β ρ σ s) {x y : D} {v w : Value} (rx : Rel G s.heap β x v) (ry : Rel G s.heap β y w) : Does G A envs β s (compareOp .IsNot v w) (cmpOp .isnot x y σ) := by
  simp only [cmpOp]
  cases e : isSame x y with
  | none => exact Does.stuck
  | some b =>
    obtain ⟨h1, h2⟩ := is_plain rx ry e
    exact Does.bool a fun Q hQ => wpAny_isNot_plain h1 (by rw [h2]; exact hQ)

/-- a list or a tuple, seen from its items -/
theorem Inv.seq {h : Heap} (I : Inv G β σ h) {d : D} {v : Value} {ds : List D} (r : Rel G h β d v) (e : seqOf σ d = some ds) : ∃ a vs, v = .ref a ∧ (h.IsList a vs.toArray ∨ h.IsTuple a vs.toArray) ∧ RelL G h β ds vs ∧ ds.length ≤ cap := by
  cases r with
  | tup ho hc hd rl sz _ => cases e; exact ⟨_, _, rfl, .inr ⟨_, ho, hc, _, hd⟩, rl, sz⟩
  | ref hb =>
    simp only [seqOf] at e
    split at e
    · cases e
      obtain ⟨a, h1, h2, c⟩ := I.look (.ref hb) ‹_›
      cases h1
      obtain ⟨vs, k1, rl, sz⟩ := I.isList c (.inl rfl)
      exact ⟨_, vs, rfl, .inl k1, rl, sz⟩
    · cases e
      obtain ⟨a, h1, h2, c⟩ := I.look (.ref hb) ‹_›
      cases h1
      obtain ⟨vs, k1, rl, sz⟩ := I.isList c (.inr rfl)
      exact ⟨_, vs, rfl, .inl k1, rl, sz⟩
    · cases e
  | _ => cases e

theorem in_seq (a : At G n hd A env envs C β ρ σ s) {x y : D} {v w : Value} (rx : Rel G s.heap β x v) (ry : Rel G s.heap β y w) {p : PyData} {ps : List PyData} (h1 : rd rdDepth σ x = some p) (h2 : (seqOf σ y).bind (·.mapM (rd rdDepth σ)) = some ps) :
    Does G A envs β s (compareOp .In v w) (.ok (.bool (ps.any fun y => PyData.eqv y p)) σ) ∧ Does G A envs β s (compareOp .NotIn v w) (.ok (.bool (!ps.any fun y => PyData.eqv y p)) σ) := by
  obtain ⟨ds, h3, h4⟩ := Option.bind_eq_some_iff.mp h2
  obtain ⟨as, a1, a2, a3⟩ := rd_reads a.inv _ _ _ _ h1 rx
  obtain ⟨b, vs, rfl, hs, rl, _⟩ := a.inv.seq ry h3
  obtain ⟨bs, b1, b2, b3⟩ := rd_all a.inv _ _ _ _ h4 rl
  have hu : A.units + 1 + min (PyData.depthAll ps) p.depth < cLine := by
    have := a.room (k := 8) (by decide)
    have h8 : rdDepth = 8 := rfl
    have := Nat.min_le_left (PyData.depthAll ps) p.depth
    omega
  rcases hs with ⟨o, k1, k2, m, k3⟩ | ⟨o, k1, k2, m, k3⟩
  · have r : Reads s.heap (.ref b) (.list ps) (b :: bs) := .list k1 k2 k3 (by simpa using b1)
    exact ⟨Does.bool a fun Q hQ => SeqAt.in_list_reads r a1 b2 a2 hu hQ, Does.bool a fun Q hQ => SeqAt.notIn_list_reads r a1 b2 a2 hu hQ⟩
  · have r : Reads s.heap (.ref b) (.tuple ps) bs := .tuple k1 k2 k3 (by simpa using b1)
    exact ⟨Does.bool a fun Q hQ => SeqAt.in_tuple_reads r a1 b2 a2 hu hQ, Does.bool a fun Q hQ => SeqAt.notIn_tuple_reads r a1 b2 a2 hu hQ⟩

theorem isIn_cases {x y : D} {b : Bool} (e : isIn σ x y = some b) : (∃ c t, x = .str [c] ∧ y = .str t ∧ b = t.contains c) ∨ ∃ p ps, rd rdDepth σ x = some p ∧ (seqOf σ y).bind (·.mapM (rd rdDepth σ)) = some ps ∧ b = ps.any fun y => PyData.eqv y p := by
  unfold isIn at e
  split at e
  · rename_i c t; cases e; exact .inl ⟨c, t, rfl, rfl, rfl⟩
  · split at e
    · rename_i p ps h1 h2; cases e; exact .inr ⟨p, ps, h1, h2, rfl⟩
    · cases e

theorem cmp_in (a : At G n hd A env envs C β ρ σ s) {x y : D} {v w : Value} (rx : Rel G s.heap β x v) (ry : Rel G s.heap β y w) : Does G A envs β s (compareOp .In v w) (cmpOp .mem x y σ) ∧ Does G A envs β s (compareOp .NotIn v w) (cmpOp .nmem x y σ) := by
  simp only [cmpOp]
  cases e : isIn σ x y with
  | none => exact ⟨Does.stuck, Does.stuck⟩
  | some b =>
    rcases isIn_cases e with ⟨c, t, rfl, rfl, rfl⟩ | ⟨p, ps, h1, h2, rfl⟩
    · cases rx with
      | str t1 ok1 =>
        cases ry with
        | str t2 ok2 =>
          have e2 : (!(Builtin.Str.occurrences (tx t) ⟨#[c]⟩ 0 (tx t).length 1).isEmpty) = t.contains c := by
            rw [StrLaws.found_one]
            simp
          exact ⟨Does.bool a fun Q hQ => P.in_str (by show Q (.bool (!(Builtin.Str.occurrences (tx t) ⟨#[c]⟩ 0 (tx t).length 1).isEmpty)) s; rw [e2]; exact hQ),
            Does.bool a fun Q hQ => P.notIn_str (by show Q (.bool (!(!(Builtin.Str.occurrences (tx t) ⟨#[c]⟩ 0 (tx t).length 1).isEmpty))) s; rw [e2]; exact hQ)⟩
    · exact in_seq a rx ry h1 h2

theorem cmp_sound (a : At G n hd A env envs C β ρ σ s) {op : CmpOp} {x y : D} {v w : Value} (rx : Rel G s.heap β x v) (ry : Rel G s.heap β y w) : Does G A envs β s (compareOp op v w) (cmpOp (cCop op) x y σ) := by
  cases op with
  | Eq => exact cmp_eq a rx ry
  | NotEq => exact cmp_ne a rx ry
  | Is => exact cmp_is a rx ry
  | IsNot => exact cmp_isnot a rx ry
  | In => exact (cmp_in a rx ry).1
  | NotIn => exact (cmp_in a rx ry).2
  | Lt =>
    simp only [cCop, cmpOp]
    split
    · cases rx; cases ry; exact Does.bool a fun Q hQ => lt_int hQ
    · exact Does.stuck
  | LtE =>
    simp only [cCop, cmpOp]
    split
    · cases rx; cases ry; exact Does.bool a fun Q hQ => le_int hQ
    · exact Does.stuck
  | Gt =>
    simp only [cCop, cmpOp]
    split
    · cases rx; cases ry; exact Does.bool a fun Q hQ => gt_int hQ
    · exact Does.stuck
  | GtE =>
    simp only [cCop, cmpOp]
    split
    · cases rx; cases ry; exact Does.bool a fun Q hQ => ge_int hQ
    · exact Does.stuck
end
end Mine

/-! part MSnd7 -/
namespace Mine
open PySem PySem.Calls PyProof.Rows

noncomputable def biNames : List Str := (["len", "str", "int", "bool", "tuple", "list", "isinstance", "range", "zip"] : List String).map Str.ofString
/-- a flat constant -/
noncomputable def flatRel (d : D) (v : Value) : Prop := (∃ i t, d = .int i ∧ v = .int i t) ∨ ∃ x t, d = .str x ∧ v = .str (tx x) t ∧ sOk x = true
theorem flatRel.rel {G : Gd} {h : Heap} {β : List Addr} {d : D} {v : Value} (r : flatRel d v) : Rel G h β d v := by
  rcases r with ⟨i, t, rfl, rfl⟩ | ⟨x, t, rfl, rfl, ok⟩
  · exact .int i t
  · exact .str t ok
/-- a function of the text, as it stands on the ground -/
noncomputable def FnAt (G : Gd) (a : Addr) (i : Nat) : Prop := ∃ (o : Obj) (fd : FuncData) (fn : CFn) (body : List Stmt), G.H.get? a = some o ∧ o.data = .func fd ∧ fd.body = .stmts body ∧ fd.globals = mainGlobals ∧ fd.closure = [] ∧ fd.defaults = .none ∧ fd.builtins = builtinsNs ∧
  G.H.CodeRec fd.code fd.qualname ∧ G.P i = some fn ∧ cFn G.g fd.params body fd.scope = some fn
/-- what the ground must be -/
structure GOk (G : Gd) : Prop where
  hg : G.H.Ns mainGlobals G.mg
  hb : G.H.Ns builtinsNs G.mb
  lim : G.H.NoLimit
  con : ∀ x d, G.g.gc.lookup x = some d → ∃ v, G.mg x = some v ∧ flatRel d v
  fns : ∀ x ∈ G.g.fns, ∀ i, nameId x = some i → ∃ a, G.mg x = some (.ref a) ∧ FnAt G a i
  bi : ∀ x ∈ biNames, G.mg x = none ∧ G.mb x = bootBuiltins x

section
variable {G : Gd} {n : Nat} {hd : Bool} {A : Around} {env : Env} {envs : List Env} {C : CC} {β : List Addr} {ρ : Rho} {σ : Sto} {s : Shared}

noncomputable def SE (G : Gd) (n : Nat) (C : CC) (e : PySem.Expr) (c : CE) : Prop := ∀ {hd : Bool} {A : Around} {env : Env} {envs : List Env} {β : List Addr} {ρ : Rho} {σ : Sto} {s : Shared},
  At G n hd A env envs C β ρ σ s → Does G A envs β s (eval e env) (ev (callN G.P n hd) c ρ σ)

noncomputable def asB (r : Res D) : Res Bool := r.bind fun d σ => match d with | .bool b => .ok b σ | _ => .stuck
noncomputable def PostB (G : Gd) (envs : List Env) (β : List Addr) (s : Shared) (r : Res Bool) (b : Bool) (s' : Shared) : Prop := ∃ σ' β', r = .ok b σ' ∧ Stp G (fsOf envs) no β β' σ' s s'
noncomputable def DoesB (G : Gd) (A : Around) (envs : List Env) (β : List Addr) (s : Shared) (m : Sem Bool) (r : Res Bool) : Prop := r ≠ .stuck → wpAny G.M A m (PostB G envs β s r) (PostX G envs β s r) s
noncomputable def ST (G : Gd) (n : Nat) (C : CC) (e : PySem.Expr) (c : CE) : Prop := ∀ {hd : Bool} {A : Around} {env : Env} {envs : List Env} {β : List Addr} {ρ : Rho} {σ : Sto} {s : Shared},
  At G n hd A env envs C β ρ σ s → DoesB G A envs β s (isTrue e env (eval e env)) (asB (ev (callN G.P n hd) c ρ σ))

theorem PostB.after {β₁ : List Addr} {σ₁ : Sto} {s₁ s' : Shared} {r : Res Bool} {b : Bool} (a : Stp G (fsOf envs) no β β₁ σ₁ s s₁) (p : PostB G envs β₁ s₁ r b s') : PostB G envs β s r b s' := by
  obtain ⟨σ', β', h1, h2⟩ := p
  exact ⟨σ', β', h1, a.trans h2⟩
theorem seqB {m : Sem Value} {f : Value → Sem Bool} {r : Res D} {k : D → Sto → Res Bool} (h : Does G A envs β s m r)
    (hk : ∀ d σ₁ β₁ v s₁, r = .ok d σ₁ → Stp G (fsOf envs) no β β₁ σ₁ s s₁ → Rel G s₁.heap β₁ d v → DoesB G A envs β₁ s₁ (f v) (k d σ₁)) :
    DoesB G A envs β s (m >>= f) (r.bind k) := fun hr =>
  seqQ h hr fun d σ₁ β₁ v s₁ h1 h2 h3 hne => wpAny_mono (hk d σ₁ β₁ v s₁ h1 h2 h3 hne) (fun _ _ p => by rw [h1]; exact p.after h2) fun _ _ p => p
theorem DoesB.imp {m m' : Sem Bool} {r : Res Bool} (h : DoesB G A envs β s m r) (e : ∀ Q E, wpAny G.M A m Q E s → wpAny G.M A m' Q E s) : DoesB G A envs β s m' r := fun hr => e _ _ (h hr)
theorem DoesB.stuck {m : Sem Bool} : DoesB G A envs β s m .stuck := fun h => absurd rfl h
theorem DoesB.of {m : Sem Bool} {b : Bool} (a : At G n hd A env envs C β ρ σ s) (h : ∀ Q : Bool → Shared → Prop, Q b s → wpAny G.M A m Q (fun _ _ => False) s) : DoesB G A envs β s m (.ok b σ) := fun _ =>
  wpAny_mono (h _ ⟨σ, β, rfl, Stp.refl a.inv⟩) (fun _ _ p => p) fun _ _ f => f.elim

/-- a test, then a tree -/
theorem seqBQ {γ δ : Type} {m : Sem Bool} {f : Bool → Sem γ} {r : Res Bool} {k : Bool → Sto → Res δ} {Q : γ → Shared → Prop} (h : DoesB G A envs β s m r) (hr : r.bind k ≠ .stuck)
    (hk : ∀ b σ₁ β₁ s₁, r = .ok b σ₁ → Stp G (fsOf envs) no β β₁ σ₁ s s₁ → k b σ₁ ≠ .stuck → wpAny G.M A (f b) Q (PostX G envs β₁ s₁ (k b σ₁)) s₁) :
    wpAny G.M A (m >>= f) Q (PostX G envs β s (r.bind k)) s := by
  refine wpAny_bind (wpAny_mono (h (bind_ne hr)) (fun b s₁ p => ?_) fun x s₁ p => ?_)
  · obtain ⟨σ₁, β₁, h1, h2⟩ := p
    refine wpAny_mono (hk b σ₁ β₁ s₁ h1 h2 (by intro q; exact hr (by rw [h1]; exact q))) (fun _ _ y => y) fun x s' y => y.after h2 ?_
    intro c o σ q; rw [h1]; exact q
  · obtain ⟨c, σ', e, h1, h2, h3⟩ := p
    exact ⟨c, σ', e, by rw [h1]; rfl, h2, h3⟩
theorem seqBE {m : Sem Bool} {f : Bool → Sem Value} {r : Res Bool} {k : Bool → Sto → Res D} (h : DoesB G A envs β s m r)
    (hk : ∀ b σ₁ β₁ s₁, r = .ok b σ₁ → Stp G (fsOf envs) no β β₁ σ₁ s s₁ → Does G A envs β₁ s₁ (f b) (k b σ₁)) : Does G A envs β s (m >>= f) (r.bind k) := fun hr =>
  seqBQ h hr fun b σ₁ β₁ s₁ h1 h2 hne => wpAny_mono (hk b σ₁ β₁ s₁ h1 h2 hne) (fun _ _ p => by rw [h1]; exact p.after h2) fun _ _ p => p
theorem seqBB {m : Sem Bool} {f : Bool → Sem Bool} {r : Res Bool} {k : Bool → Sto → Res Bool} (h : DoesB G A envs β s m r)
    (hk : ∀ b σ₁ β₁ s₁, r = .ok b σ₁ → Stp G (fsOf envs) no β β₁ σ₁ s s₁ → DoesB G A envs β₁ s₁ (f b) (k b σ₁)) : DoesB G A envs β s (m >>= f) (r.bind k) := fun hr =>
  seqBQ h hr fun b σ₁ β₁ s₁ h1 h2 hne => wpAny_mono (hk b σ₁ β₁ s₁ h1 h2 hne) (fun _ _ p => by rw [h1]; exact p.after h2) fun _ _ p => p

theorem truthy_sound (a : At G n hd A env envs C β ρ σ s) {d : D} {v : Value} (r : Rel G s.heap β d v) : DoesB G A envs β s (truthy v) (asB (.ok d σ)) := by
  cases r with
  | bool b => exact DoesB.of a fun Q hQ => wpAny_truthy_bool hQ
  | _ => exact DoesB.stuck

/-- a test that looks at a value -/
theorem ST.plain {e : PySem.Expr} {c : CE} (h : SE G n C e c) (hp : ∀ (env : Env) (w : Sem Value), isTrue e env w = (do let v ← w; standAt e.pos; holding [v] (truthy v))) : ST G n C e c := by
  intro hd A env envs β ρ σ s a
  rw [hp]
  refine seqB (h a) fun d σ₁ β₁ v s₁ h1 h2 h3 => ?_
  exact DoesB.imp (truthy_sound (a.step h2) h3) fun Q E x => wpAny_bind (wpAny_standAt (wpAny_holding x))

theorem lastIdx_get {x : Str} : ∀ {vars : List (Option Str)} {i : Nat}, lastIdx x vars = some i → vars[i]? = some (some x)
  | [], _, h => by cases h
  | v :: r, i, h => by
    simp only [lastIdx] at h
    split at h
    · rename_i j hj
      cases h
      simpa using lastIdx_get hj
    · split at h
      · rename_i hv; cases h; simp [hv]
      · cases h

theorem lit_sound {c : Const} {k : Nat} {pos : Pos} {d : D} (hc : cConst c = some d) : SE G n C (.Constant c k pos) (.lit d) := by
  intro hd A env envs β ρ σ s a
  rw [eval_Constant]
  simp only [ev]
  cases c with
  | none => cases hc; exact Does.same a.inv fun Q hQ => wpAny_pure (hQ _ s.toks .none)
  | bool b => cases hc; exact Does.same a.inv fun Q hQ => wpAny_pure (hQ _ s.toks (.bool b))
  | int i => cases hc; exact Does.int a fun Q hQ => fun _ _ _ => hQ
  | str x =>
    simp only [cConst] at hc
    split at hc
    · rename_i hx
      cases hc
      refine Does.str a ?_ fun Q hQ => ?_
      · simp only [Bool.and_eq_true, decide_eq_true_eq] at hx
        simp only [sOk, Bool.and_eq_true, decide_eq_true_eq, Array.length_toList]
        exact ⟨by rw [Array.all_toList]; exact hx.1, hx.2⟩
      · have e : tx x.cps.toList = x := by simp [tx]
        rw [e] at hQ
        exact fun _ _ _ => hQ _ _
    · cases hc
  | _ => cases hc

theorem loc_sound {x : Str} {pos : Pos} {i : Nat} (hd' : (x == ("__debug__" : Str)) = false) (hcd : (x == ("__classdict__" : Str)) = false) (hi : lastIdx x C.vars = some i) (hk : C.kind x = some .local ∨ C.kind x = some .cell ∨ C.kind x = some .free) : SE G n C (.Name x pos) (.loc i) := by
  intro hd A env envs β ρ σ s a
  simp only [ev]
  split
  · rename_i d hρ
    have hv := lastIdx_get hi
    have hkind : ∀ k, C.kind x = some k → env.kindOf x = some k := fun k h => by
      show env.scope.names.lookup x = some k
      rw [a.sc]; exact h
    refine Does.same a.inv fun Q hQ => ?_
    refine wpAny_Name ?_ hd'
    rcases hk with hk | hk | hk
    · obtain ⟨m, hn, r⟩ := a.er.ns
      obtain ⟨v, h1, h2⟩ := r i x d hv (hkind _ hk) hρ
      exact wpAny_loadName_local a.er.kind (hkind _ hk) hn h1 (hQ v s.toks h2)
    · obtain ⟨c, ov, k1, k2, k3, k4⟩ := a.er.cells i x hv (.inl (hkind _ hk))
      obtain ⟨v, rfl, h2⟩ := k4 d hρ
      exact wpAny_loadName_cell a.er.kind (hkind _ hk) k1 k3 (hQ v s.toks h2)
    · obtain ⟨c, ov, k1, k2, k3, k4⟩ := a.er.cells i x hv (.inr (hkind _ hk))
      obtain ⟨v, rfl, h2⟩ := k4 d hρ
      exact wpAny_loadName_free a.er.kind (hkind _ hk) k1 k3 (hQ v s.toks h2) hcd
  · exact Does.stuck

theorem At.kindOf (a : At G n hd A env envs C β ρ σ s) {x : Str} {k : NameKind} (h : C.kind x = some k) : env.kindOf x = some k := by
  show env.scope.names.lookup x = some k
  rw [a.sc]; exact h

/-- a name of the top -/
theorem global_name (ok : GOk G) (a : At G n hd A env envs C β ρ σ s) {x : Str} {pos : Pos} {v : Value} {Q : Value → Shared → Prop} {E : Value → Shared → Prop} (hd' : (x == ("__debug__" : Str)) = false) (hk : C.kind x = some .globalImplicit) (hv : G.mg x = some v) (h : Q v s) :
    wpAny G.M A (eval (.Name x pos) env) Q E s :=
  Name_function_global a.er.kind (a.kindOf hk) (loadGlobal_global (env := env) (by rw [a.er.glob]; exact ok.hg.keeps a.inv.keep) hv h) hd'
theorem builtin_name (ok : GOk G) (a : At G n hd A env envs C β ρ σ s) {x : Str} {pos : Pos} {v : Value} {Q : Value → Shared → Prop} {E : Value → Shared → Prop} (hd' : (x == ("__debug__" : Str)) = false) (hk : C.kind x = some .globalImplicit) (hv : G.mg x = none) (hb : G.mb x = some v) (h : Q v s) :
    wpAny G.M A (eval (.Name x pos) env) Q E s :=
  Name_function_global a.er.kind (a.kindOf hk) (loadGlobal_builtin (env := env) (by rw [a.er.glob]; exact ok.hg.keeps a.inv.keep) hv (by rw [a.er.blt]; exact ok.hb.keeps a.inv.keep) hb h) hd'

theorem gcon_sound (ok : GOk G) {x : Str} {pos : Pos} {d : D} (hd' : (x == ("__debug__" : Str)) = false) (hk : C.kind x = some .globalImplicit) (hg : C.g.gc.lookup x = some d) : SE G n C (.Name x pos) (.gcon 0 d) := by
  intro hd A env envs β ρ σ s a
  simp only [ev]
  obtain ⟨v, h1, h2⟩ := ok.con x d (a.gg ▸ hg)
  exact Does.same a.inv fun Q hQ => global_name ok a hd' hk h1 (hQ v s.toks h2.rel)

theorem bin_se {l r : PySem.Expr} {op : Operator} {pos : Pos} {o : Bop} {cl cr : CE} (ho : cBop op = some o) (hl : SE G n C l cl) (hr : SE G n C r cr) : SE G n C (.BinOp l op r pos) (.bin o cl cr) := by
  intro hd A env envs β ρ σ s a
  rw [eval_BinOp]
  simp only [ev]
  refine seqE (hl a) fun x σ₁ β₁ v s₁ _ h2 h3 => ?_
  have a₁ := a.step h2
  refine seqE ((hr a₁).holding) fun y σ₂ β₂ w s₂ _ h5 h6 => ?_
  exact ((bin_sound (a₁.step h5) ho (h3.mono (a₁.firm h5) h5.pre) h6).operate).stand

theorem cmp_se {l r : PySem.Expr} {op : CmpOp} {pos : Pos} {cl cr : CE} (hm : behindInMarks op r = false) (hl : SE G n C l cl) (hr : SE G n C r cr) : SE G n C (.Compare l [op] [r] pos) (.cmp (cCop op) cl cr) := by
  intro hd A env envs β ρ σ s a
  rw [eval_Compare1, markedBehindIn_of_false hm]
  simp only [ev]
  refine seqE (hl a) fun x σ₁ β₁ v s₁ _ h2 h3 => ?_
  have a₁ := a.step h2
  refine seqE ((hr a₁).holding) fun y σ₂ β₂ w s₂ _ h5 h6 => ?_
  exact ((cmp_sound (a₁.step h5) (h3.mono (a₁.firm h5) h5.pre) h6).operate).stand

end
end Mine

/-! part MSnd8 -/
namespace Mine
open PySem PySem.Calls PyProof.Rows

section
variable {G : Gd} {n : Nat} {hd : Bool} {A : Around} {env : Env} {envs : List Env} {C : CC} {β : List Addr} {ρ : Rho} {σ : Sto} {s : Shared}

theorem neg_se {x : PySem.Expr} {pos : Pos} {c : CE} (h : SE G n C x c) : SE G n C (.UnaryOp .USub x pos) (.neg c) := by
  intro hd A env envs β ρ σ s a
  show Does G A envs β s (do let v ← eval x env; standAt pos; holding [v] (unaryOp .USub v)) _
  simp only [ev]
  refine seqE (h a) fun d σ₁ β₁ v s₁ _ h2 h3 => ?_
  cases h3 with
  | int i t => exact ((Does.int (a.step h2) fun Q hQ => neg_int hQ).holding).stand
  | _ => exact Does.stuck

theorem not_se {x : PySem.Expr} {pos : Pos} {c : CE} (h : SE G n C x c) : SE G n C (.UnaryOp .Not x pos) (.not c) := by
  intro hd A env envs β ρ σ s a
  show Does G A envs β s (do let v ← eval x env; standAt pos; holding [v] (unaryOp .Not v)) _
  simp only [ev]
  refine seqE (h a) fun d σ₁ β₁ v s₁ _ h2 h3 => ?_
  cases h3 with
  | bool b =>
    refine ((Does.bool (a.step h2) fun Q hQ => ?_).holding).stand
    show wpAny _ _ (PySem.holding _ (truthy (.bool b) >>= fun t => pure (Value.bool (!t)))) _ _ _
    exact wpAny_holding (wpAny_bind (wpAny_truthy_bool (wpAny_pure hQ)))
  | _ => exact Does.stuck
/-! and, or -/
noncomputable def SEs (G : Gd) (n : Nat) (C : CC) : List PySem.Expr → List CE → Prop
  | [], [] => True
  | e :: es, c :: cs => (SE G n C e c ∧ ST G n C e c) ∧ SEs G n C es cs
  | _, _ => False

theorem and_se_go {pos : Pos} : ∀ {es : List PySem.Expr} {cs : List CE}, SEs G n C es cs → ∀ {hd A env envs β ρ σ s}, At G n hd A env envs C β ρ σ s → Does G A envs β s (boolOp pos .And (evalEach es env)) (evAnd (callN G.P n hd) cs ρ σ)
  | [], [], _, _, _, _, _, _, _, _, _, _ => Does.stuck
  | [e], [c], h, hd, A, env, envs, β, ρ, σ, s, a => by
    simp only [evAnd]; exact h.1.1 a
  | e :: e' :: es, c :: c' :: cs, h, hd, A, env, envs, β, ρ, σ, s, a => by
    simp only [evAnd]
    show Does G A envs β s (eval e env >>= fun v => standAt pos >>= fun _ => (PySem.holding [v] (truthy v)) >>= fun t => match BoolOp.And, t with | .And, false | .Or, true => pure v | _, _ => boolOp pos .And (evalEach (e' :: es) env)) _
    refine seqE (h.1.1 a) fun d σ₁ β₁ v s₁ _ h2 h3 => ?_
    have a₁ := a.step h2
    refine Does.stand ?_
    cases h3 with
    | bool b =>
      cases b with
      | true => exact (and_se_go h.2 a₁).imp fun Q E x => wpAny_bind (wpAny_holding (wpAny_truthy_bool x))
      | false => exact Does.bool a₁ fun Q hQ => wpAny_bind (wpAny_holding (wpAny_truthy_bool (wpAny_pure hQ)))
    | _ => exact Does.stuck
theorem or_se_go {pos : Pos} : ∀ {es : List PySem.Expr} {cs : List CE}, SEs G n C es cs → ∀ {hd A env envs β ρ σ s}, At G n hd A env envs C β ρ σ s → Does G A envs β s (boolOp pos .Or (evalEach es env)) (evOr (callN G.P n hd) cs ρ σ)
  | [], [], _, _, _, _, _, _, _, _, _, _ => Does.stuck
  | [e], [c], h, hd, A, env, envs, β, ρ, σ, s, a => by
    simp only [evOr]; exact h.1.1 a
  | e :: e' :: es, c :: c' :: cs, h, hd, A, env, envs, β, ρ, σ, s, a => by
    simp only [evOr]
    show Does G A envs β s (eval e env >>= fun v => standAt pos >>= fun _ => (PySem.holding [v] (truthy v)) >>= fun t => match BoolOp.Or, t with | .And, false | .Or, true => pure v | _, _ => boolOp pos .Or (evalEach (e' :: es) env)) _
    refine seqE (h.1.1 a) fun d σ₁ β₁ v s₁ _ h2 h3 => ?_
    have a₁ := a.step h2
    refine Does.stand ?_
    cases h3 with
    | bool b =>
      cases b with
      | false => exact (or_se_go h.2 a₁).imp fun Q E x => wpAny_bind (wpAny_holding (wpAny_truthy_bool x))
      | true => exact Does.bool a₁ fun Q hQ => wpAny_bind (wpAny_holding (wpAny_truthy_bool (wpAny_pure hQ)))
    | _ => exact Does.stuck

/-- the tests' own reading of and, or: the last one must be a bool, too -/
theorem asB_bind (r : Res D) (k : D → Sto → Res D) : asB (r.bind k) = r.bind fun d σ => asB (k d σ) := by
  cases r <;> rfl
theorem DoesB.of_eq {m : Sem Bool} {r r' : Res Bool} (h : DoesB G A envs β s m r) (e : r' = r) : DoesB G A envs β s m r' := e ▸ h
theorem asB_seq (r : Res D) (k : D → Sto → Res D) (f : Bool → Sto → Res Bool) (h : ∀ b σ, asB (k (.bool b) σ) = f b σ) (h2 : ∀ d σ, (∀ b, d ≠ .bool b) → asB (k d σ) = .stuck) : asB (r.bind k) = (asB r).bind f := by
  cases r with
  | ok d σ =>
    cases d with
    | bool b => exact h b σ
    | _ => exact h2 _ σ (by intro b q; cases q)
  | exc => rfl
  | stuck => rfl

theorem not_st {x : PySem.Expr} {pos : Pos} {c : CE} (h : ST G n C x c) : ST G n C (.UnaryOp .Not x pos) (.not c) := by
  intro hd A env envs β ρ σ s a
  show DoesB G A envs β s (do return !(← isTrue x env (eval x env))) _
  simp only [ev]
  rw [asB_seq _ _ (fun b σ => .ok (!b) σ) (by intro b σ; rfl) (by intro d σ hq; cases d <;> first | rfl | exact absurd rfl (hq _))]
  refine seqBB (h a) fun b σ₁ β₁ s₁ _ h2 => ?_
  exact DoesB.of (a.step h2) fun Q hQ => wpAny_pure hQ

theorem and_st_go : ∀ {es : List PySem.Expr} {cs : List CE}, es ≠ [] → SEs G n C es cs → ∀ {hd A env envs β ρ σ s}, At G n hd A env envs C β ρ σ s → DoesB G A envs β s (allTrue .And es env) (asB (evAnd (callN G.P n hd) cs ρ σ))
  | [], _, hne, _, _, _, _, _, _, _, _, _, _ => absurd rfl hne
  | [e], [c], _, h, hd, A, env, envs, β, ρ, σ, s, a => by
    simp only [evAnd]
    show DoesB G A envs β s (isTrue e env (eval e env) >>= fun t => match BoolOp.And, t with | .And, false => pure false | .Or, true => pure true | _, _ => allTrue .And [] env) _
    have e1 : asB (ev (callN G.P n hd) c ρ σ) = (asB (ev (callN G.P n hd) c ρ σ)).bind fun b σ => .ok b σ := by
      cases asB (ev (callN G.P n hd) c ρ σ) <;> rfl
    rw [e1]
    refine seqBB (h.1.2 a) fun b σ₁ β₁ s₁ _ h2 => ?_
    cases b <;> exact DoesB.of (a.step h2) fun Q hQ => wpAny_pure hQ
  | e :: e' :: es, c :: c' :: cs, _, h, hd, A, env, envs, β, ρ, σ, s, a => by
    show DoesB G A envs β s (isTrue e env (eval e env) >>= fun t => match BoolOp.And, t with | .And, false => pure false | .Or, true => pure true | _, _ => allTrue .And (e' :: es) env) _
    simp only [evAnd]
    rw [asB_seq _ _ (fun b σ => if b then asB (evAnd (callN G.P n hd) (c' :: cs) ρ σ) else .ok false σ) (by intro b σ; cases b <;> rfl) (by intro d σ hq; cases d <;> first | rfl | exact absurd rfl (hq _))]
    refine seqBB (h.1.2 a) fun b σ₁ β₁ s₁ _ h2 => ?_
    cases b with
    | true => exact and_st_go (by simp) h.2 (a.step h2)
    | false => exact DoesB.of (a.step h2) fun Q hQ => wpAny_pure hQ
theorem or_st_go : ∀ {es : List PySem.Expr} {cs : List CE}, es ≠ [] → SEs G n C es cs → ∀ {hd A env envs β ρ σ s}, At G n hd A env envs C β ρ σ s → DoesB G A envs β s (allTrue .Or es env) (asB (evOr (callN G.P n hd) cs ρ σ))
  | [], _, hne, _, _, _, _, _, _, _, _, _, _ => absurd rfl hne
  | [e], [c], _, h, hd, A, env, envs, β, ρ, σ, s, a => by
    simp only [evOr]
    show DoesB G A envs β s (isTrue e env (eval e env) >>= fun t => match BoolOp.Or, t with | .And, false => pure false | .Or, true => pure true | _, _ => allTrue .Or [] env) _
    have e1 : asB (ev (callN G.P n hd) c ρ σ) = (asB (ev (callN G.P n hd) c ρ σ)).bind fun b σ => .ok b σ := by
      cases asB (ev (callN G.P n hd) c ρ σ) <;> rfl
    rw [e1]
    refine seqBB (h.1.2 a) fun b σ₁ β₁ s₁ _ h2 => ?_
    cases b <;> exact DoesB.of (a.step h2) fun Q hQ => wpAny_pure hQ
  | e :: e' :: es, c :: c' :: cs, _, h, hd, A, env, envs, β, ρ, σ, s, a => by
    show DoesB G A envs β s (isTrue e env (eval e env) >>= fun t => match BoolOp.Or, t with | .And, false => pure false | .Or, true => pure true | _, _ => allTrue .Or (e' :: es) env) _
    simp only [evOr]
    rw [asB_seq _ _ (fun b σ => if b then .ok true σ else asB (evOr (callN G.P n hd) (c' :: cs) ρ σ)) (by intro b σ; cases b <;> rfl) (by intro d σ hq; cases d <;> first | rfl | exact absurd rfl (hq _))]
    refine seqBB (h.1.2 a) fun b σ₁ β₁ s₁ _ h2 => ?_
    cases b with
    | false => exact or_st_go (by simp) h.2 (a.step h2)
    | true => exact DoesB.of (a.step h2) fun Q hQ => wpAny_pure hQ

theorem cmp_st {l r : PySem.Expr} {op : CmpOp} {pos : Pos} {cl cr : CE} (hm : behindInMarks op r = false) (hl : SE G n C l cl) (hr : SE G n C r cr) : ST G n C (.Compare l [op] [r] pos) (.cmp (cCop op) cl cr) := by
  intro hd A env envs β ρ σ s a
  rw [isTrue_Compare1, markedBehindIn_of_false hm]
  simp only [ev, asB_bind]
  refine seqB (hl a) fun x σ₁ β₁ v s₁ _ h2 h3 => ?_
  have a₁ := a.step h2
  refine seqB ((hr a₁).holding) fun y σ₂ β₂ w s₂ _ h5 h6 => ?_
  have a₂ := a₁.step h5
  refine DoesB.imp ?_ fun Q E x => wpAny_bind (wpAny_standAt x)
  refine seqB ((cmp_sound a₂ (h3.mono (a₁.firm h5) h5.pre) h6).operate) fun d σ₃ β₃ v₃ s₃ _ h8 h9 => ?_
  exact (truthy_sound (a₂.step h8) h9).imp fun Q E x => wpAny_holding x

end
end Mine

/-! part MSnd9 -/
namespace Mine
open PySem PySem.Calls PyProof.Rows

section
variable {G : Gd} {n : Nat} {hd : Bool} {A : Around} {env : Env} {envs : List Env} {C : CC} {β : List Addr} {ρ : Rho} {σ : Sto} {s : Shared}

theorem wpAny_release {M : Model} {vs ks : List Value} {Q : Unit → Shared → Prop} {E : Value → Shared → Prop} (h : Q () s) : wpAny M A (release vs ks) Q E s := fun Γ p hΓ => by rw [Sem.wp_release]; exact h

theorem cmp2_se {l a b : PySem.Expr} {o1 o2 : CmpOp} {pos : Pos} {cl ca cb : CE} (hm : behindInMarks o2 b = false) (hl : SE G n C l cl) (ha : SE G n C a ca) (hb : SE G n C b cb) : SE G n C (.Compare l [o1, o2] [a, b] pos) (.cmp2 (cCop o1) (cCop o2) cl ca cb) := by
  intro hd A env envs β ρ σ s at0
  show Does G A envs β s (eval l env >>= fun x => PySem.holding [x] (eval a env) >>= fun y => standAt pos >>= fun _ => PySem.holding [x, y] (compareOp o1 x y) >>= fun c => release [x, y] [c] >>= fun _ => PySem.holding [c, y] (truthy c) >>= fun t =>
    if t = true then (PySem.holding [y] (markedBehindIn o2 b (eval b env)) >>= fun z => standAt pos >>= fun _ => operate [y, z] (compareOp o2 y z)) else pure c) _
  rw [markedBehindIn_of_false hm]
  simp only [ev]
  refine seqE (hl at0) fun x σ₁ β₁ v s₁ _ h2 h3 => ?_
  have a₁ := at0.step h2
  refine seqE ((ha a₁).holding) fun y σ₂ β₂ w s₂ _ h5 h6 => ?_
  have a₂ := a₁.step h5
  refine Does.stand ?_
  refine seqE ((cmp_sound a₂ (h3.mono (a₁.firm h5) h5.pre) h6).holding) fun t σ₃ β₃ c s₃ _ h8 h9 => ?_
  have a₃ := a₂.step h8
  refine Does.imp (m := (PySem.holding [c, w] (truthy c) >>= fun t => if t = true then (PySem.holding [w] (eval b env) >>= fun z => standAt pos >>= fun _ => operate [w, z] (compareOp o2 w z)) else pure c)) ?_ fun Q E x => wpAny_bind (wpAny_release x)
  have h6' := h6.mono (a₂.firm h8) h8.pre
  cases h9 with
  | bool t =>
    cases t with
    | true =>
      refine Does.imp (m := (PySem.holding [w] (eval b env) >>= fun z => standAt pos >>= fun _ => operate [w, z] (compareOp o2 w z))) ?_ fun Q E x => wpAny_bind (wpAny_holding (wpAny_truthy_bool x))
      refine seqE ((hb a₃).holding) fun z σ₄ β₄ w₄ s₄ _ h11 h12 => ?_
      exact ((cmp_sound (a₃.step h11) (h6'.mono (a₃.firm h11) h11.pre) h12).operate).stand
    | false => exact Does.bool a₃ fun Q hQ => wpAny_bind (wpAny_holding (wpAny_truthy_bool (wpAny_pure hQ)))
  | _ => exact Does.stuck

theorem cmp2_st {l a b : PySem.Expr} {o1 o2 : CmpOp} {pos : Pos} {cl ca cb : CE} (hm : behindInMarks o2 b = false) (hl : SE G n C l cl) (ha : SE G n C a ca) (hb : SE G n C b cb) : ST G n C (.Compare l [o1, o2] [a, b] pos) (.cmp2 (cCop o1) (cCop o2) cl ca cb) := by
  intro hd A env envs β ρ σ s at0
  show DoesB G A envs β s (eval l env >>= fun x => PySem.holding [x] (eval a env) >>= fun y => standAt pos >>= fun _ => PySem.holding [x, y] (compareOp o1 x y) >>= fun c => release [x, y] [c] >>= fun _ => PySem.holding [c, y] (truthy c) >>= fun t =>
    if t = true then (PySem.holding [y] (markedBehindIn o2 b (eval b env)) >>= fun z => standAt pos >>= fun _ => operate [y, z] (compareOp o2 y z) >>= fun c => PySem.holding [c] (truthy c)) else pure false) _
  rw [markedBehindIn_of_false hm]
  simp only [ev, asB_bind]
  refine seqB (hl at0) fun x σ₁ β₁ v s₁ _ h2 h3 => ?_
  have a₁ := at0.step h2
  refine seqB ((ha a₁).holding) fun y σ₂ β₂ w s₂ _ h5 h6 => ?_
  have a₂ := a₁.step h5
  refine DoesB.imp ?_ fun Q E x => wpAny_bind (wpAny_standAt x)
  refine seqB ((cmp_sound a₂ (h3.mono (a₁.firm h5) h5.pre) h6).holding) fun t σ₃ β₃ c s₃ _ h8 h9 => ?_
  have a₃ := a₂.step h8
  refine DoesB.imp (m := (PySem.holding [c, w] (truthy c) >>= fun t => if t = true then (PySem.holding [w] (eval b env) >>= fun z => standAt pos >>= fun _ => operate [w, z] (compareOp o2 w z) >>= fun c => PySem.holding [c] (truthy c)) else pure false)) ?_ fun Q E x => wpAny_bind (wpAny_release x)
  have h6' := h6.mono (a₂.firm h8) h8.pre
  cases h9 with
  | bool t =>
    cases t with
    | true =>
      refine DoesB.imp (m := (PySem.holding [w] (eval b env) >>= fun z => standAt pos >>= fun _ => operate [w, z] (compareOp o2 w z) >>= fun c => PySem.holding [c] (truthy c))) ?_ fun Q E x => wpAny_bind (wpAny_holding (wpAny_truthy_bool x))
      simp only [asB_bind]
      refine seqB ((hb a₃).holding) fun z σ₄ β₄ w₄ s₄ _ h11 h12 => ?_
      have a₄ := a₃.step h11
      refine DoesB.imp ?_ fun Q E x => wpAny_bind (wpAny_standAt x)
      have e1 : ∀ r : Res D, asB r = r.bind fun d σ => asB (.ok d σ) := fun r => by cases r <;> rfl
      rw [e1]
      refine seqB ((cmp_sound a₄ (h6'.mono (a₃.firm h11) h11.pre) h12).operate) fun d σ₅ β₅ v₅ s₅ _ h14 h15 => ?_
      exact (truthy_sound (a₄.step h14) h15).imp fun Q E x => wpAny_holding x
    | false => exact DoesB.of a₃ fun Q hQ => wpAny_bind (wpAny_holding (wpAny_truthy_bool (wpAny_pure hQ)))
  | _ => exact DoesB.stuck

theorem ife_se {t a b : PySem.Expr} {pos : Pos} {ct ca cb : CE} (ht : ST G n C t ct) (ha : SE G n C a ca) (hb : SE G n C b cb) : SE G n C (.IfExp t a b pos) (.ife ct ca cb) := by
  intro hd A env envs β ρ σ s at0
  show Does G A envs β s (isTrue t env (eval t env) >>= fun x => if x = true then eval a env else eval b env) _
  simp only [ev]
  have e : (ev (callN G.P n hd) ct ρ σ).bind (fun t σ => match t with | .bool true => ev (callN G.P n hd) ca ρ σ | .bool false => ev (callN G.P n hd) cb ρ σ | _ => .stuck) =
      (asB (ev (callN G.P n hd) ct ρ σ)).bind fun x σ => if x then ev (callN G.P n hd) ca ρ σ else ev (callN G.P n hd) cb ρ σ := by
    cases ev (callN G.P n hd) ct ρ σ with
    | ok d σ => cases d with
      | bool x => cases x <;> rfl
      | _ => rfl
    | exc => rfl
    | stuck => rfl
  refine Does.of_eq ?_ rfl e
  refine seqBE (ht at0) fun x σ₁ β₁ s₁ _ h2 => ?_
  cases x with
  | true => exact ha (at0.step h2)
  | false => exact hb (at0.step h2)

/-! lists of values -/
noncomputable def PostL (G : Gd) (envs : List Env) (β : List Addr) (s : Shared) (r : Res (List D)) (vs : List Value) (s' : Shared) : Prop := ∃ ds σ' β', r = .ok ds σ' ∧ Stp G (fsOf envs) no β β' σ' s s' ∧ RelL G s'.heap β' ds vs
noncomputable def DoesL (G : Gd) (A : Around) (envs : List Env) (β : List Addr) (s : Shared) (m : Sem (List Value)) (r : Res (List D)) : Prop := r ≠ .stuck → wpAny G.M A m (PostL G envs β s r) (PostX G envs β s r) s
theorem seqLQ {γ δ : Type} {m : Sem (List Value)} {f : List Value → Sem γ} {r : Res (List D)} {k : List D → Sto → Res δ} {Q : γ → Shared → Prop} (h : DoesL G A envs β s m r) (hr : r.bind k ≠ .stuck)
    (hk : ∀ ds σ₁ β₁ vs s₁, r = .ok ds σ₁ → Stp G (fsOf envs) no β β₁ σ₁ s s₁ → RelL G s₁.heap β₁ ds vs → k ds σ₁ ≠ .stuck → wpAny G.M A (f vs) Q (PostX G envs β₁ s₁ (k ds σ₁)) s₁) :
    wpAny G.M A (m >>= f) Q (PostX G envs β s (r.bind k)) s := by
  refine wpAny_bind (wpAny_mono (h (bind_ne hr)) (fun vs s₁ p => ?_) fun x s₁ p => ?_)
  · obtain ⟨ds, σ₁, β₁, h1, h2, h3⟩ := p
    refine wpAny_mono (hk ds σ₁ β₁ vs s₁ h1 h2 h3 (by intro q; exact hr (by rw [h1]; exact q))) (fun _ _ y => y) fun x s' y => y.after h2 ?_
    intro c o σ q; rw [h1]; exact q
  · obtain ⟨c, σ', e, h1, h2, h3⟩ := p
    exact ⟨c, σ', e, by rw [h1]; rfl, h2, h3⟩
theorem seqLE {m : Sem (List Value)} {f : List Value → Sem Value} {r : Res (List D)} {k : List D → Sto → Res D} (h : DoesL G A envs β s m r)
    (hk : ∀ ds σ₁ β₁ vs s₁, r = .ok ds σ₁ → Stp G (fsOf envs) no β β₁ σ₁ s s₁ → RelL G s₁.heap β₁ ds vs → Does G A envs β₁ s₁ (f vs) (k ds σ₁)) : Does G A envs β s (m >>= f) (r.bind k) := fun hr =>
  seqLQ h hr fun ds σ₁ β₁ vs s₁ h1 h2 h3 hne => wpAny_mono (hk ds σ₁ β₁ vs s₁ h1 h2 h3 hne) (fun _ _ p => by rw [h1]; exact p.after h2) fun _ _ p => p

theorem starEach_cons {e : PySem.Expr} (h : isStar e = false) (r : List PySem.Expr) (env : Env) : starEach (e :: r) env = (false, eval e env) :: starEach r env := by
  cases e <;> first | rfl | cases h

/-- the parts of a display, or of a call -/
noncomputable def SEl (G : Gd) (n : Nat) (C : CC) : List PySem.Expr → List CE → Prop
  | [], [] => True
  | e :: es, c :: cs => isStar e = false ∧ SE G n C e c ∧ SEl G n C es cs
  | _, _ => False

theorem spliced_sound {pos : Pos} : ∀ {es : List PySem.Expr} {cs : List CE}, SEl G n C es cs → ∀ {hd A env envs β ρ σ s}, At G n hd A env envs C β ρ σ s → DoesL G A envs β s (spliced (backTo pos (starEach es env))) (evs (callN G.P n hd) cs ρ σ)
  | [], [], _, _, _, _, _, _, _, σ, s, a => fun _ => wpAny_pure ⟨[], σ, _, by simp only [evs], Stp.refl a.inv, .nil⟩
  | e :: es, c :: cs, h, hd, A, env, envs, β, ρ, σ, s, a => by
    intro hne
    simp only [evs] at hne ⊢
    rw [starEach_cons h.1]
    show wpAny G.M A (eval e env >>= fun v => pure [v] >>= fun here => PySem.holding here (spliced (backTo pos (starEach es env))) >>= fun r => pure (here ++ r)) _ _ s
    refine seqQ (h.2.1 a) hne fun d σ₁ β₁ v s₁ h1 h2 h3 hne1 => ?_
    have a₁ := a.step h2
    refine wpAny_bind (wpAny_pure ?_)
    refine wpAny_mono (Q := PostL G envs β₁ s₁ ((evs (callN G.P n hd) cs ρ σ₁).bind fun ds σ => .ok (d :: ds) σ)) (seqLQ (m := PySem.holding [v] (spliced (backTo pos (starEach es env)))) (fun x => wpAny_holding (spliced_sound h.2.2 a₁ x)) hne1 fun ds σ₂ β₂ vs s₂ h4 h5 h6 _ => ?_) (fun vs s' p => ?_) fun _ _ p => p
    · exact wpAny_pure ⟨d :: ds, σ₂, β₂, by rw [h4]; rfl, h5, .cons (h3.mono (a₁.firm h5) h5.pre) h6⟩
    · obtain ⟨ds, σ', β', k1, k2, k3⟩ := p
      exact ⟨ds, σ', β', by rw [h1]; exact k1, h2.trans k2, k3⟩

/-! new objects -/
theorem Stp.pushed (a : At G n hd A env envs C β ρ σ s) (o : Obj) (tk : Nat) : Stp G (fsOf envs) no β β σ s { s with heap := s.heap.push o, toks := tk } :=
  Stp.grow a.inv (fun _ _ e => Heap.get?_push_of_some o e) (by rw [Heap.size_push]; exact Nat.le_succ _) rfl rfl
theorem H_none (a : At G n hd A env envs C β ρ σ s) {b : Addr} (hb : s.heap.objs.size ≤ b) : G.H.get? b = none := by
  cases e : G.H.get? b with
  | none => rfl
  | some o => exact absurd (Nat.lt_of_lt_of_le (Heap.lt_size (a.inv.keep b o e)) hb) (Nat.lt_irrefl _)
/-- a new object of the store -/
theorem Stp.alloc (a : At G n hd A env envs C β ρ σ s) {o : Obj} {ob : AObj} (tk : Nat) (c : Firm G.N s.heap (s.heap.push o) → G.H.get? s.heap.objs.size = none → CObj G (s.heap.push o) (β ++ [s.heap.objs.size]) ob s.heap.objs.size) :
    Stp G (fsOf envs) no β (β ++ [s.heap.objs.size]) (σ ++ [ob]) s { s with heap := s.heap.push o, toks := tk } ∧ Rel G (s.heap.push o) (β ++ [s.heap.objs.size]) (.ref σ.length) (.ref s.heap.objs.size) := by
  have st := Stp.pushed a o tk
  have hna : s.heap.objs.size ∉ β := fun q => Nat.lt_irrefl _ (a.inv.lt q)
  refine ⟨⟨List.prefix_append .., fun x hx => ?_, st.inv.push hna (c (a.firm st) (H_none a (Nat.le_refl _))), st.ext, st.ns, st.size, rfl, rfl⟩, .ref ?_⟩
  · rcases List.mem_append.mp hx with q | q
    · exact .inl q
    · simp at q; subst q; exact .inr (Nat.le_refl _)
  · rw [List.getElem?_append_right (by rw [a.inv.len]; exact Nat.le_refl _), a.inv.len, Nat.sub_self]; rfl

theorem newList_sound (a : At G n hd A env envs C β ρ σ s) {ds : List D} {vs : List Value} (r : RelL G s.heap β ds vs) (sz : ds.length ≤ cap) : Does G A envs β s (newList vs) (Mine.alloc (.list ds) σ) := fun _ => by
  refine wpAny_newObj_type ?_ (by show vs.toArray.size ≤ sizeLine; rw [List.size_toArray, ← r.length]; exact Nat.le_trans sz cap_le)
  obtain ⟨st, rr⟩ := Stp.alloc (o := lstO vs 0) (ob := .list ds) a s.toks fun f new => .list (Heap.get?_push_size _ rfl) (r.mono f (List.prefix_append ..)) new sz
  exact ⟨_, _, _, rfl, st, rr⟩
theorem newTuple_sound (a : At G n hd A env envs C β ρ σ s) {ds : List D} {vs : List Value} (r : RelL G s.heap β ds vs) (sz : ds.length ≤ cap) : Does G A envs β s (newTuple vs) (.ok (.tup ds) σ) := fun _ => by
  refine wpAny_newObj_type ?_ (by show vs.toArray.size ≤ sizeLine; rw [List.size_toArray, ← r.length]; exact Nat.le_trans sz cap_le)
  have st := Stp.pushed a ({ cls := .type "tuple", data := .seq vs.toArray } : Obj) s.toks
  exact ⟨_, _, _, rfl, st, .tup (Heap.get?_push_size _ rfl) rfl rfl (r.mono (a.firm st) (List.prefix_refl _)) sz fun q => Nat.lt_irrefl _ (a.nlt _ q)⟩

theorem SEl_len : ∀ {es : List PySem.Expr} {cs : List CE}, SEl G n C es cs → es.length = cs.length
  | [], [], _ => rfl
  | _ :: _, _ :: _, h => by simp [SEl_len h.2.2]
theorem evs_len (cl : Call) : ∀ {cs : List CE} {ρ : Rho} {σ σ' : Sto} {ds : List D}, evs cl cs ρ σ = .ok ds σ' → ds.length = cs.length
  | [], _, _, _, _, h => by simp only [evs] at h; cases h; rfl
  | c :: cs, ρ, σ, σ', ds, h => by
    simp only [evs] at h
    cases h1 : ev cl c ρ σ with
    | ok d σ₁ =>
      rw [h1, Res.bind_ok] at h
      cases h2 : evs cl cs ρ σ₁ with
      | ok ds' σ₂ => rw [h2, Res.bind_ok] at h; cases h; simp [evs_len cl h2]
      | exc => rw [h2] at h; cases h
      | stuck => rw [h2] at h; cases h
    | exc => rw [h1] at h; cases h
    | stuck => rw [h1] at h; cases h

theorem list_se {es : List PySem.Expr} {pos : Pos} {cs : List CE} (h : SEl G n C es cs) (hz : es.length ≤ cap) : SE G n C (.List es pos) (.list cs) := by
  intro hd A env envs β ρ σ s a
  show Does G A envs β s (standAt pos >>= fun _ => spliced (backTo pos (starEach es env)) >>= fun vs => newList vs) _
  simp only [ev]
  refine Does.stand (seqLE (spliced_sound h a) fun ds σ₁ β₁ vs s₁ h1 h2 h3 => ?_)
  exact newList_sound (a.step h2) h3 (by rw [evs_len _ h1, ← SEl_len h]; exact hz)
theorem tup_se {es : List PySem.Expr} {k : Nat} {pos : Pos} {cs : List CE} (h : SEl G n C es cs) (hz : es.length ≤ cap) : SE G n C (.Tuple es k pos) (.tup cs) := by
  intro hd A env envs β ρ σ s a
  show Does G A envs β s (standAt pos >>= fun _ => spliced (backTo pos (starEach es env)) >>= fun vs => newTuple vs) _
  simp only [ev]
  refine Does.stand (seqLE (spliced_sound h a) fun ds σ₁ β₁ vs s₁ h1 h2 h3 => ?_)
  exact newTuple_sound (a.step h2) h3 (by rw [evs_len _ h1, ← SEl_len h]; exact hz)
end
end Mine

/-! part MSnd10 -/
namespace Mine
open PySem PySem.Calls PyProof.Rows

section
variable {G : Gd} {n : Nat} {hd : Bool} {A : Around} {env : Env} {envs : List Env} {C : CC} {β : List Addr} {ρ : Rho} {σ : Sto} {s : Shared}

theorem subscripted_plain {slice : PySem.Expr} (h : isSlice slice = false) (o i : Value) : subscripted slice false o i = PySem.operate [o, i] (getItem o i) := by
  cases slice <;> first | rfl | cases h

theorem idx_seq (i : Int) (len : Nat) : seqIndex? i len = idx? i len := by
  unfold seqIndex? idx?
  simp only [Bool.and_eq_true, decide_eq_true_eq]

theorem idx_bounds {i : Int} {len k : Nat} (h : idx? i len = some k) (hl : len ≤ 2 ^ 40) : -(2 ^ 63) ≤ i ∧ i < 2 ^ 63 ∧ k < len ∧ (0 ≤ i → k = i.toNat) ∧ (i < 0 → k = (i + len).toNat ∧ -(len : Int) ≤ i) := by
  unfold idx? at h
  dsimp only at h
  by_cases hi : i < 0
  · rw [if_pos hi] at h
    split at h
    · rename_i hc
      injection h with h
      refine ⟨by omega, by omega, by omega, fun h0 => by omega, fun _ => ⟨by omega, by omega⟩⟩
    · cases h
  · rw [if_neg hi] at h
    split at h
    · rename_i hc
      injection h with h
      refine ⟨by omega, by omega, by omega, fun h0 => by omega, fun h0 => by omega⟩
    · cases h

/-- an item of a list or a tuple -/
theorem item_seq (a : At G n hd A env envs C β ρ σ s) {b : Addr} {vs : List Value} {ds : List D} (hs : s.heap.IsList b vs.toArray ∨ s.heap.IsTuple b vs.toArray) (rl : RelL G s.heap β ds vs) (hz : ds.length ≤ cap) {i : Int} {t : Tok} {d : D} (e : (idx? i ds.length).bind (ds[·]?) = some d) :
    Does G A envs β s (getItem (.ref b) (.int i t)) (.ok d σ) := by
  obtain ⟨k, h1, h2⟩ := Option.bind_eq_some_iff.mp e
  obtain ⟨v, h3, h4⟩ := rl.get h2
  obtain ⟨b1, b2, b3, b4, b5⟩ := idx_bounds h1 (Nat.le_trans hz (by decide))
  refine Does.same a.inv fun Q hQ => ?_
  rcases hs with hs | hs
  · by_cases hi : 0 ≤ i
    · refine wpAny_getItem_list hs hi b2 ?_ (hQ v s.toks h4)
      rw [← b4 hi]; simpa using h3
    · have hi' : i < 0 := by omega
      obtain ⟨c1, c2⟩ := b5 hi'
      refine wpAny_getItem_list_neg hs hi' ?_ b1 ?_ (hQ v s.toks h4)
      · rw [List.size_toArray, ← rl.length]; exact c2
      · rw [List.size_toArray, ← rl.length, ← c1]; simpa using h3
  · obtain ⟨o, k1, k2, m, k3⟩ := hs
    refine PyProof.Rows.getItem_tuple ⟨o, k1, k2, m, k3⟩ b1 b2 (j := k) ?_ ?_ (hQ v s.toks h4)
    · rw [idx_seq, List.size_toArray, ← rl.length]; exact h1
    · simpa using h3

theorem item_str (a : At G n hd A env envs C β ρ σ s) {x : List Nat} {i : Int} {t u : Tok} {c : Nat} (ok : sOk x = true) (e : (idx? i x.length).bind (x[·]?) = some c) : Does G A envs β s (getItem (.str (tx x) t) (.int i u)) (.ok (.str [c]) σ) := by
  obtain ⟨k, h1, h2⟩ := Option.bind_eq_some_iff.mp e
  simp only [sOk, Bool.and_eq_true, decide_eq_true_eq] at ok
  obtain ⟨b1, b2, _⟩ := idx_bounds h1 (Nat.le_trans ok.2 (by decide))
  have hc : c ∈ x := List.mem_of_getElem? h2
  refine Does.str a ?_ fun Q hQ => ?_
  · simp only [sOk, Bool.and_eq_true, decide_eq_true_eq, List.all_cons, List.all_nil, and_true]
    exact ⟨by have := List.all_eq_true.mp ok.1 c hc; simpa using this, (by decide : 1 ≤ most)⟩
  · refine P.getItem_str ?_ ?_ (hQ _ _)
    · rw [Bool.or_eq_false_iff, decide_eq_false_iff_not, decide_eq_false_iff_not]
      exact ⟨by omega, by omega⟩
    · rw [tx_len, idx_seq, h1]
      simpa [tx] using h2

theorem sub_sound (a : At G n hd A env envs C β ρ σ s) {value slice : PySem.Expr} {x y : D} {v w : Value} (hs : isSlice slice = false) (rx : Rel G s.heap β x v) (ry : Rel G s.heap β y w) : Does G A envs β s (subscriptTail value slice v w) (subOp x y σ) := by
  have key : ∀ {r : Res D} (T id : String), s.TypeIs v T → typeLookup (.type T) "__getitem__" = pure (some (.builtin id)) → Does G A envs β s (getItem v w) r → Does G A envs β s (subscriptTail value slice v w) r :=
    fun T id hT hl h => h.imp fun Q E q => tail_any hT hl q (subscripted_plain hs _ _)
  have seq : ∀ {ds : List D}, seqOf σ x = some ds → Does G A envs β s (subscriptTail value slice v w) (match y with | .int k => (match (idx? k ds.length).bind (ds[·]?) with | some d => .ok d σ | none => .stuck) | _ => .stuck) := by
    intro ds e
    obtain ⟨b, vs, rfl, hb, rl, sz⟩ := a.inv.seq rx e
    cases ry with
    | int k t =>
      dsimp only
      split
      · rename_i d hd'
        have h := item_seq (t := t) a hb rl sz hd'
        rcases hb with hb | hb
        · exact key "list" _ hb.typeIs slot_list_getitem.lookup h
        · exact key "tuple" _ hb.typeIs slot_tuple_getitem.lookup h
      · exact Does.stuck
    | _ => exact Does.stuck
  unfold subOp
  split
  · rename_i x' k
    cases rx with
    | str t ok =>
      cases ry with
      | int _ u =>
        split
        · rename_i c hc
          exact key "str" _ (typeIs_str s _ t) F.slot_str_getitem.lookup (item_str a ok hc)
        · exact Does.stuck
  · rename_i hno
    split
    · rename_i ds k e1
      exact seq e1
    · exact Does.stuck

theorem sub_se {value slice : PySem.Expr} {pos : Pos} {cv cs : CE} (hsl : isSlice slice = false) (hv : SE G n C value cv) (hs : SE G n C slice cs) : SE G n C (.Subscript value slice pos) (.sub cv cs) := by
  intro hd A env envs β ρ σ s a
  rw [eval_Subscript]
  simp only [ev]
  refine seqE (hv a) fun x σ₁ β₁ v s₁ _ h2 h3 => ?_
  have a₁ := a.step h2
  refine seqE ((hs a₁).holding) fun y σ₂ β₂ w s₂ _ h5 h6 => ?_
  exact (sub_sound (value := value) (slice := slice) (a₁.step h5) hsl (h3.mono (a₁.firm h5) h5.pre) h6).stand

/-! slices -/
theorem clip_eq (k : Int) (len : Nat) : clipAt len k = clip k len := by
  have h := clipAt_cast len k
  unfold clip
  dsimp only
  by_cases hk : k < 0
  · rw [if_pos hk] at h ⊢
    split
    · omega
    · split <;> omega
  · rw [if_neg hk] at h ⊢
    split
    · omega
    · split <;> omega

/-- a bound of a slice as the model has it -/
inductive BndR : Option D → Value → Option Int → Prop
  | none : BndR none .none none
  | int (i : Int) (t : Tok) : BndR (some (.int i)) (.int i t) (some i)
theorem BndR.part {d : Option D} {v : Value} {i : Option Int} (h : BndR d v i) : IsPart v i := by cases h; exact .none; exact .int _ _
theorem BndR.bnd {d : Option D} {v : Value} {i : Option Int} (h : BndR d v i) (dflt len : Nat) : bnd d dflt len = some (i.elim dflt (clipAt len)) := by
  cases h with
  | none => rfl
  | int i t => simp only [Mine.bnd, Option.elim, clip_eq]

theorem cut_eq {α : Type} (l : List α) (a b : Nat) : (l.drop a).take (b - a) = cut l a b := by
  unfold cut
  rw [List.drop_take]

theorem RelL.cut {h : Heap} {ds : List D} {vs : List Value} (r : RelL G h β ds vs) (x y : Nat) : RelL G h β (Mine.cut ds x y) (Mine.cut vs x y) := by
  have drop : ∀ (k : Nat) {ds : List D} {vs : List Value}, RelL G h β ds vs → RelL G h β (ds.drop k) (vs.drop k) := by
    intro k
    induction k with
    | zero => intro ds vs r; exact r
    | succ k ih => intro ds vs r; cases r with
      | nil => exact .nil
      | cons _ rs => exact ih rs
  have take : ∀ (k : Nat) {ds : List D} {vs : List Value}, RelL G h β ds vs → RelL G h β (ds.take k) (vs.take k) := by
    intro k
    induction k with
    | zero => intro ds vs r; simp; exact .nil
    | succ k ih => intro ds vs r; cases r with
      | nil => exact .nil
      | cons r rs => exact .cons r (ih rs)
  exact drop x (take y r)
theorem cut_len {α : Type} (l : List α) (a b : Nat) : (cut l a b).length ≤ l.length := by
  unfold cut
  simp only [List.length_drop, List.length_take]; omega

end
end Mine

/-! part MSnd11 -/
namespace Mine
open PySem PySem.Calls PyProof.Rows

section
variable {G : Gd} {n : Nat} {hd : Bool} {A : Around} {env : Env} {envs : List Env} {C : CC} {β : List Addr} {ρ : Rho} {σ : Sto} {s : Shared}

theorem sOk_cut {x : List Nat} (hx : sOk x = true) (a b : Nat) : sOk (cut x a b) = true := by
  simp only [sOk, Bool.and_eq_true, decide_eq_true_eq] at *
  refine ⟨List.all_eq_true.mpr fun c hc => List.all_eq_true.mp hx.1 c (List.mem_of_mem_take (List.mem_of_mem_drop hc)), Nat.le_trans (cut_len _ _ _) hx.2⟩

theorem str_picked (x : List Nat) (lo hi : Option Int) : (Builtin.Str.strSliceIndices lo hi 1 x.length).filterMap ((tx x).cps[·]?) = cut x (lo.elim 0 (clipAt x.length)) (hi.elim x.length (clipAt x.length)) := by
  have e : Builtin.Str.strSliceIndices lo hi 1 x.length = sliceRange ((lo.elim 0 (clipAt x.length) : Nat) : Int) ((hi.elim x.length (clipAt x.length) : Nat) : Int) 1 := by
    cases lo <;> cases hi <;> simp [Builtin.Str.strSliceIndices, clipAt_cast]
  rw [e, sliceRange_one, pick_run, ← cut_eq]

theorem slice_str (a : At G n hd A env envs C β ρ σ s) {x : List Nat} {t : Tok} (ok : sOk x = true) {sl : Addr} {lo hi : Option Int} {vl vu : Value} (hs : s.heap.IsSliceOf sl vl vu .none) (pl : IsPart vl lo) (pu : IsPart vu hi) :
    Does G A envs β s (getItem (.str (tx x) t) (.ref sl)) (.ok (.str (cut x (lo.elim 0 (clipAt x.length)) (hi.elim x.length (clipAt x.length)))) σ) := by
  refine Does.str a (sOk_cut ok _ _) fun Q hQ => ?_
  obtain ⟨l, hl, e1⟩ : ∃ l : Option (Int × Tok), vl = partValue l ∧ l.map (·.1) = lo := by
    cases pl with
    | none => exact ⟨none, rfl, rfl⟩
    | int i t => exact ⟨some (i, t), rfl, rfl⟩
  obtain ⟨u, hu, e2⟩ : ∃ u : Option (Int × Tok), vu = partValue u ∧ u.map (·.1) = hi := by
    cases pu with
    | none => exact ⟨none, rfl, rfl⟩
    | int i t => exact ⟨some (i, t), rfl, rfl⟩
  refine wpAny_getItem_str_slice (l := l) (u := u) (st := none) (by rw [hl, hu] at hs; exact hs) rfl ?_
  have e3 : (slicePicked (tx x) l u none).filterMap ((tx x).cps[·]?) = cut x (lo.elim 0 (clipAt x.length)) (hi.elim x.length (clipAt x.length)) := by
    unfold slicePicked
    rw [e1, e2, tx_len]; exact str_picked x lo hi
  have e4 : (slicePicked (tx x) l u none).length = (cut x (lo.elim 0 (clipAt x.length)) (hi.elim x.length (clipAt x.length))).length := by
    rw [← e3]
    have e5 : slicePicked (tx x) l u none = sliceRange ((lo.elim 0 (clipAt x.length) : Nat) : Int) ((hi.elim x.length (clipAt x.length) : Nat) : Int) 1 := by
      unfold slicePicked
      rw [e1, e2, tx_len]
      cases lo <;> cases hi <;> simp [Builtin.Str.strSliceIndices, clipAt_cast]
    rw [e5, sliceRange_one, pick_run]
    simp only [List.length_map, List.length_range, List.length_take, List.length_drop]
    have hb : hi.elim x.length (clipAt x.length) ≤ x.length := by
      cases hi with
      | none => exact Nat.le_refl _
      | some i => simp only [Option.elim]; have := clipAt_cast x.length i; omega
    show _ = min _ ((tx x).cps.toList.length - _)
    have : (tx x).cps.toList.length = x.length := by simp [tx]
    omega
  unfold sliceMade
  split
  · rename_i hc
    have hlen : (cut x (lo.elim 0 (clipAt x.length)) (hi.elim x.length (clipAt x.length))).length = x.length := by
      rw [← e4]
      simp only [Bool.and_eq_true, beq_iff_eq] at hc
      rw [hc.2, tx_len]
    have hsame : cut x (lo.elim 0 (clipAt x.length)) (hi.elim x.length (clipAt x.length)) = x := by
      generalize hi.elim x.length (clipAt x.length) = b at hlen
      generalize lo.elim 0 (clipAt x.length) = a' at hlen
      unfold cut at hlen ⊢
      simp only [List.length_drop, List.length_take] at hlen
      rcases Nat.eq_zero_or_pos x.length with h0 | h0
      · have : x = [] := List.eq_nil_of_length_eq_zero h0
        subst this; simp
      · have ha : a' = 0 := by omega
        have hb : x.length ≤ b := by omega
        subst ha
        rw [List.drop_zero, List.take_of_length_le hb]
    rw [hsame] at hQ
    exact hQ t s.toks
  · refine ⟨?_, ?_⟩
    · show (Str.mk _).cps.size ≤ sizeLine
      rw [e3, List.size_toArray]
      simp only [sOk, Bool.and_eq_true, decide_eq_true_eq] at ok
      exact Nat.le_trans (Nat.le_trans (cut_len _ _ _) ok.2) most_le
    · rw [e3]; exact hQ _ _

theorem slice_list (a : At G n hd A env envs C β ρ σ s) {b : Addr} {vs : List Value} {ds : List D} (hb : s.heap.IsList b vs.toArray) (rl : RelL G s.heap β ds vs) (hz : ds.length ≤ cap) {sl : Addr} {lo hi : Option Int} {vl vu : Value} (hs : s.heap.IsSliceOf sl vl vu .none) (pl : IsPart vl lo) (pu : IsPart vu hi) :
    Does G A envs β s (getItem (.ref b) (.ref sl)) (Mine.alloc (.list (cut ds (lo.elim 0 (clipAt ds.length)) (hi.elim ds.length (clipAt ds.length)))) σ) := fun _ => by
  refine wpAny_getItem_list_slice hb hs pl pu .none (by simp) ?_ (by rw [List.size_toArray, ← rl.length]; exact Nat.le_trans hz cap_le)
  have e0 : slicePick vs.toArray lo hi none = (cut vs (lo.elim 0 (clipAt ds.length)) (hi.elim ds.length (clipAt ds.length))).toArray := by
    rw [slicePick_plain, show vs.toArray.size = ds.length by rw [List.size_toArray, rl.length], cut_eq]
  rw [e0]
  obtain ⟨st, rr⟩ := Stp.alloc (o := lstO (cut vs (lo.elim 0 (clipAt ds.length)) (hi.elim ds.length (clipAt ds.length))) 0) (ob := .list (cut ds (lo.elim 0 (clipAt ds.length)) (hi.elim ds.length (clipAt ds.length)))) a s.toks
    fun f new => .list (Heap.get?_push_size _ rfl) ((rl.cut _ _).mono f (List.prefix_append ..)) new (Nat.le_trans (cut_len _ _ _) hz)
  exact ⟨_, _, _, rfl, st, rr⟩

inductive OptR (G : Gd) (h : Heap) (β : List Addr) : Option D → Value → Prop
  | none : OptR G h β none .none
  | some {d : D} {v : Value} (r : Rel G h β d v) : OptR G h β (some d) v
theorem OptR.mono {h h' : Heap} {β' : List Addr} {o : Option D} {v : Value} (k : Firm G.N h h') (p : β <+: β') (r : OptR G h β o v) : OptR G h' β' o v := by
  cases r with
  | none => exact .none
  | some r => exact .some (r.mono k p)
theorem OptR.bndR {h : Heap} {o : Option D} {v : Value} (r : OptR G h β o v) {dflt len k : Nat} (e : bnd o dflt len = Option.some k) : ∃ i, BndR o v i := by
  cases r with
  | none => exact ⟨_, .none⟩
  | some r =>
    cases r with
    | int i t => exact ⟨_, .int i t⟩
    | _ => cases e

theorem slice_op (a : At G n hd A env envs C β ρ σ s) {value : PySem.Expr} {lo hi : Option PySem.Expr} {p pos : Pos} {x : D} {v : Value} {dl du : Option D} {vl vu : Value} (rx : Rel G s.heap β x v) (rl : OptR G s.heap β dl vl) (ru : OptR G s.heap β du vu) :
    Does G A envs β s (newFields "slice" [vl, vu, .none] >>= fun i => standAt pos >>= fun _ => subscriptTail value (.Slice lo hi none p) v i) (sliceOp x dl du σ) := by
  have st := Stp.pushed a ({ cls := .type "slice", data := .fields [vl, vu, .none].toArray } : Obj) s.toks
  have a₁ := a.step st
  have f := a.firm st
  have rx' := rx.mono f st.pre
  have hsl : (s.heap.push { cls := .type "slice", data := .fields #[vl, vu, .none] }).IsSliceOf s.heap.objs.size vl vu .none := Heap.IsSliceOf.new _ _ _ _
  have key : ∀ {r : Res D} (T id : String), ({ s with heap := s.heap.push { cls := .type "slice", data := .fields [vl, vu, .none].toArray } } : Shared).TypeIs v T → typeLookup (.type T) "__getitem__" = pure (some (.builtin id)) →
      Does G A envs β { s with heap := s.heap.push { cls := .type "slice", data := .fields [vl, vu, .none].toArray } } (getItem v (.ref s.heap.objs.size)) r →
      Does G A envs β s (newFields "slice" [vl, vu, .none] >>= fun i => standAt pos >>= fun _ => subscriptTail value (.Slice lo hi none p) v i) r := by
    intro r T id hT hl h hr
    refine wpAny_bind (wpAny_newObj_type (wpAny_bind (wpAny_standAt ?_)) (by show [vl, vu, Value.none].toArray.size ≤ sizeLine + 2; simp [sizeLine_eq]))
    refine tail_any hT hl (wpAny_mono (h hr) (fun _ _ p => p.after st) fun _ _ p => p.after st (fun _ _ _ q => q)) (ops := [.ref s.heap.objs.size, v]) rfl
  have list : ∀ {ds : List D} {b : Addr} {vs : List Value}, v = .ref b → s.heap.IsList b vs.toArray → RelL G s.heap β ds vs → ds.length ≤ cap → Does G A envs β s (newFields "slice" [vl, vu, .none] >>= fun i => standAt pos >>= fun _ => subscriptTail value (.Slice lo hi none p) v i)
      (match bnd dl 0 ds.length, bnd du ds.length ds.length with | some x, some y => Mine.alloc (.list (cut ds x y)) σ | _, _ => .stuck) := by
    intro ds b vs hv hb rl' sz
    subst hv
    split
    · rename_i x y e1 e2
      obtain ⟨il, bl⟩ := rl.bndR e1
      obtain ⟨iu, bu⟩ := ru.bndR e2
      rw [bl.bnd] at e1; rw [bu.bnd] at e2
      cases e1; cases e2
      obtain ⟨o, k1, k2, m, k3⟩ := hb
      have hb' : (s.heap.push { cls := .type "slice", data := .fields #[vl, vu, .none] }).IsList b vs.toArray := ⟨o, Heap.get?_push_of_some _ k1, k2, m, k3⟩
      exact key "list" _ hb'.typeIs slot_list_getitem.lookup (slice_list a₁ hb' (rl'.mono f st.pre) sz hsl bl.part bu.part)
    · exact Does.stuck
  unfold sliceOp
  cases rx with
  | str t ok =>
    dsimp only
    split
    · rename_i x y e1 e2
      obtain ⟨il, bl⟩ := rl.bndR e1
      obtain ⟨iu, bu⟩ := ru.bndR e2
      rw [bl.bnd] at e1; rw [bu.bnd] at e2
      cases e1; cases e2
      exact key "str" _ (typeIs_str _ _ t) F.slot_str_getitem.lookup (slice_str a₁ ok hsl bl.part bu.part)
    · exact Does.stuck
  | @tup b o m ds vs ho hc hd' rl' sz nN =>
    dsimp only
    split
    · rename_i k
      cases rl with
      | some rk =>
        cases rk with
        | int _ u =>
          cases ru with
          | none =>
            refine Does.ite (fun hk => ?_) fun _ => Does.stuck
            obtain ⟨j, rfl⟩ := Int.eq_ofNat_of_zero_le (by omega : 0 ≤ k)
            have ht : IsTup (s.heap.push { cls := .type "slice", data := .fields #[.int j u, .none, .none] }) b vs.toArray := ⟨o, Heap.get?_push_of_some _ ho, hc, m, hd'⟩
            refine key "tuple" _ ht.typeIs slot_tuple_getitem.lookup fun _ => ?_
            refine getItem_tuple_from (a := j) (u := u) ht hsl (by omega) (by rw [List.size_toArray, ← rl'.length]; omega) ?_ (by rw [List.size_toArray, ← rl'.length]; exact Nat.le_trans sz cap_le)
            have st2 := Stp.pushed a₁ ({ cls := .type "tuple", data := .seq (vs.toArray.toList.drop j).toArray } : Obj) s.toks
            have r2 : RelL G (s.heap.push { cls := .type "slice", data := .fields #[.int j u, .none, .none] }) β (ds.drop j) (vs.drop j) := by
              have := (rl'.mono f st.pre).cut j vs.length
              rw [show cut vs j vs.length = vs.drop j by unfold cut; rw [List.take_length], show cut ds j vs.length = ds.drop j by unfold cut; rw [← rl'.length, List.take_length]] at this
              exact this
            refine ⟨_, _, β, rfl, st2, ?_⟩
            simp only [Int.toNat_natCast]
            exact .tup (Heap.get?_push_size _ rfl) rfl rfl (r2.mono (a₁.firm st2) (List.prefix_refl _)) (by simp only [List.length_drop]; omega) fun q => Nat.lt_irrefl _ (a₁.nlt _ q)
    · exact Does.stuck
  | @ref k b hb =>
    dsimp only
    split
    · rename_i ds e
      obtain ⟨b', vs, h1, h2, rl', sz⟩ := a.inv.seq (.ref hb) e
      cases h1
      rcases h2 with h2 | h2
      · exact list rfl h2 rl' sz
      · exfalso
        obtain ⟨o, k1, k2, m, k3⟩ := h2
        exact a.inv.firm_notin k1 (.inl ⟨k2, _, _, k3⟩) (List.mem_of_getElem? hb)
    · exact Does.stuck
  | _ => exact Does.stuck

noncomputable def SEo (G : Gd) (n : Nat) (C : CC) : Option PySem.Expr → Option CE → Prop
  | none, none => True
  | some e, some c => SE G n C e c
  | _, _ => False

/-- an optional part, then the rest -/
theorem seqO {e : Option PySem.Expr} {c : Option CE} (h : SEo G n C e c) (a : At G n hd A env envs C β ρ σ s) {f : Value → Sem Value} {k : Option D → Sto → Res D}
    (hk : ∀ d σ₁ β₁ v s₁, Stp G (fsOf envs) no β β₁ σ₁ s s₁ → OptR G s₁.heap β₁ d v → Does G A envs β₁ s₁ (f v) (k d σ₁)) : Does G A envs β s (valueOrNone (evalOpt e env) >>= f) ((evo (callN G.P n hd) c ρ σ).bind k) := by
  cases e with
  | none =>
    cases c with
    | none =>
      simp only [evo, Res.bind_ok]
      exact (hk none σ β .none s (Stp.refl a.inv) .none).imp fun Q E x => wpAny_bind (wpAny_pure x)
    | some c => exact h.elim
  | some e =>
    cases c with
    | none => exact h.elim
    | some c =>
      have e1 : (evo (callN G.P n hd) (some c) ρ σ).bind k = (ev (callN G.P n hd) c ρ σ).bind fun d σ => k (some d) σ := by
        simp only [evo]
        cases ev (callN G.P n hd) c ρ σ <;> rfl
      rw [e1]
      exact seqE (h a) fun d σ₁ β₁ v s₁ _ h2 h3 => hk (some d) σ₁ β₁ v s₁ h2 (.some h3)

theorem slice_se {value : PySem.Expr} {lo hi : Option PySem.Expr} {p pos : Pos} {cv : CE} {cl ch : Option CE} (hv : SE G n C value cv) (hl : SEo G n C lo cl) (hh : SEo G n C hi ch) : SE G n C (.Subscript value (.Slice lo hi none p) pos) (.slice cv cl ch) := by
  intro hd A env envs β ρ σ s a
  show Does G A envs β s (eval value env >>= fun o => PySem.holding [o] (valueOrNone (evalOpt lo env) >>= fun l => PySem.holding [l] (valueOrNone (evalOpt hi env)) >>= fun u => PySem.holding [l, u] (valueOrNone (evalOpt none env)) >>= fun st => newFields "slice" [l, u, st]) >>= fun i => standAt pos >>= fun _ => subscriptTail value (.Slice lo hi none p) o i) _
  simp only [ev]
  refine seqE (hv a) fun x σ₁ β₁ v s₁ _ h2 h3 => ?_
  have a₁ := a.step h2
  have assoc : ∀ {T : Sem Value}, Does G A envs β₁ s₁ (valueOrNone (evalOpt lo env) >>= fun l => valueOrNone (evalOpt hi env) >>= fun u => newFields "slice" [l, u, .none] >>= fun i => standAt pos >>= fun _ => subscriptTail value (.Slice lo hi none p) v i) ((evo (callN G.P n hd) cl ρ σ₁).bind fun l σ => (evo (callN G.P n hd) ch ρ σ).bind fun h σ => sliceOp x l h σ) →
      Does G A envs β₁ s₁ (PySem.holding [v] (valueOrNone (evalOpt lo env) >>= fun l => PySem.holding [l] (valueOrNone (evalOpt hi env)) >>= fun u => PySem.holding [l, u] (valueOrNone (evalOpt none env)) >>= fun st => newFields "slice" [l, u, st]) >>= fun i => standAt pos >>= fun _ => subscriptTail value (.Slice lo hi none p) v i) ((evo (callN G.P n hd) cl ρ σ₁).bind fun l σ => (evo (callN G.P n hd) ch ρ σ).bind fun h σ => sliceOp x l h σ) := by
    intro T h
    refine h.imp fun Q E q => ?_
    intro Γ pp hΓ
    have := q Γ pp hΓ
    simp only [Sem.wp_bind', Sem.wp_holding, evalOpt, valueOrNone, Sem.wp_pure'] at this ⊢
    exact this
  refine assoc (T := newFields "slice" []) ?_
  refine seqO hl a₁ fun dl σ₂ β₂ vl s₂ h5 h6 => ?_
  have a₂ := a₁.step h5
  refine seqO hh a₂ fun du σ₃ β₃ vu s₃ h8 h9 => ?_
  have a₃ := a₂.step h8
  exact slice_op a₃ ((h3.mono (a₁.firm h5) h5.pre).mono (a₂.firm h8) h8.pre) (h6.mono (a₂.firm h8) h8.pre) h9

end
end Mine

/-! part MSnd12 -/
namespace Mine
open PySem PySem.Calls PySem.W PyProof.Rows

section
variable {G : Gd} {n : Nat} {hd : Bool} {A : Around} {env : Env} {envs : List Env} {C : CC} {β : List Addr} {ρ : Rho} {σ : Sto} {s : Shared}

/-- what may be called plainly -/
noncomputable def Keep (G : Gd) (f : Value) : Prop := ∀ h : Heap, (∀ b o, G.H.get? b = some o → h.get? b = some o) → ∃ k, (k = Keeper.frame ∨ k = Keeper.machine ∨ k = Keeper.boundFrame) ∧ Looks G.M h (keeperOf f) k
theorem Keep.builtin (id : String) : Keep G (.builtin id) := fun _ _ => ⟨.machine, .inr (.inl rfl), Looks.of_pure rfl⟩
theorem Keep.type (T : String) : Keep G (.type T) := fun _ _ => ⟨.machine, .inr (.inl rfl), Looks.of_pure rfl⟩
theorem Keep.fn {f : Addr} {o : Obj} {fd : FuncData} (ho : G.H.get? f = some o) (hd : o.data = .func fd) : Keep G (.ref f) := fun h k => by
  refine ⟨.frame, .inl rfl, ?_⟩
  intro A Q E s hk q
  unfold keeperOf
  refine wpAny_bind (wpAny_load (hk _ _ (k _ _ ho)) ?_)
  rw [hd]; exact wpAny_pure q

theorem backTo_any {pos : Pos} : ∀ {es : List PySem.Expr} {cs : List CE}, SEl G n C es cs → ∀ env, (backTo pos (starEach es env)).any (·.1) = false
  | [], [], _, _ => rfl
  | e :: es, c :: cs, h, env => by
    rw [starEach_cons h.1]
    show (false || (backTo pos (starEach es env)).any (·.1)) = false
    rw [backTo_any h.2.2]; rfl

/-- a call with plain arguments -/
theorem args_sound {f : Value} {first : List Value} {es : List PySem.Expr} {cs : List CE} {pos : Pos} {k : List D → Sto → Res D} (hk : Keep G f) (h : SEl G n C es cs) (a : At G n hd A env envs C β ρ σ s)
    (hc : ∀ ds σ₁ β₁ vs s₁, evs (callN G.P n hd) cs ρ σ = .ok ds σ₁ → Stp G (fsOf envs) no β β₁ σ₁ s s₁ → RelL G s₁.heap β₁ ds vs → Does G A envs β₁ s₁ (call f (first ++ vs)) (k ds σ₁)) :
    Does G A envs β s (callWith pos f first (backTo pos (starEach es env)) []) ((evs (callN G.P n hd) cs ρ σ).bind k) := by
  have key : Does G A envs β s (spliced (backTo pos (starEach es env)) >>= fun vs => call f (first ++ vs)) ((evs (callN G.P n hd) cs ρ σ).bind k) :=
    seqLE (spliced_sound h a) hc
  intro hr
  refine callWith_of (P := fun h => ∀ b o, G.H.get? b = some o → h.get? b = some o) (by rw [backTo_any h]; rfl) hk ?_
  have split : wpAny G.M A (spliced (backTo pos (starEach es env))) (fun vs s₁ => (∀ b o, G.H.get? b = some o → s₁.heap.get? b = some o) ∧ wpAny G.M A (call f (first ++ vs)) (PostE G envs β s ((evs (callN G.P n hd) cs ρ σ).bind k)) (PostX G envs β s ((evs (callN G.P n hd) cs ρ σ).bind k)) s₁) (PostX G envs β s ((evs (callN G.P n hd) cs ρ σ).bind k)) s := by
    refine wpAny_mono (spliced_sound h a (bind_ne hr)) (fun vs s₁ p => ?_) fun x s₁ p => ?_
    · obtain ⟨ds, σ₁, β₁, h1, h2, h3⟩ := p
      refine ⟨h2.inv.keep, wpAny_mono (hc ds σ₁ β₁ vs s₁ h1 h2 h3 (by intro q; exact hr (by rw [h1]; exact q))) (fun _ _ q => by rw [h1]; exact q.after h2) fun _ _ q => q.after h2 (by intro c o σ q; rw [h1]; exact q)⟩
    · obtain ⟨c, σ', e, h1, h2, h3⟩ := p
      exact ⟨c, σ', e, by rw [h1]; rfl, h2, h3⟩
  cases es with
  | nil =>
    cases cs with
    | nil =>
      have h0 := hc [] σ β [] s (by simp only [evs]) (Stp.refl a.inv) .nil (by intro q; exact hr (by simp only [evs]; exact q))
      rw [List.append_nil] at h0
      refine PySem.evalArgs_none ⟨a.inv.keep, ?_⟩
      simp only [evs] at hr ⊢
      show wpAny G.M A (call f (first ++ [])) _ _ _
      rw [List.append_nil]; exact h0
    | cons c cs => exact h.elim
  | cons e es =>
    cases cs with
    | nil => exact h.elim
    | cons c cs =>
      rw [starEach_cons h.1] at split ⊢
      exact evalArgs_plain split

end
end Mine

/-! part MSnd13 -/
namespace Mine
open PySem PySem.Calls PySem.W PyProof.Rows

section
variable {G : Gd} {n : Nat} {hd : Bool} {A : Around} {env : Env} {envs : List Env} {C : CC} {β : List Addr} {ρ : Rho} {σ : Sto} {s : Shared}

/-- a builtin function's or type's name -/
theorem bi_name (ok : GOk G) (a : At G n hd A env envs C β ρ σ s) {x : Str} {pos : Pos} {v : Value} {Q : Value → Shared → Prop} {E : Value → Shared → Prop} (hm : x ∈ biNames) (hb : bootBuiltins x = some v) (hk : C.kind x = some .globalImplicit) (hd' : (x == ("__debug__" : Str)) = false) (h : Q v s) :
    wpAny G.M A (eval (.Name x pos) env) Q E s :=
  builtin_name ok a hd' hk (ok.bi x hm).1 ((ok.bi x hm).2.trans hb) h

/-- the call of a name -/
theorem callName_sound {x : Str} {p pos : Pos} {es : List PySem.Expr} {cs : List CE} {f : Value} {k : List D → Sto → Res D} (hn : ∀ {Q : Value → Shared → Prop} {E : Value → Shared → Prop}, Q f s → wpAny G.M A (eval (.Name x p) env) Q E s) (hk : Keep G f) (h : SEl G n C es cs) (a : At G n hd A env envs C β ρ σ s)
    (hc : ∀ ds σ₁ β₁ vs s₁, evs (callN G.P n hd) cs ρ σ = .ok ds σ₁ → Stp G (fsOf envs) no β β₁ σ₁ s s₁ → RelL G s₁.heap β₁ ds vs → Does G A envs β₁ s₁ (call f vs) (k ds σ₁)) :
    Does G A envs β s (eval (.Call (.Name x p) es [] pos) env) ((evs (callN G.P n hd) cs ρ σ).bind k) := by
  have := args_sound (first := []) (pos := pos) hk h a (by simpa using hc)
  exact this.imp fun Q E q => wpAny_Call_Name_kw (hn q)

theorem boot_str : bootBuiltins "str" = some (.type "str") := by decide +kernel
theorem boot_bool : bootBuiltins "bool" = some (.type "bool") := by decide +kernel
theorem boot_tuple : bootBuiltins "tuple" = some (.type "tuple") := by decide +kernel
theorem boot_list : bootBuiltins "list" = some (.type "list") := by decide +kernel
theorem boot_isinstance : bootBuiltins "isinstance" = some (.builtin "isinstance") := by decide +kernel
theorem boot_range : bootBuiltins "range" = some (.type "range") := by decide +kernel
theorem boot_zip : bootBuiltins "zip" = some (.type "zip") := by decide +kernel

theorem Does.intT {m : Sem Value} {i : Int} (a : At G n hd A env envs C β ρ σ s) (h : ∀ Q : Value → Shared → Prop, (∀ t tk, Q (.int i t) { s with toks := tk }) → wpAny G.M A m Q (fun _ _ => False) s) : Does G A envs β s m (.ok (.int i) σ) :=
  Does.same a.inv fun Q hQ => h Q fun t tk => hQ _ _ (.int i t)
theorem Does.boolT {m : Sem Value} {b : Bool} (a : At G n hd A env envs C β ρ σ s) (h : ∀ Q : Value → Shared → Prop, (∀ tk, Q (.bool b) { s with toks := tk }) → wpAny G.M A m Q (fun _ _ => False) s) : Does G A envs β s m (.ok (.bool b) σ) :=
  Does.same a.inv fun Q hQ => h Q fun tk => hQ _ _ (.bool b)

theorem sOk_len {x : List Nat} (h : sOk x = true) : x.length ≤ most := by
  simp only [sOk, Bool.and_eq_true, decide_eq_true_eq] at h; exact h.2

theorem len_sound (a : At G n hd A env envs C β ρ σ s) {ds : List D} {vs : List Value} (r : RelL G s.heap β ds vs) : Does G A envs β s (call (.builtin "len") vs) (callBi .len ds σ) := by
  cases r with
  | nil => exact Does.stuck
  | cons r rs =>
    cases rs with
    | cons r' rs' => cases r <;> exact Does.stuck
    | nil =>
      have seq : ∀ {d : D} {v : Value}, Rel G s.heap β d v → Does G A envs β s (call (.builtin "len") [v]) (match seqOf σ d with | some ds => .ok (.int ds.length) σ | none => .stuck) := by
        intro d v r
        split
        · rename_i ds e
          obtain ⟨b, vs, rfl, hb, rl, sz⟩ := a.inv.seq r e
          have hz : ((vs.toArray.size : Nat) : Int) < 2 ^ 63 := by
            rw [List.size_toArray, ← rl.length]
            have : (cap : Int) < 2 ^ 63 := by decide
            omega
          have e2 : (ds.length : Int) = (vs.toArray.size : Nat) := by rw [List.size_toArray, rl.length]
          rw [e2]
          refine Does.intT a fun Q hQ => ?_
          rcases hb with hb | hb
          · exact call_len_list hb hz (hQ _ _)
          · exact len_tuple hb hz (hQ _ _)
        · exact Does.stuck
      cases r with
      | @str x t ok =>
        refine Does.intT a fun Q hQ => ?_
        have := sOk_len ok
        have hm : (most : Int) < 2 ^ 63 := by decide
        refine P.len_str (by rw [tx_len]; omega) ?_
        rw [tx_len]; exact hQ _ _
      | none => exact seq .none
      | bool b => exact seq (.bool b)
      | int i t => exact seq (.int i t)
      | tup ho hc hd r sz nN => exact seq (.tup ho hc hd r sz nN)
      | ref hb => exact seq (.ref hb)
      | exc ho hc hd nN => exact seq (.exc ho hc hd nN)

end
end Mine

/-! part MSnd14 -/
namespace Mine
open PySem PySem.Calls PySem.W PyProof.Rows

section
variable {G : Gd} {n : Nat} {hd : Bool} {A : Around} {env : Env} {envs : List Env} {C : CC} {β : List Addr} {ρ : Rho} {σ : Sto} {s : Shared}

theorem digitChar_toNat : ∀ d : Nat, d < 10 → (Nat.digitChar d).toNat = 48 + d := by decide
theorem digitsN_eq : ∀ (f m : Nat), m < f → digitsN f m = (Nat.toDigits 10 m).map Char.toNat
  | 0, m, h => absurd h (Nat.not_lt_zero _)
  | f + 1, m, h => by
    unfold digitsN
    split
    · rename_i hm
      rw [Nat.toDigits_of_lt_base hm, List.map_cons, digitChar_toNat m hm]; rfl
    · rename_i hm
      have hm' : m % 10 < 10 := Nat.mod_lt m (by decide)
      have t : Nat.toDigits 10 (m / 10) ++ Nat.toDigits 10 (m % 10) = Nat.toDigits 10 (10 * (m / 10) + m % 10) := Nat.toDigits_append_toDigits (by decide) (by omega) hm'
      rw [Nat.div_add_mod] at t
      rw [← t, List.map_append, Nat.toDigits_of_lt_base hm', digitsN_eq f (m / 10) (by omega), List.map_cons, digitChar_toNat _ hm']; rfl
theorem digitsN_len : ∀ (k f m : Nat), m < 10 ^ (k + 1) → (digitsN f m).length ≤ k + 1
  | k, 0, m, h => Nat.zero_le _
  | 0, f + 1, m, h => by
    unfold digitsN
    rw [if_pos (by simpa using h)]; exact Nat.le_refl _
  | k + 1, f + 1, m, h => by
    unfold digitsN
    split
    · simp
    · have := digitsN_len k f (m / 10) (by
        rw [Nat.pow_succ] at h
        exact Nat.div_lt_of_lt_mul (by rw [Nat.mul_comm]; exact h))
      simp only [List.length_append, List.length_cons, List.length_nil]; omega
theorem digitsN_range : ∀ (f m : Nat), ∀ c ∈ digitsN f m, 48 ≤ c ∧ c ≤ 57
  | 0, _, c, h => by simp [digitsN] at h
  | f + 1, m, c, h => by
    unfold digitsN at h
    split at h
    · simp at h; omega
    · rcases List.mem_append.mp h with h | h
      · exact digitsN_range f _ c h
      · simp at h; omega
theorem sOk_digits {m : Nat} (h : m < 10 ^ 70) : sOk (digits m) = true := by
  simp only [sOk, Bool.and_eq_true, decide_eq_true_eq]
  refine ⟨List.all_eq_true.mpr fun c hc => ?_, ?_⟩
  · have := digitsN_range _ _ c hc
    simp only [decide_eq_true_eq]; omega
  · have := digitsN_len 69 (m + 1) m h
    have e : most = 100000 := rfl
    show (digitsN (m + 1) m).length ≤ most
    omega
theorem toString_digits (m : Nat) : Str.ofString (toString ((m : Nat) : Int)) = tx (digits m) := by
  have h := KIN.signs_num m
  rw [← digitsN_eq (m + 1) m (Nat.lt_succ_self m)] at h
  show _ = Str.mk (digitsN (m + 1) m).toArray
  rw [← h]

theorem str_sound (a : At G n hd A env envs C β ρ σ s) {ds : List D} {vs : List Value} (r : RelL G s.heap β ds vs) : Does G A envs β s (call (.type "str") vs) (callBi .str ds σ) := by
  cases r with
  | nil => exact Does.stuck
  | cons r rs =>
    cases rs with
    | cons r' rs' => cases r <;> exact Does.stuck
    | nil =>
      cases r with
      | int i t =>
        refine Does.ite (fun hc => ?_) fun _ => Does.stuck
        obtain ⟨m, rfl⟩ := Int.eq_ofNat_of_zero_le hc.1
        have hm : m < 10 ^ 70 := by have := hc.2; exact_mod_cast this
        have e : intText (m : Int) = digits m := by
          unfold intText
          rw [if_neg (by omega)]; rfl
        rw [e]
        refine Does.str a (sOk_digits hm) fun Q hQ => ?_
        refine P.str_of_int ?_ (by rw [toString_digits]; exact hQ _ _)
        show m.log2 < 1920
        rcases Nat.eq_zero_or_pos m with h0 | h0
        · subst h0; decide
        · exact Nat.lt_trans ((Nat.log2_lt (k := 250) (by omega)).mpr (Nat.lt_trans hm (by decide))) (by decide)
      | bool b =>
        cases b
        · exact Does.str a (by decide) fun Q hQ => P.str_of_bool (hQ _ _)
        · exact Does.str a (by decide) fun Q hQ => P.str_of_bool (hQ _ _)
      | str t ok => exact Does.str a ok fun Q hQ => P.str_of_str (hQ t s.toks)
      | _ => exact Does.stuck

theorem foldl_digits : ∀ (x : List Nat) (k : Nat), x.foldl (fun a c => 10 * a + (c - 48)) k = x.foldl (fun a c => a * 10 + (c - 48)) k
  | [], _ => rfl
  | c :: x, k => by simp only [List.foldl_cons]; rw [foldl_digits x, Nat.mul_comm]

theorem int_sound (a : At G n hd A env envs C β ρ σ s) {ds : List D} {vs : List Value} (r : RelL G s.heap β ds vs) : Does G A envs β s (call (.type "int") vs) (callBi .int ds σ) := by
  cases r with
  | nil => exact Does.stuck
  | cons r rs =>
    cases rs with
    | cons r' rs' => cases r <;> exact Does.stuck
    | nil =>
      cases r with
      | @str x t ok =>
        show Does G A envs β s _ (match textInt x with | some n => if x.length ≤ 640 then .ok (.int n) σ else .stuck | none => .stuck)
        split
        · rename_i m hm
          refine Does.ite (fun hl => ?_) fun _ => Does.stuck
          unfold textInt at hm
          split at hm
          · rename_i hc
            injection hm with hm
            subst hm
            simp only [Bool.and_eq_true, Bool.not_eq_true', List.isEmpty_eq_false_iff] at hc
            refine Does.intT a fun Q hQ => ?_
            have h := intText_digits (x := tx x) (fun c hc' => by have := List.all_eq_true.mp hc.2 c hc'; simpa using this) (by simpa [tx] using hc.1) (by rw [tx_len]; omega)
            refine KIN.call_text h (by rw [tx_len]; exact hl) ?_
            have e : NumText.digitsVal (tx x).cps.toList = x.foldl (fun a c => 10 * a + (c - 48)) 0 := by rw [foldl_digits]; rfl
            rw [e]; exact hQ _ _
          · cases hm
        · exact Does.stuck
      | _ => exact Does.stuck

end
end Mine

/-! part MSnd15 -/
namespace Mine
open PySem PySem.Calls PySem.W PyProof.Rows
set_option maxRecDepth 100000

section
variable {G : Gd} {n : Nat} {hd : Bool} {A : Around} {env : Env} {envs : List Env} {C : CC} {β : List Addr} {ρ : Rho} {σ : Sto} {s : Shared}

/-! isinstance -/
theorem isi_list_no {a : Addr} {o : Obj} {T : String} (hc : o.cls = .type "list") (hne : (Value.type "list" == Value.type T) = false) (hty : typeOf (.type T) = pure (.type "type")) (hsub : isSubtype (.type "list") (.type T) = pure false) :
    Meets (Builtin.«isinstance» ⟨[.ref a, .type T], []⟩) (fun _ R s => s.heap.get? a = some o ∧ R (.ok (.ret (.bool false))) { s with toks := s.toks + 1 }) :=
  fun _ _ _ _ s hs => by
    obtain ⟨h, g, d, t, os⟩ := s
    exact isinstance_outer (isinstance_nested_false_list hs.1 hc hne hty hsub hs.2) (by intro e; cases e)
theorem isi_tuple_no {a : Addr} {o : Obj} {T : String} (hc : o.cls = .type "tuple") (hne : (Value.type "tuple" == Value.type T) = false) (hty : typeOf (.type T) = pure (.type "type")) (hsub : isSubtype (.type "tuple") (.type T) = pure false) :
    Meets (Builtin.«isinstance» ⟨[.ref a, .type T], []⟩) (fun _ R s => s.heap.get? a = some o ∧ R (.ok (.ret (.bool false))) { s with toks := s.toks + 1 }) :=
  fun _ _ _ _ s hs => by
    obtain ⟨h, g, d, t, os⟩ := s
    exact isinstance_outer (isinstance_nested_false_tuple hs.1 hc hne hty hsub hs.2) (by intro e; cases e)

theorem isi_dict_no {a : Addr} {o : Obj} {T : String} (hc : o.cls = .type "dict") (hne : (Value.type "dict" == Value.type T) = false) (hty : typeOf (.type T) = pure (.type "type")) (hsub : isSubtype (.type "dict") (.type T) = pure false) :
    Meets (Builtin.«isinstance» ⟨[.ref a, .type T], []⟩) (fun _ R s => s.heap.get? a = some o ∧ R (.ok (.ret (.bool false))) { s with toks := s.toks + 1 }) :=
  fun _ _ _ _ s hs => by
    obtain ⟨h, g, d, t, os⟩ := s
    exact isinstance_outer (isinstance_nested_false_dict hs.1 hc hne hty hsub hs.2) (by intro e; cases e)
theorem sub_dict_int' : isSubtype (.type "dict") (.type "int") = pure false := by rw [isSubtype_type]; kernel_rfl
theorem sub_dict_bool' : isSubtype (.type "dict") (.type "bool") = pure false := by rw [isSubtype_type]; kernel_rfl
theorem sub_dict_str' : isSubtype (.type "dict") (.type "str") = pure false := by rw [isSubtype_type]; kernel_rfl
theorem sub_dict_tuple' : isSubtype (.type "dict") (.type "tuple") = pure false := by rw [isSubtype_type]; kernel_rfl
theorem sub_dict_list' : isSubtype (.type "dict") (.type "list") = pure false := by rw [isSubtype_type]; kernel_rfl

noncomputable def tyVal : Ty → Value
  | .int => .type "int"
  | .bool => .type "bool"
  | .str => .type "str"
  | .tuple => .type "tuple"
  | .list => .type "list"
  | .exc _ => .none
noncomputable def tyName : Ty → String
  | .int => "int"
  | .bool => "bool"
  | .str => "str"
  | .tuple => "tuple"
  | .list => "list"
  | .exc _ => ""

theorem sub_list_int' : isSubtype (.type "list") (.type "int") = pure false := by rw [isSubtype_type]; kernel_rfl
theorem sub_list_bool' : isSubtype (.type "list") (.type "bool") = pure false := by rw [isSubtype_type]; kernel_rfl
theorem sub_list_str' : isSubtype (.type "list") (.type "str") = pure false := by rw [isSubtype_type]; kernel_rfl
theorem sub_list_tuple' : isSubtype (.type "list") (.type "tuple") = pure false := by rw [isSubtype_type]; kernel_rfl
theorem sub_tuple_int' : isSubtype (.type "tuple") (.type "int") = pure false := by rw [isSubtype_type]; kernel_rfl
theorem sub_tuple_bool' : isSubtype (.type "tuple") (.type "bool") = pure false := by rw [isSubtype_type]; kernel_rfl
theorem sub_tuple_str' : isSubtype (.type "tuple") (.type "str") = pure false := by rw [isSubtype_type]; kernel_rfl
theorem sub_tuple_list' : isSubtype (.type "tuple") (.type "list") = pure false := by rw [isSubtype_type]; kernel_rfl
theorem sub_none_int' : isSubtype (.type "NoneType") (.type "int") = pure false := by rw [isSubtype_type]; kernel_rfl
theorem sub_none_bool' : isSubtype (.type "NoneType") (.type "bool") = pure false := by rw [isSubtype_type]; kernel_rfl
theorem sub_none_str' : isSubtype (.type "NoneType") (.type "str") = pure false := by rw [isSubtype_type]; kernel_rfl
theorem sub_none_tuple' : isSubtype (.type "NoneType") (.type "tuple") = pure false := by rw [isSubtype_type]; kernel_rfl
theorem sub_none_list' : isSubtype (.type "NoneType") (.type "list") = pure false := by rw [isSubtype_type]; kernel_rfl

theorem isi_sound (a : At G n hd A env envs C β ρ σ s) {d : D} {v : Value} {t : Ty} (ht : ∀ c, t ≠ .exc c) (r : Rel G s.heap β d v) : Does G A envs β s (call (.builtin "isinstance") [v, tyVal t]) (ofOpt ((isInst d t σ).map .bool) σ) := by
  cases r with
  | none => cases t <;> first | exact absurd rfl (ht _) | skip
            · exact Does.boolT a fun Q hQ => call_isinstance (isinstance_false_none (by decide +kernel) F.isi_meta_int sub_none_int') (hQ _)
            · exact Does.boolT a fun Q hQ => call_isinstance (isinstance_false_none (by decide +kernel) F.isi_meta_bool sub_none_bool') (hQ _)
            · exact Does.boolT a fun Q hQ => call_isinstance (isinstance_false_none (by decide +kernel) F.isi_meta_str sub_none_str') (hQ _)
            · exact Does.boolT a fun Q hQ => call_isinstance (isinstance_false_none (by decide +kernel) F.isi_meta_tuple sub_none_tuple') (hQ _)
            · exact Does.boolT a fun Q hQ => call_isinstance (isinstance_false_none (by decide +kernel) F.isi_meta_list sub_none_list') (hQ _)
  | bool b => cases t <;> first | exact absurd rfl (ht _) | skip
              · exact Does.boolT a fun Q hQ => IsiPair.bool_int (hQ s.toks)
              · exact Does.boolT a fun Q hQ => IsiPair.bool_bool (hQ s.toks)
              · exact Does.boolT a fun Q hQ => IsiPair.bool_str (hQ _)
              · exact Does.boolT a fun Q hQ => IsiPair.bool_tuple (hQ _)
              · exact Does.boolT a fun Q hQ => IsiPair.bool_list (hQ _)
  | int i u => cases t <;> first | exact absurd rfl (ht _) | skip
               · exact Does.boolT a fun Q hQ => IsiPair.int_int (hQ s.toks)
               · exact Does.boolT a fun Q hQ => IsiPair.int_bool (hQ _)
               · exact Does.boolT a fun Q hQ => IsiPair.int_str (hQ _)
               · exact Does.boolT a fun Q hQ => IsiPair.int_tuple (hQ _)
               · exact Does.boolT a fun Q hQ => IsiPair.int_list (hQ _)
  | str u ok => cases t <;> first | exact absurd rfl (ht _) | skip
                · exact Does.boolT a fun Q hQ => IsiPair.str_int (hQ _)
                · exact Does.boolT a fun Q hQ => IsiPair.str_bool (hQ _)
                · exact Does.boolT a fun Q hQ => IsiPair.str_str (hQ s.toks)
                · exact Does.boolT a fun Q hQ => IsiPair.str_tuple (hQ _)
                · exact Does.boolT a fun Q hQ => IsiPair.str_list (hQ _)
  | tup ho hc hdd rl sz _ =>
    cases t <;> first | exact absurd rfl (ht _) | skip
    · exact Does.boolT a fun Q hQ => call_isinstance (isi_tuple_no hc (by decide +kernel) F.isi_meta_int sub_tuple_int') ⟨ho, hQ _⟩
    · exact Does.boolT a fun Q hQ => call_isinstance (isi_tuple_no hc (by decide +kernel) F.isi_meta_bool sub_tuple_bool') ⟨ho, hQ _⟩
    · exact Does.boolT a fun Q hQ => call_isinstance (isi_tuple_no hc (by decide +kernel) F.isi_meta_str sub_tuple_str') ⟨ho, hQ _⟩
    · exact Does.boolT a fun Q hQ => call_isinstance (isinstance_true (Tx := "tuple") F.isi_meta_tuple isSubtype_tuple_tuple) ⟨⟨_, ho, hc⟩, hQ s.toks⟩
    · exact Does.boolT a fun Q hQ => call_isinstance (isi_tuple_no hc (by decide +kernel) F.isi_meta_list sub_tuple_list') ⟨ho, hQ _⟩
  | @ref i b hb =>
    have lst : ∀ {ob : AObj} {ds : List D}, σ[i]? = some ob → (ob = .list ds ∨ ob = .froz ds) → Does G A envs β s (call (.builtin "isinstance") [.ref b, tyVal t]) (.ok (.bool (decide (t = .list))) σ) := by
      intro ob ds he hob
      obtain ⟨b', h1, h2, c⟩ := a.inv.look (.ref hb) he
      cases h1
      obtain ⟨vs, ⟨o, k1, k2, m, k3⟩, rl, _⟩ := a.inv.isList c hob
      cases t <;> first | exact absurd rfl (ht _) | skip
      · exact Does.boolT a fun Q hQ => call_isinstance (isi_list_no k2 (by decide +kernel) F.isi_meta_int sub_list_int') ⟨k1, hQ _⟩
      · exact Does.boolT a fun Q hQ => call_isinstance (isi_list_no k2 (by decide +kernel) F.isi_meta_bool sub_list_bool') ⟨k1, hQ _⟩
      · exact Does.boolT a fun Q hQ => call_isinstance (isi_list_no k2 (by decide +kernel) F.isi_meta_str sub_list_str') ⟨k1, hQ _⟩
      · exact Does.boolT a fun Q hQ => call_isinstance (isi_list_no k2 (by decide +kernel) F.isi_meta_tuple sub_list_tuple') ⟨k1, hQ _⟩
      · exact Does.boolT a fun Q hQ => call_isinstance (isinstance_true (Tx := "list") F.isi_meta_list F.isi_self_list) ⟨⟨_, k1, k2⟩, hQ s.toks⟩
    cases he : σ[i]? with
    | none => cases t <;> simp only [isInst, he] <;> exact Does.stuck
    | some ob =>
      cases ob with
      | list ds => have := lst he (.inl rfl); cases t <;> first | exact absurd rfl (ht _) | (simp only [isInst, he]; exact this)
      | froz ds => have := lst he (.inr rfl); cases t <;> first | exact absurd rfl (ht _) | (simp only [isInst, he]; exact this)
      | dict es =>
        obtain ⟨b', h1, h2, c⟩ := a.inv.look (.ref hb) he
        cases h1
        cases c with
        | dict ho r nd new sz =>
          cases t <;> first | exact absurd rfl (ht _) | simp only [isInst, he]
          · exact Does.boolT a fun Q hQ => call_isinstance (isi_dict_no rfl (by decide +kernel) F.isi_meta_int sub_dict_int') ⟨ho, hQ _⟩
          · exact Does.boolT a fun Q hQ => call_isinstance (isi_dict_no rfl (by decide +kernel) F.isi_meta_bool sub_dict_bool') ⟨ho, hQ _⟩
          · exact Does.boolT a fun Q hQ => call_isinstance (isi_dict_no rfl (by decide +kernel) F.isi_meta_str sub_dict_str') ⟨ho, hQ _⟩
          · exact Does.boolT a fun Q hQ => call_isinstance (isi_dict_no rfl (by decide +kernel) F.isi_meta_tuple sub_dict_tuple') ⟨ho, hQ _⟩
          · exact Does.boolT a fun Q hQ => call_isinstance (isi_dict_no rfl (by decide +kernel) F.isi_meta_list sub_dict_list') ⟨ho, hQ _⟩
      | _ => cases t <;> first | exact absurd rfl (ht _) | (simp only [isInst, he]; exact Does.stuck)
  | exc ho hc hdd _ => cases t <;> first | exact absurd rfl (ht _) | exact Does.stuck

/-! methods of texts -/
open Builtin.Str in
theorem occ_stay (x y : Str) (hi : Nat) : ∀ (l : List Nat) (st : Array Nat × Nat), st.fst.size = 1 → (forIn l st (StrLaws.occBody x y hi 1)).run.fst = st.fst
  | [], _, _ => rfl
  | a :: l, st, h => by
    rw [List.forIn_cons]
    unfold StrLaws.occBody
    rw [if_neg (by rintro ⟨⟨⟨q, _⟩, _⟩, _⟩; omega)]
    exact occ_stay x y hi l _ h
open Builtin.Str in
theorem occ_first (x y : Str) (hi i : Nat) (hP : i + y.length ≤ hi ∧ subAt x y i = true) : ∀ (k a free : Nat), free ≤ a → a ≤ i → i < a + k → (∀ j, a ≤ j → j < i → ¬ (j + y.length ≤ hi ∧ subAt x y j = true)) →
    (forIn (List.range' a k) ((#[] : Array Nat), free) (StrLaws.occBody x y hi 1)).run.fst = #[i]
  | 0, a, free, _, h1, h2, _ => by omega
  | k + 1, a, free, hf, h1, h2, hn => by
    rw [List.range'_succ, List.forIn_cons]
    unfold StrLaws.occBody
    by_cases ha : a = i
    · subst ha
      rw [if_pos ⟨⟨⟨by simp, hf⟩, hP.1⟩, hP.2⟩]
      exact occ_stay x y hi _ _ (by simp)
    · rw [if_neg (by rintro ⟨⟨_, q1⟩, q2⟩; exact hn a (Nat.le_refl _) (by omega) ⟨q1, q2⟩)]
      exact occ_first x y hi i hP k (a + 1) free (by omega) (by omega) (by omega) fun j hj => hn j (by omega)
theorem occ_index {x : List Nat} {c i : Nat} (h : x.findIdx? (· == c) = some i) : Builtin.Str.occurrences (tx x) (tx [c]) 0 (tx x).length 1 = [i] := by
  rw [StrLaws.occ_eq]
  obtain ⟨hi, he, hb⟩ := List.findIdx?_eq_some_iff_getElem.mp h
  have at_ : ∀ j, x[j]? = some c ↔ (j + (tx [c]).length ≤ (tx x).length ∧ Builtin.Str.subAt (tx x) (tx [c]) j = true) := fun j => (StrLaws.subAt_one (tx x) c j).symm
  rw [occ_first (tx x) (tx [c]) _ i ((at_ i).mp (by rw [List.getElem?_eq_getElem hi]; simpa using he)) _ 0 0 (Nat.le_refl _) (Nat.zero_le _) (by rw [tx_len]; omega) fun j _ hj q => by
    have := (at_ j).mpr q
    obtain ⟨hl, e⟩ := List.getElem?_eq_some_iff.mp this
    have := hb j hj
    rw [e] at this; simp at this]

theorem joinS_eq (sep : List Nat) : ∀ ss : List (List Nat), Str.join (tx sep) (ss.map tx) = tx (joinS sep ss)
  | [] => rfl
  | [x] => rfl
  | x :: y :: r => by
    show tx x ++ tx sep ++ Str.join (tx sep) ((y :: r).map tx) = _
    rw [joinS_eq sep (y :: r), tx_append, tx_append]; rfl

theorem splitOn_free {c : Nat} : ∀ {w : List Nat}, c ∉ w → splitOn c w = [w]
  | [], _ => rfl
  | x :: r, h => by
    have h1 : x ≠ c := fun q => h (q ▸ .head _)
    simp only [splitOn]
    rw [if_neg h1, splitOn_free fun q => h (.tail _ q)]
theorem splitOn_cons {c : Nat} : ∀ {w r : List Nat}, c ∉ w → splitOn c (w ++ c :: r) = w :: splitOn c r
  | [], r, _ => by simp [splitOn]
  | x :: w, r, h => by
    have h1 : x ≠ c := fun q => h (q ▸ .head _)
    simp only [List.cons_append, splitOn]
    rw [if_neg h1, splitOn_cons fun q => h (.tail _ q)]
theorem splitOn_join {c : Nat} : ∀ {ps : List (List Nat)}, ps ≠ [] → (∀ p ∈ ps, c ∉ p) → splitOn c (joinS [c] ps) = ps
  | [], h, _ => absurd rfl h
  | [p], _, hf => splitOn_free (hf p (.head _))
  | p :: q :: r, _, hf => by
    show splitOn c (p ++ [c] ++ joinS [c] (q :: r)) = _
    rw [List.append_assoc, List.singleton_append, splitOn_cons (hf p (.head _)), splitOn_join (by simp) fun p hp => hf p (.tail _ hp)]
theorem tx_list (x : Str) : tx x.cps.toList = x := by cases x; simp [tx]
theorem split_eq (x : List Nat) (c : Nat) : Txt.split (tx x) (tx [c]) = (splitOn c x).map tx := by
  have h1 := StrLaws.join_split (tx x) (tx [c])
  have h2 := StrLaws.split_free (tx x) c
  have hne : Txt.split (tx x) (tx [c]) ≠ [] := by
    unfold Txt.split
    split
    · simp
    · split
      · simp
      · rename_i h
        intro q
        have := congrArg List.length q
        rw [len_partsBetween] at this
        simp at this
  have e : Txt.split (tx x) (tx [c]) = ((Txt.split (tx x) (tx [c])).map (·.cps.toList)).map tx := by
    rw [List.map_map]
    conv => lhs; rw [← List.map_id (Txt.split (tx x) (tx [c]))]
    exact List.map_congr_left fun y _ => (tx_list y).symm
  have h3 : joinS [c] ((Txt.split (tx x) (tx [c])).map (·.cps.toList)) = x := by
    rw [e, joinS_eq] at h1
    have := congrArg (fun z : Str => z.cps.toList) h1
    simpa [tx] using this
  have h4 := splitOn_join (c := c) (ps := (Txt.split (tx x) (tx [c])).map (·.cps.toList)) (by simpa using hne) (by
    intro p hp
    obtain ⟨y, hy, rfl⟩ := List.mem_map.mp hp
    exact h2 y hy)
  rw [h3] at h4
  rw [h4]; exact e
end
end Mine

/-! part MSnd16 -/
namespace Mine
open PySem PySem.Calls PySem.W PyProof.Rows
set_option maxRecDepth 100000

section
variable {G : Gd} {n : Nat} {hd : Bool} {A : Around} {env : Env} {envs : List Env} {C : CC} {β : List Addr} {ρ : Rho} {σ : Sto} {s : Shared}

theorem idIn_get {l : List Str} {x : Str} {i : Nat} (h : idIn l x = some i) : l[i]? = some x := by
  unfold idIn at h
  obtain ⟨hi, he, _⟩ := List.findIdx?_eq_some_iff_getElem.mp h
  rw [List.getElem?_eq_getElem hi]
  simpa using he

theorem bareCall_base {o : PySem.Expr} {name : Str} {env : Env} {w : Sem Value} (h : bareCall o = false) : attributeBase o name env w = w := by
  unfold attributeBase
  split
  · cases h
  · rfl

theorem evo_few {pos : Pos} {es : List PySem.Expr} {cs : List CE} (h : SEl G n C es cs) (hl : es.length < 30) (env : Env) :
    methodCallForm (es.length + ([] : List Keyword).length) (backTo pos (starEach es env)) (backToKw pos (keywordEach [] env)) = true := by
  have h1 : ∀ {es : List PySem.Expr} {cs : List CE}, SEl G n C es cs → (backTo pos (starEach es env)).all (fun x => !x.1) = true := by
    intro es
    induction es with
    | nil => intro cs _; rfl
    | cons e es ih =>
      intro cs h
      cases cs with
      | nil => exact h.elim
      | cons c cs =>
        rw [starEach_cons h.1]
        show (true && (backTo pos (starEach es env)).all (fun x => !x.1)) = true
        rw [ih h.2.2]; rfl
  show ((backTo pos (starEach es env)).all (fun x => !x.1) && true && decide (es.length + 0 + 0 < 30)) = true
  rw [h1 h]
  simpa using hl

/-- a method of a built-in kind -/
theorem meth_sound {o : PySem.Expr} {m : Str} {ap pos : Pos} {es : List PySem.Expr} {cs : List CE} {T id : String} {ov : Value} {k : List D → Sto → Res D} (pa : PlainAttrs T) (slot : Slot T m id) (hty : typeOf (.builtin id) = pure (.type "method_descriptor"))
    (hT : s.TypeIs ov T) (hdct : ∀ a, ov = .ref a → ∃ ob, s.heap.get? a = some ob ∧ ob.dict = none) (h : SEl G n C es cs) (hl : es.length < 30) (hline : (ap.endLine == pos.line) = true) (a : At G n hd A env envs C β ρ σ s)
    (hc : ∀ ds σ₁ β₁ vs s₁, evs (callN G.P n hd) cs ρ σ = .ok ds σ₁ → Stp G (fsOf envs) no β β₁ σ₁ s s₁ → RelL G s₁.heap β₁ ds vs → Does G A envs β₁ s₁ (call (.builtin id) (ov :: vs)) (k ds σ₁)) :
    Does G A envs β s (standAt ap.atName >>= fun _ => methodCall o m ap pos env ov (es.length + ([] : List Keyword).length) (backTo pos (starEach es env)) (backToKw pos (keywordEach [] env))) ((evs (callN G.P n hd) cs ρ σ).bind k) := by
  have := args_sound (first := [ov]) (pos := pos) (Keep.builtin id) h a (by simpa using hc)
  refine this.imp fun Q E q => wpAny_bind (wpAny_standAt ?_)
  have hpos : methodCallPos true o env ap pos = pure pos := by unfold methodCallPos; simp [hline]
  unfold methodCall
  rw [evo_few h hl]
  refine wpAny_bind (wpAny_holding (getMethod_builtin hT pa slot hty hdct ?_))
  exact wpAny_bind (wpAny_of_eq hpos q)

theorem strs_rel {h : Heap} : ∀ {ds : List D} {vs : List Value} {ss : List (List Nat)}, RelL G h β ds vs → strsOf ds = some ss → ∃ l : List (Str × Tok), vs = strValues l ∧ l.map (·.1) = ss.map tx ∧ ∀ x ∈ ss, sOk x = true
  | [], _, ss, r, e => by cases r; cases e; exact ⟨[], rfl, rfl, by simp⟩
  | d :: ds, _, ss, r, e => by
    cases r with
    | cons r rs =>
      obtain ⟨y, r', h1, h2, rfl⟩ := mapM_cons_some e
      obtain ⟨l, k1, k2, k3⟩ := strs_rel rs h2
      cases r with
      | str t ok =>
        cases h1
        refine ⟨(tx _, t) :: l, by rw [k1]; rfl, by simp [k2], fun x hx => ?_⟩
        cases hx with
        | head => exact ok
        | tail _ hx => exact k3 x hx
      | _ => cases h1

theorem joinS_ok (sep : List Nat) (hs : sOk sep = true) : ∀ {ss : List (List Nat)}, (∀ x ∈ ss, sOk x = true) → (joinS sep ss).all (· < 0x110000) = true
  | [], _ => rfl
  | [x], h => by have := h x (.head _); simp only [sOk, Bool.and_eq_true] at this; exact this.1
  | x :: y :: r, h => by
    show (x ++ sep ++ joinS sep (y :: r)).all _ = true
    have h1 := h x (.head _)
    have h2 := joinS_ok sep hs (ss := y :: r) fun z hz => h z (.tail _ hz)
    simp only [sOk, Bool.and_eq_true] at h1 hs
    simp only [List.all_append, Bool.and_eq_true]
    exact ⟨⟨h1.1, hs.1⟩, h2⟩
theorem joinS_len (sep : List Nat) : ∀ (ss : List (List Nat)), (joinS sep ss).length ≤ (ss.map (·.length)).sum + ss.length * sep.length
  | [] => Nat.zero_le _
  | [x] => by simp [joinS]
  | x :: y :: r => by
    have := joinS_len sep (y :: r)
    show (x ++ sep ++ joinS sep (y :: r)).length ≤ _
    simp only [List.length_append, List.map_cons, List.sum_cons, List.length_cons] at this ⊢
    have e : (r.length + 1 + 1) * sep.length = (r.length + 1) * sep.length + sep.length := by rw [Nat.add_mul (r.length + 1) 1, Nat.one_mul]
    omega
theorem foldl_len (sep : List Nat) : ∀ (ss : List (List Nat)) (k : Nat), (ss.map tx).foldl (fun a b => a + b.length + (tx sep).length) k = k + (ss.map (·.length)).sum + ss.length * sep.length
  | [], k => by simp
  | x :: r, k => by
    simp only [List.map_cons, List.foldl_cons]
    rw [foldl_len sep r, tx_len, tx_len]
    simp only [List.sum_cons, List.length_cons]
    have e : (r.length + 1) * sep.length = r.length * sep.length + sep.length := by rw [Nat.add_mul, Nat.one_mul]
    omega

theorem splitOn_ok {c : Nat} : ∀ {x : List Nat}, x.all (· < 0x110000) = true → ∀ p ∈ splitOn c x, p.all (· < 0x110000) = true ∧ p.length ≤ x.length
  | [], _, p, hp => by simp [splitOn] at hp; subst hp; simp
  | a :: x, h, p, hp => by
    simp only [List.all_cons, Bool.and_eq_true] at h
    simp only [splitOn] at hp
    split at hp
    · cases hp with
      | head => simp
      | tail _ hp => have := splitOn_ok h.2 p hp; exact ⟨this.1, by simp; omega⟩
    · split at hp
      · rename_i e
        simp at hp; subst hp; simp at h ⊢; exact h.1
      · rename_i w ws e
        cases hp with
        | head =>
          have := splitOn_ok (c := c) h.2 w (by rw [e]; exact .head _)
          refine ⟨?_, by simp; omega⟩
          simp only [List.all_cons, Bool.and_eq_true]; exact ⟨h.1, this.1⟩
        | tail _ hp => have := splitOn_ok (c := c) h.2 p (by rw [e]; exact .tail _ hp); exact ⟨this.1, by simp; omega⟩
theorem splitOn_len (c : Nat) : ∀ x : List Nat, (splitOn c x).length ≤ x.length + 1
  | [] => by simp [splitOn]
  | a :: x => by
    have := splitOn_len c x
    simp only [splitOn]
    split
    · simp; omega
    · split
      · simp
      · rename_i e; rw [e] at this; simp at this ⊢; omega

theorem strs_relL {h : Heap} : ∀ {l : List (Str × Tok)} {ps : List (List Nat)}, l.map (·.1) = ps.map tx → (∀ p ∈ ps, sOk p = true) → RelL G h β (ps.map .str) (strValues l)
  | [], [], _, _ => .nil
  | [], _ :: _, e, _ => by cases e
  | _ :: _, [], e, _ => by cases e
  | (x, t) :: l, p :: ps, e, hp => by
    simp only [List.map_cons, List.cons.injEq] at e
    obtain ⟨rfl, e2⟩ := e
    exact .cons (.str t (hp p (.head _))) (strs_relL e2 fun q hq => hp q (.tail _ hq))

theorem glued_join (sep : Str) (ps : List Str) : Builtin.Str.glued sep ps = Str.join sep ps := by
  cases ps with
  | nil => rfl
  | cons x r => exact StrLaws.glued_cons sep r x

theorem split_sound (a : At G n hd A env envs C β ρ σ s) {x : List Nat} {t u : Tok} {c : Nat} (ok : sOk x = true) (hz : x.length ≤ most) : Does G A envs β s (call (.builtin "str.split") [.str (tx x) t, .str (tx [c]) u]) (Mine.alloc (.list ((splitOn c x).map .str)) σ) := by
  intro _
  have hzl := most_le
  have hlen : (splitOn c x).length ≤ cap := by
    have := splitOn_len c x
    have : most + 1 ≤ cap := by decide
    omega
  have hoks : ∀ p ∈ splitOn c x, sOk p = true := fun p hp => by
    simp only [sOk, Bool.and_eq_true, decide_eq_true_eq] at ok ⊢
    have := splitOn_ok ok.1 p hp
    exact ⟨this.1, Nat.le_trans this.2 hz⟩
  have fin : ∀ (l : List (Str × Tok)) (tk : Nat), l.map (·.1) = Txt.split (tx x) (tx [c]) → PostE G envs β s (Mine.alloc (.list ((splitOn c x).map .str)) σ) (.ref s.heap.objs.size) { s with heap := s.heap.push (lstO (strValues l) 0), toks := tk } := by
    intro l tk hl
    obtain ⟨st, rr⟩ := Stp.alloc (o := lstO (strValues l) 0) (ob := .list ((splitOn c x).map .str)) a tk fun f new => .list (Heap.get?_push_size _ rfl) (strs_relL (by rw [hl, split_eq]) hoks) new (by simpa using hlen)
    exact ⟨_, _, _, rfl, st, rr⟩
  have hy : ((tx [c]).length == 0) = false := rfl
  have hsz : (tx x).length ≤ sizeLine := by rw [tx_len]; omega
  have hsz2 : ∀ (h1 : ¬ (decide ((tx x).length < (tx [c]).length) || decide (Builtin.Str.strKind (tx x) < Builtin.Str.strKind (tx [c]))) = true) (h2 : ¬ (Builtin.Str.occurrences (tx x) (tx [c]) 0 (tx x).length ((tx x).length + 1)).isEmpty = true), (Builtin.Str.partsBetween (tx x) (Builtin.Str.occurrences (tx x) (tx [c]) 0 (tx x).length ((tx x).length + 1)) (tx [c]).length).length ≤ sizeLine := by
    intro h1 h2
    have e := split_eq x c
    unfold Txt.split at e
    rw [if_neg h1, if_neg h2] at e
    rw [e, List.length_map]
    have := splitOn_len c x
    have : most + 1 ≤ sizeLine := by decide
    omega
  cases h1 : (decide ((tx x).length < (tx [c]).length) || decide (Builtin.Str.strKind (tx x) < Builtin.Str.strKind (tx [c])))
  · cases hf : (Builtin.Str.occurrences (tx x) (tx [c]) 0 (tx x).length ((tx x).length + 1)).isEmpty
    · refine call_meets F.slot_str_split (typeIs_str _ _ _) F.entry_str_split (F.args_str_split_2 _ _) (meets_str_split_sep (tx x) (tx [c]) t u h1 hy hf hsz (hsz2 (by rw [h1]; simp) (by rw [hf]; simp))) ?_
      show wants _ _ _ { s with toks := _, heap := s.heap.push { cls := .type "list", data := .seq (strsFrom s.toks (Builtin.Str.partsBetween (tx x) (Builtin.Str.occurrences (tx x) (tx [c]) 0 (tx x).length ((tx x).length + 1)) (tx [c]).length)).toArray } }
      rw [strsFrom_eq]
      exact fin (numbered s.toks _) _ ((numbered_texts _ _).trans ((if_neg (ne_true_of_eq_false h1)).trans (if_neg (ne_true_of_eq_false hf))).symm)
    · exact call_meets F.slot_str_split (typeIs_str _ _ _) F.entry_str_split (F.args_str_split_2 _ _) (meets_str_split_not_found (tx x) (tx [c]) t u h1 hy hf)
        (fin [(tx x, t)] s.toks ((if_neg (ne_true_of_eq_false h1)).trans (if_pos hf)).symm)
  · exact call_meets F.slot_str_split (typeIs_str _ _ _) F.entry_str_split (F.args_str_split_2 _ _) (meets_str_split_cannot_occur (tx x) (tx [c]) t u h1)
      (fin [(tx x, t)] s.toks (if_pos h1).symm)

theorem str_meth (a : At G n hd A env envs C β ρ σ s) {m : Nat} {x : List Nat} {t : Tok} {ds : List D} {vs : List Value} {id : String} (ok : sOk x = true) (hm : (m = 2 ∧ id = "str.index") ∨ (m = 5 ∧ id = "str.join") ∨ (m = 6 ∧ id = "str.split")) (r : RelL G s.heap β ds vs) :
    Does G A envs β s (call (.builtin id) (.str (tx x) t :: vs)) (methBi (.str x) m ds σ) := by
  rcases hm with ⟨rfl, rfl⟩ | ⟨rfl, rfl⟩ | ⟨rfl, rfl⟩
  · cases r with
    | nil => exact Does.stuck
    | cons r rs =>
      cases rs with
      | cons r' rs' => 
        cases r with
        | @str y u oky => rcases y with _ | ⟨c, _ | ⟨c', y⟩⟩ <;> exact Does.stuck
        | _ => exact Does.stuck
      | nil =>
        cases r with
        | @str y u oky =>
          match y, oky with
          | [], _ => exact Does.stuck
          | [c], _ =>
            show Does G A envs β s _ (match x.findIdx? (· == c) with | some i => .ok (.int i) σ | none => .stuck)
            split
            · rename_i i hi
              exact Does.intT a fun Q hQ => SC.index (occ_index hi) (hQ _ _)
            · exact Does.stuck
          | _ :: _ :: _, _ => exact Does.stuck
        | _ => exact Does.stuck
  · cases r with
    | nil => exact Does.stuck
    | cons r rs =>
      cases rs with
      | cons r' rs' => cases r <;> exact Does.stuck
      | nil =>
        cases r with
        | @ref i b hb =>
          show Does G A envs β s _ (match σ[i]? with
            | some (.list ds) => (match strsOf ds with
              | some ss => if (ss.map (·.length)).sum + ss.length * x.length ≤ most then .ok (.str (joinS x ss)) σ else .stuck
              | none => .stuck)
            | _ => .stuck)
          split
          · rename_i es he
            split
            · rename_i ss hss
              refine Does.ite (fun hz => ?_) fun _ => Does.stuck
              obtain ⟨b', h1, h2, c⟩ := a.inv.look (.ref hb) he
              cases h1
              obtain ⟨ws, hws, rl, _⟩ := a.inv.isList c (.inl rfl)
              obtain ⟨l, k1, k2, k3⟩ := strs_rel rl hss
              subst k1
              refine Does.str a ?_ fun Q hQ => SC.join hws k2 ?_ fun t' k => ?_
              · simp only [sOk, Bool.and_eq_true, decide_eq_true_eq]
                exact ⟨joinS_ok x ok k3, Nat.le_trans (joinS_len x ss) hz⟩
              · unfold JoinOk
                rw [Bool.not_eq_true', List.foldl_toArray, foldl_len]
                unfold Builtin.Str.tooLong
                rw [decide_eq_false_iff_not, Nat.zero_add]
                have := most_le
                omega
              · have : Txt.join (tx x) (ss.map tx) = tx (joinS x ss) := by
                  unfold Txt.join
                  rw [glued_join, joinS_eq]
                rw [this]; exact hQ _ _
            · exact Does.stuck
          · exact Does.stuck
        | _ => exact Does.stuck
  · cases r with
    | nil => exact Does.stuck
    | cons r rs =>
      cases rs with
      | cons r' rs' => 
        cases r with
        | @str y u oky => rcases y with _ | ⟨c, _ | ⟨c', y⟩⟩ <;> exact Does.stuck
        | _ => exact Does.stuck
      | nil =>
        cases r with
        | @str y u oky =>
          match y, oky with
          | [], _ => exact Does.stuck
          | [c], _ =>
            show Does G A envs β s _ (if x.length ≤ most then Mine.alloc (.list ((splitOn c x).map .str)) σ else .stuck)
            refine Does.ite (fun hz => ?_) fun _ => Does.stuck
            exact split_sound a ok hz
          | _ :: _ :: _, _ => exact Does.stuck
        | _ => exact Does.stuck

theorem meth_se {o : PySem.Expr} {m : Str} {i : Nat} {ap pos : Pos} {es : List PySem.Expr} {co : CE} {cs : List CE} (hb : bareCall o = false) (hl : es.length < 30) (hline : (ap.endLine == pos.line) = true) (hi : nameId m = some i) (ho : SE G n C o co) (h : SEl G n C es cs) :
    SE G n C (.Call (.Attribute o m ap) es [] pos) (.meth co i cs) := by
  intro hd A env envs β ρ σ s a
  rw [arm_eval_Call, bareCall_base hb]
  simp only [ev]
  refine seqE (ho a) fun x σ₁ β₁ v s₁ _ h2 h3 => ?_
  have a₁ := a.step h2
  cases h3 with
  | @str x t ok =>
    refine Does.ite (fun hm => ?_) fun _ => Does.stuck
    have key : ∀ {id : String}, Slot "str" m id → typeOf (.builtin id) = pure (.type "method_descriptor") → ((i = 2 ∧ id = "str.index") ∨ (i = 5 ∧ id = "str.join") ∨ (i = 6 ∧ id = "str.split")) → _ := fun slot hty hid =>
      meth_sound (o := o) (k := fun ds σ => methBi (.str x) i ds σ) F.plainAttrs_str slot hty (typeIs_str s₁ (tx x) t) (by intro b e; cases e) h hl hline a₁ fun ds σ₂ β₂ vs s₂ _ h5 h6 => str_meth (a₁.step h5) ok hid h6
    have hx := idIn_get hi
    rcases hm with rfl | rfl | rfl
    · have e : m = "index" := by injection hx.symm
      subst e
      exact key F.slot_str_index F.type_str_index (.inl ⟨rfl, rfl⟩)
    · have e : m = "join" := by injection hx.symm
      subst e
      exact key F.slot_str_join F.type_str_join (.inr (.inl ⟨rfl, rfl⟩))
    · have e : m = "split" := by injection hx.symm
      subst e
      exact key F.slot_str_split F.type_str_split (.inr (.inr ⟨rfl, rfl⟩))
  | _ => exact Does.stuck
end
end Mine

/-! part MSnd17 -/
namespace Mine
open PySem PySem.Calls PySem.W PyProof.Rows
set_option maxRecDepth 100000

section
variable {G : Gd} {n : Nat} {hd : Bool} {A : Around} {env : Env} {envs : List Env} {C : CC} {β : List Addr} {ρ : Rho} {σ : Sto} {s : Shared}

theorem isGlob_kind {x : Str} (h : C.isGlob x = true) : C.kind x = some .globalImplicit := by
  unfold CC.isGlob at h
  rw [Bool.and_eq_true] at h
  simpa using h.1

theorem callB_se (ok : GOk G) {f : Str} {b : Bi} {p pos : Pos} {es : List PySem.Expr} {cs : List CE} (hb : biOf f = some b) (hg : C.isGlob f = true) (h : SEl G n C es cs) : SE G n C (.Call (.Name f p) es [] pos) (.callB b cs) := by
  intro hd A env envs β ρ σ s a
  simp only [ev]
  have hk := isGlob_kind hg
  unfold biOf at hb
  split at hb
  · rename_i e
    have e : f = "len" := by simpa using e
    subst e; cases hb
    exact callName_sound (f := .builtin "len") (fun q => bi_name ok a (by decide) boot_len hk (by decide) q) (Keep.builtin _) h a fun ds σ₁ β₁ vs s₁ _ h2 h3 => len_sound (a.step h2) h3
  · split at hb
    · rename_i e
      have e : f = "str" := by simpa using e
      subst e; cases hb
      exact callName_sound (f := .type "str") (fun q => bi_name ok a (by decide) boot_str hk (by decide) q) (Keep.type _) h a fun ds σ₁ β₁ vs s₁ _ h2 h3 => str_sound (a.step h2) h3
    · split at hb
      · rename_i e
        have e : f = "int" := by simpa using e
        subst e; cases hb
        exact callName_sound (f := .type "int") (fun q => bi_name ok a (by decide) boot_int hk (by decide) q) (Keep.type _) h a fun ds σ₁ β₁ vs s₁ _ h2 h3 => int_sound (a.step h2) h3
      · cases hb

theorem tyOf_name (ok : GOk G) (a : At G n hd A env envs C β ρ σ s) {x : Str} {t : Ty} {pos : Pos} {Q : Value → Shared → Prop} {E : Value → Shared → Prop} (ht : tyOf x = some t) (hx : ∀ c, t ≠ .exc c) (hg : C.isGlob x = true) (h : Q (tyVal t) s) : wpAny G.M A (eval (.Name x pos) env) Q E s := by
  have hk := isGlob_kind hg
  unfold tyOf at ht
  split at ht
  · rename_i e
    have e : x = "int" := by simpa using e
    subst e; cases ht
    exact bi_name ok a (by decide) boot_int hk (by decide) h
  split at ht
  · rename_i e
    have e : x = "bool" := by simpa using e
    subst e; cases ht
    exact bi_name ok a (by decide) boot_bool hk (by decide) h
  split at ht
  · rename_i e
    have e : x = "str" := by simpa using e
    subst e; cases ht
    exact bi_name ok a (by decide) boot_str hk (by decide) h
  split at ht
  · rename_i e
    have e : x = "tuple" := by simpa using e
    subst e; cases ht
    exact bi_name ok a (by decide) boot_tuple hk (by decide) h
  split at ht
  · rename_i e
    have e : x = "list" := by simpa using e
    subst e; cases ht
    exact bi_name ok a (by decide) boot_list hk (by decide) h
  · cases ht

theorem isi_se (ok : GOk G) {e : PySem.Expr} {x : Str} {t : Ty} {p p2 pos : Pos} {c : CE} (hst : isStar e = false) (hf : C.isGlob "isinstance" = true) (hg : C.isGlob x = true) (ht : tyOf x = some t) (hx : ∀ c, t ≠ .exc c) (h : SE G n C e c) : SE G n C (.Call (.Name "isinstance" p) [e, .Name x p2] [] pos) (.isinst c t) := by
  intro hd A env envs β ρ σ s a
  simp only [ev]
  have hk := isGlob_kind hf
  intro hr
  refine wpAny_Call_Name_kw (bi_name ok a (by decide) boot_isinstance hk (by decide) ?_)
  refine callWith_of (P := fun h => ∀ b o, G.H.get? b = some o → h.get? b = some o) (by rw [starEach_cons hst]; rfl) (Keep.builtin _) ?_
  rw [starEach_cons hst]
  refine evalArgs_plain ?_
  show wpAny G.M A (eval e env >>= fun v => pure [v] >>= fun here => PySem.holding here (spliced (backTo pos (starEach [.Name x p2] env))) >>= fun r => pure (here ++ r)) _ _ s
  refine seqQ (h a) hr fun d σ₁ β₁ v s₁ h1 h2 h3 hne => ?_
  have a₁ := a.step h2
  refine wpAny_bind (wpAny_pure (wpAny_bind (wpAny_holding ?_)))
  show wpAny G.M A (eval (.Name x p2) env >>= fun v => pure [v] >>= fun here => PySem.holding here (spliced []) >>= fun r => pure (here ++ r)) _ _ s₁
  refine wpAny_bind (tyOf_name ok a₁ ht hx hg ?_)
  refine wpAny_bind (wpAny_pure (wpAny_bind (wpAny_holding (spliced_nil (wpAny_pure (wpAny_pure ⟨a₁.inv.keep, ?_⟩))))))
  refine wpAny_mono (isi_sound a₁ hx h3 hne) (fun _ _ q => by rw [h1]; exact q.after h2) fun _ _ q => q.after h2 (by intro c o σ q; rw [h1]; exact q)

end
end Mine

/-! part MSnd18 -/
namespace Mine
open PySem PySem.Calls PySem.W PyProof.Rows
set_option maxRecDepth 100000

/-- the places that a block may write its names to -/
noncomputable def Own (C : CC) (env : Env) (b : Addr) : Prop := b = env.locals ∨ ∃ (i : Nat) (x : Str), C.vars[i]? = some (some x) ∧ env.kindOf x = some .cell ∧ env.cells.lookup x = some b
/-- every name once -/
noncomputable def VarsND (vars : List (Option Str)) : Prop := ∀ (i j : Nat) (x : Str), vars[i]? = some (some x) → vars[j]? = some (some x) → i = j

theorem Stp.transX {G : Gd} {fs : List Addr} {X Y Z : Addr → Prop} {β β' β'' : List Addr} {σ' σ'' : Sto} {s s' s'' : Shared} (a : Stp G fs X β β' σ' s s') (b : Stp G fs Y β' β'' σ'' s' s'') (hX : ∀ b, X b → Z b ∨ s.heap.objs.size ≤ b) (hY : ∀ b, Y b → Z b ∨ s.heap.objs.size ≤ b) : Stp G fs Z β β'' σ'' s s'' := by
  have nb : ∀ x o, s.heap.get? x = some o → x ∉ β → x ∉ β' := fun x o e n q => by
    rcases a.new x q with q | q
    · exact n q
    · exact Nat.lt_irrefl _ (Nat.lt_of_lt_of_le (Heap.lt_size e) q)
  have nx : ∀ x o, s.heap.get? x = some o → ¬ Z x → ¬ X x ∧ ¬ Y x := fun x o e n =>
    ⟨fun q => (hX x q).elim n fun q => Nat.lt_irrefl _ (Nat.lt_of_lt_of_le (Heap.lt_size e) q), fun q => (hY x q).elim n fun q => Nat.lt_irrefl _ (Nat.lt_of_lt_of_le (Heap.lt_size e) q)⟩
  refine ⟨a.pre.trans b.pre, fun x hx => ?_, b.inv, fun x o e n nz nf => b.ext x o (a.ext x o e n (nx x o e nz).1 nf) (nb x o e n) (nx x o e nz).2 nf, fun x m e n nz => ?_, Nat.le_trans a.size b.size, b.gens.trans a.gens, b.os.trans a.os⟩
  · rcases b.new x hx with q | q
    · exact a.new x q
    · exact .inr (Nat.le_trans a.size q)
  · obtain ⟨o, _, _, ho, _⟩ := id e
    exact b.ns x m (a.ns x m e n (nx x o ho nz).1) (nb x o ho n) (nx x o ho nz).2

section
variable {G : Gd} {n : Nat} {hd : Bool} {A : Around} {env : Env} {envs : List Env} {C : CC} {β : List Addr} {ρ : Rho} {σ : Sto} {s : Shared}

theorem At.own_data (a : At G n hd A env envs C β ρ σ s) {b : Addr} (h : Own C env b) : ∃ o, s.heap.get? b = some o ∧ ((∃ es k, o.data = .dict es k) ∨ ∃ v, o.data = .cell v) ∧ G.H.objs.size ≤ b ∧ b ∉ β := by
  rcases h with rfl | ⟨i, x, h1, h2, h3⟩
  · obtain ⟨m, ⟨o, es, k, ho, hd, _⟩, _⟩ := a.er.ns
    exact ⟨o, ho, .inl ⟨es, k, hd⟩, a.er.above, a.er.notin⟩
  · obtain ⟨c, ov, k1, k2, k3, _⟩ := a.er.cells i x h1 (.inl h2)
    rw [h3] at k1; cases k1
    obtain ⟨o, ho, hd⟩ := id k3
    exact ⟨o, ho, .inr ⟨_, hd⟩, k2, a.inv.cell_notin k3⟩
theorem At.firmOwn {β' : List Addr} {σ' : Sto} {s' : Shared} (a : At G n hd A env envs C β ρ σ s) (st : Stp G (fsOf envs) (Own C env) β β' σ' s s') : Firm G.N s.heap s'.heap :=
  st.firm a.inv fun b o e q => ⟨fun h => by
    obtain ⟨o', h1, h2, _⟩ := a.own_data h
    rw [e] at h1; cases h1
    rcases q with ⟨_, vs, m, q⟩ | ⟨fs, q⟩ <;> rcases h2 with ⟨es, k, h2⟩ | ⟨v, h2⟩ <;> (rw [h2] at q; cases q), a.ar.firm_fs e q⟩

theorem own_get {x : Str} {i : Nat} (h : C.own x = some i) : C.vars[i]? = some (some x) ∧ (C.kind x = some .local ∨ C.kind x = some .cell) := by
  unfold CC.own at h
  split at h
  · exact ⟨lastIdx_get h, .inl ‹_›⟩
  · exact ⟨lastIdx_get h, .inr ‹_›⟩
  · cases h

/-- a name stored -/
theorem store_sound (a : At G n hd A env envs C β ρ σ s) {x : Str} {i : Nat} {d : D} {v : Value} (ho : C.own x = some i) (hn : VarsND C.vars) (r : Rel G s.heap β d v) {Q : Unit → Shared → Prop} {E : Value → Shared → Prop}
    (h : ∀ s', At G n hd A env envs C β (ρ.set i (some d)) σ s' → Stp G (fsOf envs) (Own C env) β β σ s s' → Q () s') : wpAny G.M A (storeName env x v) Q E s := by
  obtain ⟨hi, hk⟩ := own_get ho
  have hil : i < ρ.length := by rw [a.er.len]; exact (List.getElem?_eq_some_iff.mp hi).1
  have key : ∀ (c : Addr) (s' : Shared), Own C env c → Heap.SameBut c s.heap s'.heap → s'.gens = s.gens → s'.os = s.os →
      (∃ m, s'.heap.Ns env.locals m ∧ ∀ (j : Nat) (y : Str) (e : D), C.vars[j]? = some (some y) → env.kindOf y = some .local → (ρ.set i (some d))[j]? = some (some e) → ∃ w, m y = some w ∧ Rel G s.heap β e w) →
      (∀ (j : Nat) (y : Str), C.vars[j]? = some (some y) → (env.kindOf y = some .cell ∨ env.kindOf y = some .free) → ∃ c ov, env.cells.lookup y = some c ∧ G.H.objs.size ≤ c ∧ s'.heap.IsCell c ov ∧ ∀ e, (ρ.set i (some d))[j]? = some (some e) → ∃ w, ov = some w ∧ Rel G s.heap β e w) →
      (∀ e ∈ envs, ∃ L m, e.frame = some L ∧ G.H.objs.size ≤ L ∧ L ∉ β ∧ s'.heap.Ns L m) → Q () s' := by
    intro c s' hc hs hg hos hns hcl hfr
    obtain ⟨oc, hoc, hdat, habove, hnotin⟩ := a.own_data hc
    have st : Stp G (fsOf envs) (Own C env) β β σ s s' := by
      refine ⟨List.prefix_refl _, fun _ h => .inl h, a.inv.keeps (fun b o e => hs.extBut b o (fun q => ?_) (a.inv.keep b o e)) (fun b o _ e q => hs.extBut b o (fun hb => ?_) e) (fun b hb o e => hs.extBut b o (fun q => hnotin (q ▸ hb)) e),
        fun b o e _ nx _ => hs.extBut b o (fun q => nx (q ▸ hc)) e, fun b m e _ nx => e.sameBut hs fun q => nx (q ▸ hc), Nat.le_of_eq hs.1.symm, hg, hos⟩
      · subst q; exact Nat.lt_irrefl _ (Nat.lt_of_lt_of_le (Heap.lt_size e) habove)
      · subst hb
        rw [hoc] at e; cases e
        rcases q with ⟨_, vs, m, q⟩ | ⟨fs, q⟩ <;> rcases hdat with ⟨es, k, h2⟩ | ⟨v, h2⟩ <;> (rw [h2] at q; cases q)
    have f := a.firmOwn st
    refine h s' ⟨st.inv, ⟨a.er.kind, a.er.glob, a.er.blt, a.er.above, a.er.notin, ?_, ?_, a.er.apart, by rw [List.length_set]; exact a.er.len⟩, ⟨a.ar.fr, a.ar.hf, ?_, a.ar.depth, a.ar.units, a.ar.handled⟩, a.sc, a.gg, fun b hb => Nat.lt_of_lt_of_le (a.nlt b hb) st.size⟩ st
    · obtain ⟨m, h1, h2⟩ := hns
      refine ⟨m, h1, fun j y e k1 k2 k3 => ?_⟩
      obtain ⟨w, w1, w2⟩ := h2 j y e k1 k2 k3
      exact ⟨w, w1, w2.mono f (List.prefix_refl _)⟩
    · intro j y k1 k2
      obtain ⟨c, ov, h1, h2, h3, h4⟩ := hcl j y k1 k2
      refine ⟨c, ov, h1, h2, h3, fun e he => ?_⟩
      obtain ⟨w, w1, w2⟩ := h4 e he
      exact ⟨w, w1, w2.mono f (List.prefix_refl _)⟩
    · intro e he
      exact ⟨(a.ar.frs e he).1, hfr e he⟩
  obtain ⟨m, hm, hr⟩ := a.er.ns
  rcases hk with hk | hk
  · refine wpAny_storeName_local (a.kindOf hk) hm (fun h' hn' hs => ?_) (by rw [a.er.kind]; rfl)
    refine key env.locals _ (.inl rfl) hs rfl rfl ⟨_, hn', fun j y e k1 k2 k3 => ?_⟩ (fun j y k1 k2 => ?_) fun e he => ?_
    · by_cases hj : j = i
      · subst hj
        rw [hi] at k1; cases k1
        rw [List.getElem?_set_self hil] at k3; cases k3
        exact ⟨v, by simp, r⟩
      · rw [List.getElem?_set_ne (Ne.symm hj)] at k3
        have hy : y ≠ x := fun q => hj (hn j i x (q ▸ k1) hi)
        simp only [if_neg hy]
        exact hr j y e k1 k2 k3
    · obtain ⟨c, ov, h1, h2, h3, h4⟩ := a.er.cells j y k1 k2
      have hcl : c ≠ env.locals := fun q => by
        obtain ⟨o, ho, hd⟩ := id h3
        obtain ⟨o', es, k, ho', hd', _⟩ := id hm
        rw [q, ho'] at ho; cases ho
        rw [hd'] at hd; cases hd
      obtain ⟨o, ho, hd⟩ := id h3
      refine ⟨c, ov, h1, h2, ⟨o, hs.extBut c o hcl ho, hd⟩, fun e he => ?_⟩
      have hj : j ≠ i := fun q => by
        subst q
        rw [hi] at k1; cases k1
        have := a.kindOf hk
        rcases k2 with k2 | k2 <;> (rw [this] at k2; cases k2)
      rw [List.getElem?_set_ne (Ne.symm hj)] at he
      exact h4 e he
    · obtain ⟨_, L, m', h1, h2, h3, h4⟩ := a.ar.frs e he
      by_cases hL : L = env.locals
      · exact ⟨L, _, h1, h2, h3, hL ▸ hn'⟩
      · exact ⟨L, m', h1, h2, h3, h4.sameBut hs hL⟩
  · obtain ⟨c, ov, h1, h2, h3, h4⟩ := a.er.cells i x hi (.inl (a.kindOf hk))
    refine wpAny_storeName_cell a.er.kind (a.kindOf hk) h1 h3 fun h' hc' hs => ?_
    have hcl : c ≠ env.locals := fun q => by
      obtain ⟨o, ho, hd⟩ := id h3
      obtain ⟨o', es, k, ho', hd', _⟩ := id hm
      rw [q, ho'] at ho; cases ho
      rw [hd'] at hd; cases hd
    refine key c _ (.inr ⟨i, x, hi, a.kindOf hk, h1⟩) hs rfl rfl ⟨m, hm.sameBut hs (Ne.symm hcl), fun j y e k1 k2 k3 => ?_⟩ (fun j y k1 k2 => ?_) fun e he => ?_
    · have hj : j ≠ i := fun q => by
        subst q
        rw [hi] at k1; cases k1
        rw [a.kindOf hk] at k2; cases k2
      rw [List.getElem?_set_ne (Ne.symm hj)] at k3
      exact hr j y e k1 k2 k3
    · obtain ⟨c', ov', g1, g2, g3, g4⟩ := a.er.cells j y k1 k2
      by_cases hj : j = i
      · subst hj
        rw [hi] at k1; cases k1
        rw [h1] at g1; cases g1
        refine ⟨c, some v, h1, h2, hc', fun e he => ?_⟩
        rw [List.getElem?_set_self hil] at he; cases he
        exact ⟨v, rfl, r⟩
      · have hcc : c' ≠ c := fun q => by
          subst q
          have := a.er.apart y x c' g1 h1
          exact hj (hn j i x (this ▸ k1) hi)
        obtain ⟨o, ho, hd⟩ := id g3
        refine ⟨c', ov', g1, g2, ⟨o, hs.extBut c' o hcc ho, hd⟩, fun e he => ?_⟩
        rw [List.getElem?_set_ne (Ne.symm hj)] at he
        exact g4 e he
    · obtain ⟨_, L, m', k1, k2, k3, k4⟩ := a.ar.frs e he
      have hL : L ≠ c := fun q => by
        obtain ⟨o, ho, hd⟩ := id h3
        obtain ⟨o', es, k, ho', hd', _⟩ := id k4
        rw [q, ho] at ho'; cases ho'
        rw [hd'] at hd; cases hd
      exact ⟨L, m', k1, k2, k3, k4.sameBut hs hL⟩

end
end Mine

/-! part MSnd19 -/
namespace Mine
open PySem PySem.Calls PySem.W PyProof.Rows
set_option maxRecDepth 100000

noncomputable def PostS (G : Gd) (n : Nat) (hd : Bool) (A : Around) (env : Env) (envs : List Env) (C : CC) (β : List Addr) (s : Shared) (r : Res Fl) (fl : Flow) (s' : Shared) : Prop :=
  ∃ σ' β', Stp G (fsOf envs) (Own C env) β β' σ' s s' ∧ ((∃ ρ', r = .ok (.next ρ') σ' ∧ fl = .next ∧ At G n hd A env envs C β' ρ' σ' s') ∨ ∃ d v, r = .ok (.ret d) σ' ∧ fl = .ret v ∧ Rel G s'.heap β' d v)
noncomputable def PostSX (r : Res Fl) (_ : Value) (_ : Shared) : Prop := ∃ c o σ', r = .exc c o σ'
noncomputable def DoesS (G : Gd) (n : Nat) (hd : Bool) (A : Around) (env : Env) (envs : List Env) (C : CC) (β : List Addr) (s : Shared) (m : Sem Flow) (r : Res Fl) : Prop :=
  r ≠ .stuck → wpAny G.M A m (PostS G n hd A env envs C β s r) (PostSX r) s

section
variable {G : Gd} {n : Nat} {hd : Bool} {A : Around} {env : Env} {envs : List Env} {C : CC} {β : List Addr} {ρ : Rho} {σ : Sto} {s : Shared}

theorem PostS.after {X : Addr → Prop} {β₁ : List Addr} {σ₁ : Sto} {s₁ s' : Shared} {r : Res Fl} {fl : Flow} (a : Stp G (fsOf envs) X β β₁ σ₁ s s₁) (hX : ∀ b, X b → Own C env b ∨ s.heap.objs.size ≤ b) (p : PostS G n hd A env envs C β₁ s₁ r fl s') : PostS G n hd A env envs C β s r fl s' := by
  obtain ⟨σ', β', h1, h2⟩ := p
  exact ⟨σ', β', a.transX h1 hX fun b h => .inl h, h2⟩
theorem DoesS.imp {m m' : Sem Flow} {r : Res Fl} (h : DoesS G n hd A env envs C β s m r) (e : ∀ Q E, wpAny G.M A m Q E s → wpAny G.M A m' Q E s) : DoesS G n hd A env envs C β s m' r := fun hr => e _ _ (h hr)
theorem DoesS.of_eq {m : Sem Flow} {r r' : Res Fl} (h : DoesS G n hd A env envs C β s m r) (e : r' = r) : DoesS G n hd A env envs C β s m r' := e ▸ h
theorem DoesS.stuck {m : Sem Flow} : DoesS G n hd A env envs C β s m .stuck := fun h => absurd rfl h
theorem seqS {m : Sem Value} {f : Value → Sem Flow} {r : Res D} {k : D → Sto → Res Fl} (h : Does G A envs β s m r)
    (hk : ∀ d σ₁ β₁ v s₁, r = .ok d σ₁ → Stp G (fsOf envs) no β β₁ σ₁ s s₁ → Rel G s₁.heap β₁ d v → DoesS G n hd A env envs C β₁ s₁ (f v) (k d σ₁)) : DoesS G n hd A env envs C β s (m >>= f) (r.bind k) := fun hr => by
  refine wpAny_bind (wpAny_mono (h (bind_ne hr)) (fun v s₁ p => ?_) fun x s₁ p => ?_)
  · obtain ⟨d, σ₁, β₁, h1, h2, h3⟩ := p
    refine wpAny_mono (hk d σ₁ β₁ v s₁ h1 h2 h3 (by intro q; exact hr (by rw [h1]; exact q))) (fun _ _ q => by rw [h1]; exact q.after h2 (fun b x => x.elim)) fun _ _ q => ?_
    obtain ⟨c, o, σ', q⟩ := q
    exact ⟨c, o, σ', by rw [h1]; exact q⟩
  · obtain ⟨c, σ', e, h1, h2, h3⟩ := p
    exact ⟨c, false, σ', by rw [h1]; rfl⟩
theorem seqSB {m : Sem Bool} {f : Bool → Sem Flow} {r : Res Bool} {k : Bool → Sto → Res Fl} (h : DoesB G A envs β s m r)
    (hk : ∀ b σ₁ β₁ s₁, r = .ok b σ₁ → Stp G (fsOf envs) no β β₁ σ₁ s s₁ → DoesS G n hd A env envs C β₁ s₁ (f b) (k b σ₁)) : DoesS G n hd A env envs C β s (m >>= f) (r.bind k) := fun hr => by
  refine wpAny_bind (wpAny_mono (h (bind_ne hr)) (fun v s₁ p => ?_) fun x s₁ p => ?_)
  · obtain ⟨σ₁, β₁, h1, h2⟩ := p
    refine wpAny_mono (hk v σ₁ β₁ s₁ h1 h2 (by intro q; exact hr (by rw [h1]; exact q))) (fun _ _ q => by rw [h1]; exact q.after h2 (fun b x => x.elim)) fun _ _ q => ?_
    obtain ⟨c, o, σ', q⟩ := q
    exact ⟨c, o, σ', by rw [h1]; exact q⟩
  · obtain ⟨c, σ', e, h1, h2, h3⟩ := p
    exact ⟨c, false, σ', by rw [h1]; rfl⟩

noncomputable def SS (G : Gd) (n : Nat) (C : CC) (st : Stmt) (c : CS) : Prop := ∀ {hd : Bool} {A : Around} {env : Env} {envs : List Env} {β : List Addr} {ρ : Rho} {σ : Sto} {s : Shared},
  At G n hd A env envs C β ρ σ s → DoesS G n hd A env envs C β s (exec st env) (ex (callN G.P n) hd c ρ σ)
noncomputable def SSs (G : Gd) (n : Nat) (C : CC) (ss : List Stmt) (cs : List CS) : Prop := ∀ {hd : Bool} {A : Around} {env : Env} {envs : List Env} {β : List Addr} {ρ : Rho} {σ : Sto} {s : Shared},
  At G n hd A env envs C β ρ σ s → DoesS G n hd A env envs C β s (execs ss env) (exs (callN G.P n) hd cs ρ σ)

theorem nil_ss : SSs G n C [] [] := by
  intro hd A env envs β ρ σ s a _
  simp only [exs]
  exact wpAny_execs_nil ⟨σ, β, Stp.refl a.inv, .inl ⟨ρ, rfl, rfl, a⟩⟩
theorem cons_ss {st : Stmt} {ss : List Stmt} {c : CS} {cs : List CS} (h : SS G n C st c) (hs : SSs G n C ss cs) : SSs G n C (st :: ss) (c :: cs) := by
  intro hd A env envs β ρ σ s a hr
  simp only [exs] at hr ⊢
  refine wpAny_execs_cons (wpAny_mono (h a (bind_ne hr)) (fun fl s₁ p => ?_) fun x s₁ p => ?_)
  · obtain ⟨σ₁, β₁, st1, p⟩ := p
    rcases p with ⟨ρ', h1, rfl, a₁⟩ | ⟨d, v, h1, rfl, rv⟩
    · rw [h1] at hr ⊢
      exact wpAny_mono (hs a₁ hr) (fun _ _ q => q.after st1 (fun b x => .inl x)) fun _ _ q => q
    · rw [h1]
      exact ⟨σ₁, β₁, st1, .inr ⟨d, v, rfl, rfl, rv⟩⟩
  · obtain ⟨c, o, σ', q⟩ := p
    exact ⟨c, o, σ', by rw [q]; rfl⟩

theorem pass_ss {pos : Pos} : SS G n C (.Pass pos) .pass := by
  intro hd A env envs β ρ σ s a _
  simp only [ex]
  rw [exec_Pass]
  exact wpAny_bind (wpAny_standAt (wpAny_pure ⟨σ, β, Stp.refl a.inv, .inl ⟨ρ, rfl, rfl, a⟩⟩))
theorem ret0_ss {pos : Pos} : SS G n C (.Return none pos) (.ret none) := by
  intro hd A env envs β ρ σ s a _
  simp only [ex]
  rw [exec_Return_none]
  exact wpAny_bind (wpAny_standAt (wpAny_pure ⟨σ, β, Stp.refl a.inv, .inr ⟨.none, .none, rfl, rfl, .none⟩⟩))
theorem ret_ss {e : PySem.Expr} {pos : Pos} {c : CE} (h : SE G n C e c) : SS G n C (.Return (some e) pos) (.ret (some c)) := by
  intro hd A env envs β ρ σ s a
  simp only [ex]
  rw [exec_Return_some]
  refine DoesS.imp (m := eval e env >>= fun v => pure (.ret v)) ?_ fun Q E x => wpAny_bind (wpAny_standAt x)
  refine seqS (h a) fun d σ₁ β₁ v s₁ h1 h2 h3 => fun _ => wpAny_pure ⟨σ₁, β₁, Stp.refl h2.inv, .inr ⟨d, v, rfl, rfl, h3⟩⟩
theorem if_ss {t : PySem.Expr} {b o : List Stmt} {pos : Pos} {ct : CE} {cb co : List CS} (ht : ST G n C t ct) (hb : SSs G n C b cb) (ho : SSs G n C o co) : SS G n C (.If t b o pos) (.iff ct cb co) := by
  intro hd A env envs β ρ σ s a
  simp only [ex]
  rw [exec_If]
  refine DoesS.imp (m := isTrue t env (eval t env) >>= fun x => if x = true then execs b env else execs o env) ?_ fun Q E x => wpAny_bind (wpAny_standAt x)
  have e : (ev (callN G.P n hd) ct ρ σ).bind (fun t σ => match t with | .bool true => exs (callN G.P n) hd cb ρ σ | .bool false => exs (callN G.P n) hd co ρ σ | _ => .stuck) =
      (asB (ev (callN G.P n hd) ct ρ σ)).bind fun x σ => if x then exs (callN G.P n) hd cb ρ σ else exs (callN G.P n) hd co ρ σ := by
    cases ev (callN G.P n hd) ct ρ σ with
    | ok d σ => cases d with
      | bool x => cases x <;> rfl
      | _ => rfl
    | exc => rfl
    | stuck => rfl
  refine DoesS.of_eq ?_ e
  refine seqSB (ht a) fun x σ₁ β₁ s₁ _ h2 => ?_
  cases x with
  | true => exact hb (a.step h2)
  | false => exact ho (a.step h2)

theorem noswap {v : PySem.Expr} {t : Option PySem.Expr} {line : Nat} {env : Env} (h : isComp v = false) : swapsWith v t line env = pure false := by
  cases v <;> first | rfl | cases h
theorem asg_ss {x : Str} {i : Nat} {v : PySem.Expr} {p pos : Pos} {c : CE} (hn : VarsND C.vars) (hx : C.own x = some i) (hc : isComp v = false) (h : SE G n C v c) : SS G n C (.Assign [.Name x p] v pos) (.asg i c) := by
  intro hd A env envs β ρ σ s a
  simp only [ex]
  rw [exec_Assign_Name _ _ _ _ _ (noswap hc)]
  refine DoesS.imp (m := eval v env >>= fun v => standAt p >>= fun _ => bindName env x v >>= fun _ => pure .next) ?_ fun Q E x => wpAny_bind (wpAny_standAt x)
  refine seqS (h a) fun d σ₁ β₁ v s₁ h1 h2 h3 => fun hr => ?_
  have a₁ := a.step h2
  have hil : i < ρ.length := by rw [a.er.len]; exact (List.getElem?_eq_some_iff.mp (own_get hx).1).1
  rw [if_pos hil]
  refine wpAny_bind (wpAny_standAt (wpAny_bind (wpAny_bindName (store_sound a₁ hx hn h3 fun s' a' st => ?_))))
  exact wpAny_pure ⟨σ₁, β₁, st, .inl ⟨_, rfl, rfl, a'⟩⟩
end
end Mine

/-! part MSnd20 -/
namespace Mine
open PySem PySem.Calls PySem.W PyProof.Rows
set_option maxRecDepth 100000

theorem lookup_zip_self : ∀ {l : List (Str × Value)}, (l.map (·.1)).Nodup → ∀ p ∈ l, l.lookup p.1 = some p.2
  | [], _, p, hp => by cases hp
  | q :: l, hn, p, hp => by
    simp only [List.map_cons, List.nodup_cons] at hn
    rw [List.lookup_cons]
    cases hp with
    | head => simp
    | tail _ hp =>
      have : (p.1 == q.1) = false := by
        rw [beq_eq_false_iff_ne]
        intro e
        exact hn.1 (e ▸ List.mem_map_of_mem hp)
      rw [this]
      exact lookup_zip_self hn.2 p hp

theorem filterMap_lookup {l : List (Str × Value)} (hn : (l.map (·.1)).Nodup) : ∀ {k : List (Str × Value)}, (∀ p ∈ k, p ∈ l) → (k.map (·.1)).filterMap (fun x => (l.lookup x).map (x, ·)) = k
  | [], _ => rfl
  | p :: k, h => by
    simp only [List.map_cons]
    rw [List.filterMap_cons, lookup_zip_self hn p (h p (.head _)), Option.map_some]
    dsimp only
    rw [filterMap_lookup hn fun q hq => h q (.tail _ hq)]

theorem bind_plain {fd : FuncData} {as : List Arg} {vs : List Value} (hp : fd.params = ⟨[], as, none, [], [], none, []⟩) (hd : fd.defaults = .none) (hl : as.length = vs.length) (hn : (as.map (·.arg)).Nodup) :
    bindArgs fd ⟨vs, []⟩ = pure ((as.map (·.arg)).zip vs) := by
  have hz : ((as.map (·.arg)).zip vs).map (·.1) = as.map (·.arg) := by
    rw [List.map_fst_zip]; simp [hl]
  have key := filterMap_lookup (l := (as.map (·.arg)).zip vs) (by rw [hz]; exact hn) (k := (as.map (·.arg)).zip vs) fun _ h => h
  rw [hz] at key
  have hm : (as.map (·.arg)).filter (fun x => (((as.map (·.arg)).zip vs).lookup x).isNone) = [] := by
    rw [List.filter_eq_nil_iff]
    intro x hx
    rw [← hz] at hx
    obtain ⟨p, hp, rfl⟩ := List.mem_map.mp hx
    rw [lookup_zip_self (by rw [hz]; exact hn) p hp]; simp
  unfold bindArgs
  simp only [hp, hd]
  have e0 : (seqItems? Value.none : Sem (Option (Array Value))) = pure none := rfl
  have e1 : ∀ (g : Option (Array Value) → Sem (List (Str × Value))), (seqItems? Value.none >>= g) = g none := fun g => by rw [e0]; rfl
  simp only [List.map_nil, List.nil_append, List.append_nil, List.forIn_nil, pure_bind, Option.isSome_none, Option.isNone_none, e1]
  have c1 : (decide (vs.length > (as.map (·.arg)).length) && true) = false := by simp [hl]
  simp only [c1, Bool.false_eq_true, if_false, Option.getD_none, List.drop_nil, List.length_nil, Nat.sub_zero, List.take_length, hm, List.isEmpty_nil, Bool.not_true, List.drop_length, List.zip_nil_left, List.zip_nil_right, List.forIn_nil, pure_bind, key]

section
variable {k : Str → Option NameKind}
theorem bindL_out {x : Str} : ∀ {binds : List (Str × Value)} {m : Str → Option Value}, x ∉ binds.map (·.1) → bindL k binds m x = m x
  | [], _, _ => rfl
  | (y, v) :: r, m, h => by
    simp only [List.map_cons, List.mem_cons, not_or] at h
    rw [bindL, bindL_out h.2]
    split
    · exact if_neg h.1
    · rfl
theorem bindC_out {x : Str} : ∀ {binds : List (Str × Value)} {m : Str → Option Value}, x ∉ binds.map (·.1) → bindC k binds m x = m x
  | [], _, _ => rfl
  | (y, v) :: r, m, h => by
    simp only [List.map_cons, List.mem_cons, not_or] at h
    rw [bindC, bindC_out h.2]
    split
    · rfl
    · exact if_neg h.1
theorem bindL_get : ∀ {binds : List (Str × Value)} {m : Str → Option Value}, (binds.map (·.1)).Nodup → ∀ p ∈ binds, k p.1 = some .local → bindL k binds m p.1 = some p.2
  | [], _, _, p, hp, _ => by cases hp
  | (y, v) :: r, m, hn, p, hp, hk => by
    simp only [List.map_cons, List.nodup_cons] at hn
    rw [bindL]
    cases hp with
    | head => rw [bindL_out hn.1, if_pos hk]; simp
    | tail _ hp => exact bindL_get hn.2 p hp hk
theorem bindC_get : ∀ {binds : List (Str × Value)} {m : Str → Option Value}, (binds.map (·.1)).Nodup → ∀ p ∈ binds, k p.1 = some .cell → bindC k binds m p.1 = some p.2
  | [], _, _, p, hp, _ => by cases hp
  | (y, v) :: r, m, hn, p, hp, hk => by
    simp only [List.map_cons, List.nodup_cons] at hn
    rw [bindC]
    cases hp with
    | head => rw [bindC_out hn.1, if_neg (by rw [hk]; simp)]; simp
    | tail _ hp => exact bindC_get hn.2 p hp hk
end

theorem lookup_isSome_cons {x y : Str} {c : Addr} {l : List (Str × Addr)} (h : (l.lookup x).isSome = true) : (((y, c) :: l).lookup x).isSome = true := by
  rw [List.lookup_cons]
  split
  · rfl
  · exact h
theorem cells_acc {x : Str} : ∀ {names : List (Str × NameKind)} {n : Nat} {acc : List (Str × Addr)}, (acc.lookup x).isSome = true → ((cellsFrom n names acc).lookup x).isSome = true
  | [], _, _, h => h
  | (y, kd) :: r, n, acc, h => by
    rw [cellsFrom]
    split
    · exact cells_acc (lookup_isSome_cons h)
    · exact cells_acc h
theorem cells_has {x : Str} : ∀ {names : List (Str × NameKind)} {n : Nat} {acc : List (Str × Addr)}, names.lookup x = some .cell → ((cellsFrom n names acc).lookup x).isSome = true
  | [], _, _, h => by cases h
  | (y, kd) :: r, n, acc, h => by
    rw [List.lookup_cons] at h
    rw [cellsFrom]
    split at h
    · rename_i e
      cases h
      rw [if_pos (by decide)]
      refine cells_acc ?_
      rw [List.lookup_cons, e]; rfl
    · split
      · exact cells_has h
      · exact cells_has h
theorem mem_of_lookup' {x : Str} {α : Type} {c : α} : ∀ {l : List (Str × α)}, l.lookup x = some c → (x, c) ∈ l
  | [], h => by cases h
  | (y, d) :: l, h => by
    rw [List.lookup_cons] at h
    split at h
    · rename_i e
      cases h
      rw [eq_of_beq e]; exact .head _
    · exact .tail _ (mem_of_lookup' h)
theorem apart_inj {x y : Str} {c : Addr} : ∀ {l : List (Str × Addr)}, (l.Pairwise fun p q => p.2 ≠ q.2) → (x, c) ∈ l → (y, c) ∈ l → x = y
  | [], _, h, _ => by cases h
  | p :: l, hp, h1, h2 => by
    rw [List.pairwise_cons] at hp
    cases h1 with
    | head =>
      cases h2 with
      | head => rfl
      | tail _ h2 => exact absurd rfl (hp.1 (y, c) h2)
    | tail _ h1 =>
      cases h2 with
      | head => exact absurd rfl (hp.1 (x, c) h1)
      | tail _ h2 => exact apart_inj hp.2 h1 h2

theorem plainArgs_eq {a : Arguments} {ps : List Str} (h : plainArgs a = some ps) : ∃ as, a = ⟨[], as, none, [], [], none, []⟩ ∧ ps = as.map (·.arg) := by
  unfold plainArgs at h
  split at h
  · injection h with h
    exact ⟨_, rfl, h.symm⟩
  · cases h

/-- the new frame's names -/
theorem new_env {G : Gd} {β : List Addr} {h : Heap} {env' : Env} {ps : List Str} {sc : Scope} {ds : List D} {vs : List Value} (hk : sc.kind = .function) (hsc : env'.scope = sc) (hg : env'.globals = mainGlobals) (hbl : env'.builtins = builtinsNs)
    (habove : G.H.objs.size ≤ env'.locals) (hnotin : env'.locals ∉ β) (hnd : ((varsOf ps sc)).Nodup) (hfree : ∀ p ∈ sc.names, p.2 ≠ .free) (hlen : ds.length = ps.length) (r : RelL G h β ds vs)
    (hns : h.Ns env'.locals (bindL env'.kindOf (ps.zip vs) fun _ => none)) {n : Nat} (hcs : env'.cells = cellsFrom n sc.names [])
    (hcell : ∀ x c, env'.cells.lookup x = some c → h.IsCell c (bindC env'.kindOf (ps.zip vs) (fun _ => none) x)) (hap : env'.cells.Pairwise fun x y => x.2 ≠ y.2) (hca : ∀ x c, (x, c) ∈ env'.cells → env'.locals < c) :
    EnvR G env' ((varsOf ps sc).map some) β (ds.map some ++ List.replicate ((varsOf ps sc).length - ps.length) none) h := by
  have hvl : ps.length ≤ (varsOf ps sc).length := by unfold varsOf; simp
  have hpn : ps.Nodup := by
    unfold varsOf at hnd
    exact (List.nodup_append.mp hnd).1
  have hz : (ps.zip vs).map (·.1) = ps := by
    rw [List.map_fst_zip]; rw [← r.length, hlen]; exact Nat.le_refl _
  have at_ : ∀ (i : Nat) (x : Str) (d : D), ((varsOf ps sc).map some)[i]? = some (some x) → (ds.map some ++ List.replicate ((varsOf ps sc).length - ps.length) none)[i]? = some (some d) → ∃ v, (x, v) ∈ ps.zip vs ∧ Rel G h β d v := by
    intro i x d h1 h2
    rcases Nat.lt_or_ge i ds.length with hi | hi
    · rw [List.getElem?_append_left (by simpa using hi), List.getElem?_map] at h2
      obtain ⟨d', hd', e⟩ := Option.map_eq_some_iff.mp h2
      cases e
      obtain ⟨v, hv, rv⟩ := r.get hd'
      refine ⟨v, ?_, rv⟩
      rw [List.getElem?_map] at h1
      obtain ⟨x', hx', e⟩ := Option.map_eq_some_iff.mp h1
      cases e
      have hx2 : ps[i]? = some x := by
        unfold varsOf at hx'
        rw [List.getElem?_append_left (by omega)] at hx'
        exact hx'
      exact List.mem_of_getElem? (i := i) (by rw [List.getElem?_zip_eq_some]; exact ⟨hx2, hv⟩)
    · rw [List.getElem?_append_right (by simpa using hi), List.getElem?_replicate] at h2
      split at h2 <;> cases h2
  refine ⟨by rw [hsc]; exact hk, hg, hbl, habove, hnotin, ⟨_, hns, fun i x d h1 h2 h3 => ?_⟩, fun i x h1 h2 => ?_, fun x y c h1 h2 => apart_inj hap (mem_of_lookup' h1) (mem_of_lookup' h2), ?_⟩
  · obtain ⟨v, hv, rv⟩ := at_ i x d h1 h3
    exact ⟨v, bindL_get (by rw [hz]; exact hpn) (x, v) hv h2, rv⟩
  · have hkc : env'.kindOf x = some .cell := by
      rcases h2 with h2 | h2
      · exact h2
      · have : sc.names.lookup x = some .free := by rw [← hsc]; exact h2
        exact absurd rfl (hfree _ (mem_of_lookup' this))
    have hs := cells_has (n := n) (acc := []) (show sc.names.lookup x = some .cell by rw [← hsc]; exact hkc)
    rw [← hcs] at hs
    obtain ⟨c, hc⟩ := Option.isSome_iff_exists.mp hs
    refine ⟨c, _, hc, Nat.le_trans habove (Nat.le_of_lt (hca x c (mem_of_lookup' hc))), hcell x c hc, fun d hd => ?_⟩
    obtain ⟨v, hv, rv⟩ := at_ i x d h1 hd
    exact ⟨v, bindC_get (by rw [hz]; exact hpn) (x, v) hv hkc, rv⟩
  · simp only [List.length_append, List.length_map, List.length_replicate]
    omega

end Mine

/-! part MSnd21 -/
namespace Mine
open PySem PySem.Calls PySem.W PyProof.Rows
set_option maxRecDepth 100000

section
variable {G : Gd} {n : Nat} {hd : Bool} {A : Around} {env : Env} {envs : List Env} {C : CC} {β : List Addr} {ρ : Rho} {σ : Sto} {s : Shared}

theorem cFn_parts {g : CG} {a : Arguments} {body : List Stmt} {sc : Scope} {fn : CFn} (h : cFn g a body sc = some fn) : ∃ ps cs, plainArgs a = some ps ∧ fn = ⟨ps.length, (varsOf ps sc).length, cs⟩ ∧ cSs fuelC ⟨g, (varsOf ps sc).map some, sc⟩ body = some cs ∧
    sc.kind = .function ∧ sc.isGenerator = false ∧ sc.isCoroutine = false ∧ (∀ x ∈ ps, sc.names.lookup x = some .local ∨ sc.names.lookup x = some .cell) ∧ (varsOf ps sc).Nodup ∧ ∀ p ∈ sc.names, p.2 ≠ .free := by
  unfold cFn at h
  cases hp : plainArgs a with
  | none => rw [hp] at h; cases h
  | some ps =>
    rw [hp] at h
    simp only [Option.bind_eq_bind, Option.bind_some] at h
    split at h
    · rename_i hc
      cases hcs : cSs fuelC ⟨g, (varsOf ps sc).map some, sc⟩ body with
      | none => rw [hcs] at h; cases h
      | some cs =>
        rw [hcs] at h
        simp only [Option.bind_some, Option.some.injEq] at h
        simp only [Bool.and_eq_true, beq_iff_eq, Bool.not_eq_true', List.all_eq_true, Bool.or_eq_true, bne_iff_ne, ne_eq] at hc
        obtain ⟨⟨⟨⟨⟨h1, h2⟩, h3⟩, h4⟩, h5⟩, h6⟩ := hc
        exact ⟨ps, cs, rfl, h.symm, hcs, h1, h2, h3, h4, nodupB_nodup h5, h6⟩
    · cases h

theorem map_some_nd {l : List Str} (h : l.Nodup) : VarsND (l.map some) := by
  intro i j x hi hj
  rw [List.getElem?_map] at hi hj
  obtain ⟨a, ha, ea⟩ := Option.map_eq_some_iff.mp hi
  obtain ⟨b, hb, eb⟩ := Option.map_eq_some_iff.mp hj
  cases ea; cases eb
  obtain ⟨l1, e1⟩ := List.getElem?_eq_some_iff.mp ha
  obtain ⟨l2, e2⟩ := List.getElem?_eq_some_iff.mp hb
  exact (List.getElem_inj h).mp (e1.trans e2.symm)

/-- where a call may be made -/
structure Base (G : Gd) (n : Nat) (A : Around) (envs : List Env) (β : List Addr) (σ : Sto) (s : Shared) : Prop where
  inv : Inv G β σ s.heap
  fr : A.frames = some envs
  frs : ∀ e ∈ envs, e.scope.kind ≠ .module ∧ ∃ L m, e.frame = some L ∧ G.H.objs.size ≤ L ∧ L ∉ β ∧ s.heap.Ns L m
  depth : A.depth + 4 * (n + 1) < recursionLimit
  units : A.units + 100 * (n + 1) < cLine
  handled : A.handled = none
  hs : G.H.objs.size ≤ s.heap.objs.size
  nlt : ∀ b, G.N b → b < s.heap.objs.size
theorem At.base (a : At G n hd A env envs C β ρ σ s) : Base G n A envs β σ s :=
  ⟨a.inv, a.ar.fr, a.ar.frs, a.ar.depth, a.ar.units, a.ar.handled, by
    obtain ⟨m, hm, _⟩ := a.er.ns
    exact Nat.le_trans a.er.above (Nat.le_of_lt hm.lt), a.nlt⟩

/-- a call of a function of the text -/
theorem fn_sound (ok : GOk G) {i : Nat} {f : Addr} (hf : FnAt G f i) (hb : ∀ (C : CC) (ss : List Stmt) (cs : List CS), C.g = G.g → VarsND C.vars → cSs fuelC C ss = some cs → SSs G n C ss cs) (a : Base G (n + 1) A envs β σ s) {ds : List D} {vs : List Value} (r : RelL G s.heap β ds vs) :
    Does G A envs β s (call (.ref f) vs) (callN G.P (n + 1) hd i ds σ) := by
  intro hr
  obtain ⟨o, fd, fn, body, ho, hdata, hbody, hglob, hclos, hdef, hblt, hcd, hP, hc⟩ := hf
  obtain ⟨ps, cs, hps, rfl, hcs, hk, hgen, hco, hpk, hnd, hfree⟩ := cFn_parts hc
  obtain ⟨as, hpar, rfl⟩ := plainArgs_eq hps
  simp only [callN, hP] at hr ⊢
  split at hr
  · rename_i hlen
    rw [if_pos hlen]
    have hvl : as.length = vs.length := by rw [← r.length, hlen.1]; simp
    have hroom : A.depth < recursionLimit := by have := a.depth; omega
    have hpn : (as.map (·.arg)).Nodup := by
      unfold varsOf at hnd
      exact (List.nodup_append.mp hnd).1
    refine wpAny_call (codeAny_call_function hroom (a.inv.keep _ _ ho) hdata hco hgen hbody (hcd.keeps a.inv.keep) ?_)
    rw [bind_plain hpar hdef hvl hpn]
    refine wpAny_pure ?_
    rw [hclos]
    refine wpAny_newFunctionEnv_cells hk ?_ fun env' he s' x => ?_
    · intro p hp
      have : p.1 ∈ as.map (·.arg) := (List.of_mem_zip (a := p.1) (b := p.2) hp).1
      rcases hpk _ this with h | h
      · exact .inl h
      · exact .inr ⟨h, cells_has h⟩
    have hL : env'.locals = s.heap.objs.size := by rw [he]; rfl
    have hkeep := x.toInCall.keep
    have hsz : s.heap.objs.size < s'.heap.objs.size := hL ▸ x.toInCall.ns.lt
    have hHs := a.hs
    have hbn : ∀ b ∈ β, b < s.heap.objs.size := fun b hb => a.inv.lt hb
    obtain ⟨hx, tk, hs', _⟩ := x.toInCall.done
    have hgens : s'.gens = s.gens := by rw [hs']
    have hos : s'.os = s.os := by rw [hs']
    have st0 : Stp G (fsOf envs) no β β σ s s' := Stp.grow a.inv hkeep (Nat.le_of_lt hsz) hgens hos
    have er : EnvR G env' ((varsOf (as.map (·.arg)) fd.scope).map some) β (ds.map some ++ List.replicate ((varsOf (as.map (·.arg)) fd.scope).length - (as.map (·.arg)).length) none) s'.heap := by
      refine new_env (n := s.heap.objs.size + 1) hk (by rw [he]; rfl) (by rw [he]; exact hglob) (by rw [he]; exact hblt) (by rw [hL]; exact hHs) (by rw [hL]; exact fun q => Nat.lt_irrefl _ (hbn _ q)) hnd hfree hlen.1 (r.mono (Firm.of_keeps hkeep) (List.prefix_refl _)) x.toInCall.ns (by rw [he]; rfl) x.cell x.apart x.above
    have ar : ArOk G n hd (A.deeper env') env' (env' :: envs) β s'.heap := by
      refine ⟨Around.frames_deeper a.fr, ⟨env', envs, rfl, rfl⟩, fun e he' => ?_, ?_, ?_, a.handled⟩
      · cases he' with
        | head => exact ⟨by rw [he]; show fd.scope.kind ≠ _; rw [hk]; simp, env'.locals, _, by rw [he]; rfl, er.above, er.notin, x.toInCall.ns⟩
        | tail _ he' =>
          obtain ⟨k1, L, m, k2, k3, k4, k5⟩ := a.frs e he'
          exact ⟨k1, L, m, k2, k3, k4, k5.keeps hkeep⟩
      · have := a.depth
        show A.depth + 1 + _ < _
        omega
      · have := a.units
        show A.units + 3 + _ < _
        omega
    have a' : At G n hd (A.deeper env') env' (env' :: envs) ⟨G.g, (varsOf (as.map (·.arg)) fd.scope).map some, fd.scope⟩ β (ds.map some ++ List.replicate ((varsOf (as.map (·.arg)) fd.scope).length - (as.map (·.arg)).length) none) σ s' :=
      ⟨st0.inv, er, ar, by rw [he]; rfl, rfl, fun b hb => Nat.lt_trans (a.nlt b hb) hsz⟩
    have hbody' := hb _ body cs rfl (map_some_nd hnd) hcs a'
    refine ⟨ok.lim.keeps st0.inv.keep, codeAny_func (wpAny_mono (hbody' ?_) (fun fl s'' p => ?_) fun e s'' p => ?_)⟩
    · intro q; apply hr; rw [q]
    · obtain ⟨σ', β', st, p⟩ := p
      have hown : ∀ b, Own ⟨G.g, (varsOf (as.map (·.arg)) fd.scope).map some, fd.scope⟩ env' b → s.heap.objs.size ≤ b := by
        rintro b (rfl | ⟨i, y, _, _, h3⟩)
        · rw [hL]; exact Nat.le_refl _
        · rw [← hL]; exact Nat.le_of_lt (x.above y b (mem_of_lookup' h3))
      have st2 : Stp G (fsOf envs) no β β' σ' s s'' := by
        refine ⟨st.pre, fun b hb => (st.new b hb).imp id fun q => Nat.le_trans (Nat.le_of_lt hsz) q, st.inv, fun b o e nb _ nf => ?_, fun b m e nb _ => ?_, Nat.le_trans (Nat.le_of_lt hsz) st.size, st.gens.trans hgens, st.os.trans hos⟩
        · have hb : b < s.heap.objs.size := Heap.lt_size e
          refine st.ext b o (hkeep b o e) nb (fun q => Nat.lt_irrefl _ (Nat.lt_of_lt_of_le hb (hown b q))) fun q => ?_
          obtain ⟨e', he', hf'⟩ := List.mem_filterMap.mp q
          cases he' with
          | head =>
            have : env'.frame = some env'.locals := by rw [he]; rfl
            rw [this] at hf'
            injection hf' with hf'
            rw [hL] at hf'
            exact Nat.lt_irrefl _ (hf' ▸ hb)
          | tail _ he' => exact nf (List.mem_filterMap.mpr ⟨e', he', hf'⟩)
        · have hb : b < s.heap.objs.size := e.lt
          exact st.ns b m (e.keeps hkeep) nb fun q => Nat.lt_irrefl _ (Nat.lt_of_lt_of_le hb (hown b q))
      rcases p with ⟨ρ', h1, rfl, a₁⟩ | ⟨d, v, h1, rfl, rv⟩
      · exact ⟨.none, σ', β', by rw [h1], st2, .none⟩
      · exact ⟨d, σ', β', by rw [h1], st2, rv⟩
    · obtain ⟨c, o, σ', q⟩ := p
      exact absurd (by rw [q]) hr
  · exact absurd rfl hr

theorem callF_se (ok : GOk G) {x : Str} {i : Nat} {p pos : Pos} {es : List PySem.Expr} {cs : List CE} (hb : ∀ (C : CC) (ss : List Stmt) (cs : List CS), C.g = G.g → VarsND C.vars → cSs fuelC C ss = some cs → SSs G n C ss cs)
    (hx : x ∈ G.g.fns) (hi : nameId x = some i) (hg : C.isGlob x = true) (hdb : (x == ("__debug__" : Str)) = false) (h : SEl G (n + 1) C es cs) : SE G (n + 1) C (.Call (.Name x p) es [] pos) (.callF i cs) := by
  intro hd A env envs β ρ σ s a
  simp only [ev]
  obtain ⟨f, hmg, hf⟩ := ok.fns x hx i hi
  obtain ⟨o, fd, fn, body, ho, hdata, _⟩ := id hf
  exact callName_sound (f := .ref f) (fun q => global_name ok a hdb (isGlob_kind hg) hmg q) (Keep.fn ho hdata) h a fun ds σ₁ β₁ vs s₁ _ h2 h3 => fn_sound ok hf hb (a.step h2).base h3
end
end Mine

/-! part MSnd22 -/
namespace Mine
open PySem PySem.Calls PySem.W PyProof.Rows
set_option maxRecDepth 100000

/-! the ground with other hidden places -/
noncomputable def Gd.wN (G : Gd) (N : Addr → Prop) : Gd := { G with N := N }

mutual
theorem Rel.turn {G : Gd} {N : Addr → Prop} {h : Heap} {β : List Addr} (hN : ∀ a o, h.get? a = some o → ¬ G.N a → ¬ N a) : ∀ {d : D} {v : Value}, Rel G h β d v → Rel (G.wN N) h β d v
  | _, _, .none => .none
  | _, _, .bool b => .bool b
  | _, _, .int i t => .int i t
  | _, _, .str t ok => .str t ok
  | _, _, .tup ho hc hd r sz nN => .tup ho hc hd (RelL.turn hN r) sz (hN _ _ ho nN)
  | _, _, .ref hb => .ref hb
  | _, _, .exc ho hc hd nN => .exc ho hc hd (hN _ _ ho nN)
theorem RelL.turn {G : Gd} {N : Addr → Prop} {h : Heap} {β : List Addr} (hN : ∀ a o, h.get? a = some o → ¬ G.N a → ¬ N a) : ∀ {ds : List D} {vs : List Value}, RelL G h β ds vs → RelL (G.wN N) h β ds vs
  | _, _, .nil => .nil
  | _, _, .cons r rs => .cons (Rel.turn hN r) (RelL.turn hN rs)
end
theorem Ents.turn {G : Gd} {N : Addr → Prop} {h : Heap} {β : List Addr} {hash : D → Int} (hN : ∀ a o, h.get? a = some o → ¬ G.N a → ¬ N a) : ∀ {es : List (D × D)} {xs : List DictEntry}, Ents G h β hash es xs → Ents (G.wN N) h β hash es xs
  | _, _, .nil => .nil
  | _, _, .cons rk rv r => .cons (rk.turn hN) (rv.turn hN) (Ents.turn hN r)
theorem Flds.turn {G : Gd} {N : Addr → Prop} {h : Heap} {β : List Addr} (hN : ∀ a o, h.get? a = some o → ¬ G.N a → ¬ N a) : ∀ {fs : List (Nat × D)} {xs : List DictEntry}, Flds G h β fs xs → Flds (G.wN N) h β fs xs
  | _, _, .nil => .nil
  | _, _, .cons hx rv r => .cons hx (rv.turn hN) (Flds.turn hN r)
theorem CObj.turn {G : Gd} {N : Addr → Prop} {h : Heap} {β : List Addr} {ob : AObj} {a : Addr} (hN : ∀ a o, h.get? a = some o → ¬ G.N a → ¬ N a) (c : CObj G h β ob a) : CObj (G.wN N) h β ob a := by
  cases c with
  | list ho r new sz => exact .list ho (r.turn hN) new sz
  | froz ho hc hd r sz => exact .froz (G := G.wN N) ho hc hd (r.turn hN) sz
  | dict ho r nd new sz => exact .dict ho (r.turn hN) nd new sz
  | fdict ho r nd sz => exact .fdict (G := G.wN N) ho (r.turn hN) nd sz
  | inst hd ho new => exact .inst (G := G.wN N) hd ho new
  | flds ho r new sz => exact .flds ho (r.turn hN) new sz
theorem Inv.turn {G : Gd} {N : Addr → Prop} {h : Heap} {β : List Addr} {σ : Sto} (hN : ∀ a o, h.get? a = some o → ¬ G.N a → ¬ N a) (I : Inv G β σ h) : Inv (G.wN N) β σ h :=
  ⟨I.keep, I.base, I.len, I.nodup, fun i ob e => let ⟨a, h1, h2⟩ := I.obj i ob e; ⟨a, h1, h2.turn hN⟩⟩
theorem EnvR.turn {G : Gd} {N : Addr → Prop} {h : Heap} {β : List Addr} {env : Env} {vars : List (Option Str)} {ρ : Rho} (hN : ∀ a o, h.get? a = some o → ¬ G.N a → ¬ N a) (e : EnvR G env vars β ρ h) : EnvR (G.wN N) env vars β ρ h := by
  refine ⟨e.kind, e.glob, e.blt, e.above, e.notin, ?_, ?_, e.apart, e.len⟩
  · obtain ⟨m, h1, h2⟩ := e.ns
    refine ⟨m, h1, fun i x d k1 k2 k3 => ?_⟩
    obtain ⟨v, v1, v2⟩ := h2 i x d k1 k2 k3
    exact ⟨v, v1, v2.turn hN⟩
  · intro i x k1 k2
    obtain ⟨c, ov, h1, h2, h3, h4⟩ := e.cells i x k1 k2
    refine ⟨c, ov, h1, h2, h3, fun d hd => ?_⟩
    obtain ⟨v, v1, v2⟩ := h4 d hd
    exact ⟨v, v1, v2.turn hN⟩
theorem Stp.turn {G : Gd} {N : Addr → Prop} {fs : List Addr} {X : Addr → Prop} {β β' : List Addr} {σ' : Sto} {s s' : Shared} (hN : ∀ a o, s'.heap.get? a = some o → ¬ G.N a → ¬ N a) (a : Stp G fs X β β' σ' s s') : Stp (G.wN N) fs X β β' σ' s s' :=
  ⟨a.pre, a.new, a.inv.turn hN, a.ext, a.ns, a.size, a.gens, a.os⟩
theorem At.turn {G : Gd} {N : Addr → Prop} {n : Nat} {hd : Bool} {A : Around} {env : Env} {envs : List Env} {C : CC} {β : List Addr} {ρ : Rho} {σ : Sto} {s : Shared} (hN : ∀ a o, s.heap.get? a = some o → ¬ G.N a → ¬ N a) (hl : ∀ b, N b → b < s.heap.objs.size) (a : At G n hd A env envs C β ρ σ s) : At (G.wN N) n hd A env envs C β ρ σ s :=
  ⟨a.inv.turn hN, a.er.turn hN, ⟨a.ar.fr, a.ar.hf, a.ar.frs, a.ar.depth, a.ar.units, a.ar.handled⟩, a.sc, a.gg, hl⟩
theorem EnvR.mono {G : Gd} {h h' : Heap} {β : List Addr} {env : Env} {vars : List (Option Str)} {ρ : Rho} (k : ∀ b o, h.get? b = some o → h'.get? b = some o) (e : EnvR G env vars β ρ h) : EnvR G env vars β ρ h' := by
  refine ⟨e.kind, e.glob, e.blt, e.above, e.notin, ?_, ?_, e.apart, e.len⟩
  · obtain ⟨m, h1, h2⟩ := e.ns
    refine ⟨m, h1.keeps k, fun i x d k1 k2 k3 => ?_⟩
    obtain ⟨v, v1, v2⟩ := h2 i x d k1 k2 k3
    exact ⟨v, v1, v2.mono (Firm.of_keeps k) (List.prefix_refl _)⟩
  · intro i x k1 k2
    obtain ⟨c, ov, h1, h2, h3, h4⟩ := e.cells i x k1 k2
    refine ⟨c, ov, h1, h2, h3.keeps k, fun d hd => ?_⟩
    obtain ⟨v, v1, v2⟩ := h4 d hd
    exact ⟨v, v1, v2.mono (Firm.of_keeps k) (List.prefix_refl _)⟩

section
variable {G : Gd} {n : Nat} {hd : Bool} {A : Around} {env : Env} {envs : List Env} {C : CC} {β : List Addr} {ρ : Rho} {σ : Sto} {s : Shared}

/-- new things made and hidden -/
theorem At.hide {wr : List Addr} {s₁ : Shared} (a : At G n hd A env envs C β ρ σ s) (k : ∀ b o, s.heap.get? b = some o → s₁.heap.get? b = some o) (hz : s.heap.objs.size ≤ s₁.heap.objs.size) (hw : ∀ b ∈ wr, s.heap.objs.size ≤ b ∧ b < s₁.heap.objs.size) :
    At (G.wN fun b => G.N b ∨ b ∈ wr) n hd A env envs C β ρ σ s₁ := by
  have hN : ∀ a o, s.heap.get? a = some o → ¬ G.N a → ¬ (G.N a ∨ a ∈ wr) := fun b o e n q => by
    rcases q with q | q
    · exact n q
    · exact Nat.lt_irrefl _ (Nat.lt_of_lt_of_le (Heap.lt_size e) (hw b q).1)
  refine ⟨(a.inv.turn hN).grown k, (a.er.turn hN).mono k, ⟨a.ar.fr, a.ar.hf, fun e he => ?_, a.ar.depth, a.ar.units, a.ar.handled⟩, a.sc, a.gg, ?_⟩
  · obtain ⟨k1, L, m, k2, k3, k4, k5⟩ := a.ar.frs e he
    exact ⟨k1, L, m, k2, k3, k4, k5.keeps k⟩
  · rintro b (q | q)
    · exact Nat.lt_of_lt_of_le (a.nlt b q) hz
    · exact (hw b q).2

/-- hidden things changed -/
theorem At.moved {X : Addr → Prop} {s' : Shared} (a : At G n hd A env envs C β ρ σ s) (hX : ∀ b, X b → G.N b ∧ b ∉ β ∧ ¬ Own C env b ∧ b ∉ fsOf envs ∧ G.H.get? b = none) (hXc : ∀ b, X b → ∀ (i : Nat) (x : Str), C.vars[i]? = some (some x) → (env.kindOf x = some .cell ∨ env.kindOf x = some .free) → env.cells.lookup x ≠ some b)
    (k : ∀ b o, ¬ X b → s.heap.get? b = some o → s'.heap.get? b = some o) (hz : s.heap.objs.size ≤ s'.heap.objs.size) : At G n hd A env envs C β ρ σ s' := by
  have f : Firm G.N s.heap s'.heap := fun b o nb e _ => k b o (fun q => nb (hX b q).1) e
  refine ⟨a.inv.keeps (fun b o e => k b o (fun q => by rw [(hX b q).2.2.2.2] at e; cases e) (a.inv.keep b o e)) f fun b hb o e => k b o (fun q => (hX b q).2.1 hb) e, ⟨a.er.kind, a.er.glob, a.er.blt, a.er.above, a.er.notin, ?_, ?_, a.er.apart, a.er.len⟩, ⟨a.ar.fr, a.ar.hf, fun e he => ?_, a.ar.depth, a.ar.units, a.ar.handled⟩, a.sc, a.gg, fun b hb => Nat.lt_of_lt_of_le (a.nlt b hb) hz⟩
  · obtain ⟨m, h1, h2⟩ := a.er.ns
    refine ⟨m, h1.at' fun o e => k _ o (fun q => (hX _ q).2.2.1 (.inl rfl)) e, fun i x d k1 k2 k3 => ?_⟩
    obtain ⟨v, v1, v2⟩ := h2 i x d k1 k2 k3
    exact ⟨v, v1, v2.mono f (List.prefix_refl _)⟩
  · intro i x k1 k2
    obtain ⟨c, ov, h1, h2, ⟨o, ho, hdd⟩, h4⟩ := a.er.cells i x k1 k2
    refine ⟨c, ov, h1, h2, ⟨o, k c o (fun q => hXc c q i x k1 k2 h1) ho, hdd⟩, fun d hd => ?_⟩
    obtain ⟨v, v1, v2⟩ := h4 d hd
    exact ⟨v, v1, v2.mono f (List.prefix_refl _)⟩
  · obtain ⟨k1, L, m, k2, k3, k4, k5⟩ := a.ar.frs e he
    exact ⟨k1, L, m, k2, k3, k4, k5.at' fun o e' => k L o (fun q => (hX L q).2.2.2.1 (List.mem_filterMap.mpr ⟨e, he, k2⟩)) e'⟩

/-! while -/
theorem asB_ok {r : Res D} {b : Bool} {σ : Sto} (h : asB r = .ok b σ) : r = .ok (.bool b) σ := by
  cases r with
  | ok d σ' => cases d <;> first | (cases h; rfl) | cases h
  | exc => cases h
  | stuck => cases h
theorem asB_exc {r : Res D} {c : Nat} {o : Bool} {σ : Sto} (h : asB r = .exc c o σ) : r = .exc c o σ := by
  cases r with
  | ok d σ' => cases d <;> cases h
  | exc => cases h; rfl
  | stuck => cases h
theorem asB_stuck {r : Res D} (h : asB r = .stuck) : r = .stuck ∨ ∃ d σ, r = .ok d σ ∧ ∀ b, d ≠ .bool b := by
  cases r with
  | ok d σ' =>
    cases d with
    | bool b => cases h
    | _ => exact .inr ⟨_, _, rfl, by intro b q; cases q⟩
  | exc => cases h
  | stuck => exact .inl rfl

theorem while_ss {t : PySem.Expr} {b : List Stmt} {pos : Pos} {ct : CE} {cb : List CS} (ht : ST G n C t ct) (hb : SSs G n C b cb) : SS G n C (.While t b [] pos) (.while ct cb) := by
  intro hd A env envs β ρ σ s a hr
  simp only [ex] at hr ⊢
  generalize hT : (fun (ρ : Rho) (σ : Sto) => ev (callN G.P n hd) ct ρ σ) = T at hr ⊢
  generalize hB : (fun (ρ : Rho) (σ : Sto) => exs (callN G.P n) hd cb ρ σ) = B at hr ⊢
  refine wpAny_While (codeAny_whileLoop (fun m s' => ∃ ρ' σ' β', At G n hd A env envs C β' ρ' σ' s' ∧ Stp G (fsOf envs) (Own C env) β β' σ' s s' ∧ whileGo T B m ρ' σ' = whileGo T B whileMost ρ σ) ?_ whileMost ⟨ρ, σ, β, a, Stp.refl a.inv, rfl⟩)
  rintro m s' ⟨ρ', σ', β', a', st, e⟩
  cases m with
  | zero => exact absurd e.symm hr
  | succ m =>
    rw [whileGo] at e
    have e1 : T ρ' σ' = ev (callN G.P n hd) ct ρ' σ' := by rw [← hT]
    have hne : asB (ev (callN G.P n hd) ct ρ' σ') ≠ .stuck := by
      intro q
      rw [e1] at e
      rcases asB_stuck q with q | ⟨d, σ₁, q, hq⟩
      · rw [q] at e; exact hr e.symm
      · rw [q] at e
        cases d <;> first | exact hr e.symm | exact hq _ rfl
    refine wpAny_mono (ht a' hne) (fun x s₂ p => ?_) fun x s₂ p => ?_
    · obtain ⟨σ₂, β₂, h1, h2⟩ := p
      have h1 := asB_ok h1
      rw [e1, h1] at e
      have a₂ := a'.step h2
      have st₂ : Stp G (fsOf envs) (Own C env) β β₂ σ₂ s s₂ := st.transX h2 (fun b h => .inl h) (fun b h => h.elim)
      cases x with
      | true =>
        dsimp only at e
        have e2 : B ρ' σ₂ = exs (callN G.P n) hd cb ρ' σ₂ := by rw [← hB]
        rw [e2] at e
        rw [if_pos rfl]
        refine wpAny_mono (hb a₂ ?_) (fun f s₃ p => ?_) fun x s₃ p => ?_
        · intro q; rw [q] at e; exact hr e.symm
        · obtain ⟨σ₃, β₃, st₃, p⟩ := p
          have st₄ := st₂.transX (Z := Own C env) st₃ (fun b h => .inl h) (fun b h => .inl h)
          rcases p with ⟨ρ₃, h3, rfl, a₃⟩ | ⟨d, v, h3, rfl, rv⟩
          · rw [h3] at e
            exact ⟨m, Nat.lt_succ_self _, ρ₃, σ₃, β₃, a₃, st₄, e⟩
          · rw [h3] at e
            exact ⟨σ₃, β₃, st₄, .inr ⟨d, v, e.symm, rfl, rv⟩⟩
        · obtain ⟨c, o, σ', q⟩ := p
          rw [q] at e; exact absurd e.symm hr
      | false =>
        dsimp only at e
        rw [if_neg (by simp)]
        exact wpAny_execs_nil ⟨σ₂, β₂, st₂, .inl ⟨ρ', e.symm, rfl, a₂⟩⟩
    · obtain ⟨c, σ₂, ee, h1, _⟩ := p
      rw [e1, asB_exc h1] at e; exact absurd e.symm hr
end
end Mine

/-! part MSize -/
namespace Mine
open PySem

theorem runs_size {M : Model} {Γ : Ctx} {p : Pos} {t : Sem Fin} {fs : List Frame} {s s' : Shared} {e : End} (h : Runs M Γ p t fs s e s') : s.heap.objs.size ≤ s'.heap.objs.size := by
  induction h <;> (try simp only [Shared.setGen, Heap.size_push, Heap.size_after_update] at *) <;> omega
theorem returns_size {M : Model} {Γ : Ctx} {p : Pos} {s s' : Shared} {r : Result} (h : Returns M Γ p s r s') : s.heap.objs.size ≤ s'.heap.objs.size := runs_size h
theorem wakes_size {M : Model} {Γ : Ctx} {p : Pos} {g : Nat} {r : Resume} {s s' : Shared} {res : GenResult} (h : Wakes M Γ p g r s res s') : s.heap.objs.size ≤ s'.heap.objs.size := by
  unfold Wakes at h
  split at h
  · exact h.elim
  · split at h
    · obtain ⟨e₁, s₁, hr, _, _, rfl⟩ := h; exact (runs_size hr : (s.setGen g .running).heap.objs.size ≤ s₁.heap.objs.size)
    · rw [h.2]; exact Nat.le_refl _
    · rw [h.2]; exact Nat.le_refl _
  · obtain ⟨e₁, s₁, hr, _, _, rfl⟩ := h; exact (runs_size hr : (s.setGen g .running).heap.objs.size ≤ s₁.heap.objs.size)
  · rw [h.2]; exact Nat.le_refl _
  · rw [h.2]; exact Nat.le_refl _

theorem wp_size {α : Type} (M : Model) (Γ : Ctx) (n : Nat) (t : Sem α) : ∀ (Q : α → Pos → Shared → Prop) (E : Value → Pos → Shared → Prop) (p : Pos) (s : Shared), n ≤ s.heap.objs.size → Sem.wp M Γ t Q E p s →
    Sem.wp M Γ t (fun a p' s' => n ≤ s'.heap.objs.size ∧ Q a p' s') (fun e p' s' => n ≤ s'.heap.objs.size ∧ E e p' s') p s := by
  induction t with
  | pure a => intro Q E p s hn h; exact ⟨hn, h⟩
  | raise e => intro Q E p s hn h; exact ⟨hn, h⟩
  | unsupported _ => intro Q E p s _ h; exact h
  | finish _ => intro Q E p s _ h; exact h
  | rule _ k ih => intro Q E p s hn h; exact ih () Q E p s hn h
  | «at» p' k ih => intro Q E p s hn h; exact ih () Q E p' s hn h
  | load a _ k ih => intro Q E p s hn h; obtain ⟨o, ho, h⟩ := h; exact ⟨o, ho, ih o Q E p s hn h⟩
  | update a _ f k ih => intro Q E p s hn h; exact ⟨h.1, ih () Q E p _ (by show n ≤ (s.heap.update a f).objs.size; rw [Heap.size_after_update]; exact hn) h.2⟩
  | loadIfAlive a k ih => intro Q E p s hn h; exact ih _ Q E p s hn h
  | point _ k ih => intro Q E p s hn h; exact ih () Q E p s hn h
  | register _ _ => intro Q E p s _ h; exact h
  | alloc o k ih => intro Q E p s hn h; exact ih _ Q E p _ (by show n ≤ (s.heap.push o).objs.size; rw [Heap.size_push]; omega) h
  | fresh k ih => intro Q E p s hn h; exact ih _ Q E p _ hn h
  | ask k ih => intro Q E p s hn h; exact ih _ Q E p s hn h
  | choose src m k ih => intro Q E p s hn h; exact ⟨h.1, ih _ Q E p _ hn h.2⟩
  | os q _ k ih => intro Q E p s hn h; exact ih _ Q E p _ hn h
  | call c hd _ _ k ih => intro Q E p s hn h; obtain ⟨r, s', hr, h⟩ := h; exact ⟨r, s', hr, ih r Q E p s' (Nat.le_trans hn (returns_size hr)) h⟩
  | handled own k ih => intro Q E p s hn h; exact ih _ Q E p s hn h
  | genState g k ih => intro Q E p s hn h; obtain ⟨st, hs, h⟩ := h; exact ⟨st, hs, ih _ Q E p s hn h⟩
  | newGen c k ih => intro Q E p s hn h; exact ih _ Q E p _ hn h
  | resume g r _ k ih => intro Q E p s hn h; obtain ⟨res, s', hw, h⟩ := h; exact ⟨res, s', hw, ih res Q E p s' (Nat.le_trans hn (wakes_size hw)) h⟩
  | yield _ _ _ _ => intro Q E p s _ h; exact h
  | stack k ih => intro Q E p s hn h; exact ih _ Q E p s hn h
  | fork _ _ => intro Q E p s _ h; exact h
  | thread k ih => intro Q E p s hn h; exact ih _ Q E p s hn h
  | await _ _ _ _ _ => intro Q E p s _ h; exact h

theorem wpAny_size_of {α : Type} {M : Model} {A : Around} {s : Shared} {t : Sem α} {Q : α → Shared → Prop} {E : Value → Shared → Prop} (h : wpAny M A t Q E s) : wpAny M A t (fun a s' => s.heap.objs.size ≤ s'.heap.objs.size ∧ Q a s') (fun e s' => s.heap.objs.size ≤ s'.heap.objs.size ∧ E e s') s :=
  fun Γ p hΓ => wp_size M Γ s.heap.objs.size t _ _ p s (Nat.le_refl _) (h Γ p hΓ)
theorem wpAny_sized {α : Type} {M : Model} {A : Around} {s : Shared} {t : Sem α} {Q : α → Shared → Prop} {E : Value → Shared → Prop} (h : wpAny M A t (fun a s' => s.heap.objs.size ≤ s'.heap.objs.size → Q a s') (fun e s' => s.heap.objs.size ≤ s'.heap.objs.size → E e s') s) : wpAny M A t Q E s :=
  wpAny_mono (wpAny_size_of h) (fun _ _ x => x.2 x.1) (fun _ _ x => x.2 x.1)
end Mine

/-! part MSnd23 -/
namespace Mine
open PySem PySem.Calls PySem.W PyProof.Rows
set_option maxRecDepth 100000

section
variable {G : Gd} {n : Nat} {hd : Bool} {A : Around} {env : Env} {envs : List Env} {C : CC} {β : List Addr} {ρ : Rho} {σ : Sto} {s s₁ : Shared}

theorem PostS.turn {N : Addr → Prop} {r : Res Fl} {fl : Flow} {s' : Shared} (hN : ∀ b, N b → b < s.heap.objs.size) (hN2 : ∀ a o, s'.heap.get? a = some o → ¬ G.N a → ¬ N a) (p : PostS G n hd A env envs C β s r fl s') : PostS (G.wN N) n hd A env envs C β s r fl s' := by
  obtain ⟨σ', β', h1, h2⟩ := p
  refine ⟨σ', β', h1.turn hN2, ?_⟩
  rcases h2 with ⟨ρ', k1, k2, k3⟩ | ⟨d, v, k1, k2, k3⟩
  · exact .inl ⟨ρ', k1, k2, k3.turn hN2 fun b hb => Nat.lt_of_lt_of_le (hN b hb) h1.size⟩
  · exact .inr ⟨d, v, k1, k2, k3.turn hN2⟩

/-- what a loop's iterator owns -/
structure ItOk (C : CC) (env : Env) (envs : List Env) (β : List Addr) (s s₁ : Shared) (fp wr : List Addr) : Prop where
  keep : ∀ b o, s.heap.get? b = some o → s₁.heap.get? b = some o
  size : s.heap.objs.size ≤ s₁.heap.objs.size
  gens : s₁.gens = s.gens
  os : s₁.os = s.os
  new : ∀ b ∈ wr, s.heap.objs.size ≤ b ∧ b < s₁.heap.objs.size
  lt : ∀ b ∈ fp, b < s₁.heap.objs.size
  away : ∀ b ∈ fp, b ∉ β ∧ ¬ Own C env b ∧ b ∉ fsOf envs

/-- a loop over things that do not change -/
theorem for_turns {b : List Stmt} {cb : List CS} {target : PySem.Expr} {I : Addr} {fp wr : List Addr} {P Md : Nat → Value → Heap → Prop} {St : Nat → Heap → Prop} {is : List Nat} {items : List D} {src : Option Nat × Option Nat} {all : List D × List D}
    (hb : SSs (G.wN fun b => G.N b ∨ b ∈ wr) n C b cb) (W : KTurns G.prog G.w A target I fp wr items.length P Md St) (a : At G n hd A env envs C β ρ σ s) (it : ItOk C env envs β s s₁ fp wr) (hst : St 0 s₁.heap)
    (hasg : ∀ (i : Nat) (d : D) (v : Value) (β' : List Addr) (ρ' ρ'' : Rho) (σ' : Sto) (s' : Shared), items[i]? = some d → P i v s'.heap → At (G.wN fun b => G.N b ∨ b ∈ wr) n hd A env envs C β' ρ' σ' s' → β <+: β' → Firm (fun b => G.N b ∨ b ∈ wr) s.heap s'.heap →
      (unpackT is.length d).bind (setVars ρ' is) = some ρ'' → ∀ (Q : Unit → Shared → Prop) (E : Value → Shared → Prop), (∀ s'', At (G.wN fun b => G.N b ∨ b ∈ wr) n hd A env envs C β' ρ'' σ' s'' → Stp (G.wN fun b => G.N b ∨ b ∈ wr) (fsOf envs) (Own C env) β' β' σ' s' s'' → Q () s'') → wpAny G.M A (assign target env v) Q E s')
    (hr : forGo (fun ρ σ => exs (callN G.P n) hd cb ρ σ) is src all items ρ σ ≠ .stuck) {E : Value → Shared → Prop} :
    codeAny G.M A (.forLoop target (.ref I) b [] env) (fun r s' => match r with | .ok f => PostS G n hd A env envs C β s (forGo (fun ρ σ => exs (callN G.P n) hd cb ρ σ) is src all items ρ σ) f s' | .error e => E e s') s₁ := by
  generalize hB : (fun (ρ : Rho) (σ : Sto) => exs (callN G.P n) hd cb ρ σ) = B at hr ⊢
  have a₁ : At (G.wN fun b => G.N b ∨ b ∈ wr) n hd A env envs C β ρ σ s₁ := a.hide it.keep it.size it.new
  have hHs : G.H.objs.size ≤ s.heap.objs.size := by
    obtain ⟨m, hm, _⟩ := a.er.ns
    exact Nat.le_trans a.er.above (Nat.le_of_lt hm.lt)
  have hwH : ∀ b ∈ wr, G.H.get? b = none := fun b hb => by
    cases e : G.H.get? b with
    | none => rfl
    | some o => exact absurd (Nat.lt_of_lt_of_le (Heap.lt_size e) hHs) (Nat.not_lt.mpr (it.new b hb).1)
  -- the loop's invariant
  have main := codeAny_forLoop_any (prog := G.prog) (w := G.w) (A := A) (s := s₁) (target := target) (it := .ref I) (body := b) (orelse := []) (env := env)
    (R := fun r s' => match r with | .ok f => PostS G n hd A env envs C β s (forGo B is src all items ρ σ) f s' | .error e => E e s')
    (fun k s' => ∃ i ρ' σ' β', i ≤ items.length ∧ k = items.length + 1 - i ∧ At (G.wN fun b => G.N b ∨ b ∈ wr) n hd A env envs C β' ρ' σ' s' ∧ Stp (G.wN fun b => G.N b ∨ b ∈ wr) (fsOf envs) (fun b => Own C env b ∨ b ∈ wr) β β' σ' s₁ s' ∧ St i s'.heap ∧ forGo B is src all (items.drop i) ρ' σ' = forGo B is src all items ρ σ)
  refine main ?_ (items.length + 1) ⟨0, ρ, σ, β, Nat.zero_le _, rfl, a₁, Stp.refl a₁.inv, hst, by rw [List.drop_zero]⟩
  rintro k s' ⟨i, ρ', σ', β', hi, rfl, a', st, hst', e⟩
  have hfp : ∀ b ∈ fp, b ∉ β' ∧ ¬ Own C env b ∧ b ∉ fsOf envs := fun b hb => ⟨st.notin (it.lt b hb) (it.away b hb).1, (it.away b hb).2⟩
  have hXN : ∀ b, b ∈ wr → (G.N b ∨ b ∈ wr) ∧ b ∉ β' ∧ ¬ Own C env b ∧ b ∉ fsOf envs ∧ G.H.get? b = none := fun b hb => ⟨.inr hb, (hfp b (W.sub b hb)).1, (hfp b (W.sub b hb)).2.1, (hfp b (W.sub b hb)).2.2, hwH b hb⟩
  have hXc : ∀ b, b ∈ wr → ∀ (i : Nat) (x : Str), C.vars[i]? = some (some x) → (env.kindOf x = some .cell ∨ env.kindOf x = some .free) → env.cells.lookup x ≠ some b := fun b hb i x h1 hk h2 => by
    obtain ⟨c, ov, g1, g2, ⟨o, ho, hdd⟩, _⟩ := a.er.cells i x h1 hk
    rw [h2] at g1; cases g1
    exact Nat.lt_irrefl _ (Nat.lt_of_lt_of_le (Heap.lt_size ho) (it.new b hb).1)
  have moved : ∀ s'' : Shared, (∀ b o, b ∉ wr → s'.heap.get? b = some o → s''.heap.get? b = some o) → s'.heap.objs.size ≤ s''.heap.objs.size → s''.gens = s'.gens → s''.os = s'.os →
      At (G.wN fun b => G.N b ∨ b ∈ wr) n hd A env envs C β' ρ' σ' s'' ∧ Stp (G.wN fun b => G.N b ∨ b ∈ wr) (fsOf envs) (fun b => Own C env b ∨ b ∈ wr) β β' σ' s₁ s'' := by
    intro s'' k hz hg ho
    have a'' := a'.moved (X := fun b => b ∈ wr) hXN hXc k hz
    refine ⟨a'', st.transX (Y := fun b => b ∈ wr) ⟨List.prefix_refl _, fun _ h => .inl h, a''.inv, fun b o e _ nx _ => k b o nx e, fun b m e _ nx => e.at' fun o e' => k b o nx e', hz, hg, ho⟩ (fun b h => .inl h) fun b h => .inl (.inr h)⟩
  have N0 : ∀ (s'' : Shared) (a : Addr) (o : Obj), s''.heap.get? a = some o → ¬ (G.N a ∨ a ∈ wr) → ¬ G.N a := fun _ a o _ n q => n (.inl q)
  have back : ∀ {s'' : Shared} {β'' : List Addr} {σ'' : Sto}, Stp (G.wN fun b => G.N b ∨ b ∈ wr) (fsOf envs) (fun b => Own C env b ∨ b ∈ wr) β β'' σ'' s₁ s'' → Stp G (fsOf envs) (Own C env) β β'' σ'' s s'' := by
    intro s'' β'' σ'' st'
    have st2 : Stp G (fsOf envs) (fun b => Own C env b ∨ b ∈ wr) β β'' σ'' s₁ s'' := Stp.turn (G := G.wN fun b => G.N b ∨ b ∈ wr) (N := G.N) (N0 s'') st'
    have st1 : Stp G (fsOf envs) no β β σ s s₁ := Stp.grow a.inv it.keep it.size it.gens it.os
    exact st1.transX st2 (fun b h => h.elim) fun b h => h.imp id fun q => (it.new b q).1
  by_cases hlt : i < items.length
  · obtain ⟨d, hd', hdrop⟩ : ∃ d, items[i]? = some d ∧ items.drop i = d :: items.drop (i + 1) := ⟨items[i], List.getElem?_eq_getElem hlt, List.drop_eq_getElem_cons hlt⟩
    rw [hdrop, forGo] at e
    split at e
    · cases hu : (unpackT is.length d).bind (setVars ρ' is) with
      | none => rw [hu] at e; exact absurd e.symm hr
      | some ρ₂ =>
        rw [hu] at e
        dsimp only at e
        refine wpAny_sized (W.item i s' _ _ hlt hst' fun v h₁ tk hMd hk₁ hz₁ => ?_)
        refine wpAny_sized (W.go i v _ _ _ hMd fun h₂ hP hst₂ hk₂ hz₂ => ?_)
        obtain ⟨a₂, st₂⟩ := moved { s' with heap := h₂, toks := tk } (fun b o nb e => hk₂ b o nb (hk₁ b o nb e)) (Nat.le_trans hz₁ hz₂) rfl rfl
        refine hasg i d v β' ρ' ρ₂ σ' _ hd' hP a₂ st.pre ?_ hu _ _ fun s₃ a₃ st₃ => ?_
        · intro b o nb eb q
          have e1 := it.keep b o eb
          refine st₂.ext b o e1 ?_ ?_ ?_
          · exact a.inv.firm_notin eb q
          · rintro (h | h)
            · obtain ⟨o', h1, h2, _⟩ := a.own_data h
              rw [eb] at h1; cases h1
              rcases q with ⟨_, vs, m, q⟩ | ⟨fs, q⟩ <;> rcases h2 with ⟨es, k, h2⟩ | ⟨v, h2⟩ <;> (rw [h2] at q; cases q)
            · exact nb (.inr h)
          · exact a.ar.firm_fs eb q
        · have e2 : B ρ₂ σ' = exs (callN G.P n) hd cb ρ₂ σ' := by rw [← hB]
          rw [e2] at e
          have hst₃ : St (i + 1) s₃.heap := W.frame _ _ _ hst₂ fun b hb o eb => st₃.ext b o eb (hfp b hb).1 (hfp b hb).2.1 (hfp b hb).2.2
          refine wpAny_mono (hb a₃ ?_) (fun f s₄ p => ?_) fun x s₄ p => ?_
          · intro q
            have q' : exs (callN G.P n) hd cb ρ₂ σ' = .stuck := q
            rw [q'] at e; exact hr e.symm
          · obtain ⟨σ₄, β₄, st₄, p⟩ := p
            have st₅ := (st₂.transX (Z := fun b => Own C env b ∨ b ∈ wr) st₃ (fun b h => .inl h) fun b h => .inl (.inl h)).transX (Z := fun b => Own C env b ∨ b ∈ wr) st₄ (fun b h => .inl h) fun b h => .inl (.inl h)
            rcases p with ⟨ρ₄, h3, rfl, a₄⟩ | ⟨d₄, v₄, h3, rfl, rv⟩
            · have h3' : exs (callN G.P n) hd cb ρ₂ σ' = .ok (.next ρ₄) σ₄ := h3
              rw [h3'] at e
              have hfp₃ : ∀ b ∈ fp, b ∉ β' := fun b hb => (hfp b hb).1
              exact ⟨items.length + 1 - (i + 1), by omega, i + 1, ρ₄, σ₄, β₄, hlt, rfl, a₄, st₅, W.frame _ _ _ hst₃ fun b hb o eb => st₄.ext b o eb (hfp₃ b hb) (hfp b hb).2.1 (hfp b hb).2.2, e⟩
            · have h3' : exs (callN G.P n) hd cb ρ₂ σ' = .ok (.ret d₄) σ₄ := h3
              rw [h3'] at e
              exact ⟨σ₄, β₄, back st₅, .inr ⟨d₄, v₄, e.symm, rfl, Rel.turn (G := G.wN fun b => G.N b ∨ b ∈ wr) (N := G.N) (N0 s₄) rv⟩⟩
          · obtain ⟨c, o, σ₄, q⟩ := p
            have q' : exs (callN G.P n) hd cb ρ₂ σ' = .exc c o σ₄ := q
            rw [q'] at e; exact absurd e.symm hr
    · exact absurd e.symm hr
  · have hin : i = items.length := by omega
    subst hin
    rw [List.drop_length, forGo] at e
    split at e
    · refine wpAny_sized (W.done s' _ _ hst' fun h₁ tk hk₁ hz₁ => ?_)
      obtain ⟨a₂, st₂⟩ := moved { s' with heap := h₁, toks := tk } hk₁ hz₁ rfl rfl
      refine wpAny_execs_nil ⟨σ', β', back st₂, .inl ⟨ρ', e.symm, rfl, ?_⟩⟩
      have := At.turn (G := G.wN fun b => G.N b ∨ b ∈ wr) (N := G.N) (N0 _) (fun b hb => a₂.nlt b (.inl hb)) a₂
      exact this
    · exact absurd e.symm hr
end
end Mine

/-! part MSnd24 -/
namespace Mine
open PySem PySem.Calls PySem.W PyProof.Rows
set_option maxRecDepth 100000

section
variable {G : Gd} {n : Nat} {hd : Bool} {A : Around} {env : Env} {envs : List Env} {C : CC} {β : List Addr} {ρ : Rho} {σ : Sto} {s : Shared}

theorem bind_assoc' {α γ δ : Type} (r : Res α) (f : α → Sto → Res γ) (k : γ → Sto → Res δ) : (r.bind f).bind k = r.bind fun d σ => (f d σ).bind k := by cases r <;> rfl
theorem call1_any {x : Str} {p pos : Pos} {e : PySem.Expr} {c : CE} {f : Value} {δ : Type} {k : D → Sto → Res δ} {Q : Value → Shared → Prop} (hn : ∀ {Q : Value → Shared → Prop} {E : Value → Shared → Prop}, Q f s → wpAny G.M A (eval (.Name x p) env) Q E s) (hk : Keep G f) (hst : isStar e = false) (h : SE G n C e c) (a : At G n hd A env envs C β ρ σ s)
    (hr : (ev (callN G.P n hd) c ρ σ).bind k ≠ .stuck) (hc : ∀ d σ₁ β₁ v s₁, ev (callN G.P n hd) c ρ σ = .ok d σ₁ → Stp G (fsOf envs) no β β₁ σ₁ s s₁ → Rel G s₁.heap β₁ d v → k d σ₁ ≠ .stuck → wpAny G.M A (call f [v]) Q (PostX G envs β₁ s₁ (k d σ₁)) s₁) :
    wpAny G.M A (eval (.Call (.Name x p) [e] [] pos) env) Q (PostX G envs β s ((ev (callN G.P n hd) c ρ σ).bind k)) s := by
  refine wpAny_Call_Name_kw (hn ?_)
  refine callWith_of (P := fun h => ∀ b o, G.H.get? b = some o → h.get? b = some o) (by rw [starEach_cons hst]; rfl) hk ?_
  rw [starEach_cons hst]
  refine evalArgs_plain ?_
  show wpAny G.M A (eval e env >>= fun v => pure [v] >>= fun here => PySem.holding here (spliced []) >>= fun r => pure (here ++ r)) _ _ s
  refine seqQ (h a) hr fun d σ₁ β₁ v s₁ h1 h2 h3 hne => ?_
  refine wpAny_bind (wpAny_pure (wpAny_bind (wpAny_holding (spliced_nil (wpAny_pure ⟨(a.step h2).inv.keep, ?_⟩)))))
  refine wpAny_mono (hc d σ₁ β₁ v s₁ h1 h2 h3 hne) (fun _ _ q => q) fun _ _ q => q.after h2 (by intro c o σ q; rw [h1]; exact q)

/-- an iterator in hand: what it will give -/
noncomputable def ItAt (G : Gd) (A : Around) (C : CC) (env : Env) (envs : List Env) (β₁ : List Addr) (s₁ : Shared) (src : Src) (v : Value) (s₂ : Shared) : Prop :=
  ∃ (I : Addr) (fp wr : List Addr) (P : Nat → Value → Prop) (St : Nat → Heap → Prop), v = .ref I ∧ Walks G.prog G.w A I fp wr src.items.length P St ∧ St 0 s₂.heap ∧ ItOk C env envs β₁ s₁ s₂ fp wr ∧
    (∀ (i : Nat) (d : D) (v : Value), src.items[i]? = some d → P i v → Rel G s₁.heap β₁ d v) ∧ src.items.length ≤ cap

noncomputable def SI (G : Gd) (n : Nat) (C : CC) (e : PySem.Expr) (c : CI) : Prop := ∀ {hd : Bool} {A : Around} {env : Env} {envs : List Env} {β : List Addr} {ρ : Rho} {σ : Sto} {s : Shared} {δ : Type} {k : Src → Sto → Res δ} {Q : Value → Shared → Prop}, At G n hd A env envs C β ρ σ s → (evi (callN G.P n hd) c ρ σ).bind k ≠ .stuck →
  (∀ src σ₁ β₁ s₁ it s₂, evi (callN G.P n hd) c ρ σ = .ok src σ₁ → Stp G (fsOf envs) no β β₁ σ₁ s s₁ → ItAt G A C env envs β₁ s₁ src it s₂ → Q it s₂) →
  wpAny G.M A (eval e env) (fun x s₁ => wpAny G.M A (pyIter x) Q (PostX G envs β s ((evi (callN G.P n hd) c ρ σ).bind k)) s₁) (PostX G envs β s ((evi (callN G.P n hd) c ρ σ).bind k)) s

theorem ItOk.pushed {C : CC} {o : Obj} (a : At G n hd A env envs C β ρ σ s) : ItOk C env envs β s { s with heap := s.heap.push o } [s.heap.objs.size] [s.heap.objs.size] := by
  have hsz : (s.heap.push o).objs.size = s.heap.objs.size + 1 := Heap.size_push ..
  refine ⟨fun b o' e => Heap.get?_push_of_some _ e, by rw [hsz]; exact Nat.le_succ _, rfl, rfl, fun b hb => ?_, fun b hb => ?_, fun b hb => ?_⟩
  · simp at hb; subst hb; exact ⟨Nat.le_refl _, by rw [hsz]; exact Nat.lt_succ_self _⟩
  · simp at hb; subst hb; rw [hsz]; exact Nat.lt_succ_self _
  · simp at hb; subst hb
    refine ⟨fun q => Nat.lt_irrefl _ (a.inv.lt q), fun q => ?_, fun q => ?_⟩
    · obtain ⟨o', h1, _⟩ := a.own_data q
      exact Nat.lt_irrefl _ (Heap.lt_size h1)
    · obtain ⟨o', es, k, h1, _⟩ := a.ar.fs_data q
      exact Nat.lt_irrefl _ (Heap.lt_size h1)

theorem range_itat (a : At G n hd A env envs C β ρ σ s) {H : Heap} {m : Nat} {tk : Nat} (hk : ∀ b o, s.heap.get? b = some o → H.get? b = some o) (hsz : H.objs.size = s.heap.objs.size + 1) (hm : m ≤ most) :
    ItAt G A C env envs β s ⟨(List.range (m : Int).toNat).map fun (i : Nat) => D.int (i : Int), (none, none), ([], [])⟩ (.ref H.objs.size) { s with heap := H.push { cls := .type "range_iterator", data := .fields #[rawInt 0, rawInt (Builtin.Range.rangeSize 0 (m : Int) 1), rawInt 1] }, toks := tk } := by
  have hl : ((List.range (m : Int).toNat).map fun (i : Nat) => D.int (i : Int)).length = m := by simp
  have hz2 : ∀ o : Obj, (H.push o).objs.size = s.heap.objs.size + 2 := fun o => by rw [Heap.size_push, hsz]
  refine ⟨H.objs.size, [H.objs.size], [H.objs.size], fun i v => ∃ t, v = .int (0 + (i : Int) * 1) t, fun i h => IsRangeIter h H.objs.size (0 + (i : Nat) * 1) ((m : Int) - (i : Nat)) 1, rfl, ?_, ?_, ?_, ?_, ?_⟩
  · rw [show (⟨(List.range (m : Int).toNat).map fun (i : Nat) => D.int (i : Int), (none, none), ([], [])⟩ : Src).items.length = m from hl]
    exact Walks.range a.ar.handled H.objs.size 0 1 m
  · show IsRangeIter _ _ _ _ _
    rw [rangeSize_one]
    have : (if (0 : Int) < (m : Int) then (m : Int) - 0 else 0) = (m : Int) - ((0 : Nat) : Int) := by split <;> omega
    rw [this]
    exact Heap.get?_push_size _ rfl
  · refine ⟨fun b o e => Heap.get?_push_of_some _ (hk b o e), by rw [hz2]; omega, rfl, rfl, fun b hb => ?_, fun b hb => ?_, fun b hb => ?_⟩
    · have hb := List.mem_singleton.mp hb
      have := hz2 { cls := .type "range_iterator", data := .fields #[rawInt 0, rawInt (Builtin.Range.rangeSize 0 (m : Int) 1), rawInt 1] }
      dsimp only
      rw [this, hb, hsz]; exact ⟨Nat.le_succ _, Nat.lt_succ_self _⟩
    · have hb := List.mem_singleton.mp hb
      have := hz2 { cls := .type "range_iterator", data := .fields #[rawInt 0, rawInt (Builtin.Range.rangeSize 0 (m : Int) 1), rawInt 1] }
      dsimp only
      rw [this, hb, hsz]; exact Nat.lt_succ_self _
    · have hb := List.mem_singleton.mp hb
      rw [hb, hsz]
      clear hb hl
      refine ⟨fun q => ?_, fun q => ?_, fun q => ?_⟩
      · exact absurd (a.inv.lt q) (Nat.not_lt.mpr (Nat.le_succ _))
      · obtain ⟨o', h1, _⟩ := a.own_data q
        exact absurd (Heap.lt_size h1) (Nat.not_lt.mpr (Nat.le_succ _))
      · obtain ⟨o', es, k, h1, _⟩ := a.ar.fs_data q
        exact absurd (Heap.lt_size h1) (Nat.not_lt.mpr (Nat.le_succ _))
  · intro i d v hi hp
    obtain ⟨t', rfl⟩ := hp
    dsimp only at hi
    rw [List.getElem?_map] at hi
    obtain ⟨j, hj, rfl⟩ := Option.map_eq_some_iff.mp hi
    obtain ⟨hl, e⟩ := List.getElem?_eq_some_iff.mp hj
    rw [List.getElem_range] at e
    subst e
    have : (0 : Int) + (i : Int) * 1 = (i : Int) := by omega
    rw [this]; exact .int _ _
  · rw [show (⟨(List.range (m : Int).toNat).map fun (i : Nat) => D.int (i : Int), (none, none), ([], [])⟩ : Src).items.length = m from hl]
    exact Nat.le_trans hm (by decide)

theorem range_si (ok : GOk G) {e : PySem.Expr} {p pos : Pos} {c : CE} (hst : isStar e = false) (hg : C.isGlob "range" = true) (h : SE G n C e c) : SI G n C (.Call (.Name "range" p) [e] [] pos) (.range c) := by
  intro hd A env envs β ρ σ s δ k Q a hr hQ
  simp only [evi] at hr hQ ⊢
  have hk := isGlob_kind hg
  have hr' := hr
  rw [bind_assoc'] at hr'
  refine wpAny_mono (call1_any (Q := fun x s₁ => ∀ E, wpAny G.M A (pyIter x) Q E s₁) (fun q => bi_name ok a (by decide) boot_range hk (by decide) q) (Keep.type _) hst h a hr' fun d σ₁ β₁ v s₁ h1 h2 h3 hne => ?_) (fun x s₁ q => q _) fun x s₁ q => by rw [bind_assoc']; exact q
  have a₁ := a.step h2
  cases h3 with
  | int i t =>
    dsimp only at hne
    by_cases hc : 0 ≤ i ∧ i ≤ most
    · refine call_range_1 fun E => ?_
      obtain ⟨m, rfl⟩ := Int.eq_ofNat_of_zero_le hc.1
      have hm : (most : Int) < 2 ^ 62 := by decide
      refine wpAny_pyIter_range (IsRange.new ..) (small_one (by decide) (by decide) (by omega) (by omega)) ?_
      refine hQ _ σ₁ β₁ s₁ _ _ (by rw [h1]; simp only [Res.bind_ok]; rw [if_pos hc]) h2 ?_
      exact range_itat a₁ (H := s₁.heap.push { cls := .type "range", data := .fields #[.int 0 s₁.toks, .int (m : Int) t, .int 1 (s₁.toks + 1)] }) (fun b o e => Heap.get?_push_of_some _ e) (Heap.size_push ..) (by omega)
    · rw [if_neg hc] at hne; exact absurd rfl hne
  | _ => exact absurd rfl hne

theorem ev_si {e : PySem.Expr} {c : CE} (h : SE G n C e c) : SI G n C e (.ev c) := by
  intro hd A env envs β ρ σ s δ k Q a hr hQ
  simp only [evi] at hr hQ ⊢
  refine wpAny_mono (h a (bind_ne (bind_ne hr))) (fun v s₁ q => ?_) fun x s₁ q => ?_
  · obtain ⟨d, σ₁, β₁, h1, h2, h3⟩ := q
    have a₁ := a.step h2
    rw [h1] at hr hQ
    simp only [Res.bind_ok] at hr hQ
    cases h3 with
    | @str x t ok =>
      refine wpAny_pyIter_str fun o St W hst => ?_
      refine hQ _ σ₁ β₁ s₁ _ _ rfl h2 ⟨s₁.heap.objs.size, [s₁.heap.objs.size], [s₁.heap.objs.size], SignAt (tx x), St, rfl, ?_, hst, ItOk.pushed a₁, ?_, ?_⟩
      · have := W A a.ar.handled
        have hl : (tx x).cps.size = (x.map fun c => D.str [c]).length := by simp [tx]
        rw [hl] at this; exact this
      · rintro i d v hi ⟨cc, u, hc, rfl⟩
        dsimp only at hi
        rw [List.getElem?_map] at hi
        obtain ⟨c', hc', rfl⟩ := Option.map_eq_some_iff.mp hi
        have : cc = c' := by
          have : x[i]? = some cc := by simpa [tx] using hc
          rw [this] at hc'; injection hc'
        subst this
        refine .str u ?_
        simp only [sOk, Bool.and_eq_true, decide_eq_true_eq] at ok ⊢
        refine ⟨?_, (by decide : 1 ≤ most)⟩
        have := List.all_eq_true.mp ok.1 cc (List.mem_of_getElem? hc')
        simp only [List.all_cons, List.all_nil, Bool.and_true]; exact this
      · simp
        have := sOk_len ok
        have : most ≤ cap := by decide
        omega
    | @tup b o m ds vs ho hc hdd rl sz nN =>
      have ht : s₁.heap.IsTuple b vs.toArray := ⟨o, ho, hc, m, hdd⟩
      refine wpAny_pyIter_tuple ht ?_
      have hb : b < s₁.heap.objs.size := Heap.lt_size ho
      refine hQ _ σ₁ β₁ s₁ _ _ rfl h2 ⟨s₁.heap.objs.size, [s₁.heap.objs.size, b], [s₁.heap.objs.size], fun i v => vs.toArray[i]? = some v, fun i h => h.IsTupleIter s₁.heap.objs.size b i ∧ h.IsTuple b vs.toArray, rfl, ?_, ?_, ?_, ?_, sz⟩
      · have W := Walks.tuple (prog := G.prog) (w := G.w) a.ar.handled s₁.heap.objs.size b (Nat.ne_of_lt hb) vs.toArray
        have hl : vs.toArray.size = ds.length := by rw [List.size_toArray, rl.length]
        rw [hl] at W; exact W
      · exact ⟨⟨_, Heap.get?_push_size _ rfl, rfl, rfl⟩, ⟨o, Heap.get?_push_of_some _ ho, hc, m, hdd⟩⟩
      · have b1 := ItOk.pushed (C := C) (o := ({ cls := .type "tuple_iterator", data := .fields #[.ref b, .int 0 0] } : Obj)) a₁
        refine ⟨b1.keep, b1.size, rfl, rfl, b1.new, fun c hcc => ?_, fun c hcc => ?_⟩
        · simp only [List.mem_cons, List.not_mem_nil, or_false] at hcc
          rcases hcc with rfl | rfl
          · exact b1.lt _ (.head _)
          · exact Nat.lt_of_lt_of_le hb b1.size
        · simp only [List.mem_cons, List.not_mem_nil, or_false] at hcc
          rcases hcc with rfl | rfl
          · exact b1.away _ (.head _)
          · have q : firmO o := .inl ⟨hc, _, _, hdd⟩
            refine ⟨a₁.inv.firm_notin ho q, fun h => ?_, a₁.ar.firm_fs ho q⟩
            obtain ⟨o', h1, h2, _⟩ := a₁.own_data h
            rw [ho] at h1; cases h1
            rcases h2 with ⟨es, k, h2⟩ | ⟨v, h2⟩ <;> (rw [h2] at hdd; cases hdd)
      · intro i d v hi hp
        obtain ⟨v', hv', r⟩ := rl.get hi
        have : v = v' := by
          have : vs[i]? = some v := by simpa using hp
          rw [hv'] at this; injection this with this; exact this.symm
        subst this; exact r
    | _ => exact absurd rfl hr
  · obtain ⟨c, σ₁, ee, h1, h2, h3⟩ := q
    exact ⟨c, σ₁, ee, by rw [h1]; rfl, h2, h3⟩
end
end Mine

/-! part MSnd25 -/
namespace Mine
open PySem PySem.Calls PySem.W PyProof.Rows
set_option maxRecDepth 100000

section
variable {G : Gd} {n : Nat} {hd : Bool} {A : Around} {env : Env} {envs : List Env} {C : CC} {β : List Addr} {ρ : Rho} {σ : Sto} {s : Shared}

theorem for_ss {x : Str} {i : Nat} {p pos : Pos} {iter : PySem.Expr} {ci : CI} {b : List Stmt} {cb : List CS} (hn : VarsND C.vars) (hx : C.own x = some i) (hit : SI G n C iter ci) (hset : ∀ env x, foldedSetIterable iter env x = pure x) (hb : ∀ N, SSs (G.wN N) n C b cb) :
    SS G n C (.For (.Name x p) iter b [] pos) (.for [i] ci cb) := by
  intro hd A env envs β ρ σ s a hr
  simp only [ex] at hr ⊢
  refine wpAny_For ?_ (hset env)
  refine wpAny_mono (hit (Q := fun it s₂ => ∀ E : Value → Shared → Prop, codeAny G.M A (.forLoop (.Name x p) it b [] env) (fun r s' => match r with | .ok f => PostS G n hd A env envs C β s ((evi (callN G.P n hd) ci ρ σ).bind fun s σ => forGo (fun ρ σ => exs (callN G.P n) hd cb ρ σ) [i] s.src s.all s.items ρ σ) f s' | .error e => E e s') s₂) a hr ?_) (fun v s₁ q => wpAny_mono q (fun it s₂ q => q _) fun _ _ q => ?_) fun _ _ q => ?_
  · intro src σ₁ β₁ s₁ it s₂ h1 h2 h3 E
    rw [h1] at hr ⊢
    simp only [Res.bind_ok] at hr ⊢
    obtain ⟨I, fp, wr, P, St, rfl, W, hst, io, hP, hlen⟩ := h3
    have a₁ := a.step h2
    refine codeAny_mono (for_turns (E := E) (is := [i]) (src := src.src) (all := src.all) (hb _) (KTurns.ofWalks W (target := .Name x p) fun i v s Q E _ q => wpAny_pure q) a₁ io hst ?_ hr) fun r s' q => ?_
    · intro j d v β' ρ' ρ'' σ' s' hj hp a' hpre hf hu Q E hQ
      have hu' : ρ'' = ρ'.set i (some d) := by
        simp only [unpackT, List.length_cons, List.length_nil, Nat.zero_add, if_true, Option.bind_some, setVars] at hu
        split at hu
        · injection hu with hu; exact hu.symm
        · cases hu
      subst hu'
      have r1 := hP j d v hj hp
      have r2 : Rel (G.wN fun b => G.N b ∨ b ∈ wr) s₁.heap β₁ d v := r1.turn fun a o e nn q => by
        rcases q with q | q
        · exact nn q
        · exact Nat.lt_irrefl _ (Nat.lt_of_lt_of_le (Heap.lt_size e) (io.new a q).1)
      have r3 := Rel.mono (G := G.wN fun b => G.N b ∨ b ∈ wr) hf hpre r2
      exact wpAny_assign_Name (store_sound a' hx hn r3 fun s'' a'' st'' => hQ s'' a'' st'')
    · cases r with
      | ok f => exact q.after h2 fun b h => h.elim
      | error e => exact q
  · obtain ⟨c, σ', e, h1, _⟩ := q
    exact ⟨c, false, σ', h1⟩
  · obtain ⟨c, σ', e, h1, _⟩ := q
    exact ⟨c, false, σ', h1⟩
end
end Mine

/-! part MZip -/
namespace Mine
open PySem
open Sem (wp)
set_option maxRecDepth 100000

section
variable {prog : Program} {w : World} {A : Around} {E : Value → Shared → Prop} {s : Shared}

theorem nextOf_tuple_item {it t : Addr} {i : Nat} {items} {x : Value} {Q : Value → Shared → Prop} (hit : s.heap.IsTupleIter it t i)
    (ht : s.heap.IsTuple t items) (hx : items[i]? = some x)
    (hQ : ∀ h', h'.IsTupleIter it t (i + 1) → Heap.SameBut it s.heap h' → Q x { s with heap := h' }) :
    wpAny (model prog w) A (Builtin.SmallTypes.nextOf (.ref it)) Q E s := by
  obtain ⟨o, ho, hc, hd⟩ := id hit
  obtain ⟨ol, hol, _, nl, hdl⟩ := ht
  unfold Builtin.SmallTypes.nextOf
  refine wpAny_bind (wpAny_callSpecial?_slot (name := Str.ofString "__next__") hit.typeIs F.slot_tuple_iterator_next
    (wpAny_call_entry F.slot_tuple_iterator_next hit.typeIs F.entry_tuple_iterator_next ?_ (F.args_tuple_iterator_next_1 _)))
  show wpAny _ _ (field (.ref it) 0 >>= _) _ _ s
  refine wpAny_bind (wpAny_field ho hd (x := .ref t) rfl ?_)
  show wpAny _ _ (if (Value.ref t == Value.none) = true then _ else _) _ _ s
  rw [if_neg (show ¬ ((Value.ref t == Value.none) = true) from Bool.false_ne_true)]
  show wpAny _ _ (field (.ref it) 1 >>= _) _ _ s
  refine wpAny_bind (wpAny_field ho hd (x := .int i 0) rfl ?_)
  show wpAny _ _ (seqItems? (.ref t) >>= _) _ _ s
  refine wpAny_bind (wpAny_seqItems hol hdl ?_)
  simp only [Int.toNat_natCast, hx]
  refine wpAny_bind (wpAny_setField ho hd (by simp) (wpAny_pure ⟨x, rfl, wpAny_pure (hQ _ ?_ (Heap.SameBut.update ..))⟩))
  exact ⟨_, Heap.get?_update_self _ ho (Obj.isFreed_of_fields (Obj.data_mapFields hd _)), (Obj.cls_mapFields ..).trans hc, by
    rw [Obj.data_mapFields hd]; simp [rawInt]⟩

theorem nextOf_tuple_end {it t : Addr} {i : Nat} {items} {Q : Value → Shared → Prop} (hh : A.handled = none)
    (hit : s.heap.IsTupleIter it t i) (ht : s.heap.IsTuple t items) (hx : items[i]? = none)
    (hE : ∀ h' e, Heap.ExtBut it s.heap h' → (∃ o, h'.get? e = some o ∧ o.cls = .type "StopIteration") → E (.ref e) { s with heap := h' }) :
    wpAny (model prog w) A (Builtin.SmallTypes.nextOf (.ref it)) Q E s := by
  obtain ⟨o, ho, hc, hd⟩ := id hit
  obtain ⟨ol, hol, _, nl, hdl⟩ := ht
  unfold Builtin.SmallTypes.nextOf
  refine wpAny_bind (wpAny_callSpecial?_slot (name := Str.ofString "__next__") hit.typeIs F.slot_tuple_iterator_next
    (wpAny_call_entry F.slot_tuple_iterator_next hit.typeIs F.entry_tuple_iterator_next ?_ (F.args_tuple_iterator_next_1 _)))
  show wpAny _ _ (field (.ref it) 0 >>= _) _ _ s
  refine wpAny_bind (wpAny_field ho hd (x := .ref t) rfl ?_)
  show wpAny _ _ (if (Value.ref t == Value.none) = true then _ else _) _ _ s
  rw [if_neg (show ¬ ((Value.ref t == Value.none) = true) from Bool.false_ne_true)]
  show wpAny _ _ (field (.ref it) 1 >>= _) _ _ s
  refine wpAny_bind (wpAny_field ho hd (x := .int i 0) rfl ?_)
  show wpAny _ _ (seqItems? (.ref t) >>= _) _ _ s
  refine wpAny_bind (wpAny_seqItems hol hdl ?_)
  simp only [Int.toNat_natCast, hx]
  refine wpAny_bind (wpAny_rule (wpAny_bind (wpAny_setField ho hd (by simp) ?_)))
  show wpAny _ _ (newExc (.type "StopIteration") [] >>= _) _ _ _
  refine wpAny_bind ?_
  simp only [newExc, newTuple]
  refine wpAny_bind (wpAny_newObj_type ?_ (by size_fits))
  refine wpAny_bind (m := firstArgMember _ _) (wpAny_of_eq (a := Value.none) (by first | rfl | (simp only [firstArgMember]; rfl)) ?_)
  refine wpAny_newObj_type ?_ (by size_fits)
  simp only [raiseNew]
  refine wpAny_bind (wpAny_handled ?_)
  first | rw [show A.in1.handled = none from hh] | rw [hh]
  refine wpAny_bind (wpAny_pure (wpAny_throw ?_))
  exact hE _ _ (((Heap.SameBut.update ..).extBut.push _).push _) ⟨_, Heap.get?_push_size _ rfl, rfl⟩
end

theorem drawsTuple {prog : Program} {w : World} {A : Around} (hh : A.handled = none) (it l : Addr) (hne : l ≠ it) (items : Array Value) :
    Draws prog w A it [it, l] items.size (fun i v => items[i]? = some v) (fun i h => h.IsTupleIter it l i ∧ h.IsTuple l items) where
  live := fun _ _ st => let ⟨o, ho, _⟩ := st.1; ⟨o, ho⟩
  frame := fun _ _ _ st hk => ⟨let ⟨o, ho, r⟩ := st.1; ⟨o, hk it (by simp) o ho, r⟩, let ⟨o, ho, r⟩ := st.2; ⟨o, hk l (by simp) o ho, r⟩⟩
  item := fun i s Q E hi st hQ => by
    refine nextOf_tuple_item st.1 st.2 (x := items[i]) (by simp [hi]) fun h' hit' hs' => ?_
    exact hQ _ h' s.toks (by simp [hi]) ⟨hit', st.2.extBut hs'.extBut hne⟩ hs'
  done := fun s Q E st hE => nextOf_tuple_end hh st.1 st.2 (by simp) hE

structure ZApart (z TI TO i1 i2 : Addr) (fp1 fp2 : List Addr) : Prop where
  TIz : TI ≠ z
  TOz : TO ≠ z
  i1z : i1 ≠ z
  i2z : i2 ≠ z
  TITO : TI ≠ TO
  TIi1 : TI ≠ i1
  TIi2 : TI ≠ i2
  TOi1 : TO ≠ i1
  TOi2 : TO ≠ i2
  i12 : i1 ≠ i2
  z1 : z ∉ fp1
  z2 : z ∉ fp2
  o1 : TO ∉ fp1
  o2 : TO ∉ fp2
  i21 : i2 ∉ fp1
  i12f : i1 ∉ fp2
  m1 : i1 ∈ fp1
  m2 : i2 ∈ fp2

section
variable {prog : Program} {w : World} {A : Around} {E : Value → Shared → Prop} {s : Shared} {z TI TO i1 i2 : Addr} {fp1 fp2 : List Addr} {n1 n2 : Nat} {P1 P2 : Nat → Value → Prop} {S1 S2 : Nat → Heap → Prop}

theorem draws_but {it b : Addr} {fp : List Addr} {n i : Nat} {P : Nat → Value → Prop} {St : Nat → Heap → Prop} (D : Draws prog w A it fp n P St) {h h' : Heap} (st : St i h) (hs : Heap.ExtBut b h h') (hb : b ∉ fp) : St i h' :=
  D.frame _ _ _ st fun c hc o e => hs c o (fun q => hb (q ▸ hc)) e

theorem zip_itemD {i : Nat} {a b : Value} {Q : Value → Shared → Prop} (D : ZApart z TI TO i1 i2 fp1 fp2) (D1 : Draws prog w A i1 fp1 n1 P1 S1) (D2 : Draws prog w A i2 fp2 n2 P2 S2) (hi1 : i < n1) (hi2 : i < n2)
    (hz : IsZip s.heap z TI TO .none) (hTI : IsPair s.heap TI (.ref i1) (.ref i2)) (hTO : IsPair s.heap TO a b) (h1 : S1 i s.heap) (h2 : S2 i s.heap)
    (hQ : ∀ x y h' tk, P1 i x → P2 i y → IsZip h' z TI TO (rawInt s.heap.objs.size) → IsPair h' TO x y → S1 (i + 1) h' → S2 (i + 1) h' → IsPair h' s.heap.objs.size x y → h'.objs.size = s.heap.objs.size + 1 →
      (∀ c o, c ≠ z → c ≠ TO → c ≠ i1 → c ≠ i2 → s.heap.get? c = some o → h'.get? c = some o) → Q (.ref s.heap.objs.size) { s with heap := h', toks := tk }) :
    wpAny (model prog w) A (Builtin.«zip.__next__» ⟨[.ref z], []⟩) (fun fin s' => ∃ v, fin = .done (.ret v) ∧ Q v s') E s := by
  show wpAny _ _ (field (.ref z) 2 >>= _) _ _ _
  refine wpAny_bind (wpAny_field hz rfl (x := .bool false) rfl ?_)
  show wpAny _ _ (field (.ref z) 3 >>= _) _ _ _
  refine wpAny_bind (wpAny_field hz rfl (x := .ref TI) rfl ?_)
  refine wpAny_bind (wpAny_seqItems hTI rfl ?_)
  show wpAny _ _ (Builtin.SmallTypes.ownedTupleIsFree (.ref z) >>= _) _ _ _
  refine wpAny_bind ?_
  unfold Builtin.SmallTypes.ownedTupleIsFree
  refine wpAny_bind (wpAny_field hz rfl (x := .none) rfl (wpAny_pure ?_))
  simp only [if_true]
  refine wpAny_bind (wpAny_rule ?_)
  refine wpAny_bind (wpAny_field hz rfl (x := .ref TO) rfl ?_)
  refine wpAny_bind (wpAny_setField_rec hz (by simp) fun h₁ hz₁ hs₁ => ?_)
  replace hz₁ : IsZip h₁ z TI TO .ellipsis := hz₁
  refine wpAny_bind ?_
  simp only [List.zipIdx_cons, List.zipIdx_nil, List.forIn_cons, List.forIn_nil]

  refine wpAny_bind (wpAny_bind (wpAny_onRaise ?_))
  show wpAny _ _ (Builtin.SmallTypes.nextOf (.ref i1) >>= _) _ _ _
  refine wpAny_bind (D1.item i _ _ _ hi1 (draws_but D1 h1 hs₁.extBut D.z1) fun x h₂ tk₂ px h1₂ hs₂ => wpAny_pure ?_)
  have hTO₂ : IsPair h₂ TO a b := hs₂.extBut _ _ D.TOi1 (hs₁.extBut _ _ D.TOz hTO)
  refine wpAny_bind (wpAny_seqItems hTO₂ rfl ?_)
  refine wpAny_bind (wpAny_updateSeq_pair hTO₂ fun h₃ hTO₃ hs₃ => ?_)
  replace hTO₃ : IsPair h₃ TO x b := hTO₃
  refine wpAny_bind (wpAny_letGo (wpAny_pure ?_))

  refine wpAny_bind (wpAny_bind (wpAny_onRaise ?_))
  show wpAny _ _ (Builtin.SmallTypes.nextOf (.ref i2) >>= _) _ _ _
  refine wpAny_bind (D2.item i _ _ _ hi2 (draws_but D2 (draws_but D2 (draws_but D2 h2 hs₁.extBut D.z2) hs₂.extBut D.i12f) hs₃.extBut D.o2) fun y h₄ tk₄ py h2₄ hs₄ => wpAny_pure ?_)
  have hTO₄ : IsPair h₄ TO x b := hs₄.extBut _ _ D.TOi2 hTO₃
  refine wpAny_bind (wpAny_seqItems hTO₄ rfl ?_)
  refine wpAny_bind (wpAny_updateSeq_pair hTO₄ fun h₅ hTO₅ hs₅ => ?_)
  replace hTO₅ : IsPair h₅ TO x y := hTO₅
  refine wpAny_bind (wpAny_letGo (wpAny_pure (wpAny_pure ?_)))

  refine wpAny_bind (wpAny_seqItems hTO₅ rfl ?_)
  refine wpAny_bind (wpAny_newTuple ?_)
  have hsz : h₅.objs.size = s.heap.objs.size := by rw [hs₅.1, hs₄.1, hs₃.1, hs₂.1, hs₁.1]
  have hz₅ : IsZip h₅ z TI TO .ellipsis := hs₅.extBut _ _ D.TOz.symm (hs₄.extBut _ _ D.i2z.symm (hs₃.extBut _ _ D.TOz.symm (hs₂.extBut _ _ D.i1z.symm hz₁)))
  have hk₅ : ∀ c o, c ≠ z → c ≠ TO → c ≠ i1 → c ≠ i2 → s.heap.get? c = some o → h₅.get? c = some o := fun c o c1 c2 c3 c4 e =>
    hs₅.extBut _ _ c2 (hs₄.extBut _ _ c4 (hs₃.extBut _ _ c2 (hs₂.extBut _ _ c3 (hs₁.extBut _ _ c1 e))))
  have h1₅ : S1 (i + 1) h₅ := draws_but D1 (draws_but D1 (draws_but D1 h1₂ hs₃.extBut D.o1) hs₄.extBut D.i21) hs₅.extBut D.o1
  have h2₅ : S2 (i + 1) h₅ := draws_but D2 h2₄ hs₅.extBut D.o2
  have hzlt : z < h₅.objs.size := Heap.lt_size hz₅
  show wpAny _ _ (Builtin.SmallTypes.ownedTupleHandOut (.ref z) (.ref h₅.objs.size) >>= _) _ _ _
  refine wpAny_bind ?_
  unfold Builtin.SmallTypes.ownedTupleHandOut
  have hz₆ : IsZip (h₅.push { cls := .type "tuple", data := .seq #[x, y] }) z TI TO .ellipsis := Heap.get?_push_of_some _ hz₅
  refine wpAny_bind (wpAny_setField_rec hz₆ (by simp) fun h₇ hz₇ hs₇ => ?_)
  replace hz₇ : IsZip h₇ z TI TO (rawInt h₅.objs.size) := hz₇
  refine wpAny_setField_rec hz₇ (by simp) fun h₈ hz₈ hs₈ => ?_
  replace hz₈ : IsZip h₈ z TI TO (rawInt h₅.objs.size) := hz₈
  have up : ∀ c o, c ≠ z → h₅.get? c = some o → h₈.get? c = some o := fun c o c1 e => hs₈.extBut _ _ c1 (hs₇.extBut _ _ c1 (Heap.get?_push_of_some _ e))
  have hT₈ : IsPair h₈ h₅.objs.size x y := hs₈.extBut _ _ (Nat.ne_of_gt hzlt) (hs₇.extBut _ _ (Nat.ne_of_gt hzlt) (Heap.get?_push_size _ rfl))
  have hz8 : h₈.objs.size = h₅.objs.size + 1 := by rw [hs₈.1, hs₇.1, Heap.size_push]
  rw [hsz] at hz₈ hT₈ hz8
  refine wpAny_pure ⟨_, rfl, ?_⟩
  show Q (.ref h₅.objs.size) _
  rw [hsz]
  exact hQ x y h₈ tk₄ px py hz₈ (up _ _ D.TOz hTO₅) (draws_but D1 h1₅ (fun c o q e => up c o q e) D.z1) (draws_but D2 h2₅ (fun c o q e => up c o q e) D.z2) hT₈ hz8 fun c o c1 c2 c3 c4 e => up c o c1 (hk₅ c o c1 c2 c3 c4 e)

theorem zip_endD {i : Nat} {a b : Value} {Q : Fin → Shared → Prop} (D : ZApart z TI TO i1 i2 fp1 fp2) (D1 : Draws prog w A i1 fp1 n1 P1 S1) (D2 : Draws prog w A i2 fp2 n2 P2 S2) (hi : i = min n1 n2)
    (hz : IsZip s.heap z TI TO .none) (hTI : IsPair s.heap TI (.ref i1) (.ref i2)) (hTO : IsPair s.heap TO a b) (h1 : S1 i s.heap) (h2 : S2 i s.heap)
    (hE : ∀ h' e tk, (∀ c o, c ≠ z → c ≠ TO → c ≠ i1 → c ≠ i2 → s.heap.get? c = some o → h'.get? c = some o) → (∃ o, h'.get? e = some o ∧ o.cls = .type "StopIteration") → E (.ref e) { s with heap := h', toks := tk }) :
    wpAny (model prog w) A (Builtin.«zip.__next__» ⟨[.ref z], []⟩) Q E s := by
  show wpAny _ _ (field (.ref z) 2 >>= _) _ _ _
  refine wpAny_bind (wpAny_field hz rfl (x := .bool false) rfl ?_)
  show wpAny _ _ (field (.ref z) 3 >>= _) _ _ _
  refine wpAny_bind (wpAny_field hz rfl (x := .ref TI) rfl ?_)
  refine wpAny_bind (wpAny_seqItems hTI rfl ?_)
  show wpAny _ _ (Builtin.SmallTypes.ownedTupleIsFree (.ref z) >>= _) _ _ _
  refine wpAny_bind ?_
  unfold Builtin.SmallTypes.ownedTupleIsFree
  refine wpAny_bind (wpAny_field hz rfl (x := .none) rfl (wpAny_pure ?_))
  simp only [if_true]
  refine wpAny_bind (wpAny_rule ?_)
  refine wpAny_bind (wpAny_field hz rfl (x := .ref TO) rfl ?_)
  refine wpAny_bind (wpAny_setField_rec hz (by simp) fun h₁ hz₁ hs₁ => ?_)
  replace hz₁ : IsZip h₁ z TI TO .ellipsis := hz₁
  refine wpAny_bind ?_
  simp only [List.zipIdx_cons, List.zipIdx_nil, List.forIn_cons, List.forIn_nil]
  refine wpAny_bind (wpAny_bind (wpAny_onRaise ?_))
  show wpAny _ _ (Builtin.SmallTypes.nextOf (.ref i1) >>= _) _ _ _
  by_cases hle : n1 ≤ n2
  · have hi' : i = n1 := by omega
    subst hi'
    refine wpAny_bind (D1.done _ _ _ (draws_but D1 h1 hs₁.extBut D.z1) fun h₂ e hs₂ he => ?_)
    obtain ⟨oe, hoe, hce⟩ := he
    have hz₂ : IsZip h₂ z TI TO .ellipsis := hs₂ _ _ D.i1z.symm hz₁
    have hez : e ≠ z := fun x => by subst x; rw [hz₂] at hoe; cases hoe; simp at hce
    refine wpAny_setField_rec hz₂ (by simp) fun h₃ _ hs₃ => hE h₃ e _ (fun c o c1 _ c3 _ x => hs₃.extBut _ _ c1 (hs₂ _ _ c3 (hs₁.extBut _ _ c1 x))) ⟨oe, hs₃.extBut _ _ hez hoe, hce⟩
  · have hi' : i = n2 := by omega
    subst hi'
    refine wpAny_bind (D1.item i _ _ _ (by omega) (draws_but D1 h1 hs₁.extBut D.z1) fun x h₂ tk₂ px h1₂ hs₂ => wpAny_pure ?_)
    have hTO₂ : IsPair h₂ TO a b := hs₂.extBut _ _ D.TOi1 (hs₁.extBut _ _ D.TOz hTO)
    refine wpAny_bind (wpAny_seqItems hTO₂ rfl ?_)
    refine wpAny_bind (wpAny_updateSeq_pair hTO₂ fun h₃ hTO₃ hs₃ => ?_)
    refine wpAny_bind (wpAny_letGo (wpAny_pure ?_))
    refine wpAny_bind (wpAny_bind (wpAny_onRaise ?_))
    show wpAny _ _ (Builtin.SmallTypes.nextOf (.ref i2) >>= _) _ _ _
    refine wpAny_bind (D2.done _ _ _ (draws_but D2 (draws_but D2 (draws_but D2 h2 hs₁.extBut D.z2) hs₂.extBut D.i12f) hs₃.extBut D.o2) fun h₄ e hs₄ he => ?_)
    obtain ⟨oe, hoe, hce⟩ := he
    have hz₄ : IsZip h₄ z TI TO .ellipsis := hs₄ _ _ D.i2z.symm (hs₃.extBut _ _ D.TOz.symm (hs₂.extBut _ _ D.i1z.symm hz₁))
    have hez : e ≠ z := fun x => by subst x; rw [hz₄] at hoe; cases hoe; simp at hce
    refine wpAny_setField_rec hz₄ (by simp) fun h₅ _ hs₅ => hE h₅ e _ (fun c o c1 c2 c3 c4 x => hs₅.extBut _ _ c1 (hs₄ _ _ c4 (hs₃.extBut _ _ c2 (hs₂.extBut _ _ c3 (hs₁.extBut _ _ c1 x))))) ⟨oe, hs₅.extBut _ _ hez hoe, hce⟩

/-- zip of any two that are drawn from -/
theorem walksZip (D : ZApart z TI TO i1 i2 fp1 fp2) (D1 : Draws prog w A.in1 i1 fp1 n1 P1 S1) (D2 : Draws prog w A.in1 i2 fp2 n2 P2 S2) :
    WalksT prog w A z (z :: TI :: TO :: (fp1 ++ fp2)) [z, TO, i1, i2] (min n1 n2)
      (fun i vals => ∃ x y, P1 i x ∧ P2 i y ∧ vals = #[x, y])
      (fun i h => IsZip h z TI TO .none ∧ IsPair h TI (.ref i1) (.ref i2) ∧ (∃ a b, IsPair h TO a b) ∧ S1 i h ∧ S2 i h)
      (fun i T h => IsZip h z TI TO (rawInt T) ∧ IsPair h TI (.ref i1) (.ref i2) ∧ (∃ a b, IsPair h TO a b) ∧ S1 (i + 1) h ∧ S2 (i + 1) h ∧ T ≠ z ∧ T ≠ TO ∧ T ≠ i1 ∧ T ≠ i2) where
  sub := fun c hc => by
    have m1 := D.m1; have m2 := D.m2
    simp only [List.mem_cons, List.not_mem_nil, or_false, List.mem_append] at hc ⊢
    rcases hc with rfl | rfl | rfl | rfl <;> simp_all
  frame := fun i h h' hst hk => by
    obtain ⟨hz, hTI, ⟨a, b, hTO⟩, h1, h2⟩ := hst
    exact ⟨hk z (by simp) _ hz, hk TI (by simp) _ hTI, ⟨a, b, hk TO (by simp) _ hTO⟩, D1.frame _ _ _ h1 fun b hb o e => hk b (by simp [hb]) o e, D2.frame _ _ _ h2 fun b hb o e => hk b (by simp [hb]) o e⟩
  item := fun i s Q E hi hst hQ => by
    obtain ⟨hz, hTI, ⟨a, b, hTO⟩, h1, h2⟩ := hst
    have hT : s.TypeIs (.ref z) "zip" := ⟨_, hz, rfl⟩
    have lt : ∀ {c o}, s.heap.get? c = some o → s.heap.objs.size ≠ c := fun e => Nat.ne_of_gt (Heap.lt_size e)
    obtain ⟨o1, l1⟩ := D1.live _ _ h1
    obtain ⟨o2, l2⟩ := D2.live _ _ h2
    unfold pyNext
    refine wpAny_bind (wpAny_attempt (wpAny_callSpecial?_slot (name := Str.ofString "__next__") hT F.slot_zip_next
      (wpAny_call_entry F.slot_zip_next hT F.entry_zip_next
        (zip_itemD D D1 D2 (by omega) (by omega) hz hTI hTO h1 h2 fun x y h' tk px py a1 a2 a3 a4 a5 a6 hk => wpAny_pure ?_) (F.args_zip_next_1 _))))
    exact hQ s.heap.objs.size #[x, y] h' tk ⟨_, _, px, py, rfl⟩ (Nat.le_refl _) ⟨_, a5, rfl, _, rfl⟩
      ⟨a1, hk _ _ D.TIz D.TITO D.TIi1 D.TIi2 hTI, ⟨_, _, a2⟩, a3, a4, lt hz, lt hTO, lt l1, lt l2⟩
      fun c o hc e => hk c o (fun x => hc (by simp [x])) (fun x => hc (by simp [x])) (fun x => hc (by simp [x])) (fun x => hc (by simp [x])) e
  go := fun elts k pos i T s Q E hm hQ => by
    obtain ⟨hz, hTI, ⟨a, b, hTO⟩, h1, h2, _⟩ := hm
    refine wpAny_letOwnedTupleGo_zip hz fun h' hz' hs' => hQ h' ⟨hz', hs'.extBut _ _ D.TIz hTI, ⟨a, b, hs'.extBut _ _ D.TOz hTO⟩, draws_but D1 h1 hs'.extBut D.z1, draws_but D2 h2 hs'.extBut D.z2⟩ fun c o hc e => hs'.extBut _ _ (fun x => hc (by simp [x])) e
  apart := fun i T h hm hT => by
    obtain ⟨_, _, _, _, _, t1, t2, t3, t4⟩ := hm
    simp at hT
    rcases hT with rfl | rfl | rfl | rfl
    · exact t1 rfl
    · exact t2 rfl
    · exact t3 rfl
    · exact t4 rfl
  done := fun s Q E hst hQ => by
    obtain ⟨hz, hTI, ⟨a, b, hTO⟩, h1, h2⟩ := hst
    have hT : s.TypeIs (.ref z) "zip" := ⟨_, hz, rfl⟩
    unfold pyNext
    refine wpAny_bind (wpAny_attempt (wpAny_callSpecial?_slot (name := Str.ofString "__next__") hT F.slot_zip_next
      (wpAny_call_entry F.slot_zip_next hT F.entry_zip_next (zip_endD D D1 D2 rfl hz hTI hTO h1 h2 fun h' e tk hk he => ?_) (F.args_zip_next_1 _))))
    obtain ⟨o, ho, hc⟩ := he
    refine wpAny_bind (wpAny_isInstance (T := "StopIteration") (b := true) ⟨o, ho, hc⟩ isSubtype_stop ?_)
    exact wpAny_pure (hQ h' tk fun c o hc e => hk c o (fun x => hc (by simp [x])) (fun x => hc (by simp [x])) (fun x => hc (by simp [x])) (fun x => hc (by simp [x])) e)
  self := fun i s Q E hst hQ => wpAny_pyIter_zip hst.1 hQ
end

/-! making it, of two tuples -/
noncomputable abbrev zH1 (h : Heap) (l1 : Addr) : Heap := h.push { cls := .type "tuple_iterator", data := .fields #[.ref l1, .int 0 0] }
noncomputable abbrev zH2 (h : Heap) (l1 l2 : Addr) : Heap := (zH1 h l1).push { cls := .type "tuple_iterator", data := .fields #[.ref l2, .int 0 0] }
noncomputable abbrev zH3 (h : Heap) (l1 l2 : Addr) : Heap := (zH2 h l1 l2).push { cls := .type "tuple", data := .seq #[.ref h.objs.size, .ref (zH1 h l1).objs.size] }
noncomputable abbrev zH4 (h : Heap) (l1 l2 : Addr) : Heap := (zH3 h l1 l2).push { cls := .type "tuple", data := .seq #[.none, .none] }
noncomputable abbrev zH5 (h : Heap) (l1 l2 : Addr) : Heap := (zH4 h l1 l2).push { cls := .type "zip", data := .fields #[.none, .bool false, .bool false, .ref (zH2 h l1 l2).objs.size, .ref (zH3 h l1 l2).objs.size] }

theorem meets_zip_tuples (l1 l2 : Addr) (xs ys : Array Value) :
    Meets (Builtin.«zip.__new__» ⟨[.type "zip", .ref l1, .ref l2], []⟩) (fun _ R s => s.heap.IsTuple l1 xs ∧ s.heap.IsTuple l2 ys ∧
      R (.ok (.ret (.ref (zH4 s.heap l1 l2).objs.size))) { s with heap := zH5 s.heap l1 l2 }) :=
  .of_wp fun prog w A R s h => by
    obtain ⟨hp, g, d, tk, os⟩ := s; obtain ⟨hl1, hl2, h⟩ := h
    have hsub := sub_zip
    have hL1 : Heap.IsTuple (Shared.heap ⟨hp, g, d, tk, os⟩) l1 xs := hl1
    have hL2 : Heap.IsTuple (Shared.heap ⟨hp.push { cls := .type "tuple_iterator", data := .fields #[.ref l1, .int 0 0] }, g, d, tk, os⟩) l2 ys := Heap.IsTuple.push hl2 _
    wp_walk using wpAny_pyIter_tuple hL1, wpAny_pyIter_tuple hL2
    exact ⟨_, rfl, h⟩

section
variable {prog : Program} {w : World} {A : Around} {E : Value → Shared → Prop} {s : Shared}

theorem call_zip_tuples {l1 l2 : Addr} {xs ys : Array Value} {Q : Value → Shared → Prop} (hl1 : s.heap.IsTuple l1 xs) (hl2 : s.heap.IsTuple l2 ys)
    (h : ∀ h', IsZip h' (s.heap.objs.size + 4) (s.heap.objs.size + 2) (s.heap.objs.size + 3) .none → IsPair h' (s.heap.objs.size + 2) (.ref s.heap.objs.size) (.ref (s.heap.objs.size + 1)) →
      IsPair h' (s.heap.objs.size + 3) .none .none → h'.IsTupleIter s.heap.objs.size l1 0 → h'.IsTupleIter (s.heap.objs.size + 1) l2 0 → h'.objs.size = s.heap.objs.size + 5 →
      (∀ c o, s.heap.get? c = some o → h'.get? c = some o) → Q (.ref (s.heap.objs.size + 4)) { s with heap := h' }) :
    wpAny (model prog w) A (call (.type "zip") [.ref l1, .ref l2]) Q E s := by
  refine callType_new F.called_zip (by decide) (F.typeCall_zip_2 _ _) (F.newCall_zip_2 _ _) (fun obj => F.args_object_init_3 obj _ _) F.entry_zip_new
    (meets_zip_tuples l1 l2 xs ys) ⟨hl1, hl2, ?_⟩
  have z1 : (zH1 s.heap l1).objs.size = s.heap.objs.size + 1 := Heap.size_push ..
  have z2 : (zH2 s.heap l1 l2).objs.size = s.heap.objs.size + 2 := by rw [Heap.size_push, z1]
  have z3 : (zH3 s.heap l1 l2).objs.size = s.heap.objs.size + 3 := by rw [Heap.size_push, z2]
  have z4 : (zH4 s.heap l1 l2).objs.size = s.heap.objs.size + 4 := by rw [Heap.size_push, z3]
  have z5 : (zH5 s.heap l1 l2).objs.size = s.heap.objs.size + 5 := by rw [Heap.size_push, z4]
  have g5 : (zH5 s.heap l1 l2).get? (zH4 s.heap l1 l2).objs.size = some _ := Heap.get?_push_size _ rfl
  have g4 : (zH5 s.heap l1 l2).get? (zH3 s.heap l1 l2).objs.size = some _ := Heap.get?_push_of_some _ (Heap.get?_push_size _ rfl)
  have g3 : (zH5 s.heap l1 l2).get? (zH2 s.heap l1 l2).objs.size = some _ := Heap.get?_push_of_some _ (Heap.get?_push_of_some _ (Heap.get?_push_size _ rfl))
  have g2 : (zH5 s.heap l1 l2).get? (zH1 s.heap l1).objs.size = some _ := Heap.get?_push_of_some _ (Heap.get?_push_of_some _ (Heap.get?_push_of_some _ (Heap.get?_push_size _ rfl)))
  have g1 : (zH5 s.heap l1 l2).get? s.heap.objs.size = some _ := Heap.get?_push_of_some _ (Heap.get?_push_of_some _ (Heap.get?_push_of_some _ (Heap.get?_push_of_some _ (Heap.get?_push_size _ rfl))))
  show _ ∧ _
  rw [z2, z3, z4] at g5
  rw [z1, z2] at g3
  rw [z3] at g4
  rw [z1] at g2
  rw [z4]
  exact ⟨⟨_, g5, rfl⟩, h _ g5 g3 g4 ⟨_, g1, rfl, rfl⟩ ⟨_, g2, rfl, rfl⟩ z5 fun c o x =>
    Heap.get?_push_of_some _ (Heap.get?_push_of_some _ (Heap.get?_push_of_some _ (Heap.get?_push_of_some _ (Heap.get?_push_of_some _ x))))⟩
end
end Mine

/-! part MSndZ -/
namespace Mine
open PySem PySem.Calls PySem.W PyProof.Rows
set_option maxRecDepth 100000

section
variable {G : Gd} {n : Nat} {hd : Bool} {A : Around} {env : Env} {envs : List Env} {C : CC} {β : List Addr} {ρ : Rho} {σ : Sto} {s : Shared}

theorem assignEach_names : ∀ (xs : List (Str × Pos)) (env : Env), assignEach (xs.map fun x => PySem.Expr.Name x.1 x.2) env = xs.map fun x => (false, assign (.Name x.1 x.2) env)
  | [], _ => rfl
  | x :: xs, env => by rw [List.map_cons, List.map_cons, ← assignEach_names xs env]; rfl

/-- several names, in order -/
theorem stores_sound (hn : VarsND C.vars) : ∀ {xs : List (Str × Pos)} {is : List Nat} {ds : List D} {vs : List Value} {ρ ρ' : Rho} {s : Shared}, At G n hd A env envs C β ρ σ s → (xs.map (·.1)).mapM C.own = some is → RelL G s.heap β ds vs → setVars ρ is ds = some ρ' →
    ∀ {Q : Unit → Shared → Prop} {E : Value → Shared → Prop}, (∀ s', At G n hd A env envs C β ρ' σ s' → Stp G (fsOf envs) (Own C env) β β σ s s' → Q () s') → wpAny G.M A (assignInOrder (xs.map fun x => assign (.Name x.1 x.2) env) vs) Q E s
  | [], is, ds, vs, ρ, ρ', s, a, ho, r, hv, Q, E, h => by
    cases ho
    cases r with
    | nil =>
      cases hv
      exact wpAny_pure (h s a (Stp.refl a.inv))
    | cons => cases hv
  | x :: xs, is, ds, vs, ρ, ρ', s, a, ho, r, hv, Q, E, h => by
    obtain ⟨i, is', hi, hr', rfl⟩ := mapM_cons_some ho
    cases r with
    | nil => cases hv
    | @cons d v ds vs r1 r2 =>
      rw [setVars] at hv
      split at hv
      · show wpAny _ _ (PySem.holding vs (assign (.Name x.1 x.2) env v) >>= fun _ => assignInOrder (xs.map fun x => assign (.Name x.1 x.2) env) vs) Q E s
        refine wpAny_bind (wpAny_holding (wpAny_assign_Name (store_sound a hi hn r1 fun s₁ a₁ st₁ => ?_)))
        exact stores_sound hn a₁ hr' (r2.mono (a.firmOwn st₁) (List.prefix_refl _)) hv fun s₂ a₂ st₂ => h s₂ a₂ (st₁.transX st₂ (fun b h => .inl h) fun b h => .inl h)
      · cases hv

/-- a tuple taken apart -/
theorem unpack_sound (hn : VarsND C.vars) {xs : List (Str × Pos)} {is : List Nat} {ds : List D} {vs : List Value} {ρ' : Rho} {T : Addr} {kk : Nat} {pos : Pos} (a : At G n hd A env envs C β ρ σ s) (ho : (xs.map (·.1)).mapM C.own = some is) (hT : s.heap.IsTuple T vs.toArray) (r : RelL G s.heap β ds vs) (hv : setVars ρ is ds = some ρ') (hl : xs.length = vs.length)
    {Q : Unit → Shared → Prop} {E : Value → Shared → Prop} (h : ∀ s', At G n hd A env envs C β ρ' σ s' → Stp G (fsOf envs) (Own C env) β β σ s s' → Q () s') : wpAny G.M A (assign (.Tuple (xs.map fun x => PySem.Expr.Name x.1 x.2) kk pos) env (.ref T)) Q E s := by
  rw [arm_assign_Tuple, assignEach_names]
  refine wpAny_bind (wpAny_standAt ?_)
  unfold unpack
  have h1 : (xs.map fun x => ((false, assign (.Name x.1 x.2) env) : Bool × (Value → Sem Unit))).length = vs.toArray.size := by simp [hl]
  have h2 : (xs.map fun x => ((false, assign (.Name x.1 x.2) env) : Bool × (Value → Sem Unit))).findIdx? (·.1) = none := by simp [List.findIdx?_eq_none_iff]
  have h3 : (xs.map fun x => ((false, assign (.Name x.1 x.2) env) : Bool × (Value → Sem Unit))).map (·.2) = xs.map fun x => assign (.Name x.1 x.2) env := by simp
  rw [h1, h2, h3]
  refine wpAny_bind (wpAny_holding (wpAny_sized (wpAny_unpackItems_tuple a.ar.handled hT fun h' he hz => ?_)))
  have k : ∀ b o, s.heap.get? b = some o → h'.get? b = some o := fun b o e => he b o (Nat.ne_of_lt (Heap.lt_size e)) e
  have st : Stp G (fsOf envs) no β β σ s { s with heap := h' } := Stp.grow a.inv k hz rfl rfl
  have e : vs.toArray.toList = vs := by simp
  rw [e]
  exact stores_sound hn (a.step st) ho (r.mono (a.firm st) (List.prefix_refl _)) hv fun s₂ a₂ st₂ => h s₂ a₂ (st.transX st₂ (fun b h => h.elim) fun b h => .inl h)

/-- the call of a name, what follows is free -/
theorem calls_any {x : Str} {p pos : Pos} {e : PySem.Expr} {es : List PySem.Expr} {cs : List CE} {f : Value} {δ : Type} {k : List D → Sto → Res δ} {Q : Value → Shared → Prop} (hnm : ∀ {Q : Value → Shared → Prop} {E : Value → Shared → Prop}, Q f s → wpAny G.M A (eval (.Name x p) env) Q E s) (hk : Keep G f) (h : SEl G n C (e :: es) cs) (a : At G n hd A env envs C β ρ σ s)
    (hr : (evs (callN G.P n hd) cs ρ σ).bind k ≠ .stuck) (hc : ∀ ds σ₁ β₁ vs s₁, evs (callN G.P n hd) cs ρ σ = .ok ds σ₁ → Stp G (fsOf envs) no β β₁ σ₁ s s₁ → RelL G s₁.heap β₁ ds vs → k ds σ₁ ≠ .stuck → wpAny G.M A (call f vs) Q (PostX G envs β₁ s₁ (k ds σ₁)) s₁) :
    wpAny G.M A (eval (.Call (.Name x p) (e :: es) [] pos) env) Q (PostX G envs β s ((evs (callN G.P n hd) cs ρ σ).bind k)) s := by
  refine wpAny_Call_Name_kw (hnm ?_)
  refine callWith_of (P := fun h => ∀ b o, G.H.get? b = some o → h.get? b = some o) (by rw [backTo_any h]; rfl) hk ?_
  have split : wpAny G.M A (spliced (backTo pos (starEach (e :: es) env))) (fun vs s₁ => (∀ b o, G.H.get? b = some o → s₁.heap.get? b = some o) ∧ wpAny G.M A (call f ([] ++ vs)) Q (PostX G envs β s ((evs (callN G.P n hd) cs ρ σ).bind k)) s₁) (PostX G envs β s ((evs (callN G.P n hd) cs ρ σ).bind k)) s := by
    refine wpAny_mono (spliced_sound h a (bind_ne hr)) (fun vs s₁ p => ?_) fun x s₁ p => ?_
    · obtain ⟨ds, σ₁, β₁, h1, h2, h3⟩ := p
      refine ⟨h2.inv.keep, wpAny_mono (hc ds σ₁ β₁ vs s₁ h1 h2 h3 (by intro q; exact hr (by rw [h1]; exact q))) (fun _ _ q => q) fun _ _ q => q.after h2 (by intro c o σ q; rw [h1]; exact q)⟩
    · obtain ⟨c, σ', e, h1, h2, h3⟩ := p
      exact ⟨c, σ', e, by rw [h1]; rfl, h2, h3⟩
  cases cs with
  | nil => exact h.elim
  | cons c cs =>
    rw [starEach_cons h.1] at split ⊢
    exact evalArgs_plain split

theorem zipD_len : ∀ ds es : List D, (zipD ds es).length = min ds.length es.length
  | [], _ => by simp [zipD]
  | _ :: _, [] => by simp [zipD]
  | d :: ds, e :: es => by simp only [zipD, List.length_cons, zipD_len ds es]; omega
theorem zipD_get : ∀ {ds es : List D} {i : Nat} {d : D}, (zipD ds es)[i]? = some d → ∃ a b, ds[i]? = some a ∧ es[i]? = some b ∧ d = .tup [a, b]
  | [], _, _, _, h => by simp [zipD] at h
  | _ :: _, [], _, _, h => by simp [zipD] at h
  | d :: ds, e :: es, 0, x, h => by simp [zipD] at h; exact ⟨d, e, rfl, rfl, h.symm⟩
  | d :: ds, e :: es, i + 1, x, h => by
    simp only [zipD, List.getElem?_cons_succ] at h ⊢
    exact zipD_get h

theorem zapart_at (z b1 b2 : Nat) (h1 : b1 < z) (h2 : b2 < z) : ZApart (z + 4) (z + 2) (z + 3) z (z + 1) [z, b1] [z + 1, b2] where
  TIz := fun (q : z + 2 = z + 4) => by omega
  TOz := fun (q : z + 3 = z + 4) => by omega
  i1z := fun (q : z = z + 4) => by omega
  i2z := fun (q : z + 1 = z + 4) => by omega
  TITO := fun (q : z + 2 = z + 3) => by omega
  TIi1 := fun (q : z + 2 = z) => by omega
  TIi2 := fun (q : z + 2 = z + 1) => by omega
  TOi1 := fun (q : z + 3 = z) => by omega
  TOi2 := fun (q : z + 3 = z + 1) => by omega
  i12 := fun (q : z = z + 1) => by omega
  z1 := fun q => by
    rcases List.mem_cons.mp q with q | q
    · have q : z + 4 = z := q
      omega
    · have q : z + 4 = b1 := List.mem_singleton.mp q
      omega
  z2 := fun q => by
    rcases List.mem_cons.mp q with q | q
    · have q : z + 4 = z + 1 := q
      omega
    · have q : z + 4 = b2 := List.mem_singleton.mp q
      omega
  o1 := fun q => by
    rcases List.mem_cons.mp q with q | q
    · have q : z + 3 = z := q
      omega
    · have q : z + 3 = b1 := List.mem_singleton.mp q
      omega
  o2 := fun q => by
    rcases List.mem_cons.mp q with q | q
    · have q : z + 3 = z + 1 := q
      omega
    · have q : z + 3 = b2 := List.mem_singleton.mp q
      omega
  i21 := fun q => by
    rcases List.mem_cons.mp q with q | q
    · have q : z + 1 = z := q
      omega
    · have q : z + 1 = b1 := List.mem_singleton.mp q
      omega
  i12f := fun q => by
    rcases List.mem_cons.mp q with q | q
    · have q : z = z + 1 := q
      omega
    · have q : z = b2 := List.mem_singleton.mp q
      omega
  m1 := List.mem_cons_self ..
  m2 := List.mem_cons_self ..
theorem znew {z : Nat} {c : Nat} (h : c ∈ [z + 4, z + 3, z, z + 1]) : z ≤ c ∧ c < z + 5 := by
  simp only [List.mem_cons, List.not_mem_nil, or_false] at h
  omega
theorem zlt {z b1 b2 : Nat} {c : Nat} (h1 : b1 < z) (h2 : b2 < z) (h : c ∈ (z + 4) :: (z + 2) :: (z + 3) :: ([z, b1] ++ [z + 1, b2])) : c < z + 5 ∧ (c < z → c = b1 ∨ c = b2) := by
  simp only [List.mem_cons, List.not_mem_nil, or_false, List.mem_append] at h
  omega

theorem for_zip_ss (ok : GOk G) {x y : Str} {i j kk : Nat} {p1 p2 pt pz pc pos : Pos} {e1 e2 : PySem.Expr} {cs : List CE} {b : List Stmt} {cb : List CS} (hn : VarsND C.vars) (hx : C.own x = some i) (hy : C.own y = some j) (hg : C.isGlob "zip" = true) (hel : SEl G n C [e1, e2] cs) (hb : ∀ N, SSs (G.wN N) n C b cb) :
    SS G n C (.For (.Tuple [.Name x p1, .Name y p2] kk pt) (.Call (.Name "zip" pz) [e1, e2] [] pc) b [] pos) (.for [i, j] (.zip cs) cb) := by
  intro hd A env envs β ρ σ s a hr
  simp only [ex, evi] at hr ⊢
  rw [bind_assoc'] at hr ⊢
  have hk := isGlob_kind hg
  refine wpAny_For ?_ (fun _ => rfl)
  refine wpAny_mono (calls_any (Q := fun v s₁ => ∀ E, wpAny G.M A (pyIter v) (fun it s₂ => ∀ E : Value → Shared → Prop, codeAny G.M A (.forLoop (.Tuple [.Name x p1, .Name y p2] kk pt) it b [] env) (fun r s' => match r with | .ok f => PostS G n hd A env envs C β s ((evs (callN G.P n hd) cs ρ σ).bind fun ds σ => (match ds with | [.tup ds, .tup es] => (Res.ok ⟨zipD ds es, (none, none), ([], [])⟩ σ : Res Src) | _ => Res.stuck).bind fun s σ => forGo (fun ρ σ => exs (callN G.P n) hd cb ρ σ) [i, j] s.src s.all s.items ρ σ) f s' | .error e => E e s') s₂) E s₁)
    (fun q => bi_name ok a (by decide) boot_zip hk (by decide) q) (Keep.type _) hel a hr fun ds σ₁ β₁ vs s₁ h1 h2 h3 hne => ?_) (fun v s₁ q => wpAny_mono (q fun _ _ => False) (fun it s₂ q => q _) fun _ _ q => q.elim) fun _ _ q => ?_
  · rw [h1] at hr ⊢
    simp only [Res.bind_ok] at hr ⊢
    cases h3 with
    | nil => exact absurd rfl hne
    | @cons d1 v1 ds vs r1 rs => cases rs with
      | nil => cases d1 <;> exact absurd rfl hne
      | @cons d2 v2 ds vs r2 rs => cases rs with
        | cons => cases d1 <;> cases d2 <;> exact absurd rfl hne
        | nil =>
          cases r1 with
          | @tup b1 o1 m1 ds1 vs1 ho1 hc1 hdd1 rl1 sz1 nN1 =>
            cases r2 with
            | @tup b2 o2 m2 ds2 vs2 ho2 hc2 hdd2 rl2 sz2 nN2 =>
              have ht1 : s₁.heap.IsTuple b1 vs1.toArray := ⟨o1, ho1, hc1, m1, hdd1⟩
              have ht2 : s₁.heap.IsTuple b2 vs2.toArray := ⟨o2, ho2, hc2, m2, hdd2⟩
              have a₁ := a.step h2
              refine call_zip_tuples ht1 ht2 fun h' gz gTI gTO gi1 gi2 hsz hkp E => ?_
              refine wpAny_pyIter_zip gz ?_
              intro E
              simp only [Res.bind_ok] at hne hr ⊢
              have l1 : b1 < s₁.heap.objs.size := Heap.lt_size ho1
              have l2 : b2 < s₁.heap.objs.size := Heap.lt_size ho2
              have Dz := zapart_at s₁.heap.objs.size b1 b2 l1 l2
              have W := (walksZip Dz (drawsTuple (prog := G.prog) (w := G.w) (A := A.in1) a.ar.handled s₁.heap.objs.size b1 (Nat.ne_of_lt l1) vs1.toArray) (drawsTuple (prog := G.prog) (w := G.w) (A := A.in1) a.ar.handled (s₁.heap.objs.size + 1) b2 (Nat.ne_of_lt (Nat.lt_succ_of_lt l2)) vs2.toArray)).toU
              have hlen : min vs1.toArray.size vs2.toArray.size = (zipD ds1 ds2).length := by rw [zipD_len, List.size_toArray, List.size_toArray, rl1.length, rl2.length]
              rw [hlen] at W
              have newOut : ∀ c, s₁.heap.objs.size ≤ c → c ∉ β₁ ∧ ¬ Own C env c ∧ c ∉ fsOf envs := fun c hc => by
                refine ⟨fun q => ?_, fun q => ?_, fun q => ?_⟩
                · exact absurd (a₁.inv.lt q) (Nat.not_lt.mpr hc)
                · obtain ⟨o', h1, _⟩ := a₁.own_data q
                  exact absurd (Heap.lt_size h1) (Nat.not_lt.mpr hc)
                · obtain ⟨o', es, k, h1, _⟩ := a₁.ar.fs_data q
                  exact absurd (Heap.lt_size h1) (Nat.not_lt.mpr hc)
              have tupOut : ∀ (b : Addr) (o : Obj) (vs : List Value) (m : Nat), s₁.heap.get? b = some o → o.cls = .type "tuple" → o.data = .seq vs.toArray m → b ∉ β₁ ∧ ¬ Own C env b ∧ b ∉ fsOf envs := fun b o vs m ho hc hdd => by
                have q : firmO o := .inl ⟨hc, _, _, hdd⟩
                refine ⟨a₁.inv.firm_notin ho q, fun h => ?_, a₁.ar.firm_fs ho q⟩
                obtain ⟨o', h1, h2, _⟩ := a₁.own_data h
                rw [ho] at h1; cases h1
                rcases h2 with ⟨es, k, h2⟩ | ⟨v, h2⟩ <;> (rw [h2] at hdd; cases hdd)
              have it : ItOk C env envs β₁ s₁ { s₁ with heap := h' } ((s₁.heap.objs.size + 4) :: (s₁.heap.objs.size + 2) :: (s₁.heap.objs.size + 3) :: ([s₁.heap.objs.size, b1] ++ [s₁.heap.objs.size + 1, b2])) [s₁.heap.objs.size + 4, s₁.heap.objs.size + 3, s₁.heap.objs.size, s₁.heap.objs.size + 1] := by
                refine ⟨hkp, ?_, rfl, rfl, fun c hc => ?_, fun c hc => ?_, fun c hc => ?_⟩
                · show _ ≤ h'.objs.size
                  rw [hsz]; exact Nat.le_add_right _ _
                · show _ ∧ c < h'.objs.size
                  rw [hsz]; exact znew hc
                · show c < h'.objs.size
                  rw [hsz]; exact (zlt l1 l2 hc).1
                · by_cases hlt : c < s₁.heap.objs.size
                  · rcases (zlt l1 l2 hc).2 hlt with rfl | rfl
                    · exact tupOut _ _ _ _ ho1 hc1 hdd1
                    · exact tupOut _ _ _ _ ho2 hc2 hdd2
                  · exact newOut _ (Nat.not_lt.mp hlt)
              refine codeAny_mono (for_turns (E := E) (is := [i, j]) (src := (none, none)) (all := ([], [])) (hb _) (KTurns.ofWalksU W) a₁ it ?_ ?_ hr) fun r s' q => ?_
              · exact ⟨gz, gTI, ⟨_, _, gTO⟩, ⟨gi1, let ⟨o, e, r⟩ := ht1; ⟨o, hkp _ _ e, r⟩⟩, ⟨gi2, let ⟨o, e, r⟩ := ht2; ⟨o, hkp _ _ e, r⟩⟩⟩
              · rintro t d v β' ρ' ρ'' σ' s' ht ⟨T, vals, rfl, ⟨xv, yv, hxv, hyv, rfl⟩, hT⟩ a' hpre hf hu Q E hQ
                obtain ⟨da, db, ha, hb', rfl⟩ := zipD_get ht
                have hu' : setVars ρ' [i, j] [da, db] = some ρ'' := by simpa [unpackT] using hu
                have relOf : ∀ {dd : D} {vv : Value} {dl : List D} {vl : List Value}, RelL G s₁.heap β₁ dl vl → dl[t]? = some dd → vl.toArray[t]? = some vv → Rel (G.wN fun b => G.N b ∨ b ∈ [s₁.heap.objs.size + 4, s₁.heap.objs.size + 3, s₁.heap.objs.size, s₁.heap.objs.size + 1]) s'.heap β' dd vv := by
                  intro dd vv dl vl rl h1 h2
                  obtain ⟨v', hv', r⟩ := rl.get h1
                  have : vv = v' := by
                    have : vl[t]? = some vv := by simpa using h2
                    rw [hv'] at this; injection this with this; exact this.symm
                  subst this
                  have r2 : Rel (G.wN fun b => G.N b ∨ b ∈ [s₁.heap.objs.size + 4, s₁.heap.objs.size + 3, s₁.heap.objs.size, s₁.heap.objs.size + 1]) s₁.heap β₁ dd vv := r.turn fun a o e nn q => by
                    rcases q with q | q
                    · exact nn q
                    · exact absurd (Heap.lt_size e) (Nat.not_lt.mpr (it.new a q).1)
                  exact Rel.mono (G := G.wN fun b => G.N b ∨ b ∈ [s₁.heap.objs.size + 4, s₁.heap.objs.size + 3, s₁.heap.objs.size, s₁.heap.objs.size + 1]) hf hpre r2
                refine unpack_sound (G := G.wN fun b => G.N b ∨ b ∈ [s₁.heap.objs.size + 4, s₁.heap.objs.size + 3, s₁.heap.objs.size, s₁.heap.objs.size + 1]) (xs := [(x, p1), (y, p2)]) (is := [i, j]) (ds := [da, db]) (vs := [xv, yv]) hn a' ?_ hT (.cons (relOf rl1 ha hxv) (.cons (relOf rl2 hb' hyv) .nil)) hu' rfl fun s'' a'' st'' => hQ s'' a'' st''
                simp [List.mapM_cons, hx, hy]
              · cases r with
                | ok f => exact q.after h2 fun b h => h.elim
                | error e => exact q
            | _ => exact absurd rfl hne
          | _ => exact absurd rfl hne
  · obtain ⟨c, σ', e, h1, _⟩ := q
    exact ⟨c, false, σ', h1⟩
end
end Mine

/-! part MSnd26 -/
namespace Mine
open PySem PySem.Calls PySem.W PyProof.Rows
set_option maxRecDepth 100000

noncomputable def closFrom (env : Env) : List (Str × NameKind) → List (Str × Addr) → List (Str × Addr)
  | [], cs => cs
  | (x, k) :: r, cs => if k == .free then closFrom env r ((x, (env.cells.lookup x).getD 0) :: cs) else closFrom env r cs

theorem closureFor_some {scope : Scope} {env : Env} (h : ∀ x, (x, NameKind.free) ∈ scope.names → (env.cells.lookup x).isSome = true) : closureFor scope env = pure (closFrom env scope.names []) := by
  unfold closureFor
  have key : ∀ (names : List (Str × NameKind)) (cs : List (Str × Addr)), (∀ x, (x, NameKind.free) ∈ names → (env.cells.lookup x).isSome = true) →
      (forIn names cs (fun p cs => do
        let (name, kind) := p
        if kind == .free then
          let __do_lift ← cellOf env name
          pure (ForInStep.yield ((name, __do_lift) :: cs))
        else pure (ForInStep.yield cs)) : Sem (List (Str × Addr))) = pure (closFrom env names cs) := by
    intro names
    induction names with
    | nil => intro cs _; rfl
    | cons p r ih =>
      intro cs hx
      obtain ⟨x, k⟩ := p
      rw [List.forIn_cons]
      by_cases hk : (k == .free) = true
      · have hk' : k = .free := by simpa using hk
        obtain ⟨c, hc⟩ := Option.isSome_iff_exists.mp (hx x (by rw [hk']; exact .head _))
        have e1 : cellOf env x = pure c := by unfold cellOf; rw [hc]
        simp only [hk, if_true, e1, closFrom, hc, Option.getD_some]
        exact ih _ fun y hy => hx y (.tail _ hy)
      · simp only [hk, closFrom]
        exact ih _ fun y hy => hx y (.tail _ hy)
  have := key scope.names [] h
  simp only [] at this ⊢
  rw [this]
  rfl

theorem closFrom_sub {env : Env} : ∀ {names : List (Str × NameKind)} {cs : List (Str × Addr)}, (∀ x, (x, NameKind.free) ∈ names → (env.cells.lookup x).isSome = true) → (∀ y c, cs.lookup y = some c → env.cells.lookup y = some c) → ∀ y c, (closFrom env names cs).lookup y = some c → env.cells.lookup y = some c
  | [], cs, _, h => h
  | (x, k) :: r, cs, hx, h => by
    intro y c
    unfold closFrom
    split
    · rename_i hk
      have hk' : k = .free := by simpa using hk
      obtain ⟨c0, hc0⟩ := Option.isSome_iff_exists.mp (hx x (by rw [hk']; exact .head _))
      refine closFrom_sub (fun z hz => hx z (.tail _ hz)) (fun z d hd => ?_) y c
      rw [List.lookup_cons] at hd
      split at hd
      · rename_i e
        rw [hc0] at hd
        injection hd with hd
        rw [eq_of_beq e, hc0]; exact congrArg some hd
      · exact h z d hd
    · exact closFrom_sub (fun z hz => hx z (.tail _ hz)) h y c
theorem closFrom_acc {env : Env} {x : Str} : ∀ {names : List (Str × NameKind)} {cs : List (Str × Addr)}, (cs.lookup x).isSome = true → ((closFrom env names cs).lookup x).isSome = true
  | [], _, h => h
  | (y, k) :: r, cs, h => by
    unfold closFrom
    split
    · exact closFrom_acc (lookup_isSome_cons h)
    · exact closFrom_acc h
theorem closFrom_has {env : Env} {x : Str} : ∀ {names : List (Str × NameKind)} {cs : List (Str × Addr)}, (x, NameKind.free) ∈ names → ((closFrom env names cs).lookup x).isSome = true
  | [], _, h => by cases h
  | (y, k) :: r, cs, h => by
    unfold closFrom
    cases h with
    | head =>
      rw [if_pos (by decide)]
      refine closFrom_acc ?_
      rw [List.lookup_cons]; simp
    | tail _ h =>
      split
      · exact closFrom_has h
      · exact closFrom_has h

theorem compScope_eq {env : Env} {C : CC} {scope : Scope} (h : env.scope = C.sc) : relabel scope env = compScope C.sc scope := by
  unfold relabel compScope
  rw [← h]; rfl

theorem relabel_free {env : Env} {y : Str} : ∀ {names : List (Str × NameKind)}, (∀ p ∈ names, p.2 ≠ .cell) →
    ((names.map fun (n, k) => if (k == NameKind.free && env.scope.kind == .function && env.kindOf n == some .cell) then (n, NameKind.cell) else (n, k)).lookup y = some .cell ∨
     (names.map fun (n, k) => if (k == NameKind.free && env.scope.kind == .function && env.kindOf n == some .cell) then (n, NameKind.cell) else (n, k)).lookup y = some .free) → (y, NameKind.free) ∈ names
  | [], _, h => by rcases h with h | h <;> cases h
  | (n, k) :: r, hc, h => by
    have ih := @relabel_free env y r fun p hp => hc p (.tail _ hp)
    simp only [List.map_cons] at h
    by_cases hx : (y == n) = true
    · have hyn : y = n := eq_of_beq hx
      subst hyn
      by_cases hcc : (k == NameKind.free && env.scope.kind == .function && env.kindOf y == some .cell) = true
      · have : k = .free := by simp only [Bool.and_eq_true, beq_iff_eq] at hcc; exact hcc.1.1
        subst this; exact .head _
      · rw [if_neg hcc] at h
        simp only [List.lookup_cons, beq_self_eq_true] at h
        rcases h with h | h
        · injection h with h
          exact absurd h (hc _ (.head _))
        · injection h with h
          subst h; exact .head _
    · have hx' : (y == n) = false := by simpa using hx
      have : ∀ (p : Str × NameKind) (l : List (Str × NameKind)), p.1 = n → (p :: l).lookup y = l.lookup y := fun p l hp => by
        rw [List.lookup_cons, hp, hx']
      split at h
      · rw [this _ _ rfl] at h
        exact .tail _ (ih h)
      · rw [this _ _ rfl] at h
        exact .tail _ (ih h)

section
variable {G : Gd} {n : Nat} {hd : Bool} {A : Around} {env : Env} {envs : List Env} {C : CC} {β : List Addr} {ρ : Rho} {σ : Sto} {s : Shared}

/-- what the compiler asks of a comprehension's scope -/
structure CompOk (C : CC) (scope : Scope) (x : Str) : Prop where
  kind : scope.kind = .function
  loc : scope.names.lookup x = some .local
  nocell : ∀ p ∈ scope.names, p.2 ≠ .cell
  names : ∀ p ∈ scope.names, p.2 = .local → scope.names.lookup p.1 = some .local
  free : ∀ y, (y, NameKind.free) ∈ scope.names → (∃ i, lastIdx y C.vars = some i) ∧ (C.kind y = some .cell ∨ C.kind y = some .free)

theorem CompOk.cells (a : At G n hd A env envs C β ρ σ s) {scope : Scope} {x : Str} (ok : CompOk C scope x) : ∀ y, (y, NameKind.free) ∈ scope.names → (env.cells.lookup y).isSome = true := fun y hy => by
  obtain ⟨⟨i, hi⟩, hk⟩ := ok.free y hy
  obtain ⟨c, ov, h1, _⟩ := a.er.cells i y (lastIdx_get hi) (hk.imp a.kindOf a.kindOf)
  rw [h1]; rfl

/-- the block of a comprehension, amid a turn -/
theorem comp_at (a : At G n hd A env envs C β ρ σ s) {scope : Scope} {x : Str} (ok : CompOk C scope x) {L : Addr} {m : Str → Option Value} {d : D} {v : Value} (hL : G.H.objs.size ≤ L) (hLβ : L ∉ β) (hns : s.heap.Ns L m) (hm : m x = some v) (r : Rel G s.heap β d v) :
    At G n hd A (compEnvC scope (closFrom env scope.names []) L env) envs (compCC C scope [x]) β (ρ ++ [some d]) σ s := by
  have hsc := compScope_eq (scope := scope) a.sc
  have hcells := ok.cells a
  refine ⟨a.inv, ⟨ok.kind, a.er.glob, a.er.blt, hL, hLβ, ⟨m, hns, fun i y e k1 k2 k3 => ?_⟩, fun i y k1 k2 => ?_, fun y z c h1 h2 => a.er.apart y z c (closFrom_sub hcells (fun _ _ h => by cases h) y c h1) (closFrom_sub hcells (fun _ _ h => by cases h) z c h2), ?_⟩, ⟨a.ar.fr, a.ar.hf, a.ar.frs, a.ar.depth, a.ar.units, a.ar.handled⟩, hsc, a.gg, a.nlt⟩
  · -- the only local is x
    have hk2 : (relabel scope env).names.lookup y = some .local := k2
    rcases Nat.lt_or_ge i C.vars.length with hi | hi
    · exfalso
      have k1' : (C.vars.map (keepVar (compScope C.sc scope)) ++ [some x])[i]? = some (some y) := k1
      rw [List.getElem?_append_left (by simpa using hi), List.getElem?_map] at k1'
      obtain ⟨w, hw, e1⟩ := Option.map_eq_some_iff.mp k1'
      unfold keepVar at e1
      split at e1
      · split at e1
        · rename_i hcnd
          injection e1 with e1
          subst e1
          rw [hsc] at hk2
          rw [hk2] at hcnd
          simp at hcnd
        · cases e1
      · cases e1
    · have k1' : (C.vars.map (keepVar (compScope C.sc scope)) ++ [some x])[i]? = some (some y) := k1
      rw [List.getElem?_append_right (by simpa using hi)] at k1'
      have hi0 : i - (C.vars.map (keepVar (compScope C.sc scope))).length = 0 := by
        rcases Nat.eq_zero_or_pos (i - (C.vars.map (keepVar (compScope C.sc scope))).length) with q | q
        · exact q
        · rw [List.getElem?_eq_none (by simp only [List.length_cons, List.length_nil]; omega)] at k1'; cases k1'
      rw [hi0] at k1'
      simp only [List.getElem?_cons_zero, Option.some.injEq] at k1'
      subst k1'
      have hil : i = ρ.length := by
        simp only [List.length_map] at hi0
        rw [a.er.len]; omega
      subst hil
      rw [List.getElem?_append_right (Nat.le_refl _), Nat.sub_self] at k3
      simp only [List.getElem?_cons_zero, Option.some.injEq] at k3
      subst k3
      exact ⟨v, hm, r⟩
  · have k2' : (relabel scope env).names.lookup y = some .cell ∨ (relabel scope env).names.lookup y = some .free := k2
    have hfree : (y, NameKind.free) ∈ scope.names := relabel_free ok.nocell k2'
    have hi : i < C.vars.length := by
      rcases Nat.lt_or_ge i C.vars.length with hi | hi
      · exact hi
      · exfalso
        have k1' : (C.vars.map (keepVar (compScope C.sc scope)) ++ [some x])[i]? = some (some y) := k1
        rw [List.getElem?_append_right (by simpa using hi)] at k1'
        have hi0 : i - (C.vars.map (keepVar (compScope C.sc scope))).length = 0 := by
          rcases Nat.eq_zero_or_pos (i - (C.vars.map (keepVar (compScope C.sc scope))).length) with q | q
          · exact q
          · rw [List.getElem?_eq_none (by simp only [List.length_cons, List.length_nil]; omega)] at k1'; cases k1'
        rw [hi0] at k1'
        simp only [List.getElem?_cons_zero, Option.some.injEq] at k1'
        subst k1'
        have := lookup_relabel_local (env := env) ok.loc
        have this : (relabel scope env).names.lookup x = some .local := this
        rw [this] at k2'
        rcases k2' with q | q <;> cases q
    have k1' : (C.vars.map (keepVar (compScope C.sc scope)) ++ [some x])[i]? = some (some y) := k1
    rw [List.getElem?_append_left (by simpa using hi), List.getElem?_map] at k1'
    obtain ⟨w, hw, e1⟩ := Option.map_eq_some_iff.mp k1'
    have hw' : C.vars[i]? = some (some y) := by
      unfold keepVar at e1
      split at e1
      · split at e1
        · injection e1 with e1
          subst e1; exact hw
        · cases e1
      · cases e1
    obtain ⟨_, hk⟩ := ok.free y hfree
    obtain ⟨c, ov, h1, h2, h3, h4⟩ := a.er.cells i y hw' (hk.imp a.kindOf a.kindOf)
    obtain ⟨c', hc'⟩ := Option.isSome_iff_exists.mp (closFrom_has (env := env) (cs := []) hfree)
    have : c' = c := by
      have := closFrom_sub hcells (fun _ _ h => by cases h) y c' hc'
      rw [h1] at this; injection this with this; exact this.symm
    subst this
    refine ⟨c', ov, hc', h2, h3, fun e he => h4 e ?_⟩
    rw [List.getElem?_append_left (by rw [a.er.len]; exact hi)] at he
    exact he
  · show (ρ ++ [some d]).length = (C.vars.map (keepVar (compScope C.sc scope)) ++ [some x]).length
    simp [a.er.len]
end
end Mine

/-! part MSnd27 -/
namespace Mine
open PySem PySem.Calls PySem.W PyProof.Rows
set_option maxRecDepth 100000

section
variable {G : Gd} {n : Nat} {hd : Bool} {A : Around} {env : Env} {envs : List Env} {C : CC} {β : List Addr} {ρ : Rho} {σ : Sto} {s : Shared}

/-- the tests of a comprehension, and the compiler's -/
noncomputable def CondOk (G : Gd) (n : Nat) (C' : CC) (ifs : List PySem.Expr) (cc : Option CE) : Prop :=
  (ifs = [] ∧ cc = none) ∨ ∃ c c', ifs = [c] ∧ cc = some c' ∧ ∀ N, ST (G.wN N) n C' c c'

theorem comp_loop {elt iter : PySem.Expr} {x : Str} {px pos : Pos} {ifs : List PySem.Expr} {scope : Scope} {ce : CE} {cc : Option CE} {I D L : Addr} {fp wr : List Addr} {P : Nat → Value → Prop} {St : Nat → Heap → Prop} {src : Src} {s₂ s₄ : Shared} {Ee : Value → Shared → Prop}
    (ok : CompOk C scope x) (helt : ∀ N, SE (G.wN N) n (compCC C scope [x]) elt ce) (hcc : CondOk G n (compCC C scope [x]) ifs cc) (W : Walks G.prog G.w A I fp wr src.items.length P St) (a : At G n hd A env envs C β ρ σ s) (io : ItOk C env envs β s s₂ fp wr)
    (hP : ∀ (i : Nat) (d : Mine.D) (v : Value), src.items[i]? = some d → P i v → Rel G s.heap β d v) (hlen : src.items.length ≤ cap) (hst : St 0 s₄.heap) (hk4 : ∀ b o, s₂.heap.get? b = some o → s₄.heap.get? b = some o) (hg4 : s₄.gens = s₂.gens) (ho4 : s₄.os = s₂.os)
    (hD : s₂.heap.objs.size ≤ D) (hDL : D ≠ L) (hL : s₂.heap.objs.size ≤ L) {m₀ : Str → Option Value} (hns : s₄.heap.Ns L m₀) (hacc : s₄.heap.PlainList D #[])
    {Ev : Rho → Sto → Res Mine.D} {Cd : Option (Rho → Sto → Res Mine.D)} (hE : Ev = fun ρ σ => ev (callN G.P n hd) ce ρ σ) (hCd : (cc = none → Cd = none) ∧ ∀ c, cc = some c → Cd = some fun ρ σ => ev (callN G.P n hd) c ρ σ)
    (hr : compGo Ev Cd 1 ρ src.src src.all src.items [] σ ≠ .stuck) :
    codeAny G.M A (.compLoop (.ListComp elt [⟨.Name x px, iter, ifs, 0⟩] scope pos) 0 (.ref I) (.ref D) (compEnvC scope (closFrom env scope.names []) L env))
      (compPost G.M A Ee none (PostE G envs β s ((compGo Ev Cd 1 ρ src.src src.all src.items [] σ).bind fun ds σ => Mine.alloc (.list ds) σ)) (.ref D) L) s₄ := by
  have hks : ∀ b o, s.heap.get? b = some o → s₄.heap.get? b = some o := fun b o e => hk4 b o (io.keep b o e)
  have hDs4 : D < s₄.heap.objs.size := by obtain ⟨k, e⟩ := hacc; exact Heap.lt_size e
  have hLs4 : L < s₄.heap.objs.size := hns.lt
  have hs24 : s₂.heap.objs.size ≤ s₄.heap.objs.size := Nat.le_trans hD (Nat.le_of_lt hDs4)
  have hw : ∀ b ∈ D :: L :: wr, s.heap.objs.size ≤ b ∧ b < s₄.heap.objs.size := fun b hb => by
    rcases List.mem_cons.mp hb with rfl | hb
    · exact ⟨Nat.le_trans io.size hD, hDs4⟩
    · rcases List.mem_cons.mp hb with rfl | hb
      · exact ⟨Nat.le_trans io.size hL, hLs4⟩
      · exact ⟨(io.new b hb).1, Nat.lt_of_lt_of_le (io.new b hb).2 hs24⟩
  have a4 : At (G.wN fun b => G.N b ∨ b ∈ D :: L :: wr) n hd A env envs C β ρ σ s₄ := a.hide hks (Nat.le_trans io.size hs24) hw
  have hHs : G.H.objs.size ≤ s.heap.objs.size := by
    obtain ⟨m, hm, _⟩ := a.er.ns
    exact Nat.le_trans a.er.above (Nat.le_of_lt hm.lt)
  have hwH : ∀ b ∈ D :: L :: wr, G.H.get? b = none := fun b hb => by
    cases e : G.H.get? b with
    | none => rfl
    | some o => exact absurd (Nat.lt_of_lt_of_le (Heap.lt_size e) hHs) (Nat.not_lt.mpr (hw b hb).1)
  have hDf : D ∉ fp := fun q => Nat.lt_irrefl _ (Nat.lt_of_lt_of_le (io.lt D q) hD)
  have hLf : L ∉ fp := fun q => Nat.lt_irrefl _ (Nat.lt_of_lt_of_le (io.lt L q) hL)
  have hDw : D ∉ wr := fun q => hDf (W.sub _ q)
  have hLw : L ∉ wr := fun q => hLf (W.sub _ q)
  have aw : ∀ b ∈ D :: L :: wr, b ∉ β ∧ ¬ Own C env b ∧ b ∉ fsOf envs := fun b hb => by
    refine ⟨fun q => ?_, fun q => ?_, fun q => ?_⟩
    · exact Nat.lt_irrefl _ (Nat.lt_of_lt_of_le (a.inv.lt q) (hw b hb).1)
    · obtain ⟨o', h1, _⟩ := a.own_data q
      exact Nat.lt_irrefl _ (Nat.lt_of_lt_of_le (Heap.lt_size h1) (hw b hb).1)
    · obtain ⟨o', es, k, h1, _⟩ := a.ar.fs_data q
      exact Nat.lt_irrefl _ (Nat.lt_of_lt_of_le (Heap.lt_size h1) (hw b hb).1)
  have hXc : ∀ b, b ∈ D :: L :: wr → ∀ (i : Nat) (x : Str), C.vars[i]? = some (some x) → (env.kindOf x = some .cell ∨ env.kindOf x = some .free) → env.cells.lookup x ≠ some b := fun b hb i x h1 hk h2 => by
    obtain ⟨c, ov, g1, g2, ⟨o, ho, hdd⟩, _⟩ := a.er.cells i x h1 hk
    rw [h2] at g1; cases g1
    exact Nat.lt_irrefl _ (Nat.lt_of_lt_of_le (Heap.lt_size ho) (hw b hb).1)
  -- hidden things changed
  have moved : ∀ {s' s'' : Shared} {β' : List Addr} {σ' : Sto}, At (G.wN fun b => G.N b ∨ b ∈ D :: L :: wr) n hd A env envs C β' ρ σ' s' → Stp (G.wN fun b => G.N b ∨ b ∈ D :: L :: wr) (fsOf envs) (fun b => b ∈ D :: L :: wr) β β' σ' s₄ s' →
      (∀ b o, b ∉ D :: L :: wr → s'.heap.get? b = some o → s''.heap.get? b = some o) → s'.heap.objs.size ≤ s''.heap.objs.size → s''.gens = s'.gens → s''.os = s'.os →
      At (G.wN fun b => G.N b ∨ b ∈ D :: L :: wr) n hd A env envs C β' ρ σ' s'' ∧ Stp (G.wN fun b => G.N b ∨ b ∈ D :: L :: wr) (fsOf envs) (fun b => b ∈ D :: L :: wr) β β' σ' s₄ s'' := by
    intro s' s'' β' σ' a' st k hz hg ho
    have a'' := a'.moved (X := fun b => b ∈ D :: L :: wr) (fun b hb => ⟨.inr hb, st.notin (hw b hb).2 (aw b hb).1, (aw b hb).2.1, (aw b hb).2.2, hwH b hb⟩) hXc k hz
    exact ⟨a'', st.transX (Y := fun b => b ∈ D :: L :: wr) ⟨List.prefix_refl _, fun _ h => .inl h, a''.inv, fun b o e _ nx _ => k b o nx e, fun b m e _ nx => e.at' fun o e' => k b o nx e', hz, hg, ho⟩ (fun b h => .inl h) fun b h => .inl h⟩
  have hfpk : ∀ {s' s'' : Shared} {β' β'' : List Addr} {σ' : Sto}, Stp (G.wN fun b => G.N b ∨ b ∈ D :: L :: wr) (fsOf envs) (fun b => b ∈ D :: L :: wr) β β' σ' s₄ s' → ∀ {σ'' : Sto}, Stp (G.wN fun b => G.N b ∨ b ∈ D :: L :: wr) (fsOf envs) no β' β'' σ'' s' s'' → ∀ b ∈ fp, ∀ o, s'.heap.get? b = some o → s''.heap.get? b = some o := by
    intro s' s'' β' β'' σ' st σ'' st' b hb o e
    exact st'.ext b o e (st.notin (Nat.lt_of_lt_of_le (io.lt b hb) hs24) (io.away b hb).1) id (io.away b hb).2.2
  have firm : ∀ {s' : Shared} {β' : List Addr} {σ' : Sto}, Stp (G.wN fun b => G.N b ∨ b ∈ D :: L :: wr) (fsOf envs) (fun b => b ∈ D :: L :: wr) β β' σ' s₄ s' → Firm (fun b => G.N b ∨ b ∈ D :: L :: wr) s.heap s'.heap := by
    intro s' β' σ' st b o nb eb q
    exact st.ext b o (hks b o eb) (a.inv.firm_notin eb q) (fun h => nb (.inr h)) (a.ar.firm_fs eb q)
  have relS : ∀ {s' : Shared} {β' : List Addr} {σ' : Sto} {i : Nat} {d : Mine.D} {v : Value}, Stp (G.wN fun b => G.N b ∨ b ∈ D :: L :: wr) (fsOf envs) (fun b => b ∈ D :: L :: wr) β β' σ' s₄ s' → src.items[i]? = some d → P i v → Rel (G.wN fun b => G.N b ∨ b ∈ D :: L :: wr) s'.heap β' d v := by
    intro s' β' σ' i d v st hi hp
    have r2 : Rel (G.wN fun b => G.N b ∨ b ∈ D :: L :: wr) s.heap β d v := (hP i d v hi hp).turn fun b o e nn q => by
      rcases q with q | q
      · exact nn q
      · exact Nat.lt_irrefl _ (Nat.lt_of_lt_of_le (Heap.lt_size e) (hw b q).1)
    exact Rel.mono (G := G.wN fun b => G.N b ∨ b ∈ D :: L :: wr) (firm st) st.pre r2
  refine codeAny_compLoop_tests (fun k s' => ∃ i β' σ' acc ys m, i ≤ src.items.length ∧ k = src.items.length + 1 - i ∧ At (G.wN fun b => G.N b ∨ b ∈ D :: L :: wr) n hd A env envs C β' ρ σ' s' ∧
      Stp (G.wN fun b => G.N b ∨ b ∈ D :: L :: wr) (fsOf envs) (fun b => b ∈ D :: L :: wr) β β' σ' s₄ s' ∧ St i s'.heap ∧ s'.heap.Ns L m ∧ s'.heap.PlainList D (List.toArray ys) ∧ RelL (G.wN fun b => G.N b ∨ b ∈ D :: L :: wr) s'.heap β' acc.reverse ys ∧ acc.length ≤ i ∧
      compGo Ev Cd 1 ρ src.src src.all (src.items.drop i) acc σ' = compGo Ev Cd 1 ρ src.src src.all src.items [] σ) ?_ (src.items.length + 1)
    ⟨0, β, σ, [], [], m₀, Nat.zero_le _, rfl, a4, Stp.refl a4.inv, hst, hns, hacc, .nil, Nat.le_refl _, by rw [List.drop_zero]⟩
  rintro k s' ⟨i, β', σ', acc, ys, m, hi, rfl, a', st, hst', hns', hacc', racc, hal, e⟩
  by_cases hlt : i < src.items.length
  · obtain ⟨d, hd', hdrop⟩ : ∃ d, src.items[i]? = some d ∧ src.items.drop i = d :: src.items.drop (i + 1) := ⟨src.items[i], List.getElem?_eq_getElem hlt, List.drop_eq_getElem_cons hlt⟩
    rw [hdrop, compGo] at e
    split at e
    · have hu : unpackT 1 d = some [d] := rfl
      rw [hu] at e
      dsimp only at e
      refine wpAny_sized (W.item i s' _ _ hlt hst' fun v h₁ tk hPv hst₁ hk₁ hz₁ => ?_)
      obtain ⟨a₁, st₁⟩ := moved (s'' := { s' with heap := h₁, toks := tk }) a' st (fun b o nb eb => hk₁ b o (fun q => nb (.tail _ (.tail _ q))) eb) hz₁ rfl rfl
      have hns₁ : h₁.Ns L m := hns'.at' fun o eo => hk₁ L o hLw eo
      have hacc₁ : h₁.PlainList D (List.toArray ys) := hacc'.at fun o eo => hk₁ D o hDw eo
      refine wpAny_assign_Name (wpAny_storeName_local (lookup_relabel_local ok.loc) hns₁ (fun h₂ hn₂ hs₂ => ?_) (by
        show ((relabel scope env).kind == .class || ((relabel scope env).kind == .module && _)) = false
        rw [show (relabel scope env).kind = .function from ok.kind]; rfl))
      obtain ⟨a₂, st₂⟩ := moved (s'' := { s' with heap := h₂, toks := tk + 1 }) a₁ st₁ (fun b o nb eb => hs₂.extBut b o (fun q => nb (q ▸ .tail _ (.head _))) eb) (Nat.le_of_eq hs₂.1.symm) rfl rfl
      have hst₂ : St (i + 1) h₂ := W.frame _ _ _ hst₁ fun b hb o eb => hs₂.extBut b o (fun (q : b = L) => hLf (q ▸ hb)) eb
      have hacc₂ : h₂.PlainList D (List.toArray ys) := hacc₁.at fun o eo => hs₂.extBut D o hDL eo
      have f₂ : Firm (fun b => G.N b ∨ b ∈ D :: L :: wr) s'.heap h₂ := fun b o nb eb _ => hs₂.extBut b o (fun q => nb (.inr (q ▸ .tail _ (.head _)))) (hk₁ b o (fun q => nb (.inr (.tail _ (.tail _ q)))) eb)
      have racc₂ : RelL (G.wN fun b => G.N b ∨ b ∈ D :: L :: wr) h₂ β' acc.reverse ys := RelL.mono (G := G.wN fun b => G.N b ∨ b ∈ D :: L :: wr) f₂ (List.prefix_refl _) racc
      have rd := relS st₂ hd' hPv
      have hLβ : L ∉ β' := st₂.notin hLs4 (aw L (.tail _ (.head _))).1
      have hDβ : D ∉ β' := st₂.notin hDs4 (aw D (.head _)).1
      have aC := comp_at a₂ ok (L := L) (Nat.le_trans hHs (hw L (.tail _ (.head _))).1) hLβ hn₂ (by simp) rd
      -- the rest of a turn, from the test on
      have elts : ∀ {s₃ : Shared} {β₃ : List Addr} {σ₃ : Sto}, Stp (G.wN fun b => G.N b ∨ b ∈ D :: L :: wr) (fsOf envs) no β' β₃ σ₃ { s' with heap := h₂, toks := tk + 1 } s₃ → (match Ev (ρ ++ [some d]) σ₃ with | .ok v σ'' => compGo Ev Cd 1 ρ src.src src.all (src.items.drop (i + 1)) (v :: acc) σ'' | _ => .stuck) = compGo Ev Cd 1 ρ src.src src.all src.items [] σ →
          ∀ Er, wpAny G.M A (eval elt (compEnvC scope (closFrom env scope.names []) L env)) (fun x s₄' => wpAny G.M A (call (.builtin "list.append") [.ref D, x]) (fun _ s₅ => ∃ m_1, m_1 < src.items.length + 1 - i ∧ ∃ i β' σ' acc ys m, i ≤ src.items.length ∧ m_1 = src.items.length + 1 - i ∧ At (G.wN fun b => G.N b ∨ b ∈ D :: L :: wr) n hd A env envs C β' ρ σ' s₅ ∧
            Stp (G.wN fun b => G.N b ∨ b ∈ D :: L :: wr) (fsOf envs) (fun b => b ∈ D :: L :: wr) β β' σ' s₄ s₅ ∧ St i s₅.heap ∧ s₅.heap.Ns L m ∧ s₅.heap.PlainList D (List.toArray ys) ∧ RelL (G.wN fun b => G.N b ∨ b ∈ D :: L :: wr) s₅.heap β' acc.reverse ys ∧ acc.length ≤ i ∧
            compGo Ev Cd 1 ρ src.src src.all (src.items.drop i) acc σ' = compGo Ev Cd 1 ρ src.src src.all src.items [] σ) Er s₄') Er s₃ := by
        intro s₃ β₃ σ₃ st₃ e3 Er
        have aC₃ := aC.step st₃
        have e4 : Ev (ρ ++ [some d]) σ₃ = ev (callN G.P n hd) ce (ρ ++ [some d]) σ₃ := by rw [hE]
        rw [e4] at e3
        refine wpAny_mono (helt (fun b => G.N b ∨ b ∈ D :: L :: wr) aC₃ ?_) (fun y s₅ p => ?_) fun xx s₅ p => ?_
        · intro q
          have q' : ev (callN G.P n hd) ce (ρ ++ [some d]) σ₃ = .stuck := q
          rw [q'] at e3; exact hr e3.symm
        · obtain ⟨d₅, σ₅, β₅, h5, st₅, r5⟩ := p
          have h5' : ev (callN G.P n hd) ce (ρ ++ [some d]) σ₃ = .ok d₅ σ₅ := h5
          rw [h5'] at e3
          dsimp only at e3
          have st₃₅ := st₃.trans st₅
          have a₅ := a₂.step st₃₅
          have stA := st₂.transX (Z := fun b => b ∈ D :: L :: wr) st₃₅ (fun b h => .inl h) (fun b h => h.elim)
          have hDfs := (aw D (.head _)).2.2
          have hacc₅ : s₅.heap.PlainList D (List.toArray ys) := hacc₂.at fun o eo => st₃₅.ext D o eo hDβ id hDfs
          refine wpAny_sized (wpAny_list_append_plain hacc₅ (fun h₆ hl₆ hs₆ hz₆ => ?_) ?_)
          · obtain ⟨a₆, st₆⟩ := moved (s'' := { s₅ with heap := h₆ }) a₅ stA (fun b o nb eb => hs₆.extBut b o (fun q => nb (q ▸ .head _)) eb) (Nat.le_of_eq hs₆.1.symm) rfl rfl
            have f₆ : Firm (fun b => G.N b ∨ b ∈ D :: L :: wr) s₅.heap h₆ := fun b o nb eb _ => hs₆.extBut b o (fun q => nb (.inr (q ▸ .head _))) eb
            refine ⟨src.items.length + 1 - (i + 1), by omega, i + 1, β₅, σ₅, d₅ :: acc, ys ++ [y], _, hlt, rfl, a₆, st₆, ?_, (st₃₅.ns L _ hn₂ hLβ id).sameBut hs₆ (Ne.symm hDL), ?_, ?_, by simp; omega, e3⟩
            · refine W.frame _ _ _ hst₂ fun b hb o eb => hs₆.extBut b o (fun q => hDf (q ▸ hb)) (hfpk st₂ st₃₅ b hb o eb)
            · simpa using hl₆
            · rw [List.reverse_cons]
              refine RelL.append ?_ (.cons (Rel.mono (G := G.wN fun b => G.N b ∨ b ∈ D :: L :: wr) f₆ (List.prefix_refl _) r5) .nil)
              exact RelL.mono (G := G.wN fun b => G.N b ∨ b ∈ D :: L :: wr) f₆ (List.prefix_refl _) (RelL.mono (G := G.wN fun b => G.N b ∨ b ∈ D :: L :: wr) (a₂.firm st₃₅) st₃₅.pre racc₂)
          · have h1 := racc.length
            rw [List.length_reverse] at h1
            have := cap_le
            rw [List.size_toArray]; omega
        · obtain ⟨c, σ₅, ee, h5, _⟩ := p
          have h5' : ev (callN G.P n hd) ce (ρ ++ [some d]) σ₃ = .exc c false σ₅ := h5
          rw [h5'] at e3; exact absurd e3.symm hr
      rcases hcc with ⟨rfl, rfl⟩ | ⟨c, c', rfl, rfl, hc⟩
      · have hCd := hCd.1 rfl
        subst hCd
        dsimp only [List.map_cons, List.map_nil] at e
        rw [List.forIn_nil]
        refine wpAny_pure ?_
        rw [if_pos rfl]
        exact elts (Stp.refl a₂.inv) e _
      · have hCd := hCd.2 _ rfl
        subst hCd
        dsimp only [List.map_cons, List.map_nil] at e
        have e0 : ρ ++ List.map some [d] = ρ ++ [some d] := rfl
        rw [e0] at e
        rw [List.forIn_cons, if_pos rfl]
        have hne : asB (ev (callN G.P n hd) c' (ρ ++ [some d]) σ') ≠ .stuck := by
          intro q
          rcases asB_stuck q with q | ⟨d₃, σ₃, q, hq⟩
          · rw [q] at e; exact hr e.symm
          · rw [q] at e
            cases d₃ <;> first | exact hr e.symm | exact hq _ rfl
        refine wpAny_bind (wpAny_bind (wpAny_mono (hc (fun b => G.N b ∨ b ∈ D :: L :: wr) aC hne) (fun b s₃ p => ?_) fun xx s₃ p => ?_))
        · obtain ⟨σ₃, β₃, h3, st₃⟩ := p
          have h3' : ev (callN G.P n hd) c' (ρ ++ [some d]) σ' = .ok (.bool b) σ₃ := asB_ok h3
          rw [h3'] at e
          refine wpAny_pure ?_
          dsimp only
          rw [List.forIn_nil]
          refine wpAny_pure ?_
          cases b with
          | true =>
            dsimp only at e
            rw [if_pos rfl]
            exact elts st₃ e _
          | false =>
            dsimp only at e
            rw [if_neg (by simp)]
            have a₃ := a₂.step st₃
            refine ⟨src.items.length + 1 - (i + 1), by omega, i + 1, β₃, σ₃, acc, ys, _, hlt, rfl, a₃, st₂.transX (Z := fun b => b ∈ D :: L :: wr) st₃ (fun b h => .inl h) (fun b h => h.elim), ?_, st₃.ns L _ hn₂ hLβ id, hacc₂.at fun o eo => st₃.ext D o eo hDβ id (aw D (.head _)).2.2, RelL.mono (G := G.wN fun b => G.N b ∨ b ∈ D :: L :: wr) (a₂.firm st₃) st₃.pre racc₂, by omega, e⟩
            exact W.frame _ _ _ hst₂ fun b hb o eb => hfpk st₂ st₃ b hb o eb
        · obtain ⟨cx, σ₃, ee, h3, _⟩ := p
          have h3' := asB_exc h3
          have h3'' : ev (callN G.P n hd) c' (ρ ++ [some d]) σ' = .exc cx false σ₃ := h3'
          rw [h3''] at e; exact absurd e.symm hr
    · exact absurd e.symm hr
  · have hin : i = src.items.length := by omega
    subst hin
    rw [List.drop_length, compGo] at e
    split at e
    · refine wpAny_sized (W.done s' _ _ hst' fun h₁ tk hk₁ hz₁ => ?_)
      obtain ⟨a₁, st₁⟩ := moved (s'' := { s' with heap := h₁, toks := tk }) a' st (fun b o nb eb => hk₁ b o (fun q => nb (.tail _ (.tail _ q))) eb) hz₁ rfl rfl
      refine ⟨m, hns'.at' fun o eo => hk₁ L o hLw eo, fun h₂ hs₂ => ?_⟩
      obtain ⟨a₂, st₂⟩ := moved (s'' := { s' with heap := h₂, toks := tk }) a₁ st₁ (fun b o nb eb => hs₂.extBut b o (fun q => nb (q ▸ .tail _ (.head _))) eb) (Nat.le_of_eq hs₂.1.symm) rfl rfl
      have hacc₂ : h₂.PlainList D (List.toArray ys) := (hacc'.at fun o eo => hk₁ D o hDw eo).at fun o eo => hs₂.extBut D o hDL eo
      have f₂ : Firm (fun b => G.N b ∨ b ∈ D :: L :: wr) s'.heap h₂ := fun b o nb eb _ => hs₂.extBut b o (fun q => nb (.inr (q ▸ .tail _ (.head _)))) (hk₁ b o (fun q => nb (.inr (.tail _ (.tail _ q)))) eb)
      have racc₂ : RelL (G.wN fun b => G.N b ∨ b ∈ D :: L :: wr) h₂ β' acc.reverse ys := RelL.mono (G := G.wN fun b => G.N b ∨ b ∈ D :: L :: wr) f₂ (List.prefix_refl _) racc
      have N0 : ∀ (a : Addr) (o : Obj), h₂.get? a = some o → ¬ (G.N a ∨ a ∈ D :: L :: wr) → ¬ G.N a := fun a o _ n q => n (.inl q)
      have rB : RelL G h₂ β' acc.reverse ys := RelL.turn (G := G.wN fun b => G.N b ∨ b ∈ D :: L :: wr) (N := G.N) N0 racc₂
      have stB : Stp G (fsOf envs) (fun b => b ∈ D :: L :: wr) β β' σ' s₄ { s' with heap := h₂, toks := tk } := Stp.turn (G := G.wN fun b => G.N b ∨ b ∈ D :: L :: wr) (N := G.N) N0 st₂
      have st4 : Stp G (fsOf envs) no β β σ s s₄ := Stp.grow a.inv hks (Nat.le_trans io.size hs24) (hg4.trans io.gens) (ho4.trans io.os)
      have stF : Stp G (fsOf envs) no β β' σ' s { s' with heap := h₂, toks := tk } := st4.transX stB (fun b h => h.elim) fun b h => .inr (hw b h).1
      have hDβ : D ∉ β' := st₂.notin hDs4 (aw D (.head _)).1
      obtain ⟨kk, hDo⟩ := hacc₂
      have hcl : acc.reverse.length ≤ cap := by rw [List.length_reverse]; omega
      have hlenβ := stF.inv.len
      refine ⟨.ref σ'.length, σ' ++ [.list acc.reverse], β' ++ [D], by rw [← e]; rfl, ⟨stF.pre.trans (List.prefix_append ..), fun b hb => ?_, stF.inv.push hDβ (.list hDo (rB.mono (Firm.refl _) (List.prefix_append ..)) (hwH D (.head _)) hcl), stF.ext, stF.ns, stF.size, stF.gens, stF.os⟩, .ref ?_⟩
      · rcases List.mem_append.mp hb with q | q
        · exact stF.new b q
        · simp at q; subst q; exact .inr (hw b (.head _)).1
      · rw [List.getElem?_append_right (by rw [hlenβ]; exact Nat.le_refl _), hlenβ, Nat.sub_self]; rfl
    · exact absurd e.symm hr
end
end Mine

/-! part MSnd28 -/
namespace Mine
open PySem PySem.Calls PySem.W PyProof.Rows
set_option maxRecDepth 100000

section
variable {G : Gd} {n : Nat} {hd : Bool} {A : Around} {env : Env} {envs : List Env} {C : CC} {β : List Addr} {ρ : Rho} {σ : Sto} {s : Shared}

theorem compGo_noexc (E : Rho → Sto → Res D) (Cd : Option (Rho → Sto → Res D)) (k : Nat) (ρ : Rho) (src : Option Nat × Option Nat) (all : List D × List D) : ∀ (items acc : List D) (σ : Sto) (c : Nat) (o : Bool) (σ' : Sto), compGo E Cd k ρ src all items acc σ ≠ .exc c o σ'
  | [], acc, σ, c, o, σ' => by
    rw [compGo]; split <;> intro h <;> cases h
  | d :: r, acc, σ, c, o, σ' => by
    have ih := compGo_noexc E Cd k ρ src all r
    rw [compGo]
    split
    · split
      · intro h; cases h
      · cases Cd with
        | none =>
          dsimp only
          split
          · exact ih _ _ c o σ'
          · intro h; cases h
        | some cd =>
          dsimp only
          split
          · split
            · exact ih _ _ c o σ'
            · intro h; cases h
          · exact ih _ _ c o σ'
          · intro h; cases h
    · intro h; cases h

noncomputable def condFn (cl : Call) : Option CE → Option (Rho → Sto → Res D)
  | none => none
  | some c => some fun ρ σ => ev cl c ρ σ

theorem comp_se {elt iter : PySem.Expr} {x : Str} {px pos : Pos} {ifs : List PySem.Expr} {scope : Scope} {ce : CE} {ci : CI} {cc : Option CE} (ok : CompOk C scope x) (hset : ∀ env x, foldedSetIterable iter env x = pure x) (hit : SI G n C iter ci)
    (helt : ∀ N, SE (G.wN N) n (compCC C scope [x]) elt ce) (hcc : CondOk G n (compCC C scope [x]) ifs cc) : SE G n C (.ListComp elt [⟨.Name x px, iter, ifs, 0⟩] scope pos) (.comp ce 1 ci cc) := by
  intro hd A env envs β ρ σ s a hr
  have e0 : ev (callN G.P n hd) (.comp ce 1 ci cc) ρ σ = (evi (callN G.P n hd) ci ρ σ).bind fun s σ => (compGo (fun ρ σ => ev (callN G.P n hd) ce ρ σ) (condFn (callN G.P n hd) cc) 1 ρ s.src s.all s.items [] σ).bind fun ds σ => Mine.alloc (.list ds) σ := by
    cases cc <;> simp only [ev, condFn]
  rw [e0] at hr ⊢
  rw [eval_ListComp]
  have hnames : ∀ y ∈ scope.names, y.2 = .local → scope.names.lookup y.1 = some .local := ok.names
  refine wpAny_comprehension_free (use := none) (g := ⟨.Name x px, iter, ifs, 0⟩) (gs := []) rfl (hset env) (closureFor_some (ok.cells a)) ok.kind hnames ?_
  refine hit a hr fun src σ₁ β₁ s₁ it s₂ h1 h2 h3 => ?_
  rw [h1] at hr ⊢
  simp only [Res.bind_ok] at hr ⊢
  obtain ⟨I, fp, wr, P, St, rfl, W, hst, io, hP, hlen⟩ := h3
  have a₁ := a.step h2
  refine wpAny_newObj_type (wpAny_newFunctionEnv ok.nocell (by intro y hy; simp at hy) (fun h₁ hns₁ hsb₁ => ?_) ok.kind) (Nat.zero_le _)
  dsimp only at hns₁ hsb₁ ⊢
  generalize hH2 : s₂.heap.push { cls := .type "list", dict := none, data := .seq ([] : List Value).toArray } = H2 at hns₁ hsb₁ ⊢
  have hC : H2.objs.size = s₂.heap.objs.size + 1 := by rw [← hH2, Heap.size_push]
  have hDC : s₂.heap.objs.size ≠ H2.objs.size := by rw [hC]; exact Nat.ne_of_lt (Nat.lt_succ_self _)
  have hCle : s₂.heap.objs.size ≤ H2.objs.size := by rw [hC]; exact Nat.le_succ _
  have old : ∀ b o, s₂.heap.get? b = some o → h₁.get? b = some o := fun b o e => hsb₁.extBut b o (fun q => by
    have := Heap.lt_size e
    rw [q, hC] at this
    exact Nat.lt_irrefl _ (Nat.lt_of_succ_lt this)) (Heap.get?_push_of_some _ (hH2 ▸ Heap.get?_push_of_some _ e))
  have hacc : h₁.PlainList s₂.heap.objs.size #[] := ⟨_, hsb₁.extBut _ _ hDC (Heap.get?_push_of_some _ (hH2 ▸ Heap.get?_push_size _ rfl))⟩
  have hst₁ : St 0 h₁ := W.frame _ _ _ hst fun b _ o e => old b o e
  have loop : ∀ Ee, codeAny G.M A (.compLoop (.ListComp elt [⟨.Name x px, iter, ifs, 0⟩] scope pos) 0 (.ref I) (.ref s₂.heap.objs.size) (compEnvC scope (closFrom env scope.names []) H2.objs.size env))
      (compPost G.M A Ee none (PostE G envs β₁ s₁ ((compGo (fun ρ σ => ev (callN G.P n hd) ce ρ σ) (condFn (callN G.P n hd) cc) 1 ρ src.src src.all src.items [] σ₁).bind fun ds σ => Mine.alloc (.list ds) σ)) (.ref s₂.heap.objs.size) H2.objs.size)
      { s₂ with heap := h₁, toks := s₂.toks + ([] : List (Str × Value)).length } := by
    intro Ee
    refine comp_loop (s₂ := s₂) (s₄ := { s₂ with heap := h₁, toks := s₂.toks + ([] : List (Str × Value)).length }) (cc := cc) ok helt hcc W a₁ io hP hlen hst₁ old rfl rfl (Nat.le_refl _) hDC hCle hns₁ hacc rfl ⟨fun q => by rw [q]; rfl, fun c q => by rw [q]; rfl⟩ ?_
    intro q
    exact hr (by rw [q]; rfl)
  have loop' : ∀ Ee, codeAny G.M A (.compLoop (.ListComp elt [⟨.Name x px, iter, ifs, 0⟩] scope pos) 0 (.ref I) (.ref s₂.heap.objs.size) (compEnvC scope (closFrom env scope.names []) H2.objs.size env))
      (compPost G.M A Ee none (PostE G envs β s ((compGo (fun ρ σ => ev (callN G.P n hd) ce ρ σ) (condFn (callN G.P n hd) cc) 1 ρ src.src src.all src.items [] σ₁).bind fun ds σ => Mine.alloc (.list ds) σ)) (.ref s₂.heap.objs.size) H2.objs.size)
      { s₂ with heap := h₁, toks := s₂.toks + ([] : List (Str × Value)).length } := by
    intro Ee
    refine codeAny_mono (loop Ee) fun r s' q => ?_
    cases r with
    | ok f =>
      obtain ⟨m, k1, k2⟩ := q
      exact ⟨m, k1, fun h' hs' => (k2 h' hs').after h2⟩
    | error e => exact q
  exact codeAny_compStart_list (loop' _) (W.self 0 _ _ _ hst₁ (loop' _))
end
end Mine

/-! part MSnd29 -/
namespace Mine
open PySem PySem.Calls PySem.W PyProof.Rows
set_option maxRecDepth 100000

section
variable {G : Gd} {n : Nat} {C : CC}

theorem GOk.wN (ok : GOk G) (N : Addr → Prop) : GOk (G.wN N) := ⟨ok.hg, ok.hb, ok.lim, ok.con, ok.fns, ok.bi⟩

theorem ife_st {t a b : PySem.Expr} {pos : Pos} {ct ca cb : CE} (ht : ST G n C t ct) (ha : ST G n C a ca) (hb : ST G n C b cb) : ST G n C (.IfExp t a b pos) (.ife ct ca cb) := by
  intro hd A env envs β ρ σ s at0
  show DoesB G A envs β s (isTrue t env (eval t env) >>= fun x => if x = true then isTrue a env (eval a env) else isTrue b env (eval b env)) _
  simp only [ev]
  have e : asB ((ev (callN G.P n hd) ct ρ σ).bind (fun t σ => match t with | .bool true => ev (callN G.P n hd) ca ρ σ | .bool false => ev (callN G.P n hd) cb ρ σ | _ => .stuck)) =
      (asB (ev (callN G.P n hd) ct ρ σ)).bind fun x σ => if x then asB (ev (callN G.P n hd) ca ρ σ) else asB (ev (callN G.P n hd) cb ρ σ) := by
    cases ev (callN G.P n hd) ct ρ σ with
    | ok d σ => cases d with
      | bool x => cases x <;> rfl
      | _ => rfl
    | exc => rfl
    | stuck => rfl
  refine DoesB.of_eq ?_ e
  refine seqBB (ht at0) fun x σ₁ β₁ s₁ _ h2 => ?_
  cases x with
  | true => exact ha (at0.step h2)
  | false => exact hb (at0.step h2)

theorem stuck_se {e : PySem.Expr} {c : CE} (h : ∀ cl ρ σ, ev cl c ρ σ = .stuck) : SE G n C e c := by
  intro hd A env envs β ρ σ s a
  rw [h]; exact Does.stuck

/-- what the call of a function needs -/
noncomputable def CallOk (G : Gd) (n : Nat) : Prop := ∀ (N : Addr → Prop) (C : CC) (x : Str) (i : Nat) (p pos : Pos) (es : List PySem.Expr) (cs : List CE), C.g = G.g → x ∈ G.g.fns → nameId x = some i → C.isGlob x = true → (x == ("__debug__" : Str)) = false → SEl (G.wN N) n C es cs → SE (G.wN N) n C (.Call (.Name x p) es [] pos) (.callF i cs)

structure AllE (G : Gd) (n m : Nat) : Prop where
  e : ∀ N C, C.g = G.g → ∀ e c, cE m C e = some c → SE (G.wN N) n C e c ∧ ST (G.wN N) n C e c
  es : ∀ N C, C.g = G.g → ∀ es cs, cEs m C es = some cs → SEl (G.wN N) n C es cs ∧ SEs (G.wN N) n C es cs
  o : ∀ N C, C.g = G.g → ∀ e c, cEo m C e = some c → SEo (G.wN N) n C e c
  i : ∀ N C, C.g = G.g → ∀ e c, cI m C e = some c → SI (G.wN N) n C e c ∧ ∀ env x, foldedSetIterable e env x = pure x

theorem AllE.zero : AllE G n 0 := ⟨fun _ _ _ _ _ h => (nomatch h), fun _ _ _ _ _ h => (nomatch h), fun _ _ _ _ _ h => (nomatch h), fun _ _ _ _ _ h => (nomatch h)⟩

theorem SEs_ne {es : List PySem.Expr} {cs : List CE} (h : SEs G n C es cs) (hl : 2 ≤ es.length) : es ≠ [] := by
  cases es <;> simp at hl ⊢

theorem cE_noset {m : Nat} {e : PySem.Expr} {c : CE} (h : cE m C e = some c) (env : Env) (x : Value) : foldedSetIterable e env x = pure x := by
  cases e with
  | Set es k pos => cases m with
    | zero => cases h
    | succ m => cases h
  | _ => rfl

theorem cE_noslice {m : Nat} {e : PySem.Expr} {c : CE} (h : cE m C e = some c) : isSlice e = false := by
  cases e with
  | Slice lo hi st p => cases m with
    | zero => cases h
    | succ m => cases h
  | _ => rfl
theorem cE_nostar {m : Nat} {e : PySem.Expr} {c : CE} (h : cE m C e = some c) : isStar e = false := by
  cases e with
  | Starred v p => cases m with
    | zero => cases h
    | succ m => cases h
  | _ => rfl

theorem nameOf_some {e : PySem.Expr} {x : Str} (h : nameOf e = some x) : ∃ p, e = .Name x p := by
  cases e with
  | Name y p => cases h; exact ⟨p, rfl⟩
  | _ => cases h
theorem attrOf_some {e o : PySem.Expr} {m : Str} {ap : Pos} (h : attrOf e = some (o, m, ap)) : e = .Attribute o m ap := by
  cases e with
  | Attribute y p => cases h; rfl
  | _ => cases h
theorem sliceOf_some {e : PySem.Expr} {q : Option PySem.Expr × Option PySem.Expr × Option PySem.Expr} (h : sliceOf e = some q) : ∃ p, e = .Slice q.1 q.2.1 q.2.2 p := by
  cases e with
  | Slice lo hi st p => cases h; exact ⟨p, rfl⟩
  | _ => cases h
theorem callOf_some {e : PySem.Expr} {f : Str} {args : List PySem.Expr} (h : callOf e = some (f, args)) : ∃ p pos, e = .Call (.Name f p) args [] pos := by
  cases e with
  | Call g as kws pos =>
    simp only [callOf] at h
    split at h
    · rename_i hk
      obtain ⟨x, hx, e⟩ := Option.map_eq_some_iff.mp h
      obtain ⟨p, rfl⟩ := nameOf_some hx
      cases e
      cases kws with
      | nil => exact ⟨p, pos, rfl⟩
      | cons => cases hk
    · cases h
  | _ => cases h

theorem compOk_of {C : CC} {scope : Scope} {x : Str} (h1 : scope.kind = .function) (h3 : scope.names.lookup x = some .local) (h4 : ∀ p ∈ scope.names, ¬ p.2 = .cell) (h5 : ∀ p ∈ scope.names, ¬ p.2 = .local ∨ scope.names.lookup p.1 = some .local)
    (h6 : ∀ p ∈ scope.names, ¬ p.2 = .free ∨ ((lastIdx p.1 C.vars).isSome = true ∧ (C.kind p.1 = some .cell ∨ C.kind p.1 = some .free))) : CompOk C scope x := by
  refine ⟨h1, h3, fun p hp => h4 p hp, fun p hp hl => ?_, fun y hy => ?_⟩
  · rcases h5 p hp with q | q
    · exact absurd hl q
    · exact q
  · rcases h6 _ hy with q | q
    · exact absurd rfl q
    · exact ⟨Option.isSome_iff_exists.mp q.1, q.2⟩

theorem and_se {es : List PySem.Expr} {cs : List CE} {pos : Pos} (h : SEs G n C es cs) : SE G n C (.BoolOp .And es pos) (.and cs) := by
  intro hd A env envs β ρ σ s a
  simp only [ev]
  exact and_se_go (pos := pos) h a
theorem or_se {es : List PySem.Expr} {cs : List CE} {pos : Pos} (h : SEs G n C es cs) : SE G n C (.BoolOp .Or es pos) (.or cs) := by
  intro hd A env envs β ρ σ s a
  simp only [ev]
  exact or_se_go (pos := pos) h a
theorem and_st {es : List PySem.Expr} {cs : List CE} {pos : Pos} (hne : es ≠ []) (h : SEs G n C es cs) : ST G n C (.BoolOp .And es pos) (.and cs) := by
  intro hd A env envs β ρ σ s a
  simp only [ev]
  exact and_st_go hne h a
theorem or_st {es : List PySem.Expr} {cs : List CE} {pos : Pos} (hne : es ≠ []) (h : SEs G n C es cs) : ST G n C (.BoolOp .Or es pos) (.or cs) := by
  intro hd A env envs β ρ σ s a
  simp only [ev]
  exact or_st_go hne h a

section
variable {m : Nat} {N : Addr → Prop}
theorem both {e : PySem.Expr} {c : CE} (h : SE (G.wN N) n C e c) (hp : ∀ (env : Env) (w : Sem Value), isTrue e env w = (do let v ← w; standAt e.pos; holding [v] (truthy v))) : SE (G.wN N) n C e c ∧ ST (G.wN N) n C e c := ⟨h, ST.plain h hp⟩

theorem cName_ok (ok : GOk G) {x : Str} {p : Pos} {c : CE} (h : cName C x = some c) : SE G n C (.Name x p) c := by
  unfold cName at h
  split at h
  · cases h
  · rename_i hx
    simp only [Bool.or_eq_true, not_or, Bool.not_eq_true] at hx
    split at h
    · rename_i i hi
      split at h
      · rename_i hk
        injection h with h; subst h
        simp only [Bool.or_eq_true, beq_iff_eq] at hk
        intro hd A env envs β ρ σ s at0
        exact loc_sound hx.1 hx.2 hi (by rcases hk with (hk | hk) | hk; exact .inl hk; exact .inr (.inl hk); exact .inr (.inr hk)) at0
      · cases h
    · split at h
      · rename_i hk
        obtain ⟨d, hgd, rfl⟩ := Option.map_eq_some_iff.mp h
        intro hd A env envs β ρ σ s at0
        exact gcon_sound ok hx.1 (by simpa using hk) hgd at0
      · cases h

variable (ih : AllE G n m) (hg : C.g = G.g)
include ih hg

theorem cUn_ok {op : PySem.UnaryOp} {x : PySem.Expr} {p : Pos} {c : CE} (h : cUn ⟨cE m, cEs m, cEo m, cI m⟩ C op x = some c) : SE (G.wN N) n C (.UnaryOp op x p) c ∧ ST (G.wN N) n C (.UnaryOp op x p) c := by
  cases op with
  | Not =>
    obtain ⟨a, ha, rfl⟩ := Option.map_eq_some_iff.mp (show (cE m C x).map CE.not = some c from h)
    exact ⟨not_se (ih.e N C hg _ _ ha).1, not_st (ih.e N C hg _ _ ha).2⟩
  | USub =>
    obtain ⟨a, ha, rfl⟩ := Option.map_eq_some_iff.mp (show (cE m C x).map CE.neg = some c from h)
    exact both (neg_se (ih.e N C hg _ _ ha).1) fun _ _ => rfl
  | _ => cases h

theorem cBool_ok {op : PySem.BoolOp} {vs : List PySem.Expr} {p : Pos} {c : CE} (h : cBool ⟨cE m, cEs m, cEo m, cI m⟩ C op vs = some c) : SE (G.wN N) n C (.BoolOp op vs p) c ∧ ST (G.wN N) n C (.BoolOp op vs p) c := by
  unfold cBool at h
  split at h
  · rename_i hl
    cases op with
    | And =>
      obtain ⟨a, ha, rfl⟩ := Option.map_eq_some_iff.mp (show (cEs m C vs).map CE.and = some c from h)
      have := (ih.es N C hg _ _ ha).2
      exact ⟨and_se this, and_st (SEs_ne this hl) this⟩
    | Or =>
      obtain ⟨a, ha, rfl⟩ := Option.map_eq_some_iff.mp (show (cEs m C vs).map CE.or = some c from h)
      have := (ih.es N C hg _ _ ha).2
      exact ⟨or_se this, or_st (SEs_ne this hl) this⟩
  · cases h

theorem cCompare_ok {l : PySem.Expr} {ops : List CmpOp} {rs : List PySem.Expr} {p : Pos} {c : CE} (h : cCompare ⟨cE m, cEs m, cEo m, cI m⟩ C l ops rs = some c) : SE (G.wN N) n C (.Compare l ops rs p) c ∧ ST (G.wN N) n C (.Compare l ops rs p) c := by
  cases ops with
  | nil => cases h
  | cons o1 ops => cases rs with
    | nil => cases h
    | cons a rs => cases ops with
      | nil => cases rs with
        | cons => cases h
        | nil =>
          replace h : (if behindInMarks o1 a = true then none else (cE m C l).bind fun x => (cE m C a).bind fun y => some (CE.cmp (cCop o1) x y)) = some c := h
          split at h
          · cases h
          · rename_i hm
            simp only [Option.bind_eq_some_iff, Option.some.injEq] at h
            obtain ⟨x, hx, y, hy, rfl⟩ := h
            have hm := (Bool.not_eq_true _).mp hm
            exact ⟨cmp_se hm (ih.e N C hg _ _ hx).1 (ih.e N C hg _ _ hy).1, cmp_st hm (ih.e N C hg _ _ hx).1 (ih.e N C hg _ _ hy).1⟩
      | cons o2 ops => cases rs with
        | nil => cases h
        | cons b rs =>
          replace h : (if (ops.isEmpty && rs.isEmpty && !behindInMarks o2 b) = true then (cE m C l).bind fun x => (cE m C a).bind fun y => (cE m C b).bind fun z => some (CE.cmp2 (cCop o1) (cCop o2) x y z) else none) = some c := h
          split at h
          · rename_i hm
            simp only [Bool.and_eq_true, List.isEmpty_iff, Bool.not_eq_true'] at hm
            obtain ⟨⟨rfl, rfl⟩, hm⟩ := hm
            simp only [Option.bind_eq_some_iff, Option.some.injEq] at h
            obtain ⟨x, hx, y, hy, z, hz, rfl⟩ := h
            exact ⟨cmp2_se hm (ih.e N C hg _ _ hx).1 (ih.e N C hg _ _ hy).1 (ih.e N C hg _ _ hz).1, cmp2_st hm (ih.e N C hg _ _ hx).1 (ih.e N C hg _ _ hy).1 (ih.e N C hg _ _ hz).1⟩
          · cases h

theorem cSub_ok {v s : PySem.Expr} {p : Pos} {c : CE} (h : cSub ⟨cE m, cEs m, cEo m, cI m⟩ C v s = some c) : SE (G.wN N) n C (.Subscript v s p) c := by
  unfold cSub at h
  cases hs : sliceOf s with
  | some q =>
    obtain ⟨lo, hi, st⟩ := q
    rw [hs] at h
    obtain ⟨sp, hs'⟩ := sliceOf_some hs
    dsimp only at hs'
    subst hs'
    cases st with
    | some _ => cases h
    | none =>
      replace h : ((cE m C v).bind fun x => (cEo m C lo).bind fun y => (cEo m C hi).bind fun z => some (CE.slice x y z)) = some c := h
      simp only [Option.bind_eq_some_iff, Option.some.injEq] at h
      obtain ⟨a, ha, b, hb, c', hc, rfl⟩ := h
      intro hd A env envs β ρ σ s at0
      exact slice_se (ih.e N C hg _ _ ha).1 (ih.o N C hg _ _ hb) (ih.o N C hg _ _ hc) at0
  | none =>
    rw [hs] at h
    replace h : ((cE m C v).bind fun x => (cE m C s).bind fun y => some (CE.sub x y)) = some c := h
    simp only [Option.bind_eq_some_iff, Option.some.injEq] at h
    obtain ⟨a, ha, b, hb, rfl⟩ := h
    intro hd A env envs β ρ σ s at0
    exact sub_se (cE_noslice hb) (ih.e N C hg _ _ ha).1 (ih.e N C hg _ _ hb).1 at0

theorem cIsi_ok (ok : GOk G) {args : List PySem.Expr} {fp p : Pos} {c : CE} (hgl : C.isGlob "isinstance" = true) (h : cIsi ⟨cE m, cEs m, cEo m, cI m⟩ C args = some c) : SE (G.wN N) n C (.Call (.Name "isinstance" fp) args [] p) c := by
  cases args with
  | nil => cases h
  | cons e r => cases r with
    | nil => cases h
    | cons t r => cases r with
      | cons => cases h
      | nil =>
        unfold cIsi at h
        dsimp only [List.isEmpty_nil] at h
        rw [if_pos rfl] at h
        cases ht : nameOf t with
        | none => rw [ht] at h; cases h
        | some y =>
          rw [ht] at h
          dsimp only at h
          obtain ⟨tp, rfl⟩ := nameOf_some ht
          split at h
          · rename_i hgt
            simp only [Option.bind_eq_bind, Option.bind_eq_some_iff, Option.some.injEq] at h
            obtain ⟨a, ha, ty, hty, rfl⟩ := h
            have hx : ∀ c, ty ≠ .exc c := by
              intro c q
              subst q
              unfold tyOf at hty
              repeat (split at hty; cases hty)
              cases hty
            intro hd A env envs β ρ σ s at0
            exact isi_se (ok.wN N) (cE_nostar ha) hgl hgt hty hx (ih.e N C hg _ _ ha).1 at0
          · cases h

theorem cCallN_ok (ok : GOk G) (hcall : CallOk G n) {f : Str} {args : List PySem.Expr} {fp p : Pos} {c : CE} (h : cCallN ⟨cE m, cEs m, cEo m, cI m⟩ C f args = some c) : SE (G.wN N) n C (.Call (.Name f fp) args [] p) c := by
  unfold cCallN at h
  split at h
  · cases h
  · rename_i hgl
    simp only [Bool.or_eq_true, not_or, Bool.not_eq_true, Bool.not_eq_false'] at hgl
    have hgl1 := hgl.1
    split at h
    · rename_i hfn
      simp only [Option.bind_eq_bind, Option.bind_eq_some_iff, Option.some.injEq] at h
      obtain ⟨i, hi, cs, hcs, rfl⟩ := h
      intro hd A env envs β ρ σ s at0
      exact hcall N C _ i _ _ _ _ hg (by rw [← hg]; simpa using hfn) hi hgl1 hgl.2 (ih.es N C hg _ _ hcs).1 at0
    · split at h
      · cases h
      · split at h
        · rename_i hisi
          have hisi := eq_of_beq hisi
          subst hisi
          intro hd A env envs β ρ σ s at0
          exact cIsi_ok ih hg ok hgl1 h at0
        · simp only [Option.bind_eq_bind, Option.bind_eq_some_iff, Option.some.injEq] at h
          obtain ⟨b, hb, cs, hcs, rfl⟩ := h
          intro hd A env envs β ρ σ s at0
          exact callB_se (ok.wN N) hb hgl1 (ih.es N C hg _ _ hcs).1 at0

theorem cCall_ok (ok : GOk G) (hcall : CallOk G n) {f : PySem.Expr} {args : List PySem.Expr} {p : Pos} {c : CE} (h : cCall ⟨cE m, cEs m, cEo m, cI m⟩ C f args p = some c) : SE (G.wN N) n C (.Call f args [] p) c := by
  unfold cCall at h
  cases hf : nameOf f with
  | some x =>
    rw [hf] at h
    obtain ⟨fp, rfl⟩ := nameOf_some hf
    intro hd A env envs β ρ σ s at0
    exact cCallN_ok ih hg ok hcall h at0
  | none =>
    rw [hf] at h
    cases ha : attrOf f with
    | none => rw [ha] at h; cases h
    | some q =>
      obtain ⟨o, mm, ap⟩ := q
      rw [ha] at h
      obtain rfl := attrOf_some ha
      dsimp only at h
      split at h
      · cases h
      · rename_i hb
        simp only [Bool.or_eq_true, not_or, Bool.not_eq_true, Bool.not_eq_false'] at hb
        simp only [Option.bind_eq_bind, Option.bind_eq_some_iff, Option.some.injEq] at h
        obtain ⟨a, ha, i, hi, cs, hcs, rfl⟩ := h
        intro hd A env envs β ρ σ s at0
        exact meth_se hb.1.1 (by simpa using hb.1.2) (by simpa using hb.2) hi (ih.e N C hg _ _ ha).1 (ih.es N C hg _ _ hcs).1 at0

theorem cComp_ok {elt target iter : PySem.Expr} {ifs : List PySem.Expr} {scope : Scope} {p : Pos} {c : CE} (h : cComp ⟨cE m, cEs m, cEo m, cI m⟩ C elt target iter ifs scope = some c) : SE (G.wN N) n C (.ListComp elt [⟨target, iter, ifs, 0⟩] scope p) c := by
  unfold cComp at h
  simp only [Option.bind_eq_bind, Option.bind_eq_some_iff] at h
  obtain ⟨x, hx, h⟩ := h
  split at h
  · rename_i hc
    simp only [Bool.and_eq_true, beq_iff_eq, List.all_eq_true, Bool.or_eq_true, bne_iff_ne, ne_eq] at hc
    obtain ⟨⟨⟨⟨h1, h3⟩, h4⟩, h5⟩, h6⟩ := hc
    obtain ⟨px, rfl⟩ := nameOf_some hx
    have cok := compOk_of h1 h3 h4 h5 h6
    simp only [Option.bind_eq_some_iff] at h
    obtain ⟨ce, hce, ci, hci, h⟩ := h
    cases ifs with
    | nil =>
      injection h with h; subst h
      intro hd A env envs β ρ σ s at0
      exact comp_se cok (ih.i N C hg _ _ hci).2 (ih.i N C hg _ _ hci).1 (fun N' => (ih.e N' (compCC C _ [x]) hg _ _ hce).1) (.inl ⟨rfl, rfl⟩) at0
    | cons cnd r => cases r with
      | cons => cases h
      | nil =>
        replace h : ((cE m (compCC C scope [x]) cnd).bind fun y => some (CE.comp ce 1 ci (some y))) = some c := h
        simp only [Option.bind_eq_some_iff, Option.some.injEq] at h
        obtain ⟨cc, hcc, rfl⟩ := h
        intro hd A env envs β ρ σ s at0
        exact comp_se cok (ih.i N C hg _ _ hci).2 (ih.i N C hg _ _ hci).1 (fun N' => (ih.e N' (compCC C _ [x]) hg _ _ hce).1) (.inr ⟨_, _, rfl, rfl, fun N' => (ih.e N' (compCC C _ [x]) hg _ _ hcc).2⟩) at0
  · cases h

theorem cE_ok (ok : GOk G) (hcall : CallOk G n) {e : PySem.Expr} {c : CE} (h : cEstep ⟨cE m, cEs m, cEo m, cI m⟩ C e = some c) : SE (G.wN N) n C e c ∧ ST (G.wN N) n C e c := by
  cases e with
  | Constant k a p =>
    obtain ⟨d, hd, rfl⟩ := Option.map_eq_some_iff.mp (show (cConst k).map CE.lit = some c from h)
    exact both (lit_sound hd) fun _ _ => rfl
  | Name x p => exact both (cName_ok (ok.wN N) h) fun _ _ => rfl
  | BinOp l op r p =>
    replace h : ((cBop op).bind fun o => (cE m C l).bind fun x => (cE m C r).bind fun y => some (CE.bin o x y)) = some c := h
    simp only [Option.bind_eq_some_iff, Option.some.injEq] at h
    obtain ⟨o, ho, a, ha, b, hb, rfl⟩ := h
    exact both (bin_se ho (ih.e N C hg _ _ ha).1 (ih.e N C hg _ _ hb).1) fun _ _ => rfl
  | UnaryOp op x p => exact cUn_ok ih hg h
  | BoolOp op vs p => exact cBool_ok ih hg h
  | Compare l ops rs p => exact cCompare_ok ih hg h
  | IfExp t a b p =>
    replace h : ((cE m C t).bind fun x => (cE m C a).bind fun y => (cE m C b).bind fun z => some (CE.ife x y z)) = some c := h
    simp only [Option.bind_eq_some_iff, Option.some.injEq] at h
    obtain ⟨a, ha, b, hb, c', hc, rfl⟩ := h
    exact ⟨ife_se (ih.e N C hg _ _ ha).2 (ih.e N C hg _ _ hb).1 (ih.e N C hg _ _ hc).1, ife_st (ih.e N C hg _ _ ha).2 (ih.e N C hg _ _ hb).2 (ih.e N C hg _ _ hc).2⟩
  | List es p =>
    replace h : (if es.length ≤ 1000 then (cEs m C es).map CE.list else none) = some c := h
    split at h
    · rename_i hl
      obtain ⟨a, ha, rfl⟩ := Option.map_eq_some_iff.mp h
      exact both (list_se (ih.es N C hg _ _ ha).1 (Nat.le_trans hl (by decide))) fun _ _ => rfl
    · cases h
  | Tuple es k p =>
    replace h : (if es.length ≤ 1000 then (cEs m C es).map CE.tup else none) = some c := h
    split at h
    · rename_i hl
      obtain ⟨a, ha, rfl⟩ := Option.map_eq_some_iff.mp h
      exact both (tup_se (ih.es N C hg _ _ ha).1 (Nat.le_trans hl (by decide))) fun _ _ => rfl
    · cases h
  | Subscript v s p => exact both (cSub_ok ih hg h) fun _ _ => rfl
  | Call f args kws p => cases kws with
    | nil => exact both (cCall_ok ih hg ok hcall h) fun _ _ => rfl
    | cons => cases h
  | ListComp elt gens scope p => cases gens with
    | nil => cases h
    | cons g r => cases r with
      | cons => cases h
      | nil =>
        obtain ⟨gt, gi, gf, ga⟩ := g
        replace h : (if (true && ga == 0) = true then cComp ⟨cE m, cEs m, cEo m, cI m⟩ C elt gt gi gf scope else none) = some c := h
        split at h
        · rename_i hz
          simp only [Bool.true_and, beq_iff_eq] at hz
          subst hz
          exact both (cComp_ok ih hg h) fun _ _ => rfl
        · cases h
  | _ => cases h

theorem cI_ok (ok : GOk G) {e : PySem.Expr} {c : CI} (h : cIstep ⟨cE m, cEs m, cEo m, cI m⟩ C e = some c) : SI (G.wN N) n C e c ∧ ∀ env x, foldedSetIterable e env x = pure x := by
  have evc : ∀ {e : PySem.Expr} {c : CI}, (cE m C e).map CI.ev = some c → SI (G.wN N) n C e c ∧ ∀ env x, foldedSetIterable e env x = pure x := by
    intro e c h
    obtain ⟨a, ha, rfl⟩ := Option.map_eq_some_iff.mp h
    exact ⟨ev_si (ih.e N C hg _ _ ha).1, cE_noset ha⟩
  unfold cIstep at h
  cases hc : callOf e with
  | none => rw [hc] at h; exact evc h
  | some q =>
    obtain ⟨f, args⟩ := q
    rw [hc] at h
    dsimp only at h
    split at h
    · rename_i hr
      obtain ⟨fp, pos, rfl⟩ := callOf_some hc
      simp only [isRange, Bool.and_eq_true] at hr
      have hf := eq_of_beq hr.2
      subst hf
      cases args with
      | nil => cases h
      | cons a r => cases r with
        | cons => cases h
        | nil =>
          replace h : (if (true && !isStar a) = true then (cE m C a).bind fun x => some (CI.range x) else none) = some c := h
          split at h
          · rename_i hst
            simp only [Option.bind_eq_some_iff, Option.some.injEq] at h
            obtain ⟨a, ha, rfl⟩ := h
            exact ⟨range_si (ok.wN N) (by simpa using hst) hr.1.1.1 (ih.e N C hg _ _ ha).1, fun _ _ => rfl⟩
          · cases h
    · exact evc h
end

theorem AllE.succ (ok : GOk G) (hcall : CallOk G n) {m : Nat} (ih : AllE G n m) : AllE G n (m + 1) := by
  refine ⟨fun N C hg e c h => cE_ok ih hg ok hcall h, fun N C hg es cs h => ?_, fun N C hg e c h => ?_, fun N C hg e c h => cI_ok ih hg ok h⟩
  · cases es with
    | nil => cases h; exact ⟨trivial, trivial⟩
    | cons e es =>
      replace h : (if isStar e = true then none else (cE m C e).bind fun x => (cEs m C es).bind fun y => some (x :: y)) = some cs := h
      split at h
      · cases h
      · rename_i hst
        simp only [Option.bind_eq_some_iff, Option.some.injEq] at h
        obtain ⟨a, ha, b, hb, rfl⟩ := h
        have e1 := ih.e N C hg _ _ ha
        have e2 := ih.es N C hg _ _ hb
        exact ⟨⟨by simpa using hst, e1.1, e2.1⟩, ⟨e1, e2.2⟩⟩
  · cases e with
    | none => cases h; exact trivial
    | some e =>
      replace h : ((cE m C e).bind fun x => some (some x)) = some c := h
      simp only [Option.bind_eq_some_iff, Option.some.injEq] at h
      obtain ⟨a, ha, rfl⟩ := h
      exact @fun hd A env envs β ρ σ s x => (ih.e N C hg _ _ ha).1 x
end
end Mine

/-! part MSnd30 -/
namespace Mine
open PySem PySem.Calls PySem.W PyProof.Rows
set_option maxRecDepth 100000

section
variable {G : Gd} {n : Nat} {C : CC}

theorem stuck_ss {st : Stmt} {c : CS} (h : ∀ cl hd ρ σ, ex cl hd c ρ σ = .stuck) : SS G n C st c := by
  intro hd A env envs β ρ σ s a
  rw [h]; exact DoesS.stuck

structure AllS (G : Gd) (n m : Nat) : Prop where
  s : ∀ N C, C.g = G.g → VarsND C.vars → ∀ st c, cS m C st = some c → SS (G.wN N) n C st c
  ss : ∀ N C, C.g = G.g → VarsND C.vars → ∀ ss cs, cSs m C ss = some cs → SSs (G.wN N) n C ss cs
theorem AllS.zero : AllS G n 0 := ⟨fun _ _ _ _ _ _ h => (nomatch h), fun _ _ _ _ _ _ h => (nomatch h)⟩

theorem twoOf_some {t : PySem.Expr} {x y : Str} (h : twoOf t = some (x, y)) : ∃ p1 p2 k p, t = .Tuple [.Name x p1, .Name y p2] k p := by
  cases t with
  | Tuple es k p => cases es with
    | nil => cases h
    | cons a es => cases es with
      | nil => cases h
      | cons b es => cases es with
        | cons => cases h
        | nil =>
          replace h : ((nameOf a).bind fun x => (nameOf b).bind fun y => some (x, y)) = some (x, y) := h
          simp only [Option.bind_eq_some_iff, Option.some.injEq] at h
          obtain ⟨x', hx, y', hy, e⟩ := h
          cases e
          obtain ⟨p1, rfl⟩ := nameOf_some hx
          obtain ⟨p2, rfl⟩ := nameOf_some hy
          exact ⟨p1, p2, k, p, rfl⟩
  | _ => cases h
theorem zipArgs_some {t e1 e2 : PySem.Expr} (h : zipArgs C t = some (e1, e2)) : C.isGlob "zip" = true ∧ ∃ p pos, t = .Call (.Name "zip" p) [e1, e2] [] pos := by
  unfold zipArgs at h
  cases hc : callOf t with
  | none => rw [hc] at h; cases h
  | some q =>
    obtain ⟨f, args⟩ := q
    rw [hc] at h
    obtain ⟨p, pos, rfl⟩ := callOf_some hc
    dsimp only at h
    split at h
    · rename_i hz
      rw [Bool.and_eq_true] at hz
      have hf := eq_of_beq hz.2
      subst hf
      cases args with
      | nil => cases h
      | cons a r => cases r with
        | nil => cases h
        | cons b r => cases r with
          | cons => cases h
          | nil => cases h; exact ⟨hz.1, p, pos, rfl⟩
    · cases h

section
variable {m : Nat} {N : Addr → Prop} (ihE : AllE G n m) (ih : AllS G n m) (hg : C.g = G.g) (hn : VarsND C.vars)
include ihE ih hg hn

theorem cAsg_ok {ts : List PySem.Expr} {v : PySem.Expr} {p : Pos} {c : CS} (h : cAsg ⟨cE m, cI m, cSs m⟩ C ts v = some c) : SS (G.wN N) n C (.Assign ts v p) c := by
  cases ts with
  | nil => cases h
  | cons t r => cases r with
    | cons => cases h
    | nil =>
      unfold cAsg at h
      dsimp only at h
      split at h
      · rename_i hc
        cases ht : nameOf t with
        | none => rw [ht] at h; cases h
        | some x =>
          rw [ht] at h
          obtain ⟨tp, rfl⟩ := nameOf_some ht
          simp only [Option.bind_eq_bind, Option.bind_eq_some_iff, Option.some.injEq] at h
          obtain ⟨i, hi, a, ha, rfl⟩ := h
          exact @asg_ss _ _ _ _ _ _ _ _ _ hn hi (by simpa using hc) (ihE.e N C hg _ _ ha).1
      · cases h

theorem cFor_ok (ok : GOk G) {t it : PySem.Expr} {b : List Stmt} {p : Pos} {c : CS} (h : cFor ⟨cE m, cI m, cSs m⟩ C t it b = some c) : SS (G.wN N) n C (.For t it b [] p) c := by
  unfold cFor at h
  cases ht : nameOf t with
  | some x =>
    rw [ht] at h
    obtain ⟨tp, rfl⟩ := nameOf_some ht
    simp only [Option.bind_eq_bind, Option.bind_eq_some_iff, Option.some.injEq] at h
    obtain ⟨i, hi, ci, hci, b, hb, rfl⟩ := h
    intro hd A env envs β ρ σ s at0
    exact for_ss hn hi (ihE.i N C hg _ _ hci).1 (ihE.i N C hg _ _ hci).2 (fun N' => ih.ss N' C hg hn _ _ hb) at0
  | none =>
    rw [ht] at h
    cases h2 : twoOf t with
    | none => rw [h2] at h; cases h
    | some q =>
      obtain ⟨x, y⟩ := q
      rw [h2] at h
      obtain ⟨p1, p2, k, tp, rfl⟩ := twoOf_some h2
      dsimp only at h
      cases hz : zipArgs C it with
      | none => rw [hz] at h; cases h
      | some q =>
        obtain ⟨e1, e2⟩ := q
        rw [hz] at h
        obtain ⟨hzg, zp, zpos, rfl⟩ := zipArgs_some hz
        simp only [Option.bind_eq_bind, Option.bind_eq_some_iff, Option.some.injEq] at h
        obtain ⟨i, hi, j, hj, c1, hc1, c2, hc2, b, hb, rfl⟩ := h
        have hel : SEl (G.wN N) n C [_, _] [c1, c2] := And.intro (cE_nostar hc1) (And.intro (ihE.e N C hg _ _ hc1).1 (And.intro (cE_nostar hc2) (And.intro (ihE.e N C hg _ _ hc2).1 trivial)))
        intro hd A env envs β ρ σ s at0
        exact for_zip_ss (ok.wN N) hn hi hj hzg hel (fun N' => ih.ss N' C hg hn _ _ hb) at0

theorem cS_ok (ok : GOk G) {st : Stmt} {c : CS} (h : cSstep ⟨cE m, cI m, cSs m⟩ C st = some c) : SS (G.wN N) n C st c := by
  intro hd A env envs β ρ σ s at0
  cases st with
  | Pass p => cases h; exact pass_ss at0
  | Return v p => cases v with
    | none => cases h; exact ret0_ss at0
    | some e =>
      replace h : ((cE m C e).bind fun x => some (CS.ret (some x))) = some c := h
      simp only [Option.bind_eq_some_iff, Option.some.injEq] at h
      obtain ⟨a, ha, rfl⟩ := h
      exact ret_ss (ihE.e N C hg _ _ ha).1 at0
  | Assign ts v p => exact cAsg_ok ihE ih hg hn h at0
  | If t b o p =>
    replace h : ((cE m C t).bind fun x => (cSs m C b).bind fun y => (cSs m C o).bind fun z => some (CS.iff x y z)) = some c := h
    simp only [Option.bind_eq_some_iff, Option.some.injEq] at h
    obtain ⟨t, ht, b, hb, o, ho, rfl⟩ := h
    exact if_ss (ihE.e N C hg _ _ ht).2 (ih.ss N C hg hn _ _ hb) (ih.ss N C hg hn _ _ ho) at0
  | For t it b o p => cases o with
    | nil => exact cFor_ok ihE ih hg hn ok h at0
    | cons => cases h
  | While t b o p => cases o with
    | nil =>
      replace h : ((cE m C t).bind fun x => (cSs m C b).bind fun y => some (CS.while x y)) = some c := h
      simp only [Option.bind_eq_some_iff, Option.some.injEq] at h
      obtain ⟨t, ht, b, hb, rfl⟩ := h
      exact while_ss (ihE.e N C hg _ _ ht).2 (ih.ss N C hg hn _ _ hb) at0
    | cons => cases h
  | Raise e k p =>
    have h : some CS.raise = some c := h
    injection h with h; subst h
    exact stuck_ss (fun cl hd ρ σ => by rw [ex]) at0
  | _ => cases h
end

theorem AllS.succ (ok : GOk G) (hE : ∀ m, AllE G n m) {m : Nat} (ih : AllS G n m) : AllS G n (m + 1) := by
  refine ⟨fun N C hg hn st c h => cS_ok (hE m) ih hg hn ok h, fun N C hg hn ss cs h => ?_⟩
  intro hd A env envs β ρ σ s at0
  cases ss with
  | nil =>
    have h : some [] = some cs := h
    injection h with h; subst h
    exact nil_ss at0
  | cons st ss =>
    have h : (cS m C st).bind (fun a => (cSs m C ss).bind fun b => some (a :: b)) = some cs := h
    simp only [Option.bind_eq_some_iff, Option.some.injEq] at h
    obtain ⟨a, ha, b, hb, rfl⟩ := h
    exact cons_ss (ih.s N C hg hn _ _ ha) (ih.ss N C hg hn _ _ hb) at0

theorem allE_of (ok : GOk G) (hcall : CallOk G n) : ∀ m, AllE G n m
  | 0 => AllE.zero
  | m + 1 => (allE_of ok hcall m).succ ok hcall
theorem allS_of (ok : GOk G) (hE : ∀ m, AllE G n m) : ∀ m, AllS G n m
  | 0 => AllS.zero
  | m + 1 => (allS_of ok hE m).succ ok hE

theorem callOk_zero (ok : GOk G) : CallOk G 0 := by
  intro N C x i p pos es cs hg hx hi hgl hdb h hd A env envs β ρ σ s a
  simp only [ev]
  obtain ⟨f, hmg, hf⟩ := ok.fns x hx i hi
  obtain ⟨o, fd, fn, body, ho, hdata, _⟩ := id hf
  exact callName_sound (G := G.wN N) (f := .ref f) (fun q => global_name (ok.wN N) a hdb (isGlob_kind hgl) hmg q) (Keep.fn (G := G.wN N) ho hdata) h a fun ds σ₁ β₁ vs s₁ _ h2 h3 => Does.stuck

/-- the compiled text does what the model's does, to any depth -/
theorem sound_all (ok : GOk G) : ∀ n, (∀ m, AllE G n m) ∧ ∀ m, AllS G n m
  | 0 => ⟨allE_of ok (callOk_zero ok), allS_of ok (allE_of ok (callOk_zero ok))⟩
  | n + 1 => by
    have ih := (sound_all ok n).2 fuelC
    have hcall : CallOk G (n + 1) := by
      intro N C x i p pos es cs hg hx hi hgl hdb h
      intro hd A env envs β ρ σ s at0
      exact callF_se (G := G.wN N) (ok.wN N) (fun C ss cs hg hn hc => ih.ss N C hg hn ss cs hc) hx hi hgl hdb h at0
    exact ⟨allE_of ok hcall, allS_of ok (allE_of ok hcall)⟩

/-- a call of a function of the text -/
theorem sound_call (ok : GOk G) {hd : Bool} {A : Around} {envs : List Env} {β : List Addr} {σ : Sto} {s : Shared} {i : Nat} {f : Addr} (hf : FnAt G f i) (a : Base G (n + 1) A envs β σ s) {ds : List D} {vs : List Value} (r : RelL G s.heap β ds vs) :
    Does G A envs β s (call (.ref f) vs) (callN G.P (n + 1) hd i ds σ) :=
  fn_sound ok hf (fun C ss cs hg hn hc => ((sound_all ok n).2 fuelC).ss G.N C hg hn ss cs hc) a r
end
end Mine

/-! part MTop -/
namespace Mine
open PySem PySem.Calls PyProof.Rows
set_option maxRecDepth 100000

noncomputable def recAt (p : Program) (i : Nat) : Option DefRec := (recsOf p).find? fun d => nameId d.name == some i
noncomputable def progOf (p : Program) (g : CG) : Prog := fun i => (recAt p i).bind fun d => cFn g d.params d.body d.scope

noncomputable def fnsOk (p : Program) (g : CG) : Bool := g.fns.all fun x => match nameId x with
  | none => true
  | some i => match recAt p i with
    | some d => d.name == x && (cFn g d.params d.body d.scope).isSome
    | none => false
noncomputable def conOk (p : Program) (g : CG) : Bool := g.gc.all fun q => match q.2, valOf p q.1 with
  | .int i, some (.int j) => i == j
  | .str s, some (.str u) => u == tx s && sOk s
  | _, _ => false
noncomputable def biOk (p : Program) (loose : List Str) : Bool := biNames.all fun x => !(startupNames.contains x || loose.contains x || ((recsOf p).map (·.name)).contains x || ((litsOf p).map (·.1)).contains x || ((clssOf p loose).map (·.name)).contains x) && x != "__name__"

theorem gok_of_top {p p' : Program} {w : World} {loose : List Str} {mean : ExcName → Option Value} {mg mb : Str → Option Value} {h : Heap} (T : Top p loose mean mg mb h) {g : CG} {b0 : List Addr} {N : Addr → Prop} {ec : Nat → Value} {fc : Addr}
    (h1 : fnsOk p g = true) (h2 : conOk p g = true) (h3 : biOk p loose = true) : GOk ⟨p', w, h, mg, mb, ec, fc, g, progOf p g, b0, N⟩ := by
  refine ⟨T.g, T.b, T.nolimit, fun x d hd => ?_, fun x hx i hi => ?_, fun x hx => ?_⟩
  · have hm := List.all_eq_true.mp h2 (x, d) (mem_of_lookup' hd)
    dsimp only at hm
    split at hm
    · rename_i i j hv
      obtain ⟨v, hv1, hv2⟩ := T.const x _ hv
      have := hv2 h
      cases this with
      | int _ t => exact ⟨_, hv1, .inl ⟨i, t, rfl, by rw [eq_of_beq hm]⟩⟩
    · rename_i s u hv
      rw [Bool.and_eq_true] at hm
      obtain ⟨v, hv1, hv2⟩ := T.const x _ hv
      have := hv2 h
      cases this with
      | str _ t => exact ⟨_, hv1, .inr ⟨s, t, rfl, by rw [eq_of_beq hm.1], hm.2⟩⟩
    · cases hm
  · have hm := List.all_eq_true.mp h1 x hx
    rw [hi] at hm
    dsimp only at hm
    cases hr : recAt p i with
    | none => rw [hr] at hm; cases hm
    | some d =>
      rw [hr] at hm
      simp only [Bool.and_eq_true] at hm
      have hmem : d ∈ recsOf p := List.mem_of_find?_eq_some hr
      obtain ⟨a, o, pm, code, doc, k1, k2, k3, k4⟩ := T.fn d hmem
      obtain ⟨fn, hfn⟩ := Option.isSome_iff_exists.mp hm.2
      have hx' : d.name = x := eq_of_beq hm.1
      refine ⟨a, by rw [← hx']; exact k1, o, _, fn, d.body, k2, k3, rfl, rfl, rfl, rfl, rfl, k4, ?_, hfn⟩
      show progOf p g i = some fn
      unfold progOf
      rw [hr]; exact hfn
  · have hm := List.all_eq_true.mp h3 x hx
    simp only [Bool.and_eq_true, Bool.not_eq_true', Bool.or_eq_false_iff, List.contains_eq_mem, decide_eq_false_iff_not, bne_iff_ne, ne_eq] at hm
    obtain ⟨⟨⟨⟨⟨q1, q2⟩, q3⟩, q4⟩, q5⟩, q6⟩ := hm
    exact ⟨T.free x q1 q2 q3 q4 q5, T.builtins x q6⟩

/-- the law called at the top: a list of ints, only read -/
theorem top_call {G : Gd} (ok : GOk G) {n : Nat} {A : Around} {s : Shared} {l f : Addr} {i : Nat} {vs : List Value} {ds : List D} (hH : G.H = s.heap) (hb0 : G.b0 = [l]) (hN : G.N = fun _ => False) (hfr : A.frames = some []) (hdp : A.depth + 4 * (n + 2) < recursionLimit) (hu : A.units + 100 * (n + 2) < cLine) (hh : A.handled = none)
    (hf : FnAt G f i) (hl : s.heap.IsList l vs.toArray) (hr : RelL G s.heap [l] ds vs) (hz : ds.length ≤ cap) {b : Bool} {σ' : Sto} (hrun : callN G.P (n + 1) false i [.ref 0] [.froz ds] = .ok (.bool b) σ') {Q : Value → Shared → Prop} {E : Value → Shared → Prop}
    (hQ : ∀ s', (∀ b o, s.heap.get? b = some o → s'.heap.get? b = some o) → s'.gens = s.gens → s'.os = s.os → Q (.bool b) s') : wpAny G.M A (call (.ref f) [.ref l]) Q E s := by
  obtain ⟨o, ho, hc, k, hd⟩ := hl
  have inv : Inv G [l] [.froz ds] s.heap := by
    refine ⟨fun b o e => by rw [hH] at e; exact e, by rw [hb0]; exact List.prefix_refl _, rfl, by simp, fun j ob e => ?_⟩
    cases j with
    | zero =>
      simp at e; subst e
      exact ⟨l, rfl, .froz (by rw [hH]; exact ho) hc hd hr hz⟩
    | succ j => simp at e
  have base : Base G (n + 1) A [] [l] [.froz ds] s := ⟨inv, hfr, (fun e he => by cases he), hdp, hu, hh, (by rw [hH]; exact Nat.le_refl _), (fun b hb => by rw [hN] at hb; exact hb.elim)⟩
  have d := sound_call (hd := false) ok hf base (ds := [.ref 0]) (vs := [.ref l]) (.cons (.ref rfl) .nil)
  refine wpAny_mono (d (by rw [hrun]; intro q; cases q)) (fun v s' p => ?_) fun x s' p => ?_
  · obtain ⟨d', σ₁, β₁, h1, h2, h3⟩ := p
    rw [hrun] at h1; cases h1
    cases h3 with
    | bool b => exact hQ s' (fun c o e => h2.inv.keep c o (by rw [hH]; exact e)) h2.gens h2.os
  · obtain ⟨c, σ₁, e, h1, _⟩ := p
    rw [hrun] at h1; cases h1
end Mine

/-! part MEnd -/
namespace Mine
open PySem PySem.Calls PySem.W PyProof.Rows
set_option maxRecDepth 100000

theorem relL_ints {G : Gd} {h : Heap} {β : List Addr} : ∀ {vs : List Value} {ns : List Int}, IntsAre vs ns → RelL G h β (ns.map .int) vs
  | _, _, .nil => .nil
  | _, _, .cons n t r => .cons (.int n t) (relL_ints r)

/-- the text without the assignments of __name__ -/
noncomputable def isNm : Stmt → Bool
  | .Assign ts _ _ => (match ts with
    | [] => false
    | t :: _ => nameOf t == some (Str.ofString "__name__"))
  | _ => false
noncomputable def viewOf (p : Program) : Program := { p with main := { p.main with body := p.main.body.filter fun s => !isNm s } }

/-- a law's call, from the interpreter's answer -/
theorem law_end {view prog : Program} {w : World} {loose : List Str} {mean : ExcName → Option Value} {mg mb : Str → Option Value} {s : Shared} (T : Top view loose mean mg mb s.heap) (g : CG)
    (h1 : fnsOk view g = true) (h2 : conOk view g = true) (h3 : biOk view loose = true) {x : Str} (hx : g.fns.contains x = true) (hid : nameId x = some 32) {fa : Addr} (hmg : mg x = some (.ref fa))
    {ns : List Int} {l : Addr} {vs : List Value} (hL : s.heap.IsList l vs.toArray) (hI : IntsAre vs ns) (hlen : ¬ 63 < ns.length) {n : Nat} (hn : n ≤ 90) {σ' : Sto} (hrun : callN (progOf view g) (n + 1) false 32 [.ref 0] [.froz (ns.map .int)] = .ok (.bool true) σ')
    {Q : Value → Shared → Prop} {E : Value → Shared → Prop} (hQ : ∀ s' : Shared, (∀ b o, s.heap.get? b = some o → s'.heap.get? b = some o) → s'.gens = s.gens → s'.os = s.os → Q (.bool true) s') :
    wpAny (model prog w) callerA (call (.ref fa) [.ref l]) Q E s := by
  have ok := gok_of_top (p' := prog) (w := w) T (g := g) (b0 := [l]) (N := fun _ => False) (ec := fun _ => .none) (fc := 0) h1 h2 h3
  obtain ⟨f, hf1, hf2⟩ := ok.fns x (by simpa using hx) 32 hid
  have hf : f = fa := by
    have : mg x = some (.ref f) := hf1
    rw [hmg] at this; injection this with this; injection this with this; exact this.symm
  subst hf
  refine top_call ok (n := n) (ds := ns.map .int) rfl rfl rfl rfl ?_ ?_ rfl hf2 hL (relL_ints hI) ?_ hrun hQ
  · show 301 + 4 * (n + 2) < 1000
    omega
  · show 4 + 100 * (n + 2) < 9900
    omega
  · rw [List.length_map]
    have : 63 ≤ cap := by decide
    omega
end Mine

/-! part MPure -/
namespace Mine
open PySem
set_option maxRecDepth 100000

theorem str_beq (a b : List Nat) : ((⟨a.toArray⟩ : Str) == ⟨b.toArray⟩) = (a == b) := by
  by_cases h : a = b
  · subst h; simp
  · have h2 : ¬ ((⟨a.toArray⟩ : Str) = ⟨b.toArray⟩) := fun q => h (by injection q with q; simpa using q)
    rw [beq_eq_false_iff_ne.mpr h]
    exact beq_eq_false_iff_ne.mpr h2

theorem rd_str (n : Nat) (σ : Sto) (a : List Nat) : rd (n + 1) σ (.str a) = some (.str ⟨a.toArray⟩) := by rw [rd]
theorem rd_int (n : Nat) (σ : Sto) (a : Int) : rd (n + 1) σ (.int a) = some (.int a) := by rw [rd]
theorem pyEq_str (σ : Sto) (a b : List Nat) : pyEq σ (.str a) (.str b) = some (a == b) := by
  unfold pyEq rdDepth
  rw [rd_str, rd_str]
  show some (PyData.eqv _ _) = _
  rw [PyData.eqv, str_beq]
theorem pyEq_int (σ : Sto) (a b : Int) : pyEq σ (.int a) (.int b) = some (a == b) := by
  unfold pyEq rdDepth
  rw [rd_int, rd_int]
  show some (PyData.eqv _ _) = _
  rw [PyData.eqv]

/-- ints and texts -/
noncomputable def Flat : D → Prop
  | .int _ => True
  | .str _ => True
  | _ => False

theorem rd_flat {d : D} (h : Flat d) (n : Nat) (σ : Sto) : ∃ x, rd (n + 1) σ d = some x ∧ PyData.eqv x x = true := by
  cases d with
  | int i => exact ⟨_, rd_int n σ i, by simp [PyData.eqv]⟩
  | str s => exact ⟨_, rd_str n σ s, by simp [PyData.eqv]⟩
  | _ => exact h.elim
theorem rd_flats (n : Nat) (σ : Sto) : ∀ {ds : List D}, (∀ d ∈ ds, Flat d) → ∃ xs, ds.mapM (rd (n + 1) σ) = some xs ∧ PyData.eqvAll xs xs = true
  | [], _ => ⟨[], rfl, rfl⟩
  | d :: ds, h => by
    obtain ⟨x, h1, h2⟩ := rd_flat (h d (.head _)) n σ
    obtain ⟨xs, h3, h4⟩ := rd_flats n σ (ds := ds) fun d hd => h d (.tail _ hd)
    refine ⟨x :: xs, ?_, ?_⟩
    · rw [List.mapM_cons, h1, h3]; rfl
    · rw [PyData.eqvAll, h2, h4]; rfl
theorem pyEq_tup (σ : Sto) {ds : List D} (h : ∀ d ∈ ds, Flat d) : pyEq σ (.tup ds) (.tup ds) = some true := by
  obtain ⟨xs, h1, h2⟩ := rd_flats 6 σ h
  have e : rd 8 σ (.tup ds) = some (.tuple xs) := by
    rw [rd, h1]; rfl
  unfold pyEq rdDepth
  rw [e]
  show some (PyData.eqv _ _) = _
  rw [PyData.eqv, h2]

/-- `in` a display of texts -/
theorem rd_strs (σ : Sto) : ∀ ss : List (List Nat), (ss.map D.str).mapM (rd rdDepth σ) = some (ss.map fun s => PyData.str ⟨s.toArray⟩)
  | [] => rfl
  | s :: ss => by
    rw [List.map_cons, List.mapM_cons, rd_strs σ ss]
    unfold rdDepth
    rw [rd_str]; rfl
theorem any_strs (a : List Nat) : ∀ ss : List (List Nat), ((ss.map fun s => PyData.str ⟨s.toArray⟩).any fun y => PyData.eqv y (.str ⟨a.toArray⟩)) = ss.contains a
  | [] => rfl
  | s :: ss => by
    rw [List.map_cons, List.any_cons, any_strs a ss, PyData.eqv, str_beq, List.contains_cons]
    congr 1
    exact Bool.beq_comm
theorem isIn_strs (σ : Sto) (a : List Nat) (ss : List (List Nat)) : isIn σ (.str a) (.tup (ss.map .str)) = some (ss.contains a) := by
  unfold isIn
  split
  · rename_i q; cases q
  · simp only [seqOf, Option.bind_some, rd_strs, any_strs]
    unfold rdDepth
    rw [rd_str]
    simp only [any_strs]

/-! figures -/
theorem dg_range : ∀ (f m : Nat), ∀ c ∈ digitsN f m, 48 ≤ c ∧ c ≤ 57
  | 0, _, c, h => by simp [digitsN] at h
  | f + 1, m, c, h => by
    unfold digitsN at h
    split at h
    · simp at h; omega
    · rcases List.mem_append.mp h with h | h
      · exact dg_range f _ c h
      · simp at h; omega
theorem dg_len : ∀ (k f m : Nat), m < 10 ^ (k + 1) → (digitsN f m).length ≤ k + 1
  | k, 0, m, h => Nat.zero_le _
  | 0, f + 1, m, h => by
    unfold digitsN
    rw [if_pos (by simpa using h)]; exact Nat.le_refl _
  | k + 1, f + 1, m, h => by
    unfold digitsN
    split
    · simp
    · have := dg_len k f (m / 10) (by
        rw [Nat.pow_succ] at h
        exact Nat.div_lt_of_lt_mul (by rw [Nat.mul_comm]; exact h))
      simp only [List.length_append, List.length_cons, List.length_nil]; omega
/-- fuel does not matter -/
theorem dg_fuel : ∀ (f g m : Nat), m < f → m < g → digitsN f m = digitsN g m
  | 0, _, m, h, _ => absurd h (Nat.not_lt_zero _)
  | _, 0, m, _, h => absurd h (Nat.not_lt_zero _)
  | f + 1, g + 1, m, h, h' => by
    unfold digitsN
    split
    · rfl
    · rw [dg_fuel f g (m / 10) (by omega) (by omega)]
theorem digits_small {m : Nat} (h : m < 10) : digits m = [48 + m] := by
  unfold digits digitsN; rw [if_pos h]
theorem digits_step {m : Nat} (h : ¬ m < 10) : digits m = digits (m / 10) ++ [48 + m % 10] := by
  show digitsN (m + 1) m = digitsN (m / 10 + 1) (m / 10) ++ _
  rw [digitsN, if_neg h, dg_fuel m (m / 10 + 1) (m / 10) (by omega) (by omega)]
theorem digits_range {m c : Nat} (h : c ∈ digits m) : 48 ≤ c ∧ c ≤ 57 := dg_range _ _ c h
theorem digits_pos : ∀ m : Nat, 1 ≤ (digits m).length := by
  intro m
  by_cases h : m < 10
  · rw [digits_small h]; exact Nat.le_refl _
  · rw [digits_step h]; simp
theorem digits_len {k m : Nat} (h : m < 10 ^ (k + 1)) : (digits m).length ≤ k + 1 := dg_len k _ m h
/-- no 0 ahead -/
theorem digits_head (m : Nat) : 1 ≤ m → (digits m)[0]? ≠ some 48 := by
  induction m using Nat.strongRecOn with
  | ind m ih =>
    intro hm
    by_cases h : m < 10
    · rw [digits_small h]; simp; omega
    · rw [digits_step h]
      have := ih (m / 10) (by omega) (by omega)
      have hp := digits_pos (m / 10)
      rw [List.getElem?_append_left (by omega)]
      exact this
theorem digits_fold (m : Nat) : (digits m).foldl (fun a c => 10 * a + (c - 48)) 0 = m := by
  induction m using Nat.strongRecOn with
  | ind m ih =>
    by_cases h : m < 10
    · rw [digits_small h]; simp
    · rw [digits_step h, List.foldl_append, ih (m / 10) (by omega)]
      simp only [List.foldl_cons, List.foldl_nil]
      omega
theorem textInt_digits (m : Nat) : textInt (digits m) = some m := by
  unfold textInt
  rw [if_pos]
  · rw [digits_fold]
  · simp only [Bool.and_eq_true, Bool.not_eq_true', List.isEmpty_eq_false_iff, List.all_eq_true, decide_eq_true_eq]
    refine ⟨fun q => ?_, fun c hc => digits_range hc⟩
    have := digits_pos m
    rw [q] at this; simp at this
theorem intText_nat (m : Nat) : intText (m : Int) = digits m := by
  unfold intText
  rw [if_neg (by omega)]; rfl

/-! texts joined -/
theorem joinS_fold (sep : List Nat) : ∀ (ss : List (List Nat)) (h : List Nat), joinS sep (h :: ss) = ss.foldl (fun acc t => acc ++ sep ++ t) h
  | [], h => rfl
  | s :: ss, h => by
    have e : joinS sep (h :: s :: ss) = h ++ sep ++ joinS sep (s :: ss) := rfl
    rw [e, List.foldl_cons, joinS_fold sep ss s]
    generalize h ++ sep = hs
    clear e h
    induction ss generalizing s hs with
    | nil => rfl
    | cons t ts ih => rw [List.foldl_cons, List.foldl_cons, ih]; simp only [List.append_assoc]
theorem sp_free {c : Nat} : ∀ {w : List Nat}, c ∉ w → splitOn c w = [w]
  | [], _ => rfl
  | x :: r, h => by
    rw [splitOn, if_neg (fun q => h (by simp [q])), sp_free (fun q => h (.tail _ q))]
theorem sp_cons {c : Nat} : ∀ {w r : List Nat}, c ∉ w → splitOn c (w ++ c :: r) = w :: splitOn c r
  | [], r, _ => by rw [List.nil_append, splitOn, if_pos rfl]
  | x :: w, r, h => by
    rw [List.cons_append, splitOn, if_neg (fun q => h (by simp [q])), sp_cons (fun q => h (.tail _ q))]
theorem sp_join {c : Nat} : ∀ {ps : List (List Nat)}, ps ≠ [] → (∀ p ∈ ps, c ∉ p) → splitOn c (joinS [c] ps) = ps
  | [], h, _ => absurd rfl h
  | [p], _, h => sp_free (h p (.head _))
  | p :: q :: r, _, h => by
    have e : joinS [c] (p :: q :: r) = p ++ c :: joinS [c] (q :: r) := by
      show p ++ [c] ++ joinS [c] (q :: r) = _
      simp
    rw [e, sp_cons (h p (.head _)), sp_join (by simp) fun x hx => h x (.tail _ hx)]
theorem join_len (sep : List Nat) : ∀ (ss : List (List Nat)), (joinS sep ss).length ≤ (ss.map (·.length)).sum + ss.length * sep.length
  | [] => by simp [joinS]
  | [s] => by simp [joinS]
  | s :: t :: r => by
    have := join_len sep (t :: r)
    have e : joinS sep (s :: t :: r) = s ++ sep ++ joinS sep (t :: r) := rfl
    rw [e]
    simp only [List.length_append, List.map_cons, List.sum_cons, List.length_cons] at this ⊢
    rw [Nat.add_mul]
    omega

/-- stores only grow -/
theorem p_pre_get {σ σ' : Sto} (h : σ <+: σ') {i : Nat} {o : AObj} (e : σ[i]? = some o) : σ'[i]? = some o := by
  obtain ⟨t, rfl⟩ := h
  rw [List.getElem?_append_left (List.getElem?_eq_some_iff.mp e).1]; exact e

/-! the operations, one by one -/
theorem bo_add (x y : Int) (σ : Sto) : binOp .add (.int x) (.int y) σ = .ok (.int (x + y)) σ := rfl
theorem bo_sub (x y : Int) (σ : Sto) : binOp .sub (.int x) (.int y) σ = .ok (.int (x - y)) σ := rfl
theorem bo_mul (x y : Int) (σ : Sto) (h : x.natAbs < 2 ^ 64 ∨ y.natAbs < 2 ^ 64) : binOp .mul (.int x) (.int y) σ = .ok (.int (x * y)) σ := by
  show (if x.natAbs < 2 ^ 64 ∨ y.natAbs < 2 ^ 64 then _ else _) = _
  rw [if_pos h]
theorem bo_fdiv (x y : Int) (σ : Sto) (h : 0 < y ∧ y ≤ divMost) : binOp .fdiv (.int x) (.int y) σ = .ok (.int (x / y)) σ := by
  show (if 0 < y ∧ y ≤ divMost then _ else _) = _
  rw [if_pos h]
theorem bo_mod (x y : Int) (σ : Sto) (h : 0 < y) : binOp .mod (.int x) (.int y) σ = .ok (.int (x % y)) σ := by
  show (if 0 < y then _ else _) = _
  rw [if_pos h]
theorem bo_pow (x y : Int) (σ : Sto) (h : 0 ≤ y ∧ y ≤ 1000 ∧ x.natAbs < 2 ^ 64) : binOp .pow (.int x) (.int y) σ = .ok (.int (x ^ y.toNat)) σ := by
  show (if 0 ≤ y ∧ y ≤ 1000 ∧ x.natAbs < 2 ^ 64 then _ else _) = _
  rw [if_pos h]
theorem bo_cat (x y : List Nat) (σ : Sto) (h : x.length + y.length ≤ most) : binOp .add (.str x) (.str y) σ = .ok (.str (x ++ y)) σ := by
  show (if x.length + y.length ≤ most then _ else _) = _
  rw [if_pos h]
theorem co_eqi (x y : Int) (σ : Sto) : cmpOp .eq (.int x) (.int y) σ = .ok (.bool (x == y)) σ := by
  unfold cmpOp; rw [pyEq_int]; rfl
theorem co_nei (x y : Int) (σ : Sto) : cmpOp .ne (.int x) (.int y) σ = .ok (.bool (!(x == y))) σ := by
  unfold cmpOp; rw [pyEq_int]; rfl
theorem co_eqs (x y : List Nat) (σ : Sto) : cmpOp .eq (.str x) (.str y) σ = .ok (.bool (x == y)) σ := by
  unfold cmpOp; rw [pyEq_str]; rfl
theorem co_nes (x y : List Nat) (σ : Sto) : cmpOp .ne (.str x) (.str y) σ = .ok (.bool (!(x == y))) σ := by
  unfold cmpOp; rw [pyEq_str]; rfl
theorem co_lt (x y : Int) (σ : Sto) : cmpOp .lt (.int x) (.int y) σ = .ok (.bool (decide (x < y))) σ := rfl
theorem co_le (x y : Int) (σ : Sto) : cmpOp .le (.int x) (.int y) σ = .ok (.bool (decide (x ≤ y))) σ := rfl
theorem co_gt (x y : Int) (σ : Sto) : cmpOp .gt (.int x) (.int y) σ = .ok (.bool (decide (y < x))) σ := rfl
theorem co_ge (x y : Int) (σ : Sto) : cmpOp .ge (.int x) (.int y) σ = .ok (.bool (decide (y ≤ x))) σ := rfl
theorem co_memc (c : Nat) (s : List Nat) (σ : Sto) : cmpOp .mem (.str [c]) (.str s) σ = .ok (.bool (s.contains c)) σ := rfl
theorem co_nmemc (c : Nat) (s : List Nat) (σ : Sto) : cmpOp .nmem (.str [c]) (.str s) σ = .ok (.bool (!s.contains c)) σ := rfl
theorem co_mems (a : List Nat) (ss : List (List Nat)) (σ : Sto) : cmpOp .mem (.str a) (.tup (ss.map .str)) σ = .ok (.bool (ss.contains a)) σ := by
  unfold cmpOp; rw [isIn_strs]; rfl
theorem idx_nat {k n : Nat} (h : k < n) : idx? (k : Int) n = some k := by
  unfold idx?
  simp only [show ¬ ((k : Int) < 0) by omega, if_false]
  rw [if_pos (by omega)]; simp
theorem seqOf_list {σ : Sto} {n : Nat} {ds : List D} (h : σ[n]? = some (.list ds)) : seqOf σ (.ref n) = some ds := by
  unfold seqOf; simp only [h]
theorem seqOf_froz {σ : Sto} {n : Nat} {ds : List D} (h : σ[n]? = some (.froz ds)) : seqOf σ (.ref n) = some ds := by
  unfold seqOf; simp only [h]
theorem so_str (s : List Nat) (k c : Nat) (σ : Sto) (h : s[k]? = some c) : subOp (.str s) (.int k) σ = .ok (.str [c]) σ := by
  have hk : k < s.length := (List.getElem?_eq_some_iff.mp h).1
  simp only [subOp, idx_nat hk, Option.bind_some, h]
theorem so_tup (ds : List D) (k : Nat) (d : D) (σ : Sto) (h : ds[k]? = some d) : subOp (.tup ds) (.int k) σ = .ok d σ := by
  have hk : k < ds.length := (List.getElem?_eq_some_iff.mp h).1
  simp only [subOp, seqOf, idx_nat hk, Option.bind_some, h]
theorem so_ref (n : Nat) (ds : List D) (k : Nat) (d : D) (σ : Sto) (hs : seqOf σ (.ref n) = some ds) (h : ds[k]? = some d) : subOp (.ref n) (.int k) σ = .ok d σ := by
  have hk : k < ds.length := (List.getElem?_eq_some_iff.mp h).1
  simp only [subOp, hs, idx_nat hk, Option.bind_some, h]
theorem len_str (s : List Nat) (σ : Sto) : callBi .len [.str s] σ = .ok (.int s.length) σ := rfl
theorem len_tup (s : List D) (σ : Sto) : callBi .len [.tup s] σ = .ok (.int s.length) σ := rfl
theorem len_ref (n : Nat) (ds : List D) (σ : Sto) (hs : seqOf σ (.ref n) = some ds) : callBi .len [.ref n] σ = .ok (.int ds.length) σ := by
  simp only [callBi, hs]

/-! loops -/
theorem for_inv {body : Rho → Sto → Res Fl} {is : List Nat} {all : List D × List D} (J : Nat → Rho → Sto → Prop) : ∀ (items : List D) (k : Nat) (ρ : Rho) (σ : Sto), J k ρ σ →
    (∀ j d ρ σ, items[j]? = some d → J (k + j) ρ σ → ∃ ρ₁ ρ' σ', (unpackT is.length d).bind (setVars ρ is) = some ρ₁ ∧ body ρ₁ σ = .ok (.next ρ') σ' ∧ J (k + j + 1) ρ' σ') →
    ∃ ρ' σ', forGo body is (none, none) all items ρ σ = .ok (.next ρ') σ' ∧ J (k + items.length) ρ' σ'
  | [], k, ρ, σ, h, _ => ⟨ρ, σ, by simp [forGo, stands], h⟩
  | d :: r, k, ρ, σ, h, step => by
    obtain ⟨ρ₁, ρ', σ', h1, h2, h3⟩ := step 0 d ρ σ rfl h
    obtain ⟨ρ₂, σ₂, h4, h5⟩ := for_inv J r (k + 1) ρ' σ' h3 fun j d ρ σ hj hJ => by
      have := step (j + 1) d ρ σ (by simpa using hj) (by rw [show k + (j + 1) = k + 1 + j by omega]; exact hJ)
      rw [show k + (j + 1) + 1 = k + 1 + j + 1 by omega] at this
      exact this
    refine ⟨ρ₂, σ₂, ?_, by rw [List.length_cons, show k + (r.length + 1) = k + 1 + r.length by omega]; exact h5⟩
    rw [forGo, if_pos (by rfl), h1]
    dsimp only
    rw [h2]; exact h4
theorem comp_map {elt : Rho → Sto → Res D} {ρ : Rho} {σ : Sto} {all : List D × List D} {f : D → D} : ∀ (items acc : List D), (∀ d ∈ items, elt (ρ ++ [some d]) σ = .ok (f d) σ) → compGo elt none 1 ρ (none, none) all items acc σ = .ok (acc.reverse ++ items.map f) σ
  | [], acc, _ => by simp [compGo, stands]
  | d :: r, acc, h => by
    rw [compGo, if_pos (by rfl)]
    simp only [unpackT, if_true, List.map_cons, List.map_nil]
    rw [h d (.head _)]
    dsimp only
    rw [comp_map r (f d :: acc) fun x hx => h x (.tail _ hx)]
    simp
theorem while_inv {test : Rho → Sto → Res D} {body : Rho → Sto → Res Fl} (J : Nat → Rho → Sto → Prop) : ∀ (n m : Nat) (ρ : Rho) (σ : Sto), J m ρ σ → m < n →
    (∀ m ρ σ, J m ρ σ → (∃ σ', test ρ σ = .ok (.bool false) σ' ∧ J 0 ρ σ') ∨ ∃ σ₁ ρ' σ' m', test ρ σ = .ok (.bool true) σ₁ ∧ body ρ σ₁ = .ok (.next ρ') σ' ∧ J m' ρ' σ' ∧ m' < m) →
    ∃ ρ' σ' σ'', whileGo test body n ρ σ = .ok (.next ρ') σ'' ∧ test ρ' σ' = .ok (.bool false) σ'' ∧ J 0 ρ' σ''
  | 0, m, _, _, _, h, _ => absurd h (Nat.not_lt_zero _)
  | n + 1, m, ρ, σ, hJ, hm, step => by
    rcases step m ρ σ hJ with ⟨σ', h1, h2⟩ | ⟨σ₁, ρ', σ', m', h1, h2, h3, h4⟩
    · exact ⟨ρ, σ, σ', by rw [whileGo, h1], h1, h2⟩
    · obtain ⟨ρ₂, σ₂, σ₃, h5, h6⟩ := while_inv J n m' ρ' σ' h3 (by omega) step
      exact ⟨ρ₂, σ₂, σ₃, by rw [whileGo, h1]; dsimp only; rw [h2]; exact h5, h6⟩

/-! a body, statement by statement -/
section
variable {cl : Bool → Call} {hd : Bool} {i : Nat} {e : CE} {r : List CS} {ρ ρ' : Rho} {σ σ' σ'' : Sto} {d : D}
theorem x_nil : exs cl hd [] ρ σ = .ok (.next ρ) σ := by rw [exs]
theorem x_asg (d : D) (σ' : Sto) (ρ' : Rho) (h : ev (cl hd) e ρ σ = .ok d σ') (hi : i < ρ.length := by simp) (hρ : ρ.set i (some d) = ρ' := by rfl) : exs cl hd (.asg i e :: r) ρ σ = exs cl hd r ρ' σ' := by
  subst hρ
  rw [exs, ex, h, Res.bind_ok, if_pos hi, Res.bind_ok]
theorem x_ret (d : D) (σ' : Sto) (h : ev (cl hd) e ρ σ = .ok d σ') : exs cl hd (.ret (some e) :: r) ρ σ = .ok (.ret d) σ' := by
  rw [exs, ex, h, Res.bind_ok, Res.bind_ok]
theorem x_skip {t : List CS} (σ' : Sto) (h : ev (cl hd) e ρ σ = .ok (.bool false) σ') : exs cl hd (.iff e t [] :: r) ρ σ = exs cl hd r ρ σ' := by
  rw [exs, ex, h, Res.bind_ok]
  dsimp only
  rw [exs, Res.bind_ok]
theorem x_ifret {t f : List CS} (σ' : Sto) (d : D) (h : ev (cl hd) e ρ σ = .ok (.bool true) σ') (h2 : exs cl hd t ρ σ' = .ok (.ret d) σ'') : exs cl hd (.iff e t f :: r) ρ σ = .ok (.ret d) σ'' := by
  rw [exs, ex, h, Res.bind_ok]
  dsimp only
  rw [h2, Res.bind_ok]
theorem x_ift {t f : List CS} (σ' σ'' : Sto) (ρ' : Rho) (h : ev (cl hd) e ρ σ = .ok (.bool true) σ') (h2 : exs cl hd t ρ σ' = .ok (.next ρ') σ'') : exs cl hd (.iff e t f :: r) ρ σ = exs cl hd r ρ' σ'' := by
  rw [exs, ex, h, Res.bind_ok]
  dsimp only
  rw [h2, Res.bind_ok]
theorem x_iff {t f : List CS} (σ' σ'' : Sto) (ρ' : Rho) (h : ev (cl hd) e ρ σ = .ok (.bool false) σ') (h2 : exs cl hd f ρ σ' = .ok (.next ρ') σ'') : exs cl hd (.iff e t f :: r) ρ σ = exs cl hd r ρ' σ'' := by
  rw [exs, ex, h, Res.bind_ok]
  dsimp only
  rw [h2, Res.bind_ok]
theorem x_for {is : List Nat} {it : CI} {b : List CS} (src : Src) (σ' σ'' : Sto) (ρ' : Rho) (h : evi (cl hd) it ρ σ = .ok src σ') (h2 : forGo (fun ρ σ => exs cl hd b ρ σ) is src.src src.all src.items ρ σ' = .ok (.next ρ') σ'') : exs cl hd (.for is it b :: r) ρ σ = exs cl hd r ρ' σ'' := by
  rw [exs, ex, h, Res.bind_ok, h2, Res.bind_ok]
theorem x_while {c : CE} {b : List CS} (σ' : Sto) (ρ' : Rho) (h : whileGo (fun ρ σ => ev (cl hd) c ρ σ) (fun ρ σ => exs cl hd b ρ σ) whileMost ρ σ = .ok (.next ρ') σ') : exs cl hd (.while c b :: r) ρ σ = exs cl hd r ρ' σ' := by
  rw [exs, ex, h, Res.bind_ok]
end

theorem callN_run {P : Prog} {n : Nat} {hd : Bool} {f : Nat} {as : List D} {σ σ' : Sto} {d : D} {fn : CFn} (h : P f = some fn) (ρ : Rho) (hb : exs (callN P n) hd fn.body ρ σ = .ok (.ret d) σ')
    (hl : as.length = fn.np ∧ fn.np ≤ fn.nv := by exact ⟨rfl, by decide⟩) (hρ : as.map some ++ List.replicate (fn.nv - fn.np) none = ρ := by rfl) : callN P (n + 1) hd f as σ = .ok d σ' := by
  rw [callN, h]
  dsimp only
  rw [if_pos hl, hρ, hb]

theorem isi_int (i : Int) (σ : Sto) : isInst (.int i) .int σ = some true := rfl
theorem isi_str (s : List Nat) (σ : Sto) : isInst (.str s) .str σ = some true := rfl
theorem isi_tup (s : List D) (σ : Sto) : isInst (.tup s) .tuple σ = some true := rfl
theorem isi_sint (s : List Nat) (σ : Sto) : isInst (.str s) .int σ = some false := rfl
theorem isi_ints (i : Int) (σ : Sto) : isInst (.int i) .str σ = some false := rfl
theorem isi_intb (i : Int) (σ : Sto) : isInst (.int i) .bool σ = some false := rfl

theorem m_index (s : List Nat) (c i : Nat) (σ : Sto) (h : s.findIdx? (· == c) = some i) : methBi (.str s) 2 [.str [c]] σ = .ok (.int i) σ := by
  simp only [methBi, h]
theorem strsOf_map : ∀ ss : List (List Nat), strsOf (ss.map .str) = some ss
  | [] => rfl
  | s :: ss => by
    have := strsOf_map ss
    unfold strsOf at this ⊢
    rw [List.map_cons, List.mapM_cons, this]; rfl
theorem m_join (s : List Nat) (ss : List (List Nat)) (n : Nat) (σ : Sto) (h : σ[n]? = some (.list (ss.map .str))) (hz : (ss.map (·.length)).sum + ss.length * s.length ≤ most) : methBi (.str s) 5 [.ref n] σ = .ok (.str (joinS s ss)) σ := by
  simp only [methBi, h, strsOf_map]
  rw [if_pos hz]
theorem m_split (s : List Nat) (c : Nat) (σ : Sto) (hz : s.length ≤ most) : methBi (.str s) 6 [.str [c]] σ = .ok (.ref σ.length) (σ ++ [.list ((splitOn c s).map .str)]) := by
  simp only [methBi, hz, if_true, alloc]
theorem clip_nat {k n : Nat} (h : k ≤ n) : clip (k : Int) n = k := by
  unfold clip
  simp only [show ¬ ((k : Int) < 0) by omega, if_false, show ¬ ((n : Int) < (k : Int)) by omega]
  simp
theorem sl_to (s : List Nat) (k : Nat) (σ : Sto) (h : k ≤ s.length) : sliceOp (.str s) none (some (.int k)) σ = .ok (.str (s.take k)) σ := by
  simp only [sliceOp, bnd, clip_nat h, cut, List.drop_zero]
theorem sl_from (s : List Nat) (k : Nat) (σ : Sto) (h : k ≤ s.length) : sliceOp (.str s) (some (.int k)) none σ = .ok (.str (s.drop k)) σ := by
  simp only [sliceOp, bnd, clip_nat h, cut, List.take_length]
theorem joinS_nil : ∀ ss : List (List Nat), joinS [] ss = ss.flatten
  | [] => rfl
  | [s] => by simp [joinS]
  | s :: t :: r => by
    have e : joinS [] (s :: t :: r) = s ++ [] ++ joinS [] (t :: r) := rfl
    rw [e, joinS_nil (t :: r)]; simp
theorem al_list (ds : List D) (σ : Sto) : alloc (.list ds) σ = .ok (.ref σ.length) (σ ++ [.list ds]) := rfl
theorem get_last (σ : Sto) (o : AObj) : (σ ++ [o])[σ.length]? = some o := by simp
theorem i2 : (2 = 2 ∨ 2 = 5 ∨ 2 = 6) = True := by simp
theorem i5 : (5 = 2 ∨ 5 = 5 ∨ 5 = 6) = True := by simp
theorem i6 : (6 = 2 ∨ 6 = 5 ∨ 6 = 6) = True := by simp

section
variable {cl : Call} {ρ : Rho} {σ σ1 σ2 : Sto}
theorem e_comp {elt : CE} {k : Nat} {it : CI} {src : Src} {ds : List D} (h : evi cl it ρ σ = .ok src σ1) (h2 : compGo (fun ρ σ => ev cl elt ρ σ) none k ρ src.src src.all src.items [] σ1 = .ok ds σ2) : ev cl (.comp elt k it none) ρ σ = .ok (.ref σ2.length) (σ2 ++ [.list ds]) := by
  rw [ev, h, Res.bind_ok, h2, Res.bind_ok]; rfl
theorem e_meth {o : CE} {m : Nat} {as : List CE} {s : List Nat} {ds : List D} (hm : m = 2 ∨ m = 5 ∨ m = 6) (h : ev cl o ρ σ = .ok (.str s) σ1) (h2 : evs cl as ρ σ1 = .ok ds σ2) : ev cl (.meth o m as) ρ σ = methBi (.str s) m ds σ2 := by
  rw [ev, h, Res.bind_ok]
  dsimp only
  rw [if_pos hm, h2, Res.bind_ok]
theorem e_one {e : CE} {d : D} (h : ev cl e ρ σ = .ok d σ1) : evs cl [e] ρ σ = .ok [d] σ1 := by
  rw [evs, h, Res.bind_ok, evs, Res.bind_ok]
theorem e_cons {e : CE} {es : List CE} {d : D} {ds : List D} (h : ev cl e ρ σ = .ok d σ1) (h2 : evs cl es ρ σ1 = .ok ds σ2) : evs cl (e :: es) ρ σ = .ok (d :: ds) σ2 := by
  rw [evs, h, Res.bind_ok, h2, Res.bind_ok]
theorem e_callF {f : Nat} {as : List CE} {ds : List D} (h : evs cl as ρ σ = .ok ds σ1) : ev cl (.callF f as) ρ σ = cl f ds σ1 := by
  rw [ev, h, Res.bind_ok]
theorem e_callB {f : Bi} {as : List CE} {ds : List D} (h : evs cl as ρ σ = .ok ds σ1) : ev cl (.callB f as) ρ σ = callBi f ds σ1 := by
  rw [ev, h, Res.bind_ok]
theorem e_tup {as : List CE} {ds : List D} (h : evs cl as ρ σ = .ok ds σ1) : ev cl (.tup as) ρ σ = .ok (.tup ds) σ1 := by
  rw [ev, h, Res.bind_ok]
theorem e_loc {i : Nat} {d : D} (h : ρ[i]? = some (some d)) : ev cl (.loc i) ρ σ = .ok d σ := by
  rw [ev, h]
theorem e_bin {o : Bop} {l r : CE} {a b : D} (h : ev cl l ρ σ = .ok a σ1) (h2 : ev cl r ρ σ1 = .ok b σ2) : ev cl (.bin o l r) ρ σ = binOp o a b σ2 := by
  rw [ev, h, Res.bind_ok, h2, Res.bind_ok]
theorem e_cmp {o : Cop} {l r : CE} {a b : D} (h : ev cl l ρ σ = .ok a σ1) (h2 : ev cl r ρ σ1 = .ok b σ2) : ev cl (.cmp o l r) ρ σ = cmpOp o a b σ2 := by
  rw [ev, h, Res.bind_ok, h2, Res.bind_ok]
theorem e_sub {l r : CE} {a b : D} (h : ev cl l ρ σ = .ok a σ1) (h2 : ev cl r ρ σ1 = .ok b σ2) : ev cl (.sub l r) ρ σ = subOp a b σ2 := by
  rw [ev, h, Res.bind_ok, h2, Res.bind_ok]
theorem e_not {e : CE} {b : Bool} (h : ev cl e ρ σ = .ok (.bool b) σ1) : ev cl (.not e) ρ σ = .ok (.bool (!b)) σ1 := by
  rw [ev, h, Res.bind_ok]
theorem e_and1 {e : CE} {es : List CE} {r : Res D} (h : ev cl e ρ σ = .ok (.bool true) σ1) (h2 : evAnd cl es ρ σ1 = r) (hne : es ≠ []) : evAnd cl (e :: es) ρ σ = r := by
  cases es with
  | nil => exact absurd rfl hne
  | cons e2 r2 => simp only [evAnd, h, Res.bind_ok]; exact h2
theorem e_and0 {e : CE} {es : List CE} (h : ev cl e ρ σ = .ok (.bool false) σ1) : evAnd cl (e :: es) ρ σ = .ok (.bool false) σ1 := by
  cases es with
  | nil => rw [evAnd, h]
  | cons e2 r2 => simp only [evAnd, h, Res.bind_ok]
theorem e_or0 {e : CE} {es : List CE} {r : Res D} (h : ev cl e ρ σ = .ok (.bool false) σ1) (h2 : evOr cl es ρ σ1 = r) (hne : es ≠ []) : evOr cl (e :: es) ρ σ = r := by
  cases es with
  | nil => exact absurd rfl hne
  | cons e2 r2 => simp only [evOr, h, Res.bind_ok]; exact h2
end

end Mine

/-! part MP07 -/
namespace Mine
open PySem
set_option maxRecDepth 100000
noncomputable def fn_is_ware : CFn :=
  { np := 1, nv := 2, body := [.iff (.or [.not (.isinst (.loc 0) .str), .cmp .lt (.callB .len [.loc 0]) (.lit (.int 1)), .cmp .gt (.callB .len [.loc 0]) (.gcon 0 (.int 20))]) [.ret (some (.lit (.bool false)))] [], .for [1] (.ev (.loc 0)) [.iff (.cmp .nmem (.loc 1) (.gcon 0 (.str [97, 98, 99, 100, 101, 102, 103, 104, 105, 106, 107, 108, 109, 110, 111, 112, 113, 114, 115, 116, 117, 118, 119, 120, 121, 122]))) [.ret (some (.lit (.bool false)))] []], .ret (some (.lit (.bool true)))] }
noncomputable def fn_shown : CFn :=
  { np := 1, nv := 1, body := [.ret (some (.meth (.lit (.str [32])) 5 [.comp (.callB .str [.loc 1]) 1 (.ev (.loc 0)) none]))] }
noncomputable def fn_number_of : CFn :=
  { np := 3, nv := 4, body := [.iff (.or [.cmp .lt (.callB .len [.loc 0]) (.lit (.int 1)), .cmp .gt (.callB .len [.loc 0]) (.lit (.int 31)), .and [.cmp .gt (.callB .len [.loc 0]) (.lit (.int 1)), .cmp .eq (.sub (.loc 0) (.lit (.int 0))) (.lit (.str [48]))]]) [.raise] [], .for [3] (.ev (.loc 0)) [.iff (.cmp .nmem (.loc 3) (.gcon 0 (.str [48, 49, 50, 51, 52, 53, 54, 55, 56, 57]))) [.raise] []], .iff (.not (.cmp2 .le .le (.loc 1) (.callB .int [.loc 0]) (.loc 2))) [.raise] [], .ret (some (.callB .int [.loc 0]))] }
noncomputable def fn_ware_of : CFn :=
  { np := 1, nv := 1, body := [.iff (.not (.callF 19 [.loc 0])) [.raise] [], .ret (some (.loc 0))] }
noncomputable def fn_place_of : CFn :=
  { np := 1, nv := 1, body := [.ret (some (.callF 78 [.loc 0, .lit (.int 0), .gcon 0 (.int 9999)]))] }
noncomputable def fn_read : CFn :=
  { np := 1, nv := 4, body := [.asg 1 (.meth (.loc 0) 6 [.lit (.str [32])]), .asg 2 (.sub (.loc 1) (.lit (.int 0))), .asg 3 (.callB .len [.loc 1]), .iff (.and [.cmp .eq (.loc 3) (.lit (.int 4)), .cmp .mem (.loc 2) (.tup [.lit (.str [99, 111, 109, 101]), .lit (.str [103, 111]), .lit (.str [104, 111, 108, 100])])]) [.ret (some (.tup [.loc 2, .callF 80 [.sub (.loc 1) (.lit (.int 1))], .callF 79 [.sub (.loc 1) (.lit (.int 2))], .callF 78 [.sub (.loc 1) (.lit (.int 3)), .lit (.int 1), .gcon 0 (.int 1000000000000000000000000000000)]]))] [], .iff (.and [.cmp .eq (.loc 3) (.lit (.int 4)), .cmp .eq (.loc 2) (.lit (.str [99, 111, 117, 110, 116, 101, 100]))]) [.ret (some (.tup [.loc 2, .callF 80 [.sub (.loc 1) (.lit (.int 1))], .callF 79 [.sub (.loc 1) (.lit (.int 2))], .callF 78 [.sub (.loc 1) (.lit (.int 3)), .lit (.int 0), .gcon 0 (.int 1000000000000000000000000000000)]]))] [], .iff (.and [.cmp .eq (.loc 3) (.lit (.int 5)), .cmp .eq (.loc 2) (.lit (.str [109, 111, 118, 101]))]) [.ret (some (.tup [.loc 2, .callF 80 [.sub (.loc 1) (.lit (.int 1))], .callF 80 [.sub (.loc 1) (.lit (.int 2))], .callF 79 [.sub (.loc 1) (.lit (.int 3))], .callF 78 [.sub (.loc 1) (.lit (.int 4)), .lit (.int 1), .gcon 0 (.int 1000000000000000000000000000000)]]))] [], .iff (.and [.cmp .eq (.loc 3) (.lit (.int 2)), .cmp .mem (.loc 2) (.tup [.lit (.str [108, 101, 116]), .lit (.str [116, 97, 107, 101])])]) [.ret (some (.tup [.loc 2, .callF 78 [.sub (.loc 1) (.lit (.int 1)), .lit (.int 1), .gcon 0 (.int 1000000000000000000000000000000)]]))] [], .iff (.and [.cmp .eq (.loc 3) (.lit (.int 3)), .cmp .eq (.loc 2) (.lit (.str [115, 104, 105, 102, 116]))]) [.ret (some (.tup [.loc 2, .callF 78 [.sub (.loc 1) (.lit (.int 1)), .lit (.int 1), .gcon 0 (.int 1000000000000000000000000000000)], .callF 80 [.sub (.loc 1) (.lit (.int 2))]]))] [], .iff (.and [.cmp .eq (.loc 3) (.lit (.int 3)), .cmp .eq (.loc 2) (.lit (.str [119, 105, 115, 104]))]) [.ret (some (.tup [.loc 2, .callF 79 [.sub (.loc 1) (.lit (.int 1))], .callF 78 [.sub (.loc 1) (.lit (.int 2)), .lit (.int 1), .gcon 0 (.int 1000000000000000000000000000000)]]))] [], .raise] }
noncomputable def fn__law_whole : CFn :=
  { np := 1, nv := 1, body := [.ret (some (.and [.isinst (.loc 0) .int, .not (.isinst (.loc 0) .bool)]))] }
noncomputable def fn__law_cell_at : CFn :=
  { np := 2, nv := 2, body := [.iff (.cmp .lt (.loc 1) (.callB .len [.loc 0])) [.ret (some (.sub (.loc 0) (.loc 1)))] [], .ret (some (.lit (.int 0)))] }
noncomputable def fn__law_ware_by : CFn :=
  { np := 1, nv := 3, body := [.asg 1 (.lit (.str [])), .for [2] (.range (.bin .add (.lit (.int 1)) (.bin .mod (.loc 0) (.lit (.int 19))))) [.asg 1 (.bin .add (.loc 1) (.sub (.lit (.str [97, 98, 99, 100, 101, 102, 103, 104, 105, 106, 107, 108, 109, 110, 111, 112, 113, 114, 115, 116, 117, 118, 119, 120, 121, 122])) (.bin .mod (.bin .add (.bin .add (.bin .fdiv (.loc 0) (.lit (.int 19))) (.bin .mul (.lit (.int 7)) (.loc 2))) (.bin .mul (.loc 2) (.loc 2))) (.lit (.int 26)))))], .ret (some (.loc 1))] }
noncomputable def fn__law_wares : CFn :=
  { np := 1, nv := 7, body := [.asg 1 (.callF 27 [.bin .mod (.loc 0) (.lit (.int 494000))]), .asg 2 (.lit (.str [97, 98, 99, 100, 101, 102, 103, 104, 105, 106, 107, 108, 109, 110, 111, 112, 113, 114, 115, 116, 117, 118, 119, 120, 121, 122, 97])), .asg 3 (.bin .mod (.bin .fdiv (.loc 0) (.lit (.int 7))) (.callB .len [.loc 1])), .asg 4 (.sub (.loc 2) (.bin .add (.meth (.loc 2) 2 [.sub (.loc 1) (.loc 3)]) (.lit (.int 1)))), .asg 5 (.bin .add (.bin .add (.slice (.loc 1) none (some (.loc 3))) (.loc 4)) (.slice (.loc 1) (some (.bin .add (.loc 3) (.lit (.int 1)))) none)), .asg 6 (.meth (.lit (.str [])) 5 [.comp (.sub (.loc 1) (.bin .sub (.bin .sub (.callB .len [.loc 1]) (.lit (.int 1))) (.loc 7))) 1 (.range (.callB .len [.loc 1])) none]), .iff (.and [.cmp .eq (.bin .mod (.bin .mod (.bin .mul (.loc 0) (.lit (.int 48271))) (.lit (.int 65537))) (.lit (.int 2))) (.lit (.int 1)), .cmp .ne (.loc 6) (.loc 1)]) [.asg 5 (.loc 6)] [], .ret (some (.list [.loc 1, .bin .add (.loc 1) (.lit (.str [97])), .loc 5]))] }
noncomputable def fn__law_places : CFn :=
  { np := 1, nv := 3, body := [.asg 1 (.bin .mod (.bin .fdiv (.loc 0) (.lit (.int 24))) (.lit (.int 4990))), .asg 2 (.sub (.list [.lit (.int 10), .lit (.int 64), .lit (.int 100), .lit (.int 256), .lit (.int 1000), .lit (.int 1024), .lit (.int 4096), .lit (.int 5000)]) (.bin .mod (.bin .fdiv (.loc 0) (.lit (.int 3))) (.lit (.int 8)))), .ret (some (.list [.loc 1, .bin .add (.loc 1) (.lit (.int 1)), .bin .add (.loc 1) (.loc 2), .lit (.int 9999)]))] }
noncomputable def fn__law_number_by : CFn :=
  { np := 2, nv := 2, body := [.iff (.cmp .eq (.bin .mod (.loc 0) (.lit (.int 3))) (.lit (.int 0))) [.ret (some (.bin .add (.loc 1) (.bin .mod (.bin .fdiv (.loc 0) (.lit (.int 3))) (.lit (.int 20)))))] [], .iff (.cmp .eq (.bin .mod (.loc 0) (.lit (.int 3))) (.lit (.int 1))) [.ret (some (.bin .sub (.bin .pow (.lit (.int 10)) (.lit (.int 30))) (.bin .mod (.bin .fdiv (.loc 0) (.lit (.int 3))) (.lit (.int 20)))))] [], .ret (some (.bin .add (.loc 1) (.bin .mod (.bin .fdiv (.loc 0) (.lit (.int 3))) (.bin .add (.bin .sub (.bin .pow (.lit (.int 10)) (.lit (.int 30))) (.loc 1)) (.lit (.int 1))))))] }
noncomputable def fn__law_figures : CFn :=
  { np := 1, nv := 2, body := [.iff (.cmp .eq (.loc 0) (.lit (.int 0))) [.ret (some (.lit (.str [48])))] [], .asg 1 (.lit (.str [])), .while (.cmp .gt (.loc 0) (.lit (.int 0))) [.asg 1 (.bin .add (.sub (.lit (.str [48, 49, 50, 51, 52, 53, 54, 55, 56, 57])) (.bin .mod (.loc 0) (.lit (.int 10)))) (.loc 1)), .asg 0 (.bin .fdiv (.loc 0) (.lit (.int 10)))], .ret (some (.loc 1))] }
noncomputable def fn__law_entry_by : CFn :=
  { np := 4, nv := 9, body := [.asg 4 (.sub (.list [.lit (.str [99, 111, 109, 101]), .lit (.str [103, 111]), .lit (.str [109, 111, 118, 101]), .lit (.str [104, 111, 108, 100]), .lit (.str [108, 101, 116]), .lit (.str [116, 97, 107, 101]), .lit (.str [115, 104, 105, 102, 116]), .lit (.str [99, 111, 117, 110, 116, 101, 100]), .lit (.str [119, 105, 115, 104])]) (.bin .mod (.loc 0) (.lit (.int 9)))), .asg 5 (.bin .mod (.loc 1) (.lit (.int 10000))), .asg 6 (.bin .mod (.bin .fdiv (.loc 0) (.lit (.int 9))) (.lit (.int 10000))), .asg 7 (.sub (.callF 28 [.loc 2]) (.bin .mod (.bin .fdiv (.loc 1) (.lit (.int 10000))) (.lit (.int 3)))), .asg 8 (.callF 82 [.loc 3, .lit (.int 1)]), .iff (.cmp .eq (.loc 4) (.lit (.str [109, 111, 118, 101]))) [.ret (some (.tup [.loc 4, .loc 5, .loc 6, .loc 7, .loc 8]))] [], .iff (.or [.cmp .eq (.loc 4) (.lit (.str [108, 101, 116])), .cmp .eq (.loc 4) (.lit (.str [116, 97, 107, 101]))]) [.ret (some (.tup [.loc 4, .loc 8]))] [], .iff (.cmp .eq (.loc 4) (.lit (.str [115, 104, 105, 102, 116]))) [.ret (some (.tup [.loc 4, .loc 8, .loc 5]))] [], .iff (.cmp .eq (.loc 4) (.lit (.str [99, 111, 117, 110, 116, 101, 100]))) [.ret (some (.tup [.loc 4, .loc 5, .loc 7, .callF 82 [.loc 3, .lit (.int 0)]]))] [], .iff (.cmp .eq (.loc 4) (.lit (.str [119, 105, 115, 104]))) [.ret (some (.tup [.loc 4, .loc 7, .loc 8]))] [], .ret (some (.tup [.loc 4, .loc 5, .loc 7, .loc 8]))] }
noncomputable def fn__law_line_of : CFn :=
  { np := 1, nv := 3, body := [.asg 1 (.sub (.loc 0) (.lit (.int 0))), .for [2] (.ev (.slice (.loc 0) (some (.lit (.int 1))) none)) [.iff (.isinst (.loc 2) .int) [.asg 1 (.bin .add (.bin .add (.loc 1) (.lit (.str [32]))) (.callF 83 [.loc 2]))] [.asg 1 (.bin .add (.bin .add (.loc 1) (.lit (.str [32]))) (.loc 2))]], .ret (some (.loc 1))] }
noncomputable def fn__law_alike : CFn :=
  { np := 2, nv := 4, body := [.iff (.or [.not (.isinst (.loc 0) .tuple), .cmp .ne (.callB .len [.loc 0]) (.callB .len [.loc 1])]) [.ret (some (.lit (.bool false)))] [], .for [2, 3] (.zip [.loc 0, .loc 1]) [.iff (.or [.and [.isinst (.loc 3) .int, .not (.callF 25 [.loc 2])], .and [.isinst (.loc 3) .str, .not (.isinst (.loc 2) .str)]]) [.ret (some (.lit (.bool false)))] []], .ret (some (.cmp .eq (.loc 0) (.loc 1)))] }
noncomputable def fn_law : CFn :=
  { np := 1, nv := 4, body := [.for [1] (.range (.callB .len [.loc 0])) [.iff (.cmp .eq (.bin .mod (.loc 1) (.lit (.int 4))) (.lit (.int 0))) [.asg 2 (.callF 84 [.sub (.loc 0) (.loc 1), .callF 26 [.loc 0, .bin .add (.loc 1) (.lit (.int 1))], .callF 26 [.loc 0, .bin .add (.loc 1) (.lit (.int 2))], .callF 26 [.loc 0, .bin .add (.loc 1) (.lit (.int 3))]]), .asg 3 (.callF 77 [.loc 2]), .iff (.or [.not (.isinst (.loc 3) .str), .cmp .ne (.loc 3) (.callF 85 [.loc 2])]) [.ret (some (.lit (.bool false)))] [], .iff (.not (.callF 68 [.callF 81 [.loc 3], .loc 2])) [.ret (some (.lit (.bool false)))] []] []], .ret (some (.lit (.bool true)))] }

structure Has07 (P : Prog) : Prop where
  h19 : P 19 = some fn_is_ware
  h77 : P 77 = some fn_shown
  h78 : P 78 = some fn_number_of
  h79 : P 79 = some fn_ware_of
  h80 : P 80 = some fn_place_of
  h81 : P 81 = some fn_read
  h25 : P 25 = some fn__law_whole
  h26 : P 26 = some fn__law_cell_at
  h27 : P 27 = some fn__law_ware_by
  h28 : P 28 = some fn__law_wares
  h82 : P 82 = some fn__law_number_by
  h83 : P 83 = some fn__law_figures
  h84 : P 84 = some fn__law_entry_by
  h85 : P 85 = some fn__law_line_of
  h68 : P 68 = some fn__law_alike
  h32 : P 32 = some fn_law

section
variable {P : Prog} (H : Has07 P) {n : Nat} {hd : Bool} {σ : Sto}
include H

theorem whole_int (i : Int) : callN P (n + 1) hd 25 [.int i] σ = .ok (.bool true) σ :=
  callN_run H.h25 [some (.int i)] (x_ret _ _ (by simp only [ev, evs, evo, evAnd, evOr, evi, Res.bind_ok, List.getElem?_cons_zero, List.getElem?_cons_succ, ofOpt, Option.map_some, bo_add, bo_sub, bo_mod, bo_fdiv, co_eqi, co_nei, co_eqs, co_nes, co_lt, co_le, co_gt, co_ge, len_str, len_tup, isi_int, isi_str, isi_tup, isi_sint, isi_ints, isi_intb, divMost, Int.reduceLT, Int.reduceLE, and_self, Bool.not_true, Bool.not_false, al_list, or_true, true_or, if_true]))

theorem cell_at {ns : List Int} (h0 : σ[0]? = some (.froz (ns.map .int))) (k : Nat) : callN P (n + 1) hd 26 [.ref 0, .int k] σ = .ok (.int (ns.getD k 0)) σ := by
  refine callN_run H.h26 [some (.ref 0), some (.int k)] ?_
  have hl := len_ref 0 _ σ (seqOf_froz h0)
  by_cases hk : k < ns.length
  · have e : (ns.map D.int)[k]? = some (.int (ns.getD k 0)) := by simp [hk]
    refine x_ifret σ _ ?_ (x_ret (.int (ns.getD k 0)) σ ?_)
    · simp only [ev, evs, evo, evAnd, evOr, evi, Res.bind_ok, List.getElem?_cons_zero, List.getElem?_cons_succ, ofOpt, Option.map_some, bo_add, bo_sub, bo_mod, bo_fdiv, co_eqi, co_nei, co_eqs, co_nes, co_lt, co_le, co_gt, co_ge, len_str, len_tup, isi_int, isi_str, isi_tup, isi_sint, isi_ints, isi_intb, divMost, Int.reduceLT, Int.reduceLE, and_self, Bool.not_true, Bool.not_false, al_list, or_true, true_or, if_true, hl, List.length_map]
      simp [hk]
    · simp only [ev, evs, evo, evAnd, evOr, evi, Res.bind_ok, List.getElem?_cons_zero, List.getElem?_cons_succ, ofOpt, Option.map_some, bo_add, bo_sub, bo_mod, bo_fdiv, co_eqi, co_nei, co_eqs, co_nes, co_lt, co_le, co_gt, co_ge, len_str, len_tup, isi_int, isi_str, isi_tup, isi_sint, isi_ints, isi_intb, divMost, Int.reduceLT, Int.reduceLE, and_self, Bool.not_true, Bool.not_false, al_list, or_true, true_or, if_true, so_ref 0 _ k _ σ (seqOf_froz h0) e]
  · refine (x_skip σ ?_).trans (x_ret _ _ ?_)
    · simp only [ev, evs, evo, evAnd, evOr, evi, Res.bind_ok, List.getElem?_cons_zero, List.getElem?_cons_succ, ofOpt, Option.map_some, bo_add, bo_sub, bo_mod, bo_fdiv, co_eqi, co_nei, co_eqs, co_nes, co_lt, co_le, co_gt, co_ge, len_str, len_tup, isi_int, isi_str, isi_tup, isi_sint, isi_ints, isi_intb, divMost, Int.reduceLT, Int.reduceLE, and_self, Bool.not_true, Bool.not_false, al_list, or_true, true_or, if_true, hl, List.length_map]
      simp [hk]
    · rw [ev]; simp [hk]

theorem number_by (c : Int) (l : Int) (hl : l = 0 ∨ l = 1) : ∃ v : Int, callN P (n + 1) hd 82 [.int c, .int l] σ = .ok (.int v) σ ∧ l ≤ v ∧ v ≤ 10 ^ 30 := by
  have p30 : ∀ (σ : Sto), binOp .pow (.int 10) (.int 30) σ = .ok (.int (10 ^ 30)) σ := fun σ => bo_pow _ _ _ (by decide)
  by_cases h0 : c % 3 = 0
  · refine ⟨l + c / 3 % 20, callN_run H.h82 [some (.int c), some (.int l)] (x_ifret σ _ ?_ (x_ret _ σ ?_)), ?_, ?_⟩
    · simp only [ev, evs, evo, evAnd, evOr, evi, Res.bind_ok, List.getElem?_cons_zero, List.getElem?_cons_succ, ofOpt, Option.map_some, bo_add, bo_sub, bo_mod, bo_fdiv, co_eqi, co_nei, co_eqs, co_nes, co_lt, co_le, co_gt, co_ge, len_str, len_tup, isi_int, isi_str, isi_tup, isi_sint, isi_ints, isi_intb, divMost, Int.reduceLT, Int.reduceLE, and_self, Bool.not_true, Bool.not_false, al_list, or_true, true_or, if_true, h0]; rfl
    · simp only [ev, evs, evo, evAnd, evOr, evi, Res.bind_ok, List.getElem?_cons_zero, List.getElem?_cons_succ, ofOpt, Option.map_some, bo_add, bo_sub, bo_mod, bo_fdiv, co_eqi, co_nei, co_eqs, co_nes, co_lt, co_le, co_gt, co_ge, len_str, len_tup, isi_int, isi_str, isi_tup, isi_sint, isi_ints, isi_intb, divMost, Int.reduceLT, Int.reduceLE, and_self, Bool.not_true, Bool.not_false, al_list, or_true, true_or, if_true]
    · omega
    · omega
  · have b0 : (c % 3 == 0) = false := by simp [h0]
    by_cases h1 : c % 3 = 1
    · refine ⟨10 ^ 30 - c / 3 % 20, callN_run H.h82 [some (.int c), some (.int l)] ((x_skip σ ?_).trans (x_ifret σ _ ?_ (x_ret _ σ ?_))), ?_, ?_⟩
      · simp only [ev, evs, evo, evAnd, evOr, evi, Res.bind_ok, List.getElem?_cons_zero, List.getElem?_cons_succ, ofOpt, Option.map_some, bo_add, bo_sub, bo_mod, bo_fdiv, co_eqi, co_nei, co_eqs, co_nes, co_lt, co_le, co_gt, co_ge, len_str, len_tup, isi_int, isi_str, isi_tup, isi_sint, isi_ints, isi_intb, divMost, Int.reduceLT, Int.reduceLE, and_self, Bool.not_true, Bool.not_false, al_list, or_true, true_or, if_true, b0]
      · simp only [ev, evs, evo, evAnd, evOr, evi, Res.bind_ok, List.getElem?_cons_zero, List.getElem?_cons_succ, ofOpt, Option.map_some, bo_add, bo_sub, bo_mod, bo_fdiv, co_eqi, co_nei, co_eqs, co_nes, co_lt, co_le, co_gt, co_ge, len_str, len_tup, isi_int, isi_str, isi_tup, isi_sint, isi_ints, isi_intb, divMost, Int.reduceLT, Int.reduceLE, and_self, Bool.not_true, Bool.not_false, al_list, or_true, true_or, if_true, h1]; rfl
      · simp only [ev, evs, evo, evAnd, evOr, evi, Res.bind_ok, List.getElem?_cons_zero, List.getElem?_cons_succ, ofOpt, Option.map_some, bo_add, bo_sub, bo_mod, bo_fdiv, co_eqi, co_nei, co_eqs, co_nes, co_lt, co_le, co_gt, co_ge, len_str, len_tup, isi_int, isi_str, isi_tup, isi_sint, isi_ints, isi_intb, divMost, Int.reduceLT, Int.reduceLE, and_self, Bool.not_true, Bool.not_false, al_list, or_true, true_or, if_true, p30]
      · omega
      · omega
    · have b1 : (c % 3 == 1) = false := by simp [h1]
      have mm : ∀ (x : Int) (σ : Sto), binOp .mod (.int x) (.int (10 ^ 30 - l + 1)) σ = .ok (.int (x % (10 ^ 30 - l + 1))) σ := fun x σ => bo_mod _ _ _ (by omega)
      refine ⟨l + c / 3 % (10 ^ 30 - l + 1), callN_run H.h82 [some (.int c), some (.int l)] ((x_skip σ ?_).trans ((x_skip σ ?_).trans (x_ret _ σ ?_))), ?_, ?_⟩
      · simp only [ev, evs, evo, evAnd, evOr, evi, Res.bind_ok, List.getElem?_cons_zero, List.getElem?_cons_succ, ofOpt, Option.map_some, bo_add, bo_sub, bo_mod, bo_fdiv, co_eqi, co_nei, co_eqs, co_nes, co_lt, co_le, co_gt, co_ge, len_str, len_tup, isi_int, isi_str, isi_tup, isi_sint, isi_ints, isi_intb, divMost, Int.reduceLT, Int.reduceLE, and_self, Bool.not_true, Bool.not_false, al_list, or_true, true_or, if_true, b0]
      · simp only [ev, evs, evo, evAnd, evOr, evi, Res.bind_ok, List.getElem?_cons_zero, List.getElem?_cons_succ, ofOpt, Option.map_some, bo_add, bo_sub, bo_mod, bo_fdiv, co_eqi, co_nei, co_eqs, co_nes, co_lt, co_le, co_gt, co_ge, len_str, len_tup, isi_int, isi_str, isi_tup, isi_sint, isi_ints, isi_intb, divMost, Int.reduceLT, Int.reduceLE, and_self, Bool.not_true, Bool.not_false, al_list, or_true, true_or, if_true, b1]
      · simp only [ev, evs, evo, evAnd, evOr, evi, Res.bind_ok, List.getElem?_cons_zero, List.getElem?_cons_succ, ofOpt, Option.map_some, bo_add, bo_sub, bo_mod, bo_fdiv, co_eqi, co_nei, co_eqs, co_nes, co_lt, co_le, co_gt, co_ge, len_str, len_tup, isi_int, isi_str, isi_tup, isi_sint, isi_ints, isi_intb, divMost, Int.reduceLT, Int.reduceLE, and_self, Bool.not_true, Bool.not_false, al_list, or_true, true_or, if_true, p30, mm]
      · have := Int.emod_nonneg (c / 3) (show (10 ^ 30 - l + 1 : Int) ≠ 0 by omega)
        omega
      · have := Int.emod_lt_of_pos (c / 3) (show (0 : Int) < 10 ^ 30 - l + 1 by omega)
        omega

noncomputable def Letters (w : List Nat) : Prop := ∀ x ∈ w, 97 ≤ x ∧ x ≤ 122
noncomputable def Ware (k : Nat) (w : List Nat) : Prop := 1 ≤ w.length ∧ w.length ≤ k ∧ Letters w
omit H in
theorem letter_at {j : Nat} (h : j < 26) : ([97, 98, 99, 100, 101, 102, 103, 104, 105, 106, 107, 108, 109, 110, 111, 112, 113, 114, 115, 116, 117, 118, 119, 120, 121, 122] : List Nat)[j]? = some (97 + j) := by
  revert j; decide

theorem ware_by (c : Int) : ∃ w, callN P (n + 1) hd 27 [.int c] σ = .ok (.str w) σ ∧ Ware 19 w := by
  have hc0 : 0 ≤ 1 + c % 19 ∧ 1 + c % 19 ≤ most := by have : (most : Int) = 100000 := rfl; omega
  obtain ⟨r, hr⟩ := Int.eq_ofNat_of_zero_le hc0.1
  have hr1 : 1 ≤ r ∧ r ≤ 19 := by omega
  have hfor := for_inv (body := fun (ρ : Rho) (σ : Sto) => exs (callN P n) hd [.asg 1 (.bin .add (.loc 1) (.sub (.lit (.str [97, 98, 99, 100, 101, 102, 103, 104, 105, 106, 107, 108, 109, 110, 111, 112, 113, 114, 115, 116, 117, 118, 119, 120, 121, 122])) (.bin .mod (.bin .add (.bin .add (.bin .fdiv (.loc 0) (.lit (.int 19))) (.bin .mul (.lit (.int 7)) (.loc 2))) (.bin .mul (.loc 2) (.loc 2))) (.lit (.int 26)))))] ρ σ) (is := [2]) (all := ([], []))
    (fun k ρ σ' => σ' = σ ∧ ∃ w x, ρ = [some (.int c), some (.str w), x] ∧ w.length = k ∧ Letters w) ((List.range (1 + c % 19).toNat).map fun (i : Nat) => D.int (i : Int)) 0 [some (.int c), some (.str []), none] σ ⟨rfl, [], none, rfl, rfl, fun x hx => by simp at hx⟩ (by
      rintro j d ρ σ'' hj ⟨rfl, w, x, rfl, hw, hl⟩
      rw [List.getElem?_map] at hj
      obtain ⟨j', hj', rfl⟩ := Option.map_eq_some_iff.mp hj
      have hjr : j < 19 := by
        have := (List.getElem?_eq_some_iff.mp hj').1
        simp only [List.length_range] at this
        omega
      have hjj : j' = j := by
        obtain ⟨h, e⟩ := List.getElem?_eq_some_iff.mp hj'
        simpa using e.symm
      subst hjj
      have m7 : ∀ (x : Int) (σ : Sto), binOp .mul (.int 7) (.int x) σ = .ok (.int (7 * x)) σ := fun x σ => bo_mul _ _ _ (by left; decide)
      have mj : ∀ (σ : Sto), binOp .mul (.int (j' : Int)) (.int (j' : Int)) σ = .ok (.int ((j' : Int) * (j' : Int))) σ := fun σ => bo_mul _ _ _ (by left; simp; omega)
      obtain ⟨q, hq⟩ := Int.eq_ofNat_of_zero_le (Int.emod_nonneg (c / 19 + 7 * (j' : Int) + (j' : Int) * (j' : Int)) (show (26 : Int) ≠ 0 by decide))
      have hq26 : q < 26 := by
        have := Int.emod_lt_of_pos (c / 19 + 7 * (j' : Int) + (j' : Int) * (j' : Int)) (show (0 : Int) < 26 by decide)
        omega
      refine ⟨[some (.int c), some (.str w), some (.int j')], [some (.int c), some (.str (w ++ [97 + q])), some (.int j')], σ'', ?_, (x_asg (.str (w ++ [97 + q])) σ'' _ ?_).trans x_nil, rfl, _, _, rfl, by simp; omega, ?_⟩
      · simp [unpackT, setVars]
      · simp only [ev, evs, evo, evAnd, evOr, evi, Res.bind_ok, List.getElem?_cons_zero, List.getElem?_cons_succ, ofOpt, Option.map_some, bo_add, bo_sub, bo_mod, bo_fdiv, co_eqi, co_nei, co_eqs, co_nes, co_lt, co_le, co_gt, co_ge, len_str, len_tup, isi_int, isi_str, isi_tup, isi_sint, isi_ints, isi_intb, divMost, Int.reduceLT, Int.reduceLE, and_self, Bool.not_true, Bool.not_false, al_list, or_true, true_or, if_true, m7, mj, hq, so_str _ _ _ _ (letter_at hq26)]
        rw [bo_cat _ _ _ (by simp [most]; omega)]
      · intro y hy
        rcases List.mem_append.mp hy with hy | hy
        · exact hl y hy
        · simp at hy; omega)
  obtain ⟨ρ', σ', h1, h2⟩ := hfor
  obtain ⟨rfl, w, x, rfl, hw, hl⟩ := h2
  refine ⟨w, callN_run H.h27 [some (.int c), none, none] ((x_asg (.str []) σ' [some (.int c), some (.str []), none] (by simp only [ev, evs, evo, evAnd, evOr, evi, Res.bind_ok, List.getElem?_cons_zero, List.getElem?_cons_succ, ofOpt, Option.map_some, bo_add, bo_sub, bo_mod, bo_fdiv, co_eqi, co_nei, co_eqs, co_nes, co_lt, co_le, co_gt, co_ge, len_str, len_tup, isi_int, isi_str, isi_tup, isi_sint, isi_ints, isi_intb, divMost, Int.reduceLT, Int.reduceLE, and_self, Bool.not_true, Bool.not_false, al_list, or_true, true_or, if_true])).trans ((x_for ⟨_, _, _⟩ σ' σ' _ ?_ h1).trans (x_ret _ _ (by simp only [ev, evs, evo, evAnd, evOr, evi, Res.bind_ok, List.getElem?_cons_zero, List.getElem?_cons_succ, ofOpt, Option.map_some, bo_add, bo_sub, bo_mod, bo_fdiv, co_eqi, co_nei, co_eqs, co_nes, co_lt, co_le, co_gt, co_ge, len_str, len_tup, isi_int, isi_str, isi_tup, isi_sint, isi_ints, isi_intb, divMost, Int.reduceLT, Int.reduceLE, and_self, Bool.not_true, Bool.not_false, al_list, or_true, true_or, if_true])))), ?_⟩
  · simp only [ev, evs, evo, evAnd, evOr, evi, Res.bind_ok, List.getElem?_cons_zero, List.getElem?_cons_succ, ofOpt, Option.map_some, bo_add, bo_sub, bo_mod, bo_fdiv, co_eqi, co_nei, co_eqs, co_nes, co_lt, co_le, co_gt, co_ge, len_str, len_tup, isi_int, isi_str, isi_tup, isi_sint, isi_ints, isi_intb, divMost, Int.reduceLT, Int.reduceLE, and_self, Bool.not_true, Bool.not_false, al_list, or_true, true_or, if_true, if_pos hc0]
  · simp only [List.length_map, List.length_range] at hw
    refine ⟨by omega, by omega, hl⟩
end
end Mine

/-! part MP07b -/
namespace Mine
open PySem
set_option maxRecDepth 100000
section
variable {P : Prog} (H : Has07 P) {n : Nat} {hd : Bool} {σ : Sto}

noncomputable abbrev L27 : List Nat := [97, 98, 99, 100, 101, 102, 103, 104, 105, 106, 107, 108, 109, 110, 111, 112, 113, 114, 115, 116, 117, 118, 119, 120, 121, 122, 97]
theorem idx27 : ∀ j < 26, L27.findIdx? (· == 97 + j) = some j := by decide
theorem get27 : ∀ j < 26, ∃ o, L27[j + 1]? = some o ∧ 97 ≤ o ∧ o ≤ 122 := by
  intro j hj
  refine ⟨if j = 25 then 97 else 98 + j, ?_, ?_, ?_⟩
  · revert j; decide
  · split <;> omega
  · split <;> omega

include H
theorem wares (c : Int) : ∃ (w1 w2 w3 : List Nat) (r : Nat) (σ' : Sto), callN P (n + 2) hd 28 [.int c] σ = .ok (.ref r) σ' ∧ σ <+: σ' ∧ seqOf σ' (.ref r) = some [.str w1, .str w2, .str w3] ∧ Ware 20 w1 ∧ Ware 20 w2 ∧ Ware 20 w3 := by
  obtain ⟨w, hw, hw1, hw2, hwl⟩ := ware_by (n := n) (hd := hd) (σ := σ) H (c % 494000)
  have hpos : (0 : Int) < w.length := by omega
  have hm : ∀ (x : Int) (σ : Sto), binOp .mod (.int x) (.int w.length) σ = .ok (.int (x % w.length)) σ := fun x σ => bo_mod _ _ _ hpos
  obtain ⟨a, ha⟩ := Int.eq_ofNat_of_zero_le (Int.emod_nonneg (c / 7) (show (w.length : Int) ≠ 0 by omega))
  have hal : a < w.length := by
    have := Int.emod_lt_of_pos (c / 7) hpos
    omega
  have hwa : w[a]? = some w[a] := List.getElem?_eq_getElem hal
  have hlet := hwl w[a] (List.getElem_mem hal)
  obtain ⟨j, hj⟩ : ∃ j, w[a] = 97 + j := ⟨w[a] - 97, by omega⟩
  have hj26 : j < 26 := by omega
  rw [hj] at hwa
  obtain ⟨o, ho, hol⟩ := get27 j hj26
  have hj1 : ((j : Int) + 1) = ((j + 1 : Nat) : Int) := by omega
  have ha1 : ((a : Int) + 1) = ((a + 1 : Nat) : Int) := by omega
  -- the third, by one letter
  let t1 := w.take a ++ [o] ++ w.drop (a + 1)
  have ht1 : Ware 19 t1 := by
    refine ⟨by simp [t1]; omega, by simp [t1]; omega, fun x hx => ?_⟩
    simp only [t1, List.mem_append, List.mem_singleton] at hx
    rcases hx with (hx | rfl) | hx
    · exact hwl x (List.mem_of_mem_take hx)
    · exact hol
    · exact hwl x (List.mem_of_mem_drop hx)
  -- from its end on
  let cs := (List.range w.length).map fun i => [w.getD (w.length - 1 - i) 0]
  have hcsl : (cs.map (·.length)).sum + cs.length * ([] : List Nat).length ≤ most := by
    have : cs.map (·.length) = List.replicate w.length 1 := by
      simp only [cs, List.map_map]
      apply List.ext_getElem <;> simp
    rw [this]; simp [most]; omega
  let t2 := joinS [] cs
  have ht2 : Ware 19 t2 := by
    have e : t2 = cs.flatten := joinS_nil cs
    have hl : t2.length = w.length := by
      rw [e, List.length_flatten]
      have : cs.map List.length = List.replicate w.length 1 := by
        simp only [cs, List.map_map]
        apply List.ext_getElem <;> simp
      rw [this]; simp
    refine ⟨by omega, by omega, fun x hx => ?_⟩
    rw [e] at hx
    obtain ⟨l, hl1, hl2⟩ := List.mem_flatten.mp hx
    simp only [cs, List.mem_map, List.mem_range] at hl1
    obtain ⟨i, hi, rfl⟩ := hl1
    simp only [List.mem_singleton] at hl2
    have hb : w.length - 1 - i < w.length := by omega
    rw [hl2, List.getD_eq_getElem?_getD, List.getElem?_eq_getElem hb]
    exact hwl _ (List.getElem_mem hb)
  let σ1 := σ ++ [AObj.list (cs.map .str)]
  have h6 : ∀ ρ : Rho, ρ = [some (.int c), some (.str w), some (.str L27), some (.int a), some (.str [o]), some (.str t1), none] →
      ev (callN P (n + 1) hd) (.meth (.lit (.str [])) 5 [.comp (.sub (.loc 1) (.bin .sub (.bin .sub (.callB .len [.loc 1]) (.lit (.int 1))) (.loc 7))) 1 (.range (.callB .len [.loc 1])) none]) ρ σ = .ok (.str t2) σ1 := by
    rintro ρ rfl
    have hc := comp_map (elt := fun ρ σ => ev (callN P (n + 1) hd) (.sub (.loc 1) (.bin .sub (.bin .sub (.callB .len [.loc 1]) (.lit (.int 1))) (.loc 7))) ρ σ) (σ := σ) (all := ([], [])) (ρ := [some (.int c), some (.str w), some (.str L27), some (.int a), some (.str [o]), some (.str t1), none])
      (f := fun d => match d with | .int k => .str [w.getD (w.length - 1 - k.toNat) 0] | _ => .none) ((List.range (w.length : Int).toNat).map fun (i : Nat) => D.int (i : Int)) [] (by
        intro d hd
        simp only [List.mem_map, List.mem_range] at hd
        obtain ⟨i, hi, rfl⟩ := hd
        have hb : w.length - 1 - i < w.length := by omega
        have e : (w.length : Int) - 1 - (i : Int) = ((w.length - 1 - i : Nat) : Int) := by omega
        have hg : w[w.length - 1 - i]? = some (w.getD (w.length - 1 - i) 0) := by
          rw [List.getD_eq_getElem?_getD, List.getElem?_eq_getElem hb]; rfl
        simp only [List.cons_append, List.nil_append]
        simp only [ev, evs, evo, evAnd, evOr, evi, Res.bind_ok, List.getElem?_cons_zero, List.getElem?_cons_succ, ofOpt, Option.map_some, bo_add, bo_sub, bo_mod, bo_fdiv, co_eqi, co_nei, co_eqs, co_nes, co_lt, co_le, co_gt, co_ge, len_str, len_tup, isi_int, isi_str, isi_tup, isi_sint, isi_ints, isi_intb, divMost, Int.reduceLT, Int.reduceLE, and_self, Bool.not_true, Bool.not_false, al_list, or_true, true_or, if_true, e, so_str _ _ _ _ hg, Int.toNat_natCast])
    have hmap : (((List.range (w.length : Int).toNat).map fun (i : Nat) => D.int (i : Int)).map fun d => match d with | .int k => D.str [w.getD (w.length - 1 - k.toNat) 0] | _ => .none) = cs.map .str := by
      simp [cs, Function.comp_def]
    rw [hmap] at hc
    have hr : (0 : Int) ≤ w.length ∧ (w.length : Int) ≤ most := by simp only [most]; omega
    refine (e_meth (by simp) (by rw [ev]) (e_one (e_comp (src := ⟨_, (none, none), ([], [])⟩) (by simp only [ev, evs, evo, evAnd, evOr, evi, Res.bind_ok, List.getElem?_cons_zero, List.getElem?_cons_succ, ofOpt, Option.map_some, bo_add, bo_sub, bo_mod, bo_fdiv, co_eqi, co_nei, co_eqs, co_nes, co_lt, co_le, co_gt, co_ge, len_str, len_tup, isi_int, isi_str, isi_tup, isi_sint, isi_ints, isi_intb, divMost, Int.reduceLT, Int.reduceLE, and_self, Bool.not_true, Bool.not_false, al_list, or_true, true_or, if_true, if_pos hr]) hc))).trans ?_
    exact m_join _ _ _ _ (get_last _ _) hcsl
  -- the last lines, whatever the third is
  have last : ∀ t : List Nat, Ware 19 t → ∃ (w1 w2 w3 : List Nat) (r : Nat) (σ' : Sto), exs (callN P (n + 1)) hd [.ret (some (.list [.loc 1, .bin .add (.loc 1) (.lit (.str [97])), .loc 5]))] [some (.int c), some (.str w), some (.str L27), some (.int a), some (.str [o]), some (.str t), some (.str t2)] σ1 = .ok (.ret (.ref r)) σ' ∧ σ <+: σ' ∧ seqOf σ' (.ref r) = some [.str w1, .str w2, .str w3] ∧ Ware 20 w1 ∧ Ware 20 w2 ∧ Ware 20 w3 := by
    intro t ht
    refine ⟨w, w ++ [97], t, σ1.length, σ1 ++ [.list [.str w, .str (w ++ [97]), .str t]], x_ret _ _ ?_, ?_, seqOf_list (get_last _ _), ⟨hw1, by omega, hwl⟩, ⟨by simp, by simp; omega, fun x hx => ?_⟩, ⟨ht.1, Nat.le_trans ht.2.1 (by omega), ht.2.2⟩⟩
    · simp only [ev, evs, evo, evAnd, evOr, evi, Res.bind_ok, List.getElem?_cons_zero, List.getElem?_cons_succ, ofOpt, Option.map_some, bo_add, bo_sub, bo_mod, bo_fdiv, co_eqi, co_nei, co_eqs, co_nes, co_lt, co_le, co_gt, co_ge, len_str, len_tup, isi_int, isi_str, isi_tup, isi_sint, isi_ints, isi_intb, divMost, Int.reduceLT, Int.reduceLE, and_self, Bool.not_true, Bool.not_false, al_list, or_true, true_or, if_true, bo_cat w [97] _ (by simp [most]; omega)]
    · exact (List.prefix_append _ _).trans (List.prefix_append _ _)
    · rcases List.mem_append.mp hx with hx | hx
      · exact hwl x hx
      · simp at hx; omega
  have run : ∃ t, Ware 19 t ∧ ∀ d σ', exs (callN P (n + 1)) hd [.ret (some (.list [.loc 1, .bin .add (.loc 1) (.lit (.str [97])), .loc 5]))] [some (.int c), some (.str w), some (.str L27), some (.int a), some (.str [o]), some (.str t), some (.str t2)] σ1 = .ok (.ret d) σ' → callN P (n + 2) hd 28 [.int c] σ = .ok d σ' := by
    have c48 : ∀ (σ : Sto), binOp .mul (.int c) (.int 48271) σ = .ok (.int (c * 48271)) σ := fun σ => bo_mul _ _ _ (by right; decide)
    have pre : ∀ (d : D) (σ' : Sto), exs (callN P (n + 1)) hd [.iff (.and [.cmp .eq (.bin .mod (.bin .mod (.bin .mul (.loc 0) (.lit (.int 48271))) (.lit (.int 65537))) (.lit (.int 2))) (.lit (.int 1)), .cmp .ne (.loc 6) (.loc 1)]) [.asg 5 (.loc 6)] [], .ret (some (.list [.loc 1, .bin .add (.loc 1) (.lit (.str [97])), .loc 5]))] [some (.int c), some (.str w), some (.str L27), some (.int a), some (.str [o]), some (.str t1), some (.str t2)] σ1 = .ok (.ret d) σ' → callN P (n + 2) hd 28 [.int c] σ = .ok d σ' := by
      intro d σ' h
      refine callN_run H.h28 [some (.int c), none, none, none, none, none, none] ?_
      refine (x_asg (.str w) σ [some (.int c), some (.str w), none, none, none, none, none] (by simp only [ev, evs, evo, evAnd, evOr, evi, Res.bind_ok, List.getElem?_cons_zero, List.getElem?_cons_succ, ofOpt, Option.map_some, bo_add, bo_sub, bo_mod, bo_fdiv, co_eqi, co_nei, co_eqs, co_nes, co_lt, co_le, co_gt, co_ge, len_str, len_tup, isi_int, isi_str, isi_tup, isi_sint, isi_ints, isi_intb, divMost, Int.reduceLT, Int.reduceLE, and_self, Bool.not_true, Bool.not_false, al_list, or_true, true_or, if_true, hw])).trans ?_
      refine (x_asg (.str L27) σ [some (.int c), some (.str w), some (.str L27), none, none, none, none] (by simp only [ev, evs, evo, evAnd, evOr, evi, Res.bind_ok, List.getElem?_cons_zero, List.getElem?_cons_succ, ofOpt, Option.map_some, bo_add, bo_sub, bo_mod, bo_fdiv, co_eqi, co_nei, co_eqs, co_nes, co_lt, co_le, co_gt, co_ge, len_str, len_tup, isi_int, isi_str, isi_tup, isi_sint, isi_ints, isi_intb, divMost, Int.reduceLT, Int.reduceLE, and_self, Bool.not_true, Bool.not_false, al_list, or_true, true_or, if_true])).trans ?_
      refine (x_asg (.int a) σ [some (.int c), some (.str w), some (.str L27), some (.int a), none, none, none] (by simp only [ev, evs, evo, evAnd, evOr, evi, Res.bind_ok, List.getElem?_cons_zero, List.getElem?_cons_succ, ofOpt, Option.map_some, bo_add, bo_sub, bo_mod, bo_fdiv, co_eqi, co_nei, co_eqs, co_nes, co_lt, co_le, co_gt, co_ge, len_str, len_tup, isi_int, isi_str, isi_tup, isi_sint, isi_ints, isi_intb, divMost, Int.reduceLT, Int.reduceLE, and_self, Bool.not_true, Bool.not_false, al_list, or_true, true_or, if_true, hm, ha])).trans ?_
      refine (x_asg (.str [o]) σ [some (.int c), some (.str w), some (.str L27), some (.int a), some (.str [o]), none, none] ?_).trans ?_
      · simp only [ev, evs, evo, evAnd, evOr, evi, Res.bind_ok, List.getElem?_cons_zero, List.getElem?_cons_succ, ofOpt, Option.map_some, bo_add, bo_sub, bo_mod, bo_fdiv, co_eqi, co_nei, co_eqs, co_nes, co_lt, co_le, co_gt, co_ge, len_str, len_tup, isi_int, isi_str, isi_tup, isi_sint, isi_ints, isi_intb, divMost, Int.reduceLT, Int.reduceLE, and_self, Bool.not_true, Bool.not_false, al_list, or_true, true_or, if_true, so_str _ _ _ _ hwa, m_index _ _ _ _ (idx27 j hj26), hj1, so_str _ _ _ _ ho]
      refine (x_asg (.str t1) σ [some (.int c), some (.str w), some (.str L27), some (.int a), some (.str [o]), some (.str t1), none] ?_).trans ?_
      · simp only [ev, evs, evo, evAnd, evOr, evi, Res.bind_ok, List.getElem?_cons_zero, List.getElem?_cons_succ, ofOpt, Option.map_some, bo_add, bo_sub, bo_mod, bo_fdiv, co_eqi, co_nei, co_eqs, co_nes, co_lt, co_le, co_gt, co_ge, len_str, len_tup, isi_int, isi_str, isi_tup, isi_sint, isi_ints, isi_intb, divMost, Int.reduceLT, Int.reduceLE, and_self, Bool.not_true, Bool.not_false, al_list, or_true, true_or, if_true, sl_to w a σ (by omega), ha1, sl_from w (a + 1) σ hal, bo_cat (w.take a) [o] σ (by simp [most]; omega), bo_cat (w.take a ++ [o]) (w.drop (a + 1)) σ (by simp [most]; omega)]
        rfl
      refine (x_asg (.str t2) σ1 [some (.int c), some (.str w), some (.str L27), some (.int a), some (.str [o]), some (.str t1), some (.str t2)] (h6 _ rfl)).trans h
    by_cases hb : (c * 48271 % 65537 % 2 == 1) = true ∧ (t2 == w) = false
    · refine ⟨t2, ht2, fun d σ' h => pre d σ' ?_⟩
      refine (x_ift σ1 σ1 [some (.int c), some (.str w), some (.str L27), some (.int a), some (.str [o]), some (.str t2), some (.str t2)] ?_ ((x_asg (.str t2) σ1 _ (by simp only [ev, evs, evo, evAnd, evOr, evi, Res.bind_ok, List.getElem?_cons_zero, List.getElem?_cons_succ, ofOpt, Option.map_some, bo_add, bo_sub, bo_mod, bo_fdiv, co_eqi, co_nei, co_eqs, co_nes, co_lt, co_le, co_gt, co_ge, len_str, len_tup, isi_int, isi_str, isi_tup, isi_sint, isi_ints, isi_intb, divMost, Int.reduceLT, Int.reduceLE, and_self, Bool.not_true, Bool.not_false, al_list, or_true, true_or, if_true])).trans x_nil)).trans h
      simp only [ev, evs, evo, evAnd, evOr, evi, Res.bind_ok, List.getElem?_cons_zero, List.getElem?_cons_succ, ofOpt, Option.map_some, bo_add, bo_sub, bo_mod, bo_fdiv, co_eqi, co_nei, co_eqs, co_nes, co_lt, co_le, co_gt, co_ge, len_str, len_tup, isi_int, isi_str, isi_tup, isi_sint, isi_ints, isi_intb, divMost, Int.reduceLT, Int.reduceLE, and_self, Bool.not_true, Bool.not_false, al_list, or_true, true_or, if_true, c48, hb.1, hb.2]
    · refine ⟨t1, ht1, fun d σ' h => pre d σ' ?_⟩
      refine (x_skip σ1 ?_).trans h
      by_cases h1 : (c * 48271 % 65537 % 2 == 1) = true
      · have h2 : (t2 == w) = true := by
          by_cases q : (t2 == w) = true
          · exact q
          · exact absurd ⟨h1, (Bool.not_eq_true _).mp q⟩ hb
        simp only [ev, evs, evo, evAnd, evOr, evi, Res.bind_ok, List.getElem?_cons_zero, List.getElem?_cons_succ, ofOpt, Option.map_some, bo_add, bo_sub, bo_mod, bo_fdiv, co_eqi, co_nei, co_eqs, co_nes, co_lt, co_le, co_gt, co_ge, len_str, len_tup, isi_int, isi_str, isi_tup, isi_sint, isi_ints, isi_intb, divMost, Int.reduceLT, Int.reduceLE, and_self, Bool.not_true, Bool.not_false, al_list, or_true, true_or, if_true, c48, h1, h2]
      · simp only [ev, evs, evo, evAnd, evOr, evi, Res.bind_ok, List.getElem?_cons_zero, List.getElem?_cons_succ, ofOpt, Option.map_some, bo_add, bo_sub, bo_mod, bo_fdiv, co_eqi, co_nei, co_eqs, co_nes, co_lt, co_le, co_gt, co_ge, len_str, len_tup, isi_int, isi_str, isi_tup, isi_sint, isi_ints, isi_intb, divMost, Int.reduceLT, Int.reduceLE, and_self, Bool.not_true, Bool.not_false, al_list, or_true, true_or, if_true, c48, (Bool.not_eq_true _).mp h1]
  obtain ⟨t, ht, run⟩ := run
  obtain ⟨w1, w2, w3, r, σ', h1, h2⟩ := last t ht
  exact ⟨w1, w2, w3, r, σ', run _ _ h1, h2⟩
end
end Mine

/-! part MP07c -/
namespace Mine
open PySem
set_option maxRecDepth 100000
section
variable {P : Prog} (H : Has07 P) {n : Nat} {hd : Bool} {σ : Sto}

noncomputable abbrev FIG : List Nat := [48, 49, 50, 51, 52, 53, 54, 55, 56, 57]
noncomputable abbrev L26 : List Nat := [97, 98, 99, 100, 101, 102, 103, 104, 105, 106, 107, 108, 109, 110, 111, 112, 113, 114, 115, 116, 117, 118, 119, 120, 121, 122]
theorem fig_at {j : Nat} (h : j < 10) : FIG[j]? = some (48 + j) := by revert j; decide
theorem fig_in {c : Nat} (h : 48 ≤ c ∧ c ≤ 57) : FIG.contains c = true := by
  obtain ⟨j, rfl⟩ : ∃ j, c = 48 + j := ⟨c - 48, by omega⟩
  have hj : j < 10 := by omega
  clear h; revert j; decide
theorem let_in {c : Nat} (h : 97 ≤ c ∧ c ≤ 122) : L26.contains c = true := by
  obtain ⟨j, rfl⟩ : ∃ j, c = 97 + j := ⟨c - 97, by omega⟩
  have hj : j < 26 := by omega
  clear h; revert j; decide

noncomputable def numd (u : Nat) : Nat := if u = 0 then 0 else (digits u).length
theorem numd_lt {u : Nat} (h : 0 < u) : numd (u / 10) < numd u := by
  unfold numd
  rw [if_neg (show ¬ u = 0 by omega)]
  by_cases hs : u < 10
  · rw [if_pos (by omega)]; exact digits_pos u
  · rw [if_neg (by omega), digits_step hs]; simp

include H
theorem figures (v : Nat) (hv : v < 10 ^ 31) : callN P (n + 1) hd 83 [.int v] σ = .ok (.str (digits v)) σ := by
  refine callN_run H.h83 [some (.int v), none] ?_
  by_cases h0 : v = 0
  · subst h0
    exact x_ifret σ _ (by simp only [ev, evs, evo, evAnd, evOr, evi, Res.bind_ok, List.getElem?_cons_zero, List.getElem?_cons_succ, ofOpt, Option.map_some, bo_add, bo_sub, bo_mod, bo_fdiv, co_eqi, co_nei, co_eqs, co_nes, co_lt, co_le, co_gt, co_ge, len_str, len_tup, isi_int, isi_str, isi_tup, isi_sint, isi_ints, isi_intb, divMost, Int.reduceLT, Int.reduceLE, and_self, Bool.not_true, Bool.not_false, al_list, or_true, true_or, if_true]; rfl) (x_ret (.str (digits 0)) σ (by simp only [ev, evs, evo, evAnd, evOr, evi, Res.bind_ok, List.getElem?_cons_zero, List.getElem?_cons_succ, ofOpt, Option.map_some, bo_add, bo_sub, bo_mod, bo_fdiv, co_eqi, co_nei, co_eqs, co_nes, co_lt, co_le, co_gt, co_ge, len_str, len_tup, isi_int, isi_str, isi_tup, isi_sint, isi_ints, isi_intb, divMost, Int.reduceLT, Int.reduceLE, and_self, Bool.not_true, Bool.not_false, al_list, or_true, true_or, if_true]; rfl))
  · have b0 : ((v : Int) == 0) = false := by simp [h0]
    have hlen : (digits v).length ≤ 31 := digits_len hv
    have hw := while_inv (test := fun ρ σ => ev (callN P n hd) (.cmp .gt (.loc 0) (.lit (.int 0))) ρ σ) (body := fun ρ σ => exs (callN P n) hd [.asg 1 (.bin .add (.sub (.lit (.str [48, 49, 50, 51, 52, 53, 54, 55, 56, 57])) (.bin .mod (.loc 0) (.lit (.int 10)))) (.loc 1)), .asg 0 (.bin .fdiv (.loc 0) (.lit (.int 10)))] ρ σ)
      (fun m ρ σ' => σ' = σ ∧ ∃ (u : Nat) (acc : List Nat), ρ = [some (.int u), some (.str acc)] ∧ m = numd u ∧ (if u = 0 then acc else digits u ++ acc) = digits v) whileMost (numd v) [some (.int v), some (.str [])] σ
      ⟨rfl, v, [], rfl, rfl, by rw [if_neg h0, List.append_nil]⟩ (by unfold numd whileMost; rw [if_neg h0]; omega) (by
        rintro m ρ σ' ⟨rfl, u, acc, rfl, rfl, hu⟩
        by_cases hz : u = 0
        · subst hz
          refine .inl ⟨σ', by simp only [ev, evs, evo, evAnd, evOr, evi, Res.bind_ok, List.getElem?_cons_zero, List.getElem?_cons_succ, ofOpt, Option.map_some, bo_add, bo_sub, bo_mod, bo_fdiv, co_eqi, co_nei, co_eqs, co_nes, co_lt, co_le, co_gt, co_ge, len_str, len_tup, isi_int, isi_str, isi_tup, isi_sint, isi_ints, isi_intb, divMost, Int.reduceLT, Int.reduceLE, and_self, Bool.not_true, Bool.not_false, al_list, or_true, true_or, if_true]; rfl, rfl, 0, acc, rfl, rfl, hu⟩
        · have hup : (0 : Int) < (u : Int) := by omega
          rw [if_neg hz] at hu
          have hacc : (digits u).length + acc.length ≤ 31 := by
            have := congrArg List.length hu
            rw [List.length_append] at this
            omega
          have hp := digits_pos u
          have e1 : ((u : Int) % 10) = ((u % 10 : Nat) : Int) := by omega
          have e2 : ((u : Int) / 10) = ((u / 10 : Nat) : Int) := by omega
          refine .inr ⟨σ', [some (.int (u / 10 : Nat)), some (.str ([48 + u % 10] ++ acc))], σ', numd (u / 10), ?_, ?_, ⟨rfl, u / 10, _, rfl, rfl, ?_⟩, numd_lt (by omega)⟩
          · simp only [ev, evs, evo, evAnd, evOr, evi, Res.bind_ok, List.getElem?_cons_zero, List.getElem?_cons_succ, ofOpt, Option.map_some, bo_add, bo_sub, bo_mod, bo_fdiv, co_eqi, co_nei, co_eqs, co_nes, co_lt, co_le, co_gt, co_ge, len_str, len_tup, isi_int, isi_str, isi_tup, isi_sint, isi_ints, isi_intb, divMost, Int.reduceLT, Int.reduceLE, and_self, Bool.not_true, Bool.not_false, al_list, or_true, true_or, if_true, decide_eq_true hup]
          · refine (x_asg (.str ([48 + u % 10] ++ acc)) σ' [some (.int u), some (.str ([48 + u % 10] ++ acc))] ?_).trans ((x_asg (.int (u / 10 : Nat)) σ' _ ?_).trans x_nil)
            · simp only [ev, evs, evo, evAnd, evOr, evi, Res.bind_ok, List.getElem?_cons_zero, List.getElem?_cons_succ, ofOpt, Option.map_some, bo_add, bo_sub, bo_mod, bo_fdiv, co_eqi, co_nei, co_eqs, co_nes, co_lt, co_le, co_gt, co_ge, len_str, len_tup, isi_int, isi_str, isi_tup, isi_sint, isi_ints, isi_intb, divMost, Int.reduceLT, Int.reduceLE, and_self, Bool.not_true, Bool.not_false, al_list, or_true, true_or, if_true, e1, so_str _ _ _ _ (fig_at (show u % 10 < 10 by omega)), bo_cat [48 + u % 10] acc _ (by simp [most]; omega)]
            · simp only [ev, evs, evo, evAnd, evOr, evi, Res.bind_ok, List.getElem?_cons_zero, List.getElem?_cons_succ, ofOpt, Option.map_some, bo_add, bo_sub, bo_mod, bo_fdiv, co_eqi, co_nei, co_eqs, co_nes, co_lt, co_le, co_gt, co_ge, len_str, len_tup, isi_int, isi_str, isi_tup, isi_sint, isi_ints, isi_intb, divMost, Int.reduceLT, Int.reduceLE, and_self, Bool.not_true, Bool.not_false, al_list, or_true, true_or, if_true, e2]
          · rw [← hu]
            by_cases hs : u < 10
            · rw [if_pos (by omega), digits_small hs, Nat.mod_eq_of_lt hs]
            · rw [if_neg (by omega), digits_step hs, List.append_assoc])
    obtain ⟨ρ', σ', σ'', h1, h2, rfl, u, acc, rfl, hm, hu⟩ := hw
    have hu0 : u = 0 := by
      unfold numd at hm
      split at hm
      · assumption
      · have := digits_pos u; omega
    subst hu0
    rw [if_pos rfl] at hu
    subst hu
    exact (x_skip σ'' (by simp only [ev, evs, evo, evAnd, evOr, evi, Res.bind_ok, List.getElem?_cons_zero, List.getElem?_cons_succ, ofOpt, Option.map_some, bo_add, bo_sub, bo_mod, bo_fdiv, co_eqi, co_nei, co_eqs, co_nes, co_lt, co_le, co_gt, co_ge, len_str, len_tup, isi_int, isi_str, isi_tup, isi_sint, isi_ints, isi_intb, divMost, Int.reduceLT, Int.reduceLE, and_self, Bool.not_true, Bool.not_false, al_list, or_true, true_or, if_true, b0])).trans ((x_asg (.str []) σ'' [some (.int v), some (.str [])] (by simp only [ev, evs, evo, evAnd, evOr, evi, Res.bind_ok, List.getElem?_cons_zero, List.getElem?_cons_succ, ofOpt, Option.map_some, bo_add, bo_sub, bo_mod, bo_fdiv, co_eqi, co_nei, co_eqs, co_nes, co_lt, co_le, co_gt, co_ge, len_str, len_tup, isi_int, isi_str, isi_tup, isi_sint, isi_ints, isi_intb, divMost, Int.reduceLT, Int.reduceLE, and_self, Bool.not_true, Bool.not_false, al_list, or_true, true_or, if_true])).trans ((x_while σ'' _ h1).trans (x_ret _ _ (by simp only [ev, evs, evo, evAnd, evOr, evi, Res.bind_ok, List.getElem?_cons_zero, List.getElem?_cons_succ, ofOpt, Option.map_some, bo_add, bo_sub, bo_mod, bo_fdiv, co_eqi, co_nei, co_eqs, co_nes, co_lt, co_le, co_gt, co_ge, len_str, len_tup, isi_int, isi_str, isi_tup, isi_sint, isi_ints, isi_intb, divMost, Int.reduceLT, Int.reduceLE, and_self, Bool.not_true, Bool.not_false, al_list, or_true, true_or, if_true]))))

theorem is_ware {w : List Nat} (hw : Ware 20 w) : callN P (n + 1) hd 19 [.str w] σ = .ok (.bool true) σ := by
  obtain ⟨hw1, hw2, hwl⟩ := hw
  have hfor := for_inv (body := fun (ρ : Rho) (σ : Sto) => exs (callN P n) hd [.iff (.cmp .nmem (.loc 1) (.gcon 0 (.str L26))) [.ret (some (.lit (.bool false)))] []] ρ σ) (is := [1]) (all := (w.map fun c => D.str [c], []))
    (fun k ρ σ' => σ' = σ ∧ ∃ x, ρ = [some (.str w), x]) (w.map fun c => D.str [c]) 0 [some (.str w), none] σ ⟨rfl, none, rfl⟩ (by
      rintro j d ρ σ'' hj ⟨rfl, x, rfl⟩
      rw [List.getElem?_map] at hj
      obtain ⟨ch, hch, rfl⟩ := Option.map_eq_some_iff.mp hj
      have hin := let_in (hwl ch (List.mem_of_getElem? hch))
      refine ⟨[some (.str w), some (.str [ch])], [some (.str w), some (.str [ch])], σ'', by simp [unpackT, setVars], (x_skip σ'' ?_).trans x_nil, rfl, _, rfl⟩
      simp only [ev, evs, evo, evAnd, evOr, evi, Res.bind_ok, List.getElem?_cons_zero, List.getElem?_cons_succ, ofOpt, Option.map_some, bo_add, bo_sub, bo_mod, bo_fdiv, co_eqi, co_nei, co_eqs, co_nes, co_lt, co_le, co_gt, co_ge, len_str, len_tup, isi_int, isi_str, isi_tup, isi_sint, isi_ints, isi_intb, divMost, Int.reduceLT, Int.reduceLE, and_self, Bool.not_true, Bool.not_false, al_list, or_true, true_or, if_true, co_nmemc, hin])
  obtain ⟨ρ', σ', h1, rfl, x, rfl⟩ := hfor
  refine callN_run H.h19 [some (.str w), none] ((x_skip σ' ?_).trans ((x_for ⟨_, _, _⟩ σ' σ' _ ?_ h1).trans (x_ret _ _ (by rw [ev]))))
  · simp only [ev, evs, evo, evAnd, evOr, evi, Res.bind_ok, List.getElem?_cons_zero, List.getElem?_cons_succ, ofOpt, Option.map_some, bo_add, bo_sub, bo_mod, bo_fdiv, co_eqi, co_nei, co_eqs, co_nes, co_lt, co_le, co_gt, co_ge, len_str, len_tup, isi_int, isi_str, isi_tup, isi_sint, isi_ints, isi_intb, divMost, Int.reduceLT, Int.reduceLE, and_self, Bool.not_true, Bool.not_false, al_list, or_true, true_or, if_true, decide_eq_false (show ¬ ((w.length : Int) < 1) by omega), decide_eq_false (show ¬ ((20 : Int) < (w.length : Int)) by omega)]
  · simp only [ev, evs, evo, evAnd, evOr, evi, Res.bind_ok, List.getElem?_cons_zero, List.getElem?_cons_succ, ofOpt, Option.map_some, bo_add, bo_sub, bo_mod, bo_fdiv, co_eqi, co_nei, co_eqs, co_nes, co_lt, co_le, co_gt, co_ge, len_str, len_tup, isi_int, isi_str, isi_tup, isi_sint, isi_ints, isi_intb, divMost, Int.reduceLT, Int.reduceLE, and_self, Bool.not_true, Bool.not_false, al_list, or_true, true_or, if_true, itemsOf]

theorem ware_of {w : List Nat} (hw : Ware 20 w) : callN P (n + 2) hd 79 [.str w] σ = .ok (.str w) σ :=
  callN_run H.h79 [some (.str w)] ((x_skip σ (by simp only [ev, evs, evo, evAnd, evOr, evi, Res.bind_ok, List.getElem?_cons_zero, List.getElem?_cons_succ, ofOpt, Option.map_some, bo_add, bo_sub, bo_mod, bo_fdiv, co_eqi, co_nei, co_eqs, co_nes, co_lt, co_le, co_gt, co_ge, len_str, len_tup, isi_int, isi_str, isi_tup, isi_sint, isi_ints, isi_intb, divMost, Int.reduceLT, Int.reduceLE, and_self, Bool.not_true, Bool.not_false, al_list, or_true, true_or, if_true, is_ware H hw])).trans (x_ret _ _ (by simp only [ev, evs, evo, evAnd, evOr, evi, Res.bind_ok, List.getElem?_cons_zero, List.getElem?_cons_succ, ofOpt, Option.map_some, bo_add, bo_sub, bo_mod, bo_fdiv, co_eqi, co_nei, co_eqs, co_nes, co_lt, co_le, co_gt, co_ge, len_str, len_tup, isi_int, isi_str, isi_tup, isi_sint, isi_ints, isi_intb, divMost, Int.reduceLT, Int.reduceLE, and_self, Bool.not_true, Bool.not_false, al_list, or_true, true_or, if_true])))

theorem int_digits (v : Nat) (hv : v < 10 ^ 31) (σ : Sto) : callBi .int [.str (digits v)] σ = .ok (.int v) σ := by
  have : (digits v).length ≤ 31 := digits_len hv
  simp only [callBi, textInt_digits]
  rw [if_pos (by omega)]

theorem number_of (v : Nat) (l m : Int) (hl : l ≤ v) (hm : v ≤ m) (hv : v < 10 ^ 31) : callN P (n + 1) hd 78 [.str (digits v), .int l, .int m] σ = .ok (.int v) σ := by
  have hlen : (digits v).length ≤ 31 := digits_len hv
  have hpos := digits_pos v
  have hfor := for_inv (body := fun (ρ : Rho) (σ : Sto) => exs (callN P n) hd [.iff (.cmp .nmem (.loc 3) (.gcon 0 (.str FIG))) [.raise] []] ρ σ) (is := [3]) (all := ((digits v).map fun c => D.str [c], []))
    (fun k ρ σ' => σ' = σ ∧ ∃ x, ρ = [some (.str (digits v)), some (.int l), some (.int m), x]) ((digits v).map fun c => D.str [c]) 0 [some (.str (digits v)), some (.int l), some (.int m), none] σ ⟨rfl, none, rfl⟩ (by
      rintro j d ρ σ'' hj ⟨rfl, x, rfl⟩
      rw [List.getElem?_map] at hj
      obtain ⟨ch, hch, rfl⟩ := Option.map_eq_some_iff.mp hj
      have hin := fig_in (digits_range (List.mem_of_getElem? hch))
      refine ⟨[some (.str (digits v)), some (.int l), some (.int m), some (.str [ch])], [some (.str (digits v)), some (.int l), some (.int m), some (.str [ch])], σ'', by simp [unpackT, setVars], (x_skip σ'' ?_).trans x_nil, rfl, _, rfl⟩
      simp only [ev, evs, evo, evAnd, evOr, evi, Res.bind_ok, List.getElem?_cons_zero, List.getElem?_cons_succ, ofOpt, Option.map_some, bo_add, bo_sub, bo_mod, bo_fdiv, co_eqi, co_nei, co_eqs, co_nes, co_lt, co_le, co_gt, co_ge, len_str, len_tup, isi_int, isi_str, isi_tup, isi_sint, isi_ints, isi_intb, divMost, Int.reduceLT, Int.reduceLE, and_self, Bool.not_true, Bool.not_false, al_list, or_true, true_or, if_true, co_nmemc, hin])
  obtain ⟨ρ', σ', h1, rfl, x, rfl⟩ := hfor
  have hint := int_digits H v hv
  refine callN_run H.h78 [some (.str (digits v)), some (.int l), some (.int m), none] ((x_skip σ' ?_).trans ((x_for ⟨_, _, _⟩ σ' σ' _ ?_ h1).trans ((x_skip σ' ?_).trans (x_ret _ _ (by simp only [ev, evs, evo, evAnd, evOr, evi, Res.bind_ok, List.getElem?_cons_zero, List.getElem?_cons_succ, ofOpt, Option.map_some, bo_add, bo_sub, bo_mod, bo_fdiv, co_eqi, co_nei, co_eqs, co_nes, co_lt, co_le, co_gt, co_ge, len_str, len_tup, isi_int, isi_str, isi_tup, isi_sint, isi_ints, isi_intb, divMost, Int.reduceLT, Int.reduceLE, and_self, Bool.not_true, Bool.not_false, al_list, or_true, true_or, if_true, hint])))))
  · have q1 := decide_eq_false (show ¬ (((digits v).length : Int) < 1) by omega)
    have q2 := decide_eq_false (show ¬ ((31 : Int) < ((digits v).length : Int)) by omega)
    by_cases hg : 1 < (digits v).length
    · have q3 := decide_eq_true (show ((1 : Int) < ((digits v).length : Int)) by omega)
      have hv1 : 1 ≤ v := by
        by_cases q : v = 0
        · subst q; rw [digits_small (by decide)] at hg; simp at hg
        · omega
      have hh := digits_head v hv1
      obtain ⟨ch, hch⟩ : ∃ ch, (digits v)[0]? = some ch := ⟨_, List.getElem?_eq_getElem (by omega)⟩
      have hne : ([ch] == [48]) = false := by
        rw [hch] at hh
        have : ch ≠ 48 := fun q => hh (by rw [q])
        simp [this]
      have hs : subOp (.str (digits v)) (.int 0) σ' = .ok (.str [ch]) σ' := so_str _ 0 _ _ hch
      simp only [ev, evs, evo, evAnd, evOr, evi, Res.bind_ok, List.getElem?_cons_zero, List.getElem?_cons_succ, ofOpt, Option.map_some, bo_add, bo_sub, bo_mod, bo_fdiv, co_eqi, co_nei, co_eqs, co_nes, co_lt, co_le, co_gt, co_ge, len_str, len_tup, isi_int, isi_str, isi_tup, isi_sint, isi_ints, isi_intb, divMost, Int.reduceLT, Int.reduceLE, and_self, Bool.not_true, Bool.not_false, al_list, or_true, true_or, if_true, q1, q2, q3, hs, hne]
    · have q3 := decide_eq_false (show ¬ ((1 : Int) < ((digits v).length : Int)) by omega)
      simp only [ev, evs, evo, evAnd, evOr, evi, Res.bind_ok, List.getElem?_cons_zero, List.getElem?_cons_succ, ofOpt, Option.map_some, bo_add, bo_sub, bo_mod, bo_fdiv, co_eqi, co_nei, co_eqs, co_nes, co_lt, co_le, co_gt, co_ge, len_str, len_tup, isi_int, isi_str, isi_tup, isi_sint, isi_ints, isi_intb, divMost, Int.reduceLT, Int.reduceLE, and_self, Bool.not_true, Bool.not_false, al_list, or_true, true_or, if_true, q1, q2, q3]
  · simp only [ev, evs, evo, evAnd, evOr, evi, Res.bind_ok, List.getElem?_cons_zero, List.getElem?_cons_succ, ofOpt, Option.map_some, bo_add, bo_sub, bo_mod, bo_fdiv, co_eqi, co_nei, co_eqs, co_nes, co_lt, co_le, co_gt, co_ge, len_str, len_tup, isi_int, isi_str, isi_tup, isi_sint, isi_ints, isi_intb, divMost, Int.reduceLT, Int.reduceLE, and_self, Bool.not_true, Bool.not_false, al_list, or_true, true_or, if_true, itemsOf]
  · simp only [ev, evs, evo, evAnd, evOr, evi, Res.bind_ok, List.getElem?_cons_zero, List.getElem?_cons_succ, ofOpt, Option.map_some, bo_add, bo_sub, bo_mod, bo_fdiv, co_eqi, co_nei, co_eqs, co_nes, co_lt, co_le, co_gt, co_ge, len_str, len_tup, isi_int, isi_str, isi_tup, isi_sint, isi_ints, isi_intb, divMost, Int.reduceLT, Int.reduceLE, and_self, Bool.not_true, Bool.not_false, al_list, or_true, true_or, if_true, hint, decide_eq_true hl, decide_eq_true hm]

theorem place_of (v : Nat) (hv : v ≤ 9999) : callN P (n + 2) hd 80 [.str (digits v)] σ = .ok (.int v) σ :=
  callN_run H.h80 [some (.str (digits v))] (x_ret _ _ (by simp only [ev, evs, evo, evAnd, evOr, evi, Res.bind_ok, List.getElem?_cons_zero, List.getElem?_cons_succ, ofOpt, Option.map_some, bo_add, bo_sub, bo_mod, bo_fdiv, co_eqi, co_nei, co_eqs, co_nes, co_lt, co_le, co_gt, co_ge, len_str, len_tup, isi_int, isi_str, isi_tup, isi_sint, isi_ints, isi_intb, divMost, Int.reduceLT, Int.reduceLE, and_self, Bool.not_true, Bool.not_false, al_list, or_true, true_or, if_true, number_of H v 0 9999 (by omega) (by omega) (by omega)]))
end
end Mine

/-! part MP07d -/
namespace Mine
open PySem
set_option maxRecDepth 100000

noncomputable def txt : D → List Nat
  | .int i => digits i.toNat
  | .str s => s
  | _ => []
noncomputable def Part (d : D) : Prop := (∃ v : Nat, d = .int v ∧ v < 10 ^ 31) ∨ ∃ w, d = .str w ∧ Ware 20 w
theorem Part.flat {d : D} (h : Part d) : Flat d := by
  rcases h with ⟨v, rfl, _⟩ | ⟨w, rfl, _⟩ <;> trivial
theorem Part.len {d : D} (h : Part d) : (txt d).length ≤ 31 := by
  rcases h with ⟨v, rfl, hv⟩ | ⟨w, rfl, hw⟩
  · exact digits_len (by simpa using hv)
  · exact Nat.le_trans hw.2.1 (by decide)
theorem Part.free {d : D} (h : Part d) : 32 ∉ txt d := by
  rcases h with ⟨v, rfl, hv⟩ | ⟨w, rfl, hw⟩
  · intro q; have := digits_range (m := v) (c := 32) (by simpa [txt] using q); omega
  · intro q; have := hw.2.2 32 q; omega

theorem sum_le {k : Nat} : ∀ {ss : List (List Nat)}, (∀ s ∈ ss, s.length ≤ k) → (ss.map (·.length)).sum ≤ k * ss.length
  | [], _ => by simp
  | s :: ss, h => by
    have := sum_le (k := k) (ss := ss) fun x hx => h x (.tail _ hx)
    have := h s (.head _)
    simp only [List.map_cons, List.sum_cons, List.length_cons]
    rw [Nat.mul_add]; omega

theorem zipD_self : ∀ ds : List D, zipD ds ds = ds.map fun d => .tup [d, d]
  | [] => rfl
  | d :: ds => by rw [zipD, zipD_self ds]; rfl

theorem str_str (s : List Nat) (σ : Sto) : callBi .str [.str s] σ = .ok (.str s) σ := by simp only [callBi]
theorem p31 : (10 ^ 31 : Nat) < 10 ^ 70 := by decide +kernel
theorem str_nat (v : Nat) (hv : v < 10 ^ 31) (σ : Sto) : callBi .str [.int v] σ = .ok (.str (digits v)) σ := by
  have h2 : (v : Int) < 10 ^ 70 := by
    have := Nat.lt_trans hv p31
    exact_mod_cast this
  unfold callBi
  dsimp only
  rw [if_pos ⟨Int.natCast_nonneg v, h2⟩, intText_nat]

section
variable {P : Prog} (H : Has07 P) {n : Nat} {hd : Bool} {σ : Sto} {h : List Nat} {ps : List D}
include H

theorem line_of (hh : h.length ≤ 20) (hp : ∀ p ∈ ps, Part p) (hl : ps.length ≤ 100) : callN P (n + 2) hd 85 [.tup (.str h :: ps)] σ = .ok (.str (joinS [32] (h :: ps.map txt))) σ := by
  let go : Nat → List Nat := fun k => (ps.take k).foldl (fun acc p => acc ++ [32] ++ txt p) h
  have hgo : ∀ k, k ≤ ps.length → (go k).length ≤ 20 + 32 * k := by
    intro k
    induction k with
    | zero => intro _; simpa [go] using hh
    | succ k ih =>
      intro hk
      have hk' : k < ps.length := hk
      have := ih (by omega)
      have e : go (k + 1) = go k ++ [32] ++ txt ps[k] := by
        simp only [go]
        rw [List.take_succ_eq_append_getElem hk', List.foldl_append]; rfl
      rw [e]
      have := (hp ps[k] (List.getElem_mem hk')).len
      simp only [List.length_append, List.length_cons, List.length_nil]; omega
  have hfor := for_inv (body := fun (ρ : Rho) (σ : Sto) => exs (callN P (n + 1)) hd [.iff (.isinst (.loc 2) .int) [.asg 1 (.bin .add (.bin .add (.loc 1) (.lit (.str [32]))) (.callF 83 [.loc 2]))] [.asg 1 (.bin .add (.bin .add (.loc 1) (.lit (.str [32]))) (.loc 2))]] ρ σ) (is := [2]) (all := (ps, []))
    (fun k ρ σ' => σ' = σ ∧ ∃ x, ρ = [some (.tup (.str h :: ps)), some (.str (go k)), x]) ps 0 [some (.tup (.str h :: ps)), some (.str h), none] σ ⟨rfl, none, by simp [go]⟩ (by
      rintro j d ρ σ'' hj ⟨rfl, x, rfl⟩
      have hjl : j < ps.length := (List.getElem?_eq_some_iff.mp hj).1
      have hjd : ps[j] = d := (List.getElem?_eq_some_iff.mp hj).2
      have e : go (j + 1) = go j ++ [32] ++ txt d := by
        simp only [go]
        rw [List.take_succ_eq_append_getElem hjl, List.foldl_append, hjd]; rfl
      have hg := hgo j (by omega)
      have hpd := hp d (hjd ▸ List.getElem_mem hjl)
      have hdl := hpd.len
      have c1 : binOp .add (.str (go j)) (.str [32]) σ'' = .ok (.str (go j ++ [32])) σ'' := bo_cat _ _ _ (by simp [most]; omega)
      have c2 : binOp .add (.str (go j ++ [32])) (.str (txt d)) σ'' = .ok (.str (go (j + 1))) σ'' := by rw [e]; exact bo_cat _ _ _ (by simp [most]; omega)
      refine ⟨[some (.tup (.str h :: ps)), some (.str (go j)), some d], [some (.tup (.str h :: ps)), some (.str (go (j + 1))), some d], σ'', by simp [unpackT, setVars], ?_, rfl, some d, by rw [Nat.zero_add]⟩
      rcases hpd with ⟨v, rfl, hv⟩ | ⟨w, rfl, hw⟩
      · refine (x_ift σ'' σ'' _ (by simp only [ev, evs, evo, evAnd, evOr, evi, Res.bind_ok, List.getElem?_cons_zero, List.getElem?_cons_succ, ofOpt, Option.map_some, bo_add, bo_sub, bo_mod, bo_fdiv, co_eqi, co_nei, co_eqs, co_nes, co_lt, co_le, co_gt, co_ge, len_str, len_tup, isi_int, isi_str, isi_tup, isi_sint, isi_ints, isi_intb, divMost, Int.reduceLT, Int.reduceLE, and_self, Bool.not_true, Bool.not_false, al_list, or_true, true_or, if_true]) ((x_asg (.str (go (j + 1))) σ'' _ ?_).trans x_nil)).trans x_nil
        have hf := figures (n := n) (hd := hd) (σ := σ'') H v hv
        have c3 : binOp .add (.str (go j ++ [32])) (.str (digits v)) σ'' = .ok (.str (go (j + 1))) σ'' := by simpa [txt] using c2
        simp only [ev, evs, evo, evAnd, evOr, evi, Res.bind_ok, List.getElem?_cons_zero, List.getElem?_cons_succ, ofOpt, Option.map_some, bo_add, bo_sub, bo_mod, bo_fdiv, co_eqi, co_nei, co_eqs, co_nes, co_lt, co_le, co_gt, co_ge, len_str, len_tup, isi_int, isi_str, isi_tup, isi_sint, isi_ints, isi_intb, divMost, Int.reduceLT, Int.reduceLE, and_self, Bool.not_true, Bool.not_false, al_list, or_true, true_or, if_true, c1, hf, c3]
      · refine (x_iff σ'' σ'' _ (by simp only [ev, evs, evo, evAnd, evOr, evi, Res.bind_ok, List.getElem?_cons_zero, List.getElem?_cons_succ, ofOpt, Option.map_some, bo_add, bo_sub, bo_mod, bo_fdiv, co_eqi, co_nei, co_eqs, co_nes, co_lt, co_le, co_gt, co_ge, len_str, len_tup, isi_int, isi_str, isi_tup, isi_sint, isi_ints, isi_intb, divMost, Int.reduceLT, Int.reduceLE, and_self, Bool.not_true, Bool.not_false, al_list, or_true, true_or, if_true]) ((x_asg (.str (go (j + 1))) σ'' _ ?_).trans x_nil)).trans x_nil
        have c3 : binOp .add (.str (go j ++ [32])) (.str w) σ'' = .ok (.str (go (j + 1))) σ'' := by simpa [txt] using c2
        simp only [ev, evs, evo, evAnd, evOr, evi, Res.bind_ok, List.getElem?_cons_zero, List.getElem?_cons_succ, ofOpt, Option.map_some, bo_add, bo_sub, bo_mod, bo_fdiv, co_eqi, co_nei, co_eqs, co_nes, co_lt, co_le, co_gt, co_ge, len_str, len_tup, isi_int, isi_str, isi_tup, isi_sint, isi_ints, isi_intb, divMost, Int.reduceLT, Int.reduceLE, and_self, Bool.not_true, Bool.not_false, al_list, or_true, true_or, if_true, c1, c3])
  obtain ⟨ρ', σ', h1, rfl, x, rfl⟩ := hfor
  have hend : go (0 + ps.length) = joinS [32] (h :: ps.map txt) := by
    rw [joinS_fold, List.foldl_map]
    show (ps.take (0 + ps.length)).foldl _ h = _
    rw [Nat.zero_add, List.take_length]
  refine callN_run H.h85 [some (.tup (.str h :: ps)), none, none] ((x_asg (.str h) σ' [some (.tup (.str h :: ps)), some (.str h), none] ?_).trans ((x_for ⟨_, _, _⟩ σ' σ' _ ?_ h1).trans (x_ret _ _ ?_)))
  · have : subOp (.tup (.str h :: ps)) (.int 0) σ' = .ok (.str h) σ' := so_tup _ 0 _ _ rfl
    simp only [ev, evs, evo, evAnd, evOr, evi, Res.bind_ok, List.getElem?_cons_zero, List.getElem?_cons_succ, ofOpt, Option.map_some, bo_add, bo_sub, bo_mod, bo_fdiv, co_eqi, co_nei, co_eqs, co_nes, co_lt, co_le, co_gt, co_ge, len_str, len_tup, isi_int, isi_str, isi_tup, isi_sint, isi_ints, isi_intb, divMost, Int.reduceLT, Int.reduceLE, and_self, Bool.not_true, Bool.not_false, al_list, or_true, true_or, if_true, this]
  · have : sliceOp (.tup (.str h :: ps)) (some (.int 1)) none σ' = .ok (.tup ps) σ' := by
      simp only [sliceOp]
      rw [if_pos ⟨by decide, by simp; omega⟩]; rfl
    simp only [ev, evs, evo, evAnd, evOr, evi, Res.bind_ok, List.getElem?_cons_zero, List.getElem?_cons_succ, ofOpt, Option.map_some, bo_add, bo_sub, bo_mod, bo_fdiv, co_eqi, co_nei, co_eqs, co_nes, co_lt, co_le, co_gt, co_ge, len_str, len_tup, isi_int, isi_str, isi_tup, isi_sint, isi_ints, isi_intb, divMost, Int.reduceLT, Int.reduceLE, and_self, Bool.not_true, Bool.not_false, al_list, or_true, true_or, if_true, this, itemsOf]
  · simp only [ev, evs, evo, evAnd, evOr, evi, Res.bind_ok, List.getElem?_cons_zero, List.getElem?_cons_succ, ofOpt, Option.map_some, bo_add, bo_sub, bo_mod, bo_fdiv, co_eqi, co_nei, co_eqs, co_nes, co_lt, co_le, co_gt, co_ge, len_str, len_tup, isi_int, isi_str, isi_tup, isi_sint, isi_ints, isi_intb, divMost, Int.reduceLT, Int.reduceLE, and_self, Bool.not_true, Bool.not_false, al_list, or_true, true_or, if_true, hend]

theorem alike {ds : List D} (hf : ∀ d ∈ ds, Flat d) : callN P (n + 2) hd 68 [.tup ds, .tup ds] σ = .ok (.bool true) σ := by
  have hfor := for_inv (body := fun (ρ : Rho) (σ : Sto) => exs (callN P (n + 1)) hd [.iff (.or [.and [.isinst (.loc 3) .int, .not (.callF 25 [.loc 2])], .and [.isinst (.loc 3) .str, .not (.isinst (.loc 2) .str)]]) [.ret (some (.lit (.bool false)))] []] ρ σ) (is := [2, 3]) (all := ([], []))
    (fun k ρ σ' => σ' = σ ∧ ∃ x y, ρ = [some (.tup ds), some (.tup ds), x, y]) (zipD ds ds) 0 [some (.tup ds), some (.tup ds), none, none] σ ⟨rfl, none, none, rfl⟩ (by
      rintro j d ρ σ'' hj ⟨rfl, x, y, rfl⟩
      rw [zipD_self, List.getElem?_map] at hj
      obtain ⟨e, he, rfl⟩ := Option.map_eq_some_iff.mp hj
      refine ⟨[some (.tup ds), some (.tup ds), some e, some e], [some (.tup ds), some (.tup ds), some e, some e], σ'', by simp [unpackT, setVars], (x_skip σ'' ?_).trans x_nil, rfl, _, _, rfl⟩
      have hfe := hf e (List.mem_of_getElem? he)
      cases e with
      | int i => simp only [ev, evs, evo, evAnd, evOr, evi, Res.bind_ok, List.getElem?_cons_zero, List.getElem?_cons_succ, ofOpt, Option.map_some, bo_add, bo_sub, bo_mod, bo_fdiv, co_eqi, co_nei, co_eqs, co_nes, co_lt, co_le, co_gt, co_ge, len_str, len_tup, isi_int, isi_str, isi_tup, isi_sint, isi_ints, isi_intb, divMost, Int.reduceLT, Int.reduceLE, and_self, Bool.not_true, Bool.not_false, al_list, or_true, true_or, if_true, whole_int H i]
      | str s => simp only [ev, evs, evo, evAnd, evOr, evi, Res.bind_ok, List.getElem?_cons_zero, List.getElem?_cons_succ, ofOpt, Option.map_some, bo_add, bo_sub, bo_mod, bo_fdiv, co_eqi, co_nei, co_eqs, co_nes, co_lt, co_le, co_gt, co_ge, len_str, len_tup, isi_int, isi_str, isi_tup, isi_sint, isi_ints, isi_intb, divMost, Int.reduceLT, Int.reduceLE, and_self, Bool.not_true, Bool.not_false, al_list, or_true, true_or, if_true]
      | _ => exact hfe.elim)
  obtain ⟨ρ', σ', h1, rfl, x, y, rfl⟩ := hfor
  have he : cmpOp .eq (.tup ds) (.tup ds) σ' = .ok (.bool true) σ' := by
    unfold cmpOp; rw [pyEq_tup _ hf]; rfl
  have hb : (!((ds.length : Int) == (ds.length : Int))) = false := by simp
  exact callN_run H.h68 [some (.tup ds), some (.tup ds), none, none] ((x_skip σ' (by simp only [ev, evs, evo, evAnd, evOr, evi, Res.bind_ok, List.getElem?_cons_zero, List.getElem?_cons_succ, ofOpt, Option.map_some, bo_add, bo_sub, bo_mod, bo_fdiv, co_eqi, co_nei, co_eqs, co_nes, co_lt, co_le, co_gt, co_ge, len_str, len_tup, isi_int, isi_str, isi_tup, isi_sint, isi_ints, isi_intb, divMost, Int.reduceLT, Int.reduceLE, and_self, Bool.not_true, Bool.not_false, al_list, or_true, true_or, if_true, hb])).trans ((x_for ⟨_, _, _⟩ σ' σ' _ (by simp only [ev, evs, evo, evAnd, evOr, evi, Res.bind_ok, List.getElem?_cons_zero, List.getElem?_cons_succ, ofOpt, Option.map_some, bo_add, bo_sub, bo_mod, bo_fdiv, co_eqi, co_nei, co_eqs, co_nes, co_lt, co_le, co_gt, co_ge, len_str, len_tup, isi_int, isi_str, isi_tup, isi_sint, isi_ints, isi_intb, divMost, Int.reduceLT, Int.reduceLE, and_self, Bool.not_true, Bool.not_false, al_list, or_true, true_or, if_true]) h1).trans (x_ret _ _ (by simp only [ev, evs, evo, evAnd, evOr, evi, Res.bind_ok, List.getElem?_cons_zero, List.getElem?_cons_succ, ofOpt, Option.map_some, bo_add, bo_sub, bo_mod, bo_fdiv, co_eqi, co_nei, co_eqs, co_nes, co_lt, co_le, co_gt, co_ge, len_str, len_tup, isi_int, isi_str, isi_tup, isi_sint, isi_ints, isi_intb, divMost, Int.reduceLT, Int.reduceLE, and_self, Bool.not_true, Bool.not_false, al_list, or_true, true_or, if_true, he]))))
end
end Mine

/-! part MP07e -/
namespace Mine
open PySem
set_option maxRecDepth 100000
section
variable {P : Prog} (H : Has07 P) {n : Nat} {hd : Bool} {σ : Sto} {h : List Nat} {ps : List D}
include H
theorem shown (hh : h.length ≤ 20) (hp : ∀ p ∈ ps, Part p) (hl : ps.length ≤ 100) : ∃ σ', callN P (n + 1) hd 77 [.tup (.str h :: ps)] σ = .ok (.str (joinS [32] (h :: ps.map txt))) σ' ∧ σ <+: σ' := by
  have hc := comp_map (elt := fun ρ σ => ev (callN P n hd) (.callB .str [.loc 1]) ρ σ) (σ := σ) (all := (.str h :: ps, [])) (ρ := [some (.tup (.str h :: ps))]) (f := fun d => .str (txt d)) (.str h :: ps) [] (by
    intro d hd'
    simp only [List.cons_append, List.nil_append]
    rcases List.mem_cons.mp hd' with rfl | hd'
    · have : callBi .str [.str h] σ = .ok (.str h) σ := str_str h σ
      simp only [ev, evs, evo, evAnd, evOr, evi, Res.bind_ok, List.getElem?_cons_zero, List.getElem?_cons_succ, ofOpt, Option.map_some, bo_add, bo_sub, bo_mod, bo_fdiv, co_eqi, co_nei, co_eqs, co_nes, co_lt, co_le, co_gt, co_ge, len_str, len_tup, isi_int, isi_str, isi_tup, isi_sint, isi_ints, isi_intb, divMost, Int.reduceLT, Int.reduceLE, and_self, Bool.not_true, Bool.not_false, al_list, or_true, true_or, if_true, this, txt]
    · rcases hp d hd' with ⟨v, rfl, hv⟩ | ⟨w, rfl, hw⟩
      · have e : txt (.int (v : Int)) = digits v := by simp [txt]
        rw [e]
        exact (e_callB (e_one (e_loc rfl))).trans (str_nat v hv σ)
      · have : callBi .str [.str w] σ = .ok (.str w) σ := str_str w σ
        simp only [ev, evs, evo, evAnd, evOr, evi, Res.bind_ok, List.getElem?_cons_zero, List.getElem?_cons_succ, ofOpt, Option.map_some, bo_add, bo_sub, bo_mod, bo_fdiv, co_eqi, co_nei, co_eqs, co_nes, co_lt, co_le, co_gt, co_ge, len_str, len_tup, isi_int, isi_str, isi_tup, isi_sint, isi_ints, isi_intb, divMost, Int.reduceLT, Int.reduceLE, and_self, Bool.not_true, Bool.not_false, al_list, or_true, true_or, if_true, this, txt])
  have hmap : ((.str h :: ps : List D).map fun d => D.str (txt d)) = (h :: ps.map txt).map .str := by simp [txt]
  rw [hmap] at hc
  refine ⟨σ ++ [.list ((h :: ps.map txt).map .str)], callN_run H.h77 [some (.tup (.str h :: ps))] (x_ret _ _ ?_), List.prefix_append _ _⟩
  refine (e_meth (by simp) (by rw [ev]) (e_one (e_comp (src := ⟨.str h :: ps, (none, none), (.str h :: ps, [])⟩) (by simp only [ev, evs, evo, evAnd, evOr, evi, Res.bind_ok, List.getElem?_cons_zero, List.getElem?_cons_succ, ofOpt, Option.map_some, bo_add, bo_sub, bo_mod, bo_fdiv, co_eqi, co_nei, co_eqs, co_nes, co_lt, co_le, co_gt, co_ge, len_str, len_tup, isi_int, isi_str, isi_tup, isi_sint, isi_ints, isi_intb, divMost, Int.reduceLT, Int.reduceLE, and_self, Bool.not_true, Bool.not_false, al_list, or_true, true_or, if_true, itemsOf]) hc))).trans ?_
  refine m_join _ _ _ _ (get_last _ _) ?_
  have := sum_le (k := 31) (ss := h :: ps.map txt) (by
    intro s hs
    rcases List.mem_cons.mp hs with rfl | hs
    · omega
    · obtain ⟨p, hp', rfl⟩ := List.mem_map.mp hs
      exact (hp p hp').len)
  simp only [List.length_cons, List.length_map, List.length_nil, most] at this ⊢
  omega

end
end Mine

/-! part MP07f -/
namespace Mine
open PySem
set_option maxRecDepth 100000

noncomputable abbrev wCome : List Nat := [99, 111, 109, 101]
noncomputable abbrev wGo : List Nat := [103, 111]
noncomputable abbrev wMove : List Nat := [109, 111, 118, 101]
noncomputable abbrev wHold : List Nat := [104, 111, 108, 100]
noncomputable abbrev wLet : List Nat := [108, 101, 116]
noncomputable abbrev wTake : List Nat := [116, 97, 107, 101]
noncomputable abbrev wShift : List Nat := [115, 104, 105, 102, 116]
noncomputable abbrev wCounted : List Nat := [99, 111, 117, 110, 116, 101, 100]
noncomputable abbrev wWish : List Nat := [119, 105, 115, 104]
noncomputable abbrev nine : List (List Nat) := [wCome, wGo, wMove, wHold, wLet, wTake, wShift, wCounted, wWish]

inductive EntryOk : List Nat → List D → Prop
  | four {h w : List Nat} {p v : Nat} : h = wCome ∨ h = wGo ∨ h = wHold → p ≤ 9999 → Ware 20 w → 1 ≤ v → v ≤ 10 ^ 30 → EntryOk h [.int p, .str w, .int v]
  | counted {w : List Nat} {p v : Nat} : p ≤ 9999 → Ware 20 w → v ≤ 10 ^ 30 → EntryOk wCounted [.int p, .str w, .int v]
  | move {w : List Nat} {p g v : Nat} : p ≤ 9999 → g ≤ 9999 → Ware 20 w → 1 ≤ v → v ≤ 10 ^ 30 → EntryOk wMove [.int p, .int g, .str w, .int v]
  | one {h : List Nat} {v : Nat} : h = wLet ∨ h = wTake → 1 ≤ v → v ≤ 10 ^ 30 → EntryOk h [.int v]
  | shift {p v : Nat} : 1 ≤ v → v ≤ 10 ^ 30 → p ≤ 9999 → EntryOk wShift [.int v, .int p]
  | wish {w : List Nat} {v : Nat} : Ware 20 w → 1 ≤ v → v ≤ 10 ^ 30 → EntryOk wWish [.str w, .int v]

theorem pInt {v : Nat} (h : v ≤ 10 ^ 30) : Part (.int v) := .inl ⟨v, rfl, by omega⟩
theorem pStr {w : List Nat} (h : Ware 20 w) : Part (.str w) := .inr ⟨w, rfl, h⟩
theorem EntryOk.parts {h : List Nat} {ps : List D} (e : EntryOk h ps) : ∀ p ∈ ps, Part p := by
  cases e with
  | four _ h1 h2 h3 h4 => intro p hp; simp at hp; rcases hp with rfl | rfl | rfl <;> first | exact pInt (by omega) | exact pStr h2 | exact pInt h4
  | counted h1 h2 h4 => intro p hp; simp at hp; rcases hp with rfl | rfl | rfl <;> first | exact pInt (by omega) | exact pStr h2 | exact pInt h4
  | move h1 h2 h3 h4 h5 => intro p hp; simp at hp; rcases hp with rfl | rfl | rfl | rfl <;> first | exact pInt (by omega) | exact pInt (by omega) | exact pStr h3 | exact pInt h5
  | one _ h1 h2 => intro p hp; simp at hp; subst hp; exact pInt h2
  | shift h1 h2 h3 => intro p hp; simp at hp; rcases hp with rfl | rfl <;> first | exact pInt h2 | exact pInt (by omega)
  | wish h1 h2 h3 => intro p hp; simp at hp; rcases hp with rfl | rfl <;> first | exact pStr h1 | exact pInt h3
theorem EntryOk.head {h : List Nat} {ps : List D} (e : EntryOk h ps) : h.length ≤ 20 ∧ 32 ∉ h ∧ ps.length ≤ 100 := by
  cases e with
  | four h _ _ _ _ => rcases h with rfl | rfl | rfl <;> simp
  | one h _ _ => rcases h with rfl | rfl <;> simp
  | _ => simp

noncomputable abbrev entT : List CS := [.iff (.cmp .eq (.loc 4) (.lit (.str [109, 111, 118, 101]))) [.ret (some (.tup [.loc 4, .loc 5, .loc 6, .loc 7, .loc 8]))] [], .iff (.or [.cmp .eq (.loc 4) (.lit (.str [108, 101, 116])), .cmp .eq (.loc 4) (.lit (.str [116, 97, 107, 101]))]) [.ret (some (.tup [.loc 4, .loc 8]))] [], .iff (.cmp .eq (.loc 4) (.lit (.str [115, 104, 105, 102, 116]))) [.ret (some (.tup [.loc 4, .loc 8, .loc 5]))] [], .iff (.cmp .eq (.loc 4) (.lit (.str [99, 111, 117, 110, 116, 101, 100]))) [.ret (some (.tup [.loc 4, .loc 5, .loc 7, .callF 82 [.loc 3, .lit (.int 0)]]))] [], .iff (.cmp .eq (.loc 4) (.lit (.str [119, 105, 115, 104]))) [.ret (some (.tup [.loc 4, .loc 7, .loc 8]))] [], .ret (some (.tup [.loc 4, .loc 5, .loc 7, .loc 8]))]

section
variable {P : Prog} (H : Has07 P) {n : Nat} {hd : Bool} {σ : Sto}
include H

theorem entry_pre (a b c e : Int) : ∃ (σ' : Sto) (q : Nat) (ware : List Nat) (p g v : Nat), σ <+: σ' ∧ q < 9 ∧ p ≤ 9999 ∧ g ≤ 9999 ∧ Ware 20 ware ∧ 1 ≤ v ∧ v ≤ 10 ^ 30 ∧
    ∀ word, nine[q]? = some word → ∀ d σ'', exs (callN P (n + 2)) hd entT [some (.int a), some (.int b), some (.int c), some (.int e), some (.str word), some (.int p), some (.int g), some (.str ware), some (.int v)] σ' = .ok (.ret d) σ'' →
      callN P (n + 3) hd 84 [.int a, .int b, .int c, .int e] σ = .ok d σ'' := by
  obtain ⟨q, hq⟩ := Int.eq_ofNat_of_zero_le (Int.emod_nonneg a (show (9 : Int) ≠ 0 by decide))
  have hq9 : q < 9 := by have := Int.emod_lt_of_pos a (show (0 : Int) < 9 by decide); omega
  obtain ⟨p, hp⟩ := Int.eq_ofNat_of_zero_le (Int.emod_nonneg b (show (10000 : Int) ≠ 0 by decide))
  have hp9 : p ≤ 9999 := by have := Int.emod_lt_of_pos b (show (0 : Int) < 10000 by decide); omega
  obtain ⟨g, hg⟩ := Int.eq_ofNat_of_zero_le (Int.emod_nonneg (a / 9) (show (10000 : Int) ≠ 0 by decide))
  have hg9 : g ≤ 9999 := by have := Int.emod_lt_of_pos (a / 9) (show (0 : Int) < 10000 by decide); omega
  obtain ⟨t, ht⟩ := Int.eq_ofNat_of_zero_le (Int.emod_nonneg (b / 10000) (show (3 : Int) ≠ 0 by decide))
  have ht3 : t < 3 := by have := Int.emod_lt_of_pos (b / 10000) (show (0 : Int) < 3 by decide); omega
  let ds : List D := nine.map .str
  obtain ⟨w1, w2, w3, r, σ1, hw, hpre, hseq, k1, k2, k3⟩ := wares (n := n) (hd := hd) (σ := σ ++ [.list ds]) H c
  obtain ⟨ware, hware, hwk⟩ : ∃ ware, ([.str w1, .str w2, .str w3] : List D)[t]? = some (.str ware) ∧ Ware 20 ware := by
    have : t = 0 ∨ t = 1 ∨ t = 2 := by omega
    rcases this with rfl | rfl | rfl <;> first | exact ⟨w1, rfl, k1⟩ | exact ⟨w2, rfl, k2⟩ | exact ⟨w3, rfl, k3⟩
  obtain ⟨vi, hv, hv1, hv2⟩ := number_by (n := n + 1) (hd := hd) (σ := σ1) H e 1 (.inr rfl)
  obtain ⟨v, rfl⟩ := Int.eq_ofNat_of_zero_le (show 0 ≤ vi by omega)
  refine ⟨σ1, q, ware, p, g, v, (List.prefix_append _ _).trans hpre, hq9, hp9, hg9, hwk, by omega, by omega, fun word hword d σ'' h => ?_⟩
  have hs1 : subOp (.ref σ.length) (.int q) (σ ++ [.list ds]) = .ok (.str word) (σ ++ [.list ds]) := so_ref _ ds _ _ _ (seqOf_list (get_last _ _)) (by simp only [ds, List.getElem?_map, hword]; rfl)
  have hs2 : subOp (.ref r) (.int t) σ1 = .ok (.str ware) σ1 := so_ref _ _ _ _ _ hseq hware
  refine callN_run H.h84 [some (.int a), some (.int b), some (.int c), some (.int e), none, none, none, none, none] ?_
  refine (x_asg (.str word) (σ ++ [.list ds]) [some (.int a), some (.int b), some (.int c), some (.int e), some (.str word), none, none, none, none] ?_).trans ?_
  · simp only [ev, evs, evo, evAnd, evOr, evi, Res.bind_ok, List.getElem?_cons_zero, List.getElem?_cons_succ, ofOpt, Option.map_some, bo_add, bo_sub, bo_mod, bo_fdiv, co_eqi, co_nei, co_eqs, co_nes, co_lt, co_le, co_gt, co_ge, len_str, len_tup, isi_int, isi_str, isi_tup, isi_sint, isi_ints, isi_intb, divMost, Int.reduceLT, Int.reduceLE, and_self, Bool.not_true, Bool.not_false, al_list, or_true, true_or, if_true, hq]
    exact hs1
  refine (x_asg (.int p) (σ ++ [.list ds]) [some (.int a), some (.int b), some (.int c), some (.int e), some (.str word), some (.int p), none, none, none] (by simp only [ev, evs, evo, evAnd, evOr, evi, Res.bind_ok, List.getElem?_cons_zero, List.getElem?_cons_succ, ofOpt, Option.map_some, bo_add, bo_sub, bo_mod, bo_fdiv, co_eqi, co_nei, co_eqs, co_nes, co_lt, co_le, co_gt, co_ge, len_str, len_tup, isi_int, isi_str, isi_tup, isi_sint, isi_ints, isi_intb, divMost, Int.reduceLT, Int.reduceLE, and_self, Bool.not_true, Bool.not_false, al_list, or_true, true_or, if_true, hp])).trans ?_
  refine (x_asg (.int g) (σ ++ [.list ds]) [some (.int a), some (.int b), some (.int c), some (.int e), some (.str word), some (.int p), some (.int g), none, none] (by simp only [ev, evs, evo, evAnd, evOr, evi, Res.bind_ok, List.getElem?_cons_zero, List.getElem?_cons_succ, ofOpt, Option.map_some, bo_add, bo_sub, bo_mod, bo_fdiv, co_eqi, co_nei, co_eqs, co_nes, co_lt, co_le, co_gt, co_ge, len_str, len_tup, isi_int, isi_str, isi_tup, isi_sint, isi_ints, isi_intb, divMost, Int.reduceLT, Int.reduceLE, and_self, Bool.not_true, Bool.not_false, al_list, or_true, true_or, if_true, hg])).trans ?_
  refine (x_asg (.str ware) σ1 [some (.int a), some (.int b), some (.int c), some (.int e), some (.str word), some (.int p), some (.int g), some (.str ware), none] (by simp only [ev, evs, evo, evAnd, evOr, evi, Res.bind_ok, List.getElem?_cons_zero, List.getElem?_cons_succ, ofOpt, Option.map_some, bo_add, bo_sub, bo_mod, bo_fdiv, co_eqi, co_nei, co_eqs, co_nes, co_lt, co_le, co_gt, co_ge, len_str, len_tup, isi_int, isi_str, isi_tup, isi_sint, isi_ints, isi_intb, divMost, Int.reduceLT, Int.reduceLE, and_self, Bool.not_true, Bool.not_false, al_list, or_true, true_or, if_true, hw, ht, hs2])).trans ?_
  refine (x_asg (.int v) σ1 [some (.int a), some (.int b), some (.int c), some (.int e), some (.str word), some (.int p), some (.int g), some (.str ware), some (.int v)] (by simp only [ev, evs, evo, evAnd, evOr, evi, Res.bind_ok, List.getElem?_cons_zero, List.getElem?_cons_succ, ofOpt, Option.map_some, bo_add, bo_sub, bo_mod, bo_fdiv, co_eqi, co_nei, co_eqs, co_nes, co_lt, co_le, co_gt, co_ge, len_str, len_tup, isi_int, isi_str, isi_tup, isi_sint, isi_ints, isi_intb, divMost, Int.reduceLT, Int.reduceLE, and_self, Bool.not_true, Bool.not_false, al_list, or_true, true_or, if_true, hv])).trans ?_
  exact h

theorem entry_by (a b c e : Int) : ∃ (h : List Nat) (ps : List D) (σ' : Sto), callN P (n + 3) hd 84 [.int a, .int b, .int c, .int e] σ = .ok (.tup (.str h :: ps)) σ' ∧ σ <+: σ' ∧ EntryOk h ps := by
  obtain ⟨σ', q, ware, p, g, v, hpre, hq, hp, hg, hw, hv1, hv2, run⟩ := entry_pre (n := n) (hd := hd) (σ := σ) H a b c e
  obtain ⟨v0i, hv0, hv01, hv02⟩ := number_by (n := n + 1) (hd := hd) (σ := σ') H e 0 (.inl rfl)
  obtain ⟨v0, rfl⟩ := Int.eq_ofNat_of_zero_le (show 0 ≤ v0i by omega)
  have : q = 0 ∨ q = 1 ∨ q = 2 ∨ q = 3 ∨ q = 4 ∨ q = 5 ∨ q = 6 ∨ q = 7 ∨ q = 8 := by omega
  rcases this with rfl | rfl | rfl | rfl | rfl | rfl | rfl | rfl | rfl
  · refine ⟨wCome, [.int p, .str ware, .int v], σ', run wCome rfl _ _ ?_, hpre, .four (.inl rfl) hp hw hv1 hv2⟩
    exact (x_skip σ' (by simp only [ev, evs, evo, evAnd, evOr, evi, Res.bind_ok, List.getElem?_cons_zero, List.getElem?_cons_succ, ofOpt, Option.map_some, bo_add, bo_sub, bo_mod, bo_fdiv, co_eqi, co_nei, co_eqs, co_nes, co_lt, co_le, co_gt, co_ge, len_str, len_tup, isi_int, isi_str, isi_tup, isi_sint, isi_ints, isi_intb, divMost, Int.reduceLT, Int.reduceLE, and_self, Bool.not_true, Bool.not_false, al_list, or_true, true_or, if_true]; rfl)).trans ((x_skip σ' (by simp only [ev, evs, evo, evAnd, evOr, evi, Res.bind_ok, List.getElem?_cons_zero, List.getElem?_cons_succ, ofOpt, Option.map_some, bo_add, bo_sub, bo_mod, bo_fdiv, co_eqi, co_nei, co_eqs, co_nes, co_lt, co_le, co_gt, co_ge, len_str, len_tup, isi_int, isi_str, isi_tup, isi_sint, isi_ints, isi_intb, divMost, Int.reduceLT, Int.reduceLE, and_self, Bool.not_true, Bool.not_false, al_list, or_true, true_or, if_true]; rfl)).trans ((x_skip σ' (by simp only [ev, evs, evo, evAnd, evOr, evi, Res.bind_ok, List.getElem?_cons_zero, List.getElem?_cons_succ, ofOpt, Option.map_some, bo_add, bo_sub, bo_mod, bo_fdiv, co_eqi, co_nei, co_eqs, co_nes, co_lt, co_le, co_gt, co_ge, len_str, len_tup, isi_int, isi_str, isi_tup, isi_sint, isi_ints, isi_intb, divMost, Int.reduceLT, Int.reduceLE, and_self, Bool.not_true, Bool.not_false, al_list, or_true, true_or, if_true]; rfl)).trans ((x_skip σ' (by simp only [ev, evs, evo, evAnd, evOr, evi, Res.bind_ok, List.getElem?_cons_zero, List.getElem?_cons_succ, ofOpt, Option.map_some, bo_add, bo_sub, bo_mod, bo_fdiv, co_eqi, co_nei, co_eqs, co_nes, co_lt, co_le, co_gt, co_ge, len_str, len_tup, isi_int, isi_str, isi_tup, isi_sint, isi_ints, isi_intb, divMost, Int.reduceLT, Int.reduceLE, and_self, Bool.not_true, Bool.not_false, al_list, or_true, true_or, if_true]; rfl)).trans ((x_skip σ' (by simp only [ev, evs, evo, evAnd, evOr, evi, Res.bind_ok, List.getElem?_cons_zero, List.getElem?_cons_succ, ofOpt, Option.map_some, bo_add, bo_sub, bo_mod, bo_fdiv, co_eqi, co_nei, co_eqs, co_nes, co_lt, co_le, co_gt, co_ge, len_str, len_tup, isi_int, isi_str, isi_tup, isi_sint, isi_ints, isi_intb, divMost, Int.reduceLT, Int.reduceLE, and_self, Bool.not_true, Bool.not_false, al_list, or_true, true_or, if_true]; rfl)).trans (x_ret _ _ (by simp only [ev, evs, evo, evAnd, evOr, evi, Res.bind_ok, List.getElem?_cons_zero, List.getElem?_cons_succ, ofOpt, Option.map_some, bo_add, bo_sub, bo_mod, bo_fdiv, co_eqi, co_nei, co_eqs, co_nes, co_lt, co_le, co_gt, co_ge, len_str, len_tup, isi_int, isi_str, isi_tup, isi_sint, isi_ints, isi_intb, divMost, Int.reduceLT, Int.reduceLE, and_self, Bool.not_true, Bool.not_false, al_list, or_true, true_or, if_true]))))))
  · refine ⟨wGo, [.int p, .str ware, .int v], σ', run wGo rfl _ _ ?_, hpre, .four (.inr (.inl rfl)) hp hw hv1 hv2⟩
    exact (x_skip σ' (by simp only [ev, evs, evo, evAnd, evOr, evi, Res.bind_ok, List.getElem?_cons_zero, List.getElem?_cons_succ, ofOpt, Option.map_some, bo_add, bo_sub, bo_mod, bo_fdiv, co_eqi, co_nei, co_eqs, co_nes, co_lt, co_le, co_gt, co_ge, len_str, len_tup, isi_int, isi_str, isi_tup, isi_sint, isi_ints, isi_intb, divMost, Int.reduceLT, Int.reduceLE, and_self, Bool.not_true, Bool.not_false, al_list, or_true, true_or, if_true]; rfl)).trans ((x_skip σ' (by simp only [ev, evs, evo, evAnd, evOr, evi, Res.bind_ok, List.getElem?_cons_zero, List.getElem?_cons_succ, ofOpt, Option.map_some, bo_add, bo_sub, bo_mod, bo_fdiv, co_eqi, co_nei, co_eqs, co_nes, co_lt, co_le, co_gt, co_ge, len_str, len_tup, isi_int, isi_str, isi_tup, isi_sint, isi_ints, isi_intb, divMost, Int.reduceLT, Int.reduceLE, and_self, Bool.not_true, Bool.not_false, al_list, or_true, true_or, if_true]; rfl)).trans ((x_skip σ' (by simp only [ev, evs, evo, evAnd, evOr, evi, Res.bind_ok, List.getElem?_cons_zero, List.getElem?_cons_succ, ofOpt, Option.map_some, bo_add, bo_sub, bo_mod, bo_fdiv, co_eqi, co_nei, co_eqs, co_nes, co_lt, co_le, co_gt, co_ge, len_str, len_tup, isi_int, isi_str, isi_tup, isi_sint, isi_ints, isi_intb, divMost, Int.reduceLT, Int.reduceLE, and_self, Bool.not_true, Bool.not_false, al_list, or_true, true_or, if_true]; rfl)).trans ((x_skip σ' (by simp only [ev, evs, evo, evAnd, evOr, evi, Res.bind_ok, List.getElem?_cons_zero, List.getElem?_cons_succ, ofOpt, Option.map_some, bo_add, bo_sub, bo_mod, bo_fdiv, co_eqi, co_nei, co_eqs, co_nes, co_lt, co_le, co_gt, co_ge, len_str, len_tup, isi_int, isi_str, isi_tup, isi_sint, isi_ints, isi_intb, divMost, Int.reduceLT, Int.reduceLE, and_self, Bool.not_true, Bool.not_false, al_list, or_true, true_or, if_true]; rfl)).trans ((x_skip σ' (by simp only [ev, evs, evo, evAnd, evOr, evi, Res.bind_ok, List.getElem?_cons_zero, List.getElem?_cons_succ, ofOpt, Option.map_some, bo_add, bo_sub, bo_mod, bo_fdiv, co_eqi, co_nei, co_eqs, co_nes, co_lt, co_le, co_gt, co_ge, len_str, len_tup, isi_int, isi_str, isi_tup, isi_sint, isi_ints, isi_intb, divMost, Int.reduceLT, Int.reduceLE, and_self, Bool.not_true, Bool.not_false, al_list, or_true, true_or, if_true]; rfl)).trans (x_ret _ _ (by simp only [ev, evs, evo, evAnd, evOr, evi, Res.bind_ok, List.getElem?_cons_zero, List.getElem?_cons_succ, ofOpt, Option.map_some, bo_add, bo_sub, bo_mod, bo_fdiv, co_eqi, co_nei, co_eqs, co_nes, co_lt, co_le, co_gt, co_ge, len_str, len_tup, isi_int, isi_str, isi_tup, isi_sint, isi_ints, isi_intb, divMost, Int.reduceLT, Int.reduceLE, and_self, Bool.not_true, Bool.not_false, al_list, or_true, true_or, if_true]))))))
  · refine ⟨wMove, [.int p, .int g, .str ware, .int v], σ', run wMove rfl _ _ ?_, hpre, .move hp hg hw hv1 hv2⟩
    exact x_ifret σ' _ (by simp only [ev, evs, evo, evAnd, evOr, evi, Res.bind_ok, List.getElem?_cons_zero, List.getElem?_cons_succ, ofOpt, Option.map_some, bo_add, bo_sub, bo_mod, bo_fdiv, co_eqi, co_nei, co_eqs, co_nes, co_lt, co_le, co_gt, co_ge, len_str, len_tup, isi_int, isi_str, isi_tup, isi_sint, isi_ints, isi_intb, divMost, Int.reduceLT, Int.reduceLE, and_self, Bool.not_true, Bool.not_false, al_list, or_true, true_or, if_true]; rfl) (x_ret _ _ (by simp only [ev, evs, evo, evAnd, evOr, evi, Res.bind_ok, List.getElem?_cons_zero, List.getElem?_cons_succ, ofOpt, Option.map_some, bo_add, bo_sub, bo_mod, bo_fdiv, co_eqi, co_nei, co_eqs, co_nes, co_lt, co_le, co_gt, co_ge, len_str, len_tup, isi_int, isi_str, isi_tup, isi_sint, isi_ints, isi_intb, divMost, Int.reduceLT, Int.reduceLE, and_self, Bool.not_true, Bool.not_false, al_list, or_true, true_or, if_true]))
  · refine ⟨wHold, [.int p, .str ware, .int v], σ', run wHold rfl _ _ ?_, hpre, .four (.inr (.inr rfl)) hp hw hv1 hv2⟩
    exact (x_skip σ' (by simp only [ev, evs, evo, evAnd, evOr, evi, Res.bind_ok, List.getElem?_cons_zero, List.getElem?_cons_succ, ofOpt, Option.map_some, bo_add, bo_sub, bo_mod, bo_fdiv, co_eqi, co_nei, co_eqs, co_nes, co_lt, co_le, co_gt, co_ge, len_str, len_tup, isi_int, isi_str, isi_tup, isi_sint, isi_ints, isi_intb, divMost, Int.reduceLT, Int.reduceLE, and_self, Bool.not_true, Bool.not_false, al_list, or_true, true_or, if_true]; rfl)).trans ((x_skip σ' (by simp only [ev, evs, evo, evAnd, evOr, evi, Res.bind_ok, List.getElem?_cons_zero, List.getElem?_cons_succ, ofOpt, Option.map_some, bo_add, bo_sub, bo_mod, bo_fdiv, co_eqi, co_nei, co_eqs, co_nes, co_lt, co_le, co_gt, co_ge, len_str, len_tup, isi_int, isi_str, isi_tup, isi_sint, isi_ints, isi_intb, divMost, Int.reduceLT, Int.reduceLE, and_self, Bool.not_true, Bool.not_false, al_list, or_true, true_or, if_true]; rfl)).trans ((x_skip σ' (by simp only [ev, evs, evo, evAnd, evOr, evi, Res.bind_ok, List.getElem?_cons_zero, List.getElem?_cons_succ, ofOpt, Option.map_some, bo_add, bo_sub, bo_mod, bo_fdiv, co_eqi, co_nei, co_eqs, co_nes, co_lt, co_le, co_gt, co_ge, len_str, len_tup, isi_int, isi_str, isi_tup, isi_sint, isi_ints, isi_intb, divMost, Int.reduceLT, Int.reduceLE, and_self, Bool.not_true, Bool.not_false, al_list, or_true, true_or, if_true]; rfl)).trans ((x_skip σ' (by simp only [ev, evs, evo, evAnd, evOr, evi, Res.bind_ok, List.getElem?_cons_zero, List.getElem?_cons_succ, ofOpt, Option.map_some, bo_add, bo_sub, bo_mod, bo_fdiv, co_eqi, co_nei, co_eqs, co_nes, co_lt, co_le, co_gt, co_ge, len_str, len_tup, isi_int, isi_str, isi_tup, isi_sint, isi_ints, isi_intb, divMost, Int.reduceLT, Int.reduceLE, and_self, Bool.not_true, Bool.not_false, al_list, or_true, true_or, if_true]; rfl)).trans ((x_skip σ' (by simp only [ev, evs, evo, evAnd, evOr, evi, Res.bind_ok, List.getElem?_cons_zero, List.getElem?_cons_succ, ofOpt, Option.map_some, bo_add, bo_sub, bo_mod, bo_fdiv, co_eqi, co_nei, co_eqs, co_nes, co_lt, co_le, co_gt, co_ge, len_str, len_tup, isi_int, isi_str, isi_tup, isi_sint, isi_ints, isi_intb, divMost, Int.reduceLT, Int.reduceLE, and_self, Bool.not_true, Bool.not_false, al_list, or_true, true_or, if_true]; rfl)).trans (x_ret _ _ (by simp only [ev, evs, evo, evAnd, evOr, evi, Res.bind_ok, List.getElem?_cons_zero, List.getElem?_cons_succ, ofOpt, Option.map_some, bo_add, bo_sub, bo_mod, bo_fdiv, co_eqi, co_nei, co_eqs, co_nes, co_lt, co_le, co_gt, co_ge, len_str, len_tup, isi_int, isi_str, isi_tup, isi_sint, isi_ints, isi_intb, divMost, Int.reduceLT, Int.reduceLE, and_self, Bool.not_true, Bool.not_false, al_list, or_true, true_or, if_true]))))))
  · refine ⟨wLet, [.int v], σ', run wLet rfl _ _ ?_, hpre, .one (.inl rfl) hv1 hv2⟩
    exact (x_skip σ' (by simp only [ev, evs, evo, evAnd, evOr, evi, Res.bind_ok, List.getElem?_cons_zero, List.getElem?_cons_succ, ofOpt, Option.map_some, bo_add, bo_sub, bo_mod, bo_fdiv, co_eqi, co_nei, co_eqs, co_nes, co_lt, co_le, co_gt, co_ge, len_str, len_tup, isi_int, isi_str, isi_tup, isi_sint, isi_ints, isi_intb, divMost, Int.reduceLT, Int.reduceLE, and_self, Bool.not_true, Bool.not_false, al_list, or_true, true_or, if_true]; rfl)).trans (x_ifret σ' _ (by simp only [ev, evs, evo, evAnd, evOr, evi, Res.bind_ok, List.getElem?_cons_zero, List.getElem?_cons_succ, ofOpt, Option.map_some, bo_add, bo_sub, bo_mod, bo_fdiv, co_eqi, co_nei, co_eqs, co_nes, co_lt, co_le, co_gt, co_ge, len_str, len_tup, isi_int, isi_str, isi_tup, isi_sint, isi_ints, isi_intb, divMost, Int.reduceLT, Int.reduceLE, and_self, Bool.not_true, Bool.not_false, al_list, or_true, true_or, if_true]; rfl) (x_ret _ _ (by simp only [ev, evs, evo, evAnd, evOr, evi, Res.bind_ok, List.getElem?_cons_zero, List.getElem?_cons_succ, ofOpt, Option.map_some, bo_add, bo_sub, bo_mod, bo_fdiv, co_eqi, co_nei, co_eqs, co_nes, co_lt, co_le, co_gt, co_ge, len_str, len_tup, isi_int, isi_str, isi_tup, isi_sint, isi_ints, isi_intb, divMost, Int.reduceLT, Int.reduceLE, and_self, Bool.not_true, Bool.not_false, al_list, or_true, true_or, if_true])))
  · refine ⟨wTake, [.int v], σ', run wTake rfl _ _ ?_, hpre, .one (.inr rfl) hv1 hv2⟩
    exact (x_skip σ' (by simp only [ev, evs, evo, evAnd, evOr, evi, Res.bind_ok, List.getElem?_cons_zero, List.getElem?_cons_succ, ofOpt, Option.map_some, bo_add, bo_sub, bo_mod, bo_fdiv, co_eqi, co_nei, co_eqs, co_nes, co_lt, co_le, co_gt, co_ge, len_str, len_tup, isi_int, isi_str, isi_tup, isi_sint, isi_ints, isi_intb, divMost, Int.reduceLT, Int.reduceLE, and_self, Bool.not_true, Bool.not_false, al_list, or_true, true_or, if_true]; rfl)).trans (x_ifret σ' _ (by simp only [ev, evs, evo, evAnd, evOr, evi, Res.bind_ok, List.getElem?_cons_zero, List.getElem?_cons_succ, ofOpt, Option.map_some, bo_add, bo_sub, bo_mod, bo_fdiv, co_eqi, co_nei, co_eqs, co_nes, co_lt, co_le, co_gt, co_ge, len_str, len_tup, isi_int, isi_str, isi_tup, isi_sint, isi_ints, isi_intb, divMost, Int.reduceLT, Int.reduceLE, and_self, Bool.not_true, Bool.not_false, al_list, or_true, true_or, if_true]; rfl) (x_ret _ _ (by simp only [ev, evs, evo, evAnd, evOr, evi, Res.bind_ok, List.getElem?_cons_zero, List.getElem?_cons_succ, ofOpt, Option.map_some, bo_add, bo_sub, bo_mod, bo_fdiv, co_eqi, co_nei, co_eqs, co_nes, co_lt, co_le, co_gt, co_ge, len_str, len_tup, isi_int, isi_str, isi_tup, isi_sint, isi_ints, isi_intb, divMost, Int.reduceLT, Int.reduceLE, and_self, Bool.not_true, Bool.not_false, al_list, or_true, true_or, if_true])))
  · refine ⟨wShift, [.int v, .int p], σ', run wShift rfl _ _ ?_, hpre, .shift hv1 hv2 hp⟩
    exact (x_skip σ' (by simp only [ev, evs, evo, evAnd, evOr, evi, Res.bind_ok, List.getElem?_cons_zero, List.getElem?_cons_succ, ofOpt, Option.map_some, bo_add, bo_sub, bo_mod, bo_fdiv, co_eqi, co_nei, co_eqs, co_nes, co_lt, co_le, co_gt, co_ge, len_str, len_tup, isi_int, isi_str, isi_tup, isi_sint, isi_ints, isi_intb, divMost, Int.reduceLT, Int.reduceLE, and_self, Bool.not_true, Bool.not_false, al_list, or_true, true_or, if_true]; rfl)).trans ((x_skip σ' (by simp only [ev, evs, evo, evAnd, evOr, evi, Res.bind_ok, List.getElem?_cons_zero, List.getElem?_cons_succ, ofOpt, Option.map_some, bo_add, bo_sub, bo_mod, bo_fdiv, co_eqi, co_nei, co_eqs, co_nes, co_lt, co_le, co_gt, co_ge, len_str, len_tup, isi_int, isi_str, isi_tup, isi_sint, isi_ints, isi_intb, divMost, Int.reduceLT, Int.reduceLE, and_self, Bool.not_true, Bool.not_false, al_list, or_true, true_or, if_true]; rfl)).trans (x_ifret σ' _ (by simp only [ev, evs, evo, evAnd, evOr, evi, Res.bind_ok, List.getElem?_cons_zero, List.getElem?_cons_succ, ofOpt, Option.map_some, bo_add, bo_sub, bo_mod, bo_fdiv, co_eqi, co_nei, co_eqs, co_nes, co_lt, co_le, co_gt, co_ge, len_str, len_tup, isi_int, isi_str, isi_tup, isi_sint, isi_ints, isi_intb, divMost, Int.reduceLT, Int.reduceLE, and_self, Bool.not_true, Bool.not_false, al_list, or_true, true_or, if_true]; rfl) (x_ret _ _ (by simp only [ev, evs, evo, evAnd, evOr, evi, Res.bind_ok, List.getElem?_cons_zero, List.getElem?_cons_succ, ofOpt, Option.map_some, bo_add, bo_sub, bo_mod, bo_fdiv, co_eqi, co_nei, co_eqs, co_nes, co_lt, co_le, co_gt, co_ge, len_str, len_tup, isi_int, isi_str, isi_tup, isi_sint, isi_ints, isi_intb, divMost, Int.reduceLT, Int.reduceLE, and_self, Bool.not_true, Bool.not_false, al_list, or_true, true_or, if_true]))))
  · refine ⟨wCounted, [.int p, .str ware, .int v0], σ', run wCounted rfl _ _ ?_, hpre, .counted hp hw (by omega)⟩
    exact (x_skip σ' (by simp only [ev, evs, evo, evAnd, evOr, evi, Res.bind_ok, List.getElem?_cons_zero, List.getElem?_cons_succ, ofOpt, Option.map_some, bo_add, bo_sub, bo_mod, bo_fdiv, co_eqi, co_nei, co_eqs, co_nes, co_lt, co_le, co_gt, co_ge, len_str, len_tup, isi_int, isi_str, isi_tup, isi_sint, isi_ints, isi_intb, divMost, Int.reduceLT, Int.reduceLE, and_self, Bool.not_true, Bool.not_false, al_list, or_true, true_or, if_true]; rfl)).trans ((x_skip σ' (by simp only [ev, evs, evo, evAnd, evOr, evi, Res.bind_ok, List.getElem?_cons_zero, List.getElem?_cons_succ, ofOpt, Option.map_some, bo_add, bo_sub, bo_mod, bo_fdiv, co_eqi, co_nei, co_eqs, co_nes, co_lt, co_le, co_gt, co_ge, len_str, len_tup, isi_int, isi_str, isi_tup, isi_sint, isi_ints, isi_intb, divMost, Int.reduceLT, Int.reduceLE, and_self, Bool.not_true, Bool.not_false, al_list, or_true, true_or, if_true]; rfl)).trans ((x_skip σ' (by simp only [ev, evs, evo, evAnd, evOr, evi, Res.bind_ok, List.getElem?_cons_zero, List.getElem?_cons_succ, ofOpt, Option.map_some, bo_add, bo_sub, bo_mod, bo_fdiv, co_eqi, co_nei, co_eqs, co_nes, co_lt, co_le, co_gt, co_ge, len_str, len_tup, isi_int, isi_str, isi_tup, isi_sint, isi_ints, isi_intb, divMost, Int.reduceLT, Int.reduceLE, and_self, Bool.not_true, Bool.not_false, al_list, or_true, true_or, if_true]; rfl)).trans (x_ifret σ' _ (by simp only [ev, evs, evo, evAnd, evOr, evi, Res.bind_ok, List.getElem?_cons_zero, List.getElem?_cons_succ, ofOpt, Option.map_some, bo_add, bo_sub, bo_mod, bo_fdiv, co_eqi, co_nei, co_eqs, co_nes, co_lt, co_le, co_gt, co_ge, len_str, len_tup, isi_int, isi_str, isi_tup, isi_sint, isi_ints, isi_intb, divMost, Int.reduceLT, Int.reduceLE, and_self, Bool.not_true, Bool.not_false, al_list, or_true, true_or, if_true]; rfl) (x_ret _ _ (by simp only [ev, evs, evo, evAnd, evOr, evi, Res.bind_ok, List.getElem?_cons_zero, List.getElem?_cons_succ, ofOpt, Option.map_some, bo_add, bo_sub, bo_mod, bo_fdiv, co_eqi, co_nei, co_eqs, co_nes, co_lt, co_le, co_gt, co_ge, len_str, len_tup, isi_int, isi_str, isi_tup, isi_sint, isi_ints, isi_intb, divMost, Int.reduceLT, Int.reduceLE, and_self, Bool.not_true, Bool.not_false, al_list, or_true, true_or, if_true, hv0])))))
  · refine ⟨wWish, [.str ware, .int v], σ', run wWish rfl _ _ ?_, hpre, .wish hw hv1 hv2⟩
    exact (x_skip σ' (by simp only [ev, evs, evo, evAnd, evOr, evi, Res.bind_ok, List.getElem?_cons_zero, List.getElem?_cons_succ, ofOpt, Option.map_some, bo_add, bo_sub, bo_mod, bo_fdiv, co_eqi, co_nei, co_eqs, co_nes, co_lt, co_le, co_gt, co_ge, len_str, len_tup, isi_int, isi_str, isi_tup, isi_sint, isi_ints, isi_intb, divMost, Int.reduceLT, Int.reduceLE, and_self, Bool.not_true, Bool.not_false, al_list, or_true, true_or, if_true]; rfl)).trans ((x_skip σ' (by simp only [ev, evs, evo, evAnd, evOr, evi, Res.bind_ok, List.getElem?_cons_zero, List.getElem?_cons_succ, ofOpt, Option.map_some, bo_add, bo_sub, bo_mod, bo_fdiv, co_eqi, co_nei, co_eqs, co_nes, co_lt, co_le, co_gt, co_ge, len_str, len_tup, isi_int, isi_str, isi_tup, isi_sint, isi_ints, isi_intb, divMost, Int.reduceLT, Int.reduceLE, and_self, Bool.not_true, Bool.not_false, al_list, or_true, true_or, if_true]; rfl)).trans ((x_skip σ' (by simp only [ev, evs, evo, evAnd, evOr, evi, Res.bind_ok, List.getElem?_cons_zero, List.getElem?_cons_succ, ofOpt, Option.map_some, bo_add, bo_sub, bo_mod, bo_fdiv, co_eqi, co_nei, co_eqs, co_nes, co_lt, co_le, co_gt, co_ge, len_str, len_tup, isi_int, isi_str, isi_tup, isi_sint, isi_ints, isi_intb, divMost, Int.reduceLT, Int.reduceLE, and_self, Bool.not_true, Bool.not_false, al_list, or_true, true_or, if_true]; rfl)).trans ((x_skip σ' (by simp only [ev, evs, evo, evAnd, evOr, evi, Res.bind_ok, List.getElem?_cons_zero, List.getElem?_cons_succ, ofOpt, Option.map_some, bo_add, bo_sub, bo_mod, bo_fdiv, co_eqi, co_nei, co_eqs, co_nes, co_lt, co_le, co_gt, co_ge, len_str, len_tup, isi_int, isi_str, isi_tup, isi_sint, isi_ints, isi_intb, divMost, Int.reduceLT, Int.reduceLE, and_self, Bool.not_true, Bool.not_false, al_list, or_true, true_or, if_true]; rfl)).trans (x_ifret σ' _ (by simp only [ev, evs, evo, evAnd, evOr, evi, Res.bind_ok, List.getElem?_cons_zero, List.getElem?_cons_succ, ofOpt, Option.map_some, bo_add, bo_sub, bo_mod, bo_fdiv, co_eqi, co_nei, co_eqs, co_nes, co_lt, co_le, co_gt, co_ge, len_str, len_tup, isi_int, isi_str, isi_tup, isi_sint, isi_ints, isi_intb, divMost, Int.reduceLT, Int.reduceLE, and_self, Bool.not_true, Bool.not_false, al_list, or_true, true_or, if_true]; rfl) (x_ret _ _ (by simp only [ev, evs, evo, evAnd, evOr, evi, Res.bind_ok, List.getElem?_cons_zero, List.getElem?_cons_succ, ofOpt, Option.map_some, bo_add, bo_sub, bo_mod, bo_fdiv, co_eqi, co_nei, co_eqs, co_nes, co_lt, co_le, co_gt, co_ge, len_str, len_tup, isi_int, isi_str, isi_tup, isi_sint, isi_ints, isi_intb, divMost, Int.reduceLT, Int.reduceLE, and_self, Bool.not_true, Bool.not_false, al_list, or_true, true_or, if_true]))))))
end
end Mine

/-! part MP07g -/
namespace Mine
open PySem
set_option maxRecDepth 100000
section
variable {P : Prog} (H : Has07 P) {n : Nat} {hd : Bool} {σ : Sto}
include H

theorem read_ok {h : List Nat} {ps : List D} (e : EntryOk h ps) : ∃ σ', callN P (n + 3) hd 81 [.str (joinS [32] (h :: ps.map txt))] σ = .ok (.tup (.str h :: ps)) σ' ∧ σ <+: σ' := by
  have hparts := e.parts
  obtain ⟨hh, hh32, hl⟩ := e.head
  let line := joinS [32] (h :: ps.map txt)
  have hlen : line.length ≤ most := by
    have h1 := join_len [32] (h :: ps.map txt)
    have h2 := sum_le (k := 31) (ss := h :: ps.map txt) (by
      intro s hs
      rcases List.mem_cons.mp hs with rfl | hs
      · omega
      · obtain ⟨p, hp', rfl⟩ := List.mem_map.mp hs
        exact (hparts p hp').len)
    simp only [List.length_cons, List.length_map, List.length_nil, most] at h1 h2 ⊢
    show (joinS [32] (h :: ps.map txt)).length ≤ 100000
    omega
  have hsp : splitOn 32 line = h :: ps.map txt := sp_join (by simp) (by
    intro p hp
    rcases List.mem_cons.mp hp with rfl | hp
    · exact hh32
    · obtain ⟨p, hp', rfl⟩ := List.mem_map.mp hp
      exact (hparts p hp').free)
  let ws : List D := (h :: ps.map txt).map .str
  let σ1 := σ ++ [AObj.list ws]
  refine ⟨σ1, ?_, List.prefix_append _ _⟩
  have hms : methBi (.str line) 6 [.str [32]] σ = .ok (.ref σ.length) σ1 := by
    have := m_split line 32 σ hlen
    rw [hsp] at this
    exact this
  have hseq : seqOf σ1 (.ref σ.length) = some ws := seqOf_list (get_last _ _)
  have hsub : ∀ (k : Nat) (t : List Nat), ws[k]? = some (.str t) → subOp (.ref σ.length) (.int k) σ1 = .ok (.str t) σ1 := fun k t hk => so_ref _ _ _ _ _ hseq hk
  have s0 : subOp (.ref σ.length) (.int 0) σ1 = .ok (.str h) σ1 := hsub 0 _ rfl
  have hlenW : callBi .len [.ref σ.length] σ1 = .ok (.int ws.length) σ1 := len_ref _ _ _ hseq
  refine callN_run H.h81 [some (.str line), none, none, none] ?_
  refine (x_asg (.ref σ.length) σ1 [some (.str line), some (.ref σ.length), none, none] (by simp only [ev, evs, evo, evAnd, evOr, evi, Res.bind_ok, List.getElem?_cons_zero, List.getElem?_cons_succ, ofOpt, Option.map_some, bo_add, bo_sub, bo_mod, bo_fdiv, co_eqi, co_nei, co_eqs, co_nes, co_lt, co_le, co_gt, co_ge, len_str, len_tup, isi_int, isi_str, isi_tup, isi_sint, isi_ints, isi_intb, divMost, Int.reduceLT, Int.reduceLE, and_self, Bool.not_true, Bool.not_false, al_list, or_true, true_or, if_true, hms])).trans ?_
  refine (x_asg (.str h) σ1 [some (.str line), some (.ref σ.length), some (.str h), none] (by simp only [ev, evs, evo, evAnd, evOr, evi, Res.bind_ok, List.getElem?_cons_zero, List.getElem?_cons_succ, ofOpt, Option.map_some, bo_add, bo_sub, bo_mod, bo_fdiv, co_eqi, co_nei, co_eqs, co_nes, co_lt, co_le, co_gt, co_ge, len_str, len_tup, isi_int, isi_str, isi_tup, isi_sint, isi_ints, isi_intb, divMost, Int.reduceLT, Int.reduceLE, and_self, Bool.not_true, Bool.not_false, al_list, or_true, true_or, if_true, s0])).trans ?_
  refine (x_asg (.int ws.length) σ1 [some (.str line), some (.ref σ.length), some (.str h), some (.int ws.length)] (by simp only [ev, evs, evo, evAnd, evOr, evi, Res.bind_ok, List.getElem?_cons_zero, List.getElem?_cons_succ, ofOpt, Option.map_some, bo_add, bo_sub, bo_mod, bo_fdiv, co_eqi, co_nei, co_eqs, co_nes, co_lt, co_le, co_gt, co_ge, len_str, len_tup, isi_int, isi_str, isi_tup, isi_sint, isi_ints, isi_intb, divMost, Int.reduceLT, Int.reduceLE, and_self, Bool.not_true, Bool.not_false, al_list, or_true, true_or, if_true, hlenW])).trans ?_
  have m3 : cmpOp .mem (.str h) (.tup [.str [99, 111, 109, 101], .str [103, 111], .str [104, 111, 108, 100]]) σ1 = .ok (.bool (([[99, 111, 109, 101], [103, 111], [104, 111, 108, 100]] : List (List Nat)).contains h)) σ1 := co_mems h [[99, 111, 109, 101], [103, 111], [104, 111, 108, 100]] σ1
  have m2 : cmpOp .mem (.str h) (.tup [.str [108, 101, 116], .str [116, 97, 107, 101]]) σ1 = .ok (.bool (([[108, 101, 116], [116, 97, 107, 101]] : List (List Nat)).contains h)) σ1 := co_mems h [[108, 101, 116], [116, 97, 107, 101]] σ1
  have tI : ∀ v : Nat, txt (.int (v : Int)) = digits v := fun v => by simp [txt]
  have num1 : ∀ v : Nat, 1 ≤ v → v ≤ 10 ^ 30 → callN P (n + 2) hd 78 [.str (digits v), .int 1, .int 1000000000000000000000000000000] σ1 = .ok (.int v) σ1 := fun v h1 h2 => number_of H v 1 _ (by omega) (by omega) (by omega)
  have num0 : ∀ v : Nat, v ≤ 10 ^ 30 → callN P (n + 2) hd 78 [.str (digits v), .int 0, .int 1000000000000000000000000000000] σ1 = .ok (.int v) σ1 := fun v h2 => number_of H v 0 _ (by omega) (by omega) (by omega)
  have plc : ∀ v : Nat, v ≤ 9999 → callN P (n + 2) hd 80 [.str (digits v)] σ1 = .ok (.int v) σ1 := fun v hv => place_of H v hv
  have wre : ∀ w : List Nat, Ware 20 w → callN P (n + 2) hd 79 [.str w] σ1 = .ok (.str w) σ1 := fun w hw => ware_of H hw
  cases e with
  | @four _ w p v hd0 hp hw hv1 hv2 =>
    have s1 : subOp (.ref σ.length) (.int 1) σ1 = .ok (.str (digits p)) σ1 := hsub 1 _ (by simp [ws, tI])
    have s2 : subOp (.ref σ.length) (.int 2) σ1 = .ok (.str w) σ1 := hsub 2 _ rfl
    have s3 : subOp (.ref σ.length) (.int 3) σ1 = .ok (.str (digits v)) σ1 := hsub 3 _ (by simp [ws, tI])
    refine x_ifret σ1 _ ?_ (x_ret _ σ1 ?_)
    · simp only [ev, evs, evo, evAnd, evOr, evi, Res.bind_ok, List.getElem?_cons_zero, List.getElem?_cons_succ, ofOpt, Option.map_some, bo_add, bo_sub, bo_mod, bo_fdiv, co_eqi, co_nei, co_eqs, co_nes, co_lt, co_le, co_gt, co_ge, len_str, len_tup, isi_int, isi_str, isi_tup, isi_sint, isi_ints, isi_intb, divMost, Int.reduceLT, Int.reduceLE, and_self, Bool.not_true, Bool.not_false, al_list, or_true, true_or, if_true, m3]
      rcases hd0 with rfl | rfl | rfl <;> rfl
    · simp only [ev, evs, evo, evAnd, evOr, evi, Res.bind_ok, List.getElem?_cons_zero, List.getElem?_cons_succ, ofOpt, Option.map_some, bo_add, bo_sub, bo_mod, bo_fdiv, co_eqi, co_nei, co_eqs, co_nes, co_lt, co_le, co_gt, co_ge, len_str, len_tup, isi_int, isi_str, isi_tup, isi_sint, isi_ints, isi_intb, divMost, Int.reduceLT, Int.reduceLE, and_self, Bool.not_true, Bool.not_false, al_list, or_true, true_or, if_true, s1, s2, s3, plc p hp, wre w hw, num1 v hv1 hv2]
  | @counted w p v hp hw hv2 =>
    have s1 : subOp (.ref σ.length) (.int 1) σ1 = .ok (.str (digits p)) σ1 := hsub 1 _ (by simp [ws, tI])
    have s2 : subOp (.ref σ.length) (.int 2) σ1 = .ok (.str w) σ1 := hsub 2 _ rfl
    have s3 : subOp (.ref σ.length) (.int 3) σ1 = .ok (.str (digits v)) σ1 := hsub 3 _ (by simp [ws, tI])
    refine (x_skip σ1 ?_).trans (x_ifret σ1 _ ?_ (x_ret _ σ1 ?_))
    · simp only [ev, evs, evo, evAnd, evOr, evi, Res.bind_ok, List.getElem?_cons_zero, List.getElem?_cons_succ, ofOpt, Option.map_some, bo_add, bo_sub, bo_mod, bo_fdiv, co_eqi, co_nei, co_eqs, co_nes, co_lt, co_le, co_gt, co_ge, len_str, len_tup, isi_int, isi_str, isi_tup, isi_sint, isi_ints, isi_intb, divMost, Int.reduceLT, Int.reduceLE, and_self, Bool.not_true, Bool.not_false, al_list, or_true, true_or, if_true, m3]; rfl
    · simp only [ev, evs, evo, evAnd, evOr, evi, Res.bind_ok, List.getElem?_cons_zero, List.getElem?_cons_succ, ofOpt, Option.map_some, bo_add, bo_sub, bo_mod, bo_fdiv, co_eqi, co_nei, co_eqs, co_nes, co_lt, co_le, co_gt, co_ge, len_str, len_tup, isi_int, isi_str, isi_tup, isi_sint, isi_ints, isi_intb, divMost, Int.reduceLT, Int.reduceLE, and_self, Bool.not_true, Bool.not_false, al_list, or_true, true_or, if_true]; rfl
    · simp only [ev, evs, evo, evAnd, evOr, evi, Res.bind_ok, List.getElem?_cons_zero, List.getElem?_cons_succ, ofOpt, Option.map_some, bo_add, bo_sub, bo_mod, bo_fdiv, co_eqi, co_nei, co_eqs, co_nes, co_lt, co_le, co_gt, co_ge, len_str, len_tup, isi_int, isi_str, isi_tup, isi_sint, isi_ints, isi_intb, divMost, Int.reduceLT, Int.reduceLE, and_self, Bool.not_true, Bool.not_false, al_list, or_true, true_or, if_true, s1, s2, s3, plc p hp, wre w hw, num0 v hv2]
  | @move w p g v hp hg hw hv1 hv2 =>
    have s1 : subOp (.ref σ.length) (.int 1) σ1 = .ok (.str (digits p)) σ1 := hsub 1 _ (by simp [ws, tI])
    have s2 : subOp (.ref σ.length) (.int 2) σ1 = .ok (.str (digits g)) σ1 := hsub 2 _ (by simp [ws, tI])
    have s3 : subOp (.ref σ.length) (.int 3) σ1 = .ok (.str w) σ1 := hsub 3 _ rfl
    have s4 : subOp (.ref σ.length) (.int 4) σ1 = .ok (.str (digits v)) σ1 := hsub 4 _ (by simp [ws, tI])
    refine (x_skip σ1 ?_).trans ((x_skip σ1 ?_).trans (x_ifret σ1 _ ?_ (x_ret _ σ1 ?_)))
    · simp only [ev, evs, evo, evAnd, evOr, evi, Res.bind_ok, List.getElem?_cons_zero, List.getElem?_cons_succ, ofOpt, Option.map_some, bo_add, bo_sub, bo_mod, bo_fdiv, co_eqi, co_nei, co_eqs, co_nes, co_lt, co_le, co_gt, co_ge, len_str, len_tup, isi_int, isi_str, isi_tup, isi_sint, isi_ints, isi_intb, divMost, Int.reduceLT, Int.reduceLE, and_self, Bool.not_true, Bool.not_false, al_list, or_true, true_or, if_true, m3]; rfl
    · simp only [ev, evs, evo, evAnd, evOr, evi, Res.bind_ok, List.getElem?_cons_zero, List.getElem?_cons_succ, ofOpt, Option.map_some, bo_add, bo_sub, bo_mod, bo_fdiv, co_eqi, co_nei, co_eqs, co_nes, co_lt, co_le, co_gt, co_ge, len_str, len_tup, isi_int, isi_str, isi_tup, isi_sint, isi_ints, isi_intb, divMost, Int.reduceLT, Int.reduceLE, and_self, Bool.not_true, Bool.not_false, al_list, or_true, true_or, if_true]; rfl
    · simp only [ev, evs, evo, evAnd, evOr, evi, Res.bind_ok, List.getElem?_cons_zero, List.getElem?_cons_succ, ofOpt, Option.map_some, bo_add, bo_sub, bo_mod, bo_fdiv, co_eqi, co_nei, co_eqs, co_nes, co_lt, co_le, co_gt, co_ge, len_str, len_tup, isi_int, isi_str, isi_tup, isi_sint, isi_ints, isi_intb, divMost, Int.reduceLT, Int.reduceLE, and_self, Bool.not_true, Bool.not_false, al_list, or_true, true_or, if_true]; rfl
    · simp only [ev, evs, evo, evAnd, evOr, evi, Res.bind_ok, List.getElem?_cons_zero, List.getElem?_cons_succ, ofOpt, Option.map_some, bo_add, bo_sub, bo_mod, bo_fdiv, co_eqi, co_nei, co_eqs, co_nes, co_lt, co_le, co_gt, co_ge, len_str, len_tup, isi_int, isi_str, isi_tup, isi_sint, isi_ints, isi_intb, divMost, Int.reduceLT, Int.reduceLE, and_self, Bool.not_true, Bool.not_false, al_list, or_true, true_or, if_true, s1, s2, s3, s4, plc p hp, plc g hg, wre w hw, num1 v hv1 hv2]
  | @one _ v hd0 hv1 hv2 =>
    have s1 : subOp (.ref σ.length) (.int 1) σ1 = .ok (.str (digits v)) σ1 := hsub 1 _ (by simp [ws, tI])
    refine (x_skip σ1 ?_).trans ((x_skip σ1 ?_).trans ((x_skip σ1 ?_).trans (x_ifret σ1 _ ?_ (x_ret _ σ1 ?_))))
    · simp only [ev, evs, evo, evAnd, evOr, evi, Res.bind_ok, List.getElem?_cons_zero, List.getElem?_cons_succ, ofOpt, Option.map_some, bo_add, bo_sub, bo_mod, bo_fdiv, co_eqi, co_nei, co_eqs, co_nes, co_lt, co_le, co_gt, co_ge, len_str, len_tup, isi_int, isi_str, isi_tup, isi_sint, isi_ints, isi_intb, divMost, Int.reduceLT, Int.reduceLE, and_self, Bool.not_true, Bool.not_false, al_list, or_true, true_or, if_true, m3]; rfl
    · simp only [ev, evs, evo, evAnd, evOr, evi, Res.bind_ok, List.getElem?_cons_zero, List.getElem?_cons_succ, ofOpt, Option.map_some, bo_add, bo_sub, bo_mod, bo_fdiv, co_eqi, co_nei, co_eqs, co_nes, co_lt, co_le, co_gt, co_ge, len_str, len_tup, isi_int, isi_str, isi_tup, isi_sint, isi_ints, isi_intb, divMost, Int.reduceLT, Int.reduceLE, and_self, Bool.not_true, Bool.not_false, al_list, or_true, true_or, if_true]; rfl
    · simp only [ev, evs, evo, evAnd, evOr, evi, Res.bind_ok, List.getElem?_cons_zero, List.getElem?_cons_succ, ofOpt, Option.map_some, bo_add, bo_sub, bo_mod, bo_fdiv, co_eqi, co_nei, co_eqs, co_nes, co_lt, co_le, co_gt, co_ge, len_str, len_tup, isi_int, isi_str, isi_tup, isi_sint, isi_ints, isi_intb, divMost, Int.reduceLT, Int.reduceLE, and_self, Bool.not_true, Bool.not_false, al_list, or_true, true_or, if_true]; rfl
    · simp only [ev, evs, evo, evAnd, evOr, evi, Res.bind_ok, List.getElem?_cons_zero, List.getElem?_cons_succ, ofOpt, Option.map_some, bo_add, bo_sub, bo_mod, bo_fdiv, co_eqi, co_nei, co_eqs, co_nes, co_lt, co_le, co_gt, co_ge, len_str, len_tup, isi_int, isi_str, isi_tup, isi_sint, isi_ints, isi_intb, divMost, Int.reduceLT, Int.reduceLE, and_self, Bool.not_true, Bool.not_false, al_list, or_true, true_or, if_true, m2]
      rcases hd0 with rfl | rfl <;> rfl
    · simp only [ev, evs, evo, evAnd, evOr, evi, Res.bind_ok, List.getElem?_cons_zero, List.getElem?_cons_succ, ofOpt, Option.map_some, bo_add, bo_sub, bo_mod, bo_fdiv, co_eqi, co_nei, co_eqs, co_nes, co_lt, co_le, co_gt, co_ge, len_str, len_tup, isi_int, isi_str, isi_tup, isi_sint, isi_ints, isi_intb, divMost, Int.reduceLT, Int.reduceLE, and_self, Bool.not_true, Bool.not_false, al_list, or_true, true_or, if_true, s1, num1 v hv1 hv2]
  | @shift p v hv1 hv2 hp =>
    have s1 : subOp (.ref σ.length) (.int 1) σ1 = .ok (.str (digits v)) σ1 := hsub 1 _ (by simp [ws, tI])
    have s2 : subOp (.ref σ.length) (.int 2) σ1 = .ok (.str (digits p)) σ1 := hsub 2 _ (by simp [ws, tI])
    refine (x_skip σ1 ?_).trans ((x_skip σ1 ?_).trans ((x_skip σ1 ?_).trans ((x_skip σ1 ?_).trans (x_ifret σ1 _ ?_ (x_ret _ σ1 ?_)))))
    · simp only [ev, evs, evo, evAnd, evOr, evi, Res.bind_ok, List.getElem?_cons_zero, List.getElem?_cons_succ, ofOpt, Option.map_some, bo_add, bo_sub, bo_mod, bo_fdiv, co_eqi, co_nei, co_eqs, co_nes, co_lt, co_le, co_gt, co_ge, len_str, len_tup, isi_int, isi_str, isi_tup, isi_sint, isi_ints, isi_intb, divMost, Int.reduceLT, Int.reduceLE, and_self, Bool.not_true, Bool.not_false, al_list, or_true, true_or, if_true, m3]; rfl
    · simp only [ev, evs, evo, evAnd, evOr, evi, Res.bind_ok, List.getElem?_cons_zero, List.getElem?_cons_succ, ofOpt, Option.map_some, bo_add, bo_sub, bo_mod, bo_fdiv, co_eqi, co_nei, co_eqs, co_nes, co_lt, co_le, co_gt, co_ge, len_str, len_tup, isi_int, isi_str, isi_tup, isi_sint, isi_ints, isi_intb, divMost, Int.reduceLT, Int.reduceLE, and_self, Bool.not_true, Bool.not_false, al_list, or_true, true_or, if_true]; rfl
    · simp only [ev, evs, evo, evAnd, evOr, evi, Res.bind_ok, List.getElem?_cons_zero, List.getElem?_cons_succ, ofOpt, Option.map_some, bo_add, bo_sub, bo_mod, bo_fdiv, co_eqi, co_nei, co_eqs, co_nes, co_lt, co_le, co_gt, co_ge, len_str, len_tup, isi_int, isi_str, isi_tup, isi_sint, isi_ints, isi_intb, divMost, Int.reduceLT, Int.reduceLE, and_self, Bool.not_true, Bool.not_false, al_list, or_true, true_or, if_true]; rfl
    · simp only [ev, evs, evo, evAnd, evOr, evi, Res.bind_ok, List.getElem?_cons_zero, List.getElem?_cons_succ, ofOpt, Option.map_some, bo_add, bo_sub, bo_mod, bo_fdiv, co_eqi, co_nei, co_eqs, co_nes, co_lt, co_le, co_gt, co_ge, len_str, len_tup, isi_int, isi_str, isi_tup, isi_sint, isi_ints, isi_intb, divMost, Int.reduceLT, Int.reduceLE, and_self, Bool.not_true, Bool.not_false, al_list, or_true, true_or, if_true, m2]; rfl
    · simp only [ev, evs, evo, evAnd, evOr, evi, Res.bind_ok, List.getElem?_cons_zero, List.getElem?_cons_succ, ofOpt, Option.map_some, bo_add, bo_sub, bo_mod, bo_fdiv, co_eqi, co_nei, co_eqs, co_nes, co_lt, co_le, co_gt, co_ge, len_str, len_tup, isi_int, isi_str, isi_tup, isi_sint, isi_ints, isi_intb, divMost, Int.reduceLT, Int.reduceLE, and_self, Bool.not_true, Bool.not_false, al_list, or_true, true_or, if_true]; rfl
    · simp only [ev, evs, evo, evAnd, evOr, evi, Res.bind_ok, List.getElem?_cons_zero, List.getElem?_cons_succ, ofOpt, Option.map_some, bo_add, bo_sub, bo_mod, bo_fdiv, co_eqi, co_nei, co_eqs, co_nes, co_lt, co_le, co_gt, co_ge, len_str, len_tup, isi_int, isi_str, isi_tup, isi_sint, isi_ints, isi_intb, divMost, Int.reduceLT, Int.reduceLE, and_self, Bool.not_true, Bool.not_false, al_list, or_true, true_or, if_true, s1, s2, plc p hp, num1 v hv1 hv2]
  | @wish w v hw hv1 hv2 =>
    have s1 : subOp (.ref σ.length) (.int 1) σ1 = .ok (.str w) σ1 := hsub 1 _ rfl
    have s2 : subOp (.ref σ.length) (.int 2) σ1 = .ok (.str (digits v)) σ1 := hsub 2 _ (by simp [ws, tI])
    refine (x_skip σ1 ?_).trans ((x_skip σ1 ?_).trans ((x_skip σ1 ?_).trans ((x_skip σ1 ?_).trans ((x_skip σ1 ?_).trans (x_ifret σ1 _ ?_ (x_ret _ σ1 ?_))))))
    · simp only [ev, evs, evo, evAnd, evOr, evi, Res.bind_ok, List.getElem?_cons_zero, List.getElem?_cons_succ, ofOpt, Option.map_some, bo_add, bo_sub, bo_mod, bo_fdiv, co_eqi, co_nei, co_eqs, co_nes, co_lt, co_le, co_gt, co_ge, len_str, len_tup, isi_int, isi_str, isi_tup, isi_sint, isi_ints, isi_intb, divMost, Int.reduceLT, Int.reduceLE, and_self, Bool.not_true, Bool.not_false, al_list, or_true, true_or, if_true, m3]; rfl
    · simp only [ev, evs, evo, evAnd, evOr, evi, Res.bind_ok, List.getElem?_cons_zero, List.getElem?_cons_succ, ofOpt, Option.map_some, bo_add, bo_sub, bo_mod, bo_fdiv, co_eqi, co_nei, co_eqs, co_nes, co_lt, co_le, co_gt, co_ge, len_str, len_tup, isi_int, isi_str, isi_tup, isi_sint, isi_ints, isi_intb, divMost, Int.reduceLT, Int.reduceLE, and_self, Bool.not_true, Bool.not_false, al_list, or_true, true_or, if_true]; rfl
    · simp only [ev, evs, evo, evAnd, evOr, evi, Res.bind_ok, List.getElem?_cons_zero, List.getElem?_cons_succ, ofOpt, Option.map_some, bo_add, bo_sub, bo_mod, bo_fdiv, co_eqi, co_nei, co_eqs, co_nes, co_lt, co_le, co_gt, co_ge, len_str, len_tup, isi_int, isi_str, isi_tup, isi_sint, isi_ints, isi_intb, divMost, Int.reduceLT, Int.reduceLE, and_self, Bool.not_true, Bool.not_false, al_list, or_true, true_or, if_true]; rfl
    · simp only [ev, evs, evo, evAnd, evOr, evi, Res.bind_ok, List.getElem?_cons_zero, List.getElem?_cons_succ, ofOpt, Option.map_some, bo_add, bo_sub, bo_mod, bo_fdiv, co_eqi, co_nei, co_eqs, co_nes, co_lt, co_le, co_gt, co_ge, len_str, len_tup, isi_int, isi_str, isi_tup, isi_sint, isi_ints, isi_intb, divMost, Int.reduceLT, Int.reduceLE, and_self, Bool.not_true, Bool.not_false, al_list, or_true, true_or, if_true, m2]; rfl
    · simp only [ev, evs, evo, evAnd, evOr, evi, Res.bind_ok, List.getElem?_cons_zero, List.getElem?_cons_succ, ofOpt, Option.map_some, bo_add, bo_sub, bo_mod, bo_fdiv, co_eqi, co_nei, co_eqs, co_nes, co_lt, co_le, co_gt, co_ge, len_str, len_tup, isi_int, isi_str, isi_tup, isi_sint, isi_ints, isi_intb, divMost, Int.reduceLT, Int.reduceLE, and_self, Bool.not_true, Bool.not_false, al_list, or_true, true_or, if_true]; rfl
    · simp only [ev, evs, evo, evAnd, evOr, evi, Res.bind_ok, List.getElem?_cons_zero, List.getElem?_cons_succ, ofOpt, Option.map_some, bo_add, bo_sub, bo_mod, bo_fdiv, co_eqi, co_nei, co_eqs, co_nes, co_lt, co_le, co_gt, co_ge, len_str, len_tup, isi_int, isi_str, isi_tup, isi_sint, isi_ints, isi_intb, divMost, Int.reduceLT, Int.reduceLE, and_self, Bool.not_true, Bool.not_false, al_list, or_true, true_or, if_true]; rfl
    · simp only [ev, evs, evo, evAnd, evOr, evi, Res.bind_ok, List.getElem?_cons_zero, List.getElem?_cons_succ, ofOpt, Option.map_some, bo_add, bo_sub, bo_mod, bo_fdiv, co_eqi, co_nei, co_eqs, co_nes, co_lt, co_le, co_gt, co_ge, len_str, len_tup, isi_int, isi_str, isi_tup, isi_sint, isi_ints, isi_intb, divMost, Int.reduceLT, Int.reduceLE, and_self, Bool.not_true, Bool.not_false, al_list, or_true, true_or, if_true, s1, s2, wre w hw, num1 v hv1 hv2]

theorem law07 {ns : List Int} (hlen : ns.length ≤ 1000) : ∃ σ', callN P (n + 4) hd 32 [.ref 0] [.froz (ns.map .int)] = .ok (.bool true) σ' := by
  have hfor := for_inv (body := fun (ρ : Rho) (σ : Sto) => exs (callN P (n + 3)) hd [.iff (.cmp .eq (.bin .mod (.loc 1) (.lit (.int 4))) (.lit (.int 0))) [.asg 2 (.callF 84 [.sub (.loc 0) (.loc 1), .callF 26 [.loc 0, .bin .add (.loc 1) (.lit (.int 1))], .callF 26 [.loc 0, .bin .add (.loc 1) (.lit (.int 2))], .callF 26 [.loc 0, .bin .add (.loc 1) (.lit (.int 3))]]), .asg 3 (.callF 77 [.loc 2]), .iff (.or [.not (.isinst (.loc 3) .str), .cmp .ne (.loc 3) (.callF 85 [.loc 2])]) [.ret (some (.lit (.bool false)))] [], .iff (.not (.callF 68 [.callF 81 [.loc 3], .loc 2])) [.ret (some (.lit (.bool false)))] []] []] ρ σ) (is := [1]) (all := ([], []))
    (fun k ρ σ' => [.froz (ns.map .int)] <+: σ' ∧ ∃ x y z, ρ = [some (.ref 0), x, y, z]) ((List.range (ns.length : Int).toNat).map fun (i : Nat) => D.int (i : Int)) 0 [some (.ref 0), none, none, none] [.froz (ns.map .int)] ⟨List.prefix_refl _, none, none, none, rfl⟩ (by
      rintro j d ρ σ'' hj ⟨hpre, x, y, z, rfl⟩
      rw [List.getElem?_map] at hj
      obtain ⟨k, hk, rfl⟩ := Option.map_eq_some_iff.mp hj
      have hkl : k < ns.length := by
        obtain ⟨h, e⟩ := List.getElem?_eq_some_iff.mp hk
        simp at h e; omega
      have h0 : σ''[0]? = some (.froz (ns.map .int)) := p_pre_get hpre rfl
      by_cases hm : k % 4 = 0
      · have b4 : ((k : Int) % 4 == 0) = true := by simp; omega
        have hs : subOp (.ref 0) (.int k) σ'' = .ok (.int (ns.getD k 0)) σ'' := so_ref 0 _ k _ σ'' (seqOf_froz h0) (by simp [hkl])
        have c1 := cell_at (n := n + 2) (hd := hd) H h0 (k + 1)
        have c2 := cell_at (n := n + 2) (hd := hd) H h0 (k + 2)
        have c3 := cell_at (n := n + 2) (hd := hd) H h0 (k + 3)
        rw [show ((k + 1 : Nat) : Int) = (k : Int) + 1 by omega] at c1
        rw [show ((k + 2 : Nat) : Int) = (k : Int) + 2 by omega] at c2
        rw [show ((k + 3 : Nat) : Int) = (k : Int) + 3 by omega] at c3
        obtain ⟨h, ps, σ1, he, hp1, hok⟩ := entry_by (n := n) (hd := hd) (σ := σ'') H (ns.getD k 0) (ns.getD (k + 1) 0) (ns.getD (k + 2) 0) (ns.getD (k + 3) 0)
        obtain ⟨hh, hh32, hl⟩ := hok.head
        obtain ⟨σ2, hsh, hp2⟩ := shown (n := n + 2) (hd := hd) (σ := σ1) H hh hok.parts hl
        have hln := line_of (n := n + 1) (hd := hd) (σ := σ2) H hh hok.parts hl
        obtain ⟨σ3, hrd, hp3⟩ := read_ok (n := n) (hd := hd) (σ := σ2) H hok
        have hal := alike (n := n + 1) (hd := hd) (σ := σ3) H (ds := .str h :: ps) (by
          intro d hd'
          rcases List.mem_cons.mp hd' with rfl | hd'
          · trivial
          · exact (hok.parts d hd').flat)
        refine ⟨[some (.ref 0), some (.int k), y, z], [some (.ref 0), some (.int k), some (.tup (.str h :: ps)), some (.str (joinS [32] (h :: ps.map txt)))], σ3, by simp [unpackT, setVars], ?_, ((hpre.trans hp1).trans hp2).trans hp3, _, _, _, rfl⟩
        refine (x_ift σ'' σ3 _ (by simp only [ev, evs, evo, evAnd, evOr, evi, Res.bind_ok, List.getElem?_cons_zero, List.getElem?_cons_succ, ofOpt, Option.map_some, bo_add, bo_sub, bo_mod, bo_fdiv, co_eqi, co_nei, co_eqs, co_nes, co_lt, co_le, co_gt, co_ge, len_str, len_tup, isi_int, isi_str, isi_tup, isi_sint, isi_ints, isi_intb, divMost, Int.reduceLT, Int.reduceLE, and_self, Bool.not_true, Bool.not_false, al_list, or_true, true_or, if_true, b4]) ?_).trans x_nil
        refine (x_asg (.tup (.str h :: ps)) σ1 [some (.ref 0), some (.int k), some (.tup (.str h :: ps)), z] (by simp only [ev, evs, evo, evAnd, evOr, evi, Res.bind_ok, List.getElem?_cons_zero, List.getElem?_cons_succ, ofOpt, Option.map_some, bo_add, bo_sub, bo_mod, bo_fdiv, co_eqi, co_nei, co_eqs, co_nes, co_lt, co_le, co_gt, co_ge, len_str, len_tup, isi_int, isi_str, isi_tup, isi_sint, isi_ints, isi_intb, divMost, Int.reduceLT, Int.reduceLE, and_self, Bool.not_true, Bool.not_false, al_list, or_true, true_or, if_true, hs, c1, c2, c3, he])).trans ?_
        refine (x_asg (.str (joinS [32] (h :: ps.map txt))) σ2 [some (.ref 0), some (.int k), some (.tup (.str h :: ps)), some (.str (joinS [32] (h :: ps.map txt)))] (by simp only [ev, evs, evo, evAnd, evOr, evi, Res.bind_ok, List.getElem?_cons_zero, List.getElem?_cons_succ, ofOpt, Option.map_some, bo_add, bo_sub, bo_mod, bo_fdiv, co_eqi, co_nei, co_eqs, co_nes, co_lt, co_le, co_gt, co_ge, len_str, len_tup, isi_int, isi_str, isi_tup, isi_sint, isi_ints, isi_intb, divMost, Int.reduceLT, Int.reduceLE, and_self, Bool.not_true, Bool.not_false, al_list, or_true, true_or, if_true, hsh])).trans ?_
        have hbq : (!(joinS [32] (h :: ps.map txt) == joinS [32] (h :: ps.map txt))) = false := by simp
        refine (x_skip σ2 (by simp only [ev, evs, evo, evAnd, evOr, evi, Res.bind_ok, List.getElem?_cons_zero, List.getElem?_cons_succ, ofOpt, Option.map_some, bo_add, bo_sub, bo_mod, bo_fdiv, co_eqi, co_nei, co_eqs, co_nes, co_lt, co_le, co_gt, co_ge, len_str, len_tup, isi_int, isi_str, isi_tup, isi_sint, isi_ints, isi_intb, divMost, Int.reduceLT, Int.reduceLE, and_self, Bool.not_true, Bool.not_false, al_list, or_true, true_or, if_true, hln, hbq])).trans ?_
        exact (x_skip σ3 (by simp only [ev, evs, evo, evAnd, evOr, evi, Res.bind_ok, List.getElem?_cons_zero, List.getElem?_cons_succ, ofOpt, Option.map_some, bo_add, bo_sub, bo_mod, bo_fdiv, co_eqi, co_nei, co_eqs, co_nes, co_lt, co_le, co_gt, co_ge, len_str, len_tup, isi_int, isi_str, isi_tup, isi_sint, isi_ints, isi_intb, divMost, Int.reduceLT, Int.reduceLE, and_self, Bool.not_true, Bool.not_false, al_list, or_true, true_or, if_true, hrd, hal])).trans x_nil
      · have b4 : ((k : Int) % 4 == 0) = false := by simp; omega
        exact ⟨[some (.ref 0), some (.int k), y, z], [some (.ref 0), some (.int k), y, z], σ'', by simp [unpackT, setVars], (x_skip σ'' (by simp only [ev, evs, evo, evAnd, evOr, evi, Res.bind_ok, List.getElem?_cons_zero, List.getElem?_cons_succ, ofOpt, Option.map_some, bo_add, bo_sub, bo_mod, bo_fdiv, co_eqi, co_nei, co_eqs, co_nes, co_lt, co_le, co_gt, co_ge, len_str, len_tup, isi_int, isi_str, isi_tup, isi_sint, isi_ints, isi_intb, divMost, Int.reduceLT, Int.reduceLE, and_self, Bool.not_true, Bool.not_false, al_list, or_true, true_or, if_true, b4])).trans x_nil, hpre, _, _, _, rfl⟩)
  obtain ⟨ρ', σ', h1, hpre, x, y, z, rfl⟩ := hfor
  have hr : (0 : Int) ≤ ns.length ∧ (ns.length : Int) ≤ most := by simp only [most]; omega
  have hl := len_ref 0 _ [.froz (ns.map .int)] (seqOf_froz (σ := [.froz (ns.map D.int)]) (n := 0) rfl)
  rw [List.length_map] at hl
  refine ⟨σ', callN_run H.h32 [some (.ref 0), none, none, none] ((x_for ⟨_, _, _⟩ _ σ' _ ?_ h1).trans (x_ret _ _ (by rw [ev])))⟩
  simp only [ev, evs, evo, evAnd, evOr, evi, Res.bind_ok, List.getElem?_cons_zero, List.getElem?_cons_succ, ofOpt, Option.map_some, bo_add, bo_sub, bo_mod, bo_fdiv, co_eqi, co_nei, co_eqs, co_nes, co_lt, co_le, co_gt, co_ge, len_str, len_tup, isi_int, isi_str, isi_tup, isi_sint, isi_ints, isi_intb, divMost, Int.reduceLT, Int.reduceLE, and_self, Bool.not_true, Bool.not_false, al_list, or_true, true_or, if_true, hl, if_pos hr]
end
end Mine

/-! part MTab -/
namespace Mine
open PySem PySem.Calls PySem.W PyProof.Rows
set_option maxRecDepth 100000
noncomputable def tabOf (p : Program) (g : CG) : List (Option Nat × Option CFn) := (recsOf p).map fun d => (nameId d.name, cFn g d.params d.body d.scope)
theorem find_tab (g : CG) (i : Nat) : ∀ l : List DefRec, ((l.find? fun d => nameId d.name == some i).bind fun d => cFn g d.params d.body d.scope) = ((l.map fun d => (nameId d.name, cFn g d.params d.body d.scope)).find? fun q => q.1 == some i).bind (·.2)
  | [] => rfl
  | d :: l => by
    rw [List.map_cons, List.find?_cons, List.find?_cons]
    cases h : nameId d.name == some i with
    | true => rfl
    | false => exact find_tab g i l
theorem progOf_tab (p : Program) (g : CG) (i : Nat) : progOf p g i = ((tabOf p g).find? fun q => q.1 == some i).bind (·.2) := find_tab g i _

noncomputable def gc07 : List (Str × D) := [(Str.ofString "LETTERS", .str L26), (Str.ofString "MOST_SIGNS", .int 20), (Str.ofString "LAST_PLACE", .int 9999), (Str.ofString "MOST", .int 1000000000000000000000000000000), (Str.ofString "FIGURES", .str FIG)]
noncomputable def names07 : List Str := (["is_ware", "shown", "number_of", "ware_of", "place_of", "read", "_law_whole", "_law_cell_at", "_law_ware_by", "_law_wares", "_law_places", "_law_number_by", "_law_figures", "_law_entry_by", "_law_line_of", "_law_alike", "law"] : List String).map Str.ofString
noncomputable def g07 : CG := ⟨gc07, names07, []⟩
noncomputable def tab07 : List (Option Nat × Option CFn) := [(some 19, some fn_is_ware), (some 77, some fn_shown), (some 78, some fn_number_of), (some 79, some fn_ware_of), (some 80, some fn_place_of), (some 81, some fn_read), (some 25, some fn__law_whole), (some 26, some fn__law_cell_at), (some 27, some fn__law_ware_by), (some 28, some fn__law_wares), (some 29, some fn__law_places), (some 82, some fn__law_number_by), (some 83, some fn__law_figures), (some 84, some fn__law_entry_by), (some 85, some fn__law_line_of), (some 68, some fn__law_alike), (some 32, some fn_law)]
theorem has07 {p : Program} (h : tabOf p g07 = tab07) : Has07 (progOf p g07) := by
  constructor <;> (rw [progOf_tab, h]; rfl)
end Mine
namespace Mine
open PySem PySem.Calls PySem.W PyProof.Rows
theorem good_true {c : ClaimW} {cl : Str → Option Addr} {mean : ExcName → Option Value} {args : List WData} {s₁ s' : Shared} (hk : ∀ b o, s₁.heap.get? b = some o → s'.heap.get? b = some o) (hg : s'.gens = s₁.gens) (hg0 : s₁.gens = #[]) (hos : s'.os = s₁.os)
    (hn : ∀ cls, c.raises args cls = false) (hp : c.post args (.bool true) args = true) : GoodWG c cl mean args s₁ (.ok (.ret (.bool true))) s' :=
  ⟨.inl ⟨.bool true, .bool true, [], rfl, hn, .bool true, hp, fun _ => ⟨List.nodup_nil, fun a ha => by cases ha⟩⟩, .of_keep hk, hos, .of_eq (hg.trans hg0)⟩
theorem end07 {view prog : Program} {w : World} {loose : List Str} {mean : ExcName → Option Value} {mg mb : Str → Option Value} {s : Shared} (T : Top view loose mean mg mb s.heap)
    (e1 : fnsOk view g07 = true) (e2 : biOk view loose = true) (e3 : tabOf view g07 = tab07) (e4 : conOk view g07 = true) {fa : Addr} (hmg : mg (Str.ofString "law") = some (.ref fa))
    {ns : List Int} {l : Addr} {vs : List Value} (hL : s.heap.IsList l vs.toArray) (hI : IntsAre vs ns) (hlen : ¬ ((63 : Nat) : Int) < ((ns.length : Nat) : Int))
    {Q : Value → Shared → Prop} {E : Value → Shared → Prop} (hQ : ∀ s' : Shared, (∀ b o, s.heap.get? b = some o → s'.heap.get? b = some o) → s'.gens = s.gens → s'.os = s.os → Q (.bool true) s') :
    wpAny (model prog w) callerA (call (.ref fa) [.ref l]) Q E s := by
  have hl : ¬ 63 < ns.length := by omega
  obtain ⟨σ', hrun⟩ := law07 (n := 20) (hd := false) (has07 e3) (ns := ns) (by omega)
  exact law_end T g07 e1 e4 e2 (x := Str.ofString "law") (by decide +kernel) (by decide +kernel) hmg hL hI hl (n := 23) (by omega) hrun hQ
end Mine

/-! part H07 -/
open PySem PySem.W PyProof.Rows
namespace Mine
noncomputable def view07 : Program := viewOf PySem.Challenge.pw_uf020035_07
end Mine
set_option maxRecDepth 100000 in
set_option maxHeartbeats 8000000 in
theorem PySem.Challenge.cw_uf020035_07_holds : PySem.Challenge.rw_uf020035_07.Holds := by
  w_on
  o_law
  refine holds_open (q := Mine.view07) (loose := [Str.ofString "MOST"]) (Xt := fun s => xlAt Mine.view07 [(Str.ofString "MOST", WData.int 1000000000000000000000000000000)] s && recOk (RowW.records (OpenRow.toRowW PySem.Challenge.rw_uf020035_07.row)) s) (XP := XL Mine.view07 [(Str.ofString "MOST", WData.int 1000000000000000000000000000000)]) (Yf := Hook.obs Hook.none) (Ya := Hook.val Hook.none) (YP := Hook.says Hook.none) (N := 2132) ?hl (Hook.of Hook.none) (Hook.keeps Hook.none) (fun s e => xl_of s (Bool.and_eq_true_iff.mp e).1) XL.keeps (by rfl) (by rfl) (by rfl) (fun s e => recFacts_of (Bool.and_eq_true_iff.mp e).2) (by rfl) (by first | assumption | decide +kernel) (by decide +kernel) ⟨rfl, rfl, rfl, rfl, rfl, by decide +kernel⟩ ?hw ?hc
  case hl => exact fun w => by kernel_rfl
  case hw => w_witness2
  intro w s₀ s₁ mg mb G Y fa o pm cd doc dV kV ho hd hcd hD hmg hg args vals as hpre hlay hrd hwl hlo
  refine Ground.open G ?_
  intro T B D TE TW
  wrow_args hpre hlay hrd hwl hlo
  clear Y TE TW B D ho hd hcd hD
  rename_i hL _ _ _ hI _ hcond _
  refine Mine.end07 T (by decide +kernel) (by decide +kernel) (by kernel_rfl) (by decide +kernel) hmg hL hI hcond fun s' k1 k2 k3 => ?_
  exact Mine.good_true k1 k2 hg k3 (fun cls => rfl) (by kc_post)
