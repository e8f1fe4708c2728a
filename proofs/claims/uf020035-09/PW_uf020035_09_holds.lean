import PyProof.Rows.All
import PySem.Value
import PyProof.P3Statements
import PyProof.EqKinds
import PyProof.EqAt
import PyProof.StationsW
import PyProof.Cells
import PyProof.Rows.Frame
import PyProof.Rows.News
import OpenK.KWalk
import PyProof.Rows.OwnQ
import PyProof.ExcBaseAll.ValueError
import KE.KIntText
import PyProof.CallStr
import PyProof.IsiPairs
import PyProof.IsiNone
import PyProof.IsiH_list
import PyProof.IsiH_tuple
import PyProof.IsiH_dict
import PyProof.TupleOfSeq
import PyProof.StrCalls2
import PyProof.StrLawsTight
import PyProof.StrLawsChain
import PyProof.StrLawsIn
import PyProof.Rows.CellsKey
import KE.KTurns
import PyProof.StrWalks
import PyProof.WalksMore
import PyProof.RangeFor
import PyProof.CompUse
import PyProof.CompFree
import PyProof.ExcClass
import PyProof.Rows.CatchBare
import PyProof.Rows.CatchOwn
import PyProof.ZipIter
import PyProof.ListIndex
import PyProof.ForAppend
import PyProof.FactsAll.list_3
import PyProof.Rows.SortShell
import PyProof.Rows.SortWalk
import PyProof.ListCopy
import PyProof.Rows.SumAny
import PyProof.Rows.SortRev
import PyProof.WalkInts
import PyProof.CollectStr
import PyProof.Rows.TupAssign
import OpenK.KCall
import OpenK.KOwn
import PyProof.Rows.Top
import Wide.All
import OpenK.AllK
import Wide.FinOn
import Open.Tree
import Open.Head
import Open.FastT9
import Open.Line
import PySem.Challenge.RW_uf020035_09
set_option Elab.async false
set_option tactic.hygienic false
set_option linter.all false
set_option linter.unusedSimpArgs false
set_option linter.unusedVariables false
set_option linter.unusedSectionVars false
set_option genSizeOf false
set_option genInjectivity false
set_option bootstrap.genMatcherCode false
set_option compiler.extract_closed false
namespace Mine
open PySem
set_option genSizeOf false
set_option genInjectivity false

inductive D where
  | none | bool (b : Bool) | int (i : Int) | str (s : List Nat) | tup (ds : List D) | ref (n : Nat)

inductive AObj where
  | list (ds : List D)
  | froz (ds : List D)

noncomputable abbrev Sto := List AObj

inductive Res (α : Type) where
  | ok (a : α) (σ : Sto)
  | exc (c : Nat) (σ : Sto)
  | stuck

noncomputable def Res.bind {α β : Type} (r : Res α) (f : α → Sto → Res β) : Res β :=
  match r with
  | .ok a σ => f a σ
  | .exc c σ => .exc c σ
  | .stuck => .stuck
@[simp] theorem Res.bind_ok {α β : Type} (a : α) (σ : Sto) (f : α → Sto → Res β) : (Res.ok a σ).bind f = f a σ := rfl
@[simp] theorem Res.bind_exc {α β : Type} (c : Nat) (σ : Sto) (f : α → Sto → Res β) : (Res.exc c σ).bind f = .exc c σ := rfl
@[simp] theorem Res.bind_stuck {α β : Type} (f : α → Sto → Res β) : (Res.stuck).bind f = .stuck := rfl

noncomputable abbrev Cm (α : Type) := Sto → Res α
noncomputable def Cm.ok {α : Type} (a : α) : Cm α := fun σ => .ok a σ
noncomputable def Cm.stuck {α : Type} : Cm α := fun _ => .stuck
noncomputable def Cm.bnd {α β : Type} (r : Cm α) (k : α → Cm β) : Cm β := fun σ => (r σ).bind k
noncomputable def Cm.opt {α : Type} (o : Option α) : Cm α := match o with | some a => Cm.ok a | none => Cm.stuck
theorem Cm.opt_some {α : Type} (a : α) : Cm.opt (some a) = Cm.ok a := rfl
@[simp] theorem Cm.ok_ap {α : Type} (a : α) (σ : Sto) : Cm.ok a σ = .ok a σ := rfl
@[simp] theorem Cm.stuck_ap {α : Type} (σ : Sto) : (Cm.stuck : Cm α) σ = .stuck := rfl
theorem Cm.bnd_ap {α β : Type} (r : Cm α) (k : α → Cm β) (σ : Sto) : r.bnd k σ = (r σ).bind k := rfl

inductive Bop where | add | sub | mul | fdiv | mod | pow
  deriving DecidableEq
inductive Cop where | eq | ne | lt | le | gt | ge | is | isnot | mem | nmem
  deriving DecidableEq
inductive Ty where | int | bool | tuple | list
  deriving DecidableEq
inductive Bi where | len | sum | sorted | min | max | int | list
  deriving DecidableEq
noncomputable def Bi.plain : Bi → Bool
  | .len => true
  | _ => false

mutual
inductive CE where
  | lit (d : D)
  | loc (i : Nat)
  | gcon (d : D)
  | bin (o : Bop) (l r : CE)
  | neg (e : CE)
  | not (e : CE)
  | and (es : List CE)
  | or (es : List CE)
  | cmp (o : Cop) (l r : CE)
  | cmp2 (o1 o2 : Cop) (a b c : CE)
  | list (es : List CE)
  | tup (es : List CE)
  | sub (o i : CE)
  | slice (o : CE) (lo hi : Option CE)
  | callF (f : Nat) (args : List CE)
  | callB (f : Bi) (args : List CE)
  | isinst (e : CE) (t : Ty)
  | meth (o : CE) (m : Nat) (args : List CE)
  | comp (elt : CE) (k : Nat) (it : CI) (cond : Option CE)
inductive CI where
  | ev (e : CE)
  | range (e : CE)
  | zip (a b : CE)
end
noncomputable def CI.tup : CI → Bool
  | .zip _ _ => true
  | _ => false

noncomputable def CI.isKeys (_ : CI) : Bool := false

inductive CS where
  | ret (e : Option CE)
  | asg (i : Nat) (e : CE)
  | expr (e : CE)
  | iff (c : CE) (t e : List CS)
  | for (is : List Nat) (it : CI) (body : List CS)
  | raise (c : Nat)
  | try (ids : List Nat) (body : List CS) (t : Nat) (h : List CS)
  | pass

noncomputable abbrev Rho := List (Option D)

inductive Fl where
  | next (ρ : Rho)
  | ret (d : D)
  | exc (c : Nat) (ρ : Rho)

noncomputable def Cm.stm {α : Type} (r : Cm α) (ρ : Rho) (k : α → Cm Fl) : Cm Fl := fun σ =>
  match r σ with
  | .ok a σ => k a σ
  | .exc c σ => .ok (.exc c ρ) σ
  | .stuck => .stuck

theorem Cm.stm_ok {α : Type} {r : Cm α} {ρ : Rho} {k : α → Cm Fl} {σ σ' : Sto} {a : α} (h : r σ = .ok a σ') : r.stm ρ k σ = k a σ' := by unfold Cm.stm; rw [h]
theorem Cm.stm_exc {α : Type} {r : Cm α} {ρ : Rho} {k : α → Cm Fl} {σ σ' : Sto} {c : Nat} (h : r σ = .exc c σ') : r.stm ρ k σ = .ok (.exc c ρ) σ' := by unfold Cm.stm; rw [h]
structure CFn where
  np : Nat
  nv : Nat
  body : List CS

noncomputable def rd : Nat → Sto → D → Option PyData
  | 0, _, _ => none
  | n + 1, σ, d => match d with
    | .none => some .none
    | .bool b => some (.bool b)
    | .int i => some (.int i)
    | .str s => some (.str ⟨s.toArray⟩)
    | .tup ds => (ds.mapM (rd n σ)).map .tuple
    | .ref k => match σ[k]? with
      | some (.list ds) => (ds.mapM (rd n σ)).map .list
      | some (.froz ds) => (ds.mapM (rd n σ)).map .list
      | _ => none
noncomputable def rdDepth : Nat := 8
noncomputable def pyEq (σ : Sto) (a b : D) : Option Bool :=
  match rd rdDepth σ a with
  | some x => match rd rdDepth σ b with
    | some y => some (PyData.eqv x y)
    | none => none
  | none => none

noncomputable def seqOf (σ : Sto) : D → Option (List D)
  | .tup ds => some ds
  | .ref k => match σ[k]? with
    | some (.list ds) => some ds
    | some (.froz ds) => some ds
    | _ => none
  | _ => none
noncomputable def intOf : D → Option Int
  | .int i => some i
  | _ => none
noncomputable def boolOf : D → Option Bool
  | .bool b => some b
  | _ => none
noncomputable def isIn (σ : Sto) (a b : D) : Option Bool := match rd rdDepth σ a with
  | some x => ((seqOf σ b).bind (·.mapM (rd rdDepth σ))).map fun ys => ys.any fun y => PyData.eqv y x
  | none => none
noncomputable def isNone : D → Bool
  | .none => true
  | _ => false
noncomputable def isSame (a b : D) : Option Bool := match boolOf b with
  | some y => some (boolOf a == some y)
  | none => if isNone b then some (isNone a) else none
noncomputable def cmpI (f : Int → Int → Bool) (a b : D) : Cm D := match intOf a with
  | some x => match intOf b with
    | some y => Cm.ok (.bool (f x y))
    | none => Cm.stuck
  | none => Cm.stuck
noncomputable def cmpOp (o : Cop) (a b : D) : Cm D := match o with
  | .eq => fun σ => Cm.opt ((pyEq σ a b).map .bool) σ
  | .ne => fun σ => Cm.opt ((pyEq σ a b).map fun x => .bool (!x)) σ
  | .is => Cm.opt ((isSame a b).map .bool)
  | .isnot => Cm.opt ((isSame a b).map fun x => .bool (!x))
  | .mem => fun σ => Cm.opt ((isIn σ a b).map .bool) σ
  | .nmem => fun σ => Cm.opt ((isIn σ a b).map fun x => .bool (!x)) σ
  | .lt => cmpI (fun x y => decide (x < y)) a b
  | .le => cmpI (fun x y => decide (x ≤ y)) a b
  | .gt => cmpI (fun x y => decide (y < x)) a b
  | .ge => cmpI (fun x y => decide (y ≤ x)) a b

noncomputable def alloc (o : AObj) : Cm D := fun σ => .ok (.ref σ.length) (σ ++ [o])
noncomputable def most : Nat := 100000
noncomputable def divMost : Int := 10000000000000000000000000000000000000000

noncomputable def binI (o : Bop) (x y : Int) : Option Int := match o with
  | .add => some (x + y)
  | .sub => some (x - y)
  | .mul => if x.natAbs < 2 ^ 64 ∨ y.natAbs < 2 ^ 64 then some (x * y) else none
  | .fdiv => if 0 < y ∧ y ≤ divMost then some (x / y) else none
  | .mod => if 0 < y then some (x % y) else none
  | .pow => if 0 ≤ y ∧ y ≤ 1000 ∧ x.natAbs < 2 ^ 64 then some (x ^ y.toNat) else none
noncomputable def listAt (σ : Sto) (d : D) : Option (List D) := match d with
  | .ref i => match σ[i]? with
    | some (.list xs) => some xs
    | _ => none
  | _ => none
noncomputable def addL (xs : List D) (b : D) : Cm D := fun σ => match listAt σ b with
  | some ys => if xs.length + ys.length ≤ most then alloc (.list (xs ++ ys)) σ else .stuck
  | none => .stuck
noncomputable def binL (o : Bop) (a b : D) : Cm D := fun σ => match listAt σ a with
  | some xs => (match o with
    | .add => addL xs b σ
    | _ => .stuck)
  | none => .stuck
noncomputable def binOp (o : Bop) (a b : D) : Cm D :=
  match intOf a with
  | some x => Cm.opt ((intOf b).bind fun y => (binI o x y).map .int)
  | none => binL o a b

noncomputable def idx? (i : Int) (n : Nat) : Option Nat :=
  let j := if i < 0 then i + n else i
  if 0 ≤ j ∧ j < n then some j.toNat else none
noncomputable def subSeq (ds : List D) (i : D) : Option D := (intOf i).bind fun k => (idx? k ds.length).bind (ds[·]?)
noncomputable def subOp (o i : D) : Cm D := fun σ => match seqOf σ o with
  | some ds => Cm.opt (subSeq ds i) σ
  | none => .stuck

noncomputable def clip (i : Int) (n : Nat) : Nat :=
  let j := if i < 0 then i + n else i
  if j < 0 then 0 else if (n : Int) < j then n else j.toNat
noncomputable def bnd (d : Option D) (dflt n : Nat) : Option Nat :=
  match d with
  | none => some dflt
  | some d => (intOf d).map fun i => clip i n
noncomputable def cut {α : Type} (l : List α) (a b : Nat) : List α := (l.take b).drop a
noncomputable def sliceList (ds : List D) (lo hi : Option D) : Option AObj := (bnd lo 0 ds.length).bind fun a => (bnd hi ds.length ds.length).map fun b => .list (cut ds a b)
noncomputable def tupOf : D → Option (List D)
  | .tup ds => some ds
  | _ => none
noncomputable def allocO (o : Option AObj) : Cm D := match o with
  | some o => alloc o
  | none => Cm.stuck
noncomputable def sliceOp (o : D) (lo hi : Option D) : Cm D := fun σ => match tupOf o with
  | some _ => .stuck
  | none => match seqOf σ o with
    | some ds => allocO (sliceList ds lo hi) σ
    | none => .stuck

noncomputable def excSub (c t : Nat) : Bool := c == t || t == 0 || (t == 1 && c != 0)
noncomputable def isInst (σ : Sto) (d : D) (t : Ty) : Option Bool := match d with
  | .int _ => some (t == .int)
  | .tup _ => some (t == .tuple)
  | d => if t == .list then (listAt σ d).map fun _ => true else none
noncomputable def intsOf (ds : List D) : Option (List Int) := ds.mapM intOf
noncomputable def twoOf (d : D) : Option (Int × Int) := match d with
  | .tup ds => match ds with
    | [] => none
    | a :: r => match r with
      | [] => none
      | b :: r => if r.isEmpty then (intOf a).bind fun x => (intOf b).map fun y => (x, y) else none
  | _ => none
noncomputable def twoD (p : Int × Int) : D := .tup [.int p.1, .int p.2]
noncomputable def lexB (a b : Int × Int) : Bool := decide (a.1 < b.1) || (decide (a.1 = b.1) && decide (a.2 < b.2))
noncomputable def sortT (l : List (Int × Int)) : List (Int × Int) := l.mergeSort fun a b => !lexB b a
noncomputable def sortL (ds : List D) : Option (List D) := (ds.mapM twoOf).bind fun l => if l.Nodup ∧ l.length ≤ 1000 then some ((sortT l).map twoD) else none
noncomputable def lenOf (σ : Sto) (d : D) : Option Nat := (seqOf σ d).map (·.length)
noncomputable def call1 (f : Bi) (d : D) : Cm D := fun σ => match f with
  | .len => Cm.opt ((lenOf σ d).map fun (n : Nat) => D.int (n : Int)) σ
  | .sum => Cm.opt ((listAt σ d).bind fun ds => (intsOf ds).map fun l => .int l.sum) σ
  | .sorted => match (listAt σ d).bind sortL with
    | some ds => alloc (.list ds) σ
    | none => .stuck
  | .list => match listAt σ d with
    | some ds => alloc (.list ds) σ
    | none => .stuck
  | .int => Cm.opt ((boolOf d).map fun b => .int (if b then 1 else 0)) σ
  | _ => .stuck
noncomputable def call2 (f : Bi) (a b : D) : Cm D := match f with
  | .min => Cm.opt ((intOf a).bind fun x => (intOf b).map fun y => .int (if y < x then y else x))
  | .max => Cm.opt ((intOf a).bind fun x => (intOf b).map fun y => .int (if x < y then y else x))
  | _ => Cm.stuck
noncomputable def callBi (f : Bi) (as : List D) : Cm D := match as with
  | [] => Cm.stuck
  | a :: r => match r with
    | [] => call1 f a
    | b :: r => if r.isEmpty then call2 f a b else Cm.stuck

noncomputable abbrev Call := Nat → List D → Cm D
noncomputable def askMk (hd : Bool) (o : D) (m : Nat) : Cm Unit := fun σ => if hd = false ∧ m = 0 ∧ (listAt σ o).isSome = true then .ok () σ else .stuck
noncomputable def methL (o : D) (as : List D) : Cm D := fun σ => match o with
  | .ref n => match listAt σ o with
    | some ds => (match as with
      | [] => .stuck
      | a :: r => if r.isEmpty ∧ ds.length < most then .ok .none (σ.set n (.list (ds ++ [a]))) else .stuck)
    | none => .stuck
  | _ => .stuck
structure Src where
  items : List D
  st : List (Nat × AObj)
noncomputable def Stands (σ : Sto) (st : List (Nat × AObj)) : Prop := ∀ p ∈ st, σ[p.1]? = some p.2
noncomputable def itemsOf (σ : Sto) (d : D) : Option Src :=
  match d with
  | .tup ds => some ⟨ds, []⟩
  | .ref n => match σ[n]? with
    | some (.list ds) => some ⟨ds, [(n, .list ds)]⟩
    | _ => none
  | _ => none
noncomputable def zipOf (σ : Sto) (a b : D) : Option Src := match a with
  | .ref n => match b with
    | .ref m => match σ[n]? with
      | some (.list xs) => match σ[m]? with
        | some (.list ys) => some ⟨(xs.zip ys).map fun p => .tup [p.1, p.2], [(n, .list xs), (m, .list ys)]⟩
        | _ => none
      | _ => none
    | _ => none
  | _ => none
noncomputable def unpackT (_ : Sto) (k : Nat) (d : D) : Option (List D) :=
  if k = 1 then some [d] else (tupOf d).bind fun ds => if ds.length = k then some ds else none

open Classical in
noncomputable def compGo (elt : Rho → Cm D) (cond : Option (Rho → Cm D)) (k : Nat) (ρ : Rho) (st : List (Nat × AObj)) : List D → List D → Cm (List D)
  | [], acc => fun σ => if Stands σ st then .ok acc.reverse σ else .stuck
  | d :: r, acc => fun σ =>
    if Stands σ st then
      match unpackT σ k d with
      | none => .stuck
      | some vs => match cond with
        | none => match elt (ρ ++ vs.map some) σ with
          | .ok v σ' => compGo elt cond k ρ st r (v :: acc) σ'
          | _ => .stuck
        | some c => match c (ρ ++ vs.map some) σ with
          | .ok b σ' => (match boolOf b with
            | some b => if b then (match elt (ρ ++ vs.map some) σ' with
              | .ok v σ'' => compGo elt cond k ρ st r (v :: acc) σ''
              | _ => .stuck) else compGo elt cond k ρ st r acc σ'
            | none => .stuck)
          | _ => .stuck
    else .stuck

open Classical in
theorem compGo_nil {elt : Rho → Cm D} {cond : Option (Rho → Cm D)} {k : Nat} {ρ : Rho} {st : List (Nat × AObj)} {acc : List D} {σ : Sto} : compGo elt cond k ρ st [] acc σ = if Stands σ st then .ok acc.reverse σ else .stuck := rfl
open Classical in
theorem compGo_cons {elt : Rho → Cm D} {cond : Option (Rho → Cm D)} {k : Nat} {ρ : Rho} {st : List (Nat × AObj)} {d : D} {r acc : List D} {σ : Sto} : compGo elt cond k ρ st (d :: r) acc σ =
    if Stands σ st then
      match unpackT σ k d with
      | none => .stuck
      | some vs => match cond with
        | none => match elt (ρ ++ vs.map some) σ with
          | .ok v σ' => compGo elt cond k ρ st r (v :: acc) σ'
          | _ => .stuck
        | some c => match c (ρ ++ vs.map some) σ with
          | .ok b σ' => (match boolOf b with
            | some b => if b then (match elt (ρ ++ vs.map some) σ' with
              | .ok v σ'' => compGo elt cond k ρ st r (v :: acc) σ''
              | _ => .stuck) else compGo elt cond k ρ st r acc σ'
            | none => .stuck)
          | _ => .stuck
    else .stuck := rfl
noncomputable def asBool (r : Cm D) : Cm Bool := r.bnd fun d => Cm.opt (boolOf d)

mutual
noncomputable def ev (hd : Bool) (cl : Bool → Call) : CE → Rho → Cm D
  | .lit d, _ => Cm.ok d
  | .loc i, ρ => Cm.opt (ρ[i]?.join)
  | .gcon d, _ => Cm.ok d
  | .bin o l r, ρ => (ev hd cl l ρ).bnd fun a => (ev hd cl r ρ).bnd fun b => binOp o a b
  | .neg e, ρ => (ev hd cl e ρ).bnd fun a => Cm.opt ((intOf a).map fun i => .int (-i))
  | .not e, ρ => (asBool (ev hd cl e ρ)).bnd fun b => Cm.ok (.bool (!b))
  | .and es, ρ => evAnd hd cl es ρ
  | .or es, ρ => evOr hd cl es ρ
  | .cmp o l r, ρ => (ev hd cl l ρ).bnd fun a => (ev hd cl r ρ).bnd fun b => cmpOp o a b
  | .cmp2 o1 o2 a b c, ρ => (ev hd cl a ρ).bnd fun x => (ev hd cl b ρ).bnd fun y => (asBool (cmpOp o1 x y)).bnd fun t =>
      if t then (ev hd cl c ρ).bnd fun z => cmpOp o2 y z else Cm.ok (.bool false)
  | .list es, ρ => (evs hd cl es ρ).bnd fun ds => alloc (.list ds)
  | .tup es, ρ => (evs hd cl es ρ).bnd fun ds => Cm.ok (.tup ds)
  | .sub o i, ρ => (ev hd cl o ρ).bnd fun a => (ev hd cl i ρ).bnd fun b => subOp a b
  | .slice o lo hi, ρ => (ev hd cl o ρ).bnd fun a => (evo hd cl lo ρ).bnd fun l => (evo hd cl hi ρ).bnd fun h => sliceOp a l h
  | .callF f as, ρ => (evs hd cl as ρ).bnd fun ds => cl hd f ds
  | .callB f as, ρ => if hd && !f.plain then Cm.stuck else (evs hd cl as ρ).bnd fun ds => callBi f ds
  | .isinst e t, ρ => (ev hd cl e ρ).bnd fun d => fun σ => Cm.opt ((isInst σ d t).map .bool) σ
  | .meth o m as, ρ => (ev hd cl o ρ).bnd fun x => (askMk hd x m).bnd fun _ => (evs hd cl as ρ).bnd fun ds => methL x ds
  | .comp elt k it cond, ρ => (evi hd cl it ρ).bnd fun s =>
      (compGo (fun ρ => ev (it.isKeys || hd) cl elt ρ) (match cond with | none => none | some c => some fun ρ => ev (it.isKeys || hd) cl c ρ) k ρ s.st s.items []).bnd fun ds => alloc (.list ds)
noncomputable def evs (hd : Bool) (cl : Bool → Call) : List CE → Rho → Cm (List D)
  | [], _ => Cm.ok []
  | e :: r, ρ => (ev hd cl e ρ).bnd fun d => (evs hd cl r ρ).bnd fun ds => Cm.ok (d :: ds)
noncomputable def evo (hd : Bool) (cl : Bool → Call) : Option CE → Rho → Cm (Option D)
  | none, _ => Cm.ok none
  | some e, ρ => (ev hd cl e ρ).bnd fun d => Cm.ok (some d)
noncomputable def evAnd (hd : Bool) (cl : Bool → Call) : List CE → Rho → Cm D
  | [], _ => Cm.ok (.bool true)
  | e :: r, ρ => (asBool (ev hd cl e ρ)).bnd fun t => if t then evAnd hd cl r ρ else Cm.ok (.bool false)
noncomputable def evOr (hd : Bool) (cl : Bool → Call) : List CE → Rho → Cm D
  | [], _ => Cm.ok (.bool false)
  | e :: r, ρ => (asBool (ev hd cl e ρ)).bnd fun t => if t then Cm.ok (.bool true) else evOr hd cl r ρ
noncomputable def evi (hd : Bool) (cl : Bool → Call) : CI → Rho → Cm Src
  | .ev e, ρ => if hd then Cm.stuck else (ev hd cl e ρ).bnd fun d => fun σ => Cm.opt (itemsOf σ d) σ
  | .range e, ρ => if hd then Cm.stuck else (ev hd cl e ρ).bnd fun d => Cm.opt ((intOf d).bind fun n => if -(most : Int) ≤ n ∧ n ≤ most then some ⟨(List.range n.toNat).map fun (i : Nat) => D.int (i : Int), []⟩ else none)
  | .zip a b, ρ => if hd then Cm.stuck else (ev hd cl a ρ).bnd fun x => (ev hd cl b ρ).bnd fun y => fun σ => Cm.opt (zipOf σ x y) σ
end

noncomputable def setVars (ρ : Rho) : List Nat → List D → Option Rho
  | [], ds => if ds.isEmpty then some ρ else none
  | i :: is, ds => match ds with
    | [] => none
    | d :: ds => if i < ρ.length then setVars (ρ.set i (some d)) is ds else none

open Classical in
noncomputable def forGo (body : Rho → Cm Fl) (is : List Nat) (st : List (Nat × AObj)) : List D → Rho → Cm Fl
  | [], ρ => fun σ => if Stands σ st then .ok (.next ρ) σ else .stuck
  | d :: r, ρ => fun σ =>
    if Stands σ st then
      match (unpackT σ is.length d).bind (setVars ρ is) with
      | none => .stuck
      | some ρ' => (body ρ' σ).bind fun fl σ' => match fl with
        | .next ρ'' => forGo body is st r ρ'' σ'
        | fl => .ok fl σ'
    else .stuck

open Classical in
theorem forGo_nil {body : Rho → Cm Fl} {is : List Nat} {st : List (Nat × AObj)} {ρ : Rho} {σ : Sto} : forGo body is st [] ρ σ = if Stands σ st then .ok (.next ρ) σ else .stuck := rfl
open Classical in
theorem forGo_cons {body : Rho → Cm Fl} {is : List Nat} {st : List (Nat × AObj)} {d : D} {r : List D} {ρ : Rho} {σ : Sto} : forGo body is st (d :: r) ρ σ = if Stands σ st then (match (unpackT σ is.length d).bind (setVars ρ is) with
    | none => .stuck
    | some ρ' => (body ρ' σ).bind fun fl σ' => match fl with
      | .next ρ'' => forGo body is st r ρ'' σ'
      | fl => .ok fl σ') else .stuck := rfl
noncomputable def afterH (r : Res Fl) : Res Fl := r.bind fun fl σ => match fl with
  | .exc _ _ => .stuck
  | fl => .ok fl σ

mutual
noncomputable def ex (cl : Bool → Call) (hd : Bool) : CS → Rho → Cm Fl
  | .pass, ρ => Cm.ok (.next ρ)
  | .ret e, ρ => match e with
    | none => Cm.ok (.ret .none)
    | some e => (ev hd cl e ρ).stm ρ fun d => Cm.ok (.ret d)
  | .asg i e, ρ => (ev hd cl e ρ).stm ρ fun d => Cm.opt ((setVars ρ [i] [d]).map .next)
  | .expr e, ρ => (ev hd cl e ρ).stm ρ fun _ => Cm.ok (.next ρ)
  | .iff c t e, ρ => (asBool (ev hd cl c ρ)).stm ρ fun b => if b then exs cl hd t ρ else exs cl hd e ρ
  | .for is it body, ρ => (evi hd cl it ρ).stm ρ fun s => forGo (fun ρ => exs cl hd body ρ) is s.st s.items ρ
  | .raise c, ρ => if hd then Cm.stuck else Cm.ok (.exc c ρ)
  | .try ids body t h, ρ => if hd then Cm.stuck else fun σ => (exs cl hd body ρ σ).bind fun fl σ' => match fl with
    | .exc c ρ' => if ids.contains c && excSub c t then afterH (exs cl true h ρ' σ') else .stuck
    | fl => .ok fl σ'
noncomputable def exs (cl : Bool → Call) (hd : Bool) : List CS → Rho → Cm Fl
  | [], ρ => Cm.ok (.next ρ)
  | s :: r, ρ => (ex cl hd s ρ).bnd fun fl => match fl with
    | .next ρ' => exs cl hd r ρ'
    | fl => Cm.ok fl
end

noncomputable abbrev Prog := Nat → Option CFn
noncomputable def endCall : Res Fl → Res D
  | .ok fl σ => match fl with
    | .next _ => .ok .none σ
    | .ret d => .ok d σ
    | .exc c _ => .exc c σ
  | _ => .stuck
noncomputable def callN (P : Prog) : Nat → Bool → Call
  | 0, _, _, _ => Cm.stuck
  | n + 1, hd, f, as => match P f with
    | none => Cm.stuck
    | some fn => if as.length = fn.np ∧ fn.np ≤ fn.nv then fun σ => endCall (exs (callN P n) hd fn.body (as.map some ++ List.replicate (fn.nv - fn.np) none) σ)
      else Cm.stuck
theorem callN_succ {P : Prog} {n : Nat} {hd : Bool} {f : Nat} {as : List D} : callN P (n + 1) hd f as = match P f with
    | none => Cm.stuck
    | some fn => if as.length = fn.np ∧ fn.np ≤ fn.nv then fun σ => endCall (exs (callN P n) hd fn.body (as.map some ++ List.replicate (fn.nv - fn.np) none) σ)
      else Cm.stuck := rfl
end Mine

namespace Mine
open PySem

noncomputable def allNames : List Str := (["append", "extend", "index", "get", "pop", "join", "split", "replace", "__init__", "stock", "kept", "standing", "last", "ins", "outs", "fixed", "deeds", "_wall", "is_whole", "is_ware", "is_place", "is_many", "need_ware", "need_place", "need_many", "_law_whole", "_law_cell_at", "_law_ware_by", "_law_wares", "_law_places", "_law_is", "_law_holds", "law", "come", "go", "move", "hold", "let", "take", "shift", "counted", "wish", "put", "begun", "ended", "need_hold", "need_free", "there", "held", "free", "places", "whole", "came", "went", "righted", "total", "numbers", "holding", "book", "_law_gone", "_law_held_by", "_law_over", "_law_many_by", "_law_moved", "_law_shifted", "_law_due", "_law_put", "_law_lost", "_law_alike", "_law_count_by", "dealt", "_law_bad_ware", "_law_bad_number", "_law_done", "_law_told", "_law_floor", "_law_parts", "shown", "number_of", "ware_of", "place_of", "read", "_law_number_by", "_law_figures", "_law_entry_by", "_law_line_of", "_law_marks", "_law_good", "_law_bad", "_law_read", "_law_whole_parts", "_law_part", "_law_odd", "_law_free_by", "_law_rooms", "_law_pairs", "_law_ahead", "_law_chosen", "_law_do", "_law_scale", "_law_was_done", "_law_added", "_law_tried", "_law_covered", "_law_made", "_law_kept", "_law_free", "_law_changed", "_law_wished", "_law_counted", "_law_by_number", "_law_step", "_law_spoil", "done", "replayed", "fault", "_law_seen", "_law_strange", "_law_names", "_law_refused", "_law_done_alone", "_law_next", "_law_same_again", "_law_entered", "_law_more", "_law_let"] : List String).map Str.ofString
noncomputable def excNames : List Str := (["ValueError", "StockError", "BadWare", "BadPlace", "BadMany", "TooFew", "SamePlace", "NoHold", "NoEntry", "NoLine"] : List String).map Str.ofString

noncomputable def idIn (l : List Str) (x : Str) : Option Nat := l.findIdx? (· == x)
noncomputable def nameId (x : Str) : Option Nat := idIn allNames x
noncomputable def excId (x : Str) : Option Nat := idIn excNames x

structure CG where
  gc : List (Str × D)
  fns : List Str
  cls : List Str

structure CC where
  g : CG
  vars : List (Option Str)
  sc : Scope

noncomputable def lastIdx (x : Str) : List (Option Str) → Option Nat
  | [] => none
  | v :: r => match lastIdx x r with
    | some i => some (i + 1)
    | none => if v = some x then some 0 else none

noncomputable def nodupB : List Str → Bool
  | [] => true
  | x :: r => !r.contains x && nodupB r
theorem nodupB_nodup : ∀ {l : List Str}, nodupB l = true → l.Nodup
  | [], _ => List.nodup_nil
  | x :: r, h => by
    have h := Bool.and_eq_true_iff.mp (show (!r.contains x && nodupB r) = true from h)
    have hx : x ∉ r := fun q => by
      rw [List.contains_iff_mem.mpr q] at h
      exact Bool.false_ne_true h.1
    exact List.nodup_cons.mpr ⟨hx, nodupB_nodup h.2⟩

noncomputable def CC.kind (C : CC) (x : Str) : Option NameKind := C.sc.names.lookup x
noncomputable def CC.isGlob (C : CC) (x : Str) : Bool := C.kind x == some .globalImplicit && (lastIdx x C.vars).isNone

noncomputable def compScope (outer inner : Scope) : Scope :=
  { inner with names := inner.names.map fun (n, k) => if k == .free && outer.kind == .function && outer.names.lookup n == some .cell then (n, .cell) else (n, k) }
noncomputable def keepVar (sc : Scope) (v : Option Str) : Option Str :=
  match v with
  | some x => if sc.names.lookup x == some .cell || sc.names.lookup x == some .free then some x else none
  | none => none
noncomputable def compCC (C : CC) (scope : Scope) (ts : List Str) : CC := ⟨C.g, C.vars.map (keepVar (compScope C.sc scope)) ++ ts.map some, compScope C.sc scope⟩

noncomputable def cBop : Operator → Option Bop
  | .Add => some .add | .Sub => some .sub | .Mult => some .mul | .FloorDiv => some .fdiv | .Mod => some .mod | .Pow => some .pow
  | _ => none
noncomputable def cCop : CmpOp → Cop
  | .Eq => .eq | .NotEq => .ne | .Lt => .lt | .LtE => .le | .Gt => .gt | .GtE => .ge | .Is => .is | .IsNot => .isnot | .In => .mem | .NotIn => .nmem
noncomputable def cConst : Const → Option D
  | .none => some .none
  | .bool b => some (.bool b)
  | .int i => some (.int i)
  | .str s => if s.cps.all (· < 0x110000) && s.cps.size ≤ most then some (.str s.cps.toList) else none
  | _ => none
noncomputable def biOf (x : Str) : Option Bi := ([("len", Bi.len), ("sum", .sum), ("sorted", .sorted), ("min", .min), ("max", .max), ("int", .int), ("list", .list)] : List (Str × Bi)).lookup x
noncomputable def tyOf (x : Str) : Option Ty := ([("int", Ty.int), ("bool", .bool), ("tuple", .tuple), ("list", .list)] : List (Str × Ty)).lookup x
noncomputable def bareCall (e : PySem.Expr) : Bool := e.ctorIdx == 16
noncomputable def isStar (e : PySem.Expr) : Bool := e.ctorIdx == 22
noncomputable def isSlice (e : PySem.Expr) : Bool := e.ctorIdx == 26
noncomputable def isComp (e : PySem.Expr) : Bool := e.ctorIdx == 8 || e.ctorIdx == 9 || e.ctorIdx == 10

structure CRec where
  e : CC → PySem.Expr → Option CE
  es : CC → List PySem.Expr → Option (List CE)
  o : CC → Option PySem.Expr → Option (Option CE)
  i : CC → PySem.Expr → Option CI

noncomputable def cUn (rc : CRec) (C : CC) (op : PySem.UnaryOp) (x : PySem.Expr) : Option CE :=
  match op with
  | .Not => (rc.e C x).map .not
  | .USub => (rc.e C x).map .neg
  | _ => none
noncomputable def cBool (rc : CRec) (C : CC) (op : PySem.BoolOp) (vs : List PySem.Expr) : Option CE :=
  if vs.isEmpty then none else match op with
    | .And => (rc.es C vs).map .and
    | .Or => (rc.es C vs).map .or
noncomputable def cCompare (rc : CRec) (C : CC) (l : PySem.Expr) (ops : List CmpOp) (rs : List PySem.Expr) : Option CE :=
  match ops with
  | [] => none
  | o1 :: ops => match rs with
    | [] => none
    | a :: rs => match ops with
      | [] => if rs.isEmpty && !behindInMarks o1 a then (rc.e C l).bind fun l => (rc.e C a).map fun a => .cmp (cCop o1) l a else none
      | o2 :: ops => (match rs with
        | [] => none
        | b :: rs => if ops.isEmpty && rs.isEmpty && !behindInMarks o2 b then (rc.e C l).bind fun l => (rc.e C a).bind fun a => (rc.e C b).map fun b => .cmp2 (cCop o1) (cCop o2) l a b else none)
noncomputable def sliceOf : PySem.Expr → Option (Option PySem.Expr × Option PySem.Expr × Option PySem.Expr)
  | .Slice lo hi st _ => some (lo, hi, st)
  | _ => none
noncomputable def cSub (rc : CRec) (C : CC) (v s : PySem.Expr) : Option CE :=
  match sliceOf s with
  | some q => if q.2.2.isNone then (rc.e C v).bind fun v => (rc.o C q.1).bind fun lo => (rc.o C q.2.1).map fun hi => .slice v lo hi else none
  | none => (rc.e C v).bind fun v => (rc.e C s).map fun s => .sub v s
noncomputable def nameOf : PySem.Expr → Option Str
  | .Name x _ => some x
  | _ => none
noncomputable def attrOf : PySem.Expr → Option (PySem.Expr × Str × Pos)
  | .Attribute o m ap => some (o, m, ap)
  | _ => none
noncomputable def cIsi (rc : CRec) (C : CC) (args : List PySem.Expr) : Option CE :=
  match args with
  | [] => none
  | e :: r => match r with
    | [] => none
    | t :: r => if r.isEmpty then (nameOf t).bind fun t => if C.isGlob t then (rc.e C e).bind fun e => (tyOf t).map fun t => .isinst e t else none else none
noncomputable def cCallN (rc : CRec) (C : CC) (f : Str) (args : List PySem.Expr) : Option CE :=
  if !C.isGlob f || f == "__debug__" then none
  else if C.g.fns.contains f then (nameId f).bind fun i => (rc.es C args).map fun as => .callF i as
  else if f == "isinstance" then cIsi rc C args
  else (biOf f).bind fun b => (rc.es C args).map fun as => .callB b as
noncomputable def cCall (rc : CRec) (C : CC) (f : PySem.Expr) (args : List PySem.Expr) (p : Pos) : Option CE :=
  match nameOf f with
  | some f => cCallN rc C f args
  | none => (attrOf f).bind fun q => if bareCall q.1 || !(decide (args.length < 30)) || !(q.2.2.endLine == p.line) then none else (rc.e C q.1).bind fun o => (nameId q.2.1).bind fun m => if m == 0 then (rc.es C args).map fun as => .meth o m as else none
noncomputable def targetsOf : PySem.Expr → Option (List Str)
  | .Name x _ => some [x]
  | .Tuple es _ _ => if es.length == 1 then none else es.mapM nameOf
  | _ => none
noncomputable def cComp (rc : CRec) (C : CC) (elt target iter : PySem.Expr) (ifs : List PySem.Expr) (scope : Scope) : Option CE :=
  (targetsOf target).bind fun xs =>
  if scope.kind == .function && xs.all (fun x => scope.names.lookup x == some .local) && scope.names.all (fun p => p.2 != .cell) && scope.names.all (fun p => p.2 != .local || scope.names.lookup p.1 == some .local) &&
      scope.names.all (fun p => p.2 != .free || ((lastIdx p.1 C.vars).isSome && (C.kind p.1 == some .cell || C.kind p.1 == some .free))) && decide xs.Nodup then
    (rc.e (compCC C scope xs) elt).bind fun e => (rc.i C iter).bind fun i => if i.tup && xs.length == 1 then none else match ifs with
    | [] => some (.comp e xs.length i none)
    | c :: r => if r.isEmpty then (rc.e (compCC C scope xs) c).map fun c => .comp e xs.length i (some c) else none
  else none
noncomputable def cName (C : CC) (x : Str) : Option CE :=
  if x == "__debug__" || x == "__classdict__" then none else match lastIdx x C.vars with
    | some i => if C.kind x == some .local || C.kind x == some .cell || C.kind x == some .free then some (.loc i) else none
    | none => if C.kind x == some .globalImplicit then (C.g.gc.lookup x).map .gcon else none

noncomputable def cEstep (rc : CRec) (C : CC) (e : PySem.Expr) : Option CE :=
  match e with
  | .Constant c _ _ => (cConst c).map .lit
  | .Name x _ => cName C x
  | .BinOp l op r _ => (cBop op).bind fun o => (rc.e C l).bind fun l => (rc.e C r).map fun r => .bin o l r
  | .UnaryOp op x _ => cUn rc C op x
  | .BoolOp op vs _ => cBool rc C op vs
  | .Compare l ops rs _ => cCompare rc C l ops rs
  | .List es _ => if es.length ≤ 1000 then (rc.es C es).map .list else none
  | .Tuple es _ _ => if es.length ≤ 1000 then (rc.es C es).map .tup else none
  | .Subscript v s _ => cSub rc C v s
  | .Call f args kws p => if kws.isEmpty then cCall rc C f args p else none
  | .ListComp elt gens scope _ => match gens with
    | [] => none
    | g :: r => if r.isEmpty && g.is_async == 0 then cComp rc C elt g.target g.iter g.ifs scope else none
  | _ => none

noncomputable def cEsStep (rc : CRec) (C : CC) (es : List PySem.Expr) : Option (List CE) :=
  match es with
  | [] => some []
  | e :: t => if isStar e then none else (rc.e C e).bind fun e => (rc.es C t).map fun t => e :: t
noncomputable def cEoStep (rc : CRec) (C : CC) (e : Option PySem.Expr) : Option (Option CE) :=
  match e with
  | none => some none
  | some e => (rc.e C e).map some
noncomputable def callOf : PySem.Expr → Option (Str × List PySem.Expr)
  | .Call f args kws _ => if kws.isEmpty then (nameOf f).map fun x => (x, args) else none
  | _ => none
noncomputable def callOne (C : CC) (f : Str) (e : PySem.Expr) : Option PySem.Expr :=
  (callOf e).bind fun q => if q.1 == f && C.isGlob q.1 && !C.g.fns.contains q.1 then (match q.2 with
    | [] => none
    | a :: r => if r.isEmpty && !isStar a then some a else none) else none
noncomputable def callTwo (C : CC) (f : Str) (e : PySem.Expr) : Option (PySem.Expr × PySem.Expr) :=
  (callOf e).bind fun q => if q.1 == f && C.isGlob q.1 && !C.g.fns.contains q.1 then (match q.2 with
    | [] => none
    | a :: r => match r with
      | [] => none
      | b :: r => if r.isEmpty && !isStar a && !isStar b then some (a, b) else none) else none
noncomputable def cIz (rc : CRec) (C : CC) (e : PySem.Expr) : Option CI :=
  match callTwo C "zip" e with
  | some q => (rc.e C q.1).bind fun a => (rc.e C q.2).map fun b => .zip a b
  | none => (rc.e C e).map .ev
noncomputable def cIstep (rc : CRec) (C : CC) (e : PySem.Expr) : Option CI :=
  match callOne C "range" e with
  | some a => (rc.e C a).map .range
  | none => cIz rc C e

mutual
noncomputable def cE : Nat → CC → PySem.Expr → Option CE
  | 0, _, _ => none
  | n + 1, C, e => cEstep ⟨cE n, cEs n, cEo n, cI n⟩ C e
noncomputable def cEs : Nat → CC → List PySem.Expr → Option (List CE)
  | 0, _, _ => none
  | n + 1, C, es => cEsStep ⟨cE n, cEs n, cEo n, cI n⟩ C es
noncomputable def cEo : Nat → CC → Option PySem.Expr → Option (Option CE)
  | 0, _, _ => none
  | n + 1, C, e => cEoStep ⟨cE n, cEs n, cEo n, cI n⟩ C e
noncomputable def cI : Nat → CC → PySem.Expr → Option CI
  | 0, _, _ => none
  | n + 1, C, e => cIstep ⟨cE n, cEs n, cEo n, cI n⟩ C e
end

noncomputable def CC.own (C : CC) (x : Str) : Option Nat := if C.kind x == some .local || C.kind x == some .cell then lastIdx x C.vars else none

structure SRec where
  e : CC → PySem.Expr → Option CE
  i : CC → PySem.Expr → Option CI
  ss : CC → List Stmt → Option (List CS)

noncomputable def tupleOf : PySem.Expr → Option (List PySem.Expr)
  | .Tuple es _ _ => some es
  | _ => none
noncomputable def ownsT (C : CC) : List PySem.Expr → Option (List Nat)
  | [] => some []
  | e :: r => (nameOf e).bind fun x => (C.own x).bind fun i => (ownsT C r).map fun is => i :: is
noncomputable def manyOf (C : CC) (es : List PySem.Expr) : Option (List Nat) := if es.length = 1 then none else ownsT C es
noncomputable def tgtOf (C : CC) (t : PySem.Expr) : Option (List Nat) := match nameOf t with
  | some x => (C.own x).map fun i => [i]
  | none => (tupleOf t).bind fun es => manyOf C es
noncomputable def swapsB (C : CC) (scope : Scope) (y : Str) (p vp : Pos) : Bool := C.kind y == some .local && p.line == vp.line && !(scope.names.any fun q => q.1 == y && (q.2 == .local || q.2 == .cell))
noncomputable def nameAt : PySem.Expr → Option (Str × Pos)
  | .Name x p => some (x, p)
  | _ => none
noncomputable def compAt : PySem.Expr → Option (Scope × Pos)
  | .ListComp _ _ sc p => some (sc, p)
  | _ => none
noncomputable def swapsC (C : CC) (t v : PySem.Expr) : Bool := match nameAt t with
  | some q => (match compAt v with
    | some r => swapsB C r.1 q.1 q.2 r.2
    | none => false)
  | none => false
noncomputable def cAsg (rc : SRec) (C : CC) (ts : List PySem.Expr) (v : PySem.Expr) : Option CS :=
  match ts with
  | [] => none
  | t :: r => if r.isEmpty && (!isComp v || swapsC C t v) then (match nameOf t with
    | some x => (C.own x).bind fun i => (rc.e C v).map fun v => .asg i v
    | none => none) else none
noncomputable def cFor (rc : SRec) (C : CC) (t it : PySem.Expr) (b : List Stmt) : Option CS :=
  (tgtOf C t).bind fun is => (rc.i C it).bind fun it => if it.tup && is.length == 1 then none else (rc.ss C b).map fun b => .for is it b

noncomputable def constOf : PySem.Expr → Option D
  | .Constant c _ _ => cConst c
  | _ => none
noncomputable def constArg : List PySem.Expr → Bool
  | [] => false
  | e :: r => r.isEmpty && (constOf e).isSome
noncomputable def cRaise (C : CC) (e k : Option PySem.Expr) : Option CS :=
  match k with
  | some _ => none
  | none => e.bind fun e => (callOf e).bind fun q => if C.isGlob q.1 && q.1 != "__debug__" && C.g.cls.contains q.1 && constArg q.2 then (excId q.1).map .raise else none
noncomputable def handlerOf : ExceptHandler → Option (Str × Option Str × List Stmt)
  | .ExceptHandler t nm b _ => t.bind fun t => (nameOf t).map fun x => (x, nm, b)
noncomputable def cHandler (rc : SRec) (C : CC) (h : ExceptHandler) : Option (Nat × List CS) :=
  (handlerOf h).bind fun q => if C.isGlob q.1 && q.1 != "__debug__" && C.g.cls.contains q.1 && q.2.1.isNone && !q.2.2.isEmpty then
      (excId q.1).bind fun t => (rc.ss C q.2.2).map fun b => (t, b) else none
noncomputable def clsIds (g : CG) : List Nat := g.cls.filterMap excId
noncomputable def cTry (rc : SRec) (C : CC) (b : List Stmt) (hs : List ExceptHandler) : Option CS :=
  match hs with
  | [] => none
  | h :: r => if r.isEmpty then (rc.ss C b).bind fun b => (cHandler rc C h).map fun q => .try (clsIds C.g) b q.1 q.2 else none

noncomputable def cSstep (rc : SRec) (C : CC) (s : Stmt) : Option CS :=
  match s with
  | .Pass _ => some .pass
  | .Return v _ => (match v with
    | none => some (.ret none)
    | some e => (rc.e C e).map fun e => .ret (some e))
  | .Assign ts v _ => cAsg rc C ts v
  | .Expr v _ => if isComp v then none else (rc.e C v).map .expr
  | .If t b o _ => (rc.e C t).bind fun t => (rc.ss C b).bind fun b => (rc.ss C o).map fun o => .iff t b o
  | .For t it b o _ => if o.isEmpty then cFor rc C t it b else none
  | .Raise e k _ => cRaise C e k
  | .Try b hs o f _ => if o.isEmpty && f.isEmpty then cTry rc C b hs else none
  | _ => none

mutual
noncomputable def cS : Nat → CC → Stmt → Option CS
  | 0, _, _ => none
  | n + 1, C, s => cSstep ⟨cE n, cI n, cSs n⟩ C s
noncomputable def cSs : Nat → CC → List Stmt → Option (List CS)
  | 0, _, _ => none
  | n + 1, C, ss => match ss with
    | [] => some []
    | s :: t => (cS n C s).bind fun s => (cSs n C t).map fun t => s :: t
end

noncomputable def fuelC : Nat := 400
noncomputable def varsOf (params : List Str) (sc : Scope) : List Str :=
  params ++ (sc.names.filter fun p => (p.2 == .local || p.2 == .cell) && !params.contains p.1).map (·.1)
noncomputable def plainArgs (a : Arguments) : Option (List Str) :=
  if a.posonlyargs.isEmpty && a.vararg.isNone && a.kwonlyargs.isEmpty && a.kw_defaults.isEmpty && a.kwarg.isNone && a.defaults.isEmpty then some (a.args.map (·.arg)) else none
noncomputable def cFn (g : CG) (a : Arguments) (body : List Stmt) (sc : Scope) : Option CFn :=
  (plainArgs a).bind fun ps =>
  if sc.kind == .function && !sc.isGenerator && !sc.isCoroutine && ps.all (fun x => sc.names.lookup x == some .local || sc.names.lookup x == some .cell) && nodupB (varsOf ps sc) &&
      sc.names.all (fun p => p.2 != .free) then
    (cSs fuelC ⟨g, (varsOf ps sc).map some, sc⟩ body).map fun b => ⟨ps.length, (varsOf ps sc).length, b⟩
  else none
end Mine

namespace Mine
open PySem PySem.SeqAt
noncomputable abbrev tx (s : List Nat) : Str := ⟨s.toArray⟩
end Mine

namespace Mine
open PySem PyProof.Rows

noncomputable def cap : Nat := 1000000
noncomputable def sOk (s : List Nat) : Bool := s.all (· < 0x110000) && decide (s.length ≤ most)
noncomputable abbrev lstO (vs : List Value) (n : Nat) : Obj := { cls := .type "list", data := .seq vs.toArray n }
structure Gd where
  prog : Program
  w : World
  H : Heap
  mg : Str → Option Value
  mb : Str → Option Value
  ec : Nat → Value
  fc : Addr
  g : CG
  P : Prog
  gens : Shared
  pin : Option (Addr × Obj)
noncomputable def Gd.wp (G : Gd) (p : Option (Addr × Obj)) : Gd := { G with pin := p }
noncomputable abbrev Gd.M (G : Gd) : Model := model G.prog G.w

inductive Kl where
  | firm (o : Obj)
  | ns (m : Str → Option Value)
  | cell (v : Option Value)
  | own (o : Obj)
  | sto (i : Nat)
  | aux (i : Nat)
noncomputable abbrev Wd := Addr → Option Kl
noncomputable def Wd.put (W : Wd) (a : Addr) (k : Option Kl) : Wd := fun b => if b = a then k else W b
theorem put_self {W : Wd} {a : Addr} {k : Option Kl} : W.put a k a = k := if_pos rfl
theorem put_ne {W : Wd} {a b : Addr} {k : Option Kl} (h : b ≠ a) : W.put a k b = W b := if_neg h
noncomputable def Kl.nm : Kl → Bool
  | .ns _ => true
  | .cell _ => true
  | _ => false

noncomputable def Ext (W W' : Wd) : Prop := ∀ a k, W a = some k → W' a = some k
noncomputable def ExtB (X : Addr → Prop) (W W' : Wd) : Prop := ∀ a k, W a = some k → (k.nm = true → ¬ X a) → W' a = some k
theorem Ext.refl (W : Wd) : Ext W W := fun _ _ h => h
theorem Ext.trans {W₁ W₂ W₃ : Wd} (x : Ext W₁ W₂) (y : Ext W₂ W₃) : Ext W₁ W₃ := fun a k h => y a k (x a k h)
theorem Ext.b {X : Addr → Prop} {W W' : Wd} (x : Ext W W') : ExtB X W W' := fun a k h _ => x a k h
theorem ExtB.refl {X : Addr → Prop} (W : Wd) : ExtB X W W := fun _ _ h _ => h
theorem ExtB.trans {X : Addr → Prop} {W₁ W₂ W₃ : Wd} (x : ExtB X W₁ W₂) (y : ExtB X W₂ W₃) : ExtB X W₁ W₃ := fun a k h n => y a k (x a k h n) n
theorem Ext.put {W : Wd} {a : Addr} {k : Option Kl} (h : W a = none) : Ext W (W.put a k) := fun b k' e => by
  rw [put_ne (fun q => by rw [q, h] at e; cases e)]; exact e
theorem ExtB.put {X : Addr → Prop} {W : Wd} {a : Addr} {k k' : Kl} (h : W a = some k) (hk : k.nm = true) (hx : X a) : ExtB X W (W.put a (some k')) := fun b k₂ e n => by
  rw [put_ne (fun q => by subst q; rw [h] at e; cases e; exact n hk hx)]; exact e
theorem ExtB.fix {X : Addr → Prop} {W W' : Wd} (x : ExtB X W W') {a : Addr} {k : Kl} (h : W a = some k) (n : k.nm = false) : W' a = some k := x a k h (by rw [n]; intro q; cases q)
noncomputable def Kl.fx : Kl → Bool
  | .firm _ => true
  | .sto _ => true
  | .aux _ => true
  | _ => false
noncomputable def Fix (W W' : Wd) : Prop := ∀ a k, W a = some k → k.fx = true → W' a = some k
theorem ExtB.fx {X : Addr → Prop} {W W' : Wd} (x : ExtB X W W') : Fix W W' := fun a k h n => x a k h (by cases k <;> first | (intro q; cases q; done) | cases n)
theorem Fix.trans {W₁ W₂ W₃ : Wd} (x : Fix W₁ W₂) (y : Fix W₂ W₃) : Fix W₁ W₃ := fun a k h n => y a k (x a k h n) n
theorem Ext.fx {W W' : Wd} (x : Ext W W') : Fix W W' := fun a k h _ => x a k h
theorem Fix.put {W : Wd} {a : Addr} {k : Kl} {k' : Option Kl} (h : W a = some k) (n : k.fx = false) : Fix W (W.put a k') := fun b k₂ e n₂ => by
  rw [put_ne (fun q => by subst q; rw [h] at e; cases e; rw [n] at n₂; cases n₂)]; exact e

mutual
inductive Rel (G : Gd) (W : Wd) : D → Value → Prop
  | none : Rel G W .none .none
  | bool (b : Bool) : Rel G W (.bool b) (.bool b)
  | int (i : Int) (t : Tok) : Rel G W (.int i) (.int i t)
  | str {s : List Nat} (t : Tok) (ok : sOk s = true) : Rel G W (.str s) (.str (tx s) t)
  | tup {a : Addr} {o : Obj} {n : Nat} {ds : List D} {vs : List Value} (ho : W a = some (.firm o)) (hc : o.cls = .type "tuple") (hd : o.data = .seq vs.toArray n) (r : RelL G W ds vs) (sz : ds.length ≤ cap) : Rel G W (.tup ds) (.ref a)
  | ref {n : Nat} {a : Addr} (hb : W a = some (.sto n)) : Rel G W (.ref n) (.ref a)
inductive RelL (G : Gd) (W : Wd) : List D → List Value → Prop
  | nil : RelL G W [] []
  | cons {d : D} {v : Value} {ds : List D} {vs : List Value} (r : Rel G W d v) (rs : RelL G W ds vs) : RelL G W (d :: ds) (v :: vs)
end
theorem RelL.ind {G : Gd} {W : Wd} {m : List D → List Value → Prop} (nil : m [] []) (cons : ∀ {d : D} {v : Value} {ds : List D} {vs : List Value}, Rel G W d v → RelL G W ds vs → m ds vs → m (d :: ds) (v :: vs)) {ds : List D} {vs : List Value} (r : RelL G W ds vs) : m ds vs :=
  RelL.rec (motive_1 := fun _ _ _ => True) (motive_2 := fun ds vs _ => m ds vs) trivial (fun _ => trivial) (fun _ _ => trivial) (fun _ _ => trivial) (fun _ _ _ _ _ _ => trivial) (fun _ => trivial) nil (fun r rs _ ih => cons r rs ih) r
theorem Rel.mono {G : Gd} {W W' : Wd} (x : Fix W W') {d : D} {v : Value} (r : Rel G W d v) : Rel G W' d v :=
  Rel.rec (motive_1 := fun d v _ => Rel G W' d v) (motive_2 := fun ds vs _ => RelL G W' ds vs) .none .bool .int .str (fun ho hc hd _ sz ih => .tup (x _ _ ho rfl) hc hd ih sz) (fun hb => .ref (x _ _ hb rfl)) .nil (fun _ _ h1 h2 => .cons h1 h2) r
theorem RelL.mono {G : Gd} {W W' : Wd} (x : Fix W W') {ds : List D} {vs : List Value} (r : RelL G W ds vs) : RelL G W' ds vs := r.ind .nil fun r _ ih => .cons (r.mono x) ih
noncomputable abbrev no : Addr → Prop := fun _ => False
theorem Rel.int_inv {G : Gd} {W : Wd} {d : D} {v : Value} {i : Int} (r : Rel G W d v) (h : intOf d = some i) : ∃ t, d = .int i ∧ v = .int i t := by
  cases r with
  | int i t => cases h; exact ⟨t, rfl, rfl⟩
  | _ => cases h
theorem Rel.bool_inv {G : Gd} {W : Wd} {d : D} {v : Value} {b : Bool} (r : Rel G W d v) (h : boolOf d = some b) : d = .bool b ∧ v = .bool b := by
  cases r with
  | bool b => cases h; exact ⟨rfl, rfl⟩
  | _ => cases h
theorem RelL.length {G : Gd} {W : Wd} {ds : List D} {vs : List Value} (r : RelL G W ds vs) : ds.length = vs.length := r.ind (m := fun ds vs => ds.length = vs.length) rfl fun _ _ ih => congrArg (· + 1) ih
theorem RelL.append {G : Gd} {W : Wd} {ds es : List D} {vs ws : List Value} (r : RelL G W ds vs) (y : RelL G W es ws) : RelL G W (ds ++ es) (vs ++ ws) := r.ind (m := fun ds vs => RelL G W (ds ++ es) (vs ++ ws)) y fun r _ ih => .cons r ih
theorem RelL.get {G : Gd} {W : Wd} {ds : List D} {vs : List Value} (r : RelL G W ds vs) {i : Nat} {d : D} (h : ds[i]? = some d) : ∃ v, vs[i]? = some v ∧ Rel G W d v :=
  r.ind (m := fun ds vs => ∀ i : Nat, ds[i]? = some d → ∃ v, vs[i]? = some v ∧ Rel G W d v) (fun i e => by rw [List.getElem?_nil] at e; cases e) (fun r _ ih i e => by
    cases i with
    | zero => cases e; exact ⟨_, rfl, r⟩
    | succ i => exact ih i e) i h
theorem RelL.set {G : Gd} {W : Wd} {d : D} {v : Value} (r : Rel G W d v) {ds : List D} {vs : List Value} {k : Nat} (rs : RelL G W ds vs) : RelL G W (ds.set k d) (vs.set k v) :=
  rs.ind (m := fun ds vs => ∀ k, RelL G W (ds.set k d) (vs.set k v)) (fun _ => .nil) (fun r' rs ih k => by
    cases k with
    | zero => exact .cons r rs
    | succ k => exact .cons r' (ih k)) k
theorem RelL.drop {G : Gd} {W : Wd} (k : Nat) {ds : List D} {vs : List Value} (rs : RelL G W ds vs) : RelL G W (ds.drop k) (vs.drop k) :=
  rs.ind (m := fun ds vs => ∀ k, RelL G W (ds.drop k) (vs.drop k)) (fun k => by rw [List.drop_nil, List.drop_nil]; exact .nil) (fun r rs ih k => by
    cases k with
    | zero => exact .cons r rs
    | succ k => exact ih k) k
theorem RelL.take {G : Gd} {W : Wd} (k : Nat) {ds : List D} {vs : List Value} (rs : RelL G W ds vs) : RelL G W (ds.take k) (vs.take k) :=
  rs.ind (m := fun ds vs => ∀ k, RelL G W (ds.take k) (vs.take k)) (fun k => by rw [List.take_nil, List.take_nil]; exact .nil) (fun r rs ih k => by
    cases k with
    | zero => exact .nil
    | succ k => exact .cons r (ih k)) k

inductive CObj (G : Gd) (W : Wd) (h : Heap) (i : Nat) : AObj → Addr → Prop
  | list {a : Addr} {o : Obj} {vs : List Value} {n : Nat} {ds : List D} (ho : h.get? a = some o) (hc : o.cls = .type "list") (hd : o.data = .seq vs.toArray n) (r : RelL G W ds vs) (new : G.H.get? a = none) (sz : ds.length ≤ cap) (dn : o.dict = none) : CObj G W h i (.list ds) a
  | froz {a : Addr} {o : Obj} {vs : List Value} {n : Nat} {ds : List D} (ho : G.H.get? a = some o) (hc : o.cls = .type "list") (hd : o.data = .seq vs.toArray n) (r : RelL G W ds vs) (sz : ds.length ≤ cap) : CObj G W h i (.froz ds) a
theorem CObj.mono {G : Gd} {W W' : Wd} {h h' : Heap} {i : Nat} {ob : AObj} {a : Addr} (x : Fix W W') (ka : ∀ o, h.get? a = some o → h'.get? a = some o) (_ : ∀ d o, W d = some (.aux i) → h.get? d = some o → h'.get? d = some o) (c : CObj G W h i ob a) : CObj G W' h' i ob a := by
  cases c with
  | list ho hc hd r new sz dn => exact .list (ka _ ho) hc hd (r.mono x) new sz dn
  | froz ho hc hd r sz => exact .froz ho hc hd (r.mono x) sz

inductive KOk (G : Gd) (W : Wd) (σ : Sto) (h : Heap) (a : Addr) : Kl → Prop
  | firm {o : Obj} (ho : h.get? a = some o) : KOk G W σ h a (.firm o)
  | ns {m : Str → Option Value} (ho : h.Ns a m) (new : G.H.get? a = none) : KOk G W σ h a (.ns m)
  | cell {v : Option Value} (ho : h.IsCell a v) (new : G.H.get? a = none) : KOk G W σ h a (.cell v)
  | own {o : Obj} (ho : h.get? a = some o) (new : G.H.get? a = none) : KOk G W σ h a (.own o)
  | sto {i : Nat} {ob : AObj} {o : Obj} (ho : h.get? a = some o) (hs : σ[i]? = some ob) (c : CObj G W h i ob a) : KOk G W σ h a (.sto i)
  | aux {i : Nat} {o : Obj} (ho : h.get? a = some o) (new : G.H.get? a = none) : KOk G W σ h a (.aux i)

structure Inv (G : Gd) (W : Wd) (σ : Sto) (s : Shared) : Prop where
  keep : ∀ b o, G.H.get? b = some o → s.heap.get? b = some o
  pl : ∀ a k, W a = some k → KOk G W σ s.heap a k
  inj : ∀ a b i, W a = some (.sto i) → W b = some (.sto i) → a = b
  full : ∀ i, i < σ.length → ∃ a, W a = some (.sto i)
  gens : s.gens = G.gens.gens
  os : s.os = G.gens.os
  pin : ∀ b o, G.pin = some (b, o) → s.heap.get? b = some o ∧ ∃ n, W b = some (.sto n)

section
variable {G : Gd} {W : Wd} {σ : Sto} {s : Shared}
theorem KOk.ex {h : Heap} {a : Addr} {k : Kl} (x : KOk G W σ h a k) : ∃ o, h.get? a = some o := by
  cases x with
  | firm ho => exact ⟨_, ho⟩
  | ns ho _ => obtain ⟨o, _, _, ho, _⟩ := ho; exact ⟨o, ho⟩
  | cell ho _ => obtain ⟨o, ho, _⟩ := ho; exact ⟨o, ho⟩
  | own ho _ => exact ⟨_, ho⟩
  | sto ho _ _ => exact ⟨_, ho⟩
  | aux ho _ => exact ⟨_, ho⟩
theorem Inv.lt (I : Inv G W σ s) {a : Addr} {k : Kl} (h : W a = some k) : a < s.heap.objs.size := by
  obtain ⟨o, ho⟩ := (I.pl a k h).ex
  exact Heap.lt_size ho
theorem Inv.nobody (I : Inv G W σ s) {a : Addr} (h : s.heap.get? a = none) : W a = none := by
  cases e : W a with
  | none => rfl
  | some k =>
    obtain ⟨o, ho⟩ := (I.pl a k e).ex
    rw [h] at ho; cases ho
theorem Inv.fresh (I : Inv G W σ s) : W s.heap.objs.size = none := I.nobody (Heap.get?_none_of_le (Nat.le_refl _))
theorem Inv.hnone (I : Inv G W σ s) {a : Addr} (h : s.heap.get? a = none) : G.H.get? a = none := by
  cases e : G.H.get? a with
  | none => rfl
  | some o => have := I.keep a o e; rw [h] at this; cases this
theorem Inv.hfresh (I : Inv G W σ s) : G.H.get? s.heap.objs.size = none := I.hnone (Heap.get?_none_of_le (Nat.le_refl _))

theorem KOk.mono {W' : Wd} {σ' : Sto} {h h' : Heap} {a : Addr} {k : Kl} (x : Fix W W') (ka : ∀ o, h.get? a = some o → h'.get? a = some o) (kd : ∀ i, k = .sto i → ∀ d o, W d = some (.aux i) → h.get? d = some o → h'.get? d = some o)
    (hσ : ∀ i ob, k = .sto i → σ[i]? = some ob → σ'[i]? = some ob) (q : KOk G W σ h a k) : KOk G W' σ' h' a k := by
  cases q with
  | firm ho => exact .firm (ka _ ho)
  | ns ho new => exact .ns (by obtain ⟨o, es, ep, ho, r⟩ := ho; exact ⟨o, es, ep, ka _ ho, r⟩) new
  | cell ho new => exact .cell (by obtain ⟨o, ho, r⟩ := ho; exact ⟨o, ka _ ho, r⟩) new
  | own ho new => exact .own (ka _ ho) new
  | @sto i _ _ ho hs c => exact .sto (ka _ ho) (hσ _ _ rfl hs) (c.mono x ka (kd i rfl))
  | aux ho new => exact .aux (ka _ ho) new

theorem Inv.grow {s' : Shared} (I : Inv G W σ s) (k : ∀ b o, s.heap.get? b = some o → s'.heap.get? b = some o) (hg : s'.gens = s.gens) (ho : s'.os = s.os) : Inv G W σ s' :=
  ⟨fun b o e => k b o (I.keep b o e), fun a kl e => (I.pl a kl e).mono (Ext.refl W).fx (fun o => k a o) (fun _ _ d o _ => k d o) fun _ _ _ h => h, I.inj, I.full, hg.trans I.gens, ho.trans I.os, fun b o e => ⟨k b o (I.pin b o e).1, (I.pin b o e).2⟩⟩
theorem Inv.claim (I : Inv G W σ s) {a : Addr} {k : Kl} (hn : W a = none) (hk : ∀ i, k ≠ .sto i) (q : KOk G (W.put a (some k)) σ s.heap a k) : Inv G (W.put a (some k)) σ s := by
  refine ⟨I.keep, fun b kl e => ?_, fun b c i e1 e2 => ?_, fun i hi => ?_, I.gens, I.os, fun b o e => ⟨(I.pin b o e).1, let ⟨n, h⟩ := (I.pin b o e).2; ⟨n, Ext.put hn _ _ h⟩⟩⟩
  · by_cases hb : b = a
    · subst hb; rw [put_self] at e; cases e; exact q
    · rw [put_ne hb] at e
      exact (I.pl b kl e).mono (Ext.put hn).fx (fun o h => h) (fun _ _ d o _ h => h) fun _ _ _ h => h
  · have nb : ∀ x, W.put a (some k) x = some (.sto i) → W x = some (.sto i) := fun x e => by
      by_cases hx : x = a
      · subst hx; rw [put_self] at e; cases e; exact absurd rfl (hk i)
      · rwa [put_ne hx] at e
    exact I.inj b c i (nb b e1) (nb c e2)
  · obtain ⟨b, hb⟩ := I.full i hi
    exact ⟨b, Ext.put hn b _ hb⟩
theorem Inv.push (I : Inv G W σ s) {a : Addr} {ob : AObj} {o : Obj} (hn : W a = none) (ho : s.heap.get? a = some o) (co : CObj G (W.put a (some (.sto σ.length))) s.heap σ.length ob a) : Inv G (W.put a (some (.sto σ.length))) (σ ++ [ob]) s := by
  have lt : ∀ b i, W b = some (.sto i) → i < σ.length := fun b i e => by
    cases I.pl b _ e with
    | sto _ hs _ => exact (List.getElem?_eq_some_iff.mp hs).1
  have hσ : ∀ {i : Nat} {ob' : AObj}, σ[i]? = some ob' → (σ ++ [ob])[i]? = some ob' := fun h => by rw [List.getElem?_append_left (List.getElem?_eq_some_iff.mp h).1]; exact h
  refine ⟨I.keep, fun b kl e => ?_, fun b c i e1 e2 => ?_, fun i hi => ?_, I.gens, I.os, fun b o e => ⟨(I.pin b o e).1, let ⟨n, h⟩ := (I.pin b o e).2; ⟨n, Ext.put hn _ _ h⟩⟩⟩
  · by_cases hb : b = a
    · subst hb; rw [put_self] at e; cases e; exact .sto ho (List.getElem?_concat_length) co
    · rw [put_ne hb] at e
      exact (I.pl b kl e).mono (Ext.put hn).fx (fun o h => h) (fun _ _ d o _ h => h) fun _ _ _ h => hσ h
  · by_cases hb : b = a
    · by_cases hc : c = a
      · rw [hb, hc]
      · subst hb; rw [put_self] at e1; rw [put_ne hc] at e2; cases e1
        exact absurd (lt c _ e2) (Nat.lt_irrefl _)
    · rw [put_ne hb] at e1
      by_cases hc : c = a
      · subst hc; rw [put_self] at e2; cases e2
        exact absurd (lt b _ e1) (Nat.lt_irrefl _)
      · rw [put_ne hc] at e2; exact I.inj b c i e1 e2
  · rcases Nat.lt_or_ge i σ.length with h | h
    · obtain ⟨b, hb⟩ := I.full i h
      exact ⟨b, Ext.put hn b _ hb⟩
    · have : i = σ.length := by rw [List.length_append] at hi; exact Nat.le_antisymm (Nat.lt_succ_iff.mp hi) h
      subst this; exact ⟨a, put_self⟩
theorem Inv.write {s' : Shared} (I : Inv G W σ s) {a : Addr} {k : Kl} {k' : Option Kl} (hw : W a = some k) (hk : k.fx = false) (hk' : ∀ x, k' = some x → (∀ i, x ≠ .sto i) ∧ KOk G (W.put a k') σ s'.heap a x)
    (hs : ∀ b o, b ≠ a → s.heap.get? b = some o → s'.heap.get? b = some o) (hg : s'.gens = s.gens) (ho : s'.os = s.os) : Inv G (W.put a k') σ s' := by
  have new : G.H.get? a = none := by
    cases I.pl a k hw with
    | ns _ new => exact new
    | cell _ new => exact new
    | own _ new => exact new
    | _ => cases hk
  have fx : Fix W (W.put a k') := Fix.put hw hk
  have nf : ∀ {b : Addr} {kl : Kl}, W b = some kl → kl.fx = true → b ≠ a := fun e h1 q => by
    subst q; rw [hw] at e; cases e; rw [hk] at h1; cases h1
  refine ⟨fun b o e => hs b o (fun q => by rw [q, new] at e; cases e) (I.keep b o e), fun b kl e => ?_, fun b c i e1 e2 => ?_, fun i hi => ?_, hg.trans I.gens, ho.trans I.os, fun b o e => let ⟨h1, n, h⟩ := I.pin b o e; ⟨hs b o (nf h rfl) h1, n, fx _ _ h rfl⟩⟩
  · by_cases hb : b = a
    · subst hb; rw [put_self] at e; exact (hk' _ e).2
    · rw [put_ne hb] at e
      refine (I.pl b kl e).mono fx (fun o h => hs b o hb h) (fun i hi d o hd h => hs d o (nf hd rfl) h) fun _ _ _ h => h
  · have nb : ∀ x, W.put a k' x = some (.sto i) → W x = some (.sto i) := fun x e => by
      by_cases hx : x = a
      · subst hx; rw [put_self] at e; exact absurd rfl ((hk' _ e).1 i)
      · rwa [put_ne hx] at e
    exact I.inj b c i (nb b e1) (nb c e2)
  · obtain ⟨b, hb⟩ := I.full i hi
    exact ⟨b, fx _ _ hb rfl⟩
theorem Inv.turn {s' : Shared} (I : Inv G W σ s) (np : G.pin = none) {a : Addr} {i : Nat} {ob : AObj} {o' : Obj} (hw : W a = some (.sto i)) (new : G.H.get? a = none) (hs : ∀ b o, b ≠ a → W b ≠ some (.aux i) → s.heap.get? b = some o → s'.heap.get? b = some o)
    (hx : ∀ b o, W b = some (.aux i) → s.heap.get? b = some o → ∃ o', s'.heap.get? b = some o') (ho : s'.heap.get? a = some o') (c : CObj G W s'.heap i ob a) (hg : s'.gens = s.gens) (hos : s'.os = s.os) : Inv G W (σ.set i ob) s' := by
  have hi : i < σ.length := by
    cases I.pl a _ hw with
    | sto _ hs _ => exact (List.getElem?_eq_some_iff.mp hs).1
  refine ⟨fun b o e => hs b o (fun q => by rw [q, new] at e; cases e) (fun q => ?_) (I.keep b o e), fun b kl e => ?_, I.inj, fun j hj => I.full j (by rwa [List.length_set] at hj), hg.trans I.gens, hos.trans I.os, fun b o e => by rw [np] at e; cases e⟩
  · cases I.pl b _ q with
    | aux _ new => rw [new] at e; cases e
  · by_cases hb : b = a
    · subst hb; rw [hw] at e; cases e
      exact .sto ho (List.getElem?_set_self hi) c
    · by_cases hk : kl = .aux i
      · subst hk
        cases I.pl b _ e with
        | aux ho new => obtain ⟨o', h'⟩ := hx b _ e ho; exact .aux h' new
      · have hna : W b ≠ some (.aux i) := fun q => hk (by rw [e] at q; injection q)
        refine (I.pl b kl e).mono (Ext.refl W).fx (fun o h => hs b o hb hna h) (fun j hj d o hd h => ?_) fun j ob' hj h => ?_
        · subst hj
          refine hs d o (fun q => by rw [q, hw] at hd; cases hd) (fun q => ?_) h
          rw [hd] at q; injection q with q; injection q with q
          subst q; exact hb (I.inj _ _ _ e hw)
        · subst hj
          rw [List.getElem?_set_ne (fun q => hb (by subst q; exact I.inj _ _ _ e hw))]; exact h
theorem Inv.look (I : Inv G W σ s) {n : Nat} {a : Addr} {ob : AObj} (hw : W a = some (.sto n)) (e : σ[n]? = some ob) : CObj G W s.heap n ob a := by
  cases I.pl a _ hw with
  | sto _ hs c => rw [e] at hs; cases hs; exact c
end
section
variable {G : Gd} {W : Wd} {p : Option (Addr × Obj)}
mutual
theorem Rel.wp : ∀ {d : D} {v : Value}, Rel G W d v → Rel (G.wp p) W d v
  | _, _, .none => .none
  | _, _, .bool b => .bool b
  | _, _, .int i t => .int i t
  | _, _, .str t ok => .str t ok
  | _, _, .tup ho hc hd r sz => .tup ho hc hd (RelL.wp r) sz
  | _, _, .ref hb => .ref hb
theorem RelL.wp : ∀ {ds : List D} {vs : List Value}, RelL G W ds vs → RelL (G.wp p) W ds vs
  | _, _, .nil => .nil
  | _, _, .cons r rs => .cons (Rel.wp r) (RelL.wp rs)
end
theorem KOk.wp {σ : Sto} {h : Heap} {a : Addr} {k : Kl} (q : KOk G W σ h a k) : KOk (G.wp p) W σ h a k := by
  cases q with
  | firm ho => exact .firm ho
  | ns ho new => exact .ns ho new
  | cell ho new => exact .cell ho new
  | own ho new => exact .own ho new
  | sto ho hs c =>
    refine .sto ho hs ?_
    cases c with
    | list ho hc hd r new sz dn => exact .list ho hc hd r.wp new sz dn
    | froz ho hc hd r sz => exact .froz ho hc hd r.wp sz
  | aux ho new => exact .aux ho new
theorem Inv.wp {σ : Sto} {s : Shared} (I : Inv G W σ s) (hp : ∀ b o, p = some (b, o) → s.heap.get? b = some o ∧ ∃ n, W b = some (.sto n)) : Inv (G.wp p) W σ s :=
  ⟨I.keep, fun a k h => (I.pl a k h).wp, I.inj, I.full, I.gens, I.os, hp⟩
end
end Mine

namespace Mine
open PySem PyProof.Rows

structure Ky where
  n : Nat
  C : CC
structure Fx where
  k : Ky
  hd : Bool
  A : Around
  env : Env
  envs : List Env

structure En (G : Gd) (x : Fx) (W : Wd) (ρ : Rho) : Prop where
  kind : x.env.scope.kind = .function
  glob : x.env.globals = mainGlobals
  blt : x.env.builtins = builtinsNs
  ns : ∃ m, W x.env.locals = some (.ns m) ∧ ∀ (i : Nat) (y : Str) (d : D), x.k.C.vars[i]? = some (some y) → x.env.kindOf y = some .local → ρ[i]? = some (some d) → ∃ v, m y = some v ∧ Rel G W d v
  cells : ∀ (i : Nat) (y : Str), x.k.C.vars[i]? = some (some y) → (x.env.kindOf y = some .cell ∨ x.env.kindOf y = some .free) →
    ∃ c ov, x.env.cells.lookup y = some c ∧ W c = some (.cell ov) ∧ ∀ d, ρ[i]? = some (some d) → ∃ v, ov = some v ∧ Rel G W d v
  apart : ∀ y z c, x.env.cells.lookup y = some c → x.env.cells.lookup z = some c → y = z
  len : ρ.length = x.k.C.vars.length
  fr : x.A.frames = some x.envs
  hf : ∃ e0 rest, x.envs = e0 :: rest ∧ e0.frame = x.env.frame
  frs : ∀ e ∈ x.envs, e.scope.kind ≠ .module ∧ ∃ L m, e.frame = some L ∧ W L = some (.ns m)
  depth : x.A.depth + 4 * (x.k.n + 1) < recursionLimit
  units : x.A.units + 100 * (x.k.n + 1) < cLine
  handled : x.hd = false → x.A.handled = none ∧ G.pin = none
  sc : x.env.scope = x.k.C.sc
  gg : x.k.C.g = G.g

section
variable {G : Gd} {x : Fx} {W W' : Wd} {ρ : Rho}
theorem En.ext (E : En G x W ρ) (h : Ext W W') : En G x W' ρ := by
  obtain ⟨m, hm, hv⟩ := E.ns
  refine ⟨E.kind, E.glob, E.blt, ⟨m, h _ _ hm, fun i y d h1 h2 h3 => ?_⟩, fun i y h1 h2 => ?_, E.apart, E.len, E.fr, E.hf, fun e he => ?_, E.depth, E.units, E.handled, E.sc, E.gg⟩
  · obtain ⟨v, h4, h5⟩ := hv i y d h1 h2 h3
    exact ⟨v, h4, h5.mono h.fx⟩
  · obtain ⟨c, ov, h4, h5, h6⟩ := E.cells i y h1 h2
    refine ⟨c, ov, h4, h _ _ h5, fun d h7 => ?_⟩
    obtain ⟨v, h8, h9⟩ := h6 d h7
    exact ⟨v, h8, h9.mono h.fx⟩
  · obtain ⟨h1, L, m, h2, h3⟩ := E.frs e he
    exact ⟨h1, L, m, h2, h _ _ h3⟩
theorem En.room (E : En G x W ρ) {k : Nat} (hk : k ≤ 50) : x.A.units + 1 + k < cLine := by
  have := E.units
  omega
theorem En.kindOf (E : En G x W ρ) {y : Str} {k : NameKind} (h : x.k.C.kind y = some k) : x.env.kindOf y = some k := by
  show x.env.scope.names.lookup y = some k
  rw [E.sc]; exact h
end

structure BaseOf (G : Gd) (W : Wd) (base h : Heap) : Prop where
  keep : ∀ b o, G.H.get? b = some o → base.get? b = some o
  at' : ∀ a k o, W a = some k → (∀ m, k ≠ .ns m) → h.get? a = some o → base.get? a = some o

inductive Post (G : Gd) (W : Wd) {α δ : Type} (R : Wd → δ → α → Prop) (r : Res δ) (v : α) (s' : Shared) : Prop
  | mk (d : δ) (σ' : Sto) (W' : Wd) (h1 : r = .ok d σ') (h2 : Ext W W') (h3 : Inv G W' σ' s') (h4 : R W' d v) : Post G W R r v s'
inductive PostX (G : Gd) (W : Wd) (envs : List Env) {δ : Type} (r : Res δ) (v : Value) (s' : Shared) : Prop
  | mk (c : Nat) (σ' : Sto) (W' : Wd) (e : Addr) (base : Heap) (a0 : Value) (h1 : r = .exc c σ') (hv : v = .ref e) (h2 : Ext W W') (h3 : Inv G W' σ' s') (hb : BaseOf G W' base s'.heap) (hf : Heap.FlyingW base envs e (G.ec c) a0 s'.heap) : PostX G W envs r v s'

noncomputable def Sim (G : Gd) (x : Fx) (W : Wd) {α δ : Type} (R : Wd → δ → α → Prop) (m : Sem α) (r : Cm δ) : Prop :=
  ∀ W' σ s, Ext W W' → Inv G W' σ s → r σ ≠ .stuck → wpAny G.M x.A m (Post G W' R (r σ)) (PostX G W' x.envs (r σ)) s

section
variable {G : Gd} {x : Fx} {W W₁ : Wd} {α γ δ ε : Type} {R : Wd → δ → α → Prop} {R' : Wd → ε → γ → Prop} {s' : Shared}
theorem Post.after {r : Res δ} {v : α} (h : Ext W W₁) (p : Post G W₁ R r v s') : Post G W R r v s' :=
  let ⟨d, σ', W', h1, h2, h3, h4⟩ := p; ⟨d, σ', W', h1, h.trans h2, h3, h4⟩
theorem PostX.after {envs : List Env} {r : Res δ} {v : Value} (h : Ext W W₁) (p : PostX G W₁ envs r v s') : PostX G W envs r v s' :=
  let ⟨c, σ', W', e, base, a0, h1, hv, h2, h3, hb, hf⟩ := p; ⟨c, σ', W', e, base, a0, h1, hv, h.trans h2, h3, hb, hf⟩
theorem PostX.cast {envs : List Env} {r : Res δ} {r' : Res ε} {v : Value} (h : ∀ c σ, r = .exc c σ → r' = .exc c σ) (p : PostX G W envs r v s') : PostX G W envs r' v s' :=
  let ⟨c, σ', W', e, base, a0, h1, hv, h2, h3, hb, hf⟩ := p; ⟨c, σ', W', e, base, a0, h _ _ h1, hv, h2, h3, hb, hf⟩
theorem bind_ne {r : Res δ} {k : δ → Sto → Res ε} (h : r.bind k ≠ .stuck) : r ≠ .stuck := fun q => h (by rw [q]; rfl)
theorem Sim.bnd {m : Sem α} {f : α → Sem γ} {r : Cm δ} {k : δ → Cm ε} (h : Sim G x W R m r) (hk : ∀ d v W₁, Ext W W₁ → R W₁ d v → Sim G x W₁ R' (f v) (k d)) : Sim G x W R' (m >>= f) (r.bnd k) := fun W' σ s e I hr => by
  refine wpAny_bind (wpAny_mono (h W' σ s e I (bind_ne hr)) (fun v s₁ p => ?_) fun v s₁ p => p.cast fun c σ q => ?_)
  · obtain ⟨d, σ₁, W₁, h1, h2, h3, h4⟩ := p
    have e1 : r.bnd k σ = k d σ₁ := by rw [Cm.bnd_ap, h1]; rfl
    rw [e1] at hr ⊢
    exact wpAny_mono (hk d v W₁ (e.trans h2) h4 W₁ σ₁ s₁ (Ext.refl _) h3 hr) (fun _ _ p => p.after h2) fun _ _ p => p.after h2
  · rw [Cm.bnd_ap, q]; rfl
theorem Sim.ext {m : Sem α} {r : Cm δ} (h : Sim G x W R m r) (e : Ext W W₁) : Sim G x W₁ R m r := fun W' σ s e' => h W' σ s (e.trans e')
theorem Sim.imp {m m' : Sem α} {r : Cm δ} (h : Sim G x W R m r) (e : ∀ s Q E, wpAny G.M x.A m Q E s → wpAny G.M x.A m' Q E s) : Sim G x W R m' r := fun W' σ s e' I hr => e s _ _ (h W' σ s e' I hr)
theorem Sim.of_eq {m : Sem α} {r r' : Cm δ} (h : Sim G x W R m r) (e : ∀ σ, r' σ = r σ) : Sim G x W R m r' := (funext e : r' = r) ▸ h
theorem Sim.stuck {m : Sem α} : Sim G x W R m Cm.stuck := fun _ _ _ _ _ h => absurd rfl h
theorem Sim.ite {m : Sem α} {c : Prop} [Decidable c] {r r' : Cm δ} (h1 : c → Sim G x W R m r) (h2 : ¬ c → Sim G x W R m r') : Sim G x W R m (if c then r else r') := by
  split
  · exact h1 ‹_›
  · exact h2 ‹_›
theorem Sim.opt {m : Sem α} {o : Option δ} (h : ∀ d, o = some d → Sim G x W R m (Cm.ok d)) : Sim G x W R m (Cm.opt o) := by
  cases o with
  | none => exact Sim.stuck
  | some d => exact h d rfl
theorem Sim.leaf {m : Sem α} {r : Cm δ} (h : ∀ W' σ s, Ext W W' → Inv G W' σ s → r σ ≠ .stuck → ∃ d, r σ = .ok d σ ∧ ∀ Q : α → Shared → Prop, (∀ v tk, R W' d v → Q v { s with toks := tk }) → wpAny G.M x.A m Q (fun _ _ => False) s) : Sim G x W R m r := fun W' σ s e I hr => by
  obtain ⟨d, h1, h2⟩ := h W' σ s e I hr
  exact wpAny_mono (h2 _ fun v tk q => ⟨d, σ, W', h1, Ext.refl _, I.grow (fun _ _ e => e) rfl rfl, q⟩) (fun _ _ p => p) fun _ _ f => f.elim
theorem Sim.val {m : Sem α} {d : δ} (h : ∀ W' σ s, Ext W W' → Inv G W' σ s → ∀ Q : α → Shared → Prop, (∀ v tk, R W' d v → Q v { s with toks := tk }) → wpAny G.M x.A m Q (fun _ _ => False) s) : Sim G x W R m (Cm.ok d) :=
  Sim.leaf fun W' σ s e I _ => ⟨d, rfl, h W' σ s e I⟩
theorem Sim.pure {d : δ} {v : α} (h : ∀ W', Ext W W' → R W' d v) : Sim G x W R (pure v) (Cm.ok d) := Sim.val fun W' _ s e _ _ hQ => wpAny_pure (hQ v s.toks (h W' e))

theorem wpAny_operate {M : Model} {A : Around} {s : Shared} {vs : List Value} {m : Sem Value} {Q : Value → Shared → Prop} {E : Value → Shared → Prop} (h : wpAny M A m Q E s) : wpAny M A (operate vs m) Q E s := fun Γ p hΓ => by rw [Sem.wp_operate]; exact h Γ p hΓ
theorem wpAny_release {M : Model} {A : Around} {s : Shared} {vs ks : List Value} {Q : Unit → Shared → Prop} {E : Value → Shared → Prop} (h : Q () s) : wpAny M A (release vs ks) Q E s := fun Γ p hΓ => by rw [Sem.wp_release]; exact h
theorem Sim.holding {m : Sem α} {r : Cm δ} {vs : List Value} (h : Sim G x W R m r) : Sim G x W R (PySem.holding vs m) r := h.imp fun _ _ _ x => wpAny_holding x
theorem Sim.stand {m : Sem α} {r : Cm δ} {pos : Pos} (h : Sim G x W R m r) : Sim G x W R (standAt pos >>= fun _ => m) r := h.imp fun _ _ _ x => wpAny_bind (wpAny_standAt x)
theorem Sim.rel {m : Sem α} {r : Cm δ} {vs ks : List Value} (h : Sim G x W R m r) : Sim G x W R (release vs ks >>= fun _ => m) r := h.imp fun _ _ _ x => wpAny_bind (wpAny_release x)
end
section
variable {G : Gd} {x : Fx} {W : Wd}
theorem Sim.operate {m : Sem Value} {r : Cm D} {vs : List Value} (h : Sim G x W (Rel G) m r) : Sim G x W (Rel G) (PySem.operate vs m) r := h.imp fun _ _ _ x => wpAny_operate x
theorem Sim.int {m : Sem Value} {i : Int} (h : ∀ (s : Shared) (Q : Value → Shared → Prop), (∀ t tk, Q (.int i t) { s with toks := tk }) → wpAny G.M x.A m Q (fun _ _ => False) s) : Sim G x W (Rel G) m (Cm.ok (.int i)) :=
  Sim.val fun _ _ s _ _ Q hQ => h s Q fun t tk => hQ _ tk (.int i t)
theorem Sim.bool {m : Sem Value} {b : Bool} (h : ∀ (s : Shared) (Q : Value → Shared → Prop), (∀ tk, Q (.bool b) { s with toks := tk }) → wpAny G.M x.A m Q (fun _ _ => False) s) : Sim G x W (Rel G) m (Cm.ok (.bool b)) :=
  Sim.val fun _ _ s _ _ Q hQ => h s Q fun tk => hQ _ tk (.bool b)
theorem Sim.str {m : Sem Value} {z : List Nat} (ok : sOk z = true) (h : ∀ (s : Shared) (Q : Value → Shared → Prop), (∀ t tk, Q (.str (tx z) t) { s with toks := tk }) → wpAny G.M x.A m Q (fun _ _ => False) s) : Sim G x W (Rel G) m (Cm.ok (.str z)) :=
  Sim.val fun _ _ s _ _ Q hQ => h s Q fun t tk => hQ _ tk (.str t ok)

noncomputable def RB : Wd → Bool → Bool → Prop := fun _ d b => d = b
theorem truthy_sim {d : D} {v : Value} (r : Rel G W d v) : Sim G x W RB (truthy v) (Cm.opt (boolOf d)) := Sim.opt fun b hb => by
  obtain ⟨_, rfl⟩ := r.bool_inv hb
  exact Sim.val fun _ _ s _ _ Q hQ => wpAny_truthy_bool (hQ b s.toks rfl)
theorem truthyH_sim {d : D} {v : Value} {vs : List Value} (r : Rel G W d v) : Sim G x W RB (PySem.holding vs (truthy v)) (Cm.opt (boolOf d)) := (truthy_sim r).holding
end
noncomputable def evx (G : Gd) (x : Fx) (c : CE) (ρ : Rho) : Cm D := ev x.hd (callN G.P x.k.n) c ρ
noncomputable def evsx (G : Gd) (x : Fx) (c : List CE) (ρ : Rho) : Cm (List D) := evs x.hd (callN G.P x.k.n) c ρ
noncomputable def evix (G : Gd) (x : Fx) (c : CI) (ρ : Rho) : Cm Src := evi x.hd (callN G.P x.k.n) c ρ
noncomputable def SE (G : Gd) (k : Ky) (e : PySem.Expr) (c : CE) : Prop := ∀ {x : Fx} {W : Wd} {ρ : Rho}, x.k = k → En G x W ρ → Sim G x W (Rel G) (eval e x.env) (evx G x c ρ)
noncomputable def ST (G : Gd) (k : Ky) (e : PySem.Expr) (c : CE) : Prop := ∀ {x : Fx} {W : Wd} {ρ : Rho}, x.k = k → En G x W ρ → Sim G x W RB (isTrue e x.env (eval e x.env)) (asBool (evx G x c ρ))
end Mine

namespace Mine
open PySem PyProof.Rows

section
variable {G : Gd} {x : Fx} {W : Wd} {σ : Sto} {s : Shared}

theorem Post.alloc (I : Inv G W σ s) {o : Obj} {ob : AObj} (tk : Nat) (hf : o.isFreed = false) (c : ∀ W', Fix W W' → G.H.get? s.heap.objs.size = none → (s.heap.push o).get? s.heap.objs.size = some o → CObj G W' (s.heap.push o) σ.length ob s.heap.objs.size) :
    Post G W (Rel G) (Mine.alloc ob σ) (.ref s.heap.objs.size) { s with heap := s.heap.push o, toks := tk } := by
  have I' : Inv G W σ { s with heap := s.heap.push o, toks := tk } := I.grow (fun _ _ e => Heap.get?_push_of_some o e) rfl rfl
  have ho := Heap.get?_push_size s.heap hf
  have hn := I.fresh
  exact ⟨_, _, _, rfl, Ext.put hn, I'.push hn ho (c _ (Ext.put hn).fx I.hfresh ho), .ref put_self⟩
theorem Post.firm (I : Inv G W σ s) {o : Obj} {d : D} (tk : Nat) (hf : o.isFreed = false) (r : ∀ W', Fix W W' → W' s.heap.objs.size = some (.firm o) → Rel G W' d (.ref s.heap.objs.size)) :
    Post G W (Rel G) (Cm.ok d σ) (.ref s.heap.objs.size) { s with heap := s.heap.push o, toks := tk } := by
  have I' : Inv G W σ { s with heap := s.heap.push o, toks := tk } := I.grow (fun _ _ e => Heap.get?_push_of_some o e) rfl rfl
  have hn := I.fresh
  exact ⟨d, σ, _, rfl, Ext.put hn, I'.claim hn (fun _ q => by cases q) (.firm (Heap.get?_push_size s.heap hf)), r _ (Ext.put hn).fx put_self⟩
theorem lst_new (I : Inv G W σ s) {ds : List D} {vs : List Value} (tk : Nat) (r : RelL G W ds vs) (sz : ds.length ≤ cap) : Post G W (Rel G) (Mine.alloc (.list ds) σ) (.ref s.heap.objs.size) { s with heap := s.heap.push (lstO vs 0), toks := tk } :=
  Post.alloc I tk rfl fun _ f new ho => .list ho rfl rfl (r.mono f) new sz rfl
theorem cap_le : cap ≤ sizeLine := by decide
theorem most_le : most ≤ sizeLine := by decide
theorem newList_sim {ds : List D} {vs : List Value} (r : RelL G W ds vs) (sz : ds.length ≤ cap) : Sim G x W (Rel G) (newList vs) (Mine.alloc (.list ds)) := fun W' σ s e I _ =>
  wpAny_newObj_type (lst_new I s.toks (r.mono e.fx) sz) (by show vs.toArray.size ≤ sizeLine; rw [List.size_toArray, ← r.length]; exact Nat.le_trans sz cap_le)
theorem newTuple_sim {ds : List D} {vs : List Value} (r : RelL G W ds vs) (sz : ds.length ≤ cap) : Sim G x W (Rel G) (newTuple vs) (Cm.ok (.tup ds)) := fun W' σ s e I _ =>
  wpAny_newObj_type (Post.firm I (o := { cls := .type "tuple", data := .seq vs.toArray }) s.toks rfl fun _ f ho => .tup ho rfl rfl (r.mono (e.fx.trans f)) sz) (by show vs.toArray.size ≤ sizeLine; rw [List.size_toArray, ← r.length]; exact Nat.le_trans sz cap_le)

theorem isList_of (I : Inv G W σ s) {d : D} {v : Value} {ds : List D} (r : Rel G W d v) (e : listAt σ d = some ds) : ∃ a vs, v = .ref a ∧ s.heap.IsList a vs.toArray ∧ RelL G W ds vs ∧ ds.length ≤ cap := by
  cases r with
  | @ref n a hb =>
    unfold listAt at e
    dsimp only at e
    split at e
    · cases e
      cases I.look hb ‹_› with
      | list ho hc hd rl new sz => exact ⟨a, _, rfl, ⟨_, ho, hc, _, hd⟩, rl, sz⟩
    · cases e
  | _ => cases e
theorem seq_of (I : Inv G W σ s) {d : D} {v : Value} {ds : List D} (r : Rel G W d v) (e : seqOf σ d = some ds) : ∃ a vs, v = .ref a ∧ (s.heap.IsList a vs.toArray ∨ s.heap.IsTuple a vs.toArray) ∧ RelL G W ds vs ∧ ds.length ≤ cap := by
  cases r with
  | tup ho hc hd rl sz =>
    cases e
    cases I.pl _ _ ho with
    | firm h => exact ⟨_, _, rfl, .inr ⟨_, h, hc, _, hd⟩, rl, sz⟩
  | @ref n a hb =>
    unfold seqOf at e
    dsimp only at e
    split at e
    · cases e
      cases I.look hb ‹_› with
      | list ho hc hd rl new sz => exact ⟨a, _, rfl, .inl ⟨_, ho, hc, _, hd⟩, rl, sz⟩
    · cases e
      cases I.look hb ‹_› with
      | froz ho hc hd rl sz => exact ⟨a, _, rfl, .inl ⟨_, I.keep _ _ ho, hc, _, hd⟩, rl, sz⟩
    · cases e
  | _ => cases e

theorem sOk_all {z : List Nat} (h : sOk z = true) : z.all (· < 0x110000) = true := by
  simp only [sOk, Bool.and_eq_true] at h; exact h.1
theorem sOk_of {z : List Nat} (h1 : z.all (· < 0x110000) = true) (h2 : z.length ≤ most) : sOk z = true := by
  simp only [sOk, Bool.and_eq_true, decide_eq_true_eq]; exact ⟨h1, h2⟩

theorem small_div {j : Int} (h0 : 0 < j) (h1 : j ≤ divMost) (a : Int) : Builtin.divisionGoesByPylong a j = false := by
  refine PyProof.noPylong_of_log2 ?_
  have h3 : j.natAbs ≤ 10000000000000000000000000000000000000000 := by unfold divMost at h1; omega
  have h4 : j.natAbs < 2 ^ 200 := Nat.lt_of_le_of_lt h3 (by decide)
  have := (Nat.log2_lt (by omega)).mpr h4
  omega
theorem bin_int {op : Operator} {o : Bop} (ho : cBop op = some o) {i j : Int} {t u : Tok} : Sim G x W (Rel G) (binaryOp op (.int i t) (.int j u)) (Cm.opt ((binI o i j).map .int)) := by
  refine Sim.opt fun d hd => ?_
  obtain ⟨k, hk, rfl⟩ := Option.map_eq_some_iff.mp hd
  refine Sim.int fun s Q hQ => ?_
  cases op with
  | Add => cases ho; cases hk; exact add_int (hQ _ _)
  | Sub => cases ho; cases hk; exact sub_int (hQ _ _)
  | Mult =>
    cases ho
    obtain ⟨hc, hk⟩ := Option.ite_none_right_eq_some.mp hk
    cases hk
    refine mul_int (hQ _ _) ?_
    rcases hc with hc | hc
    · exact .of_left (PySem.intBits_le_64 (by omega) (by omega))
    · exact .of_right (PySem.intBits_le_64 (by omega) (by omega))
  | Mod =>
    cases ho
    obtain ⟨hc, hk⟩ := Option.ite_none_right_eq_some.mp hk
    cases hk
    refine mod_int' (Ne.symm (Int.ne_of_lt hc)) ?_
    rw [Int.fmod_eq_emod_of_nonneg _ (Int.le_of_lt hc)]; exact hQ _ _
  | Pow =>
    cases ho
    obtain ⟨hc, hk⟩ := Option.ite_none_right_eq_some.mp hk
    cases hk
    exact pow_int_small hc.1 (Int.le_trans hc.2.1 (by decide)) hc.2.2 (hQ _ _)
  | FloorDiv =>
    cases ho
    obtain ⟨hc, hk⟩ := Option.ite_none_right_eq_some.mp hk
    cases hk
    refine floordiv_int (Ne.symm (Int.ne_of_lt hc.1)) ?_ (.inl (small_div hc.1 hc.2 _))
    rw [Int.fdiv_eq_ediv_of_nonneg _ (Int.le_of_lt hc.1)]; exact hQ _ _
  | _ => cases ho

set_option tactic.hygienic true in
theorem bin_add {xs : List D} {a : Addr} {vs : List Value} {b : D} {w : Value} {σ : Sto} {s : Shared} (I : Inv G W σ s) (hl : s.heap.IsList a vs.toArray) (r1 : RelL G W xs vs) (rb : Rel G W b w) (hr : addL xs b σ ≠ .stuck) : wpAny G.M x.A (binaryOp .Add (.ref a) w) (Post G W (Rel G) (addL xs b σ)) (PostX G W x.envs (addL xs b σ)) s := by
  unfold addL at hr ⊢
  split at hr
  · rename_i ys h2
    split at hr
    · rename_i hc
      obtain ⟨m, ws, rfl, hm, r2, _⟩ := isList_of I rb h2
      simp only [if_pos hc]
      obtain ⟨⟨cls, dd, data, sl⟩, ho, hcl, n, hd⟩ := hl
      obtain ⟨⟨cls2, dd2, data2, sl2⟩, ho2, hcl2, n2, hd2⟩ := hm
      simp only at hcl hd hcl2 hd2
      subst hcl hd hcl2 hd2
      refine concat_meets ⟨_, ho, rfl⟩ ⟨_, ho2, rfl⟩ noFill_list_add seq_list_add PySem.F.slot_list_add PySem.F.entry_list_add (PySem.F.args_list_add_2 _ _) (list_addW a m vs.toArray ws.toArray n n2 dd dd2 sl sl2 (by rw [List.size_toArray, List.size_toArray, ← r1.length, ← r2.length]; exact Nat.le_trans hc most_le)) ⟨ho, ho2, ?_⟩
      have e : vs.toArray ++ ws.toArray = (vs ++ ws).toArray := by simp
      rw [e]
      exact lst_new I s.toks (r1.append r2) (by rw [List.length_append]; exact Nat.le_trans hc (by decide))
    · exact absurd rfl hr
  · exact absurd rfl hr
theorem bin_list {op : Operator} {o : Bop} (ho : cBop op = some o) {a b : D} {v w : Value} (ra : Rel G W a v) (rb : Rel G W b w) : Sim G x W (Rel G) (binaryOp op v w) (binL o a b) := fun W' σ s e I hr => by
  unfold binL at hr ⊢
  cases h1 : listAt σ a with
  | none => rw [h1] at hr; exact absurd rfl hr
  | some xs =>
    rw [h1] at hr
    obtain ⟨l, vs, rfl, hl, r1, _⟩ := isList_of I (ra.mono e.fx) h1
    cases op <;> cases ho <;> first | exact absurd rfl hr | exact bin_add I hl r1 (rb.mono e.fx) hr
set_option tactic.hygienic true in
theorem bin_sim {op : Operator} {o : Bop} (ho : cBop op = some o) {a b : D} {v w : Value} (ra : Rel G W a v) (rb : Rel G W b w) : Sim G x W (Rel G) (binaryOp op v w) (binOp o a b) := by
  unfold binOp
  split
  · rename_i i hi
    obtain ⟨t, _, rfl⟩ := ra.int_inv hi
    refine Sim.opt fun d hd => ?_
    obtain ⟨j, hj, hd⟩ := Option.bind_eq_some_iff.mp hd
    obtain ⟨u, _, rfl⟩ := rb.int_inv hj
    rw [← Cm.opt_some, ← hd]; exact bin_int ho
  · exact bin_list ho ra rb
end
end Mine

namespace Mine
open PySem PyProof.Rows

theorem mapM_cons_some {α γ : Type} {f : α → Option γ} {x : α} {xs : List α} {ys : List γ} (h : (x :: xs).mapM f = some ys) : ∃ y r, f x = some y ∧ xs.mapM f = some r ∧ ys = y :: r := by
  rw [List.mapM_cons] at h
  obtain ⟨y, h1, h⟩ := Option.bind_eq_some_iff.mp h
  obtain ⟨r, h2, h⟩ := Option.bind_eq_some_iff.mp h
  cases h; exact ⟨y, r, h1, h2, rfl⟩

section
variable {G : Gd} {x : Fx} {W : Wd} {ρ : Rho} {σ : Sto} {s : Shared}
inductive Rd (h : Heap) (k : Nat) (v : Value) (p : PyData) : Prop
  | mk (as : List Addr) (h1 : Reads h v p as) (h2 : p.canLay0 = true) (h3 : p.depth ≤ k) : Rd h k v p
inductive RdL (h : Heap) (k : Nat) (vs : List Value) (ps : List PyData) : Prop
  | mk (as : List Addr) (h1 : ReadsAll h vs ps as) (h2 : PyData.canLayAll0 ps = true) (h3 : PyData.depthAll ps ≤ k) : RdL h k vs ps
theorem rd_allOf {h : Heap} {k : Nat} (ih : ∀ (d : D) (p : PyData) (v : Value), rd k σ d = some p → Rel G W d v → Rd h k v p) : ∀ (ds : List D) (ps : List PyData) (vs : List Value), ds.mapM (rd k σ) = some ps → RelL G W ds vs → RdL h k vs ps
  | [], ps, vs, e, r => by cases r; cases e; exact ⟨[], .nil, rfl, Nat.zero_le _⟩
  | d :: ds, ps, vs, e, r => by
    obtain ⟨y, r', h1, h2, rfl⟩ := mapM_cons_some e
    cases r with
    | cons rv rs =>
      obtain ⟨as, a1, a2, a3⟩ := ih _ _ _ h1 rv
      obtain ⟨bs, b1, b2, b3⟩ := rd_allOf ih _ _ _ h2 rs
      exact ⟨as ++ bs, .cons a1 b1, by simp [PyData.canLayAll0, a2, b2], Nat.max_le.mpr ⟨a3, b3⟩⟩
theorem rd_list {h : Heap} {k : Nat} {a : Addr} {vs : List Value} {ps : List PyData} (hl : h.IsList a vs.toArray) (q : RdL h k vs ps) : Rd h (k + 1) (.ref a) (.list ps) := by
  obtain ⟨o, k1, k2, m, k3⟩ := hl
  obtain ⟨as, a1, a2, a3⟩ := q
  exact ⟨_, .list k1 k2 k3 a1, a2, Nat.succ_le_succ a3⟩
theorem rd_tuple {h : Heap} {k : Nat} {a : Addr} {vs : List Value} {ps : List PyData} (hl : h.IsTuple a vs.toArray) (q : RdL h k vs ps) : Rd h (k + 1) (.ref a) (.tuple ps) := by
  obtain ⟨o, k1, k2, m, k3⟩ := hl
  obtain ⟨as, a1, a2, a3⟩ := q
  exact ⟨_, .tuple k1 k2 k3 a1, a2, Nat.succ_le_succ a3⟩
theorem rd_reads (I : Inv G W σ s) : ∀ (k : Nat) (d : D) (p : PyData) (v : Value), rd k σ d = some p → Rel G W d v → Rd s.heap k v p
  | 0, _, _, _, e, _ => nomatch e
  | k + 1, d, p, v, e, r => by
    cases r with
    | none => cases e; exact ⟨[], .none, rfl, Nat.zero_le _⟩
    | bool b => cases e; exact ⟨[], .bool b, rfl, Nat.zero_le _⟩
    | int i t => cases e; exact ⟨[], .int i t, rfl, Nat.zero_le _⟩
    | @str z t ok =>
      cases e
      refine ⟨[], .str _ t, ?_, Nat.zero_le _⟩
      show PyData.strOk _ = true
      unfold PyData.strOk
      rw [← Array.all_toList]; exact sOk_all ok
    | tup ho hc hd rl sz =>
      obtain ⟨ps, h1, rfl⟩ := Option.map_eq_some_iff.mp e
      cases I.pl _ _ ho with
      | firm h => exact rd_tuple ⟨_, h, hc, _, hd⟩ (rd_allOf (rd_reads I k) _ _ _ h1 rl)
    | @ref n a hb =>
      replace e : (match σ[n]? with
        | some (.list ds) => (ds.mapM (rd k σ)).map PyData.list
        | some (.froz ds) => (ds.mapM (rd k σ)).map PyData.list
        | _ => none) = some p := e
      cases hs : σ[n]? with
      | none => rw [hs] at e; cases e
      | some ob =>
        rw [hs] at e
        cases I.look hb hs with
        | list ho hc hd rl new sz =>
          obtain ⟨ps, h1, rfl⟩ := Option.map_eq_some_iff.mp e
          exact rd_list ⟨_, ho, hc, _, hd⟩ (rd_allOf (rd_reads I k) _ _ _ h1 rl)
        | froz ho hc hd rl sz =>
          obtain ⟨ps, h1, rfl⟩ := Option.map_eq_some_iff.mp e
          exact rd_list ⟨_, I.keep _ _ ho, hc, _, hd⟩ (rd_allOf (rd_reads I k) _ _ _ h1 rl)

theorem pyEq_some {a b : D} {y : Bool} (h : pyEq σ a b = some y) : ∃ p q, rd rdDepth σ a = some p ∧ rd rdDepth σ b = some q ∧ y = PyData.eqv p q := by
  unfold pyEq at h
  split at h
  · split at h
    · cases h; exact ⟨_, _, ‹_›, ‹_›, rfl⟩
    · cases h
  · cases h
theorem Sim.askB {m : Sem Value} {f : Sto → Option Bool} {g : Bool → Bool} (h : ∀ W' σ s b, Ext W W' → Inv G W' σ s → f σ = some b → ∀ Q : Value → Shared → Prop, Q (.bool (g b)) s → wpAny G.M x.A m Q (fun _ _ => False) s) : Sim G x W (Rel G) m (fun σ => Cm.opt ((f σ).map fun b => .bool (g b)) σ) :=
  Sim.leaf fun W' σ s e I hr => by
    cases hf : f σ with
    | none => rw [hf] at hr; exact absurd rfl hr
    | some b => exact ⟨.bool (g b), rfl, fun Q hQ => h W' σ s b e I hf Q (hQ _ s.toks (.bool _))⟩
theorem eq_room (E : En G x W ρ) {p q : PyData} (h : p.depth ≤ rdDepth) : x.A.units + min p.depth q.depth < cLine := by
  have := E.room (k := 8) (by decide)
  have h8 : rdDepth = 8 := rfl
  have := Nat.min_le_left p.depth q.depth
  omega
theorem cmp_eq (E : En G x W ρ) {a b : D} {v w : Value} (ra : Rel G W a v) (rb : Rel G W b w) : Sim G x W (Rel G) (compareOp .Eq v w) (cmpOp .eq a b) ∧ Sim G x W (Rel G) (compareOp .NotEq v w) (cmpOp .ne a b) := by
  have key : ∀ {W' σ s y}, Ext W W' → Inv G W' σ s → pyEq σ a b = some y → ∃ p q, Rd s.heap rdDepth v p ∧ Rd s.heap rdDepth w q ∧ y = PyData.eqv p q := fun e I h => by
    obtain ⟨p, q, h1, h2, rfl⟩ := pyEq_some h
    exact ⟨p, q, rd_reads I _ _ _ _ h1 (ra.mono e.fx), rd_reads I _ _ _ _ h2 (rb.mono e.fx), rfl⟩
  refine ⟨Sim.askB (g := id) fun W' σ s y e I hy Q hQ => ?_, Sim.askB (g := (!·)) fun W' σ s y e I hy Q hQ => ?_⟩
  · obtain ⟨p, q, ⟨as, a1, a2, a3⟩, ⟨bs, b1, b2, b3⟩, rfl⟩ := key e I hy
    exact SeqAt.eqOverData _ _ _ _ _ _ _ _ _ _ _ _ a1 b1 a2 b2 (eq_room E a3) hQ
  · obtain ⟨p, q, ⟨as, a1, a2, a3⟩, ⟨bs, b1, b2, b3⟩, rfl⟩ := key e I hy
    exact SeqAt.neOverData _ _ _ _ _ _ _ _ _ _ _ _ a1 b1 a2 b2 (eq_room E a3) hQ

theorem is_bool {a : D} {v : Value} (y : Bool) (ra : Rel G W a v) : plainIs v (.bool y) = true ∧ (v == .bool y) = (boolOf a == some y) := by
  cases ra with
  | bool b => exact ⟨rfl, by cases b <;> cases y <;> rfl⟩
  | _ => exact ⟨rfl, rfl⟩
theorem is_none {a : D} {v : Value} (ra : Rel G W a v) : plainIs v .none = true ∧ (v == .none) = isNone a := by
  cases ra <;> exact ⟨rfl, rfl⟩
theorem none_inv {b : D} {w : Value} (rb : Rel G W b w) (h : isNone b = true) : w = .none := by
  cases rb with
  | none => rfl
  | _ => cases h
theorem is_plain {a b : D} {v w : Value} {y : Bool} (ra : Rel G W a v) (rb : Rel G W b w) (e : isSame a b = some y) : plainIs v w = true ∧ (v == w) = y := by
  unfold isSame at e
  split at e
  · obtain ⟨_, rfl⟩ := rb.bool_inv ‹_›
    cases e; exact is_bool _ ra
  · obtain ⟨h, e⟩ := Option.ite_none_right_eq_some.mp e
    obtain rfl := none_inv rb h
    cases e; exact is_none ra
theorem cmp_is {a b : D} {v w : Value} (ra : Rel G W a v) (rb : Rel G W b w) : Sim G x W (Rel G) (compareOp .Is v w) (cmpOp .is a b) ∧ Sim G x W (Rel G) (compareOp .IsNot v w) (cmpOp .isnot a b) := by
  refine ⟨Sim.opt fun d hd => ?_, Sim.opt fun d hd => ?_⟩
  · obtain ⟨y, hy, rfl⟩ := Option.map_eq_some_iff.mp hd
    obtain ⟨h1, h2⟩ := is_plain ra rb hy
    exact Sim.bool fun s Q hQ => wpAny_is_plain h1 (by rw [h2]; exact hQ s.toks)
  · obtain ⟨y, hy, rfl⟩ := Option.map_eq_some_iff.mp hd
    obtain ⟨h1, h2⟩ := is_plain ra rb hy
    exact Sim.bool fun s Q hQ => wpAny_isNot_plain h1 (by rw [h2]; exact hQ s.toks)

theorem isIn_cases {a b : D} {y : Bool} (e : isIn σ a b = some y) : ∃ p ds ps, rd rdDepth σ a = some p ∧ seqOf σ b = some ds ∧ ds.mapM (rd rdDepth σ) = some ps ∧ y = ps.any fun y => PyData.eqv y p := by
  unfold isIn at e
  split at e
  · obtain ⟨ps, h1, rfl⟩ := Option.map_eq_some_iff.mp e
    obtain ⟨ds, h2, h3⟩ := Option.bind_eq_some_iff.mp h1
    exact ⟨_, ds, ps, ‹_›, h2, h3, rfl⟩
  · cases e
theorem in_any (E : En G x W ρ) {a b : D} {v w : Value} (ra : Rel G W a v) (rb : Rel G W b w) {W' : Wd} {y : Bool} (e : Ext W W') (I : Inv G W' σ s) (h : isIn σ a b = some y) (Q : Value → Shared → Prop) :
    (Q (.bool y) s → wpAny G.M x.A (compareOp .In v w) Q (fun _ _ => False) s) ∧ (Q (.bool (!y)) s → wpAny G.M x.A (compareOp .NotIn v w) Q (fun _ _ => False) s) := by
  obtain ⟨p, ds, ps, h1, h2, h3, rfl⟩ := isIn_cases h
  obtain ⟨as, a1, a2, a3⟩ := rd_reads I _ _ _ _ h1 (ra.mono e.fx)
  obtain ⟨b, vs, rfl, hs, rl, _⟩ := seq_of I (rb.mono e.fx) h2
  have hb := rd_allOf (rd_reads I _) _ _ _ h3 rl
  have hu : x.A.units + 1 + min (PyData.depthAll ps) p.depth < cLine := by
    have := E.room (k := 8) (by decide)
    have h8 : rdDepth = 8 := rfl
    have := Nat.min_le_right (PyData.depthAll ps) p.depth
    omega
  rcases hs with hs | hs
  · obtain ⟨o, k1, k2, m, k3⟩ := hs
    obtain ⟨bs, b1, b2, b3⟩ := hb
    have r : Reads s.heap (.ref b) (.list ps) (b :: bs) := .list k1 k2 k3 b1
    exact ⟨fun hQ => SeqAt.in_list_reads r a1 b2 a2 hu hQ, fun hQ => SeqAt.notIn_list_reads r a1 b2 a2 hu hQ⟩
  · obtain ⟨o, k1, k2, m, k3⟩ := hs
    obtain ⟨bs, b1, b2, b3⟩ := hb
    have r : Reads s.heap (.ref b) (.tuple ps) bs := .tuple k1 k2 k3 b1
    exact ⟨fun hQ => SeqAt.in_tuple_reads r a1 b2 a2 hu hQ, fun hQ => SeqAt.notIn_tuple_reads r a1 b2 a2 hu hQ⟩
theorem cmpI_sim {f : Int → Int → Bool} {m : Sem Value} {a b : D} {v w : Value} (ra : Rel G W a v) (rb : Rel G W b w) (h : ∀ i j t u, v = .int i t → w = .int j u → ∀ (s : Shared) (Q : Value → Shared → Prop), Q (.bool (f i j)) s → wpAny G.M x.A m Q (fun _ _ => False) s) : Sim G x W (Rel G) m (cmpI f a b) := by
  unfold cmpI
  split
  · split
    · obtain ⟨t, _, e1⟩ := ra.int_inv ‹_›
      obtain ⟨u, _, e2⟩ := rb.int_inv ‹_›
      exact Sim.bool fun s Q hQ => h _ _ t u e1 e2 s Q (hQ s.toks)
    · exact Sim.stuck
  · exact Sim.stuck
theorem cmp_sim (E : En G x W ρ) {op : CmpOp} {a b : D} {v w : Value} (ra : Rel G W a v) (rb : Rel G W b w) : Sim G x W (Rel G) (compareOp op v w) (cmpOp (cCop op) a b) := by
  cases op with
  | Eq => exact (cmp_eq E ra rb).1
  | NotEq => exact (cmp_eq E ra rb).2
  | Is => exact (cmp_is ra rb).1
  | IsNot => exact (cmp_is ra rb).2
  | In => exact Sim.askB (g := id) fun W' σ s y e I hy Q hQ => (in_any E ra rb e I hy Q).1 hQ
  | NotIn => exact Sim.askB (g := (!·)) fun W' σ s y e I hy Q hQ => (in_any E ra rb e I hy Q).2 hQ
  | Lt => exact cmpI_sim ra rb fun i j t u e1 e2 s Q hQ => by subst e1 e2; exact lt_int hQ
  | LtE => exact cmpI_sim ra rb fun i j t u e1 e2 s Q hQ => by subst e1 e2; exact le_int hQ
  | Gt => exact cmpI_sim ra rb fun i j t u e1 e2 s Q hQ => by subst e1 e2; exact gt_int hQ
  | GtE => exact cmpI_sim ra rb fun i j t u e1 e2 s Q hQ => by subst e1 e2; exact ge_int hQ
end
end Mine

namespace Mine
open PySem PySem.Calls PyProof.Rows

noncomputable def biNames : List Str := (["len", "str", "int", "bool", "tuple", "list", "isinstance", "range", "zip", "enumerate", "sum", "sorted", "min", "max", "ValueError"] : List String).map Str.ofString
noncomputable def flatRel (d : D) (v : Value) : Prop := (∃ i t, d = .int i ∧ v = .int i t) ∨ ∃ x t, d = .str x ∧ v = .str (tx x) t ∧ sOk x = true
theorem flatRel.rel {G : Gd} {W : Wd} {d : D} {v : Value} (r : flatRel d v) : Rel G W d v := by
  rcases r with ⟨i, t, rfl, rfl⟩ | ⟨x, t, rfl, rfl, ok⟩
  · exact .int i t
  · exact .str t ok
structure FnAt (G : Gd) (a : Addr) (i : Nat) : Prop where
  ex : ∃ (o : Obj) (fd : FuncData) (fn : CFn) (body : List Stmt), G.H.get? a = some o ∧ o.data = .func fd ∧ fd.body = .stmts body ∧ fd.globals = mainGlobals ∧ fd.closure = [] ∧ fd.defaults = .none ∧ fd.builtins = builtinsNs ∧
    G.H.CodeRec fd.code fd.qualname ∧ G.P i = some fn ∧ cFn G.g fd.params body fd.scope = some fn
noncomputable def vbm : List Value := [.type "ValueError", .type "Exception", .type "BaseException", .type "object"]
noncomputable def mroAt (h : Heap) (C C' : Addr) : Option Bool := (h.get? C).bind fun o => match o.data with
  | .cls cd => some (cd.mro.contains (.ref C'))
  | _ => none
structure GOk (G : Gd) : Prop where
  hg : G.H.Ns mainGlobals G.mg
  hb : G.H.Ns builtinsNs G.mb
  lim : G.H.NoLimit
  con : ∀ x d, G.g.gc.lookup x = some d → ∃ v, G.mg x = some v ∧ flatRel d v
  fns : ∀ x ∈ G.g.fns, ∀ i, nameId x = some i → ∃ a, G.mg x = some (.ref a) ∧ FnAt G a i
  bi : ∀ x ∈ biNames, G.mg x = none ∧ G.mb x = bootBuiltins x
  exc : ∀ x ∈ G.g.cls, ∀ c, excId x = some c → ∃ C, G.ec c = .ref C ∧ OwnClsQ x C vbm "ValueError.__new__" G.mg G.H
  sub : ∀ x ∈ G.g.cls, ∀ y ∈ G.g.cls, ∀ c t, excId x = some c → excId y = some t → ∀ C C', G.mg x = some (.ref C) → G.mg y = some (.ref C') → mroAt G.H C C' = some (excSub c t)

section
variable {G : Gd} {x : Fx} {ρ : Rho}
theorem evx_bin (o : Bop) (l r : CE) : evx G x (.bin o l r) ρ = (evx G x l ρ).bnd fun a => (evx G x r ρ).bnd fun b => binOp o a b := rfl
theorem evx_cmp (o : Cop) (l r : CE) : evx G x (.cmp o l r) ρ = (evx G x l ρ).bnd fun a => (evx G x r ρ).bnd fun b => cmpOp o a b := rfl
theorem evx_cmp2 (o1 o2 : Cop) (a b c : CE) : evx G x (.cmp2 o1 o2 a b c) ρ = (evx G x a ρ).bnd fun p => (evx G x b ρ).bnd fun q => (asBool (cmpOp o1 p q)).bnd fun t => if t then (evx G x c ρ).bnd fun z => cmpOp o2 q z else Cm.ok (.bool false) := rfl
theorem evx_neg (e : CE) : evx G x (.neg e) ρ = (evx G x e ρ).bnd fun a => Cm.opt ((intOf a).map fun i => .int (-i)) := rfl
theorem evx_not (e : CE) : evx G x (.not e) ρ = (asBool (evx G x e ρ)).bnd fun b => Cm.ok (.bool (!b)) := rfl
noncomputable def andx (G : Gd) (x : Fx) (es : List CE) (ρ : Rho) : Cm D := evAnd x.hd (callN G.P x.k.n) es ρ
noncomputable def orx (G : Gd) (x : Fx) (es : List CE) (ρ : Rho) : Cm D := evOr x.hd (callN G.P x.k.n) es ρ
theorem andx_cons (e : CE) (r : List CE) : andx G x (e :: r) ρ = (asBool (evx G x e ρ)).bnd fun t => if t then andx G x r ρ else Cm.ok (.bool false) := rfl
theorem orx_cons (e : CE) (r : List CE) : orx G x (e :: r) ρ = (asBool (evx G x e ρ)).bnd fun t => if t then Cm.ok (.bool true) else orx G x r ρ := rfl
theorem evsx_cons (e : CE) (r : List CE) : evsx G x (e :: r) ρ = (evx G x e ρ).bnd fun d => (evsx G x r ρ).bnd fun ds => Cm.ok (d :: ds) := rfl
end
theorem Cm.assoc {α β γ : Type} (r : Cm α) (f : α → Cm β) (g : β → Cm γ) : (r.bnd f).bnd g = r.bnd fun a => (f a).bnd g := by
  funext σ
  show ((r σ).bind f).bind g = (r σ).bind fun a => (f a).bnd g
  cases r σ <;> rfl
theorem asBool_bnd {α : Type} (r : Cm α) (f : α → Cm D) : asBool (r.bnd f) = r.bnd fun a => asBool (f a) := Cm.assoc _ _ _
section
variable {G : Gd} {x : Fx} {W : Wd} {ρ : Rho} {k : Ky} {α δ : Type} {R : Wd → δ → α → Prop}
theorem Sim.test {d : D} {v : Value} {vs : List Value} {f : Bool → Sem α} {g : Bool → Cm δ} (r : Rel G W d v) (h : ∀ b, d = .bool b → v = .bool b → Sim G x W R (f b) (g b)) : Sim G x W R (PySem.holding vs (truthy v) >>= f) ((Cm.opt (boolOf d)).bnd g) := by
  cases hb : boolOf d with
  | none => exact fun _ _ _ _ _ hr => absurd rfl hr
  | some b =>
    obtain ⟨rfl, rfl⟩ := r.bool_inv hb
    exact (h b rfl rfl).imp fun s Q E q => wpAny_bind (wpAny_holding (wpAny_truthy_bool q))
theorem Sim.test0 {d : D} {v : Value} {f : Bool → Sem α} {g : Bool → Cm δ} (r : Rel G W d v) (h : ∀ b, d = .bool b → v = .bool b → Sim G x W R (f b) (g b)) : Sim G x W R (truthy v >>= f) ((Cm.opt (boolOf d)).bnd g) := by
  cases hb : boolOf d with
  | none => exact fun _ _ _ _ _ hr => absurd rfl hr
  | some b =>
    obtain ⟨rfl, rfl⟩ := r.bool_inv hb
    exact (h b rfl rfl).imp fun s Q E q => wpAny_bind (wpAny_truthy_bool q)
theorem Sim.asB {m : Sem Value} {r : Cm D} {r' : Cm D} (h : Sim G x W (Rel G) m r) (e : r' = (asBool r).bnd fun t => Cm.ok (.bool t)) : Sim G x W (Rel G) m r' := fun W' σ s e' I hr => by
  subst e
  rw [asBool, Cm.assoc] at hr ⊢
  refine wpAny_mono (h W' σ s e' I (bind_ne hr)) (fun v s₁ p => ?_) fun v s₁ p => p.cast fun c σ q => by rw [Cm.bnd_ap, q]; rfl
  obtain ⟨d, σ₁, W₁, h1, h2, h3, h4⟩ := p
  rw [Cm.bnd_ap, h1] at hr ⊢
  cases hb : boolOf d with
  | none => exact absurd (by show (Cm.opt (boolOf d)).bnd _ _ = _; rw [hb]; rfl) hr
  | some b =>
    obtain ⟨rfl, rfl⟩ := h4.bool_inv hb
    exact ⟨_, σ₁, W₁, rfl, h2, h3, .bool b⟩
theorem ST.plain {e : PySem.Expr} {c : CE} (h : SE G k e c) (hp : ∀ (env : Env) (w : Sem Value), isTrue e env w = (do let v ← w; standAt e.pos; holding [v] (truthy v))) : ST G k e c := fun hk E => by
  rw [hp]
  exact Sim.bnd (h hk E) fun d v W₁ _ r => ((truthy_sim r).holding).stand
theorem tt_pure {b : Bool} : Sim G x W RB (pure b) (asBool (Cm.ok (.bool b))) := Sim.pure (d := b) fun _ _ => rfl

theorem lastIdx_get {y : Str} : ∀ {vars : List (Option Str)} {i : Nat}, lastIdx y vars = some i → vars[i]? = some (some y)
  | [], _, h => by cases h
  | v :: r, i, h => by
    replace h : (match lastIdx y r with | some i => some (i + 1) | none => if v = some y then some 0 else none) = some i := h
    cases hl : lastIdx y r with
    | some j =>
      rw [hl] at h; cases h
      exact lastIdx_get (vars := r) hl
    | none =>
      rw [hl] at h
      obtain ⟨h1, h2⟩ := Option.ite_none_right_eq_some.mp h
      cases h2; rw [h1]; rfl
theorem lit_se {c : Const} {n : Nat} {pos : Pos} {d : D} (hc : cConst c = some d) : SE G k (.Constant c n pos) (.lit d) := fun {x} {W} _ _ _ => by
  rw [eval_Constant]
  show Sim G x W (Rel G) _ (Cm.ok d)
  cases c with
  | none => cases hc; exact Sim.pure fun _ _ => .none
  | bool b => cases hc; exact Sim.pure fun _ _ => .bool b
  | int i => cases hc; exact Sim.int fun s Q hQ => fun _ _ _ => hQ _ _
  | str z =>
    obtain ⟨hz, hc⟩ := Option.ite_none_right_eq_some.mp hc
    cases hc
    rw [Bool.and_eq_true, decide_eq_true_eq] at hz
    refine Sim.str (sOk_of (by rw [Array.all_toList]; exact hz.1) hz.2) fun s Q hQ => ?_
    have e : tx z.cps.toList = z := by simp [tx]
    rw [e] at hQ
    exact fun _ _ _ => hQ _ _
  | _ => cases hc
theorem loc_se {y : Str} {pos : Pos} {i : Nat} (hd' : (y == ("__debug__" : Str)) = false) (hcd : (y == ("__classdict__" : Str)) = false) (hi : lastIdx y k.C.vars = some i) (hkn : k.C.kind y = some .local ∨ k.C.kind y = some .cell ∨ k.C.kind y = some .free) : SE G k (.Name y pos) (.loc i) := fun {x} {W} {ρ} hk E => by
  subst hk
  show Sim G x W (Rel G) _ (Cm.opt (ρ[i]?.join))
  refine Sim.opt fun d hd => ?_
  have hρ : ρ[i]? = some (some d) := Option.join_eq_some_iff.mp hd
  have hv := lastIdx_get hi
  refine Sim.val fun W' σ s e I Q hQ => wpAny_Name ?_ hd'
  have E := E.ext e
  rcases hkn with hk | hk | hk
  · obtain ⟨m, hn, r⟩ := E.ns
    obtain ⟨v, h1, h2⟩ := r i y d hv (E.kindOf hk) hρ
    cases I.pl _ _ hn with
    | ns hn _ => exact wpAny_loadName_local E.kind (E.kindOf hk) hn h1 (hQ v s.toks h2)
  · obtain ⟨c, ov, k1, k3, k4⟩ := E.cells i y hv (.inl (E.kindOf hk))
    obtain ⟨v, rfl, h2⟩ := k4 d hρ
    cases I.pl _ _ k3 with
    | cell k3 _ => exact wpAny_loadName_cell E.kind (E.kindOf hk) k1 k3 (hQ v s.toks h2)
  · obtain ⟨c, ov, k1, k3, k4⟩ := E.cells i y hv (.inr (E.kindOf hk))
    obtain ⟨v, rfl, h2⟩ := k4 d hρ
    cases I.pl _ _ k3 with
    | cell k3 _ => exact wpAny_loadName_free E.kind (E.kindOf hk) k1 k3 (hQ v s.toks h2) hcd
theorem global_name (ok : GOk G) (E : En G x W ρ) {y : Str} {pos : Pos} {v : Value} (hd' : (y == ("__debug__" : Str)) = false) (hk : x.k.C.kind y = some .globalImplicit) (hv : G.mg y = some v) {s : Shared} (hs : ∀ b o, G.H.get? b = some o → s.heap.get? b = some o) {Q : Value → Shared → Prop} {E' : Value → Shared → Prop} (h : Q v s) :
    wpAny G.M x.A (eval (.Name y pos) x.env) Q E' s :=
  Name_function_global E.kind (E.kindOf hk) (loadGlobal_global (env := x.env) (by rw [E.glob]; exact ok.hg.keeps hs) hv h) hd'
theorem builtin_name (ok : GOk G) (E : En G x W ρ) {y : Str} {pos : Pos} {v : Value} (hm : y ∈ biNames) (hb : bootBuiltins y = some v) (hk : x.k.C.kind y = some .globalImplicit) (hd' : (y == ("__debug__" : Str)) = false) {s : Shared} (hs : ∀ b o, G.H.get? b = some o → s.heap.get? b = some o) {Q : Value → Shared → Prop} {E' : Value → Shared → Prop} (h : Q v s) :
    wpAny G.M x.A (eval (.Name y pos) x.env) Q E' s :=
  Name_function_global E.kind (E.kindOf hk) (loadGlobal_builtin (env := x.env) (by rw [E.glob]; exact ok.hg.keeps hs) (ok.bi y hm).1 (by rw [E.blt]; exact ok.hb.keeps hs) ((ok.bi y hm).2.trans hb) h) hd'
theorem gcon_se (ok : GOk G) (hg : k.C.g = G.g) {y : Str} {pos : Pos} {d : D} (hd' : (y == ("__debug__" : Str)) = false) (hk : k.C.kind y = some .globalImplicit) (hgd : k.C.g.gc.lookup y = some d) : SE G k (.Name y pos) (.gcon d) := fun {x} {W} {ρ} hx E => by
  subst hx
  obtain ⟨v, h1, h2⟩ := ok.con y d (hg ▸ hgd)
  exact Sim.val (d := d) fun W' σ s e I Q hQ => global_name ok E hd' hk h1 I.keep (hQ v s.toks h2.rel)

theorem bin_se {l r : PySem.Expr} {op : Operator} {pos : Pos} {o : Bop} {cl cr : CE} (ho : cBop op = some o) (hl : SE G k l cl) (hr : SE G k r cr) : SE G k (.BinOp l op r pos) (.bin o cl cr) := fun hk E => by
  rw [eval_BinOp, evx_bin]
  exact Sim.bnd (hl hk E) fun a v W₁ e1 r1 => Sim.bnd (hr hk (E.ext e1)).holding fun b w W₂ e2 r2 => ((bin_sim ho (r1.mono e2.fx) r2).operate).stand
theorem cmp_se {l r : PySem.Expr} {op : CmpOp} {pos : Pos} {cl cr : CE} (hm : behindInMarks op r = false) (hl : SE G k l cl) (hr : SE G k r cr) : SE G k (.Compare l [op] [r] pos) (.cmp (cCop op) cl cr) := fun hk E => by
  rw [eval_Compare1, markedBehindIn_of_false hm, evx_cmp]
  exact Sim.bnd (hl hk E) fun a v W₁ e1 r1 => Sim.bnd (hr hk (E.ext e1)).holding fun b w W₂ e2 r2 => ((cmp_sim (E.ext (e1.trans e2)) (r1.mono e2.fx) r2).operate).stand
theorem cmp_st {l r : PySem.Expr} {op : CmpOp} {pos : Pos} {cl cr : CE} (hm : behindInMarks op r = false) (hl : SE G k l cl) (hr : SE G k r cr) : ST G k (.Compare l [op] [r] pos) (.cmp (cCop op) cl cr) := fun hk E => by
  rw [isTrue_Compare1, markedBehindIn_of_false hm, evx_cmp, asBool_bnd]
  refine Sim.bnd (hl hk E) fun a v W₁ e1 r1 => ?_
  rw [asBool_bnd]
  exact Sim.bnd (hr hk (E.ext e1)).holding fun b w W₂ e2 r2 => Sim.stand (Sim.bnd (cmp_sim (E.ext (e1.trans e2)) (r1.mono e2.fx) r2).operate fun d v W₃ _ r => truthyH_sim r)
theorem cmp2_se {l a b : PySem.Expr} {o1 o2 : CmpOp} {pos : Pos} {cl ca cb : CE} (hm : behindInMarks o2 b = false) (hl : SE G k l cl) (ha : SE G k a ca) (hb : SE G k b cb) : SE G k (.Compare l [o1, o2] [a, b] pos) (.cmp2 (cCop o1) (cCop o2) cl ca cb) := fun {x} {W} {ρ} hk E => by
  show Sim G x W (Rel G) (eval l x.env >>= fun p => PySem.holding [p] (eval a x.env) >>= fun q => standAt pos >>= fun _ => PySem.holding [p, q] (compareOp o1 p q) >>= fun c => release [p, q] [c] >>= fun _ => PySem.holding [c, q] (truthy c) >>= fun t =>
    if t = true then (PySem.holding [q] (markedBehindIn o2 b (eval b x.env)) >>= fun z => standAt pos >>= fun _ => operate [q, z] (compareOp o2 q z)) else pure c) _
  rw [markedBehindIn_of_false hm, evx_cmp2]
  refine Sim.bnd (hl hk E) fun p v W₁ e1 r1 => Sim.bnd (ha hk (E.ext e1)).holding fun q w W₂ e2 r2 => Sim.stand ?_
  have E₂ := E.ext (e1.trans e2)
  rw [asBool, Cm.assoc]
  refine Sim.bnd (cmp_sim E₂ (r1.mono e2.fx) r2).holding fun d c W₃ e3 r3 => Sim.rel (Sim.test r3 fun t _ hc => ?_)
  subst hc
  cases t with
  | true => exact Sim.bnd (hb hk (E₂.ext e3)).holding fun z w₄ W₄ e4 r4 => ((cmp_sim (E₂.ext (e3.trans e4)) (r2.mono (e3.trans e4).fx) r4).operate).stand
  | false => exact Sim.pure fun _ _ => .bool false
theorem cmp2_st {l a b : PySem.Expr} {o1 o2 : CmpOp} {pos : Pos} {cl ca cb : CE} (hm : behindInMarks o2 b = false) (hl : SE G k l cl) (ha : SE G k a ca) (hb : SE G k b cb) : ST G k (.Compare l [o1, o2] [a, b] pos) (.cmp2 (cCop o1) (cCop o2) cl ca cb) := fun {x} {W} {ρ} hk E => by
  show Sim G x W RB (eval l x.env >>= fun p => PySem.holding [p] (eval a x.env) >>= fun q => standAt pos >>= fun _ => PySem.holding [p, q] (compareOp o1 p q) >>= fun c => release [p, q] [c] >>= fun _ => PySem.holding [c, q] (truthy c) >>= fun t =>
    if t = true then (PySem.holding [q] (markedBehindIn o2 b (eval b x.env)) >>= fun z => standAt pos >>= fun _ => operate [q, z] (compareOp o2 q z) >>= fun c => PySem.holding [c] (truthy c)) else pure false) _
  rw [markedBehindIn_of_false hm, evx_cmp2, asBool_bnd]
  refine Sim.bnd (hl hk E) fun p v W₁ e1 r1 => ?_
  rw [asBool_bnd]
  refine Sim.bnd (ha hk (E.ext e1)).holding fun q w W₂ e2 r2 => Sim.stand ?_
  have E₂ := E.ext (e1.trans e2)
  rw [asBool_bnd, asBool, Cm.assoc]
  refine Sim.bnd (cmp_sim E₂ (r1.mono e2.fx) r2).holding fun d c W₃ e3 r3 => Sim.rel (Sim.test r3 fun t _ hc => ?_)
  cases t with
  | true =>
    show Sim G x W₃ RB _ (asBool ((evx G x cb ρ).bnd fun z => cmpOp (cCop o2) q z))
    rw [asBool_bnd]
    exact Sim.bnd (hb hk (E₂.ext e3)).holding fun z w₄ W₄ e4 r4 => Sim.stand (Sim.bnd (cmp_sim (E₂.ext (e3.trans e4)) (r2.mono (e3.trans e4).fx) r4).operate fun d v W₅ _ r => truthyH_sim r)
  | false => exact tt_pure
theorem neg_se {e : PySem.Expr} {pos : Pos} {c : CE} (h : SE G k e c) : SE G k (.UnaryOp .USub e pos) (.neg c) := fun {x} {W} {ρ} hk E => by
  show Sim G x W (Rel G) (do let v ← eval e x.env; standAt pos; holding [v] (unaryOp .USub v)) _
  rw [evx_neg]
  refine Sim.bnd (h hk E) fun d v W₁ _ r => Sim.stand (Sim.holding (Sim.opt fun d' hd => ?_))
  obtain ⟨i, hi, rfl⟩ := Option.map_eq_some_iff.mp hd
  obtain ⟨t, _, rfl⟩ := r.int_inv hi
  exact Sim.int fun s Q hQ => neg_int (hQ _ _)
theorem not_se {e : PySem.Expr} {pos : Pos} {c : CE} (h : SE G k e c) : SE G k (.UnaryOp .Not e pos) (.not c) := fun {x} {W} {ρ} hk E => by
  show Sim G x W (Rel G) (do let v ← eval e x.env; standAt pos; holding [v] (unaryOp .Not v)) _
  rw [evx_not, asBool, Cm.assoc]
  exact Sim.bnd (h hk E) fun d v W₁ _ r => Sim.stand (Sim.holding (Sim.holding (Sim.test0 r fun b _ _ => Sim.pure fun _ _ => .bool _)))
theorem not_st {e : PySem.Expr} {pos : Pos} {c : CE} (h : ST G k e c) : ST G k (.UnaryOp .Not e pos) (.not c) := fun {x} {W} {ρ} hk E => by
  show Sim G x W RB (do return !(← isTrue e x.env (eval e x.env))) _
  rw [evx_not, asBool_bnd]
  refine Sim.bnd (h hk E) fun b b' W₁ _ (r : b = b') => ?_
  subst r; exact tt_pure
noncomputable def SEs (G : Gd) (k : Ky) : List PySem.Expr → List CE → Prop
  | [], [] => True
  | e :: es, c :: cs => (SE G k e c ∧ ST G k e c) ∧ SEs G k es cs
  | _, _ => False
theorem and_go {pos : Pos} : ∀ {es : List PySem.Expr} {cs : List CE}, es ≠ [] → SEs G k es cs → ∀ {x : Fx} {W : Wd} {ρ : Rho}, x.k = k → En G x W ρ → Sim G x W (Rel G) (boolOp pos .And (evalEach es x.env)) (andx G x cs ρ)
  | [], _, hn, _, _, _, _, _, _ => absurd rfl hn
  | [e], [c], _, h, x, W, ρ, hk, E => Sim.asB (h.1.1 hk E) (by
      rw [andx_cons]; congr 1; funext t; cases t <;> rfl)
  | e :: e' :: es, c :: c' :: cs, _, h, x, W, ρ, hk, E => by
    show Sim G x W (Rel G) (eval e x.env >>= fun v => standAt pos >>= fun _ => (PySem.holding [v] (truthy v)) >>= fun t => match BoolOp.And, t with | .And, false | .Or, true => pure v | _, _ => boolOp pos .And (evalEach (e' :: es) x.env)) _
    rw [andx_cons, asBool, Cm.assoc]
    refine Sim.bnd (h.1.1 hk E) fun d v W₁ e1 r1 => Sim.stand (Sim.test r1 fun t _ hv => ?_)
    cases t with
    | true => exact and_go (by simp) h.2 hk (E.ext e1)
    | false => subst hv; exact Sim.pure fun _ _ => .bool false
theorem or_go {pos : Pos} : ∀ {es : List PySem.Expr} {cs : List CE}, es ≠ [] → SEs G k es cs → ∀ {x : Fx} {W : Wd} {ρ : Rho}, x.k = k → En G x W ρ → Sim G x W (Rel G) (boolOp pos .Or (evalEach es x.env)) (orx G x cs ρ)
  | [], _, hn, _, _, _, _, _, _ => absurd rfl hn
  | [e], [c], _, h, x, W, ρ, hk, E => Sim.asB (h.1.1 hk E) (by
      rw [orx_cons]; congr 1; funext t; cases t <;> rfl)
  | e :: e' :: es, c :: c' :: cs, _, h, x, W, ρ, hk, E => by
    show Sim G x W (Rel G) (eval e x.env >>= fun v => standAt pos >>= fun _ => (PySem.holding [v] (truthy v)) >>= fun t => match BoolOp.Or, t with | .And, false | .Or, true => pure v | _, _ => boolOp pos .Or (evalEach (e' :: es) x.env)) _
    rw [orx_cons, asBool, Cm.assoc]
    refine Sim.bnd (h.1.1 hk E) fun d v W₁ e1 r1 => Sim.stand (Sim.test r1 fun t _ hv => ?_)
    cases t with
    | false => exact or_go (by simp) h.2 hk (E.ext e1)
    | true => subst hv; exact Sim.pure fun _ _ => .bool true
theorem and_tgo : ∀ {es : List PySem.Expr} {cs : List CE}, SEs G k es cs → ∀ {x : Fx} {W : Wd} {ρ : Rho}, x.k = k → En G x W ρ → Sim G x W RB (allTrue .And es x.env) (asBool (andx G x cs ρ))
  | [], [], _, _, _, _, _, _ => tt_pure
  | e :: es, c :: cs, h, x, W, ρ, hk, E => by
    show Sim G x W RB (isTrue e x.env (eval e x.env) >>= fun t => match BoolOp.And, t with | .And, false => pure false | .Or, true => pure true | _, _ => allTrue .And es x.env) _
    rw [andx_cons, asBool_bnd]
    refine Sim.bnd (h.1.2 hk E) fun b b' W₁ e1 (r : b = b') => ?_
    subst r
    cases b with
    | true => exact and_tgo h.2 hk (E.ext e1)
    | false => exact tt_pure
theorem or_tgo : ∀ {es : List PySem.Expr} {cs : List CE}, SEs G k es cs → ∀ {x : Fx} {W : Wd} {ρ : Rho}, x.k = k → En G x W ρ → Sim G x W RB (allTrue .Or es x.env) (asBool (orx G x cs ρ))
  | [], [], _, _, _, _, _, _ => tt_pure
  | e :: es, c :: cs, h, x, W, ρ, hk, E => by
    show Sim G x W RB (isTrue e x.env (eval e x.env) >>= fun t => match BoolOp.Or, t with | .And, false => pure false | .Or, true => pure true | _, _ => allTrue .Or es x.env) _
    rw [orx_cons, asBool_bnd]
    refine Sim.bnd (h.1.2 hk E) fun b b' W₁ e1 (r : b = b') => ?_
    subst r
    cases b with
    | false => exact or_tgo h.2 hk (E.ext e1)
    | true => exact tt_pure

theorem starEach_cons {e : PySem.Expr} (h : isStar e = false) (r : List PySem.Expr) (env : Env) : starEach (e :: r) env = (false, eval e env) :: starEach r env := by
  cases e <;> first | rfl | cases h
noncomputable def SEl (G : Gd) (k : Ky) : List PySem.Expr → List CE → Prop
  | [], [] => True
  | e :: es, c :: cs => isStar e = false ∧ SE G k e c ∧ SEl G k es cs
  | _, _ => False
noncomputable def RLn (G : Gd) (n : Nat) (W : Wd) (ds : List D) (vs : List Value) : Prop := RelL G W ds vs ∧ ds.length = n
theorem spliced_sim {pos : Pos} : ∀ {es : List PySem.Expr} {cs : List CE}, SEl G k es cs → ∀ {x : Fx} {W : Wd} {ρ : Rho}, x.k = k → En G x W ρ → Sim G x W (RLn G es.length) (spliced (backTo pos (starEach es x.env))) (evsx G x cs ρ)
  | [], [], _, _, _, _, _, _ => Sim.pure (d := []) fun _ _ => ⟨.nil, rfl⟩
  | e :: es, c :: cs, h, x, W, ρ, hk, E => by
    rw [starEach_cons h.1, evsx_cons]
    show Sim G x W (RLn G (es.length + 1)) (eval e x.env >>= fun v => pure [v] >>= fun here => PySem.holding here (spliced (backTo pos (starEach es x.env))) >>= fun r => pure (here ++ r)) _
    refine Sim.bnd (h.2.1 hk E) fun d v W₁ e1 r1 => ?_
    refine Sim.imp (m := PySem.holding [v] (spliced (backTo pos (starEach es x.env))) >>= fun r => pure ([v] ++ r)) ?_ fun s Q E' q => wpAny_bind (wpAny_pure q)
    exact Sim.bnd (spliced_sim h.2.2 hk (E.ext e1)).holding fun ds vs W₂ e2 r2 => Sim.pure fun W₃ e3 => ⟨.cons (r1.mono (e2.trans e3).fx) (r2.1.mono e3.fx), by rw [List.length_cons, r2.2]⟩
theorem list_se {es : List PySem.Expr} {pos : Pos} {cs : List CE} (h : SEl G k es cs) (hz : es.length ≤ cap) : SE G k (.List es pos) (.list cs) := fun {x} {W} {ρ} hk E => by
  show Sim G x W (Rel G) (standAt pos >>= fun _ => spliced (backTo pos (starEach es x.env)) >>= fun vs => newList vs) ((evsx G x cs ρ).bnd fun ds => Mine.alloc (.list ds))
  exact Sim.stand (Sim.bnd (spliced_sim h hk E) fun ds vs W₁ e1 r => newList_sim r.1 (by rw [r.2]; exact hz))
theorem tup_se {es : List PySem.Expr} {n : Nat} {pos : Pos} {cs : List CE} (h : SEl G k es cs) (hz : es.length ≤ cap) : SE G k (.Tuple es n pos) (.tup cs) := fun {x} {W} {ρ} hk E => by
  show Sim G x W (Rel G) (standAt pos >>= fun _ => spliced (backTo pos (starEach es x.env)) >>= fun vs => newTuple vs) ((evsx G x cs ρ).bnd fun ds => Cm.ok (.tup ds))
  exact Sim.stand (Sim.bnd (spliced_sim h hk E) fun ds vs W₁ e1 r => newTuple_sim r.1 (by rw [r.2]; exact hz))
end
end Mine

namespace Mine
open PySem PySem.Calls PyProof.Rows

theorem subscripted_plain {slice : PySem.Expr} (h : isSlice slice = false) (o i : Value) : subscripted slice false o i = PySem.operate [o, i] (getItem o i) := by
  cases slice <;> first | rfl | cases h
theorem idx_seq (i : Int) (len : Nat) : seqIndex? i len = idx? i len := by
  unfold seqIndex? idx?
  simp only [Bool.and_eq_true, decide_eq_true_eq]
theorem idx_bounds {i : Int} {len k : Nat} (h : idx? i len = some k) (hl : len ≤ 2 ^ 40) : -(2 ^ 63) ≤ i ∧ i < 2 ^ 63 ∧ (0 ≤ i → k = i.toNat) ∧ (i < 0 → k = (i + len).toNat ∧ -(len : Int) ≤ i) := by
  unfold idx? at h
  dsimp only at h
  obtain ⟨hc, h⟩ := Option.ite_none_right_eq_some.mp h
  injection h with h
  split at hc
  · rw [if_pos ‹_›] at h
    refine ⟨by omega, by omega, fun h0 => by omega, fun _ => ⟨by omega, by omega⟩⟩
  · rw [if_neg ‹_›] at h
    refine ⟨by omega, by omega, fun h0 => by omega, fun h0 => by omega⟩

section
variable {G : Gd} {x : Fx} {W : Wd} {ρ : Rho} {k : Ky} {σ : Sto} {s : Shared}
theorem tup_inv {d : D} {v : Value} {ds : List D} (I : Inv G W σ s) (r : Rel G W d v) (h : tupOf d = some ds) : ∃ a vs, d = .tup ds ∧ v = .ref a ∧ s.heap.IsTuple a vs.toArray ∧ RelL G W ds vs ∧ ds.length ≤ cap := by
  cases r with
  | tup ho hc hd rl sz =>
    cases h
    cases I.pl _ _ ho with
    | firm h => exact ⟨_, _, rfl, rfl, ⟨_, h, hc, _, hd⟩, rl, sz⟩
  | _ => cases h
theorem item_seq {b : Addr} {vs : List Value} {ds : List D} (hs : s.heap.IsList b vs.toArray ∨ s.heap.IsTuple b vs.toArray) (rl : RelL G W ds vs) (hz : ds.length ≤ cap) {i : Int} {t : Tok} {d : D} (e : (idx? i ds.length).bind (ds[·]?) = some d) {Q : Value → Shared → Prop} (hQ : ∀ v, Rel G W d v → Q v s) :
    wpAny G.M x.A (getItem (.ref b) (.int i t)) Q (fun _ _ => False) s := by
  obtain ⟨k, h1, h2⟩ := Option.bind_eq_some_iff.mp e
  obtain ⟨v, h3', h4⟩ := rl.get h2
  have h3 : vs.toArray[k]? = some v := by rw [List.getElem?_toArray]; exact h3'
  obtain ⟨b1, b2, b4, b5⟩ := idx_bounds h1 (Nat.le_trans hz (by decide))
  have hsz : vs.toArray.size = ds.length := by rw [List.size_toArray, rl.length]
  rcases hs with hs | hs
  · by_cases hi : 0 ≤ i
    · refine wpAny_getItem_list hs hi b2 ?_ (hQ v h4)
      rw [← b4 hi]; exact h3
    · obtain ⟨c1, c2⟩ := b5 (Int.not_le.mp hi)
      refine wpAny_getItem_list_neg hs (Int.not_le.mp hi) (by rw [hsz]; exact c2) b1 ?_ (hQ v h4)
      rw [hsz, ← c1]; exact h3
  · exact PyProof.Rows.getItem_tuple hs b1 b2 (j := k) (by rw [idx_seq, hsz]; exact h1) h3 (hQ v h4)
theorem tail_item {value slice : PySem.Expr} {v w : Value} {T id : String} {Q : Value → Shared → Prop} {E : Value → Shared → Prop} (hs : isSlice slice = false) (hT : s.TypeIs v T) (hl : typeLookup (.type T) "__getitem__" = pure (some (.builtin id))) (h : wpAny G.M x.A (getItem v w) Q E s) :
    wpAny G.M x.A (subscriptTail value slice v w) Q E s := tail_any hT hl h (subscripted_plain hs _ _)
set_option tactic.hygienic true in
theorem sub_sim {value slice : PySem.Expr} {a b : D} {v w : Value} (hu : x.A.units + 2 < cLine) (hs : isSlice slice = false) (ra : Rel G W a v) (rb : Rel G W b w) : Sim G x W (Rel G) (subscriptTail value slice v w) (subOp a b) := Sim.leaf fun W' σ s e I hr => by
  unfold subOp at hr ⊢
  split at hr
  · rename_i ds hds
    cases hd : subSeq ds b with
    | none => rw [hd] at hr; exact absurd rfl hr
    | some d =>
      obtain ⟨i, hi, h1⟩ := Option.bind_eq_some_iff.mp hd
      obtain ⟨u, _, rfl⟩ := rb.int_inv hi
      obtain ⟨l, vs, rfl, hl, rl, sz⟩ := seq_of I (ra.mono e.fx) hds
      refine ⟨d, rfl, fun Q hQ => ?_⟩
      have h := item_seq (x := x) (t := u) hl rl sz h1 (Q := Q) fun v r => hQ v s.toks r
      rcases hl with hl | hl
      · exact tail_item hs hl.typeIs slot_list_getitem.lookup h
      · exact tail_item hs hl.typeIs slot_tuple_getitem.lookup h
  · exact absurd rfl hr
theorem sub_se {value slice : PySem.Expr} {pos : Pos} {cv cs : CE} (hsl : isSlice slice = false) (hv : SE G k value cv) (hs : SE G k slice cs) : SE G k (.Subscript value slice pos) (.sub cv cs) := fun {x} {W} {ρ} hk E => by
  rw [eval_Subscript]
  show Sim G x W (Rel G) _ ((evx G x cv ρ).bnd fun a => (evx G x cs ρ).bnd fun b => subOp a b)
  exact Sim.bnd (hv hk E) fun a v W₁ e1 r1 => Sim.bnd (hs hk (E.ext e1)).holding fun b w W₂ e2 r2 => (sub_sim (E.room (k := 1) (by decide)) hsl (r1.mono e2.fx) r2).stand

theorem clip_eq (k : Int) (len : Nat) : clipAt len k = clip k len := by
  have h := clipAt_cast len k
  unfold clip
  dsimp only
  by_cases hk : k < 0
  · rw [if_pos hk] at h ⊢
    split
    · omega
    · split <;> omega
  · rw [if_neg hk] at h ⊢
    split
    · omega
    · split <;> omega
inductive BndR : Option D → Value → Option Int → Prop
  | none : BndR none .none none
  | int (i : Int) (t : Tok) : BndR (some (.int i)) (.int i t) (some i)
theorem BndR.part {d : Option D} {v : Value} {i : Option Int} (h : BndR d v i) : IsPart v i := by cases h; exact .none; exact .int _ _
theorem BndR.bnd {d : Option D} {v : Value} {i : Option Int} (h : BndR d v i) (dflt len : Nat) : bnd d dflt len = some (i.elim dflt (clipAt len)) := by
  cases h with
  | none => rfl
  | int i t => show some (clip i len) = _; rw [← clip_eq]; rfl
theorem BndR.val {d : Option D} {v : Value} {i : Option Int} (h : BndR d v i) : ∃ l : Option (Int × Tok), v = partValue l ∧ l.map (·.1) = i := by
  cases h with
  | none => exact ⟨Option.none, rfl, rfl⟩
  | int i t => exact ⟨some (i, t), rfl, rfl⟩
theorem cut_eq {α : Type} (l : List α) (a b : Nat) : (l.drop a).take (b - a) = cut l a b := by
  unfold cut
  rw [List.drop_take]
theorem RelL.cut {ds : List D} {vs : List Value} (r : RelL G W ds vs) (a b : Nat) : RelL G W (Mine.cut ds a b) (Mine.cut vs a b) := (r.take b).drop a
theorem cut_len {α : Type} (l : List α) (a b : Nat) : (cut l a b).length ≤ l.length := by
  unfold cut
  simp only [List.length_drop, List.length_take]; omega
inductive OptR (G : Gd) (W : Wd) : Option D → Value → Prop
  | none : OptR G W none .none
  | some {d : D} {v : Value} (r : Rel G W d v) : OptR G W (some d) v
theorem OptR.mono {W' : Wd} {o : Option D} {v : Value} (f : Fix W W') (r : OptR G W o v) : OptR G W' o v := by
  cases r with
  | none => exact .none
  | some r => exact .some (r.mono f)
theorem OptR.bndR {o : Option D} {v : Value} (r : OptR G W o v) {dflt len k : Nat} (e : bnd o dflt len = Option.some k) : ∃ i, BndR o v i ∧ k = i.elim dflt (clipAt len) := by
  cases r with
  | none => cases e; exact ⟨_, .none, rfl⟩
  | some r =>
    obtain ⟨i, hi, rfl⟩ := Option.map_eq_some_iff.mp e
    obtain ⟨t, rfl, rfl⟩ := r.int_inv hi
    exact ⟨_, .int i t, (clip_eq i len).symm⟩

set_option tactic.hygienic true in
theorem slice_op {value : PySem.Expr} {lo hi : Option PySem.Expr} {p pos : Pos} {a : D} {v : Value} {dl du : Option D} {vl vu : Value} (ra : Rel G W a v) (rl : OptR G W dl vl) (ru : OptR G W du vu) :
    Sim G x W (Rel G) (newFields "slice" [vl, vu, .none] >>= fun i => standAt pos >>= fun _ => subscriptTail value (.Slice lo hi none p) v i) (sliceOp a dl du) := fun W' σ s₀ e I hr => by
  replace ra := ra.mono e.fx
  replace rl := rl.mono e.fx
  replace ru := ru.mono e.fx
  clear e
  refine wpAny_bind (wpAny_newObj_type (wpAny_bind (wpAny_standAt ?_)) (by show [vl, vu, Value.none].toArray.size ≤ sizeLine + 2; simp [sizeLine_eq]))
  have hsl0 : (s₀.heap.push { cls := .type "slice", data := .fields #[vl, vu, .none] }).IsSliceOf s₀.heap.objs.size vl vu .none := Heap.IsSliceOf.new _ _ _ _
  have I' : Inv G W' σ { s₀ with heap := s₀.heap.push { cls := .type "slice", data := .fields #[vl, vu, .none] } } := I.grow (fun _ _ e => Heap.get?_push_of_some _ e) rfl rfl
  show wpAny G.M x.A (subscriptTail value (.Slice lo hi none p) v (.ref s₀.heap.objs.size)) _ _ { s₀ with heap := s₀.heap.push { cls := .type "slice", data := .fields #[vl, vu, .none] } }
  generalize hS : ({ s₀ with heap := s₀.heap.push { cls := .type "slice", data := .fields #[vl, vu, .none] } } : Shared) = s at I'
  have hsl : s.heap.IsSliceOf s₀.heap.objs.size vl vu .none := by rw [← hS]; exact hsl0
  generalize s₀.heap.objs.size = sl at hsl
  clear hS I hsl0
  unfold sliceOp at hr ⊢
  split at hr
  · exact absurd rfl hr
  · split at hr
    · rename_i ds hds
      cases hd : sliceList ds dl du with
      | none => rw [hd] at hr; exact absurd rfl hr
      | some ob =>
        obtain ⟨i, h1, q2⟩ := Option.bind_eq_some_iff.mp hd
        obtain ⟨j, h2, rfl⟩ := Option.map_eq_some_iff.mp q2
        obtain ⟨il, bl, rfl⟩ := rl.bndR h1
        obtain ⟨iu, bu, rfl⟩ := ru.bndR h2
        obtain ⟨b, vs, rfl, hb, rv, sz⟩ := seq_of I' ra hds
        rcases hb with hb | hb
        · refine tail_any hb.typeIs slot_list_getitem.lookup ?_ (ops := [.ref sl, .ref b]) rfl
          refine wpAny_getItem_list_slice hb hsl bl.part bu.part .none (by simp) ?_ (by rw [List.size_toArray, ← rv.length]; exact Nat.le_trans sz cap_le)
          rw [slicePick_plain, show vs.toArray.size = ds.length by rw [List.size_toArray, rv.length], cut_eq]
          exact lst_new I' s.toks (rv.cut _ _) (Nat.le_trans (cut_len _ _ _) sz)
        · exfalso
          cases ra with
          | tup => rename_i h _; exact absurd h (by simp [tupOf])
          | @ref n b hb' =>
            obtain ⟨o, k1, k2, m, k3⟩ := hb
            cases I'.pl _ _ hb' with
            | sto ho hs c =>
              cases c with
              | list ho hc _ _ _ _ => rw [k1] at ho; cases ho; rw [k2] at hc; simp at hc
              | froz ho hc _ _ _ => have := I'.keep _ _ ho; rw [k1] at this; cases this; rw [k2] at hc; simp at hc
          | _ => cases hds
    · exact absurd rfl hr

noncomputable def SEo (G : Gd) (k : Ky) : Option PySem.Expr → Option CE → Prop
  | none, none => True
  | some e, some c => SE G k e c
  | _, _ => False
noncomputable def evox (G : Gd) (x : Fx) (c : Option CE) (ρ : Rho) : Cm (Option D) := evo x.hd (callN G.P x.k.n) c ρ
theorem opt_sim {e : Option PySem.Expr} {c : Option CE} (h : SEo G k e c) (hk : x.k = k) (E : En G x W ρ) : Sim G x W (OptR G) (valueOrNone (evalOpt e x.env)) (evox G x c ρ) := by
  cases e with
  | none => cases c with
    | none => exact Sim.pure (d := none) fun _ _ => .none
    | some c => exact h.elim
  | some e => cases c with
    | none => exact h.elim
    | some c =>
      show Sim G x W (OptR G) (eval e x.env) ((evx G x c ρ).bnd fun d => Cm.ok (some d))
      intro W' σ s e' I hr
      refine wpAny_mono (h hk E W' σ s e' I (bind_ne hr)) (fun v s₁ p => ?_) fun v s₁ p => p.cast fun c σ q => by rw [Cm.bnd_ap, q]; rfl
      obtain ⟨d, σ₁, W₁, h1, h2, h3, h4⟩ := p
      exact ⟨some d, σ₁, W₁, by rw [Cm.bnd_ap, h1]; rfl, h2, h3, .some h4⟩
theorem evalOpt_none {env : Env} : evalOpt none env = none := rfl
theorem slice_se {value : PySem.Expr} {lo hi : Option PySem.Expr} {p pos : Pos} {cv : CE} {cl ch : Option CE} (hv : SE G k value cv) (hl : SEo G k lo cl) (hh : SEo G k hi ch) : SE G k (.Subscript value (.Slice lo hi none p) pos) (.slice cv cl ch) := fun {x} {W} {ρ} hk E => by
  show Sim G x W (Rel G) (eval value x.env >>= fun o => PySem.holding [o] (valueOrNone (evalOpt lo x.env) >>= fun l => PySem.holding [l] (valueOrNone (evalOpt hi x.env)) >>= fun u => PySem.holding [l, u] (valueOrNone (evalOpt none x.env)) >>= fun st => newFields "slice" [l, u, st]) >>= fun i => standAt pos >>= fun _ => subscriptTail value (.Slice lo hi none p) o i)
    ((evx G x cv ρ).bnd fun a => (evox G x cl ρ).bnd fun l => (evox G x ch ρ).bnd fun h => sliceOp a l h)
  refine Sim.bnd (hv hk E) fun a v W₁ e1 r1 => ?_
  refine Sim.imp (m := valueOrNone (evalOpt lo x.env) >>= fun l => valueOrNone (evalOpt hi x.env) >>= fun u => newFields "slice" [l, u, .none] >>= fun i => standAt pos >>= fun _ => subscriptTail value (.Slice lo hi none p) v i) ?_ fun s Q E' q => ?_
  · exact Sim.bnd (opt_sim hl hk (E.ext e1)) fun dl vl W₂ e2 r2 => Sim.bnd (opt_sim hh hk (E.ext (e1.trans e2))) fun du vu W₃ e3 r3 => slice_op (r1.mono (e2.trans e3).fx) (r2.mono e3.fx) r3
  · intro Γ pp hΓ
    have := q Γ pp hΓ
    simp only [Sem.wp_bind', Sem.wp_holding, evalOpt_none, valueOrNone, Sem.wp_pure'] at this ⊢
    exact this
end
end Mine

namespace Mine
open PySem PySem.Calls PySem.W PyProof.Rows
set_option maxRecDepth 100000

section
variable {G : Gd} {x : Fx} {W : Wd} {ρ : Rho} {k : Ky} {σ : Sto} {s : Shared}
noncomputable def Keep (G : Gd) (f : Value) : Prop := ∀ h : Heap, (∀ b o, G.H.get? b = some o → h.get? b = some o) → ∃ k, (k = Keeper.frame ∨ k = Keeper.machine ∨ k = Keeper.boundFrame) ∧ Looks G.M h (keeperOf f) k
theorem Keep.builtin (id : String) : Keep G (.builtin id) := fun _ _ => ⟨.machine, .inr (.inl rfl), Looks.of_pure rfl⟩
theorem Keep.type (T : String) : Keep G (.type T) := fun _ _ => ⟨.machine, .inr (.inl rfl), Looks.of_pure rfl⟩
theorem Keep.fn {f : Addr} {o : Obj} {fd : FuncData} (ho : G.H.get? f = some o) (hd : o.data = .func fd) : Keep G (.ref f) := fun h k => by
  refine ⟨.frame, .inl rfl, ?_⟩
  intro A Q E s hk q
  unfold keeperOf
  refine wpAny_bind (wpAny_load (hk _ _ (k _ _ ho)) ?_)
  rw [hd]; exact wpAny_pure q
theorem backTo_any {pos : Pos} : ∀ {es : List PySem.Expr} {cs : List CE}, SEl G k es cs → ∀ env, (backTo pos (starEach es env)).any (·.1) = false
  | [], [], _, _ => rfl
  | e :: es, c :: cs, h, env => by
    rw [starEach_cons h.1]
    show (false || (backTo pos (starEach es env)).any (·.1)) = false
    rw [backTo_any h.2.2]; rfl
theorem args_sim {f : Value} {first : List Value} {es : List PySem.Expr} {cs : List CE} {pos : Pos} {g : List D → Cm D} (hf : Keep G f) (h : SEl G k es cs) (hk : x.k = k) (E : En G x W ρ)
    (hc : ∀ ds vs W₁, Ext W W₁ → RLn G es.length W₁ ds vs → Sim G x W₁ (Rel G) (call f (first ++ vs)) (g ds)) :
    Sim G x W (Rel G) (callWith pos f first (backTo pos (starEach es x.env)) []) ((evsx G x cs ρ).bnd g) := fun W' σ s e I hr => by
  refine callWith_of (P := fun h => ∀ b o, G.H.get? b = some o → h.get? b = some o) (by rw [backTo_any h]; rfl) hf ?_
  have sp : wpAny G.M x.A (spliced (backTo pos (starEach es x.env))) (fun vs s₁ => (∀ b o, G.H.get? b = some o → s₁.heap.get? b = some o) ∧ wpAny G.M x.A (call f (first ++ vs)) (Post G W' (Rel G) ((evsx G x cs ρ).bnd g σ)) (PostX G W' x.envs ((evsx G x cs ρ).bnd g σ)) s₁) (PostX G W' x.envs ((evsx G x cs ρ).bnd g σ)) s := by
    refine wpAny_mono (spliced_sim h hk E W' σ s e I (bind_ne hr)) (fun vs s₁ p => ?_) fun v s₁ p => p.cast fun c σ q => by rw [Cm.bnd_ap, q]; rfl
    obtain ⟨ds, σ₁, W₁, h1, h2, h3, h4⟩ := p
    have e1 : (evsx G x cs ρ).bnd g σ = g ds σ₁ := by rw [Cm.bnd_ap, h1]; rfl
    rw [e1] at hr ⊢
    exact ⟨h3.keep, wpAny_mono (hc ds vs W₁ (e.trans h2) h4 W₁ σ₁ s₁ (Ext.refl _) h3 hr) (fun _ _ p => p.after h2) fun _ _ p => p.after h2⟩
  cases es with
  | nil =>
    cases cs with
    | nil => exact PySem.evalArgs_none ⟨I.keep, by
        have := hc [] [] W' e ⟨.nil, rfl⟩ W' σ s (Ext.refl _) I hr
        rw [List.append_nil] at this
        show wpAny G.M x.A (call f (first ++ [])) _ _ _
        rw [List.append_nil]; exact this⟩
    | cons c cs => exact h.elim
  | cons e es =>
    cases cs with
    | nil => exact h.elim
    | cons c cs =>
      rw [starEach_cons h.1] at sp ⊢
      exact evalArgs_plain sp
theorem isGlob_kind {C : CC} {y : Str} (h : C.isGlob y = true) : C.kind y = some .globalImplicit := by
  unfold CC.isGlob at h
  rw [Bool.and_eq_true] at h
  simpa using h.1
theorem callName_sim {y : Str} {p pos : Pos} {es : List PySem.Expr} {cs : List CE} {f : Value} {g : List D → Cm D} (hn : ∀ {s : Shared} {Q : Value → Shared → Prop} {E' : Value → Shared → Prop}, (∀ b o, G.H.get? b = some o → s.heap.get? b = some o) → Q f s → wpAny G.M x.A (eval (.Name y p) x.env) Q E' s) (hf : Keep G f) (h : SEl G k es cs) (hk : x.k = k) (E : En G x W ρ)
    (hc : ∀ ds vs W₁, Ext W W₁ → RLn G es.length W₁ ds vs → Sim G x W₁ (Rel G) (call f vs) (g ds)) :
    Sim G x W (Rel G) (eval (.Call (.Name y p) es [] pos) x.env) ((evsx G x cs ρ).bnd g) := fun W' σ s e I hr =>
  wpAny_Call_Name_kw (hn I.keep (args_sim (first := []) (pos := pos) hf h hk E hc W' σ s e I hr))

theorem boot_bool : bootBuiltins "bool" = some (.type "bool") := by decide +kernel
theorem boot_isinstance : bootBuiltins "isinstance" = some (.builtin "isinstance") := by decide +kernel
theorem boot_tuple : bootBuiltins "tuple" = some (.type "tuple") := by decide +kernel
theorem boot_list : bootBuiltins "list" = some (.type "list") := by decide +kernel
theorem boot_range : bootBuiltins "range" = some (.type "range") := by decide +kernel

theorem one_arg {f : Value} {b : Bi} {n : Nat} (h : ∀ {d : D} {v : Value} {W : Wd}, Rel G W d v → Sim G x W (Rel G) (call f [v]) (call1 b d)) (h2 : ∀ d e, call2 b d e = Cm.stuck) {ds : List D} {vs : List Value} (r : RLn G n W ds vs) : Sim G x W (Rel G) (call f vs) (callBi b ds) := by
  obtain ⟨r, _⟩ := r
  cases r with
  | nil => exact Sim.stuck
  | cons r rs =>
    cases rs with
    | nil => exact h r
    | cons r' rs =>
      cases rs with
      | nil => show Sim G x W (Rel G) _ (call2 b _ _); rw [h2]; exact Sim.stuck
      | cons => exact Sim.stuck
theorem Sim.askD {m : Sem Value} {f : Sto → Option D} (h : ∀ W' σ s d, Ext W W' → Inv G W' σ s → f σ = some d → ∀ Q : Value → Shared → Prop, (∀ v tk, Rel G W' d v → Q v { s with toks := tk }) → wpAny G.M x.A m Q (fun _ _ => False) s) : Sim G x W (Rel G) m (fun σ => Cm.opt (f σ) σ) :=
  Sim.leaf fun W' σ s e I hr => by
    cases hf : f σ with
    | none => rw [hf] at hr; exact absurd rfl hr
    | some d => exact ⟨d, rfl, h W' σ s d e I hf⟩
theorem len_sim {d : D} {v : Value} {W : Wd} (r : Rel G W d v) : Sim G x W (Rel G) (call (.builtin "len") [v]) (call1 .len d) := Sim.askD fun W' σ s d' e I hd Q hQ => by
  obtain ⟨n, hn, rfl⟩ := Option.map_eq_some_iff.mp hd
  unfold lenOf at hn
  obtain ⟨ds, hds, rfl⟩ := Option.map_eq_some_iff.mp hn
  obtain ⟨b, vs, rfl, hb, rl, sz⟩ := seq_of I (r.mono e.fx) hds
  have e2 : vs.toArray.size = ds.length := by rw [List.size_toArray, ← rl.length]
  have hz : ((vs.toArray.size : Nat) : Int) < 2 ^ 63 := by
    rw [e2]
    have : (cap : Int) < 2 ^ 63 := by decide
    omega
  rw [← e2] at hQ
  rcases hb with hb | hb
  · exact call_len_list hb hz (hQ _ _ (.int _ _))
  · exact len_tuple hb hz (hQ _ _ (.int _ _))

end
end Mine

namespace Mine
open PySem PySem.Calls PySem.W PyProof.Rows
set_option maxRecDepth 100000

section
variable {G : Gd} {x : Fx} {W : Wd} {ρ : Rho} {k : Ky} {σ : Sto} {s : Shared}
noncomputable def tyVal : Ty → Value
  | .int => .type "int"
  | .bool => .type "bool"
  | .tuple => .type "tuple"
  | .list => .type "list"
theorem isi_tuple_no {a : Addr} {o : Obj} {T : String} (hc : o.cls = .type "tuple") (hne : (Value.type "tuple" == Value.type T) = false) (hty : typeOf (.type T) = pure (.type "type")) (hsub : isSubtype (.type "tuple") (.type T) = pure false) :
    Meets (Builtin.«isinstance» ⟨[.ref a, .type T], []⟩) (fun _ R s => s.heap.get? a = some o ∧ R (.ok (.ret (.bool false))) { s with toks := s.toks + 1 }) :=
  fun _ _ _ _ s hs => by
    obtain ⟨h, g, d, t, os⟩ := s
    exact isinstance_outer (isinstance_nested_false_tuple hs.1 hc hne hty hsub hs.2) (by intro e; cases e)
theorem isi_any {d : D} {v : Value} {t : Ty} (I : Inv G W σ s) (r : Rel G W d v) {b : Bool} (hb : isInst σ d t = some b) {Q : Value → Shared → Prop} (hQ : ∀ tk, Q (.bool b) { s with toks := tk }) : wpAny G.M x.A (call (.builtin "isinstance") [v, tyVal t]) Q (fun _ _ => False) s := by
  cases r with
  | int i u =>
    cases hb
    cases t with
    | int => exact IsiPair.int_int (hQ s.toks)
    | bool => exact IsiPair.int_bool (hQ _)
    | tuple => exact IsiPair.int_tuple (hQ _)
    | list => exact IsiPair.int_list (hQ _)
  | tup ho hc hdd rl sz =>
    cases hb
    cases I.pl _ _ ho with
    | firm k1 =>
      cases t with
      | tuple => exact call_isinstance (isinstance_true (Tx := "tuple") F.isi_meta_tuple isSubtype_tuple_tuple) ⟨⟨_, k1, hc⟩, hQ s.toks⟩
      | int => exact call_isinstance (isi_tuple_no hc (by decide) F.isi_meta_int (by rw [isSubtype_type]; kernel_rfl)) ⟨k1, hQ _⟩
      | bool => exact call_isinstance (isi_tuple_no hc (by decide) F.isi_meta_bool (by rw [isSubtype_type]; kernel_rfl)) ⟨k1, hQ _⟩
      | list => exact call_isinstance (isi_tuple_no hc (by decide) F.isi_meta_list (by rw [isSubtype_type]; kernel_rfl)) ⟨k1, hQ _⟩
  | @ref n a ha =>
    obtain ⟨ht, hb⟩ := Option.ite_none_right_eq_some.mp (show (if (t == Ty.list) = true then (listAt σ (.ref n)).map fun _ => true else none) = some b from hb)
    obtain ⟨ds, hd, rfl⟩ := Option.map_eq_some_iff.mp hb
    obtain ⟨a', vs, e, hl, _⟩ := isList_of I (.ref ha) hd
    cases e
    cases eq_of_beq ht
    exact IsiPair.isList_list hl (fun _ _ e => e) (hQ _)
  | _ =>
    obtain ⟨ht, hb⟩ := Option.ite_none_right_eq_some.mp hb
    cases hb

theorem tyOf_name (ok : GOk G) (E : En G x W ρ) {y : Str} {t : Ty} {pos : Pos} (ht : tyOf y = some t) (hg : x.k.C.isGlob y = true) {s : Shared} (hs : ∀ b o, G.H.get? b = some o → s.heap.get? b = some o) {Q : Value → Shared → Prop} {E' : Value → Shared → Prop} (h : Q (tyVal t) s) : wpAny G.M x.A (eval (.Name y pos) x.env) Q E' s := by
  have hk := isGlob_kind hg
  have key : ∀ {T : Str} {v : Value}, y = T → tyVal t = v → T ∈ biNames → bootBuiltins T = some v → (T == ("__debug__" : Str)) = false → wpAny G.M x.A (eval (.Name y pos) x.env) Q E' s := fun e1 e2 h1 h2 h3 => by
    subst e1 e2; exact builtin_name ok E h1 h2 hk h3 hs h
  unfold tyOf at ht
  simp only [List.lookup_cons, List.lookup_nil] at ht
  split at ht
  · cases ht; exact key (eq_of_beq ‹_›) rfl (by decide) boot_int (by decide)
  split at ht
  · cases ht; exact key (eq_of_beq ‹_›) rfl (by decide) boot_bool (by decide)
  split at ht
  · cases ht; exact key (eq_of_beq ‹_›) rfl (by decide) boot_tuple (by decide)
  split at ht
  · cases ht; exact key (eq_of_beq ‹_›) rfl (by decide) boot_list (by decide)
  · cases ht
theorem callE_sim (ok : GOk G) {e : PySem.Expr} {f : Str} {c : CE} {p pos : Pos} {fv tv : Value} {t : PySem.Expr} {g : D → Cm D} (hst : isStar e = false) (hst2 : isStar t = false) (hn : ∀ {s : Shared} {Q : Value → Shared → Prop} {E' : Value → Shared → Prop}, (∀ b o, G.H.get? b = some o → s.heap.get? b = some o) → Q fv s → wpAny G.M x.A (eval (.Name f p) x.env) Q E' s) (hf : Keep G fv)
    (ht : ∀ {s : Shared} {Q : Value → Shared → Prop} {E' : Value → Shared → Prop}, (∀ b o, G.H.get? b = some o → s.heap.get? b = some o) → Q tv s → wpAny G.M x.A (eval t x.env) Q E' s) (h : SE G k e c) (hk : x.k = k) (E : En G x W ρ) (hc : ∀ d v W₁, Ext W W₁ → Rel G W₁ d v → Sim G x W₁ (Rel G) (call fv [v, tv]) (g d)) :
    Sim G x W (Rel G) (eval (.Call (.Name f p) [e, t] [] pos) x.env) ((evx G x c ρ).bnd g) := fun W' σ s e' I hr => by
  refine wpAny_Call_Name_kw (hn I.keep ?_)
  refine callWith_of (P := fun h => ∀ b o, G.H.get? b = some o → h.get? b = some o) (by rw [starEach_cons hst, starEach_cons hst2]; rfl) hf ?_
  rw [starEach_cons hst]
  refine evalArgs_plain ?_
  show wpAny G.M x.A (eval e x.env >>= fun v => pure [v] >>= fun here => PySem.holding here (spliced (backTo pos (starEach [t] x.env))) >>= fun r => pure (here ++ r)) _ _ s
  refine wpAny_bind (wpAny_mono (h hk E W' σ s e' I (bind_ne hr)) (fun v s₁ p => ?_) fun v s₁ p => p.cast fun c σ q => by rw [Cm.bnd_ap, q]; rfl)
  obtain ⟨d, σ₁, W₁, h1, h2, h3, h4⟩ := p
  have e1 : (evx G x c ρ).bnd g σ = g d σ₁ := by rw [Cm.bnd_ap, h1]; rfl
  rw [e1] at hr ⊢
  rw [starEach_cons hst2]
  refine wpAny_bind (wpAny_pure (wpAny_bind (wpAny_holding ?_)))
  show wpAny G.M x.A (eval t x.env >>= fun v => pure [v] >>= fun here => PySem.holding here (spliced []) >>= fun r => pure (here ++ r)) _ _ s₁
  refine wpAny_bind (ht h3.keep ?_)
  refine wpAny_bind (wpAny_pure (wpAny_bind (wpAny_holding (spliced_nil (wpAny_pure (wpAny_pure ⟨h3.keep, ?_⟩))))))
  exact wpAny_mono (hc d v W₁ (e'.trans h2) h4 W₁ σ₁ s₁ (Ext.refl _) h3 hr) (fun _ _ p => p.after h2) fun _ _ p => p.after h2
theorem isi_se (ok : GOk G) {e : PySem.Expr} {y : Str} {t : Ty} {p p2 pos : Pos} {c : CE} (hst : isStar e = false) (hf : k.C.isGlob "isinstance" = true) (hg : k.C.isGlob y = true) (ht : tyOf y = some t) (h : SE G k e c) : SE G k (.Call (.Name "isinstance" p) [e, .Name y p2] [] pos) (.isinst c t) := fun {x} {W} {ρ} hk E => by
  subst hk
  show Sim G x W (Rel G) _ ((evx G x c ρ).bnd fun d => fun σ => Cm.opt ((isInst σ d t).map .bool) σ)
  refine callE_sim ok hst rfl (fun hs q => builtin_name ok E (by decide) boot_isinstance (isGlob_kind hf) (by decide) hs q) (Keep.builtin _) (fun hs q => tyOf_name ok E ht hg hs q) h rfl E fun d v W₁ e1 r => ?_
  refine Sim.askD fun W' σ s d' e2 I hd Q hQ => ?_
  obtain ⟨b, hb, rfl⟩ := Option.map_eq_some_iff.mp hd
  exact isi_any I (r.mono e2.fx) hb fun tk => hQ _ tk (.bool _)
end
end Mine

namespace Mine
open PySem PySem.Calls PySem.W PyProof.Rows
set_option maxRecDepth 100000

theorem idIn_get {l : List Str} {x : Str} {i : Nat} (h : idIn l x = some i) : l[i]? = some x := by
  unfold idIn at h
  obtain ⟨hi, he, _⟩ := List.findIdx?_eq_some_iff_getElem.mp h
  rw [List.getElem?_eq_getElem hi]; exact congrArg some (eq_of_beq he)
theorem bareCall_base {o : PySem.Expr} {name : Str} {env : Env} {w : Sem Value} (h : bareCall o = false) : attributeBase o name env w = w := by
  cases o with
  | Call => cases h
  | _ => rfl

section
variable {G : Gd} {x : Fx} {W : Wd} {ρ : Rho} {k : Ky} {σ : Sto} {s : Shared}
theorem backTo_all {pos : Pos} {env : Env} : ∀ {es : List PySem.Expr} {cs : List CE}, SEl G k es cs → (backTo pos (starEach es env)).all (fun x => !x.1) = true
  | [], _, _ => rfl
  | e :: es, c :: cs, h => by
    rw [starEach_cons h.1]
    show (true && (backTo pos (starEach es env)).all (fun x => !x.1)) = true
    rw [backTo_all h.2.2]; rfl
theorem few_args {pos : Pos} {es : List PySem.Expr} {cs : List CE} (h : SEl G k es cs) (hl : es.length < 30) (env : Env) :
    methodCallForm (es.length + ([] : List Keyword).length) (backTo pos (starEach es env)) (backToKw pos (keywordEach [] env)) = true := by
  show ((backTo pos (starEach es env)).all (fun x => !x.1) && true && decide (es.length + 0 + 0 < 30)) = true
  rw [backTo_all h]
  simpa using hl
noncomputable def methTree (o : PySem.Expr) (m : Str) (ap pos : Pos) (es : List PySem.Expr) (env : Env) (ov : Value) : Sem Value :=
  standAt ap.atName >>= fun _ => methodCall o m ap pos env ov (es.length + ([] : List Keyword).length) (backTo pos (starEach es env)) (backToKw pos (keywordEach [] env))
theorem meth_at {o : PySem.Expr} {m : Str} {ap pos : Pos} {es : List PySem.Expr} {cs : List CE} {T id : String} {ov : Value} {g : List D → Cm D} (pa : PlainAttrs T) (slot : Slot T m id) (hty : typeOf (.builtin id) = pure (.type "method_descriptor"))
    (hT : s.TypeIs ov T) (hdct : ∀ a, ov = .ref a → ∃ ob, s.heap.get? a = some ob ∧ ob.dict = none) (h : SEl G k es cs) (hl : es.length < 30) (hline : (ap.endLine == pos.line) = true) (hk : x.k = k) (E : En G x W ρ) (I : Inv G W σ s) (hr : (evsx G x cs ρ).bnd g σ ≠ .stuck)
    (hc : ∀ ds vs W₁, Ext W W₁ → RLn G es.length W₁ ds vs → Sim G x W₁ (Rel G) (call (.builtin id) (ov :: vs)) (g ds)) :
    wpAny G.M x.A (methTree o m ap pos es x.env ov) (Post G W (Rel G) ((evsx G x cs ρ).bnd g σ)) (PostX G W x.envs ((evsx G x cs ρ).bnd g σ)) s := by
  have := args_sim (first := [ov]) (pos := pos) (Keep.builtin id) h hk E hc W σ s (Ext.refl _) I hr
  refine wpAny_bind (wpAny_standAt ?_)
  have hpos : methodCallPos true o x.env ap pos = pure pos := by unfold methodCallPos; simp [hline]
  unfold methodCall
  rw [few_args h hl]
  refine wpAny_bind (wpAny_holding (getMethod_builtin hT pa slot hty hdct ?_))
  exact wpAny_bind (wpAny_of_eq hpos this)

end
end Mine

namespace Mine
open PySem PySem.Calls PySem.W PyProof.Rows
set_option maxRecDepth 100000

noncomputable def eraseF (h : Heap) (L : Addr) : Heap := h.update L fun o => { o with data := .freed }
set_option tactic.hygienic true in
theorem eraseF_self (h : Heap) (L : Addr) : (eraseF h L).get? L = none := by
  cases h
  simp only [eraseF, Heap.update, Heap.get?, Array.getElem?_modify, if_true]
  rename_i objs _
  cases objs[L]? <;> rfl
noncomputable def eraseAll (h : Heap) : List Addr → Heap
  | [] => h
  | L :: r => eraseF (eraseAll h r) L
theorem eraseAll_out {h : Heap} {b : Addr} : ∀ {fs : List Addr}, b ∉ fs → (eraseAll h fs).get? b = h.get? b
  | [], _ => rfl
  | L :: r, hb => by
    have : b ≠ L := fun q => hb (by rw [q]; exact .head _)
    show (eraseF (eraseAll h r) L).get? b = _
    unfold eraseF
    rw [Heap.get?_update_other _ _ (Ne.symm this)]
    exact eraseAll_out fun q => hb (.tail _ q)
theorem eraseAll_in {h : Heap} {b : Addr} : ∀ {fs : List Addr}, b ∈ fs → (eraseAll h fs).get? b = none
  | [], hb => by cases hb
  | L :: r, hb => by
    by_cases q : b = L
    · rw [q]; exact eraseF_self _ _
    · show (eraseF (eraseAll h r) L).get? b = _
      unfold eraseF
      rw [Heap.get?_update_other _ _ (Ne.symm q)]
      exact eraseAll_in (by cases hb with | head => exact absurd rfl q | tail _ x => exact x)

structure ExcAt (base : Heap) (envs : List Env) (L e : Addr) (cls : Value) (h : Heap) : Prop where
  stays : base.StaysIn h
  new : base.get? e = none
  frames : h.FunFrames base envs
  is : ∃ a0, (∃ oe vs, h.get? e = some oe ∧ oe.cls = cls ∧ oe.data = .fields vs ∧ vs[1]? = some .none ∧ vs[0]? = some a0) ∨ h.TracedAtW base e cls a0 .none ∨ h.TracedAtW base e cls a0 (rawInt L)

section
variable {M : Model} {A : Around} {E : Value → Shared → Prop} {s : Shared} {base : Heap} {env : Env} {outer : List Env} {L e : Addr} {cls : Value}

theorem exc_note {Q : Unit → Shared → Prop} (hfr : A.frames = some (env :: outer)) (hf : env.frame = some L) (x : ExcAt base (env :: outer) L e cls s.heap)
    (hQ : ∀ h' a0, Heap.HeldW base (env :: outer) e cls a0 L h' → s.heap.UpToSlots h' → Q () { s with heap := h' }) : wpAny M A (noteFrame (.ref e) env) Q E s := by
  obtain ⟨k1, k2, k3, a0, k4⟩ := x
  rcases k4 with ⟨oe, vs, he, hc, hd, h1, h0⟩ | ht | ht
  · subst hc
    unfold noteFrame
    simp only [hf]
    refine wpAny_bind (wpAny_field he hd h1 ?_)
    rw [if_neg (by decide)]
    refine wpAny_entryW hfr k3 hf he k1 k2 hd (Array.getElem?_eq_some_iff.mp h1).1 h0 fun h' hN => ?_
    obtain ⟨n1, n2, n3, n4⟩ := hN
    exact hQ h' a0 ⟨n1, k2, n2, n3⟩ n4
  · exact wpAny_looks_onW hfr hf ⟨k1, k2, k3, ht⟩ fun h' hh hu => hQ h' a0 hh hu
  · exact wpAny_noteFrame_againW hf ht (hQ s.heap a0 ⟨k1, k2, k3, ht⟩ (Heap.UpToSlots.refl _))

theorem held_exc {a0 : Value} {l : List Env} {h : Heap} (x : Heap.HeldW base l e cls a0 L h) : ExcAt base l L e cls h := ⟨x.1, x.2.1, x.2.2.1, a0, .inr (.inr x.2.2.2)⟩
theorem flying_exc {a0 : Value} {l : List Env} {h : Heap} (x : Heap.FlyingW base l e cls a0 h) : ExcAt base l L e cls h := ⟨x.1, x.2.1, x.2.2.1, a0, .inr (.inl x.2.2.2)⟩

theorem exc_back {a0 : Value} {l : List Env} (hf : env.frame = some L) (x : Heap.HeldW base l e cls a0 L s.heap)
    (hE : ∀ h', Heap.HeldW base l e cls a0 L h' → s.heap.UpToSlots h' → E (.ref e) { s with heap := h' }) : cameBackBy M A env E (.ref e) s := by
  obtain ⟨k1, k2, k3, oe, vs, T, oT, ts, he, hcls, hd, h1, hnT, hTe, hT, hdT, h3⟩ := x
  have hsz3 : 3 < ts.size := (Array.getElem?_eq_some_iff.mp h3).1
  have other : ∀ b, b ≠ T → (s.heap.update T (Obj.mapFields (·.setIfInBounds 3 ((some L : Option Addr).elim Value.none fun f => rawInt f)))).get? b = s.heap.get? b :=
    fun b hb => Heap.get?_update_other _ _ (Ne.symm hb)
  have noRecord : ∀ b o, s.heap.get? b = some o → (∀ vs, o.data ≠ .fields vs) → b ≠ T := fun b o hb hnf q => by
    rw [q, hT] at hb; injection hb with hb; subst hb; exact hnf ts hdT
  unfold cameBackBy
  refine wpAny_bind (wpAny_field he hd h1 ?_)
  rw [if_neg (show ¬ ((Value.ref T == Value.none) = true) from Bool.false_ne_true)]
  rw [hf]
  show wpAny _ _ (setFlight (.ref e) (some L)) _ _ _
  unfold setFlight
  refine wpAny_bind (wpAny_field he hd h1 ?_)
  rw [if_pos (show (Value.ref T != Value.none) = true from by simp)]
  refine wpAny_setField hT hdT hsz3 (hE _ ⟨fun b o hbo => (other b fun q => by rw [q, hnT] at hbo; cases hbo).trans (k1 b o hbo), k2, k3.of_keeps fun b o hb hnf => ⟨o, (other b (noRecord b o hb hnf)).trans hb, rfl⟩, ?_⟩ fun b o hb hnf => ⟨o.slots, (other b (noRecord b o hb hnf)).trans hb⟩)
  exact ⟨oe, vs, T, _, _, (other e (Ne.symm hTe)).trans he, hcls, hd, h1, hnT, hTe, Heap.get?_update_self _ hT (Obj.isFreed_of_fields (Obj.data_mapFields hdT _)), Obj.data_mapFields hdT _, by simp [hsz3]⟩

theorem exc_leave {Q : Unit → Shared → Prop} (hfr : A.frames = some (env :: outer)) (hf : env.frame = some L) (x : ExcAt base (env :: outer) L e cls s.heap)
    (hQ : ∀ h' a0, Heap.FlyingW base outer e cls a0 h' → s.heap.UpToSlots h' → Q () { s with heap := h' }) : wpAny M A (leaving env (.ref e)) Q E s := by
  unfold leaving
  refine wpAny_bind (exc_note hfr hf x fun h' a0 hh hu => ?_)
  refine wpAny_landsW hh fun h'' hfl hu' => ?_
  obtain ⟨k1, k2, ⟨_, _, k3⟩, k4⟩ := hfl
  exact hQ h'' a0 ⟨k1, k2, k3, k4⟩ (hu.trans hu')
end
end Mine
namespace Mine
open PySem PySem.Calls PySem.W PyProof.Rows
section
variable {G : Gd} {W : Wd} {σ : Sto} {s : Shared} {base h' : Heap}
theorem KOk.get {h : Heap} {a : Addr} {k : Kl} (q : KOk G W σ h a k) (hk : ∀ m, k ≠ .ns m) (f : ∀ o, h.get? a = some o → h'.get? a = some o) (g : ∀ i, k = .sto i → ∀ d o, W d = some (.aux i) → h.get? d = some o → h'.get? d = some o) : KOk G W σ h' a k :=
  q.mono (Ext.refl W).fx f g fun _ _ _ h => h
theorem Inv.fly (I : Inv G W σ s) (B : BaseOf G W base s.heap) (k : base.StaysIn h') (u : s.heap.UpToSlots h') : Inv G W σ { s with heap := h' } ∧ BaseOf G W base h' := by
  have st : ∀ {a kl o}, W a = some kl → (∀ m, kl ≠ .ns m) → s.heap.get? a = some o → h'.get? a = some o := fun h1 h2 h3 => k _ _ (B.at' _ _ _ h1 h2 h3)
  refine ⟨⟨fun b o e => k b o (B.keep b o e), fun a kl e => ?_, I.inj, I.full, I.gens, I.os, fun b o e => let ⟨h1, n, h⟩ := I.pin b o e; ⟨k b o (B.at' b _ o h (fun _ q => nomatch q) h1), n, h⟩⟩, B.keep, fun a kl o e n h => ?_⟩
  · have q := I.pl a kl e
    by_cases hn : ∃ m, kl = .ns m
    · obtain ⟨m, rfl⟩ := hn
      cases q with
      | ns ho new => exact .ns (u.ns ho) new
    · exact q.get (fun m q => hn ⟨m, q⟩) (fun o ho => st e (fun m q => hn ⟨m, q⟩) ho) fun i hi d o hd ho => st hd (fun m q => by cases q) ho
  · obtain ⟨o', ho'⟩ := (I.pl a kl e).ex
    have := st e n ho'
    rw [h] at this; cases this
    exact B.at' a kl o e n ho'
end
end Mine

namespace Mine
open PySem PySem.Calls PySem.W PyProof.Rows
set_option maxRecDepth 100000

noncomputable def Own (x : Fx) (b : Addr) : Prop := b = x.env.locals ∨ ∃ (i : Nat) (y : Str), x.k.C.vars[i]? = some (some y) ∧ x.env.kindOf y = some .cell ∧ x.env.cells.lookup y = some b
noncomputable def VarsND (vars : List (Option Str)) : Prop := ∀ (i j : Nat) (x : Str), vars[i]? = some (some x) → vars[j]? = some (some x) → i = j
noncomputable def Fx.top (x : Fx) : Prop := ∃ rest, x.envs = x.env :: rest

inductive PostS (G : Gd) (x : Fx) (W : Wd) (r : Res Fl) (fl : Flow) (s' : Shared) : Prop
  | next (ρ' : Rho) (σ' : Sto) (W' : Wd) (h1 : r = .ok (.next ρ') σ') (hf : fl = .next) (h2 : ExtB (Own x) W W') (h3 : Inv G W' σ' s') (h4 : En G x W' ρ') : PostS G x W r fl s'
  | ret (d : D) (v : Value) (ρ' : Rho) (σ' : Sto) (W' : Wd) (h1 : r = .ok (.ret d) σ') (hf : fl = .ret v) (h2 : ExtB (Own x) W W') (h3 : Inv G W' σ' s') (h4 : En G x W' ρ') (h5 : Rel G W' d v) : PostS G x W r fl s'
inductive PostSX (G : Gd) (x : Fx) (W : Wd) (r : Res Fl) (v : Value) (s' : Shared) : Prop
  | mk (c : Nat) (ρ' : Rho) (σ' : Sto) (W' : Wd) (e : Addr) (base : Heap) (L : Addr) (h1 : r = .ok (.exc c ρ') σ') (hv : v = .ref e) (h2 : ExtB (Own x) W W') (h3 : Inv G W' σ' s') (h4 : En G x W' ρ') (hb : BaseOf G W' base s'.heap) (hL : x.env.frame = some L) (xa : ExcAt base x.envs L e (G.ec c) s'.heap) : PostSX G x W r v s'
noncomputable abbrev DoS (G : Gd) (x : Fx) (W : Wd) (s : Shared) (m : Sem Flow) (r : Res Fl) : Prop := wpAny G.M x.A m (PostS G x W r) (PostSX G x W r) s

section
variable {G : Gd} {x : Fx} {W W₁ : Wd} {ρ : Rho} {k : Ky} {σ : Sto} {s s' : Shared} {r : Res Fl}
theorem PostS.after {fl : Flow} (h : ExtB (Own x) W W₁) (p : PostS G x W₁ r fl s') : PostS G x W r fl s' := by
  cases p with
  | next ρ' σ' W' h1 hf h2 h3 h4 => exact .next ρ' σ' W' h1 hf (h.trans h2) h3 h4
  | ret d v ρ' σ' W' h1 hf h2 h3 h4 h5 => exact .ret d v ρ' σ' W' h1 hf (h.trans h2) h3 h4 h5
theorem PostSX.after {v : Value} (h : ExtB (Own x) W W₁) (p : PostSX G x W₁ r v s') : PostSX G x W r v s' :=
  let ⟨c, ρ', σ', W', e, base, L, h1, hv, h2, h3, h4, hb, hL, xa⟩ := p; ⟨c, ρ', σ', W', e, base, L, h1, hv, h.trans h2, h3, h4, hb, hL, xa⟩
theorem DoS.after {m : Sem Flow} (p : DoS G x W₁ s m r) (h : ExtB (Own x) W W₁) : DoS G x W s m r := wpAny_mono p (fun _ _ p => p.after h) fun _ _ p => p.after h
theorem En.frame (E : En G x W ρ) : ∃ L, x.env.frame = some L := by
  obtain ⟨e0, rest, h1, h2⟩ := E.hf
  obtain ⟨_, L, m, h3, _⟩ := E.frs e0 (by rw [h1]; exact .head _)
  exact ⟨L, by rw [← h2]; exact h3⟩
theorem PostX.stm {δ : Type} {r : Cm δ} {g : δ → Cm Fl} {v : Value} (E : En G x W ρ) (p : PostX G W x.envs (r σ) v s') : PostSX G x W (r.stm ρ g σ) v s' := by
  obtain ⟨c, σ', W', e, base, a0, h1, hv, h2, h3, hb, hf⟩ := p
  obtain ⟨L, hL⟩ := E.frame
  exact ⟨c, ρ, σ', W', e, base, L, Cm.stm_exc h1, hv, h2.b, h3, E.ext h2, hb, hL, flying_exc hf⟩
theorem stm_ne {δ : Type} {r : Cm δ} {g : δ → Cm Fl} (h : r.stm ρ g σ ≠ .stuck) : r σ ≠ .stuck := fun q => h (by unfold Cm.stm; rw [q])
theorem Sim.stm {α δ : Type} {R : Wd → δ → α → Prop} {m : Sem α} {f : α → Sem Flow} {r : Cm δ} {g : δ → Cm Fl} (h : Sim G x W R m r) (E : En G x W ρ) (I : Inv G W σ s) (hr : r.stm ρ g σ ≠ .stuck)
    (hk : ∀ d v W₁ σ₁ s₁, Ext W W₁ → R W₁ d v → Inv G W₁ σ₁ s₁ → g d σ₁ ≠ .stuck → DoS G x W₁ s₁ (f v) (g d σ₁)) : DoS G x W s (m >>= f) (r.stm ρ g σ) := by
  refine wpAny_bind (wpAny_mono (h W σ s (Ext.refl _) I (stm_ne hr)) (fun v s₁ p => ?_) fun v s₁ p => p.stm E)
  obtain ⟨d, σ₁, W₁, h1, h2, h3, h4⟩ := p
  rw [Cm.stm_ok h1] at hr ⊢
  exact (hk d v W₁ σ₁ s₁ h2 h4 h3 hr).after h2.b

theorem own_get {C : CC} {y : Str} {i : Nat} (h : C.own y = some i) : C.vars[i]? = some (some y) ∧ (C.kind y = some .local ∨ C.kind y = some .cell) := by
  obtain ⟨hk, h⟩ := Option.ite_none_right_eq_some.mp h
  exact ⟨lastIdx_get h, (Bool.or_eq_true_iff.mp hk).imp eq_of_beq eq_of_beq⟩
theorem set_some {i j : Nat} {o : Option D} {d : D} (h : (ρ.set i o)[j]? = some (some d)) (hj : j = i) : o = some d := by
  subst hj
  rw [List.getElem?_set] at h
  rw [if_pos rfl] at h
  split at h
  · injection h
  · cases h
theorem En.setL (E : En G x W ρ) {i : Nat} {y : Str} {m m' : Str → Option Value} {o : Option D} (hw : W x.env.locals = some (.ns m)) (hk : x.env.kindOf y = some .local) (hi : x.k.C.vars[i]? = some (some y)) (hn : ∀ j : Nat, x.k.C.vars[j]? = some (some y) → j = i) (hm : ∀ z, z ≠ y → m' z = m z) (ho : ∀ d, o = some d → ∃ v, m' y = some v ∧ Rel G W d v) :
    En G x (W.put x.env.locals (some (.ns m'))) (ρ.set i o) := by
  have fx : Fix W (W.put x.env.locals (some (.ns m'))) := Fix.put hw rfl
  obtain ⟨m₀, hm₀, hv⟩ := E.ns
  rw [hw] at hm₀; cases hm₀
  refine ⟨E.kind, E.glob, E.blt, ⟨m', put_self, fun j z d h1 h2 h3 => ?_⟩, fun j z h1 h2 => ?_, E.apart, by rw [List.length_set]; exact E.len, E.fr, E.hf, fun e he => ?_, E.depth, E.units, E.handled, E.sc, E.gg⟩
  · by_cases hj : j = i
    · obtain ⟨v, h4, h5⟩ := ho d (set_some h3 hj)
      subst hj
      rw [hi] at h1; cases h1
      exact ⟨v, h4, h5.mono fx⟩
    · rw [List.getElem?_set_ne (Ne.symm hj)] at h3
      obtain ⟨v, h4, h5⟩ := hv j z d h1 h2 h3
      exact ⟨v, by rw [hm z fun q => hj (hn j (q ▸ h1))]; exact h4, h5.mono fx⟩
  · have hj : j ≠ i := fun q => by
      subst q
      rw [hi] at h1; cases h1
      rcases h2 with h2 | h2 <;> (rw [hk] at h2; cases h2)
    obtain ⟨c, ov, h4, h5, h6⟩ := E.cells j z h1 h2
    refine ⟨c, ov, h4, by rw [put_ne fun q => by rw [q, hw] at h5; cases h5]; exact h5, fun d h7 => ?_⟩
    rw [List.getElem?_set_ne (Ne.symm hj)] at h7
    obtain ⟨v, h8, h9⟩ := h6 d h7
    exact ⟨v, h8, h9.mono fx⟩
  · obtain ⟨h1, L, m₁, h2, h3⟩ := E.frs e he
    by_cases hL : L = x.env.locals
    · exact ⟨h1, L, m', h2, by rw [hL]; exact put_self⟩
    · exact ⟨h1, L, m₁, h2, by rw [put_ne hL]; exact h3⟩
theorem En.setC (E : En G x W ρ) {i : Nat} {y : Str} {c : Addr} {ov : Option Value} {d : D} {v : Value} (hw : W c = some (.cell ov)) (hk : x.env.kindOf y = some .cell) (hl : x.env.cells.lookup y = some c) (hi : x.k.C.vars[i]? = some (some y)) (hn : ∀ j : Nat, x.k.C.vars[j]? = some (some y) → j = i) (r : Rel G W d v) :
    En G x (W.put c (some (.cell (some v)))) (ρ.set i (some d)) := by
  have fx : Fix W (W.put c (some (.cell (some v)))) := Fix.put hw rfl
  obtain ⟨m, hm, hv⟩ := E.ns
  refine ⟨E.kind, E.glob, E.blt, ⟨m, by rw [put_ne fun q => by rw [q, hw] at hm; cases hm]; exact hm, fun j z d' h1 h2 h3 => ?_⟩, fun j z h1 h2 => ?_, E.apart, by rw [List.length_set]; exact E.len, E.fr, E.hf, fun e he => ?_, E.depth, E.units, E.handled, E.sc, E.gg⟩
  · have hj : j ≠ i := fun q => by
      subst q
      rw [hi] at h1; cases h1
      rw [hk] at h2; cases h2
    rw [List.getElem?_set_ne (Ne.symm hj)] at h3
    obtain ⟨v', h4, h5⟩ := hv j z d' h1 h2 h3
    exact ⟨v', h4, h5.mono fx⟩
  · by_cases hj : j = i
    · have : z = y := by subst hj; rw [hi] at h1; cases h1; rfl
      subst this
      exact ⟨c, some v, hl, put_self, fun d' h7 => by cases set_some h7 hj; exact ⟨v, rfl, r.mono fx⟩⟩
    · obtain ⟨c', ov', h4, h5, h6⟩ := E.cells j z h1 h2
      refine ⟨c', ov', h4, by rw [put_ne (fun q => hj (hn j (by rw [q] at h4; rw [E.apart z y c h4 hl] at h1; exact h1)))]; exact h5, fun d' h7 => ?_⟩
      rw [List.getElem?_set_ne (Ne.symm hj)] at h7
      obtain ⟨v', h8, h9⟩ := h6 d' h7
      exact ⟨v', h8, h9.mono fx⟩
  · obtain ⟨h1, L, m₁, h2, h3⟩ := E.frs e he
    exact ⟨h1, L, m₁, h2, by rw [put_ne fun q => by rw [q, hw] at h3; cases h3]; exact h3⟩
theorem set_vars1 (E : En G x W ρ) {i : Nat} {y : Str} {d : D} (hi : x.k.C.vars[i]? = some (some y)) : setVars ρ [i] [d] = some (ρ.set i (some d)) := by
  show (if i < ρ.length then some (ρ.set i (some d)) else none) = _
  rw [if_pos (by rw [E.len]; exact (List.getElem?_eq_some_iff.mp hi).1)]
structure Places (x : Fx) (y : Str) (i : Nat) (X : Addr → Prop) : Prop where
  own : x.k.C.own y = some i
  loc : x.env.kindOf y = some .local → X x.env.locals
  cell : ∀ c, x.env.kindOf y = some .cell → x.env.cells.lookup y = some c → X c
  one : ∀ j : Nat, x.k.C.vars[j]? = some (some y) → j = i
theorem own_places {x : Fx} {y : Str} {i : Nat} (hn : VarsND x.k.C.vars) (h : x.k.C.own y = some i) : Places x y i (Own x) := ⟨h, fun _ => .inl rfl, fun _ h1 h2 => .inr ⟨i, y, (own_get h).1, h1, h2⟩, fun j hj => hn j i y hj (own_get h).1⟩
theorem store_at {X : Addr → Prop} (E : En G x W ρ) (I : Inv G W σ s) {y : Str} {i : Nat} {d : D} {v : Value} (hX : Places x y i X) (r : Rel G W d v) {Q : Unit → Shared → Prop} {E' : Value → Shared → Prop}
    (h : ∀ W' s', ExtB X W W' → En G x W' (ρ.set i (some d)) → Inv G W' σ s' → Q () s') : wpAny G.M x.A (storeName x.env y v) Q E' s := by
  have hn := hX.one
  obtain ⟨hi, hk⟩ := own_get hX.own
  rcases hk with hk | hk
  · obtain ⟨m, hm, _⟩ := id E.ns
    cases I.pl _ _ hm with
    | ns hns new =>
      refine wpAny_storeName_local (E.kindOf hk) hns (fun h' hn' hs => ?_) (by rw [E.kind]; rfl)
      refine h _ _ (ExtB.put hm rfl (hX.loc (E.kindOf hk))) (E.setL (m' := fun z => if z = y then some v else m z) hm (E.kindOf hk) hi hn (fun z hz => if_neg hz) fun d' q => by cases q; exact ⟨v, if_pos rfl, r⟩) ?_
      exact I.write hm rfl (fun kl q => by cases q; exact ⟨fun _ q => (nomatch q), .ns hn' new⟩) (fun b o hb e => hs.extBut b o hb e) rfl rfl
  · obtain ⟨c, ov, h1, h2, _⟩ := E.cells i y hi (.inl (E.kindOf hk))
    cases I.pl _ _ h2 with
    | cell h3 new =>
      refine wpAny_storeName_cell E.kind (E.kindOf hk) h1 h3 fun h' hc' hs => ?_
      refine h _ _ (ExtB.put h2 rfl (hX.cell c (E.kindOf hk) h1)) (E.setC h2 (E.kindOf hk) h1 hi hn r) ?_
      exact I.write h2 rfl (fun kl q => by cases q; exact ⟨fun _ q => (nomatch q), .cell hc' new⟩) (fun b o hb e => hs.extBut b o hb e) rfl rfl

noncomputable def exx (G : Gd) (x : Fx) (c : CS) (ρ : Rho) : Cm Fl := ex (callN G.P x.k.n) x.hd c ρ
noncomputable def exsx (G : Gd) (x : Fx) (c : List CS) (ρ : Rho) : Cm Fl := exs (callN G.P x.k.n) x.hd c ρ
noncomputable def SS (G : Gd) (k : Ky) (st : Stmt) (c : CS) : Prop := ∀ {x : Fx} {W : Wd} {ρ : Rho} {σ : Sto} {s : Shared}, x.k = k → x.top → En G x W ρ → Inv G W σ s → exx G x c ρ σ ≠ .stuck → DoS G x W s (exec st x.env) (exx G x c ρ σ)
noncomputable def SSs (G : Gd) (k : Ky) (ss : List Stmt) (cs : List CS) : Prop := ∀ {x : Fx} {W : Wd} {ρ : Rho} {σ : Sto} {s : Shared}, x.k = k → x.top → En G x W ρ → Inv G W σ s → exsx G x cs ρ σ ≠ .stuck → DoS G x W s (execs ss x.env) (exsx G x cs ρ σ)
theorem nil_ss : SSs G k [] [] := fun _ _ E I _ => wpAny_execs_nil (.next _ _ _ rfl rfl (ExtB.refl _) I E)
theorem cons_ss {st : Stmt} {ss : List Stmt} {c : CS} {cs : List CS} (h : SS G k st c) (hs : SSs G k ss cs) : SSs G k (st :: ss) (c :: cs) := fun {x} {W} {ρ} {σ} {s} hk ht E I hr => by
  replace hr : (exx G x c ρ σ).bind (fun fl => match fl with | .next ρ' => exsx G x cs ρ' | fl => Cm.ok fl) ≠ .stuck := hr
  show DoS G x W s _ ((exx G x c ρ σ).bind (fun fl => match fl with | .next ρ' => exsx G x cs ρ' | fl => Cm.ok fl))
  refine wpAny_execs_cons (wpAny_mono (h hk ht E I (bind_ne hr)) (fun fl s₁ p => ?_) fun v s₁ p => ?_)
  · cases p with
    | next ρ' σ' W' h1 hf h2 h3 h4 =>
      subst hf
      rw [h1] at hr ⊢
      exact (hs hk ht h4 h3 hr).after h2
    | ret d v ρ' σ' W' h1 hf h2 h3 h4 h5 =>
      subst hf
      rw [h1]
      exact .ret d v ρ' σ' W' rfl rfl h2 h3 h4 h5
  · obtain ⟨c', ρ', σ', W', e, base, L, h1, hv, h2, h3, h4, hb, hL, xa⟩ := p
    rw [h1]
    exact ⟨c', ρ', σ', W', e, base, L, rfl, hv, h2, h3, h4, hb, hL, xa⟩
theorem pass_ss {pos : Pos} : SS G k (.Pass pos) .pass := fun _ _ E I _ => by
  rw [exec_Pass]
  exact wpAny_bind (wpAny_standAt (wpAny_pure (.next _ _ _ rfl rfl (ExtB.refl _) I E)))
theorem ret0_ss {pos : Pos} : SS G k (.Return none pos) (.ret none) := fun _ _ E I _ => by
  rw [exec_Return_none]
  exact wpAny_bind (wpAny_standAt (wpAny_pure (.ret _ _ _ _ _ rfl rfl (ExtB.refl _) I E .none)))
theorem ret_ss {e : PySem.Expr} {pos : Pos} {c : CE} (h : SE G k e c) : SS G k (.Return (some e) pos) (.ret (some c)) := fun {x} {W} {ρ} {σ} {s} hk _ E I hr => by
  rw [exec_Return_some]
  refine wpAny_bind (wpAny_standAt ?_)
  exact (h hk E).stm (g := fun d => Cm.ok (.ret d)) E I hr fun d v W₁ σ₁ s₁ e1 r I₁ _ => wpAny_pure (.ret d v ρ σ₁ W₁ rfl rfl (ExtB.refl _) I₁ (E.ext e1) r)
theorem if_ss {t : PySem.Expr} {b o : List Stmt} {pos : Pos} {ct : CE} {cb co : List CS} (ht : ST G k t ct) (hb : SSs G k b cb) (ho : SSs G k o co) : SS G k (.If t b o pos) (.iff ct cb co) := fun {x} {W} {ρ} {σ} {s} hk htop E I hr => by
  rw [exec_If]
  refine wpAny_bind (wpAny_standAt ?_)
  refine Sim.stm (g := fun (b : Bool) => if b = true then exsx G x cb ρ else exsx G x co ρ) (ht hk E) E I hr fun b b' W₁ σ₁ s₁ e1 (r : b = b') I₁ hr₁ => ?_
  subst r
  cases b with
  | true => exact hb hk htop (E.ext e1) I₁ hr₁
  | false => exact ho hk htop (E.ext e1) I₁ hr₁
theorem noswap {v : PySem.Expr} {t : Option PySem.Expr} {line : Nat} {env : Env} (h : isComp v = false) : swapsWith v t line env = pure false := by
  cases v <;> first | rfl | cases h
theorem expr_ss {e : PySem.Expr} {pos : Pos} {c : CE} (hc : isComp e = false) (h : SE G k e c) : SS G k (.Expr e pos) (.expr c) := fun {x} {W} {ρ} {σ} {s} hk _ E I hr => by
  replace hr : (evx G x c ρ).stm ρ (fun _ => Cm.ok (.next ρ)) σ ≠ .stuck := hr
  show DoS G x W s _ ((evx G x c ρ).stm ρ (fun _ => Cm.ok (.next ρ)) σ)
  refine wpAny_Expr_any (wpAny_mono (h hk E W σ s (Ext.refl _) I (stm_ne hr)) (fun v s₁ p => ?_) fun v s₁ p => p.stm E) (by unfold interactive; rw [E.kind]; rfl) (noswap hc)
  obtain ⟨d, σ₁, W₁, h1, h2, h3, h4⟩ := p
  exact .next ρ σ₁ W₁ (Cm.stm_ok h1) rfl h2.b h3 (E.ext h2)
theorem asg_ss {y : Str} {i : Nat} {v : PySem.Expr} {p pos : Pos} {c : CE} (hn : VarsND k.C.vars) (hx : k.C.own y = some i) (hc : isComp v = false) (h : SE G k v c) : SS G k (.Assign [.Name y p] v pos) (.asg i c) := fun {x} {W} {ρ} {σ} {s} hk _ E I hr => by
  subst hk
  rw [exec_Assign_Name _ _ _ _ _ (noswap hc)]
  refine wpAny_bind (wpAny_standAt ?_)
  refine (h rfl E).stm (g := fun d => Cm.opt ((setVars ρ [i] [d]).map .next)) E I hr fun d v W₁ σ₁ s₁ e1 r I₁ hr₁ => ?_
  rw [set_vars1 E (own_get hx).1]
  refine wpAny_bind (wpAny_standAt (wpAny_bind (wpAny_bindName (store_at (E.ext e1) I₁ (own_places hn hx) r fun W' s' h1 h2 h3 => ?_))))
  exact wpAny_pure (.next _ _ _ rfl rfl h1 h3 h2)
end
end Mine

namespace Mine
open PySem PySem.Calls PySem.W PyProof.Rows
set_option maxRecDepth 100000

theorem lookup_zip_self : ∀ {l : List (Str × Value)}, (l.map (·.1)).Nodup → ∀ p ∈ l, l.lookup p.1 = some p.2
  | [], _, p, hp => by cases hp
  | q :: l, hn, p, hp => by
    simp only [List.map_cons, List.nodup_cons] at hn
    rw [List.lookup_cons]
    cases hp with
    | head => simp
    | tail _ hp =>
      have : (p.1 == q.1) = false := by
        rw [beq_eq_false_iff_ne]
        intro e
        exact hn.1 (e ▸ List.mem_map_of_mem hp)
      rw [this]
      exact lookup_zip_self hn.2 p hp

theorem filterMap_lookup {l : List (Str × Value)} (hn : (l.map (·.1)).Nodup) : ∀ {k : List (Str × Value)}, (∀ p ∈ k, p ∈ l) → (k.map (·.1)).filterMap (fun x => (l.lookup x).map (x, ·)) = k
  | [], _ => rfl
  | p :: k, h => by
    simp only [List.map_cons]
    rw [List.filterMap_cons, lookup_zip_self hn p (h p (.head _)), Option.map_some]
    dsimp only
    rw [filterMap_lookup hn fun q hq => h q (.tail _ hq)]

theorem bind_plain {fd : FuncData} {as : List Arg} {vs : List Value} (hp : fd.params = ⟨[], as, none, [], [], none, []⟩) (hd : fd.defaults = .none) (hl : as.length = vs.length) (hn : (as.map (·.arg)).Nodup) :
    bindArgs fd ⟨vs, []⟩ = pure ((as.map (·.arg)).zip vs) := by
  have hz : ((as.map (·.arg)).zip vs).map (·.1) = as.map (·.arg) := by
    rw [List.map_fst_zip]; simp [hl]
  have key := filterMap_lookup (l := (as.map (·.arg)).zip vs) (by rw [hz]; exact hn) (k := (as.map (·.arg)).zip vs) fun _ h => h
  rw [hz] at key
  have hm : (as.map (·.arg)).filter (fun x => (((as.map (·.arg)).zip vs).lookup x).isNone) = [] := by
    rw [List.filter_eq_nil_iff]
    intro x hx
    rw [← hz] at hx
    obtain ⟨p, hp, rfl⟩ := List.mem_map.mp hx
    rw [lookup_zip_self (by rw [hz]; exact hn) p hp]; simp
  unfold bindArgs
  simp only [hp, hd]
  have e0 : (seqItems? Value.none : Sem (Option (Array Value))) = pure none := rfl
  have e1 : ∀ (g : Option (Array Value) → Sem (List (Str × Value))), (seqItems? Value.none >>= g) = g none := fun g => by rw [e0]; rfl
  simp only [List.map_nil, List.nil_append, List.append_nil, List.forIn_nil, pure_bind, Option.isSome_none, Option.isNone_none, e1]
  have c1 : (decide (vs.length > (as.map (·.arg)).length) && true) = false := by simp [hl]
  simp only [c1, Bool.false_eq_true, if_false, Option.getD_none, List.drop_nil, List.length_nil, Nat.sub_zero, List.take_length, hm, List.isEmpty_nil, Bool.not_true, List.drop_length, List.zip_nil_left, List.zip_nil_right, List.forIn_nil, pure_bind, key]

section
variable {k : Str → Option NameKind}
theorem bindL_out {x : Str} : ∀ {binds : List (Str × Value)} {m : Str → Option Value}, x ∉ binds.map (·.1) → bindL k binds m x = m x
  | [], _, _ => rfl
  | (y, v) :: r, m, h => by
    simp only [List.map_cons, List.mem_cons, not_or] at h
    rw [bindL, bindL_out h.2]
    split
    · exact if_neg h.1
    · rfl
theorem bindC_out {x : Str} : ∀ {binds : List (Str × Value)} {m : Str → Option Value}, x ∉ binds.map (·.1) → bindC k binds m x = m x
  | [], _, _ => rfl
  | (y, v) :: r, m, h => by
    simp only [List.map_cons, List.mem_cons, not_or] at h
    rw [bindC, bindC_out h.2]
    split
    · rfl
    · exact if_neg h.1
theorem bindL_get : ∀ {binds : List (Str × Value)} {m : Str → Option Value}, (binds.map (·.1)).Nodup → ∀ p ∈ binds, k p.1 = some .local → bindL k binds m p.1 = some p.2
  | [], _, _, p, hp, _ => by cases hp
  | (y, v) :: r, m, hn, p, hp, hk => by
    simp only [List.map_cons, List.nodup_cons] at hn
    rw [bindL]
    cases hp with
    | head => rw [bindL_out hn.1, if_pos hk]; simp
    | tail _ hp => exact bindL_get hn.2 p hp hk
theorem bindC_get : ∀ {binds : List (Str × Value)} {m : Str → Option Value}, (binds.map (·.1)).Nodup → ∀ p ∈ binds, k p.1 = some .cell → bindC k binds m p.1 = some p.2
  | [], _, _, p, hp, _ => by cases hp
  | (y, v) :: r, m, hn, p, hp, hk => by
    simp only [List.map_cons, List.nodup_cons] at hn
    rw [bindC]
    cases hp with
    | head => rw [bindC_out hn.1, if_neg (by rw [hk]; simp)]; simp
    | tail _ hp => exact bindC_get hn.2 p hp hk
end

theorem lookup_isSome_cons {x y : Str} {c : Addr} {l : List (Str × Addr)} (h : (l.lookup x).isSome = true) : (((y, c) :: l).lookup x).isSome = true := by
  rw [List.lookup_cons]
  split
  · rfl
  · exact h
theorem cells_acc {x : Str} : ∀ {names : List (Str × NameKind)} {n : Nat} {acc : List (Str × Addr)}, (acc.lookup x).isSome = true → ((cellsFrom n names acc).lookup x).isSome = true
  | [], _, _, h => h
  | (y, kd) :: r, n, acc, h => by
    rw [cellsFrom]
    split
    · exact cells_acc (lookup_isSome_cons h)
    · exact cells_acc h
set_option tactic.hygienic true in
theorem cells_has {x : Str} : ∀ {names : List (Str × NameKind)} {n : Nat} {acc : List (Str × Addr)}, names.lookup x = some .cell → ((cellsFrom n names acc).lookup x).isSome = true
  | [], _, _, h => by cases h
  | (y, kd) :: r, n, acc, h => by
    rw [List.lookup_cons] at h
    rw [cellsFrom]
    split at h
    · rename_i e
      cases h
      rw [if_pos (by decide)]
      refine cells_acc ?_
      rw [List.lookup_cons, e]; rfl
    · split
      · exact cells_has h
      · exact cells_has h
set_option tactic.hygienic true in
theorem mem_of_lookup' {x : Str} {α : Type} {c : α} : ∀ {l : List (Str × α)}, l.lookup x = some c → (x, c) ∈ l
  | [], h => by cases h
  | (y, d) :: l, h => by
    rw [List.lookup_cons] at h
    split at h
    · rename_i e
      cases h
      rw [eq_of_beq e]; exact .head _
    · exact .tail _ (mem_of_lookup' h)
theorem apart_inj {x y : Str} {c : Addr} : ∀ {l : List (Str × Addr)}, (l.Pairwise fun p q => p.2 ≠ q.2) → (x, c) ∈ l → (y, c) ∈ l → x = y
  | [], _, h, _ => by cases h
  | p :: l, hp, h1, h2 => by
    rw [List.pairwise_cons] at hp
    cases h1 with
    | head =>
      cases h2 with
      | head => rfl
      | tail _ h2 => exact absurd rfl (hp.1 (y, c) h2)
    | tail _ h1 =>
      cases h2 with
      | head => exact absurd rfl (hp.1 (x, c) h1)
      | tail _ h2 => exact apart_inj hp.2 h1 h2

theorem plainArgs_eq {a : Arguments} {ps : List Str} (h : plainArgs a = some ps) : ∃ as, a = ⟨[], as, none, [], [], none, []⟩ ∧ ps = as.map (·.arg) := by
  obtain ⟨hk, h⟩ := Option.ite_none_right_eq_some.mp h
  obtain ⟨a1, a2, a3, a4, a5, a6, a7⟩ := a
  simp only [Bool.and_eq_true, List.isEmpty_iff, Option.isNone_iff_eq_none] at hk
  obtain ⟨⟨⟨⟨⟨rfl, rfl⟩, rfl⟩, rfl⟩, rfl⟩, rfl⟩ := hk
  injection h with h
  exact ⟨_, rfl, h.symm⟩
noncomputable def Wd.cells (W : Wd) (cs : List (Str × Addr)) (cm : Str → Option Value) : Wd := fun a => match cs.find? fun p => cs.lookup p.1 == some a with
  | some p => some (.cell (cm p.1))
  | none => W a
theorem cells_self {W : Wd} {cs : List (Str × Addr)} {cm : Str → Option Value} {y : Str} {c : Addr} (ap : ∀ y z c, cs.lookup y = some c → cs.lookup z = some c → y = z) (h : cs.lookup y = some c) : W.cells cs cm c = some (.cell (cm y)) := by
  unfold Wd.cells
  cases hf : cs.find? fun p => cs.lookup p.1 == some c with
  | none => exact absurd (by simpa using h) (List.find?_eq_none.mp hf _ (mem_of_lookup' h))
  | some p =>
    have : cs.lookup p.1 = some c := by simpa using List.find?_some hf
    show some (Kl.cell (cm p.1)) = _
    rw [ap _ _ _ this h]
theorem cells_out {W : Wd} {cs : List (Str × Addr)} {cm : Str → Option Value} {a : Addr} (h : ∀ y, cs.lookup y ≠ some a) : W.cells cs cm a = W a := by
  unfold Wd.cells
  rw [List.find?_eq_none.mpr fun p _ => by simpa using h p.1]
theorem cells_inv {W : Wd} {cs : List (Str × Addr)} {cm : Str → Option Value} {a : Addr} {k : Kl} (h : W.cells cs cm a = some k) : (∃ y, cs.lookup y = some a ∧ k = .cell (cm y)) ∨ ((∀ y, cs.lookup y ≠ some a) ∧ W a = some k) := by
  unfold Wd.cells at h
  cases hf : cs.find? fun p => cs.lookup p.1 == some a with
  | none => rw [hf] at h; exact .inr ⟨fun y hy => absurd (by simpa using hy) (List.find?_eq_none.mp hf _ (mem_of_lookup' hy)), h⟩
  | some p => rw [hf] at h; cases h; exact .inl ⟨p.1, by simpa using List.find?_some hf, rfl⟩

section
variable {G : Gd} {x : Fx} {W : Wd} {ρ : Rho} {k : Ky} {σ : Sto} {s s' : Shared}
theorem Inv.frame (I : Inv G W σ s) {L : Addr} {m cm : Str → Option Value} {cs : List (Str × Addr)} (X : InCallC s L m cs cm s') (hL : L = s.heap.objs.size) (hc : ∀ y c, cs.lookup y = some c → L < c) : Ext W ((W.put L (some (.ns m))).cells cs cm) ∧ Inv G ((W.put L (some (.ns m))).cells cs cm) σ s' := by
  obtain ⟨⟨⟨h', tk, e⟩, ns, keep, _⟩, cell, _, _⟩ := X
  have fresh : ∀ {b : Addr}, L ≤ b → W b = none ∧ G.H.get? b = none := fun hb => by
    have : s.heap.get? _ = none := Heap.get?_none_of_le (hL ▸ hb)
    exact ⟨I.nobody this, I.hnone this⟩
  have ext : Ext W ((W.put L (some (.ns m))).cells cs cm) := fun a kl h => by
    rw [cells_out fun y hy => ?_, put_ne fun q => ?_]
    · exact h
    · subst q; rw [(fresh (Nat.le_refl _)).1] at h; cases h
    · rw [(fresh (Nat.le_of_lt (hc y a hy))).1] at h; cases h
  have I' : Inv G W σ s' := I.grow keep (by rw [e]) (by rw [e])
  refine ⟨ext, I'.keep, fun a kl h => ?_, fun a b i h1 h2 => ?_, fun i hi => ?_, I'.gens, I'.os, fun b o e => let ⟨h1, n, h⟩ := I'.pin b o e; ⟨h1, n, ext _ _ h⟩⟩
  · rcases cells_inv h with ⟨y, hy, rfl⟩ | ⟨_, h⟩
    · exact .cell (cell y a hy) (fresh (Nat.le_of_lt (hc y a hy))).2
    · by_cases ha : a = L
      · subst ha; rw [put_self] at h; cases h; exact .ns ns (fresh (Nat.le_refl _)).2
      · rw [put_ne ha] at h
        exact (I'.pl a kl h).mono ext.fx (fun o h => h) (fun _ _ _ _ _ h => h) fun _ _ _ h => h
  · have nb : ∀ z, (W.put L (some (.ns m))).cells cs cm z = some (.sto i) → W z = some (.sto i) := fun z e => by
      rcases cells_inv e with ⟨_, _, q⟩ | ⟨_, e⟩
      · cases q
      · by_cases hz : z = L
        · subst hz; rw [put_self] at e; cases e
        · rwa [put_ne hz] at e
    exact I.inj a b i (nb a h1) (nb b h2)
  · obtain ⟨b, hb⟩ := I.full i hi
    exact ⟨b, ext b _ hb⟩

structure FnParts (g : CG) (a : Arguments) (body : List Stmt) (sc : Scope) (fn : CFn) (as : List Arg) (cs : List CS) : Prop where
  args : a = ⟨[], as, none, [], [], none, []⟩
  fn : fn = ⟨as.length, (varsOf (as.map (·.arg)) sc).length, cs⟩
  comp : cSs fuelC ⟨g, (varsOf (as.map (·.arg)) sc).map some, sc⟩ body = some cs
  kind : sc.kind = .function
  gen : sc.isGenerator = false
  co : sc.isCoroutine = false
  kinds : ∀ x ∈ as.map (·.arg), sc.names.lookup x = some .local ∨ sc.names.lookup x = some .cell
  nd : (varsOf (as.map (·.arg)) sc).Nodup
  free : ∀ p ∈ sc.names, p.2 ≠ .free
theorem cFn_parts {g : CG} {a : Arguments} {body : List Stmt} {sc : Scope} {fn : CFn} (h : cFn g a body sc = some fn) : ∃ as cs, FnParts g a body sc fn as cs := by
  obtain ⟨ps, hp, h⟩ := Option.bind_eq_some_iff.mp h
  obtain ⟨as, rfl, rfl⟩ := plainArgs_eq hp
  obtain ⟨hc, h⟩ := Option.ite_none_right_eq_some.mp h
  obtain ⟨cs, hcs, rfl⟩ := Option.map_eq_some_iff.mp h
  simp only [Bool.and_eq_true, beq_iff_eq, Bool.not_eq_true', List.all_eq_true, Bool.or_eq_true, bne_iff_ne, ne_eq] at hc
  obtain ⟨⟨⟨⟨⟨h1, h2⟩, h3⟩, h4⟩, h5⟩, h6⟩ := hc
  exact ⟨as, cs, rfl, by rw [List.length_map], hcs, h1, h2, h3, h4, nodupB_nodup h5, h6⟩
theorem map_some_nd {l : List Str} (h : l.Nodup) : VarsND (l.map some) := by
  intro i j x hi hj
  rw [List.getElem?_map] at hi hj
  obtain ⟨a, ha, ea⟩ := Option.map_eq_some_iff.mp hi
  obtain ⟨b, hb, eb⟩ := Option.map_eq_some_iff.mp hj
  cases ea; cases eb
  obtain ⟨l1, e1⟩ := List.getElem?_eq_some_iff.mp ha
  obtain ⟨l2, e2⟩ := List.getElem?_eq_some_iff.mp hb
  exact (List.getElem_inj h).mp (e1.trans e2.symm)
theorem params_at {ps : List Str} {sc : Scope} {ds : List D} {vs : List Value} (hlen : ds.length = ps.length) (r : RelL G W ds vs) {i : Nat} {y : Str} {d : D} (h1 : ((varsOf ps sc).map some)[i]? = some (some y)) (h2 : (ds.map some ++ List.replicate ((varsOf ps sc).length - ps.length) none)[i]? = some (some d)) : ∃ v, (y, v) ∈ ps.zip vs ∧ Rel G W d v := by
  rcases Nat.lt_or_ge i ds.length with hi | hi
  · rw [List.getElem?_append_left (by rw [List.length_map]; exact hi), List.getElem?_map] at h2
    obtain ⟨d', hd', e⟩ := Option.map_eq_some_iff.mp h2
    cases e
    obtain ⟨v, hv, rv⟩ := r.get hd'
    refine ⟨v, ?_, rv⟩
    rw [List.getElem?_map] at h1
    obtain ⟨y', hy', e⟩ := Option.map_eq_some_iff.mp h1
    cases e
    unfold varsOf at hy'
    rw [List.getElem?_append_left (by rw [← hlen]; exact hi)] at hy'
    exact List.mem_of_getElem? (i := i) (by rw [List.getElem?_zip_eq_some]; exact ⟨hy', hv⟩)
  · rw [List.getElem?_append_right (by rw [List.length_map]; exact hi), List.getElem?_replicate] at h2
    split at h2 <;> cases h2

structure Base (G : Gd) (n : Nat) (hd : Bool) (A : Around) (envs : List Env) (W : Wd) : Prop where
  fr : A.frames = some envs
  frs : ∀ e ∈ envs, e.scope.kind ≠ .module ∧ ∃ L m, e.frame = some L ∧ W L = some (.ns m)
  depth : A.depth + 1 + 4 * n < recursionLimit
  units : A.units + 3 + 100 * n < cLine
  handled : hd = false → A.handled = none ∧ G.pin = none
theorem En.base (E : En G x W ρ) : Base G x.k.n x.hd x.A x.envs W := ⟨E.fr, E.frs, by have := E.depth; omega, by have := E.units; omega, E.handled⟩
theorem Base.ext {n : Nat} {hd : Bool} {A : Around} {envs : List Env} {W' : Wd} (B : Base G n hd A envs W) (e : Ext W W') : Base G n hd A envs W' :=
  ⟨B.fr, fun f hf => let ⟨h1, L, m, h2, h3⟩ := B.frs f hf; ⟨h1, L, m, h2, e _ _ h3⟩, B.depth, B.units, B.handled⟩

theorem fn_code1 {n : Nat} {hd : Bool} {A : Around} {envs : List Env} (ok : GOk G) {i : Nat} {f : Addr} (hf : FnAt G f i) (hb : ∀ (C : CC) (ss : List Stmt) (cs : List CS), C.g = G.g → VarsND C.vars → cSs fuelC C ss = some cs → SSs G ⟨n, C⟩ ss cs) (B : Base G (n + 1) hd A envs W) (I : Inv G W σ s) {ds : List D} {vs : List Value} (r : RelL G W ds vs)
    (hr : callN G.P (n + 1) hd i ds σ ≠ .stuck) {R : Result → Shared → Prop} (hq : ∀ v s', Post G W (Rel G) (callN G.P (n + 1) hd i ds σ) v s' → R (.ok (.ret v)) s') (hqx : ∀ v s', PostX G W envs (callN G.P (n + 1) hd i ds σ) v s' → R (.error v) s') : codeAny G.M A (.call (.ref f) ⟨vs, []⟩) R s := by
  obtain ⟨o, fd, fn, body, ho, hdata, hbody, hglob, hclos, hdef, hblt, hcd, hP, hc⟩ := hf.ex
  obtain ⟨as, cs, P⟩ := cFn_parts hc
  have hfn := P.fn
  subst hfn
  have e0 : callN G.P (n + 1) hd i ds = if ds.length = as.length ∧ as.length ≤ (varsOf (as.map (·.arg)) fd.scope).length then (fun σ => endCall (exs (callN G.P n) hd cs (ds.map some ++ List.replicate ((varsOf (as.map (·.arg)) fd.scope).length - as.length) none) σ)) else Cm.stuck := by
    rw [callN, hP]
  rw [e0] at hr hq hqx
  by_cases hlen : ds.length = as.length ∧ as.length ≤ (varsOf (as.map (·.arg)) fd.scope).length
  case neg => rw [if_neg hlen] at hr; exact absurd rfl hr
  rw [if_pos hlen] at hr hq hqx
  clear e0
  have hvl : as.length = vs.length := by rw [← r.length, hlen.1]
  have hpn : (as.map (·.arg)).Nodup := by
    have := P.nd
    unfold varsOf at this
    exact (List.nodup_append.mp this).1
  have hroom : A.depth < recursionLimit := by have := B.depth; omega
  refine codeAny_call_function hroom (I.keep _ _ ho) hdata P.co P.gen hbody (hcd.keeps I.keep) ?_
  rw [bind_plain P.args hdef hvl hpn]
  refine wpAny_pure ?_
  rw [hclos]
  refine wpAny_newFunctionEnv_cells P.kind (fun p hp => ?_) fun env' he s' X => ?_
  · rcases P.kinds p.1 (List.of_mem_zip (a := p.1) (b := p.2) hp).1 with h | h
    · exact .inl h
    · exact .inr ⟨h, cells_has h⟩
  have hL : env'.locals = s.heap.objs.size := by rw [he]; rfl
  have hz : ((as.map (·.arg)).zip vs).map (·.1) = as.map (·.arg) := by
    rw [List.map_fst_zip]; rw [List.length_map, hvl]; exact Nat.le_refl _
  have ap : ∀ y z c, env'.cells.lookup y = some c → env'.cells.lookup z = some c → y = z := fun y z c h1 h2 => apart_inj X.apart (mem_of_lookup' h1) (mem_of_lookup' h2)
  obtain ⟨ext, I'⟩ := I.frame X hL fun y c h => X.above y c (mem_of_lookup' h)
  generalize hx : (⟨⟨n, ⟨G.g, (varsOf (as.map (·.arg)) fd.scope).map some, fd.scope⟩⟩, hd, A.deeper env', env', env' :: envs⟩ : Fx) = x'
  have hsc : env'.scope = fd.scope := by rw [he]; rfl
  have hsize : ∀ a, Own x' a → W a = none := fun a h => by
    subst hx
    refine I.nobody (Heap.get?_none_of_le ?_)
    rcases h with h | ⟨_, y, _, _, h⟩
    · rw [h, ← hL]; exact Nat.le_refl _
    · rw [← hL]; exact Nat.le_of_lt (X.above y a (mem_of_lookup' h))
  have nL : ∀ y, env'.cells.lookup y ≠ some env'.locals := fun y h => Nat.lt_irrefl _ (X.above y _ (mem_of_lookup' h))
  have E' : En G x' ((W.put env'.locals (some (.ns (bindL env'.kindOf ((as.map (·.arg)).zip vs) fun _ => none)))).cells env'.cells (bindC env'.kindOf ((as.map (·.arg)).zip vs) fun _ => none)) (ds.map some ++ List.replicate ((varsOf (as.map (·.arg)) fd.scope).length - as.length) none) := by
    subst hx
    refine ⟨by show env'.scope.kind = _; rw [hsc]; exact P.kind, by rw [he]; exact hglob, by rw [he]; exact hblt, ⟨_, by rw [cells_out nL]; exact put_self, fun j y d h1 h2 h3 => ?_⟩, fun j y h1 h2 => ?_, ap, ?_, Around.frames_deeper B.fr, ⟨env', envs, rfl, rfl⟩, fun e h => ?_, ?_, ?_, B.handled, hsc, rfl⟩
    · obtain ⟨v, hv, rv⟩ := params_at (ps := as.map (·.arg)) (by rw [List.length_map]; exact hlen.1) r h1 (by rw [List.length_map]; exact h3)
      exact ⟨v, bindL_get (by rw [hz]; exact hpn) (y, v) hv h2, rv.mono ext.fx⟩
    · have hkc : env'.kindOf y = some .cell := by
        rcases h2 with h2 | h2
        · exact h2
        · have h2 : env'.scope.names.lookup y = some .free := h2
          rw [hsc] at h2
          exact absurd rfl (P.free _ (mem_of_lookup' h2))
      have hs := cells_has (n := s.heap.objs.size + 1) (acc := []) (show fd.scope.names.lookup y = some .cell by rw [← hsc]; exact hkc)
      have hcs : env'.cells = cellsFrom (s.heap.objs.size + 1) fd.scope.names [] := by rw [he]; rfl
      rw [← hcs] at hs
      obtain ⟨c, hc⟩ := Option.isSome_iff_exists.mp hs
      refine ⟨c, _, hc, cells_self ap hc, fun d h3 => ?_⟩
      obtain ⟨v, hv, rv⟩ := params_at (ps := as.map (·.arg)) (by rw [List.length_map]; exact hlen.1) r h1 (by rw [List.length_map]; exact h3)
      exact ⟨v, bindC_get (by rw [hz]; exact hpn) (y, v) hv hkc, rv.mono ext.fx⟩
    · simp only [List.length_append, List.length_map, List.length_replicate]
      have := hlen.1; have := hlen.2
      omega
    · cases h with
      | head => exact ⟨by rw [hsc, P.kind]; simp, env'.locals, _, by rw [he]; rfl, by rw [cells_out nL]; exact put_self⟩
      | tail _ h =>
        obtain ⟨h1, L, m, h2, h3⟩ := B.frs e h
        exact ⟨h1, L, m, h2, ext _ _ h3⟩
    · have := B.depth
      show A.depth + 1 + 4 * (n + 1) < recursionLimit
      omega
    · have := B.units
      show A.units + 3 + 100 * (n + 1) < cLine
      omega
  have hk' : x'.k = ⟨n, ⟨G.g, (varsOf (as.map (·.arg)) fd.scope).map some, fd.scope⟩⟩ := by subst hx; rfl
  have htop : x'.top := by subst hx; exact ⟨envs, rfl⟩
  have hexs : exsx G x' cs = exs (callN G.P n) hd cs := by subst hx; rfl
  have hb' := hb _ body cs rfl (map_some_nd P.nd) P.comp hk' htop E' I' (by rw [hexs]; exact fun q => hr (by rw [q]; rfl))
  rw [hexs] at hb'
  have extB : ∀ {W₂ : Wd}, ExtB (Own x') ((W.put env'.locals (some (.ns (bindL env'.kindOf ((as.map (·.arg)).zip vs) fun _ => none)))).cells env'.cells (bindC env'.kindOf ((as.map (·.arg)).zip vs) fun _ => none)) W₂ → Ext W W₂ := fun h a kl e => h a kl (ext a kl e) fun _ q => by rw [hsize a q] at e; cases e
  have hA : x'.A = A.deeper env' := by subst hx; rfl
  have henv : x'.env = env' := by subst hx; rfl
  have henvs : x'.envs = env' :: envs := by subst hx; rfl
  unfold DoS at hb'
  rw [hA, henv] at hb'
  refine ⟨ok.lim.keeps I'.keep, codeAny_func (wpAny_mono hb' (fun fl s₂ p => ?_) fun v s₂ p => ?_)⟩
  · cases p with
    | next ρ' σ' W' h1 hf h2 h3 h4 =>
      subst hf
      exact hq _ _ ⟨.none, σ', W', by show endCall _ = _; rw [h1]; rfl, extB h2, h3, .none⟩
    | ret d v ρ' σ' W' h1 hf h2 h3 h4 h5 =>
      subst hf
      exact hq _ _ ⟨d, σ', W', by show endCall _ = _; rw [h1]; rfl, extB h2, h3, h5⟩
  · obtain ⟨c, ρ', σ', W', e, base, L, h1, hv, h2, h3, h4, hb, hLf, xa⟩ := p
    subst hv
    rw [henv] at hLf
    rw [henvs] at xa
    refine exc_leave (Around.frames_deeper B.fr) hLf xa fun h' a0 hfl hu => ?_
    obtain ⟨I₃, B₃⟩ := h3.fly hb hfl.1 hu
    exact hqx _ _ ⟨c, σ', W', e, base, a0, by show endCall _ = _; rw [h1]; rfl, rfl, extB h2, I₃, B₃, hfl⟩
noncomputable def Bod (G : Gd) (n : Nat) : Prop := ∀ n', n = n' + 1 → ∀ (C : CC) (ss : List Stmt) (cs : List CS), C.g = G.g → VarsND C.vars → cSs fuelC C ss = some cs → SSs G ⟨n', C⟩ ss cs
theorem fn_code {n : Nat} {hd : Bool} {A : Around} {envs : List Env} (ok : GOk G) {i : Nat} {f : Addr} (hf : FnAt G f i) (hb : Bod G n) (B : Base G n hd A envs W) (I : Inv G W σ s) {ds : List D} {vs : List Value} (r : RelL G W ds vs)
    (hr : callN G.P n hd i ds σ ≠ .stuck) {R : Result → Shared → Prop} (hq : ∀ v s', Post G W (Rel G) (callN G.P n hd i ds σ) v s' → R (.ok (.ret v)) s') (hqx : ∀ v s', PostX G W envs (callN G.P n hd i ds σ) v s' → R (.error v) s') : codeAny G.M A (.call (.ref f) ⟨vs, []⟩) R s := by
  cases n with
  | zero => exact absurd rfl hr
  | succ n => exact fn_code1 ok hf (hb n rfl) B I r hr hq hqx
theorem fn_sim {n : Nat} {hd : Bool} {A : Around} {envs : List Env} (ok : GOk G) {i : Nat} {f : Addr} (hf : FnAt G f i) (hb : Bod G n) (B : Base G n hd A envs W) (I : Inv G W σ s) {ds : List D} {vs : List Value} (r : RelL G W ds vs)
    (hr : callN G.P n hd i ds σ ≠ .stuck) : wpAny G.M A (call (.ref f) vs) (Post G W (Rel G) (callN G.P n hd i ds σ)) (PostX G W envs (callN G.P n hd i ds σ)) s :=
  wpAny_call (fn_code ok hf hb B I r hr (fun _ _ q => q) fun _ _ q => q)
theorem callF_se (ok : GOk G) {y : Str} {i : Nat} {p pos : Pos} {es : List PySem.Expr} {cs : List CE} (hb : Bod G k.n)
    (hx : y ∈ G.g.fns) (hi : nameId y = some i) (hg : k.C.isGlob y = true) (hdb : (y == ("__debug__" : Str)) = false) (h : SEl G k es cs) : SE G k (.Call (.Name y p) es [] pos) (.callF i cs) := fun {x} {W} {ρ} hk E => by
  subst hk
  obtain ⟨f, hmg, hf⟩ := ok.fns y hx i hi
  obtain ⟨o, fd, fn, body, ho, hdata, _⟩ := hf.ex
  exact callName_sim (f := .ref f) (g := fun ds => callN G.P x.k.n x.hd i ds) (fun hs q => global_name ok E hdb (isGlob_kind hg) hmg hs q) (Keep.fn ho hdata) h rfl E fun ds vs W₁ e r => fun W' σ s e' I hr => fn_sim ok hf hb (E.ext (e.trans e')).base I (r.1.mono e'.fx) hr
end
end Mine

namespace Mine
open PySem PySem.Calls PySem.W PyProof.Rows
set_option maxRecDepth 100000

section
variable {G : Gd} {x : Fx} {W W₀ W₁ W₂ : Wd} {ρ : Rho} {k : Ky} {σ : Sto} {s s' : Shared} {X : Addr → Prop}

theorem assignEach_names : ∀ (xs : List (Str × Pos)) (env : Env), assignEach (xs.map fun x => PySem.Expr.Name x.1 x.2) env = xs.map fun x => (false, assign (.Name x.1 x.2) env)
  | [], _ => rfl
  | x :: xs, env => by rw [List.map_cons, List.map_cons, ← assignEach_names xs env]; rfl
inductive Tgs (x : Fx) (X : Addr → Prop) : List (Str × Pos) → List Nat → Prop
  | nil : Tgs x X [] []
  | cons {y : Str} {p : Pos} {i : Nat} {xs : List (Str × Pos)} {is : List Nat} (hX : Places x y i X) (r : Tgs x X xs is) : Tgs x X ((y, p) :: xs) (i :: is)
theorem Tgs.len {xs : List (Str × Pos)} {is : List Nat} (h : Tgs x X xs is) : is.length = xs.length := by
  induction h with
  | nil => rfl
  | cons _ _ ih => rw [List.length_cons, List.length_cons, ih]
theorem stores_at {xs : List (Str × Pos)} {is : List Nat} (hX : Tgs x X xs is) : ∀ {ds : List D} {vs : List Value} {W : Wd} {ρ ρ' : Rho} {s : Shared}, En G x W ρ → Inv G W σ s → RelL G W ds vs → setVars ρ is ds = some ρ' →
    ∀ {Q : Unit → Shared → Prop} {E' : Value → Shared → Prop}, (∀ W' s', ExtB X W W' → En G x W' ρ' → Inv G W' σ s' → Q () s') → wpAny G.M x.A (assignInOrder (xs.map fun x' => assign (.Name x'.1 x'.2) x.env) vs) Q E' s := by
  induction hX with
  | nil =>
    intro ds vs W ρ ρ' s E I r hv Q E' h
    cases r with
    | nil => cases hv; exact wpAny_pure (h W s (ExtB.refl _) E I)
    | cons => cases hv
  | @cons y p i xs is hX _ ih =>
    intro ds vs W ρ ρ' s E I r hv Q E' h
    cases r with
    | nil => cases hv
    | @cons d v ds vs r1 r2 =>
      obtain ⟨_, hv⟩ := Option.ite_none_right_eq_some.mp (show (if i < ρ.length then setVars (ρ.set i (some d)) is ds else none) = some ρ' from hv)
      show wpAny _ _ (PySem.holding vs (assign (.Name y p) x.env v) >>= fun _ => assignInOrder (xs.map fun x' => assign (.Name x'.1 x'.2) x.env) vs) Q E' s
      refine wpAny_bind (wpAny_holding (wpAny_assign_Name (store_at E I hX r1 fun W₁ s₁ e1 E₁ I₁ => ?_)))
      exact ih E₁ I₁ (r2.mono e1.fx) hv fun W₂ s₂ e2 E₂ I₂ => h W₂ s₂ (e1.trans e2) E₂ I₂
theorem unpack_at (hh : x.A.handled = none) {xs : List (Str × Pos)} {is : List Nat} {ds : List D} {vs : List Value} {ρ' : Rho} {T : Addr} {kk : Nat} {pos : Pos} (hX : Tgs x X xs is) (E : En G x W ρ) (I : Inv G W σ s) (hT : s.heap.IsTuple T vs.toArray) (r : RelL G W ds vs) (hv : setVars ρ is ds = some ρ') (hl : xs.length = vs.length)
    {Q : Unit → Shared → Prop} {E' : Value → Shared → Prop} (h : ∀ W' s', ExtB X W W' → En G x W' ρ' → Inv G W' σ s' → Q () s') : wpAny G.M x.A (assign (.Tuple (xs.map fun x => PySem.Expr.Name x.1 x.2) kk pos) x.env (.ref T)) Q E' s := by
  rw [arm_assign_Tuple, assignEach_names]
  refine wpAny_bind (wpAny_standAt ?_)
  unfold unpack
  have h1 : (xs.map fun x' => ((false, assign (.Name x'.1 x'.2) x.env) : Bool × (Value → Sem Unit))).length = vs.toArray.size := by rw [List.length_map, hl, List.size_toArray]
  have h2 : (xs.map fun x' => ((false, assign (.Name x'.1 x'.2) x.env) : Bool × (Value → Sem Unit))).findIdx? (·.1) = none := by simp [List.findIdx?_eq_none_iff]
  have h3 : (xs.map fun x' => ((false, assign (.Name x'.1 x'.2) x.env) : Bool × (Value → Sem Unit))).map (·.2) = xs.map fun x' => assign (.Name x'.1 x'.2) x.env := by rw [List.map_map]; rfl
  rw [h1, h2, h3]
  refine wpAny_bind (wpAny_holding (wpAny_unpackItems_tuple hh hT fun h' he => ?_))
  exact stores_at (s := { s with heap := h' }) hX E (I.grow (fun b o e => he b o (Nat.ne_of_lt (Heap.lt_size e)) e) rfl rfl) r hv h
inductive TgOk (x : Fx) (X : Addr → Prop) : PySem.Expr → List Nat → Prop
  | name {y : Str} {p : Pos} {i : Nat} (hX : Places x y i X) : TgOk x X (.Name y p) [i]
  | tup {xs : List (Str × Pos)} {kk : Nat} {pos : Pos} {is : List Nat} (hX : Tgs x X xs is) (h2 : is.length ≠ 1) : TgOk x X (.Tuple (xs.map fun x => PySem.Expr.Name x.1 x.2) kk pos) is
theorem assign_at {target : PySem.Expr} {is : List Nat} (hh : x.A.handled = none) (ht : TgOk x X target is) (E : En G x W ρ) (I : Inv G W σ s) {d : D} {v : Value} {ρ' : Rho} (r : Rel G W d v) (hu : (unpackT σ is.length d).bind (setVars ρ is) = some ρ')
    {Q : Unit → Shared → Prop} {E' : Value → Shared → Prop} (h : ∀ W' s', ExtB X W W' → En G x W' ρ' → Inv G W' σ s' → Q () s') : wpAny G.M x.A (assign target x.env v) Q E' s := by
  cases ht with
  | name hX =>
    replace hu : setVars ρ [_] [d] = some ρ' := hu
    rw [set_vars1 E (own_get hX.own).1] at hu
    cases hu
    exact wpAny_assign_Name (store_at E I hX r h)
  | tup hX h2 =>
    unfold unpackT at hu
    rw [if_neg h2] at hu
    obtain ⟨ds, h3, hv⟩ := Option.bind_eq_some_iff.mp hu
    obtain ⟨ds', h4, h5⟩ := Option.bind_eq_some_iff.mp h3
    obtain ⟨hl, h5⟩ := Option.ite_none_right_eq_some.mp h5
    cases h5
    obtain ⟨a, vs, rfl, rfl, hT, rl, _⟩ := tup_inv I r h4
    exact unpack_at hh hX E I hT rl hv (by rw [← rl.length, hl, hX.len]) h

noncomputable def Away (O X : Addr → Prop) (W W₁ : Wd) : Prop := ∀ a k, W a = some k → ¬ O a → (k.nm = true → ¬ X a) → W₁ a = some k
theorem ExtB.away {O : Addr → Prop} (h : ExtB X W W₁) : Away O X W W₁ := fun a k e _ q => h a k e q
theorem Away.trans {O : Addr → Prop} (h1 : Away O X W W₁) (h2 : Away O X W₁ W₂) : Away O X W W₂ := fun a k e n q => h2 a k (h1 a k e n q) n q
theorem Away.ext {O : Addr → Prop} (h : Away O X W W₁) (h0 : ExtB X W₀ W) (hO : ∀ a, O a → W₀ a = none) : ExtB X W₀ W₁ := fun a k e q => h a k (h0 a k e q) (fun o => by rw [hO a o] at e; cases e) q
theorem Away.put {O : Addr → Prop} {I : Addr} {k : Option Kl} (h0 : O I) : Away O X W (W.put I k) := fun a k e n q => by
  rw [put_ne fun h => n (by rw [h]; exact h0)]; exact e
theorem En.own (E : En G x W ρ) {I : Addr} {o : Obj} {k : Option Kl} (hw : W I = some (.own o)) : En G x (W.put I k) ρ := by
  have ne : ∀ {a : Addr} {kl : Kl}, W a = some kl → kl.nm = true → W.put I k a = some kl := fun e hk => by
    rw [put_ne fun h => by subst h; rw [hw] at e; cases e; cases hk]; exact e
  have fx : Fix W (W.put I k) := Fix.put hw rfl
  obtain ⟨m, hm, hv⟩ := E.ns
  refine ⟨E.kind, E.glob, E.blt, ⟨m, ne hm rfl, fun i y d h1 h2 h3 => ?_⟩, fun i y h1 h2 => ?_, E.apart, E.len, E.fr, E.hf, fun e he => ?_, E.depth, E.units, E.handled, E.sc, E.gg⟩
  · obtain ⟨v, h4, h5⟩ := hv i y d h1 h2 h3
    exact ⟨v, h4, h5.mono fx⟩
  · obtain ⟨c, ov, h4, h5, h6⟩ := E.cells i y h1 h2
    refine ⟨c, ov, h4, ne h5 rfl, fun d h7 => ?_⟩
    obtain ⟨v, h8, h9⟩ := h6 d h7
    exact ⟨v, h8, h9.mono fx⟩
  · obtain ⟨h1, L, m, h2, h3⟩ := E.frs e he
    exact ⟨h1, L, m, h2, ne h3 rfl⟩

structure Turn (G : Gd) (x : Fx) (X : Addr → Prop) (target : PySem.Expr) (is : List Nat) (O : Addr → Prop) (I : Addr) (src : Src) (St : Nat → Wd → Prop) : Prop where
  frame : ∀ i W W', St i W → Fix W W' → (∀ a o, O a → W a = some (.own o) → W' a = some (.own o)) → St i W'
  item : ∀ i d W ρ ρ' σ s (Q : Shared → Prop) (E' : Value → Shared → Prop), src.items[i]? = some d → St i W → En G x W ρ → Inv G W σ s → Stands σ src.st → (unpackT σ is.length d).bind (setVars ρ is) = some ρ' →
    (∀ W₁ s₁, Away O X W W₁ → Fix W W₁ → En G x W₁ ρ' → Inv G W₁ σ s₁ → St (i + 1) W₁ → Q s₁) →
    wpAny G.M x.A (pyNext (.ref I)) (fun r s₁ => match r with | none => False | some v => wpAny G.M x.A (letOwnedTupleGo target (.ref I) v) (fun _ s₂ => wpAny G.M x.A (assign target x.env v) (fun _ => Q) E' s₂) E' s₁) E' s
  done : ∀ W ρ σ s (Q : Shared → Prop) (E' : Value → Shared → Prop), St src.items.length W → En G x W ρ → Inv G W σ s → Stands σ src.st → (∀ W₁ s₁, Away O X W W₁ → Fix W W₁ → En G x W₁ ρ → Inv G W₁ σ s₁ → Q s₁) →
    wpAny G.M x.A (pyNext (.ref I)) (fun r s₁ => match r with | none => Q s₁ | some _ => False) E' s
  self : ∀ i W σ s (Q : Value → Shared → Prop) (E' : Value → Shared → Prop), St i W → Inv G W σ s → Stands σ src.st → Q (.ref I) s → wpAny G.M x.A (pyIter (.ref I)) Q E' s
theorem loop_exc {r : Res Fl} {v : Value} (hfr : x.A.frames = some x.envs) (ht : x.top) (p : PostSX G x W r v s') : notedBy G.M x.A x.env (cameBackBy G.M x.A x.env (PostSX G x W r)) v s' := by
  obtain ⟨rest, hE⟩ := ht
  obtain ⟨c, ρ', σ', W', e, base, L, h1, rfl, h2, h3, h4, hb, hL, xa⟩ := p
  rw [hE] at hfr xa
  unfold notedBy
  refine exc_note hfr hL xa fun h₁ a0 hh hu => ?_
  obtain ⟨I₁, B₁⟩ := h3.fly hb hh.1 hu
  refine exc_back hL hh fun h₂ hh₂ hu₂ => ?_
  obtain ⟨I₂, B₂⟩ := I₁.fly B₁ hh₂.1 hu₂
  exact ⟨c, ρ', σ', W', e, base, L, h1, rfl, h2, I₂, h4, B₂, hL, by rw [hE]; exact held_exc hh₂⟩
inductive Mid (G : Gd) (x : Fx) (X : Addr → Prop) (W₀ : Wd) (St : Nat → Wd → Prop) (len : Nat) (P : Nat → Rho → Sto → Prop) (n : Nat) (s : Shared) : Prop
  | mk (i : Nat) (W : Wd) (ρ : Rho) (σ : Sto) (hi : i ≤ len) (hn : n = len + 1 - i) (e : ExtB X W₀ W) (E : En G x W ρ) (I : Inv G W σ s) (st : St i W) (p : P i ρ σ) : Mid G x X W₀ St len P n s
theorem drop_at {α : Type} {l : List α} {i : Nat} (h : i < l.length) : ∃ d, l[i]? = some d ∧ l.drop i = d :: l.drop (i + 1) := ⟨l[i], List.getElem?_eq_getElem h, List.drop_eq_getElem_cons h⟩
set_option tactic.hygienic true in
theorem for_turns {target : PySem.Expr} {is : List Nat} {I : Addr} {src : Src} {St : Nat → Wd → Prop} {b : List Stmt} {cb : List CS} (hb : SSs G x.k b cb) (ht : x.top) {O : Addr → Prop} (T : Turn G x (Own x) target is O I src St) (hO : ∀ a, O a → W₀ a = none) (hw : ExtB (Own x) W₀ W) (hst : St 0 W) (E : En G x W ρ) (Iv : Inv G W σ s) (hr : forGo (fun ρ => exsx G x cb ρ) is src.st src.items ρ σ ≠ .stuck) :
    codeAny G.M x.A (.forLoop target (.ref I) b [] x.env) (fun r s' => match r with | .ok f => PostS G x W₀ (forGo (fun ρ => exsx G x cb ρ) is src.st src.items ρ σ) f s' | .error e => cameBackBy G.M x.A x.env (PostSX G x W₀ (forGo (fun ρ => exsx G x cb ρ) is src.st src.items ρ σ)) e s') s := by
  generalize hR : forGo (fun ρ => exsx G x cb ρ) is src.st src.items ρ σ = r0 at hr ⊢
  refine codeAny_forLoop_any (Mid G x (Own x) W₀ St src.items.length fun i ρ σ => forGo (fun ρ => exsx G x cb ρ) is src.st (src.items.drop i) ρ σ = r0) ?_ (src.items.length + 1) ⟨0, W, ρ, σ, Nat.zero_le _, rfl, hw, E, Iv, hst, hR⟩
  rintro n s' ⟨i, W', ρ', σ', hi, rfl, e, E', I', st, p⟩
  by_cases hlt : i < src.items.length
  · obtain ⟨d, hd, hdrop⟩ := drop_at hlt
    rw [hdrop, forGo_cons] at p
    split at p
    case isFalse => exact absurd p.symm hr
    rename_i hs
    cases hu : (unpackT σ' is.length d).bind (setVars ρ' is) with
    | none => rw [hu] at p; exact absurd p.symm hr
    | some ρ₂ =>
      rw [hu] at p
      refine wpAny_mono (T.item i d W' ρ' ρ₂ σ' s' (fun s₂ => wpAny G.M x.A (execs b x.env) (fun f s₃ => match f with
            | .next | .cont => ∃ m, m < src.items.length + 1 - i ∧ Mid G x (Own x) W₀ St src.items.length (fun i ρ σ => forGo (fun ρ => exsx G x cb ρ) is src.st (src.items.drop i) ρ σ = r0) m s₃
            | .brk => PostS G x W₀ r0 .next s₃
            | .ret v => PostS G x W₀ r0 (.ret v) s₃) (notedBy G.M x.A x.env (cameBackBy G.M x.A x.env (PostSX G x W₀ r0))) s₂) _ hd st E' I' hs hu fun W₁ s₁ aw _ E₁ I₁ st₁ => ?_) (fun o s₁ q => ?_) fun _ _ q => q
      · have e₁ := aw.ext e hO
        dsimp only at p
        refine wpAny_mono (hb rfl ht E₁ I₁ (bind_ne (by rw [p]; exact hr))) (fun f s₃ q => ?_) fun v s₃ q => ?_
        · cases q with
          | next ρ₃ σ₃ W₃ h1 hf h2 h3 h4 =>
            subst hf
            rw [h1] at p
            exact ⟨src.items.length + 1 - (i + 1), by omega, i + 1, W₃, ρ₃, σ₃, hlt, rfl, e₁.trans h2, h4, h3, T.frame _ _ _ st₁ h2.fx fun a o _ q => h2.fix q rfl, p⟩
          | ret d₃ v₃ ρ₃ σ₃ W₃ h1 hf h2 h3 h4 h5 =>
            subst hf
            rw [h1] at p
            exact .ret d₃ v₃ ρ₃ σ₃ W₃ p.symm rfl (e₁.trans h2) h3 h4 h5
        · obtain ⟨c, ρ₃, σ₃, W₃, ea, base, L, h1, hv, h2, h3, h4, hb', hL, xa⟩ := q
          rw [h1] at p
          exact loop_exc E.fr ht ⟨c, ρ₃, σ₃, W₃, ea, base, L, p.symm, hv, e₁.trans h2, h3, h4, hb', hL, xa⟩
      · cases o with
        | none => exact q.elim
        | some v => exact q
  · have hin : i = src.items.length := by omega
    subst hin
    rw [List.drop_length, forGo_nil] at p
    split at p
    case isFalse => exact absurd p.symm hr
    refine wpAny_mono (T.done W' ρ' σ' s' (fun s₁ => PostS G x W₀ r0 .next s₁) _ st E' I' ‹_› fun W₁ s₁ aw _ E₁ I₁ => .next ρ' σ' W₁ p.symm rfl (aw.ext e hO) I₁ E₁) (fun o s₁ q => ?_) fun _ _ q => q
    cases o with
    | none => exact wpAny_execs_nil q
    | some v => exact q.elim

end
end Mine

namespace Mine
open PySem PySem.Calls PySem.W PyProof.Rows
set_option maxRecDepth 100000

noncomputable def ownsTuple (T : String) : Bool := ["enumerate", "zip", "dict_itemiterator", "dict_reverseitemiterator", "odict_iterator", "itertools.zip_longest", "itertools.pairwise"].contains T
section
variable {G : Gd} {x : Fx} {W W₀ W₁ : Wd} {ρ : Rho} {k : Ky} {σ : Sto} {s s' : Shared} {X : Addr → Prop}
set_option tactic.hygienic true in
theorem letGo_at {target : PySem.Expr} {I : Addr} {v : Value} {o : Obj} {T : String} (ho : s.heap.get? I = some o) (hc : o.cls = .type T) (hT : ownsTuple T = false) {Q : Unit → Shared → Prop} {E' : Value → Shared → Prop} (h : Q () s) : wpAny G.M x.A (letOwnedTupleGo target (.ref I) v) Q E' s := by
  have key : wpAny G.M x.A (letOwnedTupleGo (.Tuple [] 0 default) (.ref I) v) Q E' s := by
    unfold letOwnedTupleGo
    dsimp only
    split
    · rename_i r a q
      injection q with q1 q2
      injection q1 with q1
      subst q1
      refine wpAny_bind (wpAny_load ho ?_)
      rw [hc]
      split
      · rename_i n vs q1 q2
        injection q1 with q1
        subst q1
        unfold ownsTuple at hT
        rw [hT]
        exact wpAny_pure h
      · exact wpAny_pure h
    · exact wpAny_pure h
  cases target <;> first | exact wpAny_pure h | exact key

structure ItKind (G : Gd) (x : Fx) (I : Addr) (src : Src) (Ob : Nat → Obj → Prop) (Ok : Wd → Prop) : Prop where
  ok : ∀ W W', Fix W W' → Ok W → Ok W'
  cls : ∀ i o, Ob i o → ∃ T, o.cls = .type T ∧ ownsTuple T = false
  walks : ∀ W σ s, Inv G W σ s → Ok W → Stands σ src.st → (∃ o, W I = some (.own o)) → ∃ (fp : List Addr) (P : Nat → Value → Prop) (St : Nat → Heap → Prop), Walks G.prog G.w x.A I fp [I] src.items.length P St ∧ (∀ i h, St i h → ∃ o, h.get? I = some o ∧ Ob i o) ∧
    (∀ i o, s.heap.get? I = some o → Ob i o → St i s.heap) ∧ ∀ i d v, src.items[i]? = some d → P i v → Rel G W d v
inductive ItSt (I : Addr) (Ob : Nat → Obj → Prop) (Ok : Wd → Prop) (i : Nat) (W : Wd) : Prop
  | mk (o : Obj) (ok : Ok W) (hw : W I = some (.own o)) (ho : Ob i o) : ItSt I Ob Ok i W
theorem ItKind.turn {I : Addr} {src : Src} {Ob : Nat → Obj → Prop} {Ok : Wd → Prop} {target : PySem.Expr} {is : List Nat} {x' : Fx} (K : ItKind G x I src Ob Ok) (hA : x'.A = x.A) (hh : x.A.handled = none) (ht : TgOk x' X target is) : Turn G x' X target is (fun a => a = I) I src (ItSt I Ob Ok) := by
  have own : ∀ {W : Wd} {σ : Sto} {s : Shared} {o : Obj}, Inv G W σ s → W I = some (.own o) → s.heap.get? I = some o ∧ G.H.get? I = none := fun Iv hw => by
    cases Iv.pl _ _ hw with
    | own ho new => exact ⟨ho, new⟩
  refine ⟨fun i W W' ⟨o, ok, hw, ho⟩ f e => ⟨o, K.ok _ _ f ok, e _ _ rfl hw, ho⟩, fun i d W ρ ρ' σ s Q E' hd ⟨o, ok, hw, ho⟩ E Iv hs hu hQ => ?_, fun W ρ σ s Q E' ⟨o, ok, hw, ho⟩ E Iv hs hQ => ?_, fun i W σ s Q E' ⟨o, ok, hw, ho⟩ Iv hs hQ => ?_⟩
  · obtain ⟨fp, P, St, Wk, alive, here, rel⟩ := K.walks W σ s Iv ok hs ⟨o, hw⟩
    obtain ⟨h1, new⟩ := own Iv hw
    rw [hA]
    refine Wk.item i s _ _ (List.getElem?_eq_some_iff.mp hd).1 (here i o h1 ho) fun v h' tk hP st hk => ?_
    obtain ⟨o', h2, ho'⟩ := alive (i + 1) h' st
    have Iv₁ : Inv G (W.put I (some (.own o'))) σ { s with heap := h', toks := tk } := Iv.write hw rfl (fun kl q => by cases q; exact ⟨fun _ q => (nomatch q), .own h2 new⟩) (fun b ob hb e => hk b ob (fun q => hb (List.mem_singleton.mp q)) e) rfl rfl
    obtain ⟨T, hc, hT⟩ := K.cls _ _ ho'
    have fx : Fix W (W.put I (some (.own o'))) := Fix.put hw rfl
    show wpAny G.M x.A (letOwnedTupleGo target (.ref I) v) _ _ _
    refine letGo_at (s := { s with heap := h', toks := tk }) h2 hc hT ?_
    rw [← hA]
    refine assign_at (by rw [hA]; exact hh) ht (E.own hw) Iv₁ ((rel i d v hd hP).mono fx) hu fun W₂ s₂ e E₂ I₂ => ?_
    exact hQ W₂ s₂ ((Away.put (O := fun a => a = I) rfl).trans e.away) (fx.trans e.fx) E₂ I₂ ⟨o', K.ok _ _ (fx.trans e.fx) ok, e.fix put_self rfl, ho'⟩
  · obtain ⟨fp, P, St, Wk, alive, here, rel⟩ := K.walks W σ s Iv ok hs ⟨o, hw⟩
    obtain ⟨h1, new⟩ := own Iv hw
    rw [hA]
    refine Wk.done s _ _ (here _ o h1 ho) fun h' tk hk => ?_
    exact hQ (W.put I none) { s with heap := h', toks := tk } (Away.put (O := fun a => a = I) rfl) (Fix.put hw rfl) (E.own hw) (Iv.write hw rfl (fun kl q => by cases q) (fun b ob hb e => hk b ob (fun q => hb (List.mem_singleton.mp q)) e) rfl rfl)
  · obtain ⟨fp, P, St, Wk, alive, here, rel⟩ := K.walks W σ s Iv ok hs ⟨o, hw⟩
    rw [hA]
    exact Wk.self i s _ _ (here _ o (own Iv hw).1 ho) hQ

inductive PostI (G : Gd) (x : Fx) (W : Wd) (tup : Bool) (r : Res Src) (v : Value) (s₂ : Shared) : Prop
  | mk (src : Src) (σ₁ : Sto) (W₁ W₂ : Wd) (I : Addr) (O : Addr → Prop) (h1 : r = .ok src σ₁) (e1 : Ext W W₁) (e2 : Ext W₁ W₂) (hO : ∀ a, O a → W₁ a = none ∧ W₂ a ≠ none) (Iv : Inv G W₂ σ₁ s₂) (hv : v = .ref I) (hl : src.items.length ≤ cap)
      (T : ∀ (x' : Fx) (X : Addr → Prop) (target : PySem.Expr) (is : List Nat), x'.A = x.A → TgOk x' X target is → (tup = true → is.length ≠ 1) → ∃ St, Turn G x' X target is O I src St ∧ St 0 W₂) : PostI G x W tup r v s₂
noncomputable def SI (G : Gd) (k : Ky) (e : PySem.Expr) (c : CI) : Prop := ∀ {x : Fx} {W : Wd} {ρ : Rho} {σ : Sto} {s : Shared}, x.k = k → En G x W ρ → Inv G W σ s → evix G x c ρ σ ≠ .stuck →
  wpAny G.M x.A (eval e x.env) (fun v s₁ => wpAny G.M x.A (pyIter v) (PostI G x W c.tup (evix G x c ρ σ)) (PostX G W x.envs (evix G x c ρ σ)) s₁) (PostX G W x.envs (evix G x c ρ σ)) s
theorem PostI.new {src : Src} {o : Obj} {Ob : Nat → Obj → Prop} {Ok : Wd → Prop} {tup : Bool} {r : Res Src} {tk : Nat} (h1 : r = .ok src σ) (e1 : Ext W W₁) (Iv : Inv G W₁ σ s) (hh : x.A.handled = none) (hl : src.items.length ≤ cap) (hf : o.isFreed = false) (K : ItKind G x s.heap.objs.size src Ob Ok) (ok : Ok W₁) (ho : Ob 0 o) :
    PostI G x W tup r (.ref s.heap.objs.size) { s with heap := s.heap.push o, toks := tk } := by
  have hn := Iv.fresh
  refine ⟨src, σ, W₁, W₁.put s.heap.objs.size (some (.own o)), s.heap.objs.size, fun a => a = s.heap.objs.size, h1, e1, Ext.put hn, fun a ha => by subst ha; exact ⟨hn, by rw [put_self]; exact fun q => nomatch q⟩, ?_, rfl, hl, fun x' X target is hA ht _ => ⟨_, K.turn hA hh ht, o, K.ok _ _ (Ext.put hn).fx ok, put_self, ho⟩⟩
  exact Inv.claim (s := { s with heap := s.heap.push o, toks := tk }) (Iv.grow (fun _ _ e => Heap.get?_push_of_some o e) rfl rfl) hn (fun _ q => (nomatch q)) (.own (Heap.get?_push_size _ hf) Iv.hfresh)

theorem range_kind (hh : x.A.handled = none) (I : Addr) (n : Nat) : ItKind G x I ⟨(List.range n).map fun (i : Nat) => D.int (i : Int), []⟩ (fun i o => o = { cls := .type "range_iterator", dict := none, data := .fields #[rawInt (0 + (i : Nat) * 1), rawInt ((n : Int) - (i : Nat)), rawInt 1], slots := #[] }) (fun _ => True) where
  ok := fun _ _ _ _ => trivial
  cls := fun i o h => ⟨"range_iterator", by rw [h], by decide⟩
  walks := fun W σ s Iv _ _ _ => ⟨[I], _, _, by
      have := Walks.range (prog := G.prog) (w := G.w) hh I 0 1 n
      rw [show (⟨(List.range n).map fun (i : Nat) => D.int (i : Int), []⟩ : Src).items.length = n by simp]
      exact this, fun i h st => ⟨_, st, rfl⟩, fun i o h1 h2 => by rw [h2] at h1; exact h1, fun i d v hi hp => by
      obtain ⟨t', rfl⟩ := hp
      dsimp only at hi
      rw [List.getElem?_map] at hi
      obtain ⟨j, hj, rfl⟩ := Option.map_eq_some_iff.mp hi
      obtain ⟨hl, e⟩ := List.getElem?_eq_some_iff.mp hj
      rw [List.getElem_range] at e
      subst e
      rw [Int.zero_add, Int.mul_one]; exact .int _ _⟩
theorem tup_kind (hh : x.A.handled = none) {I b : Addr} (hne : b ≠ I) {ds : List D} {vs : List Value} {o : Obj} {m : Nat} (hc : o.cls = .type "tuple") (hd : o.data = .seq vs.toArray m) : ItKind G x I ⟨ds, []⟩ (fun i o => o.cls = .type "tuple_iterator" ∧ o.data = .fields #[.ref b, .int i 0]) (fun W => W b = some (.firm o) ∧ RelL G W ds vs) where
  ok := fun _ _ f h => ⟨f _ _ h.1 rfl, h.2.mono f⟩
  cls := fun i o h => ⟨_, h.1, by decide⟩
  walks := fun W σ s Iv h _ _ => by
    have hl : vs.toArray.size = ds.length := by rw [List.size_toArray, h.2.length]
    have ht : s.heap.IsTuple b vs.toArray := by
      cases Iv.pl _ _ h.1 with
      | firm ho => exact ⟨o, ho, hc, m, hd⟩
    refine ⟨_, _, _, hl ▸ Walks.tuple (prog := G.prog) (w := G.w) hh I b hne vs.toArray, fun i h st => ?_, fun i o h1 h2 => ⟨⟨o, h1, h2.1, h2.2⟩, ht⟩, fun i d v hi hp => ?_⟩
    · obtain ⟨⟨o, h1, h2, h3⟩, _⟩ := st
      exact ⟨o, h1, h2, h3⟩
    · obtain ⟨v', hv', r⟩ := h.2.get hi
      have : vs[i]? = some v := by rw [← List.getElem?_toArray]; exact hp
      rw [hv'] at this; cases this; exact r
theorem list_kind (hh : x.A.handled = none) {I b : Addr} {n : Nat} {ds : List D} : ItKind G x I ⟨ds, [(n, .list ds)]⟩ (fun i o => o.cls = .type "list_iterator" ∧ o.data = .fields #[.ref b, .int i 0]) (fun W => W b = some (.sto n)) where
  ok := fun _ _ f h => f _ _ h rfl
  cls := fun i o h => ⟨_, h.1, by decide⟩
  walks := fun W σ s Iv h hs hw => by
    have hne : b ≠ I := fun q => by obtain ⟨o, hw⟩ := hw; rw [q, hw] at h; cases h
    cases Iv.look h (hs _ (.head _)) with
    | @list _ o vs m _ ho hc hd rl new sz =>
      have hl : vs.toArray.size = ds.length := by rw [List.size_toArray, rl.length]
      refine ⟨_, _, _, hl ▸ Walks.list (prog := G.prog) (w := G.w) hh I b hne vs.toArray, fun i h st => ?_, fun i o' h1 h2 => ⟨⟨o', h1, h2.1, h2.2⟩, ⟨o, ho, hc, m, hd⟩⟩, fun i d v hi hp => ?_⟩
      · obtain ⟨⟨o, h1, h2, h3⟩, _⟩ := st
        exact ⟨o, h1, h2, h3⟩
      · obtain ⟨v', hv', r⟩ := rl.get hi
        have : vs[i]? = some v := by rw [← List.getElem?_toArray]; exact hp
        rw [hv'] at this; cases this; exact r

theorem hd_false {c : CI} (_ : En G x W ρ) (h : evix G x c ρ σ ≠ .stuck) : x.hd = false := by
  cases hd : x.hd with
  | false => rfl
  | true =>
    exfalso
    refine h ?_
    unfold evix
    rw [hd]
    cases c <;> rfl
theorem evix_ev {c : CE} (h : x.hd = false) : evix G x (.ev c) ρ = (evx G x c ρ).bnd fun d σ => Cm.opt (itemsOf σ d) σ := by
  unfold evix evx; rw [h]; rfl
theorem evix_range {c : CE} (h : x.hd = false) : evix G x (.range c) ρ = (evx G x c ρ).bnd fun d => Cm.opt ((intOf d).bind fun n => if -(most : Int) ≤ n ∧ n ≤ most then some ⟨(List.range n.toNat).map fun (i : Nat) => D.int (i : Int), []⟩ else none) := by
  unfold evix evx; rw [h]; rfl
theorem ev_si {e : PySem.Expr} {c : CE} (h : SE G k e c) : SI G k e (.ev c) := fun {x} {W} {ρ} {σ} {s} hk E I hr => by
  have hd := hd_false E hr
  have hh := (E.handled hd).1
  rw [evix_ev hd] at hr ⊢
  refine wpAny_mono (h hk E W σ s (Ext.refl _) I (bind_ne hr)) (fun v s₁ p => ?_) fun v s₁ p => p.cast fun c σ q => by rw [Cm.bnd_ap, q]; rfl
  obtain ⟨d, σ₁, W₁, h1, h2, h3, h4⟩ := p
  have e1 : ((evx G x c ρ).bnd fun d σ => Cm.opt (itemsOf σ d) σ) σ = Cm.opt (itemsOf σ₁ d) σ₁ := by rw [Cm.bnd_ap, h1]; rfl
  rw [e1] at hr ⊢
  cases h4 with
  | @tup b o m ds vs ho hc hdd rl sz =>
    cases h3.pl _ _ ho with
    | firm hob =>
      refine wpAny_pyIter_tuple ⟨o, hob, hc, m, hdd⟩ ?_
      exact PostI.new (tk := s₁.toks) rfl h2 h3 hh sz rfl (tup_kind hh (Nat.ne_of_lt (Heap.lt_size hob)) hc hdd) ⟨ho, rl⟩ ⟨rfl, rfl⟩
  | @ref n b hb =>
    replace hr : Cm.opt (match σ₁[n]? with
      | some (.list ds) => some (⟨ds, [(n, .list ds)]⟩ : Src)
      | _ => none) σ₁ ≠ .stuck := hr
    cases hs : σ₁[n]? with
    | none => rw [hs] at hr; exact absurd rfl hr
    | some ob =>
      rw [hs] at hr
      cases h3.look hb hs with
      | list ho hc hd' rl new sz =>
        refine wpAny_pyIter_list ⟨_, ho, hc, _, hd'⟩ ?_
        exact PostI.new (tk := s₁.toks) (by show Cm.opt (match σ₁[n]? with | some (.list ds) => some (⟨ds, [(n, .list ds)]⟩ : Src) | _ => none) σ₁ = _; rw [hs]; rfl) h2 h3 hh sz rfl (list_kind hh) hb ⟨rfl, rfl⟩
      | _ => exact absurd rfl hr
  | _ => exact absurd rfl hr
noncomputable def SIp (G : Gd) (k : Ky) (e : PySem.Expr) (c : CI) : Prop := ∀ {x : Fx} {W : Wd} {ρ : Rho} {σ : Sto} {s : Shared}, x.k = k → En G x W ρ → Inv G W σ s → evix G x c ρ σ ≠ .stuck →
  wpAny G.M x.A (eval e x.env) (fun v s₁ => wpAny G.M x.A (pyIter v) (fun v s₂ => ∃ p, (c.isKeys = false → p = G.pin) ∧ PostI (G.wp p) x W c.tup (evix G x c ρ σ) v s₂) (PostX G W x.envs (evix G x c ρ σ)) s₁) (PostX G W x.envs (evix G x c ρ σ)) s
theorem SI.p {e : PySem.Expr} {c : CI} (h : SI G k e c) : SIp G k e c := fun hk E I hr =>
  wpAny_mono (h hk E I hr) (fun _ _ q => wpAny_mono q (fun _ _ q => ⟨G.pin, fun _ => rfl, q⟩) fun _ _ q => q) fun _ _ q => q
theorem range_si (ok : GOk G) {e : PySem.Expr} {p pos : Pos} {c : CE} (hst : isStar e = false) (hg : k.C.isGlob "range" = true) (h : SE G k e c) : SI G k (.Call (.Name "range" p) [e] [] pos) (.range c) := fun {x} {W} {ρ} {σ} {s} hk E I hr => by
  have hd := hd_false E hr
  have hh := (E.handled hd).1
  subst hk
  rw [evix_range hd] at hr ⊢
  refine wpAny_Call_Name_kw (builtin_name ok E (by decide) boot_range (isGlob_kind hg) (by decide) I.keep ?_)
  refine callWith_of (P := fun h => ∀ b o, G.H.get? b = some o → h.get? b = some o) (by rw [starEach_cons hst]; rfl) (Keep.type _) ?_
  rw [starEach_cons hst]
  refine evalArgs_plain ?_
  show wpAny G.M x.A (eval e x.env >>= fun v => pure [v] >>= fun here => PySem.holding here (spliced []) >>= fun r => pure (here ++ r)) _ _ s
  refine wpAny_bind (wpAny_mono (h rfl E W σ s (Ext.refl _) I (bind_ne hr)) (fun v s₁ p => ?_) fun v s₁ p => p.cast fun c σ q => by rw [Cm.bnd_ap, q]; rfl)
  obtain ⟨d, σ₁, W₁, h1, h2, h3, h4⟩ := p
  refine wpAny_bind (wpAny_pure (wpAny_bind (wpAny_holding (spliced_nil (wpAny_pure ⟨h3.keep, ?_⟩)))))
  rw [Cm.bnd_ap, h1] at hr ⊢
  cases hi : intOf d with
  | none => exact absurd (by show Cm.opt ((intOf d).bind _) σ₁ = _; rw [hi]; rfl) hr
  | some n =>
    obtain ⟨t, rfl, rfl⟩ := h4.int_inv hi
    by_cases hc : -(most : Int) ≤ n ∧ n ≤ most
    · show wpAny G.M x.A (call (.type "range") [.int n t]) _ _ s₁
      refine call_range_1 ?_
      have hm : (most : Int) < 2 ^ 62 := by decide
      refine wpAny_pyIter_range (IsRange.new ..) (small_one (by decide) (by decide) (by omega) (by omega)) ?_
      have e2 : Builtin.Range.rangeSize 0 n 1 = (n.toNat : Int) - ((0 : Nat) : Int) := by rw [rangeSize_one]; split <;> omega
      rw [e2]
      have hz : (s₁.heap.push { cls := .type "range", data := .fields #[.int 0 s₁.toks, .int n t, .int 1 (s₁.toks + 1)] }).objs.size = s₁.heap.objs.size + 1 := Heap.size_push ..
      refine PostI.new (s := { s₁ with heap := s₁.heap.push { cls := .type "range", data := .fields #[.int 0 s₁.toks, .int n t, .int 1 (s₁.toks + 1)] }, toks := s₁.toks + 1 + 1 }) (tk := s₁.toks + 1 + 1) (by show Cm.opt (if -(most : Int) ≤ n ∧ n ≤ most then some (⟨(List.range n.toNat).map fun (i : Nat) => D.int (i : Int), []⟩ : Src) else none) σ₁ = _; rw [if_pos hc]; rfl) h2 (h3.grow (fun _ _ e => Heap.get?_push_of_some _ e) rfl rfl) hh ?_ rfl (range_kind hh _ n.toNat) trivial rfl
      show ((List.range n.toNat).map _).length ≤ cap
      rw [List.length_map, List.length_range]
      exact Nat.le_trans (by omega : n.toNat ≤ most) (by decide)
    · exact absurd (by show (Cm.opt (if -(most : Int) ≤ n ∧ n ≤ most then some _ else none) : Cm Src) σ₁ = _; rw [if_neg hc]; rfl) hr
theorem cameBack_mono {M : Model} {A : Around} {env : Env} {E E' : Value → Shared → Prop} {v : Value} {s : Shared} (h : cameBackBy M A env E v s) (k : ∀ v s', E v s' → E' v s') : cameBackBy M A env E' v s := by
  unfold cameBackBy at h ⊢
  exact wpAny_mono h (fun _ _ q => k _ _ q) fun _ _ q => k _ _ q
theorem for_ss {target iter : PySem.Expr} {is : List Nat} {pos : Pos} {ci : CI} {b : List Stmt} {cb : List CS} (htg : ∀ x : Fx, x.k = k → TgOk x (Own x) target is) (htup : ci.tup = true → is.length ≠ 1) (hit : SI G k iter ci) (hset : ∀ env v, foldedSetIterable iter env v = pure v) (hb : SSs G k b cb) :
    SS G k (.For target iter b [] pos) (.for is ci cb) := fun {x} {W} {ρ} {σ} {s} hk ht E I hr => by
  subst hk
  replace hr : (evix G x ci ρ).stm ρ (fun src => forGo (fun ρ => exsx G x cb ρ) is src.st src.items ρ) σ ≠ .stuck := hr
  show DoS G x W s _ ((evix G x ci ρ).stm ρ (fun src => forGo (fun ρ => exsx G x cb ρ) is src.st src.items ρ) σ)
  refine wpAny_For (wpAny_mono (hit rfl E I (stm_ne hr)) (fun v s₁ p => wpAny_mono p (fun it s₂ p => ?_) fun v s₁ p => p.stm E) fun v s₁ p => p.stm E) (hset x.env)
  obtain ⟨src, σ₁, W₁, W₂, a, O, h1, e1, e2, hO, Iv, rfl, hl, T⟩ := p
  rw [Cm.stm_ok h1] at hr ⊢
  obtain ⟨St, T, st⟩ := T x (Own x) target is rfl (htg x rfl) htup
  refine codeAny_mono (for_turns hb ht T (fun a h => (hO a h).1) e2.b st (E.ext (e1.trans e2)) Iv hr) fun r s' q => ?_
  cases r with
  | ok f => exact q.after e1.b
  | error e => exact cameBack_mono q fun v s' p => p.after e1.b
end
end Mine

namespace Mine
open PySem PySem.Calls PySem.W PyProof.Rows
set_option maxRecDepth 100000

noncomputable def closFrom (env : Env) : List (Str × NameKind) → List (Str × Addr) → List (Str × Addr)
  | [], cs => cs
  | (x, k) :: r, cs => if k == .free then closFrom env r ((x, (env.cells.lookup x).getD 0) :: cs) else closFrom env r cs

theorem closureFor_some {scope : Scope} {env : Env} (h : ∀ x, (x, NameKind.free) ∈ scope.names → (env.cells.lookup x).isSome = true) : closureFor scope env = pure (closFrom env scope.names []) := by
  unfold closureFor
  have key : ∀ (names : List (Str × NameKind)) (cs : List (Str × Addr)), (∀ x, (x, NameKind.free) ∈ names → (env.cells.lookup x).isSome = true) →
      (forIn names cs (fun p cs => do
        let (name, kind) := p
        if kind == .free then
          let __do_lift ← cellOf env name
          pure (ForInStep.yield ((name, __do_lift) :: cs))
        else pure (ForInStep.yield cs)) : Sem (List (Str × Addr))) = pure (closFrom env names cs) := by
    intro names
    induction names with
    | nil => intro cs _; rfl
    | cons p r ih =>
      intro cs hx
      obtain ⟨x, k⟩ := p
      rw [List.forIn_cons]
      by_cases hk : (k == .free) = true
      · have hk' : k = .free := by simpa using hk
        obtain ⟨c, hc⟩ := Option.isSome_iff_exists.mp (hx x (by rw [hk']; exact .head _))
        have e1 : cellOf env x = pure c := by unfold cellOf; rw [hc]
        simp only [hk, if_true, e1, closFrom, hc, Option.getD_some]
        exact ih _ fun y hy => hx y (.tail _ hy)
      · simp only [hk, closFrom]
        exact ih _ fun y hy => hx y (.tail _ hy)
  have := key scope.names [] h
  simp only [] at this ⊢
  rw [this]
  rfl

set_option tactic.hygienic true in
theorem closFrom_sub {env : Env} : ∀ {names : List (Str × NameKind)} {cs : List (Str × Addr)}, (∀ x, (x, NameKind.free) ∈ names → (env.cells.lookup x).isSome = true) → (∀ y c, cs.lookup y = some c → env.cells.lookup y = some c) → ∀ y c, (closFrom env names cs).lookup y = some c → env.cells.lookup y = some c
  | [], cs, _, h => h
  | (x, k) :: r, cs, hx, h => by
    intro y c
    unfold closFrom
    split
    · rename_i hk
      have hk' : k = .free := by simpa using hk
      obtain ⟨c0, hc0⟩ := Option.isSome_iff_exists.mp (hx x (by rw [hk']; exact .head _))
      refine closFrom_sub (fun z hz => hx z (.tail _ hz)) (fun z d hd => ?_) y c
      rw [List.lookup_cons] at hd
      split at hd
      · rename_i e
        rw [hc0] at hd
        injection hd with hd
        rw [eq_of_beq e, hc0]; exact congrArg some hd
      · exact h z d hd
    · exact closFrom_sub (fun z hz => hx z (.tail _ hz)) h y c
theorem closFrom_acc {env : Env} {x : Str} : ∀ {names : List (Str × NameKind)} {cs : List (Str × Addr)}, (cs.lookup x).isSome = true → ((closFrom env names cs).lookup x).isSome = true
  | [], _, h => h
  | (y, k) :: r, cs, h => by
    unfold closFrom
    split
    · exact closFrom_acc (lookup_isSome_cons h)
    · exact closFrom_acc h
theorem closFrom_has {env : Env} {x : Str} : ∀ {names : List (Str × NameKind)} {cs : List (Str × Addr)}, (x, NameKind.free) ∈ names → ((closFrom env names cs).lookup x).isSome = true
  | [], _, h => by cases h
  | (y, k) :: r, cs, h => by
    unfold closFrom
    cases h with
    | head =>
      rw [if_pos (by decide)]
      refine closFrom_acc ?_
      rw [List.lookup_cons]; simp
    | tail _ h =>
      split
      · exact closFrom_has h
      · exact closFrom_has h

theorem compScope_eq {env : Env} {C : CC} {scope : Scope} (h : env.scope = C.sc) : relabel scope env = compScope C.sc scope := by
  unfold relabel compScope
  rw [← h]; rfl

theorem relabel_free {env : Env} {y : Str} : ∀ {names : List (Str × NameKind)}, (∀ p ∈ names, p.2 ≠ .cell) →
    ((names.map fun (n, k) => if (k == NameKind.free && env.scope.kind == .function && env.kindOf n == some .cell) then (n, NameKind.cell) else (n, k)).lookup y = some .cell ∨
     (names.map fun (n, k) => if (k == NameKind.free && env.scope.kind == .function && env.kindOf n == some .cell) then (n, NameKind.cell) else (n, k)).lookup y = some .free) → (y, NameKind.free) ∈ names
  | [], _, h => by rcases h with h | h <;> cases h
  | (n, k) :: r, hc, h => by
    have ih := @relabel_free env y r fun p hp => hc p (.tail _ hp)
    simp only [List.map_cons] at h
    by_cases hx : (y == n) = true
    · have hyn : y = n := eq_of_beq hx
      subst hyn
      by_cases hcc : (k == NameKind.free && env.scope.kind == .function && env.kindOf y == some .cell) = true
      · have : k = .free := by simp only [Bool.and_eq_true, beq_iff_eq] at hcc; exact hcc.1.1
        subst this; exact .head _
      · rw [if_neg hcc] at h
        simp only [List.lookup_cons, beq_self_eq_true] at h
        rcases h with h | h
        · injection h with h
          exact absurd h (hc _ (.head _))
        · injection h with h
          subst h; exact .head _
    · have hx' : (y == n) = false := by simpa using hx
      have : ∀ (p : Str × NameKind) (l : List (Str × NameKind)), p.1 = n → (p :: l).lookup y = l.lookup y := fun p l hp => by
        rw [List.lookup_cons, hp, hx']
      split at h
      · rw [this _ _ rfl] at h
        exact .tail _ (ih h)
      · rw [this _ _ rfl] at h
        exact .tail _ (ih h)

structure CompOk (C : CC) (scope : Scope) (xs : List Str) : Prop where
  kind : scope.kind = .function
  loc : ∀ x ∈ xs, scope.names.lookup x = some .local
  nd : xs.Nodup
  nocell : ∀ p ∈ scope.names, p.2 ≠ .cell
  names : ∀ p ∈ scope.names, p.2 = .local → scope.names.lookup p.1 = some .local
  free : ∀ y, (y, NameKind.free) ∈ scope.names → (∃ i, lastIdx y C.vars = some i) ∧ (C.kind y = some .cell ∨ C.kind y = some .free)
theorem keepVar_some {sc : Scope} {v : Option Str} {y : Str} (h : keepVar sc v = some y) : v = some y ∧ (sc.names.lookup y = some .cell ∨ sc.names.lookup y = some .free) := by
  unfold keepVar at h
  split at h
  · obtain ⟨hc, h⟩ := Option.ite_none_right_eq_some.mp h
    cases h
    rw [Bool.or_eq_true, beq_iff_eq, beq_iff_eq] at hc
    exact ⟨rfl, hc⟩
  · cases h
theorem lastIdx_append {y : Str} : ∀ {l r : List (Option Str)} {i : Nat}, lastIdx y r = some i → lastIdx y (l ++ r) = some (l.length + i)
  | [], r, i, h => by rw [List.nil_append, h, List.length_nil, Nat.zero_add]
  | a :: l, r, i, h => by
    rw [List.cons_append, lastIdx, lastIdx_append h]
    show some (l.length + i + 1) = _
    rw [List.length_cons]; congr 1; omega
theorem lastIdx_nd : ∀ {xs : List Str} {j : Nat} {y : Str}, xs.Nodup → xs[j]? = some y → lastIdx y (xs.map some) = some j
  | [], _, _, _, h => by cases h
  | a :: xs, 0, y, hn, h => by
    cases h
    rw [List.map_cons]
    show (match lastIdx a (xs.map some) with | some i => some (i + 1) | none => if some a = some a then some 0 else none) = some 0
    cases hl : lastIdx a (xs.map some) with
    | none => exact if_pos rfl
    | some i =>
      have := lastIdx_get hl
      rw [List.getElem?_map] at this
      obtain ⟨b, hb, e⟩ := Option.map_eq_some_iff.mp this
      cases e
      exact absurd (List.mem_of_getElem? hb) (List.nodup_cons.mp hn).1
  | a :: xs, j + 1, y, hn, h => by
    rw [List.map_cons, lastIdx, lastIdx_nd (List.nodup_cons.mp hn).2 (show xs[j]? = some y from h)]

section
variable {G : Gd} {x : Fx} {W W₀ W₁ : Wd} {ρ : Rho} {k : Ky} {σ : Sto} {s s' : Shared} {X : Addr → Prop}
theorem CompOk.cells {scope : Scope} {xs : List Str} (ok : CompOk x.k.C scope xs) (E : En G x W ρ) : ∀ y, (y, NameKind.free) ∈ scope.names → (x.env.cells.lookup y).isSome = true := fun y hy => by
  obtain ⟨⟨i, hi⟩, hk⟩ := ok.free y hy
  obtain ⟨c, ov, h1, _⟩ := E.cells i y (lastIdx_get hi) (hk.imp E.kindOf E.kindOf)
  rw [h1]; rfl
noncomputable def Fx.comp (x : Fx) (scope : Scope) (xs : List Str) (L : Addr) : Fx := ⟨⟨x.k.n, compCC x.k.C scope xs⟩, x.hd, x.A, compEnvC scope (closFrom x.env scope.names []) L x.env, x.envs⟩
theorem En.comp {scope : Scope} {xs : List Str} (E : En G x W ρ) (ok : CompOk x.k.C scope xs) {L : Addr} {m : Str → Option Value} (hL : W L = some (.ns m)) {l : List (Option D)} (hl : l.length = xs.length) (hno : ∀ o ∈ l, o = none) : En G (x.comp scope xs L) W (ρ ++ l) := by
  have hsc := compScope_eq (scope := scope) E.sc
  have hcells := ok.cells E
  have at1 : ∀ {i : Nat} {y : Str}, (x.k.C.vars.map (keepVar (compScope x.k.C.sc scope)) ++ xs.map some)[i]? = some (some y) → i < x.k.C.vars.length → x.k.C.vars[i]? = some (some y) ∧ ((compScope x.k.C.sc scope).names.lookup y = some .cell ∨ (compScope x.k.C.sc scope).names.lookup y = some .free) := fun h hi => by
    rw [List.getElem?_append_left (by rw [List.length_map]; exact hi), List.getElem?_map] at h
    obtain ⟨v, hv, e⟩ := Option.map_eq_some_iff.mp h
    obtain ⟨rfl, hk⟩ := keepVar_some e
    exact ⟨hv, hk⟩
  refine ⟨ok.kind, E.glob, E.blt, ⟨m, hL, fun i y d h1 h2 h3 => ?_⟩, fun i y h1 h2 => ?_, fun y z c h1 h2 => E.apart y z c (closFrom_sub hcells (fun _ _ h => by cases h) y c h1) (closFrom_sub hcells (fun _ _ h => by cases h) z c h2), ?_, E.fr, E.hf, E.frs, E.depth, E.units, E.handled, hsc, E.gg⟩
  · exfalso
    have h2 : (relabel scope x.env).names.lookup y = some .local := h2
    rcases Nat.lt_or_ge i x.k.C.vars.length with hi | hi
    · obtain ⟨_, hk⟩ := at1 h1 hi
      rw [← hsc, h2] at hk
      rcases hk with hk | hk <;> cases hk
    · rw [List.getElem?_append_right (by rw [E.len]; exact hi)] at h3
      exact absurd (hno _ (List.mem_of_getElem? h3)) (by simp)
  · have h2 : (relabel scope x.env).names.lookup y = some .cell ∨ (relabel scope x.env).names.lookup y = some .free := h2
    have hfree : (y, NameKind.free) ∈ scope.names := relabel_free ok.nocell h2
    rcases Nat.lt_or_ge i x.k.C.vars.length with hi | hi
    · obtain ⟨hv, _⟩ := at1 h1 hi
      obtain ⟨_, hk⟩ := ok.free y hfree
      obtain ⟨c, ov, h4, h5, h6⟩ := E.cells i y hv (hk.imp E.kindOf E.kindOf)
      obtain ⟨c', hc'⟩ := Option.isSome_iff_exists.mp (closFrom_has (env := x.env) (cs := []) hfree)
      have : c' = c := by
        have := closFrom_sub hcells (fun _ _ h => by cases h) y c' hc'
        rw [h4] at this; injection this with this; exact this.symm
      subst this
      exact ⟨c', ov, hc', h5, fun d h7 => h6 d (by rw [List.getElem?_append_left (by rw [E.len]; exact hi)] at h7; exact h7)⟩
    · exfalso
      have h1 : (x.k.C.vars.map (keepVar (compScope x.k.C.sc scope)) ++ xs.map some)[i]? = some (some y) := h1
      rw [List.getElem?_append_right (by rw [List.length_map]; exact hi), List.getElem?_map] at h1
      obtain ⟨z, hz, e⟩ := Option.map_eq_some_iff.mp h1
      cases e
      have : (relabel scope x.env).names.lookup y = some .local := lookup_relabel_local (env := x.env) (ok.loc y (List.mem_of_getElem? hz))
      rw [this] at h2
      rcases h2 with q | q <;> cases q
  · show (ρ ++ l).length = (x.k.C.vars.map (keepVar (compScope x.k.C.sc scope)) ++ xs.map some).length
    rw [List.length_append, List.length_append, List.length_map, List.length_map, E.len, hl]
theorem comp_places {scope : Scope} {xs : List Str} (E : En G x W ρ) (ok : CompOk x.k.C scope xs) {L : Addr} {j : Nat} {y : Str} (hj : xs[j]? = some y) : Places (x.comp scope xs L) y (ρ.length + j) (fun a => a = L) := by
  have hloc : (relabel scope x.env).names.lookup y = some .local := lookup_relabel_local (env := x.env) (ok.loc y (List.mem_of_getElem? hj))
  have hloc2 : (compScope x.k.C.sc scope).names.lookup y = some .local := by rw [← compScope_eq (scope := scope) E.sc]; exact hloc
  have hlen : (x.k.C.vars.map (keepVar (compScope x.k.C.sc scope))).length = ρ.length := by rw [List.length_map, E.len]
  have hlast : lastIdx y (x.k.C.vars.map (keepVar (compScope x.k.C.sc scope)) ++ xs.map some) = some (ρ.length + j) := by rw [lastIdx_append (lastIdx_nd ok.nd hj), hlen]
  refine ⟨?_, fun _ => rfl, fun c h1 _ => ?_, fun i hi => ?_⟩
  · exact (if_pos (by rw [show (x.comp scope xs L).k.C.kind y = some .local from hloc2]; rfl)).trans hlast
  · have h1 : (relabel scope x.env).names.lookup y = some .cell := h1
    rw [hloc] at h1; cases h1
  · have hi : (x.k.C.vars.map (keepVar (compScope x.k.C.sc scope)) ++ xs.map some)[i]? = some (some y) := hi
    rcases Nat.lt_or_ge i ρ.length with h | h
    · exfalso
      rw [List.getElem?_append_left (by rw [hlen]; exact h), List.getElem?_map] at hi
      obtain ⟨v, _, e⟩ := Option.map_eq_some_iff.mp hi
      obtain ⟨_, hk⟩ := keepVar_some e
      rw [hloc2] at hk
      rcases hk with hk | hk <;> cases hk
    · rw [List.getElem?_append_right (by rw [hlen]; exact h), hlen, List.getElem?_map] at hi
      obtain ⟨z, hz, e⟩ := Option.map_eq_some_iff.mp hi
      cases e
      obtain ⟨l1, e1⟩ := List.getElem?_eq_some_iff.mp hz
      obtain ⟨l2, e2⟩ := List.getElem?_eq_some_iff.mp hj
      have := (List.getElem_inj ok.nd).mp (e1.trans e2.symm)
      omega
theorem setVars_comp : ∀ {vs : List D} {ρ l : Rho}, l.length = vs.length → setVars (ρ ++ l) (List.range' ρ.length vs.length) vs = some (ρ ++ vs.map some)
  | [], ρ, l, h => by rw [List.length_eq_zero_iff.mp h]; rfl
  | v :: vs, ρ, [], h => by cases h
  | v :: vs, ρ, o :: l, h => by
    show setVars (ρ ++ o :: l) (List.range' ρ.length (vs.length + 1)) (v :: vs) = _
    rw [List.range'_succ]
    show (if ρ.length < (ρ ++ o :: l).length then setVars ((ρ ++ o :: l).set ρ.length (some v)) (List.range' (ρ.length + 1) vs.length) vs else none) = _
    rw [if_pos (by rw [List.length_append, List.length_cons]; omega), List.set_append_right _ _ (Nat.le_refl _), Nat.sub_self, List.set_cons_zero]
    have := setVars_comp (ρ := ρ ++ [some v]) (l := l) (Nat.succ.inj h)
    rw [List.length_append, List.append_assoc, List.append_assoc] at this
    exact this
inductive CTg : PySem.Expr → List Str → Prop
  | name (y : Str) (p : Pos) : CTg (.Name y p) [y]
  | tup (xs : List (Str × Pos)) (kk : Nat) (pos : Pos) (h : xs.length ≠ 1) : CTg (.Tuple (xs.map fun x => PySem.Expr.Name x.1 x.2) kk pos) (xs.map (·.1))
theorem tgs_of {scope : Scope} {L : Addr} {X : Addr → Prop} : ∀ {xs : List (Str × Pos)} {n : Nat} {x' : Fx}, (∀ j y, (xs.map (·.1))[j]? = some y → Places x' y (n + j) X) → Tgs x' X xs (List.range' n xs.length)
  | [], _, _, _ => .nil
  | (y, p) :: xs, n, x', h => by
    rw [List.length_cons, List.range'_succ]
    exact .cons (h 0 y rfl) (tgs_of (scope := scope) (L := L) fun j z hz => by have := h (j + 1) z hz; rw [show n + 1 + j = n + (j + 1) by omega]; exact this)
theorem CTg.ok {target : PySem.Expr} {scope : Scope} {xs : List Str} (h : CTg target xs) (E : En G x W ρ) (ok : CompOk x.k.C scope xs) {L : Addr} : TgOk (x.comp scope xs L) (fun a => a = L) target (List.range' ρ.length xs.length) := by
  cases h with
  | name y p => exact .name (comp_places E ok (j := 0) rfl)
  | tup xs kk pos hl =>
    rw [List.length_map]
    exact .tup (tgs_of (scope := scope) (L := L) fun j y hj => comp_places E ok hj) (by rw [List.length_range']; exact hl)

theorem comp_loop_any {prog : Program} {w : World} {A : Around} {R : Result → Shared → Prop} {elt target iter : PySem.Expr} {ifs : List PySem.Expr} {scope : Scope} {pos : Pos} {it acc : Value} {env : Env} (I : Nat → Shared → Prop)
    (turn : ∀ n s, I n s → wpAny (model prog w) A (pyNext it) (fun r s₁ => match r with
      | none => R (.ok .next) s₁
      | some v => wpAny (model prog w) A (letOwnedTupleGo target it v) (fun _ s₁' => wpAny (model prog w) A (assign target env v) (fun _ s₂ =>
          wpAny (model prog w) A (forIn ifs true fun c r => if r = true then do let ok ← isTrue c env (eval c env); pure (ForInStep.yield ok) else pure (ForInStep.yield r)) (fun ok s₃ =>
            if ok = true then wpAny (model prog w) A (eval elt env) (fun x s₄ =>
              wpAny (model prog w) A (call (.builtin "list.append") [acc, x]) (fun _ s₅ => ∃ m, m < n ∧ I m s₅) (notedBy (model prog w) A env fun e s' => R (.error e) s') s₄) (notedBy (model prog w) A env fun e s' => R (.error e) s') s₃
            else ∃ m, m < n ∧ I m s₃) (notedBy (model prog w) A env fun e s' => R (.error e) s') s₂) (notedBy (model prog w) A env fun e s' => R (.error e) s') s₁') (notedBy (model prog w) A env fun e s' => R (.error e) s') s₁) (notedBy (model prog w) A env fun e s' => R (.error e) s') s)
    (n : Nat) {s : Shared} (h : I n s) : codeAny (model prog w) A (.compLoop (.ListComp elt [⟨target, iter, ifs, 0⟩] scope pos) 0 it acc env) R s := by
  refine codeAny_loop rfl I (fun n s hI => ?_) n h
  show wpAny _ A ((compTurn (.ListComp elt [⟨target, iter, ifs, 0⟩] scope pos) 0 it acc env).onRaise (fun x => do noteFrame x env; theTreesLotGoes x)) _ _ s
  refine wpAny_noted ?_
  rw [compTurn_list]
  refine wpAny_bind (wpAny_standAt (wpAny_bind (wpAny_mono (turn n s hI) (fun r s₁ h₁ => ?_) fun _ _ h' => h')))
  cases r with
  | none => exact wpAny_pure h₁
  | some v =>
    refine wpAny_bind (wpAny_mono h₁ (fun _ s₁' h₁' => ?_) fun _ _ h' => h')
    refine wpAny_bind (wpAny_mono h₁' (fun _ s₂ h₂ => wpAny_bind (wpAny_mono h₂ (fun ok s₃ h₃ => ?_) fun _ _ h' => h')) fun _ _ h' => h')
    cases ok with
    | false => exact wpAny_pure ⟨rfl, h₃⟩
    | true => exact wpAny_bind (wpAny_bind (wpAny_mono h₃ (fun x s₄ h₄ => wpAny_bind (wpAny_mono h₄ (fun _ s₅ h₅ => wpAny_pure (wpAny_pure ⟨rfl, h₅⟩)) fun _ _ h' => h')) fun _ _ h' => h'))

inductive CondOk (G : Gd) (k : Ky) : List PySem.Expr → Option CE → Prop
  | none : CondOk G k [] none
  | some {c : PySem.Expr} {c' : CE} (h : ST G k c c') : CondOk G k [c] (some c')
noncomputable def condFn (G : Gd) (x : Fx) : Option CE → Option (Rho → Cm D)
  | none => none
  | some c => some fun ρ => evx G x c ρ
inductive MidC (G : Gd) (x' : Fx) (W₀ : Wd) (L A : Addr) (St : Nat → Wd → Prop) (len n : Nat) (ρ : Rho) (P : Nat → List D → Sto → Prop) (m : Nat) (s : Shared) : Prop
  | mk (i : Nat) (W : Wd) (l : Rho) (σ : Sto) (acc : List D) (ys : List Value) (kk : Nat) (hi : i ≤ len) (hm : m = len + 1 - i) (e : ExtB (fun a => a = L) W₀ W) (hl : l.length = n) (E : En G x' W (ρ ++ l)) (I : Inv G W σ s) (st : St i W) (hA : W A = some (.own (lstO ys kk))) (r : RelL G W acc.reverse ys) (ha : acc.length ≤ i) (p : P i acc σ) : MidC G x' W₀ L A St len n ρ P m s

theorem asBool_ok {r : Cm D} {σ σ' : Sto} {b : Bool} (h : asBool r σ = .ok b σ') : r σ = .ok (.bool b) σ' := by
  have h : (r σ).bind (fun d => Cm.opt (boolOf d)) = .ok b σ' := h
  cases hr : r σ with
  | ok d σ₁ =>
    rw [hr] at h
    cases d with
    | bool b' => cases h; rfl
    | _ => cases h
  | exc => rw [hr] at h; cases h
  | stuck => rw [hr] at h; cases h
theorem asBool_exc {r : Cm D} {σ σ' : Sto} {c : Nat} (h : asBool r σ = .exc c σ') : r σ = .exc c σ' := by
  have h : (r σ).bind (fun d => Cm.opt (boolOf d)) = .exc c σ' := h
  cases hr : r σ with
  | ok d σ₁ =>
    rw [hr] at h
    cases d <;> cases h
  | exc => rw [hr] at h; cases h; rfl
  | stuck => rw [hr] at h; cases h
theorem asBool_stuck {r : Cm D} {σ : Sto} (h : asBool r σ = .stuck) : r σ = .stuck ∨ ∃ d σ', r σ = .ok d σ' ∧ boolOf d = none := by
  have h : (r σ).bind (fun d => Cm.opt (boolOf d)) = .stuck := h
  cases hr : r σ with
  | ok d σ₁ =>
    rw [hr] at h
    refine .inr ⟨d, σ₁, rfl, ?_⟩
    cases hb : boolOf d with
    | none => rfl
    | some b => rw [Res.bind_ok, hb] at h; cases h
  | exc => rw [hr] at h; cases h
  | stuck => exact .inl rfl

noncomputable def PostN (G : Gd) (W : Wd) (L : Addr) (r : Res D) (v : Value) (s : Shared) : Prop := ∃ d σ' W', r = .ok d σ' ∧ Ext W W' ∧ Inv G W' σ' s ∧ Rel G W' d v ∧ W' L = none
noncomputable def EndC (G : Gd) (W : Wd) (L : Addr) (r : Res D) (v : Value) (s : Shared) : Prop := ∃ m, s.heap.Ns L m ∧ G.H.get? L = none ∧ ∀ h', Heap.SameBut L s.heap h' → PostN G W L r v { s with heap := h' }
noncomputable def LoopC (G : Gd) (A : Around) (E : Value → Shared → Prop) (W : Wd) (L : Addr) (r : Res D) (v : Value) (t : Result) (s : Shared) : Prop := match t with
  | .ok _ => EndC G W L r v s
  | .error e => compPost G.M A E none (fun _ _ => False) v L (.error e) s
set_option tactic.hygienic true in
theorem comp_loop {elt iter target : PySem.Expr} {pos : Pos} {ifs : List PySem.Expr} {scope : Scope} {ce : CE} {cc : Option CE} {I A L : Addr} {O : Addr → Prop} {src : Src} {St : Nat → Wd → Prop} {Ee : Value → Shared → Prop} {kk : Nat} {x' : Fx} {n : Nat}
    (hx : x'.A = x.A) (hxe : x'.envs = x.envs) (helt : SE G x'.k elt ce) (hcc : CondOk G x'.k ifs cc) (T : Turn G x' (fun a => a = L) target (List.range' ρ.length n) O I src St) (hO : ∀ a, O a → W₀ a = none ∧ a ≠ A ∧ a ≠ L) (hL0 : W₀ L = none) (hA0 : W₀ A = none) (hAL : A ≠ L) (hl : src.items.length ≤ cap) (hw : ExtB (fun a => a = L) W₀ W) (hst : St 0 W) (E : En G x' W (ρ ++ List.replicate n none)) (hA : W A = some (.own (lstO [] kk))) {m₀ : Str → Option Value} (hLm : W L = some (.ns m₀)) (hloc : x'.env.locals = L) (Iv : Inv G W σ s)
    (hr : compGo (fun ρ => evx G x' ce ρ) (condFn G x' cc) n ρ src.st src.items [] σ ≠ .stuck) :
    codeAny G.M x.A (.compLoop (.ListComp elt [⟨target, iter, ifs, 0⟩] scope pos) 0 (.ref I) (.ref A) x'.env)
      (LoopC G x.A Ee W₀ L ((compGo (fun ρ => evx G x' ce ρ) (condFn G x' cc) n ρ src.st src.items [] σ).bind fun ds => Mine.alloc (.list ds)) (.ref A)) s := by
  generalize hR : compGo (fun ρ => evx G x' ce ρ) (condFn G x' cc) n ρ src.st src.items [] σ = r0 at hr ⊢
  rw [← hx]
  refine comp_loop_any (MidC G x' W₀ L A St src.items.length n ρ fun i acc σ => compGo (fun ρ => evx G x' ce ρ) (condFn G x' cc) n ρ src.st (src.items.drop i) acc σ = r0) ?_ (src.items.length + 1) ⟨0, W, List.replicate n none, σ, [], [], kk, Nat.zero_le _, rfl, hw, List.length_replicate, E, Iv, hst, hA, .nil, Nat.le_refl _, hR⟩
  rintro nn s' ⟨i, W', l, σ', acc, ys, kk', hi, rfl, e, hlen, E', I', st, hA', racc, hal, p⟩
  generalize (notedBy (model G.prog G.w) x'.A x'.env fun e s' => LoopC G x'.A Ee W₀ L (r0.bind fun ds => Mine.alloc (.list ds)) (.ref A) (.error e) s') = EE
  by_cases hlt : i < src.items.length
  · obtain ⟨d, hd, hdrop⟩ := drop_at hlt
    rw [hdrop, compGo_cons] at p
    split at p
    case isFalse => exact absurd p.symm hr
    rename_i hs
    cases hu : unpackT σ' n d with
    | none => rw [hu] at p; exact absurd p.symm hr
    | some vs =>
      rw [hu] at p
      dsimp only at p
      have hvl : vs.length = n := by
        unfold unpackT at hu
        split at hu
        · cases hu; rename_i q; rw [q]; rfl
        · obtain ⟨ds, _, h⟩ := Option.bind_eq_some_iff.mp hu
          obtain ⟨h, q⟩ := Option.ite_none_right_eq_some.mp h
          cases q; exact h
      have hset : (unpackT σ' (List.range' ρ.length n).length d).bind (setVars (ρ ++ l) (List.range' ρ.length n)) = some (ρ ++ vs.map some) := by
        rw [List.length_range', hu, ← hvl]
        exact setVars_comp (by rw [hlen, hvl])
      have elts : ∀ {s₃ : Shared} {W₃ : Wd} {σ₃ : Sto} {EE : Value → Shared → Prop}, ExtB (fun a => a = L) W₀ W₃ → En G x' W₃ (ρ ++ vs.map some) → Inv G W₃ σ₃ s₃ → St (i + 1) W₃ → W₃ A = some (.own (lstO ys kk')) → RelL G W₃ acc.reverse ys →
          (match evx G x' ce (ρ ++ vs.map some) σ₃ with | .ok v σ'' => compGo (fun ρ => evx G x' ce ρ) (condFn G x' cc) n ρ src.st (src.items.drop (i + 1)) (v :: acc) σ'' | _ => .stuck) = r0 →
          wpAny G.M x'.A (eval elt x'.env) (fun y s₄ => wpAny G.M x'.A (call (.builtin "list.append") [.ref A, y]) (fun _ s₅ => ∃ m, m < src.items.length + 1 - i ∧ MidC G x' W₀ L A St src.items.length n ρ (fun i acc σ => compGo (fun ρ => evx G x' ce ρ) (condFn G x' cc) n ρ src.st (src.items.drop i) acc σ = r0) m s₅) EE s₄) EE s₃ := by
        intro s₃ W₃ σ₃ EE e₃ E₃ I₃ st₃ hA₃ r₃ p₃
        have hne : evx G x' ce (ρ ++ vs.map some) σ₃ ≠ .stuck := fun q => by rw [q] at p₃; exact hr p₃.symm
        refine wpAny_mono (helt rfl E₃ W₃ σ₃ s₃ (Ext.refl _) I₃ hne) (fun y s₄ q => ?_) fun v s₄ q => ?_
        · obtain ⟨d₄, σ₄, W₄, h1, h2, h3, h4⟩ := q
          rw [h1] at p₃
          have hA₄ := h2 _ _ hA₃
          cases h3.pl _ _ hA₄ with
          | own ho new =>
            refine wpAny_list_append_plain ⟨_, ho⟩ (fun h₆ hl₆ hs₆ => ?_) (by rw [List.size_toArray, ← r₃.length, List.length_reverse]; have := cap_le; omega)
            obtain ⟨kn, ho₆⟩ := hl₆
            have e6 : (ys.toArray.push y) = (ys ++ [y]).toArray := by simp
            rw [e6] at ho₆
            have fx : Fix W₄ (W₄.put A (some (.own (lstO (ys ++ [y]) kn)))) := Fix.put hA₄ rfl
            refine ⟨src.items.length + 1 - (i + 1), by omega, i + 1, W₄.put A (some (.own (lstO (ys ++ [y]) kn))), vs.map some, σ₄, d₄ :: acc, ys ++ [y], kn, hlt, rfl, ?_, by rw [List.length_map, hvl], (E₃.ext h2).own hA₄, ?_, ?_, put_self, ?_, by rw [List.length_cons]; omega, p₃⟩
            · exact fun a kl q1 q2 => by
                rw [put_ne fun q => by rw [q, hA0] at q1; cases q1]
                exact h2 a kl (e₃ a kl q1 q2)
            · exact h3.write hA₄ rfl (fun kl q => by cases q; exact ⟨fun _ q => (nomatch q), .own ho₆ new⟩) (fun b o hb e => hs₆.extBut b o hb e) rfl rfl
            · exact T.frame _ _ _ st₃ (h2.fx.trans fx) fun a o ha q => by rw [put_ne (hO a ha).2.1]; exact h2 _ _ q
            · rw [List.reverse_cons]
              exact ((r₃.mono h2.fx).mono fx).append (.cons (h4.mono fx) .nil)
        · obtain ⟨c, σ₄, W₄, ea, base, a0, h1, _⟩ := q
          rw [h1] at p₃; exact absurd p₃.symm hr
      refine wpAny_mono (T.item i d W' (ρ ++ l) (ρ ++ vs.map some) σ' s' (fun s₂ => wpAny G.M x'.A (forIn ifs true fun c r => if r = true then do let ok ← isTrue c x'.env (eval c x'.env); pure (ForInStep.yield ok) else pure (ForInStep.yield r)) (fun ok s₃ =>
            if ok = true then wpAny G.M x'.A (eval elt x'.env) (fun y s₄ =>
              wpAny G.M x'.A (call (.builtin "list.append") [.ref A, y]) (fun _ s₅ => ∃ m, m < src.items.length + 1 - i ∧ MidC G x' W₀ L A St src.items.length n ρ (fun i acc σ => compGo (fun ρ => evx G x' ce ρ) (condFn G x' cc) n ρ src.st (src.items.drop i) acc σ = r0) m s₅) EE s₄) EE s₃
            else ∃ m, m < src.items.length + 1 - i ∧ MidC G x' W₀ L A St src.items.length n ρ (fun i acc σ => compGo (fun ρ => evx G x' ce ρ) (condFn G x' cc) n ρ src.st (src.items.drop i) acc σ = r0) m s₃) EE s₂) EE hd st E' I' hs hset fun W₁ s₁ aw fx₁ E₁ I₁ st₁ => ?_) (fun o s₁ q => ?_) fun _ _ q => q
      · have e₁ := aw.ext e fun a ha => (hO a ha).1
        have hA₁ : W₁ A = some (.own (lstO ys kk')) := aw _ _ hA' (fun ha => (hO A ha).2.1 rfl) fun q => nomatch q
        have r₁ : RelL G W₁ acc.reverse ys := racc.mono fx₁
        cases hcc with
        | none =>
          rw [List.forIn_nil]
          refine wpAny_pure ?_
          rw [if_pos rfl]
          exact elts e₁ E₁ I₁ st₁ hA₁ r₁ p
        | @some c c' h =>
          replace p : (match evx G x' c' (ρ ++ vs.map some) σ' with
            | .ok b σ' => (match boolOf b with
              | some b => if b then (match evx G x' ce (ρ ++ vs.map some) σ' with
                | .ok v σ'' => compGo (fun ρ => evx G x' ce ρ) (condFn G x' (some c')) n ρ src.st (src.items.drop (i + 1)) (v :: acc) σ''
                | _ => .stuck) else compGo (fun ρ => evx G x' ce ρ) (condFn G x' (some c')) n ρ src.st (src.items.drop (i + 1)) acc σ'
              | none => .stuck)
            | _ => .stuck) = r0 := p
          have hne : asBool (evx G x' c' (ρ ++ vs.map some)) σ' ≠ .stuck := fun q => by
            rcases asBool_stuck q with q | ⟨d₃, σ₃, q, hq⟩
            · rw [q] at p; exact hr p.symm
            · rw [q] at p; dsimp only at p; rw [hq] at p; exact hr p.symm
          refine wpAny_tests_one (wpAny_mono (h rfl E₁ W₁ σ' s₁ (Ext.refl _) I₁ hne) (fun b s₃ q => ?_) fun v s₃ q => ?_)
          · obtain ⟨b', σ₃, W₃, h1, h2, h3, h4⟩ := q
            cases h4
            rw [asBool_ok h1] at p
            have e₃ : ExtB (fun a => a = L) W₀ W₃ := e₁.trans h2.b
            have st₃ := T.frame _ _ _ st₁ h2.fx fun a o _ q => h2 _ _ q
            cases b with
            | true =>
              rw [if_pos rfl]
              exact elts e₃ (E₁.ext h2) h3 st₃ (h2 _ _ hA₁) (r₁.mono h2.fx) p
            | false =>
              rw [if_neg (by simp)]
              exact ⟨src.items.length + 1 - (i + 1), by omega, i + 1, W₃, vs.map some, σ₃, acc, ys, kk', hlt, rfl, e₃, by rw [List.length_map, hvl], E₁.ext h2, h3, st₃, h2 _ _ hA₁, r₁.mono h2.fx, by omega, p⟩
          · obtain ⟨c, σ₃, W₃, ea, base, a0, h1, _⟩ := q
            rw [asBool_exc h1] at p; exact absurd p.symm hr
      · cases o with
        | none => exact q.elim
        | some v => exact q
  · have hin : i = src.items.length := by omega
    subst hin
    rw [List.drop_length, compGo_nil] at p
    split at p
    case isFalse => exact absurd p.symm hr
    refine wpAny_mono (T.done W' (ρ ++ l) σ' s' (EndC G W₀ L (r0.bind fun ds => Mine.alloc (.list ds)) (.ref A)) _ st E' I' ‹_› fun W₁ s₁ aw fx₁ E₁ I₁ => ?_) (fun o s₁ q => ?_) fun _ _ q => q
    · have e₁ := aw.ext e fun a ha => (hO a ha).1
      have hA₁ : W₁ A = some (.own (lstO ys kk')) := aw _ _ hA' (fun ha => (hO A ha).2.1 rfl) fun q => nomatch q
      have r₁ : RelL G W₁ acc.reverse ys := racc.mono fx₁
      obtain ⟨m, hm, _⟩ := E₁.ns
      rw [hloc] at hm
      cases I₁.pl _ _ hm with
      | ns hns new =>
        refine ⟨m, hns, new, fun h' hs => ?_⟩
        have I₂ : Inv G (W₁.put L none) σ' { s₁ with heap := h' } := I₁.write hm rfl (fun kl q => by cases q) (fun b o hb e => hs.extBut b o hb e) rfl rfl
        have hA₂ : W₁.put L none A = some (.own (lstO ys kk')) := by rw [put_ne hAL]; exact hA₁
        cases I₂.pl _ _ hA₂ with
        | own ho newA =>
          have I₃ : Inv G ((W₁.put L none).put A none) σ' { s₁ with heap := h' } := I₂.write hA₂ rfl (fun kl q => by cases q) (fun b o _ e => e) rfl rfl
          have fx1 : Fix W₁ (W₁.put L none) := Fix.put hm rfl
          have fx2 : Fix (W₁.put L none) ((W₁.put L none).put A none) := Fix.put hA₂ rfl
          have hn3 : (W₁.put L none).put A none A = none := put_self
          have fx3 := (Ext.put (k := some (.sto σ'.length)) hn3).fx
          refine ⟨.ref σ'.length, σ' ++ [.list acc.reverse], ((W₁.put L none).put A none).put A (some (.sto σ'.length)), by rw [← p]; rfl, fun a kl q => ?_, I₃.push hn3 ho (.list ho rfl rfl (((r₁.mono fx1).mono fx2).mono fx3) newA (by rw [List.length_reverse]; omega) rfl), .ref put_self, by rw [put_ne (Ne.symm hAL), put_ne (Ne.symm hAL), put_self]⟩
          have ha : a ≠ A := fun h => by rw [h, hA0] at q; cases q
          have hL : a ≠ L := fun h => by rw [h, hL0] at q; cases q
          rw [put_ne ha, put_ne ha, put_ne hL]
          exact e₁ a kl q fun _ => hL
    · cases o with
      | none => exact q
      | some v => exact q.elim

theorem Ext.none (e : Ext W W₁) {a : Addr} (h : W₁ a = none) : W a = none := by
  cases q : W a with
  | none => rfl
  | some k => rw [e _ _ q] at h; cases h
noncomputable def Fx.md (x : Fx) (h : Bool) : Fx := { x with hd := h }
theorem TgOk.md {X : Addr → Prop} {h : Bool} {t : PySem.Expr} {is : List Nat} (q : TgOk x X t is) : TgOk (x.md h) X t is := by
  have pl : ∀ {y i}, Places x y i X → Places (x.md h) y i X := fun p => ⟨p.own, p.loc, p.cell, p.one⟩
  cases q with
  | name hX => exact .name (pl hX)
  | tup hX h2 =>
    refine .tup ?_ h2
    clear h2
    induction hX with
    | nil => exact .nil
    | cons hX _ ih => exact .cons (pl hX) ih
theorem En.wp {p : Option (Addr × Obj)} {h : Bool} (E : En G x W ρ) (hp : h = false → x.hd = false ∧ p = none) : En (G.wp p) (x.md h) W ρ := by
  obtain ⟨m, hm, hv⟩ := E.ns
  refine ⟨E.kind, E.glob, E.blt, ⟨m, hm, fun i y d h1 h2 h3 => ?_⟩, fun i y h1 h2 => ?_, E.apart, E.len, E.fr, E.hf, E.frs, E.depth, E.units, fun q => ⟨(E.handled (hp q).1).1, (hp q).2⟩, E.sc, E.gg⟩
  · obtain ⟨v, h4, h5⟩ := hv i y d h1 h2 h3
    exact ⟨v, h4, h5.wp⟩
  · obtain ⟨c, ov, h4, h5, h6⟩ := E.cells i y h1 h2
    refine ⟨c, ov, h4, h5, fun d h7 => ?_⟩
    obtain ⟨v, h8, h9⟩ := h6 d h7
    exact ⟨v, h8, h9.wp⟩
theorem PostN.unwp {p : Option (Addr × Obj)} {L : Addr} {r : Res D} {v : Value} (hp : p = G.pin ∨ G.pin = none) (q : PostN (G.wp p) W L r v s) : PostN G W L r v s := by
  obtain ⟨d, σ', W', h1, h2, h3, h4, h5⟩ := q
  refine ⟨d, σ', W', h1, h2, (h3.wp (p := G.pin) fun b o e => ?_ : Inv G W' σ' s), (h4.wp (p := G.pin) : Rel G W' d v), h5⟩
  rcases hp with rfl | hp
  · exact h3.pin b o e
  · rw [hp] at e; cases e
theorem comp_core {elt iter target : PySem.Expr} {xs : List Str} {pos : Pos} {ifs : List PySem.Expr} {scope : Scope} {ce : CE} {ci : CI} {cc : Option CE} (ok : CompOk k.C scope xs) (htg : CTg target xs) (htup : ci.tup = true → xs.length ≠ 1) (hset : ∀ env v, foldedSetIterable iter env v = pure v) (hit : SIp G k iter ci)
    (helt : ∀ p, SE (G.wp p) ⟨k.n, compCC k.C scope xs⟩ elt ce) (hcc : ∀ p, CondOk (G.wp p) ⟨k.n, compCC k.C scope xs⟩ ifs cc)  {p2 : Pos} {use : Option (Value → Sem Unit)} {Q : Value → Shared → Prop} {Ee : Value → Shared → Prop}
    (hk : x.k = k) (E : En G x W ρ) (I : Inv G W σ s) (hr : evx G x (.comp ce xs.length ci cc) ρ σ ≠ .stuck) (hE : ∀ v s', PostX G W x.envs (evx G x (.comp ce xs.length ci cc) ρ σ) v s' → Ee v s') (hfin : ∀ a L s' f, W L = none → EndC G W L (evx G x (.comp ce xs.length ci cc) ρ σ) a s' → compPost G.M x.A Ee use Q a L (.ok f) s') :
    wpAny G.M x.A (comprehension (.ListComp elt [⟨target, iter, ifs, 0⟩] scope pos) scope x.env p2 (newList []) false (eval iter x.env) use) Q Ee s := by
  subst hk
  have e0 : evx G x (.comp ce xs.length ci cc) ρ = (evix G x ci ρ).bnd fun src => (compGo (fun ρ => evx G (x.md (ci.isKeys || x.hd)) ce ρ) (condFn G (x.md (ci.isKeys || x.hd)) cc) xs.length ρ src.st src.items []).bnd fun ds => Mine.alloc (.list ds) := by
    cases cc <;> rfl
  rw [e0] at hr hE hfin
  refine wpAny_comprehension_free (use := use) (g := ⟨target, iter, ifs, 0⟩) (gs := []) rfl (hset x.env) (closureFor_some (ok.cells E)) ok.kind ok.names ?_
  refine wpAny_mono (hit rfl E I (bind_ne hr)) (fun v s₁ p => wpAny_mono p (fun it s₂ p => ?_) fun v s₁ p => hE _ _ (p.cast fun c σ q => by rw [Cm.bnd_ap, q]; rfl)) fun v s₁ p => hE _ _ (p.cast fun c σ q => by rw [Cm.bnd_ap, q]; rfl)
  have hG : ci.isKeys = true → x.hd = false := fun _ => hd_false E (bind_ne hr)
  obtain ⟨p, hp, src, σ₁, W₁, W₂, a, O, h1, e1, e2, hO, Iv, rfl, hl, T⟩ := p
  have hpn : p = G.pin ∨ G.pin = none := by
    cases q : ci.isKeys with
    | false => exact .inl (hp q)
    | true => exact .inr (E.handled (hG q)).2
  have e3 : ((evix G x ci ρ).bnd fun src => (compGo (fun ρ => evx G (x.md (ci.isKeys || x.hd)) ce ρ) (condFn G (x.md (ci.isKeys || x.hd)) cc) xs.length ρ src.st src.items []).bnd fun ds => Mine.alloc (.list ds)) σ = (compGo (fun ρ => evx G (x.md (ci.isKeys || x.hd)) ce ρ) (condFn G (x.md (ci.isKeys || x.hd)) cc) xs.length ρ src.st src.items [] σ₁).bind fun ds => Mine.alloc (.list ds) := by rw [Cm.bnd_ap, h1]; rfl
  rw [e3] at hr hfin
  clear hE
  refine wpAny_newObj_type (wpAny_newFunctionEnv ok.nocell (by intro y hy; simp at hy) (fun h₁ hns₁ hsb₁ => ?_) ok.kind) (Nat.zero_le _)
  dsimp only at hns₁ hsb₁ ⊢
  generalize hH2 : s₂.heap.push { cls := .type "list", dict := none, data := .seq ([] : List Value).toArray } = H2 at hns₁ hsb₁ ⊢
  have hC : H2.objs.size = s₂.heap.objs.size + 1 := by rw [← hH2, Heap.size_push]
  have hAL : s₂.heap.objs.size ≠ H2.objs.size := by rw [hC]; exact Nat.ne_of_lt (Nat.lt_succ_self _)
  have old : ∀ b o, s₂.heap.get? b = some o → h₁.get? b = some o := fun b o e => hsb₁.extBut b o (fun q => by
    have := Heap.lt_size e
    rw [q, hC] at this
    exact Nat.lt_irrefl _ (Nat.lt_of_succ_lt this)) (Heap.get?_push_of_some _ (hH2 ▸ Heap.get?_push_of_some _ e))
  have hacc : h₁.get? s₂.heap.objs.size = some (lstO [] 0) := hsb₁.extBut _ _ hAL (Heap.get?_push_of_some _ (hH2 ▸ Heap.get?_push_size _ rfl))
  have n1 : W₂ s₂.heap.objs.size = none := Iv.fresh
  have gL : s₂.heap.get? H2.objs.size = none := Heap.get?_none_of_le (by rw [hC]; exact Nat.le_succ _)
  have n2 : W₂ H2.objs.size = none := Iv.nobody gL
  have n2' : W₂.put s₂.heap.objs.size (some (.own (lstO [] 0))) H2.objs.size = none := by rw [put_ne (Ne.symm hAL)]; exact n2
  have I₃ : Inv (G.wp p) W₂ σ₁ { s₂ with heap := h₁, toks := s₂.toks + ([] : List (Str × Value)).length } := Iv.grow old rfl rfl
  have I₄ := I₃.claim (k := .own (lstO [] 0)) n1 (fun _ q => (nomatch q)) (.own hacc Iv.hfresh)
  obtain ⟨m, hm⟩ : ∃ m, h₁.Ns H2.objs.size m := ⟨_, hns₁⟩
  have I₅ := I₄.claim (k := .ns m) n2' (fun _ q => (nomatch q)) (.ns hm (Iv.hnone gL))
  have x45 : Ext W₂ ((W₂.put s₂.heap.objs.size (some (.own (lstO [] 0)))).put H2.objs.size (some (.ns m))) := (Ext.put n1).trans (Ext.put n2')
  obtain ⟨St, T, st⟩ := T ((x.comp scope xs H2.objs.size).md (ci.isKeys || x.hd)) (fun a => a = H2.objs.size) target (List.range' ρ.length xs.length) rfl (htg.ok E ok).md (by rw [List.length_range']; exact htup)
  have hlt : ∀ b, O b → b < s₂.heap.objs.size := fun b hb => by
    cases q : W₂ b with
    | none => exact absurd q (hO b hb).2
    | some kl => exact Iv.lt q
  have loop : codeAny G.M x.A (.compLoop (.ListComp elt [⟨target, iter, ifs, 0⟩] scope pos) 0 (.ref a) (.ref s₂.heap.objs.size) (compEnvC scope (closFrom x.env scope.names []) H2.objs.size x.env))
      (compPost G.M x.A Ee use Q (.ref s₂.heap.objs.size) H2.objs.size)
      { s₂ with heap := h₁, toks := s₂.toks + ([] : List (Str × Value)).length } := by
    refine codeAny_mono (comp_loop (G := G.wp p) (Ee := Ee) (x := x) (x' := (x.comp scope xs H2.objs.size).md (ci.isKeys || x.hd)) (iter := iter) (scope := scope) (pos := pos) (W₀ := W₁) rfl rfl (helt p) (hcc p) T (fun b hb => ⟨(hO b hb).1, Nat.ne_of_lt (hlt b hb), Nat.ne_of_lt (Nat.lt_of_lt_of_le (hlt b hb) (by rw [hC]; exact Nat.le_succ _))⟩) (e2.none n2) (e2.none n1) hAL hl (e2.trans x45).b
      (T.frame _ _ _ st x45.fx fun b o _ q => x45 _ _ q) (((E.ext (e1.trans (e2.trans x45))).comp ok put_self (List.length_replicate) fun o ho => List.eq_of_mem_replicate ho).wp fun q => (by
        obtain ⟨q1, q2⟩ := Bool.or_eq_false_iff.mp q
        exact ⟨q2, (hp q1).trans (E.handled q2).2⟩)) (by rw [put_ne hAL]; exact put_self) put_self rfl I₅ (bind_ne hr)) fun r s' q => ?_
    cases r with
    | ok f =>
      obtain ⟨m, k1, k0, k2⟩ := q
      refine hfin _ _ _ f ((e1.trans e2).none n2) ⟨m, k1, k0, fun h' hs' => ?_⟩
      obtain ⟨d, σ', W', q1, q2, q3, q4, q5⟩ := (k2 h' hs').unwp hpn
      exact ⟨d, σ', W', q1, e1.trans q2, q3, q4, q5⟩
    | error e => exact q
  have hs : Stands σ₁ src.st := by
    have := bind_ne hr
    revert this
    cases src.items with
    | nil => rw [compGo_nil]; split <;> intro q <;> first | assumption | exact absurd rfl q
    | cons d r => rw [compGo_cons]; split <;> intro q <;> first | assumption | exact absurd rfl q
  exact codeAny_compStart_list loop (T.self 0 _ _ _ _ _ (T.frame _ _ _ st x45.fx fun b o _ q => x45 _ _ q) I₅ hs loop)
theorem comp_se {elt iter target : PySem.Expr} {xs : List Str} {pos : Pos} {ifs : List PySem.Expr} {scope : Scope} {ce : CE} {ci : CI} {cc : Option CE} (ok : CompOk k.C scope xs) (htg : CTg target xs) (htup : ci.tup = true → xs.length ≠ 1) (hset : ∀ env v, foldedSetIterable iter env v = pure v) (hit : SIp G k iter ci)
    (helt : ∀ p, SE (G.wp p) ⟨k.n, compCC k.C scope xs⟩ elt ce) (hcc : ∀ p, CondOk (G.wp p) ⟨k.n, compCC k.C scope xs⟩ ifs cc) : SE G k (.ListComp elt [⟨target, iter, ifs, 0⟩] scope pos) (.comp ce xs.length ci cc) := fun {x} {W} {ρ} hk E => fun W' σ s e I hr => by
  rw [eval_ListComp]
  exact comp_core ok htg htup hset hit helt hcc hk (E.ext e) I hr (fun _ _ q => q) fun a L s' f _ ⟨m, k1, _, k2⟩ => ⟨m, k1, fun h' hs => let ⟨d, σ', W', q1, q2, q3, q4, _⟩ := k2 h' hs; ⟨d, σ', W', q1, q2, q3, q4⟩⟩
theorem En.drop {W₀ : Wd} {ρ₀ : Rho} {L : Addr} {m : Str → Option Value} (E₀ : En G x W₀ ρ₀) (hL : W₀ L = none) (E : En G x W ρ) (hw : W L = some (.ns m)) : En G x (W.put L none) ρ := by
  have ne : ∀ {a : Addr} {kl k₀ : Kl}, W₀ a = some k₀ → W a = some kl → W.put L none a = some kl := fun h0 e => by
    rw [put_ne fun h => by subst h; rw [hL] at h0; cases h0]; exact e
  have fx : Fix W (W.put L none) := Fix.put hw rfl
  obtain ⟨m₀, hm₀, _⟩ := E₀.ns
  obtain ⟨m, hm, hv⟩ := E.ns
  refine ⟨E.kind, E.glob, E.blt, ⟨m, ne hm₀ hm, fun i y d h1 h2 h3 => ?_⟩, fun i y h1 h2 => ?_, E.apart, E.len, E.fr, E.hf, fun e he => ?_, E.depth, E.units, E.handled, E.sc, E.gg⟩
  · obtain ⟨v, h4, h5⟩ := hv i y d h1 h2 h3
    exact ⟨v, h4, h5.mono fx⟩
  · obtain ⟨c₀, ov₀, g4, g5, _⟩ := E₀.cells i y h1 h2
    obtain ⟨c, ov, h4, h5, h6⟩ := E.cells i y h1 h2
    have : c₀ = c := by rw [h4] at g4; cases g4; rfl
    subst this
    refine ⟨c₀, ov, h4, ne g5 h5, fun d h7 => ?_⟩
    obtain ⟨v, h8, h9⟩ := h6 d h7
    exact ⟨v, h8, h9.mono fx⟩
  · obtain ⟨_, L₀, m₀, g2, g3⟩ := E₀.frs e he
    obtain ⟨h1, L', m, h2, h3⟩ := E.frs e he
    have : L₀ = L' := by rw [h2] at g2; cases g2; rfl
    subst this
    exact ⟨h1, L₀, m, h2, ne g3 h3⟩
theorem En.notOwn {L : Addr} (E : En G x W ρ) (hL : W L = none) : ¬ Own x L := by
  rintro (h | ⟨i, y, h1, h2, h3⟩)
  · obtain ⟨m, hm, _⟩ := E.ns
    rw [← h, hL] at hm; cases hm
  · obtain ⟨c, ov, h4, h5, _⟩ := E.cells i y h1 (.inl h2)
    rw [h3] at h4; cases h4
    rw [hL] at h5; cases h5
theorem asgC_ss {y : Str} {i : Nat} {p spos : Pos} {elt iter target : PySem.Expr} {xs : List Str} {pos : Pos} {ifs : List PySem.Expr} {scope : Scope} {ce : CE} {ci : CI} {cc : Option CE} (hn : VarsND k.C.vars) (hx : k.C.own y = some i) (hsw : swapsB k.C scope y p pos = true)
    (ok : CompOk k.C scope xs) (htg : CTg target xs) (htup : ci.tup = true → xs.length ≠ 1) (hset : ∀ env v, foldedSetIterable iter env v = pure v) (hit : SIp G k iter ci)
    (helt : ∀ p, SE (G.wp p) ⟨k.n, compCC k.C scope xs⟩ elt ce) (hcc : ∀ p, CondOk (G.wp p) ⟨k.n, compCC k.C scope xs⟩ ifs cc) : SS G k (.Assign [.Name y p] (.ListComp elt [⟨target, iter, ifs, 0⟩] scope pos) spos) (.asg i (.comp ce xs.length ci cc)) := fun {x} {W} {ρ} {σ} {s} hk _ E I hr => by
  have hsw' : swapsWith (.ListComp elt [⟨target, iter, ifs, 0⟩] scope pos) (some (.Name y p)) spos.line x.env = pure true := by
    unfold swapsB at hsw
    simp only [Bool.and_eq_true] at hsw
    obtain ⟨⟨h1, h2⟩, h3⟩ := hsw
    show (pure (x.env.blockKind == .function && x.env.kindOf y == some .local && p.line == pos.line && !(scope.names.any fun q => q.1 == y && (q.2 == .local || q.2 == .cell))) : Sem Bool) = _
    have hb : (x.env.blockKind == .function) = true := by
      unfold Env.blockKind; rw [E.kind]; rfl
    have hkd : (x.env.kindOf y == some .local) = true := by
      subst hk
      rw [E.kindOf (by simpa using h1)]; rfl
    rw [hb, hkd, h2, h3]; rfl
  rw [exec_Assign_Name_used _ _ _ _ hsw']
  refine wpAny_bind (wpAny_standAt (wpAny_bind ?_))
  show wpAny G.M x.A (do let _ ← comprehension (.ListComp elt [⟨target, iter, ifs, 0⟩] scope pos) scope x.env _ (newList []) false (eval iter x.env) (some (assign (.Name y p) x.env))) _ _ s
  replace hr : (evx G x (.comp ce xs.length ci cc) ρ).stm ρ (fun d => Cm.opt ((setVars ρ [i] [d]).map .next)) σ ≠ .stuck := hr
  show wpAny G.M x.A _ _ (PostSX G x W ((evx G x (.comp ce xs.length ci cc) ρ).stm ρ (fun d => Cm.opt ((setVars ρ [i] [d]).map .next)) σ)) s
  refine wpAny_bind (wpAny_mono (comp_core (Q := fun _ s' => PostS G x W ((evx G x (.comp ce xs.length ci cc) ρ).stm ρ (fun d => Cm.opt ((setVars ρ [i] [d]).map .next)) σ) .next s') ok htg htup hset (fun {_ _ _ _ _} => hit) helt hcc hk E I (stm_ne hr) (fun _ _ q => q.stm E) fun a L s' f hL q => ?_) (fun _ s' hq => wpAny_pure (wpAny_pure hq)) fun _ _ q => q)
  obtain ⟨m, k1, k0, k2⟩ := q
  obtain ⟨d, σ', W', q1, q2, q3, q4, q5⟩ := k2 s'.heap (Heap.SameBut.refl _ _)
  subst hk
  have I1 : Inv G (W'.put L (some (.ns m))) σ' s' := Inv.claim (k := .ns m) (s := s') q3 q5 (fun _ q => (nomatch q)) (.ns k1 k0)
  have e1 : Ext W' (W'.put L (some (.ns m))) := Ext.put q5
  rw [Cm.stm_ok q1, set_vars1 E (own_get hx).1] at hr ⊢
  show wpAny G.M x.A (assign (.Name y p) x.env a) _ _ s'
  refine wpAny_assign_Name (store_at ((E.ext q2).ext e1) I1 (own_places hn hx) (q4.mono e1.fx) fun W2 s2 x2 E2 I2 => ?_)
  have hLn : W2 L = some (.ns m) := x2 L _ put_self fun _ => E.notOwn hL
  cases I2.pl _ _ hLn with
  | ns hns new =>
    refine ⟨m, hns, fun h' hs => .next _ σ' (W2.put L none) rfl rfl (fun b kl h hX => ?_) (I2.write hLn rfl (fun kl q => by cases q) (fun b o hb e => hs.extBut b o hb e) rfl rfl) (E.drop hL E2 hLn)⟩
    have hb : b ≠ L := fun q => by rw [q, hL] at h; cases h
    rw [put_ne hb]
    exact x2 b kl (e1 b kl (q2 b kl h)) hX
noncomputable def SC (G : Gd) (k : Ky) (e : PySem.Expr) (c : CE) : Prop := ∀ (scope : Scope) (pos : Pos), compAt e = some (scope, pos) → ∀ (y : Str) (i : Nat) (p spos : Pos), VarsND k.C.vars → k.C.own y = some i → swapsB k.C scope y p pos = true → SS G k (.Assign [.Name y p] e spos) (.asg i c)
end
end Mine

namespace Mine
open PySem PySem.Calls PySem.W PyProof.Rows
set_option maxRecDepth 100000

noncomputable def fsOf (envs : List Env) : List Addr := envs.filterMap (·.frame)
section
variable {M : Model} {A : Around} {E : Value → Shared → Prop}
theorem exc_matches {C C' N N' : Addr} {nm nm' q q' : Str} {bs bs' bm bm' : List Value} {hdct hdct' : Bool} {sn sn' : List Str} {sub sub' : List Value} {ab ab' : Bool} {col col' : Option Bool} {dd dd' : Option Addr} {k0 k1 k2 k3 k5 j0 j1 j2 j3 j5 : Option Value} {newId newId' : String}
    {h : Heap} {g : Array GenState} {d : Drawn} {t : Nat} {os : OsState} {e : Addr} {oe : Obj} {Q : Bool → Shared → Prop} {b : Bool}
    (hC : h.get? C = some (excClassObj nm q C N bs bm hdct sn sub ab col dd k0 k1 k2 k3 k5 newId)) (he : h.get? e = some oe) (hcls : oe.cls = .ref C)
    (hC' : h.get? C' = some (excClassObj nm' q' C' N' bs' bm' hdct' sn' sub' ab' col' dd' j0 j1 j2 j3 j5 newId')) (hbase : bm'.contains (.type "BaseException") = true) (hb : (Value.ref C :: bm).contains (.ref C') = b)
    (hq : Q b ⟨h, g, d, t, os⟩) : wpAny M A (excMatches (.ref e) (.ref C')) Q E ⟨h, g, d, t, os⟩ := by
  have hcB : (Value.ref C' :: bm').contains (.type "BaseException") = true := by rw [List.contains_cons, hbase, Bool.or_true]
  have f := tc_notTuple
  unfold excMatches
  repeat (first | (with_reducible refine wpAny_loadPart_at he ?_; rw [hcls]) | with_reducible refine wpAny_loadPart_at hC' ?_ | (with_reducible refine wpAny_isSubtype_exc hC' ?_; rw [hcB]) | (with_reducible refine wpAny_isSubtype_exc hC ?_; rw [hb]) | wp_step)
  cases b <;> (wp_walk; exact hq)
end
section
variable {G : Gd} {x : Fx} {W W₁ : Wd} {ρ : Rho} {k : Ky} {σ : Sto} {s s' : Shared}
theorem funFrames_of {h h' : Heap} (kp : ∀ b o, h.get? b = some o → h'.get? b = some o) : ∀ {l l₀ : List Env}, (∀ e ∈ l, e ∈ l₀) → (∀ e ∈ l, e.scope.kind ≠ .module ∧ ∃ L m, e.frame = some L ∧ h.Ns L m) → h'.FunFrames (eraseAll h (fsOf l₀)) l
  | [], _, _, _ => trivial
  | e :: l, l₀, hs, hf => by
    obtain ⟨k1, L, m, k2, o, es, ep, ho, hd, _⟩ := hf e (.head _)
    exact ⟨k1, ⟨L, o, k2, eraseAll_in (List.mem_filterMap.mpr ⟨e, hs e (.head _), k2⟩), kp _ _ ho, fun vs q => by rw [hd] at q; cases q⟩, funFrames_of kp (fun e he => hs e (.tail _ he)) fun e he => hf e (.tail _ he)⟩
theorem made_fly (E : En G x W ρ) (I : Inv G W σ s) {h' : Heap} {e C' : Addr} {c : Nat} {vs : List Value} (hec : G.ec c = .ref C') (hm : Heap.MadeExcOf s.heap h' e (.ref C') vs) : PostSX G x W (.ok (.exc c ρ) σ) (.ref e) { s with heap := h' } := by
  obtain ⟨L, hL⟩ := E.frame
  obtain ⟨t, ht, htn, _⟩ := hm.there
  have fs : ∀ {b : Addr}, b ∈ fsOf x.envs → ∃ m, W b = some (.ns m) := fun hb => by
    obtain ⟨f, hf, hb⟩ := List.mem_filterMap.mp hb
    obtain ⟨_, L', m, h1, h2⟩ := E.frs f hf
    rw [h1] at hb; cases hb; exact ⟨m, h2⟩
  have base_in : ∀ b o, (eraseAll s.heap (fsOf x.envs)).get? b = some o → s.heap.get? b = some o := fun b o e => by
    by_cases q : b ∈ fsOf x.envs
    · rw [eraseAll_in q] at e; cases e
    · rw [eraseAll_out q] at e; exact e
  have nsH : ∀ {b : Addr} {m : Str → Option Value}, W b = some (.ns m) → G.H.get? b = none := fun h => by
    cases I.pl _ _ h with
    | ns _ new => exact new
  refine ⟨c, ρ, σ, W, e, eraseAll s.heap (fsOf x.envs), L, rfl, rfl, ExtB.refl _, I.grow hm.keeps rfl rfl, E, ⟨fun b o hb => ?_, fun a kl o h1 h2 h3 => ?_⟩, hL, ⟨fun b o e => hm.keeps _ _ (base_in b o e), ?_, funFrames_of hm.keeps (fun _ h => h) fun f hf => ?_, .ref t, .inl ⟨_, _, ht, hec.symm, rfl, rfl, rfl⟩⟩⟩
  · rw [eraseAll_out fun q => by obtain ⟨m, h⟩ := fs q; rw [nsH h] at hb; cases hb]; exact I.keep b o hb
  · obtain ⟨o', ho'⟩ := (I.pl a kl h1).ex
    have := hm.keeps _ _ ho'
    have h3 : h'.get? a = some o := h3
    rw [h3] at this; cases this
    rw [eraseAll_out fun q => by obtain ⟨m, h⟩ := fs q; rw [h] at h1; cases h1; exact h2 m rfl]; exact ho'
  · cases q : (eraseAll s.heap (fsOf x.envs)).get? e with
    | none => rfl
    | some o => have := base_in _ _ q; rw [hm.new] at this; cases this
  · obtain ⟨h1, L', m, h2, h3⟩ := E.frs f hf
    refine ⟨h1, L', m, h2, ?_⟩
    cases I.pl _ _ h3 with
    | ns h _ => exact h
theorem raise_ss (ok : GOk G) (hgg : k.C.g = G.g) {y : Str} {c n : Nat} {np cp cpos pos : Pos} {co : Const} {d : D} (hx : y ∈ G.g.cls) (hc : excId y = some c) (hgl : k.C.isGlob y = true) (hdb : (y == ("__debug__" : Str)) = false) (hco : cConst co = some d) :
    SS G k (.Raise (some (.Call (.Name y np) [.Constant co n cp] [] cpos)) none pos) (.raise c) := fun {x} {W} {ρ} {σ} {s} hk ht E I hr => by
  subst hk
  have hf : x.hd = false := by
    cases q : x.hd with
    | false => rfl
    | true => exact absurd (by unfold exx; rw [q]; rfl) hr
  have hh := (E.handled hf).1
  have e0 : exx G x (.raise c) ρ σ = .ok (.exc c ρ) σ := by unfold exx; rw [hf]; rfl
  rw [e0]
  obtain ⟨C', hec, O⟩ := ok.exc y hx c hc
  obtain ⟨tl, N, nm, q, bs, hdct, sn, sub, ab, col, dd, k0, k1, k2, k3, k5, mN, hC, hN, hni, T⟩ := O.own.obj
  have hel : SEl G x.k [.Constant co n cp] [.lit d] := And.intro rfl (And.intro (lit_se hco) trivial)
  refine wpAny_Raise_call_subT (C := C') (nm := nm) (q := q) (N := N) (bs := bs) (bm := tl) (hdct := hdct) (sn := sn) (sub := sub) (ab := ab) (col := col) (dd := dd) (k0 := k0) (k1 := k1) (k2 := k2) (k3 := k3) (k5 := k5)
    F.excBase_ValueError (mN := mN) (T.hasType F.excBase_ValueError.hasBase) hh (by rw [backTo_any hel]) hni (global_name ok E hdb (isGlob_kind hgl) O.bound I.keep ⟨rfl, ?_⟩)
  rw [starEach_cons (show isStar (.Constant co n cp) = false from rfl)]
  refine Calls.evalArgs_plain (E := _) ?_
  have := spliced_sim (pos := cpos) hel rfl E W σ s (Ext.refl _) I (by intro q; cases q)
  rw [starEach_cons (show isStar (.Constant co n cp) = false from rfl)] at this
  refine wpAny_mono this (fun vs s₂ p => ?_) fun v s₂ p => ?_
  · obtain ⟨ds, σ₁, W₁, h1, h2, h3, h4⟩ := p
    cases h1
    have hk := h3.keep
    refine ⟨rfl, ?_, hk _ _ hC, hN.keeps hk, T.keeps hk, fun h' e hm => (made_fly (E.ext h2) h3 hec hm).after h2.b⟩
    show vs.length ≤ sizeLine
    rw [← h4.1.length]; show 1 ≤ sizeLine; decide
  · obtain ⟨c', σ', W', e, base, a0, h1, _⟩ := p
    cases h1

noncomputable def Fx.mark (x : Fx) (v : Value) : Fx := { x with hd := true, A := x.A.mark (some v) }
theorem En.mark (E : En G x W ρ) (v : Value) : En G (x.mark v) W ρ := ⟨E.kind, E.glob, E.blt, E.ns, E.cells, E.apart, E.len, E.fr, E.hf, E.frs, E.depth, E.units, (fun q => nomatch q), E.sc, E.gg⟩
theorem En.unmark {v : Value} {ρ₀ : Rho} {W₀ : Wd} (E₀ : En G x W₀ ρ₀) (E : En G (x.mark v) W ρ) : En G x W ρ := ⟨E.kind, E.glob, E.blt, E.ns, E.cells, E.apart, E.len, E₀.fr, E₀.hf, E.frs, E₀.depth, E₀.units, E₀.handled, E.sc, E.gg⟩
theorem after_handler {v : Value} {r : Res Fl} {fl : Flow} (E : En G x W ρ) (p : PostS G (x.mark v) W₁ r fl s') (e : ExtB (Own x) W W₁) : PostS G x W (afterH r) fl s' := by
  cases p with
  | next ρ' σ' W' h1 hf h2 h3 h4 => subst h1 hf; exact .next ρ' σ' W' rfl rfl (e.trans h2) h3 (E.unmark h4)
  | ret d v ρ' σ' W' h1 hf h2 h3 h4 h5 => subst h1 hf; exact .ret d v ρ' σ' W' rfl rfl (e.trans h2) h3 (E.unmark h4) h5
theorem handleBy_hit {A : Around} {env : Env} {Ee : Value → Shared → Prop} {e : Addr} {t : PySem.Expr} {nm : Option Str} {b₀ : Stmt} {suite : List Stmt} {pos : Pos} {rest : List ExceptHandler} {Q : Flow → Shared → Prop}
    (h : wpAny G.M (A.mark (some (.ref e))) (eval t env) (fun c s₁ => (∀ {Q' : Bool → Shared → Prop} {E' : Value → Shared → Prop}, Q' true s₁ → wpAny G.M (A.mark (some (.ref e))) (excMatches (.ref e) c) Q' E' s₁) ∧
      codeAny G.M (A.mark (some (.ref e))) (.handlers (.ref e) [.ExceptHandler none nm (b₀ :: suite) pos] env) (fun r s₂ => match r with
          | .ok f => (match nm with
            | none => Q f s₂
            | some n => wpAny G.M A (do bindName env n .none; unbindBehindTheSuite env n pos) (fun _ s₃ => Q f s₃) Ee s₂)
          | .error x => cameBackBy G.M A env Ee x s₂) s₁) (notedBy G.M (A.mark (some (.ref e))) env (cameBackBy G.M A env Ee)) s) :
    wpAny G.M A (handleBy (.ref e) env (.ExceptHandler (some t) nm (b₀ :: suite) pos :: rest)) Q Ee s :=
  wpAny_handleBy_cons (codeAny_handlers_test (wpAny_mono h (fun _ _ h₁ => h₁.1 h₁.2) fun _ _ y => y)) (by intro q; cases q)
theorem matches_own {x y : Str} {C C' e : Addr} {oe : Obj} {b : Bool} (O : OwnClsQ x C vbm "ValueError.__new__" G.mg G.H) (O' : OwnClsQ y C' vbm "ValueError.__new__" G.mg G.H) (hk : ∀ b o, G.H.get? b = some o → s.heap.get? b = some o) (he : s.heap.get? e = some oe) (hcls : oe.cls = .ref C) (hb : mroAt G.H C C' = some b)
    {A : Around} {Q' : Bool → Shared → Prop} {E' : Value → Shared → Prop} (hq : Q' b s) : wpAny G.M A (excMatches (.ref e) (.ref C')) Q' E' s := by
  obtain ⟨bm, N, nm, q, bs, hdct, sn, sub, ab, col, dd, k0, k1, k2, k3, k5, mN, hC, _, _, T⟩ := O.obj
  obtain ⟨bm', N', nm', q', bs', hdct', sn', sub', ab', col', dd', j0, j1, j2, j3, j5, mN', hC', _, _, T'⟩ := O'.obj
  obtain ⟨hh, g, d, tk, os⟩ := s
  have hb' : (Value.ref C :: bm).contains (.ref C') = b := by
    unfold mroAt at hb
    rw [hC] at hb
    exact Option.some.inj hb
  exact exc_matches (hk _ _ hC) he hcls (hk _ _ hC') (T'.tail.hasType F.excBase_ValueError.hasBase) hb' hq
theorem clsIds_mem {g : CG} {c : Nat} (h : (clsIds g).contains c = true) : ∃ x ∈ g.cls, excId x = some c := List.mem_filterMap.mp (List.contains_iff_mem.mp h)
theorem try_ss (ok : GOk G) {body : List Stmt} {y : Str} {t : Nat} {b₀ : Stmt} {hs : List Stmt} {tp hpos pos : Pos} {cb ch : List CS} (hx : y ∈ G.g.cls) (hc : excId y = some t) (hgl : k.C.isGlob y = true) (hdb : (y == ("__debug__" : Str)) = false) (hb : SSs G k body cb) (hh : SSs G k (b₀ :: hs) ch) :
    SS G k (.Try body [.ExceptHandler (some (.Name y tp)) none (b₀ :: hs) hpos] [] [] pos) (.try (clsIds G.g) cb t ch) := fun {x} {W} {ρ} {σ} {s} hk ht E I hr => by
  subst hk
  have hf : x.hd = false := by
    cases q : x.hd with
    | false => rfl
    | true => exact absurd (by unfold exx; rw [q]; rfl) hr
  have e0 : exx G x (.try (clsIds G.g) cb t ch) ρ σ = (exsx G x cb ρ σ).bind fun fl σ' => match fl with
    | .exc c ρ' => if ((clsIds G.g).contains c && excSub c t) = true then afterH (exs (callN G.P x.k.n) true ch ρ' σ') else .stuck
    | fl => .ok fl σ' := by unfold exx exsx; rw [hf]; rfl
  rw [e0] at hr ⊢
  refine wpAny_Try_except (wpAny_mono (hb rfl ht E I (bind_ne hr)) (fun fl s₁ p => ?_) fun v s₁ p => ?_)
  · cases p with
    | next ρ' σ' W' h1 hf h2 h3 h4 => subst hf; rw [h1]; exact wpAny_execs_nil (.next ρ' σ' W' rfl rfl h2 h3 h4)
    | ret d v ρ' σ' W' h1 hf h2 h3 h4 h5 => subst hf; rw [h1]; exact .ret d v ρ' σ' W' rfl rfl h2 h3 h4 h5
  · obtain ⟨c, ρ', σ', W', e, base, L, h1, rfl, h2, h3, h4, hbs, hL, xa⟩ := p
    have e1 : ((clsIds G.g).contains c && excSub c t) = true := by
      cases q : ((clsIds G.g).contains c && excSub c t) with
      | true => rfl
      | false =>
        rw [h1] at hr
        exact absurd (if_neg (by rw [q]; decide)) hr
    have e2 : (exsx G x cb ρ σ).bind (fun fl σ' => match fl with
      | .exc c ρ' => if ((clsIds G.g).contains c && excSub c t) = true then afterH (exs (callN G.P x.k.n) true ch ρ' σ') else .stuck
      | fl => .ok fl σ') = afterH (exs (callN G.P x.k.n) true ch ρ' σ') := by
      rw [h1]; exact if_pos e1
    rw [e2] at hr ⊢
    obtain ⟨hid, hsub⟩ := Bool.and_eq_true_iff.mp e1
    obtain ⟨x', hx', hcx⟩ := clsIds_mem hid
    obtain ⟨C, hec, O⟩ := ok.exc x' hx' c hcx
    obtain ⟨C', hec', O'⟩ := ok.exc y hx t hc
    have hmro := ok.sub x' hx' y hx c t hcx hc C C' O.bound O'.bound
    rw [hsub] at hmro
    have htop := ht
    obtain ⟨rest, hE⟩ := ht
    have hfr := E.fr
    rw [hE] at hfr xa
    refine exc_note hfr hL xa fun h₁ a0 hheld hu₁ => ?_
    obtain ⟨I₁, B₁⟩ := h3.fly hbs hheld.1 hu₁
    refine wpAny_landsW hheld fun h₂ hfl hu₂ => ?_
    obtain ⟨I₂, B₂⟩ := I₁.fly B₁ hfl.1 hu₂
    obtain ⟨oe, hoe, hoc⟩ := hfl.there
    rw [hec] at hoc
    refine handleBy_hit (global_name (x := x.mark (.ref e)) ok (h4.mark _) hdb (isGlob_kind hgl) O'.bound I₂.keep ⟨fun q => matches_own O O' I₂.keep hoe hoc hmro q, ?_⟩)
    refine codeAny_handlers_suite (wpAny_setFlight_noneW hfl.1 hfl.2.2.1 hfl.2.2.2 fun h₃ k1 k2 k3 k4 => ?_)
    obtain ⟨I₃, B₃⟩ := I₂.fly (h' := h₃) B₂ k1 (fun b o e q => ⟨o.slots, k4 b o e q⟩)
    exact wpAny_mono (hh (x := x.mark (.ref e)) rfl htop (h4.mark _) I₃ (bind_ne hr)) (fun fl s₄ p => after_handler E p h2) fun v s₄ p => by
      obtain ⟨c', ρ₄, σ₄, W₄, e', base', L', h5, _⟩ := p
      rw [show exs (callN G.P x.k.n) true ch ρ' σ' = _ from h5] at hr; exact absurd rfl hr
end
end Mine

namespace Mine
open PySem PySem.Calls PySem.W PyProof.Rows
set_option maxRecDepth 100000
theorem boot_zip : bootBuiltins "zip" = some (.type "zip") := by decide +kernel
section
variable {G : Gd} {x : Fx} {W W₀ W₁ : Wd} {ρ : Rho} {k : Ky} {σ : Sto} {s s' : Shared} {X : Addr → Prop}
open Classical in
noncomputable def Wd.ows (W : Wd) (O : Addr → Prop) (h : Heap) : Wd := fun a => if O a then (h.get? a).map Kl.own else W a
theorem ows_in {O : Addr → Prop} {h : Heap} {a : Addr} {o : Obj} (ha : O a) (e : h.get? a = some o) : W.ows O h a = some (.own o) := by
  unfold Wd.ows; rw [if_pos ha, e]; rfl
theorem ows_out {O : Addr → Prop} {h : Heap} {a : Addr} (ha : ¬ O a) : W.ows O h a = W a := if_neg ha
noncomputable def Owns (O : Addr → Prop) (W : Wd) : Prop := ∀ a, O a → ∃ o, W a = some (.own o)
theorem Owns.not {O : Addr → Prop} (hO : Owns O W) {a : Addr} {kl : Kl} (e : W a = some kl) (h : ∀ o, kl ≠ .own o) : ¬ O a := fun q => by
  obtain ⟨o, ho⟩ := hO a q
  rw [ho] at e; cases e; exact h o rfl
theorem ows_fix {O : Addr → Prop} {h : Heap} (hO : Owns O W) : Fix W (W.ows O h) := fun a kl e n => by
  rw [ows_out (hO.not e fun o q => by rw [q] at n; cases n)]; exact e
theorem ows_away {O : Addr → Prop} {h : Heap} : Away O X W (W.ows O h) := fun a kl e n _ => by rw [ows_out n]; exact e
theorem Inv.ows (I : Inv G W σ s) {O : Addr → Prop} (new : ∀ {a}, O a → G.H.get? a = none) (no : ∀ {b : Addr} {kl : Kl}, W b = some kl → (∀ o, kl ≠ .own o) → ¬ O b) (hk : ∀ c o, ¬ O c → s.heap.get? c = some o → s'.heap.get? c = some o) (hg : s'.gens = s.gens) (ho : s'.os = s.os) : Inv G (W.ows O s'.heap) σ s' := by
  have nf : ∀ {b : Addr} {kl : Kl}, W b = some kl → kl.fx = true → ¬ O b := fun e h1 => no e fun o q => by rw [q] at h1; cases h1
  have fx : Fix W (W.ows O s'.heap) := fun a kl e n => by rw [ows_out (nf e n)]; exact e
  refine ⟨fun b o e => hk b o (fun q => by rw [new q] at e; cases e) (I.keep b o e), fun b kl e => ?_, fun b c i e1 e2 => ?_, fun i hi => ?_, hg.trans I.gens, ho.trans I.os, fun b o e => let ⟨h1, n, h⟩ := I.pin b o e; ⟨hk b o (nf h rfl) h1, n, fx _ _ h rfl⟩⟩
  · by_cases hb : O b
    · unfold Wd.ows at e
      rw [if_pos hb] at e
      obtain ⟨o, e1, rfl⟩ := Option.map_eq_some_iff.mp e
      exact .own e1 (new hb)
    · rw [ows_out hb] at e
      exact (I.pl b kl e).mono fx (fun o h => hk b o hb h) (fun i hi d o hd h => hk d o (nf hd rfl) h) fun _ _ _ h => h
  · have nb : ∀ x, W.ows O s'.heap x = some (.sto i) → W x = some (.sto i) := fun x e => by
      by_cases hx : O x
      · unfold Wd.ows at e
        rw [if_pos hx] at e
        obtain ⟨o, _, q⟩ := Option.map_eq_some_iff.mp e
        cases q
      · rwa [ows_out hx] at e
    exact I.inj b c i (nb b e1) (nb c e2)
  · obtain ⟨b, hb⟩ := I.full i hi
    exact ⟨b, fx _ _ hb rfl⟩
theorem Inv.owns (I : Inv G W σ s) {O : Addr → Prop} (hO : Owns O W) (hk : ∀ c o, ¬ O c → s.heap.get? c = some o → s'.heap.get? c = some o) (hg : s'.gens = s.gens) (ho : s'.os = s.os) : Inv G (W.ows O s'.heap) σ s' :=
  I.ows (fun ha => by
    obtain ⟨o, q⟩ := hO _ ha
    cases I.pl _ _ q with
    | own _ new => exact new) (fun e h => hO.not e h) hk hg ho
theorem En.owns (E : En G x W ρ) {O : Addr → Prop} {h : Heap} (hO : Owns O W) : En G x (W.ows O h) ρ := by
  have ne : ∀ {a : Addr} {kl : Kl}, W a = some kl → kl.nm = true → W.ows O h a = some kl := fun e hk => by
    rw [ows_out (hO.not e fun o q => by rw [q] at hk; cases hk)]; exact e
  have fx : Fix W (W.ows O h) := ows_fix hO
  obtain ⟨m, hm, hv⟩ := E.ns
  refine ⟨E.kind, E.glob, E.blt, ⟨m, ne hm rfl, fun i y d h1 h2 h3 => ?_⟩, fun i y h1 h2 => ?_, E.apart, E.len, E.fr, E.hf, fun e he => ?_, E.depth, E.units, E.handled, E.sc, E.gg⟩
  · obtain ⟨v, h4, h5⟩ := hv i y d h1 h2 h3
    exact ⟨v, h4, h5.mono fx⟩
  · obtain ⟨c, ov, h4, h5, h6⟩ := E.cells i y h1 h2
    refine ⟨c, ov, h4, ne h5 rfl, fun d h7 => ?_⟩
    obtain ⟨v, h8, h9⟩ := h6 d h7
    exact ⟨v, h8, h9.mono fx⟩
  · obtain ⟨h1, L, m, h2, h3⟩ := E.frs e he
    exact ⟨h1, L, m, h2, ne h3 rfl⟩
noncomputable def OZ (z : Nat) (a : Addr) : Prop := z ≤ a ∧ a < z + 5
structure ZH (h : Heap) (z : Nat) (b c : Addr) (i : Nat) : Prop where
  zz : IsZip h (z + 4) (z + 2) (z + 3) .none
  ti : IsPair h (z + 2) (.ref z) (.ref (z + 1))
  to : ∃ a b, IsPair h (z + 3) a b
  l1 : h.IsListIter z b i
  l2 : h.IsListIter (z + 1) c i
theorem oz {z k : Nat} (h : k < 5) : OZ z (z + k) := ⟨Nat.le_add_right _ _, Nat.add_lt_add_left h _⟩
theorem ZH.at {h h' : Heap} {z i : Nat} {b c : Addr} (Z : ZH h z b c i) (hk : ∀ a o, OZ z a → h.get? a = some o → h'.get? a = some o) : ZH h' z b c i :=
  ⟨hk _ _ (oz (by decide)) Z.zz, hk _ _ (oz (by decide)) Z.ti, let ⟨a, c, e⟩ := Z.to; ⟨a, c, hk _ _ (oz (by decide)) e⟩, let ⟨o, e, r⟩ := Z.l1; ⟨o, hk _ _ (oz (k := 0) (by decide)) e, r⟩, let ⟨o, e, r⟩ := Z.l2; ⟨o, hk _ _ (oz (by decide)) e, r⟩⟩
theorem ZH.ex {h : Heap} {z i : Nat} {b c : Addr} (Z : ZH h z b c i) {a : Addr} (ha : OZ z a) : ∃ o, h.get? a = some o := by
  obtain ⟨h1, h2⟩ := ha
  obtain ⟨j, rfl⟩ := Nat.le.dest h1
  have hj : j < 5 := Nat.lt_of_add_lt_add_left h2
  match j, hj with
  | 0, _ => exact let ⟨o, e, _⟩ := Z.l1; ⟨o, e⟩
  | 1, _ => exact let ⟨o, e, _⟩ := Z.l2; ⟨o, e⟩
  | 2, _ => exact ⟨_, Z.ti⟩
  | 3, _ => exact let ⟨_, _, e⟩ := Z.to; ⟨_, e⟩
  | 4, _ => exact ⟨_, Z.zz⟩
inductive ZSt (z : Nat) (b c : Addr) (n m : Nat) (i : Nat) (W : Wd) : Prop
  | mk (ow : Owns (OZ z) W) (wb : W b = some (.sto n)) (wc : W c = some (.sto m)) (st : ∀ h : Heap, (∀ a o, OZ z a → W a = some (.own o) → h.get? a = some o) → ZH h z b c i) : ZSt z b c n m i W
theorem zapart (z b c : Nat) (h1 : b < z) (h2 : c < z) : ZipApart (z + 4) (z + 2) (z + 3) z (z + 1) b c := by
  have n1 : ∀ {i j : Nat}, i ≠ j → z + i ≠ z + j := fun h q => h (Nat.add_left_cancel q)
  have n0 : ∀ {i : Nat}, z + (i + 1) ≠ z := fun q => absurd q (Nat.ne_of_gt (Nat.lt_add_of_pos_right (Nat.succ_pos _)))
  have nb : ∀ {i b : Nat}, b < z → b ≠ z + i := fun h q => absurd q (Nat.ne_of_lt (Nat.lt_of_lt_of_le h (Nat.le_add_right _ _)))
  exact ⟨n1 (by decide), n1 (by decide), n0.symm, n1 (by decide), n1 (by decide), n0, n1 (by decide), n0, n1 (by decide), n0.symm, nb h1, nb h1, nb (i := 0) h1, nb h1, nb h2, nb h2, nb (i := 0) h2, nb h2⟩
noncomputable abbrev zsrc (n m : Nat) (xs ys : List D) : Src := ⟨(xs.zip ys).map fun p => .tup [p.1, p.2], [(n, .list xs), (m, .list ys)]⟩
theorem zip_turn (hh : x.A.handled = none) {z n m : Nat} {b c : Addr} {xs ys : List D} (hb : b < z) (hc : c < z) {x' : Fx} {target : PySem.Expr} {is : List Nat} (hA : x'.A = x.A) (ht : TgOk x' X target is) (h2 : is.length ≠ 1) : Turn G x' X target is (OZ z) (z + 4) (zsrc n m xs ys) (ZSt z b c n m) := by
  have walk : ∀ {W : Wd} {σ : Sto} {s : Shared} {i : Nat}, Inv G W σ s → Stands σ (zsrc n m xs ys).st → ZSt z b c n m i W → ∃ us vs : List Value, RelL G W xs us ∧ RelL G W ys vs ∧ ZH s.heap z b c i ∧ s.heap.IsList b us.toArray ∧ s.heap.IsList c vs.toArray := by
    intro W σ s i Iv hs ⟨ow, wb, wc, st⟩
    cases Iv.look wb (hs _ (.head _)) with
    | @list _ o us k _ ho hc hd rl new sz =>
      cases Iv.look wc (hs _ (.tail _ (.head _))) with
      | @list _ o2 vs k2 _ ho2 hc2 hd2 rl2 new2 sz2 =>
        refine ⟨us, vs, rl, rl2, st _ fun a o _ hw => ?_, ⟨o, ho, hc, k, hd⟩, ⟨o2, ho2, hc2, k2, hd2⟩⟩
        cases Iv.pl _ _ hw with
        | own ho new => exact ho
  have Wk := fun (us vs : List Value) => WalksT.zip2 (prog := G.prog) (w := G.w) hh (z + 4) (z + 2) (z + 3) z (z + 1) b c (zapart z b c hb hc) us.toArray vs.toArray
  have nz : ∀ {c : Addr}, ¬ OZ z c → c ∉ [z + 4, z + 3, z, z + 1] := fun h q => by
    simp only [List.mem_cons, List.not_mem_nil, or_false] at q
    rcases q with rfl | rfl | rfl | rfl
    · exact h (oz (by decide))
    · exact h (oz (by decide))
    · exact h (oz (k := 0) (by decide))
    · exact h (oz (by decide))
  refine ⟨fun i W W' ⟨ow, wb, wc, st⟩ f g => ⟨fun a ha => let ⟨o, e⟩ := ow a ha; ⟨o, g a o ha e⟩, f _ _ wb rfl, f _ _ wc rfl, fun h hw => st h fun a o ha e => hw a o ha (g a o ha e)⟩, fun i d W ρ ρ' σ s Q E' hd st E Iv hs hu hQ => ?_, fun W ρ σ s Q E' st E Iv hs hQ => ?_, fun i W σ s Q E' st Iv hs hq => ?_⟩
  · obtain ⟨us, vs, rl1, rl2, Z, hL1, hL2⟩ := walk Iv hs st
    obtain ⟨ow, wb, wc, st⟩ := st
    obtain ⟨pq, hpq, rfl⟩ := List.getElem?_map (f := fun p : D × D => D.tup [p.1, p.2]) ▸ hd |> Option.map_eq_some_iff.mp
    obtain ⟨p1, p2⟩ := pq
    obtain ⟨h1, h3⟩ := List.getElem?_zip_eq_some.mp hpq
    obtain ⟨u, hu1, ru⟩ := rl1.get h1
    obtain ⟨v, hv1, rv⟩ := rl2.get h3
    have hil : i < min us.toArray.size vs.toArray.size := by
      rw [List.size_toArray, List.size_toArray]
      exact Nat.lt_min.mpr ⟨(List.getElem?_eq_some_iff.mp hu1).1, (List.getElem?_eq_some_iff.mp hv1).1⟩
    rw [hA]
    refine (Wk us vs).item i s _ _ hil ⟨Z.zz, Z.ti, Z.to, Z.l1, Z.l2, hL1, hL2⟩ fun T vals h' tk hP hge hT mid hk => ?_
    obtain ⟨u', v', hu', hv', rfl⟩ := hP
    have : u' = u := by rw [List.getElem?_toArray, hu1] at hu'; cases hu'; rfl
    subst this
    have : v' = v := by rw [List.getElem?_toArray, hv1] at hv'; cases hv'; rfl
    subst this
    cases ht with
    | name hX => exact absurd rfl h2
    | @tup xs kk pos _ hX _ =>
      show wpAny G.M x.A (letOwnedTupleGo _ _ _) _ _ _
      have hTe := mid.2.2.2.2.2.2.2
      refine (Wk us vs).go _ _ _ i T { s with heap := h', toks := tk } _ _ mid fun h'' st'' hk2 => ?_
      obtain ⟨b1, b2, b3, b4, b5, _⟩ := st''
      have Z2 : ZH h'' z b c (i + 1) := ⟨b1, b2, b3, b4, b5⟩
      have keep : ∀ c o, ¬ OZ z c → s.heap.get? c = some o → h''.get? c = some o := fun c o q1 q => hk2 c o (nz q1) (hk c o (nz q1) q)
      have I₂ := Iv.owns (s' := { s with heap := h'', toks := tk }) ow keep rfl rfl
      have fx : Fix W (W.ows (OZ z) h'') := ows_fix ow
      unfold unpackT at hu
      rw [if_neg h2] at hu
      obtain ⟨ds', h5, hv5⟩ := Option.bind_eq_some_iff.mp hu
      obtain ⟨hl5, h6⟩ := Option.ite_none_right_eq_some.mp (show (if [p1, p2].length = is.length then some [p1, p2] else none) = some ds' from h5)
      cases h6
      have hT2 : h''.IsTuple T #[u', v'] := by
        obtain ⟨ot, ho, q⟩ := hT
        exact ⟨ot, hk2 _ _ (by simp only [List.mem_cons, List.not_mem_nil, or_false, not_or]; exact hTe) ho, q⟩
      rw [← hA]
      refine unpack_at (s := { s with heap := h'', toks := tk }) (vs := [u', v']) (by rw [hA]; exact hh) hX (E.owns ow) I₂ hT2 (.cons (ru.mono fx) (.cons (rv.mono fx) .nil)) hv5 (by rw [← hX.len, ← hl5]; rfl) fun W₂ s₂ e₂ E₂ I₃ => ?_
      refine hQ W₂ s₂ (ows_away.trans e₂.away) (fx.trans e₂.fx) E₂ I₃ ⟨fun a ha => ?_, (fx.trans e₂.fx) _ _ wb rfl, (fx.trans e₂.fx) _ _ wc rfl, fun h hw => Z2.at fun a o ha e => hw a o ha (e₂.fix (ows_in ha e) rfl)⟩
      obtain ⟨o, e⟩ := Z2.ex ha
      exact ⟨o, e₂.fix (ows_in ha e) rfl⟩
  · obtain ⟨us, vs, rl1, rl2, Z, hL1, hL2⟩ := walk Iv hs st
    obtain ⟨ow, wb, wc, st⟩ := st
    have hz : (zsrc n m xs ys).items.length = min us.toArray.size vs.toArray.size := by rw [List.length_map, List.length_zip, List.size_toArray, List.size_toArray, rl1.length, rl2.length]
    rw [hz] at Z
    rw [hA]
    refine (Wk us vs).done s _ _ ⟨Z.zz, Z.ti, Z.to, Z.l1, Z.l2, hL1, hL2⟩ fun h' tk hk => ?_
    exact hQ (W.ows (OZ z) h') { s with heap := h', toks := tk } ows_away (ows_fix ow) (E.owns ow) (Iv.owns (s' := { s with heap := h', toks := tk }) ow (fun c o q1 q => hk c o (nz q1) q) rfl rfl)
  · obtain ⟨us, vs, rl1, rl2, Z, hL1, hL2⟩ := walk Iv hs st
    rw [hA]
    exact (Wk us vs).self i s _ _ ⟨Z.zz, Z.ti, Z.to, Z.l1, Z.l2, hL1, hL2⟩ hq
noncomputable def zipK (ds : List D) : Cm Src := fun σ => match ds with
  | [p, q] => Cm.opt (zipOf σ p q) σ
  | _ => .stuck
theorem evix_zip {a b : CE} (h : x.hd = false) : evix G x (.zip a b) ρ σ = ((evsx G x [a, b] ρ).bnd zipK) σ := by
  have e1 : evix G x (.zip a b) ρ = (evx G x a ρ).bnd fun p => (evx G x b ρ).bnd fun q => fun σ => Cm.opt (zipOf σ p q) σ := by unfold evix evx; rw [h]; rfl
  have e2 : evsx G x [a, b] ρ = (evx G x a ρ).bnd fun p => ((evx G x b ρ).bnd fun q => (Cm.ok []).bnd fun r => Cm.ok (q :: r)).bnd fun r => Cm.ok (p :: r) := rfl
  rw [e1, e2]
  simp only [Cm.bnd_ap]
  cases evx G x a ρ σ with
  | ok p σ1 =>
    simp only [Res.bind_ok, Cm.bnd_ap]
    cases evx G x b ρ σ1 with
    | ok q σ2 => rfl
    | _ => rfl
  | _ => rfl
theorem zipOf_some {d e : D} {src : Src} (h : zipOf σ d e = some src) : ∃ n m xs ys, d = .ref n ∧ e = .ref m ∧ σ[n]? = some (.list xs) ∧ σ[m]? = some (.list ys) ∧ src = zsrc n m xs ys := by
  unfold zipOf at h
  split at h
  · split at h
    · split at h
      · split at h
        · cases h; exact ⟨_, _, _, _, rfl, rfl, ‹_›, ‹_›, rfl⟩
        · cases h
      · cases h
    · cases h
  · cases h
theorem zip_si (ok : GOk G) {e e2 : PySem.Expr} {p pos : Pos} {c c2 : CE} (hst : isStar e = false) (hst2 : isStar e2 = false) (hg : k.C.isGlob "zip" = true) (h : SE G k e c) (h' : SE G k e2 c2) : SI G k (.Call (.Name "zip" p) [e, e2] [] pos) (.zip c c2) := fun {x} {W} {ρ} {σ} {s} hk E I hr => by
  have hd := hd_false E hr
  have hh := (E.handled hd).1
  subst hk
  rw [evix_zip hd] at hr ⊢
  refine wpAny_Call_Name_kw (builtin_name ok E (by decide) boot_zip (isGlob_kind hg) (by decide) I.keep ?_)
  refine callWith_of (P := fun h => ∀ b o, G.H.get? b = some o → h.get? b = some o) (by rw [starEach_cons hst, starEach_cons hst2]; rfl) (Keep.type _) ?_
  have hel : SEl G x.k [e, e2] [c, c2] := ⟨hst, h, hst2, h', trivial⟩
  have key := spliced_sim (pos := pos) hel rfl E W σ s (Ext.refl _) I (bind_ne hr)
  rw [starEach_cons hst] at key ⊢
  refine evalArgs_plain ?_
  refine wpAny_mono key (fun vs s₁ q => ?_) fun v s₁ q => q.cast fun c σ q => by rw [Cm.bnd_ap, q]; rfl
  obtain ⟨ds, σ₁, W₁, h1, h2, h3, rl, hlen⟩ := q
  refine ⟨h3.keep, ?_⟩
  rw [Cm.bnd_ap, h1] at hr ⊢
  replace hr : zipK ds σ₁ ≠ .stuck := hr
  show wpAny G.M x.A (call (.type "zip") vs) (fun v s₁ => wpAny G.M x.A (pyIter v) (PostI G x W true (zipK ds σ₁)) (PostX G W x.envs (zipK ds σ₁)) s₁) (PostX G W x.envs (zipK ds σ₁)) s₁
  cases rl with
  | nil => cases hlen
  | @cons d v ds vs r1 r2 =>
    cases r2 with
    | nil => simp at hlen
    | @cons d2 v2 ds vs r2 r3 =>
      cases r3 with
      | cons => simp at hlen
      | nil =>
        replace hr : Cm.opt (zipOf σ₁ d d2) σ₁ ≠ .stuck := hr
        show wpAny G.M x.A (call (.type "zip") [v, v2]) (fun v s₁ => wpAny G.M x.A (pyIter v) (PostI G x W true (Cm.opt (zipOf σ₁ d d2) σ₁)) (PostX G W x.envs (Cm.opt (zipOf σ₁ d d2) σ₁)) s₁) (PostX G W x.envs (Cm.opt (zipOf σ₁ d d2) σ₁)) s₁
        cases hz : zipOf σ₁ d d2 with
        | none => rw [hz] at hr; exact absurd rfl hr
        | some src =>
          obtain ⟨n, m, xs, ys, rfl, rfl, hs1, hs2, rfl⟩ := zipOf_some hz
          cases r1 with
          | @ref _ b hb => cases r2 with
            | @ref _ c hc =>
              cases h3.look hb hs1 with
              | @list _ o us k1 _ ho ho1 ho2 rl1 new1 sz1 => cases h3.look hc hs2 with
                | @list _ o' vs k2 _ ho' ho1' ho2' rl2 new2 sz2 =>
                  refine call_zip_2 ⟨o, ho, ho1, k1, ho2⟩ ⟨o', ho', ho1', k2, ho2'⟩ fun h' a1 a2 a3 a4 a5 a6 hk => ?_
                  have hbz : b < s₁.heap.objs.size := Heap.lt_size ho
                  have hcz : c < s₁.heap.objs.size := Heap.lt_size ho'
                  have Z : ZH h' s₁.heap.objs.size b c 0 := ⟨a1, a2, ⟨_, _, a3⟩, a4, a5⟩
                  refine wpAny_pyIter_zip a1 ?_
                  have fr : ∀ {a : Addr}, OZ s₁.heap.objs.size a → s₁.heap.get? a = none := fun ha => Heap.get?_none_of_le ha.1
                  have no : ∀ {a : Addr} {kl : Kl}, W₁ a = some kl → ¬ OZ s₁.heap.objs.size a := fun e q => by rw [h3.nobody (fr q)] at e; cases e
                  refine ⟨zsrc n m xs ys, σ₁, W₁, W₁.ows (OZ s₁.heap.objs.size) h', s₁.heap.objs.size + 4, OZ s₁.heap.objs.size, rfl, h2, fun a kl e => by rw [ows_out (no e)]; exact e, fun a ha => ⟨h3.nobody (fr ha), ?_⟩, h3.ows (s' := { s₁ with heap := h' }) (fun ha => ?_) (fun e _ => no e) (fun c o _ e => hk c o e) rfl rfl, rfl, ?_, fun x' X target is hA ht h2 => ⟨_, zip_turn hh hbz hcz hA ht (h2 rfl), ⟨fun a ha => ?_, by rw [ows_out (no hb)]; exact hb, by rw [ows_out (no hc)]; exact hc, fun h hw => Z.at fun a o ha e => hw a o ha (ows_in ha e)⟩⟩⟩
                  · obtain ⟨o, e⟩ := Z.ex ha
                    rw [ows_in ha e]; exact fun q => nomatch q
                  · cases q : G.H.get? _ with
                    | none => rfl
                    | some o => have := h3.keep _ _ q; rw [fr ha] at this; cases this
                  · rw [List.length_map, List.length_zip]
                    exact Nat.le_trans (Nat.min_le_left _ _) sz1
                  · obtain ⟨o, e⟩ := Z.ex ha
                    exact ⟨o, ows_in ha e⟩
end
end Mine

namespace Mine
open PySem PySem.Calls PySem.W PyProof.Rows
set_option maxRecDepth 100000

section
variable {G : Gd} {x : Fx} {W : Wd} {ρ : Rho} {k : Ky} {σ : Sto} {s : Shared} {n : Nat} {C : CC}
theorem list_turn {m : Nat} {b : Addr} {ds : List D} {vs : List Value} {h' : Heap} (np : G.pin = none) (I : Inv G W σ s) (hb : W b = some (.sto m)) (new : G.H.get? b = none) (hl : PlainL h' b vs.toArray) (hs : Heap.SameBut b s.heap h') (r : RelL G W ds vs) (sz : ds.length ≤ cap) : Inv G W (σ.set m (.list ds)) { s with heap := h' } := by
  obtain ⟨o, n, ho, hc, dn, hd⟩ := hl
  exact I.turn np hb new (fun c oc hc _ e => hs.extBut c oc hc e) (fun c oc hc e => ⟨oc, hs.extBut c oc (fun q => by rw [q, hb] at hc; cases hc) e⟩) ho (.list ho hc hd r new sz dn) rfl rfl
set_option tactic.hygienic true in
theorem meth_list {o : PySem.Expr} {m : Str} {i nn : Nat} {ap pos : Pos} {es : List PySem.Expr} {cs : List CE} {a : Addr} {ds : List D} (him : i = 0) (hi : nameId m = some i) (hd : x.hd = false) (h : SEl G k es cs) (hl : es.length < 30) (hline : (ap.endLine == pos.line) = true) (hk : x.k = k) (E : En G x W ρ) (I : Inv G W σ s) (ha : W a = some (.sto nn)) (hs : σ[nn]? = some (.list ds)) (hr : (evsx G x cs ρ).bnd (methL (.ref nn)) σ ≠ .stuck) :
    wpAny G.M x.A (methTree o m ap pos es x.env (.ref a)) (Post G W (Rel G) ((evsx G x cs ρ).bnd (methL (.ref nn)) σ)) (PostX G W x.envs ((evsx G x cs ρ).bnd (methL (.ref nn)) σ)) s := by
  have hx := idIn_get hi
  subst him
  have e : m = "append" := by injection hx.symm
  subst e
  have np := (E.handled hd).2
  cases I.look ha hs with
  | list ho hc hd' rl new sz dn =>
  refine meth_at F.plainAttrs_list slot_list_append type_list_append ⟨_, ho, hc⟩ (fun b q => by cases q; exact ⟨_, ho, dn⟩) h hl hline hk E I hr fun es vs W₁ e r => ?_
  obtain ⟨r, _⟩ := r
  cases r with
  | nil => exact fun W' σ s _ _ hr => absurd (by show (match listAt σ (.ref nn) with | some ds => Res.stuck | none => Res.stuck) = _; split <;> rfl) hr
  | @cons d v ds' vs' r1 rs =>
    intro W' σ s e' I hr
    unfold methL at hr ⊢
    dsimp only at hr ⊢
    cases hla : listAt σ (.ref nn) with
    | none => rw [hla] at hr; exact absurd rfl hr
    | some es =>
      rw [hla] at hr
      dsimp only at hr ⊢
      by_cases hc : ds'.isEmpty = true ∧ es.length < most
      case neg => rw [if_neg hc] at hr; exact absurd rfl hr
      rw [if_pos hc]
      cases rs with
      | cons => exact absurd hc.1 (by simp)
      | nil =>
      have hb := (e.trans e') _ _ ha
      have hs : σ[nn]? = some (.list es) := by
        unfold listAt at hla
        dsimp only at hla
        split at hla
        · cases hla; assumption
        · cases hla
      cases I.look hb hs with
      | list ho hc' hd' rl new sz dn =>
        rename_i vs _
        have hm : most ≤ sizeLine := by decide
        have hmc : most + 1 ≤ cap := by decide
        refine list_append_plainL ⟨_, _, ho, hc', dn, hd'⟩ (fun h' hl' hs' => ?_) (by rw [List.size_toArray, ← rl.length]; omega)
        refine ⟨.none, _, W', rfl, Ext.refl _, list_turn np I hb new (vs := vs ++ [v]) (by simpa using hl') hs' (rl.append (.cons (r1.mono e'.fx) .nil)) ?_, .none⟩
        rw [List.length_append, List.length_singleton]; omega
theorem listAt_ref {d : D} {ds : List D} (h : listAt σ d = some ds) : ∃ n, d = .ref n ∧ σ[n]? = some (.list ds) := by
  unfold listAt at h
  split at h
  · split at h
    · cases h; exact ⟨_, rfl, ‹_›⟩
    · cases h
  · cases h
theorem meth_se {o : PySem.Expr} {m : Str} {i : Nat} {ap pos : Pos} {es : List PySem.Expr} {co : CE} {cs : List CE} (hb : bareCall o = false) (hl : es.length < 30) (hline : (ap.endLine == pos.line) = true) (hi : nameId m = some i) (ho : SE G k o co) (h : SEl G k es cs) :
    SE G k (.Call (.Attribute o m ap) es [] pos) (.meth co i cs) := fun {x} {W} {ρ} hk E => by
  rw [arm_eval_Call, bareCall_base hb]
  show Sim G x W (Rel G) (eval o x.env >>= fun v => methTree o m ap pos es x.env v) ((evx G x co ρ).bnd fun d => (askMk x.hd d i).bnd fun _ => (evsx G x cs ρ).bnd fun ds => methL d ds)
  refine Sim.bnd (ho hk E) fun d v W₁ e1 r1 => fun W' σ s e I hr => ?_
  have E' := E.ext (e1.trans e)
  replace r1 := r1.mono e.fx
  by_cases hc : x.hd = false ∧ i = 0 ∧ (listAt σ d).isSome = true
  case neg => exact absurd (by show (if x.hd = false ∧ i = 0 ∧ (listAt σ d).isSome = true then Res.ok () σ else .stuck).bind _ = _; rw [if_neg hc]; rfl) hr
  have e0 : (askMk x.hd d i).bnd (fun _ => (evsx G x cs ρ).bnd fun ds => methL d ds) σ = (evsx G x cs ρ).bnd (fun ds => methL d ds) σ := by
    show (if x.hd = false ∧ i = 0 ∧ (listAt σ d).isSome = true then Res.ok () σ else .stuck).bind _ = _
    rw [if_pos hc]; rfl
  rw [e0] at hr ⊢
  obtain ⟨ds, hds⟩ := Option.isSome_iff_exists.mp hc.2.2
  obtain ⟨nn, rfl, hs⟩ := listAt_ref hds
  cases r1 with
  | @ref nn a hb => exact meth_list hc.2.1 hi hc.1 h hl hline hk E' I hb hs hr
end
end Mine

namespace Mine
open PySem PyProof.Rows
set_option maxRecDepth 100000
noncomputable def gallop' : Bool → Keyed → Array Keyed → Nat → Nat → Nat → StateT SortSt Sem (Option Nat) := sortPriv% PySem.Builtin.gallop
section
variable {prog : Program} {w : World} {A : Around} {E : Value → Shared → Prop} {s : Shared}
noncomputable def Ord (prog : Program) (w : World) (A : Around) (s : Shared) (rk : Keyed → Nat) (D : Keyed → Prop) : Prop :=
  ∀ x y, D x → D y → ∀ (E : Value → Shared → Prop) (Q : Bool → Shared → Prop), Q (decide (rk x < rk y)) s → wpAny (model prog w) A (keyLt' (tuples' true) x.1 y.1) Q E s
variable {rk : Keyed → Nat} {D : Keyed → Prop} {st : SortSt}
theorem wpS_lt (O : Ord prog w A s rk D) (hk : kindOf st = tuples' true) {x y : Keyed} (hx : D x) (hy : D y) {Q : Option Bool → SortSt → Prop} (h : Q (some (decide (rk x < rk y))) st) : wpS (model prog w) A E s (lt' x y) Q st := by
  rw [lt'_eq]
  refine wpS_bind (wpS_get (wpS_bind (wpS_lift ?_)))
  rw [hk]
  exact wpAny_attempt (O x y hx hy _ _ ⟨rfl, wpS_pure h⟩)
theorem wpS_elem {xs : Array Keyed} {i : Nat} {x : Keyed} (h : xs[i]? = some x) {Q : Keyed → SortSt → Prop} (hQ : Q x st) : wpS (model prog w) A E s (elem' xs i) Q st := by
  rw [elem'_eq, h]; exact wpS_pure hQ
theorem wpS_pos {σ α : Type} {c : Prop} [Decidable c] {m m' : StateT σ Sem α} {Q : α → σ → Prop} {st : σ} (hc : c) (h : wpS (model prog w) A E s m Q st) : wpS (model prog w) A E s (if c then m else m') Q st := by rw [if_pos hc]; exact h
theorem wpS_neg {σ α : Type} {c : Prop} [Decidable c] {m m' : StateT σ Sem α} {Q : α → σ → Prop} {st : σ} (hc : ¬ c) (h : wpS (model prog w) A E s m' Q st) : wpS (model prog w) A E s (if c then m else m') Q st := by rw [if_neg hc]; exact h
structure Cut1 (B : Nat → Bool) (n lo hi : Nat) : Prop where
  le : lo ≤ hi
  top : hi ≤ n
  yes : ∀ i < lo, B i = true
  no : ∀ i, hi ≤ i → i < n → B i = false
noncomputable abbrev GSt := Option (Option Nat) × Nat × Nat
theorem search {B : Nat → Bool} {n lo hi : Nat} {f : Nat → GSt → StateT SortSt Sem (ForInStep GSt)} (mono : ∀ i j, i ≤ j → j < n → B j = true → B i = true) (C : Cut1 B n lo hi)
    (hf : ∀ {x lo hi : Nat} {Q : ForInStep GSt → SortSt → Prop}, (lo ≥ hi → Q (.done (none, lo, hi)) st) → (¬ lo ≥ hi → hi ≤ n → ∀ b, B (lo + (hi - lo) / 2) = b → Q (if b = true then .yield (none, lo + (hi - lo) / 2 + 1, hi) else .yield (none, lo, lo + (hi - lo) / 2)) st) → (hi ≤ n) → wpS (model prog w) A E s (f x (none, lo, hi)) Q st)
    {Q : GSt → SortSt → Prop} (h : ∀ k, Cut1 B n k k → Q (none, k, k) st) : wpS (model prog w) A E s (forIn [0:n] ((none, lo, hi) : GSt) f) Q st := by
  refine wpS_mono (wpS_forRange (I := fun x c st' => st' = st ∧ ∃ lo hi, c = (none, lo, hi) ∧ Cut1 B n lo hi ∧ hi - lo ≤ n - x) (Q := fun c st' => st' = st ∧ ∃ k, c = (none, k, k) ∧ Cut1 B n k k) ?_ ?_ ⟨rfl, lo, hi, rfl, C, Nat.le_trans (Nat.sub_le _ _) C.top⟩) ?_
  · rintro x c _ _ hx ⟨rfl, lo, hi, rfl, C, hm⟩
    refine hf (fun hge => ?_) (fun hlt ht b hb => ?_) C.top
    · have : lo = hi := Nat.le_antisymm C.le hge
      subst this; exact ⟨rfl, lo, rfl, C⟩
    · have hlt := Nat.not_le.mp hlt
      have e1 : (hi - lo) / 2 < hi - lo := Nat.div_lt_self (Nat.sub_pos_of_lt hlt) (by decide)
      cases b with
      | true => exact ⟨rfl, _, _, rfl, ⟨by omega, C.top, fun i hi' => mono i _ (Nat.le_of_lt_succ hi') (by omega) hb, C.no⟩, by omega⟩
      | false => exact ⟨rfl, _, _, rfl, ⟨by omega, by omega, C.yes, fun i h1 h2 => Bool.eq_false_iff.mpr fun q => by rw [mono _ i h1 h2 q] at hb; cases hb⟩, by omega⟩
  · rintro c _ ⟨rfl, lo, hi, rfl, C, hm⟩
    have : lo = hi := by have := C.le; omega
    subst this; exact ⟨rfl, lo, rfl, C⟩
  · rintro c _ ⟨rfl, k, rfl, C⟩
    exact h k C
theorem widen {B : Nat → Bool} {n mx : Nat} {g : Nat → Nat} {t : Bool} {f : Nat → GSt → StateT SortSt Sem (ForInStep GSt)} (hmx : mx ≤ n) (h0 : B (g 0) = t) (hpos : 0 < mx)
    (hf : ∀ {x l o : Nat} {Q : ForInStep GSt → SortSt → Prop}, (o ≥ mx → Q (.done (none, l, o)) st) → (¬ o ≥ mx → ∀ b, B (g o) = b → Q (if b = t then .yield (none, o, 2 * o + 1) else .done (none, l, o)) st) → wpS (model prog w) A E s (f x (none, l, o)) Q st)
    {Q : GSt → SortSt → Prop} (h : ∀ l o, l < o → l < mx → B (g l) = t → (o < mx → B (g o) ≠ t) → Q (none, l, o) st) : wpS (model prog w) A E s (forIn [0:n] ((none, 0, 1) : GSt) f) Q st := by
  refine wpS_mono (wpS_forRange (I := fun x c st' => st' = st ∧ ∃ l o, c = (none, l, o) ∧ l < o ∧ l < mx ∧ B (g l) = t ∧ x < o) (Q := fun c st' => st' = st ∧ ∃ l o, c = (none, l, o) ∧ l < o ∧ l < mx ∧ B (g l) = t ∧ (o < mx → B (g o) ≠ t)) ?_ ?_ ⟨rfl, 0, 1, rfl, by decide, hpos, h0, by decide⟩) ?_
  · rintro x c _ _ hx ⟨rfl, l, o, rfl, h1, h2, h3, h4⟩
    refine hf (fun hge => ⟨rfl, l, o, rfl, h1, h2, h3, fun q => absurd q (Nat.not_lt.mpr hge)⟩) fun hlt b hb => ?_
    by_cases q : b = t
    · rw [if_pos q]; exact ⟨rfl, o, 2 * o + 1, rfl, by omega, Nat.not_le.mp hlt, hb.trans q, by omega⟩
    · rw [if_neg q]; exact ⟨rfl, l, o, rfl, h1, h2, h3, fun _ e => q (hb.symm.trans e)⟩
  · rintro c _ ⟨rfl, l, o, rfl, h1, h2, h3, h4⟩
    exact ⟨rfl, l, o, rfl, h1, h2, h3, fun q => absurd (Nat.lt_of_lt_of_le q hmx) (by omega)⟩
  · rintro c _ ⟨rfl, l, o, rfl, h1, h2, h3, h4⟩
    exact h l o h1 h2 h3 h4
theorem wps_gallop (O : Ord prog w A s rk D) (hkd : kindOf st = tuples' true) {left : Bool} {key : Keyed} {arr : Array Keyed} {base n hint : Nat} {B : Nat → Bool} (hB : ∀ i < n, ∃ x, arr[base + i]? = some x ∧ D x ∧ B i = if left = true then decide (rk x < rk key) else !decide (rk key < rk x)) (hk : D key) (mono : ∀ i j, i ≤ j → j < n → B j = true → B i = true) (hh : hint < n)
    {Q : Option Nat → SortSt → Prop} (h : ∀ k, Cut1 B n k k → Q (some k) st) : wpS (model prog w) A E s (gallop' left key arr base n hint) Q st := by
  have by_ : ∀ {i : Nat} {Q : Option Bool → SortSt → Prop}, i < n → Q (some (B i)) st → wpS (model prog w) A E s (elem' arr (base + i) >>= fun x => if left = true then lt' x key else lt' key x >>= fun o => pure (o.map fun x => !x)) Q st := fun {i Q} hi hQ => by
    obtain ⟨x, h1, h2, h3⟩ := hB i hi
    refine wpS_bind (wpS_elem h1 ?_)
    cases left with
    | true => exact wpS_pos rfl (wpS_lt O hkd h2 hk ((show B i = decide (rk x < rk key) from h3) ▸ hQ))
    | false => exact wpS_neg Bool.false_ne_true (wpS_bind (wpS_lt O hkd hk h2 (wpS_pure ((show B i = !decide (rk key < rk x) from h3) ▸ hQ : Q (some (!decide (rk key < rk x))) st))))
  refine wpS_bind (by_ hh ?_)
  cases hb : B hint with
  | true =>
    refine wpS_pos rfl (wpS_bind (widen (B := B) (n := n) (mx := n - hint) (g := fun i => hint + i) (t := true) (Nat.sub_le _ _) hb (Nat.sub_pos_of_lt hh) (fun {x l o Q} q1 q2 => ?_) fun l o h1 h2 h3 h4 => ?_))
    · by_cases c : o ≥ n - hint
      · exact wpS_pos c (wpS_pure (q1 c))
      · refine wpS_neg c (wpS_bind (by_ (i := hint + o) (by omega) ?_))
        have := q2 c _ rfl
        cases hb : B (hint + o) with
        | true => rw [hb] at this; exact wpS_neg (by decide) (wpS_pure this)
        | false => rw [hb] at this; exact wpS_pos rfl (wpS_pure this)
    · have C : Cut1 B n (hint + l + 1) (hint + min o (n - hint)) := ⟨by omega, by omega, fun i hi => mono i (hint + l) (by omega) (by omega) h3, fun i g1 g2 => Bool.eq_false_iff.mpr fun q => by
        by_cases c : o < n - hint
        · exact h4 c (mono _ i (by omega) g2 q)
        · omega⟩
      refine wpS_bind (search mono C (fun {x lo hi Q} q1 q2 hn => ?_) fun k C => wpS_pure (h k C))
      by_cases c : lo ≥ hi
      · exact wpS_pos c (wpS_pure (q1 c))
      · refine wpS_neg c (wpS_bind (by_ (i := lo + (hi - lo) / 2) (by omega) ?_))
        have := q2 c hn _ rfl
        cases hb : B (lo + (hi - lo) / 2) with
        | true => rw [hb] at this; exact wpS_pos rfl (wpS_pure this)
        | false => rw [hb] at this; exact wpS_neg Bool.false_ne_true (wpS_pure this)
  | false =>
    refine wpS_neg Bool.false_ne_true (wpS_bind (widen (B := B) (n := n) (mx := hint + 1) (g := fun i => hint - i) (t := false) hh hb (Nat.succ_pos _) (fun {x l o Q} q1 q2 => ?_) fun l o h1 h2 h3 h4 => ?_))
    · by_cases c : o ≥ hint + 1
      · exact wpS_pos c (wpS_pure (q1 c))
      · refine wpS_neg c (wpS_bind (by_ (i := hint - o) (by omega) ?_))
        have := q2 c _ rfl
        cases hb : B (hint - o) with
        | true => rw [hb] at this; exact wpS_pos rfl (wpS_pure this)
        | false => rw [hb] at this; exact wpS_neg Bool.false_ne_true (wpS_pure this)
    · have C : Cut1 B n (hint + 1 - min o (hint + 1)) (hint - l) := ⟨by omega, by omega, fun i hi => by
        by_cases c : o < hint + 1
        · have := h4 c
          exact mono i (hint - o) (by omega) (by omega) (by simpa using this)
        · omega, fun i g1 g2 => Bool.eq_false_iff.mpr fun q => by rw [mono (hint - l) i g1 g2 q] at h3; cases h3⟩
      refine wpS_bind (search mono C (fun {x lo hi Q} q1 q2 hn => ?_) fun k C => wpS_pure (h k C))
      by_cases c : lo ≥ hi
      · exact wpS_pos c (wpS_pure (q1 c))
      · refine wpS_neg c (wpS_bind (by_ (i := lo + (hi - lo) / 2) (by omega) ?_))
        have := q2 c hn _ rfl
        cases hb : B (lo + (hi - lo) / 2) with
        | true => rw [hb] at this; exact wpS_pos rfl (wpS_pure this)
        | false => rw [hb] at this; exact wpS_neg Bool.false_ne_true (wpS_pure this)
end
end Mine

namespace Mine
open PySem PyProof.Rows
set_option maxRecDepth 100000
section
variable {α : Type} {R : α → α → Prop} {lo ra rb T c : List α} {x : α}
structure ML (R : α → α → Prop) (lo ra rb T : List α) : Prop where
  pm : (lo ++ (ra ++ rb)).Perm T
  so : lo.Pairwise R
  sa : ra.Pairwise R
  sb : rb.Pairwise R
  xa : ∀ x ∈ lo, ∀ y ∈ ra, R x y
  xb : ∀ x ∈ lo, ∀ y ∈ rb, R x y
theorem ML.swap (m : ML R lo ra rb T) : ML R lo rb ra T := ⟨((List.perm_append_comm).append_left lo).trans m.pm, m.so, m.sb, m.sa, m.xb, m.xa⟩
theorem ML.chunk (m : ML R lo (c ++ ra) rb T) (h : ∀ x ∈ c, ∀ y ∈ rb, R x y) : ML R (lo ++ c) ra rb T := by
  obtain ⟨s1, s2, s3⟩ := List.pairwise_append.mp m.sa
  refine ⟨by rw [List.append_assoc, ← List.append_assoc c]; exact m.pm, List.pairwise_append.mpr ⟨m.so, s1, fun x hx y hy => m.xa x hx y (List.mem_append_left _ hy)⟩, s2, m.sb, fun x hx y hy => ?_, fun x hx y hy => ?_⟩
  · rcases List.mem_append.mp hx with q | q
    · exact m.xa x q y (List.mem_append_right _ hy)
    · exact s3 x q y hy
  · rcases List.mem_append.mp hx with q | q
    · exact m.xb x q y hy
    · exact h x q y hy
theorem ML.one (m : ML R lo (x :: ra) rb T) (h : ∀ y ∈ rb, R x y) : ML R (lo ++ [x]) ra rb T := ML.chunk (c := [x]) m fun z hz y hy => List.mem_singleton.mp hz ▸ h y hy
theorem ML.fin (m : ML R lo ra rb T) (h : ∀ x ∈ ra, ∀ y ∈ rb, R x y) : (lo ++ ra ++ rb).Perm T ∧ (lo ++ ra ++ rb).Pairwise R := by
  refine ⟨List.append_assoc lo ra rb ▸ m.pm, ?_⟩
  rw [List.append_assoc]
  exact List.pairwise_append.mpr ⟨m.so, List.pairwise_append.mpr ⟨m.sa, m.sb, h⟩, fun x hx y hy => (List.mem_append.mp hy).elim (m.xa x hx y) (m.xb x hx y)⟩
theorem ML.hd (m : ML R lo ra (x :: rb) T) (tr : ∀ x y z, R x y → R y z → R x z) {z : α} (h : R z x) : ∀ y ∈ x :: rb, R z y := fun y hy => by
  rcases List.mem_cons.mp hy with e | e
  · exact e ▸ h
  · exact tr _ _ _ h ((List.pairwise_cons.mp m.sb).1 y e)
end
section
variable {a : Array Keyed} {i j k : Nat} {x : Keyed}
theorem drop1 (h : a[i]? = some x) : a.toList.drop i = x :: a.toList.drop (i + 1) := by
  obtain ⟨h1, h2⟩ := Array.getElem?_eq_some_iff.mp h
  rw [List.drop_eq_getElem_cons (by rw [Array.length_toList]; exact h1)]
  congr 1
theorem dropk (h : i + k ≤ a.size) : a.toList.drop i = (a.extract i (i + k)).toList ++ a.toList.drop (i + k) := by
  rw [Array.toList_extract, List.extract_eq_take_drop, Nat.add_sub_cancel_left, ← List.drop_drop, List.take_append_drop]
theorem drop_end (h : a.size ≤ i) : a.toList.drop i = [] := List.drop_eq_nil_of_le (by rw [Array.length_toList]; exact h)
theorem ext_drop : (a.extract i).toList = a.toList.drop i := by
  rw [Array.toList_extract, List.extract_eq_take_drop, ← Array.length_toList, ← List.length_drop, List.take_length]
theorem mem_ext (h : x ∈ (a.extract i j).toList) : ∃ k, i ≤ k ∧ k < j ∧ a[k]? = some x := by
  obtain ⟨k, hk, e⟩ := List.getElem_of_mem h
  rw [Array.length_toList, Array.size_extract] at hk
  rw [Array.getElem_toList, Array.getElem_extract] at e
  exact ⟨i + k, Nat.le_add_right _ _, by omega, Array.getElem?_eq_some_iff.mpr ⟨by omega, e⟩⟩
theorem mem_drop (h : x ∈ a.toList.drop i) : ∃ k, i ≤ k ∧ a[k]? = some x := by
  rw [← ext_drop] at h
  obtain ⟨k, h1, -, h3⟩ := mem_ext h
  exact ⟨k, h1, h3⟩
theorem at_lt (h : i < a.size) : ∃ x, a[i]? = some x ∧ x ∈ a.toList := ⟨a[i], Array.getElem?_eq_getElem h, Array.getElem_mem_toList h⟩
end
end Mine

namespace Mine
open PySem PyProof.Rows
set_option maxRecDepth 100000
noncomputable def mergeLo' : Array Keyed → Array Keyed → StateT SortSt Sem (Array Keyed) := sortPriv% PySem.Builtin.mergeLo
noncomputable abbrev setMg (st : SortSt) (g : Nat) : SortSt := SortSt.mk' (kindOf st) (arrOf st) (pendingOf st) g (failedOf st)
noncomputable def Le (rk : Keyed → Nat) (x y : Keyed) : Prop := rk x ≤ rk y
theorem not_t {b : Bool} (h : (!b) = true) : b = false := by cases b with | false => rfl | true => cases h
theorem not_f {b : Bool} (h : (!b) = false) : b = true := by cases b with | false => cases h | true => rfl
theorem Le.tr {rk : Keyed → Nat} (x y z : Keyed) (h : Le rk x y) (h2 : Le rk y z) : Le rk x z := Nat.le_trans h h2
noncomputable def Good (R : Keyed → Keyed → Prop) (T : List Keyed) (r : Array Keyed) : Prop := r.toList.Perm T ∧ r.toList.Pairwise R
structure Two (rk : Keyed → Nat) (D : Keyed → Prop) (a b : Array Keyed) : Prop where
  da : ∀ x ∈ a.toList, D x
  db : ∀ x ∈ b.toList, D x
  sa : a.toList.Pairwise (Le rk)
  sb : b.toList.Pairwise (Le rk)
  na : 0 < a.size
  nb : 0 < b.size
  hd : ∀ y, b[0]? = some y → ∀ x ∈ a.toList, Le rk y x
  tl : ∀ x, a[a.size - 1]? = some x → ∀ y ∈ b.toList, Le rk y x
structure Mi (rk : Keyed → Nat) (a b out : Array Keyed) (ia ib : Nat) : Prop where
  m : ML (Le rk) out.toList (a.toList.drop ia) (b.toList.drop ib) (a.toList ++ b.toList)
section
variable {rk : Keyed → Nat} {D : Keyed → Prop} {a b out : Array Keyed} {ia ib k : Nat} {x y : Keyed}
theorem Mi.pa (M : Mi rk a b out ia ib) (hx : a[ia]? = some x) (h : ∀ y ∈ b.toList.drop ib, Le rk x y) : Mi rk a b (out.push x) (ia + 1) ib :=
  ⟨by rw [Array.toList_push]; exact ML.one (drop1 hx ▸ M.m) h⟩
theorem Mi.pb (M : Mi rk a b out ia ib) (hy : b[ib]? = some y) (h : ∀ x ∈ a.toList.drop ia, Le rk y x) : Mi rk a b (out.push y) ia (ib + 1) :=
  ⟨by rw [Array.toList_push]; exact (ML.one (drop1 hy ▸ M.m.swap) h).swap⟩
theorem Mi.ca (M : Mi rk a b out ia ib) (hk : ia + k ≤ a.size) (h : ∀ x ∈ (a.extract ia (ia + k)).toList, ∀ y ∈ b.toList.drop ib, Le rk x y) : Mi rk a b (out ++ a.extract ia (ia + k)) (ia + k) ib :=
  ⟨by rw [Array.toList_append]; exact ML.chunk (dropk hk ▸ M.m) h⟩
theorem Mi.cb (M : Mi rk a b out ia ib) (hk : ib + k ≤ b.size) (h : ∀ y ∈ (b.extract ib (ib + k)).toList, ∀ x ∈ a.toList.drop ia, Le rk y x) : Mi rk a b (out ++ b.extract ib (ib + k)) ia (ib + k) :=
  ⟨by rw [Array.toList_append]; exact (ML.chunk (dropk hk ▸ M.m.swap) h).swap⟩
theorem grow {o i j : Nat} (h : o ≤ i + j) : o + 1 ≤ i + (j + 1) := Nat.succ_le_succ h
theorem growA {o i j : Nat} (h : o ≤ i + j) : o + 1 ≤ i + 1 + j := by omega
theorem Mi.doneB (M : Mi rk a b out ia ib) (h : b.size ≤ ib) : Good (Le rk) (a.toList ++ b.toList) (out ++ a.extract ia ++ b.extract ib) := by
  unfold Good
  rw [Array.toList_append, Array.toList_append, ext_drop, ext_drop]
  exact M.m.fin fun _ _ y hy => by rw [drop_end h] at hy; cases hy
theorem Mi.doneA (M : Mi rk a b out ia ib) (h : a.size ≤ ia) : Good (Le rk) (a.toList ++ b.toList) (out ++ a.extract ia ++ b.extract ib) := by
  unfold Good
  rw [Array.toList_append, Array.toList_append, ext_drop, ext_drop]
  exact M.m.fin fun x hx _ _ => by rw [drop_end h] at hx; cases hx
theorem Mi.last (M : Mi rk a b out ia ib) (W : Two rk D a b) (h : ia + 1 = a.size) : Good (Le rk) (a.toList ++ b.toList) (out ++ b.extract ib ++ a.extract ia) := by
  unfold Good
  rw [Array.toList_append, Array.toList_append, ext_drop, ext_drop]
  refine M.m.swap.fin fun y hy x hx => ?_
  obtain ⟨k, h1, h2⟩ := mem_drop hx
  have : k = a.size - 1 := by have := (Array.getElem?_eq_some_iff.mp h2).1; omega
  exact W.tl x (this ▸ h2) y (List.mem_of_mem_drop hy)
end
inductive On (rk : Keyed → Nat) (a b : Array Keyed) (st : SortSt) (o : Nat) : Array Keyed → Nat → Nat → SortSt → Prop
  | mk {out : Array Keyed} {ia ib g : Nat} : Mi rk a b out ia ib → ia + 1 < a.size → ib < b.size → o ≤ ia + ib → On rk a b st o out ia ib (setMg st g)
inductive Lp (rk : Keyed → Nat) (a b : Array Keyed) (st : SortSt) (o : Nat) : Option (Array Keyed) → Array Keyed → Nat → Nat → SortSt → Prop
  | good {r out : Array Keyed} {ia ib g : Nat} : Good (Le rk) (a.toList ++ b.toList) r → Lp rk a b st o (some r) out ia ib (setMg st g)
  | on {out : Array Keyed} {ia ib : Nat} {st' : SortSt} : On rk a b st o out ia ib st' → Lp rk a b st o none out ia ib st'
section
variable {prog : Program} {w : World} {A : Around} {E : Value → Shared → Prop} {s : Shared} {rk : Keyed → Nat} {D : Keyed → Prop} {st : SortSt} {a b out : Array Keyed} {ia ib k : Nat}
noncomputable def Ba (rk : Keyed → Nat) (a : Array Keyed) (ia : Nat) (left : Bool) (key : Keyed) (i : Nat) : Bool := match a[ia + i]? with
  | some x => if left = true then decide (rk x < rk key) else !decide (rk key < rk x)
  | none => false
theorem Ba_at {left : Bool} {key : Keyed} {i : Nat} {x : Keyed} (h : a[ia + i]? = some x) : Ba rk a ia left key i = if left = true then decide (rk x < rk key) else !decide (rk key < rk x) := by unfold Ba; rw [h]
theorem srt_at (h : a.toList.Pairwise (Le rk)) {i j : Nat} {x y : Keyed} (hi : a[i]? = some x) (hj : a[j]? = some y) (hij : i ≤ j) : rk x ≤ rk y := by
  obtain ⟨h1, e1⟩ := Array.getElem?_eq_some_iff.mp hi
  obtain ⟨h2, e2⟩ := Array.getElem?_eq_some_iff.mp hj
  rcases Nat.eq_or_lt_of_le hij with q | q
  · subst q; rw [← e1, ← e2]; exact Nat.le_refl _
  · have := List.pairwise_iff_getElem.mp h i j (by rw [Array.length_toList]; exact h1) (by rw [Array.length_toList]; exact h2) q
    rw [Array.getElem_toList, Array.getElem_toList, e1, e2] at this; exact this
theorem Ba_mono {left : Bool} {key : Keyed} (h : a.toList.Pairwise (Le rk)) (hn : ia + k ≤ a.size) : ∀ i j, i ≤ j → j < k → Ba rk a ia left key j = true → Ba rk a ia left key i = true := fun i j hij hj hb => by
  obtain ⟨x, hx, -⟩ := at_lt (a := a) (i := ia + i) (by omega)
  obtain ⟨y, hy, -⟩ := at_lt (a := a) (i := ia + j) (by omega)
  have := srt_at h hx hy (Nat.add_le_add_left hij ia)
  rw [Ba_at hx]; rw [Ba_at hy] at hb
  cases left with
  | true => exact decide_eq_true (Nat.lt_of_le_of_lt this (of_decide_eq_true hb))
  | false =>
    show (!decide (rk key < rk x)) = true
    replace hb : (!decide (rk key < rk y)) = true := hb
    rw [Bool.not_eq_true', decide_eq_false_iff_not] at hb ⊢
    omega
theorem gal (O : Ord prog w A s rk D) (hkd : kindOf st = tuples' true) (hd : ∀ x ∈ a.toList, D x) (hs : a.toList.Pairwise (Le rk)) {left : Bool} {key : Keyed} {n hint : Nat} (hk : D key) (hn : ia + n ≤ a.size) (hh : hint < n) {Q : Option Nat → SortSt → Prop}
    (h : ∀ k, k ≤ n → (∀ x ∈ (a.extract ia (ia + k)).toList, if left = true then rk x < rk key else rk x ≤ rk key) → (∀ i x, ia + k ≤ i → i < ia + n → a[i]? = some x → if left = true then rk key ≤ rk x else rk key < rk x) → Q (some k) st) : wpS (model prog w) A E s (gallop' left key a ia n hint) Q st := by
  refine wps_gallop O hkd (B := Ba rk a ia left key) (fun i hi => ?_) hk (Ba_mono hs hn) hh fun k C => h k C.top (fun x hx => ?_) fun i x h1 h2 hx => ?_
  · obtain ⟨x, hx, hm⟩ := at_lt (a := a) (i := ia + i) (by omega)
    exact ⟨x, hx, hd x hm, Ba_at hx⟩
  · obtain ⟨j, h1, h2, h3⟩ := mem_ext hx
    have e : ia + (j - ia) = j := by omega
    have := C.yes (j - ia) (by omega)
    rw [Ba_at (e.symm ▸ h3)] at this
    cases left with
    | true => exact of_decide_eq_true this
    | false => exact Nat.not_lt.mp (of_decide_eq_false (not_t this))
  · have e : ia + (i - ia) = i := by omega
    have := C.no (i - ia) (by omega) (by omega)
    rw [Ba_at (e.symm ▸ hx)] at this
    cases left with
    | true => exact Nat.not_lt.mp (of_decide_eq_false this)
    | false => exact of_decide_eq_true (not_f this)
structure MidA (rk : Keyed → Nat) (a b out : Array Keyed) (ia ib : Nat) (v : Keyed) (k : Nat) : Prop where
  le : ia + k ≤ a.size
  m : Mi rk a b (out ++ a.extract ia (ia + k)) (ia + k) ib
  gt : ∀ z ∈ a.toList.drop (ia + k), Le rk v z
theorem midA (O : Ord prog w A s rk D) (hkd : kindOf st = tuples' true) (W : Two rk D a b) (M : Mi rk a b out ia ib) (ha : ia + 1 < a.size) {v : Keyed} (hv : b[ib]? = some v) (mv : v ∈ b.toList) {g : Nat} {Q : Option Nat → SortSt → Prop} (q : ∀ k, MidA rk a b out ia ib v k → Q (some k) (setMg st g)) : wpS (model prog w) A E s (gallop' false v a ia (a.size - ia) 0) Q (setMg st g) := by
  have m1 := M.m
  rw [drop1 hv] at m1
  have hz : ia + (a.size - ia) = a.size := by omega
  refine gal (st := setMg st g) O hkd W.da W.sa (W.db v mv) (Nat.le_of_eq hz) (by omega) fun k k1 k2 k3 => q k ⟨by omega, M.ca (by omega) fun z hz y hy => m1.hd Le.tr (k2 z hz) y (drop1 hv ▸ hy), fun z hz => ?_⟩
  obtain ⟨j, j1, j2⟩ := mem_drop hz
  exact Nat.le_of_lt (k3 j z j1 (by have := (Array.getElem?_eq_some_iff.mp j2).1; omega) j2)
structure MidB (rk : Keyed → Nat) (a b out : Array Keyed) (ia ib : Nat) (u : Keyed) (k : Nat) : Prop where
  le : ib + k ≤ b.size
  m : Mi rk a b (out ++ b.extract ib (ib + k)) ia (ib + k)
  gt : ∀ z ∈ b.toList.drop (ib + k), Le rk u z
theorem midB (O : Ord prog w A s rk D) (hkd : kindOf st = tuples' true) (W : Two rk D a b) (M : Mi rk a b out ia ib) (hb : ib < b.size) {u : Keyed} (hu : a[ia]? = some u) (mu : u ∈ a.toList) {g : Nat} {Q : Option Nat → SortSt → Prop} (q : ∀ k, MidB rk a b out ia ib u k → Q (some k) (setMg st g)) : wpS (model prog w) A E s (gallop' true u b ib (b.size - ib) 0) Q (setMg st g) := by
  have m1 := M.m.swap
  rw [drop1 hu] at m1
  have hz : ib + (b.size - ib) = b.size := by omega
  refine gal (st := setMg st g) O hkd W.db W.sb (W.da u mu) (Nat.le_of_eq hz) (by omega) fun k k1 k2 k3 => q k ⟨by omega, M.cb (by omega) fun z hz y hy => m1.hd Le.tr (Nat.le_of_lt (k2 z hz)) y (drop1 hu ▸ hy), fun z hz => ?_⟩
  obtain ⟨j, j1, j2⟩ := mem_drop hz
  exact k3 j z j1 (by have := (Array.getElem?_eq_some_iff.mp j2).1; omega) j2
theorem wps_mergeLo (O : Ord prog w A s rk D) (hkd : kindOf st = tuples' true) (W : Two rk D a b) {Q : Array Keyed → SortSt → Prop} (h : ∀ r g, Good (Le rk) (a.toList ++ b.toList) r → Q r (setMg st g)) : wpS (model prog w) A E s (mergeLo' a b) Q st := by
  obtain ⟨y0, hy0, -⟩ := at_lt W.nb
  have M0 : Mi rk a b #[y0] 0 1 := Mi.pb (out := #[]) ⟨⟨.refl _, .nil, W.sa, W.sb, fun _ h => (nomatch h), fun _ h => (nomatch h)⟩⟩ hy0 (W.hd y0 hy0)
  refine wpS_bind (wpS_lift (wpAny_rule ⟨rfl, wpS_bind (wpS_elem hy0 ?_)⟩))
  by_cases c1 : (1 == b.size) = true
  · exact wpS_pos c1 (wpS_pure (h _ _ (M0.doneB (Nat.le_of_eq (eq_of_beq c1).symm))))
  refine wpS_neg c1 ?_
  by_cases c2 : (0 + 1 == a.size) = true
  · exact wpS_pos c2 (wpS_pure (h _ _ (M0.last W (eq_of_beq c2))))
  have c1 : 1 < b.size := Nat.lt_of_le_of_ne W.nb fun q => c1 (q ▸ beq_self_eq_true _)
  have c2' : 0 + 1 < a.size := Nat.lt_of_le_of_ne W.na fun q => c2 (beq_iff_eq.mpr q)
  refine wpS_neg c2 (wpS_bind (wpS_get (wpS_bind (wpS_mono (wpS_forRange (I := fun x c st' => c.1 = none ∧ On rk a b st (x + 1) c.2.1 c.2.2.1 c.2.2.2.1 st') (Q := fun c st' => ∃ r g, c.1 = some r ∧ st' = setMg st g ∧ Good (Le rk) (a.toList ++ b.toList) r) ?step ?fin ?init) ?post))))
  case init => exact ⟨rfl, On.mk (out := #[y0]) (ia := 0) (ib := 1) (g := gallopOf st) M0 c2' c1 (Nat.le_refl 1)⟩
  case fin =>
    rintro ⟨o, out, ia, ib, mg⟩ st' ⟨-, I⟩
    cases I with
    | mk M ha hb ho =>
      exact absurd (Nat.le_trans (Nat.succ_le_succ (Nat.le_max_right 0 (a.size + b.size))) ho) (Nat.not_le.mpr (Nat.lt_succ_of_lt (Nat.add_lt_add (Nat.lt_of_succ_lt ha) hb)))
  case post =>
    rintro ⟨o, out, ia, ib, mg⟩ st' ⟨r, g, rfl, rfl, hg⟩
    exact wpS_pure (h r g hg)
  case step =>
    rintro x ⟨o, out, ia, ib, mg⟩ st' _ hx ⟨rfl, I⟩
    cases I with
    | @mk g M ha hb ho =>
    refine wpS_bind (wpS_mono (wpS_forRange (I := fun x' c st' => c.1 = none ∧ On rk a b st (x + 1 + x') c.2.1 c.2.2.1 c.2.2.2.1 st') (Q := fun c st' => Lp rk a b st (x + 1 + 1) c.1 c.2.1 c.2.2.1 c.2.2.2.1 st') ?step ?fin ?init) ?post)
    case init => exact ⟨rfl, On.mk (out := out) (ia := ia) (ib := ib) (g := g) M ha hb ho⟩
    case fin =>
      rintro ⟨o, out, ia, ib, ac, bc⟩ st' ⟨rfl, I⟩
      cases I with
      | mk M ha hb ho => exact .on (.mk M ha hb (Nat.le_trans (Nat.add_le_add_left (by rw [Nat.max_eq_right (Nat.zero_le _)]; exact Nat.le_trans W.na (Nat.le_add_right _ _)) _) ho))
    case step =>
      rintro x' ⟨o, out, ia, ib, ac, bc⟩ st' _ hx' ⟨rfl, I⟩
      cases I with
      | @mk g M ha hb ho =>
      obtain ⟨u, hu, mu⟩ := at_lt (Nat.lt_of_succ_lt ha)
      obtain ⟨v, hv, mv⟩ := at_lt hb
      refine wpS_bind (wpS_elem hv (wpS_bind (wpS_elem hu (wpS_bind (wpS_lt (st := setMg st g) O hkd (W.db v mv) (W.da u mu) ?_)))))
      have m1 := M.m
      rw [drop1 hu, drop1 hv] at m1
      cases hlt : decide (rk v < rk u) with
      | true =>
        have M' := M.pb hv (fun z hz => m1.swap.hd Le.tr (Nat.le_of_lt (of_decide_eq_true hlt)) z (drop1 hu ▸ hz))
        refine wpS_pos rfl (wpS_bind (wpS_elem hv ?_))
        by_cases c3 : (ib + 1 == b.size) = true
        · exact wpS_pos c3 (wpS_pure (.good (M'.doneB (Nat.le_of_eq (eq_of_beq c3).symm))))
        have I' : On rk a b st (x + 1 + (x' + 1)) (out.push v) ia (ib + 1) (setMg st g) := .mk M' ha (Nat.lt_of_le_of_ne hb fun q => c3 (beq_iff_eq.mpr q)) (grow ho)
        refine wpS_neg c3 ?_
        by_cases c4 : bc + 1 ≥ mg
        · exact wpS_pos c4 (wpS_pure (.on (.mk M' ha (Nat.lt_of_le_of_ne hb fun q => c3 (beq_iff_eq.mpr q)) (grow (Nat.le_trans (Nat.le_add_right _ _) ho)))))
        · exact wpS_neg c4 (wpS_pure ⟨rfl, I'⟩)
      | false =>
        have M' := M.pa hu (fun z hz => m1.hd Le.tr (Nat.not_lt.mp (of_decide_eq_false hlt)) z (drop1 hv ▸ hz))
        refine wpS_neg Bool.false_ne_true (wpS_bind (wpS_elem hu ?_))
        by_cases c3 : (ia + 1 + 1 == a.size) = true
        · exact wpS_pos c3 (wpS_pure (.good (M'.last W (eq_of_beq c3))))
        refine wpS_neg c3 ?_
        by_cases c4 : ac + 1 ≥ mg
        · exact wpS_pos c4 (wpS_pure (.on (.mk M' (Nat.lt_of_le_of_ne ha fun q => c3 (beq_iff_eq.mpr q)) hb (growA (Nat.le_trans (Nat.le_add_right _ _) ho)))))
        · exact wpS_neg c4 (wpS_pure ⟨rfl, .mk M' (Nat.lt_of_le_of_ne ha fun q => c3 (beq_iff_eq.mpr q)) hb (growA ho)⟩)
    case post =>
      rintro ⟨o, out, ia, ib, ac, bc⟩ st' I
      cases I with
      | good hg => exact wpS_pure ⟨_, _, rfl, rfl, hg⟩
      | on I =>
      refine wpS_bind (wpS_lift (wpAny_rule ⟨rfl, wpS_bind (wpS_mono (wpS_forRange (I := fun _ c st' => c.1 = none ∧ On rk a b st (x + 1 + 1) c.2.1 c.2.2.1 c.2.2.2.1 st') (Q := fun c st' => Lp rk a b st (x + 1 + 1) c.1 c.2.1 c.2.2.1 c.2.2.2.1 st') ?step ?fin ⟨rfl, I⟩) ?post)⟩))
      case fin =>
        rintro ⟨o, out, ia, ib, mg, ac, bc⟩ st' ⟨rfl, I⟩
        exact .on I
      case post =>
        rintro ⟨o, out, ia, ib, mg, ac, bc⟩ st' I
        cases I with
        | good hg => exact wpS_pure ⟨_, _, rfl, rfl, hg⟩
        | on I => cases I with
          | mk M ha hb ho => exact wpS_bind (wpS_modify (wpS_pure ⟨rfl, .mk M ha hb ho⟩))
      case step =>
        rintro x2 ⟨o, out, ia, ib, mg, ac, bc⟩ st' _ hx2 ⟨rfl, I⟩
        cases I with
        | @mk g M ha hb ho =>
        replace M : Mi rk a b out ia ib := M
        replace ha : ia + 1 < a.size := ha
        replace hb : ib < b.size := hb
        replace ho : x + 1 + 1 ≤ ia + ib := ho
        obtain ⟨v, hv, mv⟩ := at_lt hb
        have mid : ∀ {mg' : Nat} {Q : Option Nat → SortSt → Prop}, (∀ k, MidA rk a b out ia ib v k → Q (some k) (setMg st mg')) → wpS (model prog w) A E s (gallop' false v a ia (a.size - ia) 0) Q (setMg st mg') := fun {mg' Q} q => midA O hkd W M ha hv mv q
        by_cases c5 : mg > 1
        · refine wpS_pos c5 (wpS_bind (wpS_modify (wpS_bind (wpS_elem hv (wpS_bind (mid fun k K => ?_))))))
          by_cases c6 : k > 0
          · refine wpS_pos c6 ?_
            by_cases c7 : (ia + k + 1 == a.size) = true
            · exact wpS_pos c7 (wpS_pure (.good (K.m.last W (eq_of_beq c7))))
            refine wpS_neg c7 ?_
            by_cases c8 : (ia + k == a.size) = true
            · exact wpS_pos c8 (wpS_pure (.good (K.m.doneA (Nat.le_of_eq (eq_of_beq c8).symm))))
            have ha2 : ia + k + 1 < a.size := Nat.lt_of_le_of_ne (Nat.lt_of_le_of_ne K.le fun q => c8 (beq_iff_eq.mpr q)) fun q => c7 (beq_iff_eq.mpr q)
            refine wpS_neg c8 (wpS_bind (wpS_elem hv ?_))
            have M2 := K.m.pb hv K.gt
            by_cases c9 : (ib + 1 == b.size) = true
            · exact wpS_pos c9 (wpS_pure (.good (M2.doneB (Nat.le_of_eq (eq_of_beq c9).symm))))
            have hb2 : ib + 1 < b.size := Nat.lt_of_le_of_ne hb fun q => c9 (beq_iff_eq.mpr q)
            obtain ⟨u, hu, mu⟩ := at_lt (Nat.lt_of_succ_lt ha2)
            refine wpS_neg c9 (wpS_bind (wpS_elem hu (wpS_bind (midB O hkd W M2 hb2 hu mu fun k2 K2 => ?_))))
            by_cases c10 : k2 > 0
            · refine wpS_pos c10 ?_
              by_cases c11 : (ib + 1 + k2 == b.size) = true
              · exact wpS_pos c11 (wpS_pure (.good (K2.m.doneB (Nat.le_of_eq (eq_of_beq c11).symm))))
              refine wpS_neg c11 (wpS_bind (wpS_elem hu ?_))
              have M3 := K2.m.pa hu K2.gt
              by_cases c12 : (ia + k + 1 + 1 == a.size) = true
              · exact wpS_pos c12 (wpS_pure (.good (M3.last W (eq_of_beq c12))))
              refine wpS_neg c12 ?_
              have J : On rk a b st (x + 1 + 1) _ _ _ (setMg st _) := .mk (g := mg - 1) M3 (Nat.lt_of_le_of_ne ha2 fun q => c12 (beq_iff_eq.mpr q)) (Nat.lt_of_le_of_ne K2.le fun q => c11 (beq_iff_eq.mpr q)) (by omega)
              by_cases c13 : (decide (k < 7) && decide (k2 < 7)) = true
              · exact wpS_pos c13 (wpS_pure (.on J))
              · exact wpS_neg c13 (wpS_pure ⟨rfl, J⟩)
            · refine wpS_neg c10 (wpS_bind (wpS_elem hu ?_))
              have e0 : k2 = 0 := Nat.eq_zero_of_not_pos c10
              have gt0 := K2.gt
              rw [e0] at gt0
              have M3 := M2.pa hu gt0
              by_cases c12 : (ia + k + 1 + 1 == a.size) = true
              · exact wpS_pos c12 (wpS_pure (.good (M3.last W (eq_of_beq c12))))
              refine wpS_neg c12 ?_
              have J : On rk a b st (x + 1 + 1) _ _ _ (setMg st _) := .mk (g := mg - 1) M3 (Nat.lt_of_le_of_ne ha2 fun q => c12 (beq_iff_eq.mpr q)) hb2 (by omega)
              by_cases c13 : (decide (k < 7) && decide (k2 < 7)) = true
              · exact wpS_pos c13 (wpS_pure (.on J))
              · exact wpS_neg c13 (wpS_pure ⟨rfl, J⟩)
          · refine wpS_neg c6 (wpS_bind (wpS_elem hv ?_))
            have ha2 := ha
            have gt1 := K.gt
            rw [Nat.eq_zero_of_not_pos c6] at gt1
            have M2 := M.pb hv gt1
            by_cases c9 : (ib + 1 == b.size) = true
            · exact wpS_pos c9 (wpS_pure (.good (M2.doneB (Nat.le_of_eq (eq_of_beq c9).symm))))
            have hb2 : ib + 1 < b.size := Nat.lt_of_le_of_ne hb fun q => c9 (beq_iff_eq.mpr q)
            obtain ⟨u, hu, mu⟩ := at_lt (Nat.lt_of_succ_lt ha2)
            refine wpS_neg c9 (wpS_bind (wpS_elem hu (wpS_bind (midB O hkd W M2 hb2 hu mu fun k2 K2 => ?_))))
            by_cases c10 : k2 > 0
            · refine wpS_pos c10 ?_
              by_cases c11 : (ib + 1 + k2 == b.size) = true
              · exact wpS_pos c11 (wpS_pure (.good (K2.m.doneB (Nat.le_of_eq (eq_of_beq c11).symm))))
              refine wpS_neg c11 (wpS_bind (wpS_elem hu ?_))
              have M3 := K2.m.pa hu K2.gt
              by_cases c12 : (ia + 1 + 1 == a.size) = true
              · exact wpS_pos c12 (wpS_pure (.good (M3.last W (eq_of_beq c12))))
              refine wpS_neg c12 ?_
              have J : On rk a b st (x + 1 + 1) _ _ _ (setMg st _) := .mk (g := mg - 1) M3 (Nat.lt_of_le_of_ne ha2 fun q => c12 (beq_iff_eq.mpr q)) (Nat.lt_of_le_of_ne K2.le fun q => c11 (beq_iff_eq.mpr q)) (by omega)
              by_cases c13 : (decide (k < 7) && decide (k2 < 7)) = true
              · exact wpS_pos c13 (wpS_pure (.on J))
              · exact wpS_neg c13 (wpS_pure ⟨rfl, J⟩)
            · refine wpS_neg c10 (wpS_bind (wpS_elem hu ?_))
              have e0 : k2 = 0 := Nat.eq_zero_of_not_pos c10
              have gt0 := K2.gt
              rw [e0] at gt0
              have M3 := M2.pa hu gt0
              by_cases c12 : (ia + 1 + 1 == a.size) = true
              · exact wpS_pos c12 (wpS_pure (.good (M3.last W (eq_of_beq c12))))
              refine wpS_neg c12 ?_
              have J : On rk a b st (x + 1 + 1) _ _ _ (setMg st _) := .mk (g := mg - 1) M3 (Nat.lt_of_le_of_ne ha2 fun q => c12 (beq_iff_eq.mpr q)) hb2 (by omega)
              by_cases c13 : (decide (k < 7) && decide (k2 < 7)) = true
              · exact wpS_pos c13 (wpS_pure (.on J))
              · exact wpS_neg c13 (wpS_pure ⟨rfl, J⟩)
        · refine wpS_neg c5 (wpS_bind (wpS_modify (wpS_bind (wpS_elem hv (wpS_bind (mid fun k K => ?_))))))
          by_cases c6 : k > 0
          · refine wpS_pos c6 ?_
            by_cases c7 : (ia + k + 1 == a.size) = true
            · exact wpS_pos c7 (wpS_pure (.good (K.m.last W (eq_of_beq c7))))
            refine wpS_neg c7 ?_
            by_cases c8 : (ia + k == a.size) = true
            · exact wpS_pos c8 (wpS_pure (.good (K.m.doneA (Nat.le_of_eq (eq_of_beq c8).symm))))
            have ha2 : ia + k + 1 < a.size := Nat.lt_of_le_of_ne (Nat.lt_of_le_of_ne K.le fun q => c8 (beq_iff_eq.mpr q)) fun q => c7 (beq_iff_eq.mpr q)
            refine wpS_neg c8 (wpS_bind (wpS_elem hv ?_))
            have M2 := K.m.pb hv K.gt
            by_cases c9 : (ib + 1 == b.size) = true
            · exact wpS_pos c9 (wpS_pure (.good (M2.doneB (Nat.le_of_eq (eq_of_beq c9).symm))))
            have hb2 : ib + 1 < b.size := Nat.lt_of_le_of_ne hb fun q => c9 (beq_iff_eq.mpr q)
            obtain ⟨u, hu, mu⟩ := at_lt (Nat.lt_of_succ_lt ha2)
            refine wpS_neg c9 (wpS_bind (wpS_elem hu (wpS_bind (midB O hkd W M2 hb2 hu mu fun k2 K2 => ?_))))
            by_cases c10 : k2 > 0
            · refine wpS_pos c10 ?_
              by_cases c11 : (ib + 1 + k2 == b.size) = true
              · exact wpS_pos c11 (wpS_pure (.good (K2.m.doneB (Nat.le_of_eq (eq_of_beq c11).symm))))
              refine wpS_neg c11 (wpS_bind (wpS_elem hu ?_))
              have M3 := K2.m.pa hu K2.gt
              by_cases c12 : (ia + k + 1 + 1 == a.size) = true
              · exact wpS_pos c12 (wpS_pure (.good (M3.last W (eq_of_beq c12))))
              refine wpS_neg c12 ?_
              have J : On rk a b st (x + 1 + 1) _ _ _ (setMg st _) := .mk (g := mg) M3 (Nat.lt_of_le_of_ne ha2 fun q => c12 (beq_iff_eq.mpr q)) (Nat.lt_of_le_of_ne K2.le fun q => c11 (beq_iff_eq.mpr q)) (by omega)
              by_cases c13 : (decide (k < 7) && decide (k2 < 7)) = true
              · exact wpS_pos c13 (wpS_pure (.on J))
              · exact wpS_neg c13 (wpS_pure ⟨rfl, J⟩)
            · refine wpS_neg c10 (wpS_bind (wpS_elem hu ?_))
              have e0 : k2 = 0 := Nat.eq_zero_of_not_pos c10
              have gt0 := K2.gt
              rw [e0] at gt0
              have M3 := M2.pa hu gt0
              by_cases c12 : (ia + k + 1 + 1 == a.size) = true
              · exact wpS_pos c12 (wpS_pure (.good (M3.last W (eq_of_beq c12))))
              refine wpS_neg c12 ?_
              have J : On rk a b st (x + 1 + 1) _ _ _ (setMg st _) := .mk (g := mg) M3 (Nat.lt_of_le_of_ne ha2 fun q => c12 (beq_iff_eq.mpr q)) hb2 (by omega)
              by_cases c13 : (decide (k < 7) && decide (k2 < 7)) = true
              · exact wpS_pos c13 (wpS_pure (.on J))
              · exact wpS_neg c13 (wpS_pure ⟨rfl, J⟩)
          · refine wpS_neg c6 (wpS_bind (wpS_elem hv ?_))
            have ha2 := ha
            have gt1 := K.gt
            rw [Nat.eq_zero_of_not_pos c6] at gt1
            have M2 := M.pb hv gt1
            by_cases c9 : (ib + 1 == b.size) = true
            · exact wpS_pos c9 (wpS_pure (.good (M2.doneB (Nat.le_of_eq (eq_of_beq c9).symm))))
            have hb2 : ib + 1 < b.size := Nat.lt_of_le_of_ne hb fun q => c9 (beq_iff_eq.mpr q)
            obtain ⟨u, hu, mu⟩ := at_lt (Nat.lt_of_succ_lt ha2)
            refine wpS_neg c9 (wpS_bind (wpS_elem hu (wpS_bind (midB O hkd W M2 hb2 hu mu fun k2 K2 => ?_))))
            by_cases c10 : k2 > 0
            · refine wpS_pos c10 ?_
              by_cases c11 : (ib + 1 + k2 == b.size) = true
              · exact wpS_pos c11 (wpS_pure (.good (K2.m.doneB (Nat.le_of_eq (eq_of_beq c11).symm))))
              refine wpS_neg c11 (wpS_bind (wpS_elem hu ?_))
              have M3 := K2.m.pa hu K2.gt
              by_cases c12 : (ia + 1 + 1 == a.size) = true
              · exact wpS_pos c12 (wpS_pure (.good (M3.last W (eq_of_beq c12))))
              refine wpS_neg c12 ?_
              have J : On rk a b st (x + 1 + 1) _ _ _ (setMg st _) := .mk (g := mg) M3 (Nat.lt_of_le_of_ne ha2 fun q => c12 (beq_iff_eq.mpr q)) (Nat.lt_of_le_of_ne K2.le fun q => c11 (beq_iff_eq.mpr q)) (by omega)
              by_cases c13 : (decide (k < 7) && decide (k2 < 7)) = true
              · exact wpS_pos c13 (wpS_pure (.on J))
              · exact wpS_neg c13 (wpS_pure ⟨rfl, J⟩)
            · refine wpS_neg c10 (wpS_bind (wpS_elem hu ?_))
              have e0 : k2 = 0 := Nat.eq_zero_of_not_pos c10
              have gt0 := K2.gt
              rw [e0] at gt0
              have M3 := M2.pa hu gt0
              by_cases c12 : (ia + 1 + 1 == a.size) = true
              · exact wpS_pos c12 (wpS_pure (.good (M3.last W (eq_of_beq c12))))
              refine wpS_neg c12 ?_
              have J : On rk a b st (x + 1 + 1) _ _ _ (setMg st _) := .mk (g := mg) M3 (Nat.lt_of_le_of_ne ha2 fun q => c12 (beq_iff_eq.mpr q)) hb2 (by omega)
              by_cases c13 : (decide (k < 7) && decide (k2 < 7)) = true
              · exact wpS_pos c13 (wpS_pure (.on J))
              · exact wpS_neg c13 (wpS_pure ⟨rfl, J⟩)
end
end Mine

namespace Mine
open PySem PyProof.Rows
set_option maxRecDepth 100000
noncomputable def mergeHi' : Array Keyed → Array Keyed → StateT SortSt Sem (Array Keyed) := sortPriv% PySem.Builtin.mergeHi
noncomputable def Ge (rk : Keyed → Nat) (x y : Keyed) : Prop := rk y ≤ rk x
theorem Ge.tr {rk : Keyed → Nat} (x y z : Keyed) (h : Ge rk x y) (h2 : Ge rk y z) : Ge rk x z := Nat.le_trans h2 h
noncomputable def rt (a : Array Keyed) (n : Nat) : List Keyed := (a.toList.take n).reverse
section
variable {a : Array Keyed} {i j n : Nat} {x : Keyed}
theorem rt1 (h : a[n]? = some x) : rt a (n + 1) = x :: rt a n := by
  obtain ⟨h1, h2⟩ := Array.getElem?_eq_some_iff.mp h
  unfold rt
  rw [List.take_succ_eq_append_getElem (by rw [Array.length_toList]; exact h1), List.reverse_append, Array.getElem_toList, h2]; rfl
theorem ext_take : (a.extract 0 n).toList = a.toList.take n := by
  rw [Array.toList_extract, List.extract_eq_take_drop, List.drop_zero, Nat.sub_zero]
theorem rtk (h : i ≤ n) : rt a n = (a.extract i n).reverse.toList ++ rt a i := by
  unfold rt
  rw [Array.toList_reverse, ← List.reverse_append, Array.toList_extract, List.extract_eq_drop_take']
  congr 1
  have : a.toList.take i = (a.toList.take n).take i := by rw [List.take_take, Nat.min_eq_left h]
  rw [this, List.take_append_drop]
theorem mem_rt (h : x ∈ rt a n) : ∃ k, k < n ∧ a[k]? = some x := by
  have h := List.mem_reverse.mp h
  rw [← ext_take] at h
  obtain ⟨k, -, h2, h3⟩ := mem_ext h
  exact ⟨k, h2, h3⟩
theorem rt_srt {rk : Keyed → Nat} (h : a.toList.Pairwise (Le rk)) : (rt a n).Pairwise (Ge rk) := List.pairwise_reverse.mpr (h.sublist (List.take_sublist n a.toList))
theorem rt_all : (rt a a.size).Perm a.toList := by
  unfold rt
  rw [← Array.length_toList, List.take_length]; exact List.reverse_perm _
end
noncomputable def Mh (rk : Keyed → Nat) (a b out : Array Keyed) (na nb : Nat) : Prop := ML (Ge rk) out.toList (rt a na) (rt b nb) (a.toList ++ b.toList)
section
variable {rk : Keyed → Nat} {D : Keyed → Prop} {a b out : Array Keyed} {na nb k : Nat} {x y : Keyed}
theorem Mh.pa (M : Mh rk a b out (na + 1) nb) (hx : a[na]? = some x) (h : ∀ y ∈ rt b nb, Ge rk x y) : Mh rk a b (out.push x) na nb := by
  unfold Mh; rw [Array.toList_push]; exact ML.one (rt1 hx ▸ M) h
theorem Mh.pb (M : Mh rk a b out na (nb + 1)) (hy : b[nb]? = some y) (h : ∀ x ∈ rt a na, Ge rk y x) : Mh rk a b (out.push y) na nb := by
  unfold Mh; rw [Array.toList_push]; exact (ML.one (rt1 hy ▸ M.swap) h).swap
theorem Mh.ca (M : Mh rk a b out na nb) (hk : k ≤ na) (h : ∀ x ∈ (a.extract k na).toList, ∀ y ∈ rt b nb, Ge rk x y) : Mh rk a b (out ++ (a.extract k na).reverse) k nb := by
  unfold Mh; rw [Array.toList_append]
  exact ML.chunk (rtk hk ▸ M) fun x hx => h x (by rw [Array.toList_reverse] at hx; exact List.mem_reverse.mp hx)
theorem Mh.cb (M : Mh rk a b out na nb) (hk : k ≤ nb) (h : ∀ y ∈ (b.extract k nb).toList, ∀ x ∈ rt a na, Ge rk y x) : Mh rk a b (out ++ (b.extract k nb).reverse) na k := by
  unfold Mh; rw [Array.toList_append]
  exact (ML.chunk (rtk hk ▸ M.swap) fun x hx => h x (by rw [Array.toList_reverse] at hx; exact List.mem_reverse.mp hx)).swap
theorem good_rev {l T : List Keyed} {r : Array Keyed} (h : l.Perm T ∧ l.Pairwise (Ge rk)) (e : r.toList = l.reverse) : Good (Le rk) T r := by
  unfold Good
  rw [e]; exact ⟨(List.reverse_perm l).trans h.1, List.pairwise_reverse.mpr h.2⟩
theorem Mh.done (M : Mh rk a b out na nb) (h : na = 0 ∨ nb = 0) : Good (Le rk) (a.toList ++ b.toList) (a.extract 0 na ++ b.extract 0 nb ++ out.reverse) := by
  refine good_rev (M.swap.fin fun y hy x hx => ?_) ?_
  · rcases h with h | h
    · subst h; cases hx
    · subst h; cases hy
  · rw [Array.toList_append, Array.toList_append, ext_take, ext_take, Array.toList_reverse]
    unfold rt
    rw [List.reverse_append, List.reverse_append, List.reverse_reverse, List.reverse_reverse, List.append_assoc]
theorem Mh.first (M : Mh rk a b out na nb) (W : Two rk D a b) (h : nb = 1) : Good (Le rk) (a.toList ++ b.toList) (b.extract 0 nb ++ a.extract 0 na ++ out.reverse) := by
  refine good_rev (M.fin fun x hx y hy => ?_) ?_
  · subst h
    obtain ⟨k, h1, h2⟩ := mem_rt hy
    obtain ⟨j, -, h4⟩ := mem_rt hx
    cases Nat.lt_one_iff.mp h1
    obtain ⟨h5, h6⟩ := Array.getElem?_eq_some_iff.mp h4
    exact W.hd y h2 x (h6 ▸ Array.getElem_mem_toList h5)
  · rw [Array.toList_append, Array.toList_append, ext_take, ext_take, Array.toList_reverse]
    unfold rt
    rw [List.reverse_append, List.reverse_append, List.reverse_reverse, List.reverse_reverse, List.append_assoc]
end
inductive Oh (rk : Keyed → Nat) (a b : Array Keyed) (st : SortSt) (o : Nat) : Nat → Nat → Array Keyed → SortSt → Prop
  | mk {out : Array Keyed} {na nb g : Nat} : Mh rk a b out (na + 1) (nb + 2) → na + 1 ≤ a.size → nb + 2 ≤ b.size → na + 1 + (nb + 2) + o ≤ a.size + b.size → Oh rk a b st o (na + 1) (nb + 2) out (setMg st g)
inductive Lh (rk : Keyed → Nat) (a b : Array Keyed) (st : SortSt) (o : Nat) : Option (Array Keyed) → Nat → Nat → Array Keyed → SortSt → Prop
  | good {r out : Array Keyed} {na nb g : Nat} : Good (Le rk) (a.toList ++ b.toList) r → Lh rk a b st o (some r) na nb out (setMg st g)
  | on {out : Array Keyed} {na nb : Nat} {st' : SortSt} : Oh rk a b st o na nb out st' → Lh rk a b st o none na nb out st'
theorem Oh.of {rk : Keyed → Nat} {a b out : Array Keyed} {st : SortSt} {o na nb g : Nat} (M : Mh rk a b out na nb) (h1 : ¬ (na == 0) = true) (h2 : ¬ (nb == 1) = true) (h3 : 0 < nb) (h4 : na ≤ a.size) (h5 : nb ≤ b.size) (h6 : na + nb + o ≤ a.size + b.size) : Oh rk a b st o na nb out (setMg st g) := by
  obtain ⟨na, rfl⟩ : ∃ k, na = k + 1 := ⟨na - 1, by have : na ≠ 0 := fun q => h1 (beq_iff_eq.mpr q); omega⟩
  obtain ⟨nb, rfl⟩ : ∃ k, nb = k + 2 := ⟨nb - 2, by have : nb ≠ 1 := fun q => h2 (beq_iff_eq.mpr q); omega⟩
  exact .mk M h4 h5 h6
section
variable {prog : Program} {w : World} {A : Around} {E : Value → Shared → Prop} {s : Shared} {rk : Keyed → Nat} {D : Keyed → Prop} {st : SortSt} {a b out : Array Keyed} {na nb k : Nat}
structure HidA (rk : Keyed → Nat) (a b out : Array Keyed) (na nb : Nat) (v : Keyed) (k : Nat) : Prop where
  le : k ≤ na
  m : Mh rk a b (out ++ (a.extract k na).reverse) k nb
  gt : ∀ z ∈ rt a k, Ge rk v z
theorem hidA (O : Ord prog w A s rk D) (hkd : kindOf st = tuples' true) (W : Two rk D a b) (M : Mh rk a b out (na + 1) (nb + 1)) (ha : na + 1 ≤ a.size) {v : Keyed} (hv : b[nb]? = some v) (mv : v ∈ b.toList) {g : Nat} {Q : Option Nat → SortSt → Prop} (q : ∀ k, HidA rk a b out (na + 1) (nb + 1) v k → Q (some k) (setMg st g)) : wpS (model prog w) A E s (gallop' false v a 0 (na + 1) (na + 1 - 1)) Q (setMg st g) := by
  have m1 : ML (Ge rk) out.toList (rt a (na + 1)) (v :: rt b nb) (a.toList ++ b.toList) := rt1 hv ▸ M
  refine gal (st := setMg st g) O hkd W.da W.sa (W.db v mv) (Nat.zero_add _ ▸ ha) (Nat.lt_succ_self na) fun k k1 k2 k3 => q k ⟨k1, M.ca k1 fun z hz y hy => m1.hd Ge.tr ?_ y (rt1 hv ▸ hy), fun z hz => ?_⟩
  · obtain ⟨j, j1, j2, j3⟩ := mem_ext hz
    exact Nat.le_of_lt (k3 j z ((Nat.zero_add k).symm ▸ j1) ((Nat.zero_add (na + 1)).symm ▸ j2) j3)
  · refine k2 z ?_
    rw [Nat.zero_add, ext_take]; exact List.mem_reverse.mp hz
structure HidB (rk : Keyed → Nat) (a b out : Array Keyed) (na nb : Nat) (u : Keyed) (k : Nat) : Prop where
  le : k ≤ nb
  m : Mh rk a b (out ++ (b.extract k nb).reverse) na k
  gt : ∀ z ∈ rt b k, Ge rk u z
theorem hidB (O : Ord prog w A s rk D) (hkd : kindOf st = tuples' true) (W : Two rk D a b) (M : Mh rk a b out (na + 1) (nb + 1)) (hb : nb + 1 ≤ b.size) {u : Keyed} (hu : a[na]? = some u) (mu : u ∈ a.toList) {g : Nat} {Q : Option Nat → SortSt → Prop} (q : ∀ k, HidB rk a b out (na + 1) (nb + 1) u k → Q (some k) (setMg st g)) : wpS (model prog w) A E s (gallop' true u b 0 (nb + 1) (nb + 1 - 1)) Q (setMg st g) := by
  have m1 : ML (Ge rk) out.toList (rt b (nb + 1)) (u :: rt a na) (a.toList ++ b.toList) := rt1 hu ▸ M.swap
  refine gal (st := setMg st g) O hkd W.db W.sb (W.da u mu) (Nat.zero_add _ ▸ hb) (Nat.lt_succ_self nb) fun k k1 k2 k3 => q k ⟨k1, M.cb k1 fun z hz y hy => m1.hd Ge.tr ?_ y (rt1 hu ▸ hy), fun z hz => ?_⟩
  · obtain ⟨j, j1, j2, j3⟩ := mem_ext hz
    exact k3 j z ((Nat.zero_add k).symm ▸ j1) ((Nat.zero_add (nb + 1)).symm ▸ j2) j3
  · refine Nat.le_of_lt (k2 z ?_)
    rw [Nat.zero_add, ext_take]; exact List.mem_reverse.mp hz
theorem wps_mergeHi (O : Ord prog w A s rk D) (hkd : kindOf st = tuples' true) (W : Two rk D a b) {Q : Array Keyed → SortSt → Prop} (h : ∀ r g, Good (Le rk) (a.toList ++ b.toList) r → Q r (setMg st g)) : wpS (model prog w) A E s (mergeHi' a b) Q st := by
  have na1 : a.size - 1 + 1 = a.size := Nat.sub_add_cancel W.na
  obtain ⟨x0, hx0, -⟩ := at_lt (a := a) (Nat.sub_one_lt_of_lt W.na)
  have M0 : Mh rk a b #[x0] (a.size - 1) b.size := Mh.pa (out := #[]) ⟨by
      rw [na1]; exact rt_all.append rt_all, .nil, rt_srt W.sa, rt_srt W.sb, fun _ h => (nomatch h), fun _ h => (nomatch h)⟩ hx0 fun y hy => by
    obtain ⟨k, -, h2⟩ := mem_rt hy
    obtain ⟨h5, h6⟩ := Array.getElem?_eq_some_iff.mp h2
    exact W.tl x0 hx0 y (h6 ▸ Array.getElem_mem_toList h5)
  refine wpS_bind (wpS_lift (wpAny_rule ⟨rfl, wpS_bind (wpS_elem hx0 ?_)⟩))
  by_cases c1 : (a.size - 1 == 0) = true
  · exact wpS_pos c1 (wpS_pure (h _ _ (M0.done (.inl (eq_of_beq c1)))))
  refine wpS_neg c1 ?_
  by_cases c2 : (b.size == 1) = true
  · exact wpS_pos c2 (wpS_pure (h _ _ (M0.first W (eq_of_beq c2))))
  refine wpS_neg c2 (wpS_bind (wpS_get (wpS_bind (wpS_mono (wpS_forRange (I := fun x c st' => c.1 = none ∧ Oh rk a b st (x + 1) c.2.1 c.2.2.1 c.2.2.2.1 st') (Q := fun c st' => ∃ r g, c.1 = some r ∧ st' = setMg st g ∧ Good (Le rk) (a.toList ++ b.toList) r) ?step ?fin ?init) ?post))))
  case init => exact ⟨rfl, Oh.of (g := gallopOf st) M0 c1 c2 W.nb (Nat.sub_le _ _) (Nat.le_refl _) (Nat.le_of_eq (show a.size - 1 + b.size + (0 + 1) = a.size + b.size by omega))⟩
  case fin =>
    rintro ⟨o, na, nb, out, mg⟩ st' ⟨-, I⟩
    cases I with
    | mk M ha hb ho =>
      exact absurd (Nat.le_trans (Nat.le_add_left _ _) ho) (Nat.not_le.mpr (Nat.lt_succ_of_le (Nat.le_max_right 0 (a.size + b.size))))
  case post =>
    rintro ⟨o, na, nb, out, mg⟩ st' ⟨r, g, rfl, rfl, hg⟩
    exact wpS_pure (h r g hg)
  case step =>
    rintro x ⟨o, na, nb, out, mg⟩ st' _ hx ⟨rfl, I⟩
    refine wpS_bind (wpS_mono (wpS_forRange (I := fun x' c st' => c.1 = none ∧ Oh rk a b st (x + 1 + x') c.2.1 c.2.2.1 c.2.2.2.1 st') (Q := fun c st' => Lh rk a b st (x + 1 + 1) c.1 c.2.1 c.2.2.1 c.2.2.2.1 st') ?step ?fin ?init) ?post)
    case init => exact ⟨rfl, I⟩
    case fin =>
      rintro ⟨o, na, nb, out, ac, bc⟩ st' ⟨rfl, I⟩
      replace I : Oh rk a b st (x + 1 + max 0 (a.size + b.size)) na nb out st' := I
      cases I with
      | mk M ha hb ho => exact .on (.mk M ha hb (Nat.le_trans (Nat.add_le_add_left (Nat.add_le_add_left (by rw [Nat.max_eq_right (Nat.zero_le _)]; exact Nat.le_trans W.na (Nat.le_add_right _ _)) _) _) ho))
    case step =>
      rintro x' ⟨o, na, nb, out, ac, bc⟩ st' _ hx' ⟨rfl, I⟩
      replace I : Oh rk a b st (x + 1 + x') na nb out st' := I
      cases I with
      | @mk _ na nb g M ha hb ho =>
      obtain ⟨u, hu, mu⟩ := at_lt (a := a) (i := na) ha
      obtain ⟨v, hv, mv⟩ := at_lt (a := b) (i := nb + 1) hb
      refine wpS_bind (wpS_elem hv (wpS_bind (wpS_elem hu (wpS_bind (wpS_lt (st := setMg st g) O hkd (W.db v mv) (W.da u mu) ?_)))))
      have m1 : ML (Ge rk) out.toList (u :: rt a na) (v :: rt b (nb + 1)) (a.toList ++ b.toList) := rt1 hu ▸ rt1 hv ▸ M
      cases hlt : decide (rk v < rk u) with
      | true =>
        have M' := M.pa hu (fun z hz => m1.hd Ge.tr (Nat.le_of_lt (of_decide_eq_true hlt)) z (rt1 hv ▸ hz))
        refine wpS_pos rfl (wpS_bind (wpS_elem hu ?_))
        by_cases c3 : (na == 0) = true
        · exact wpS_pos c3 (wpS_pure (.good (M'.done (.inl (eq_of_beq c3)))))
        refine wpS_neg c3 ?_
        have J : ∀ {o}, o ≤ x + 1 + x' → Oh rk a b st (o + 1) na (nb + 2) (out.push u) (setMg st g) := fun {o} h => Oh.of M' c3 (by simp) (Nat.succ_pos _) (Nat.le_of_succ_le ha) hb (by omega)
        by_cases c4 : ac + 1 ≥ mg
        · exact wpS_pos c4 (wpS_pure (.on (J (Nat.le_add_right _ _))))
        · exact wpS_neg c4 (wpS_pure ⟨rfl, J (Nat.le_refl _)⟩)
      | false =>
        have M' := M.pb hv (fun z hz => m1.swap.hd Ge.tr (Nat.not_lt.mp (of_decide_eq_false hlt)) z (rt1 hu ▸ hz))
        refine wpS_neg Bool.false_ne_true (wpS_bind (wpS_elem hv ?_))
        by_cases c3 : (nb + 1 == 1) = true
        · exact wpS_pos c3 (wpS_pure (.good (M'.first W (eq_of_beq c3))))
        refine wpS_neg c3 ?_
        have J : ∀ {o}, o ≤ x + 1 + x' → Oh rk a b st (o + 1) (na + 1) (nb + 1) (out.push v) (setMg st g) := fun {o} h => Oh.of M' (by simp) c3 (Nat.succ_pos _) ha (Nat.le_of_succ_le hb) (by omega)
        by_cases c4 : bc + 1 ≥ mg
        · exact wpS_pos c4 (wpS_pure (.on (J (Nat.le_add_right _ _))))
        · exact wpS_neg c4 (wpS_pure ⟨rfl, J (Nat.le_refl _)⟩)
    case post =>
      rintro ⟨o, na, nb, out, ac, bc⟩ st' I
      replace I : Lh rk a b st (x + 1 + 1) o na nb out st' := I
      cases I with
      | good hg => exact wpS_pure ⟨_, _, rfl, rfl, hg⟩
      | on I =>
      refine wpS_bind (wpS_lift (wpAny_rule ⟨rfl, wpS_bind (wpS_mono (wpS_forRange (I := fun _ c st' => c.1 = none ∧ Oh rk a b st (x + 1 + 1) c.2.1 c.2.2.1 c.2.2.2.1 st') (Q := fun c st' => Lh rk a b st (x + 1 + 1) c.1 c.2.1 c.2.2.1 c.2.2.2.1 st') ?step ?fin ?init) ?post)⟩))
      case init => exact ⟨rfl, I⟩
      case fin =>
        rintro ⟨o, na, nb, out, mg, ac, bc⟩ st' ⟨rfl, I⟩
        exact .on I
      case post =>
        rintro ⟨o, na, nb, out, mg, ac, bc⟩ st' I
        replace I : Lh rk a b st (x + 1 + 1) o na nb out st' := I
        cases I with
        | good hg => exact wpS_pure ⟨_, _, rfl, rfl, hg⟩
        | on I => cases I with
          | mk M ha hb ho => exact wpS_bind (wpS_modify (wpS_pure ⟨rfl, .mk M ha hb ho⟩))
      case step =>
        rintro x2 ⟨o, na, nb, out, mg, ac, bc⟩ st' _ hx2 ⟨rfl, I⟩
        replace I : Oh rk a b st (x + 1 + 1) na nb out st' := I
        cases I with
        | @mk _ na nb g M ha hb ho =>
        obtain ⟨v, hv, mv⟩ := at_lt (a := b) (i := nb + 1) hb
        have mid : ∀ {mg' : Nat} {Q : Option Nat → SortSt → Prop}, (∀ k, HidA rk a b out (na + 1) (nb + 1 + 1) v k → Q (some k) (setMg st mg')) → wpS (model prog w) A E s (gallop' false v a 0 (na + 1) (na + 1 - 1)) Q (setMg st mg') := fun {mg' Q} q => hidA O hkd W M ha hv mv q
        by_cases c5 : mg > 1
        · refine wpS_pos c5 (wpS_bind (wpS_modify (wpS_bind (wpS_elem hv (wpS_bind (mid fun k K => ?_))))))
          have l1 := K.le
          by_cases c6 : na + 1 - k > 0
          · refine wpS_pos c6 ?_
            by_cases c7 : (k == 0) = true
            · exact wpS_pos c7 (wpS_pure (.good (K.m.done (.inl (eq_of_beq c7)))))
            obtain ⟨ka, rfl⟩ : ∃ j, k = j + 1 := ⟨k - 1, (Nat.sub_add_cancel (Nat.pos_of_ne_zero fun q => c7 (beq_iff_eq.mpr q))).symm⟩
            refine wpS_neg c7 (wpS_bind (wpS_elem hv ?_))
            have M2 := K.m.pb hv K.gt
            by_cases c9 : (nb + 1 == 1) = true
            · exact wpS_pos c9 (wpS_pure (.good (M2.first W (eq_of_beq c9))))
            obtain ⟨u, hu, mu⟩ := at_lt (a := a) (i := ka) (by omega)
            refine wpS_neg c9 (wpS_bind (wpS_elem hu (wpS_bind (hidB O hkd W M2 (Nat.le_of_succ_le hb) hu mu fun k2 K2 => ?_))))
            have l2 := K2.le
            by_cases c10 : nb + 1 - k2 > 0
            · refine wpS_pos c10 ?_
              by_cases c11 : (k2 == 1) = true
              · exact wpS_pos c11 (wpS_pure (.good (K2.m.first W (eq_of_beq c11))))
              refine wpS_neg c11 ?_
              by_cases c14 : (k2 == 0) = true
              · exact wpS_pos c14 (wpS_pure (.good (K2.m.done (.inr (eq_of_beq c14)))))
              refine wpS_neg c14 (wpS_bind (wpS_elem hu ?_))
              have M3 := K2.m.pa hu K2.gt
              by_cases c12 : (ka == 0) = true
              · exact wpS_pos c12 (wpS_pure (.good (M3.done (.inl (eq_of_beq c12)))))
              refine wpS_neg c12 ?_
              have J : Oh rk a b st (x + 1 + 1) ka k2 _ (setMg st (mg - 1)) := Oh.of M3 c12 c11 (Nat.pos_of_ne_zero fun q => c14 (beq_iff_eq.mpr q)) (by omega) (by omega) (by omega)
              by_cases c13 : (decide (na + 1 - (ka + 1) < 7) && decide (nb + 1 - k2 < 7)) = true
              · exact wpS_pos c13 (wpS_pure (.on J))
              · exact wpS_neg c13 (wpS_pure ⟨rfl, J⟩)
            · refine wpS_neg c10 (wpS_bind (wpS_elem hu ?_))
              have gt0 := K2.gt
              rw [show k2 = nb + 1 by omega] at gt0
              have M3 := M2.pa hu gt0
              by_cases c12 : (ka == 0) = true
              · exact wpS_pos c12 (wpS_pure (.good (M3.done (.inl (eq_of_beq c12)))))
              refine wpS_neg c12 ?_
              have J : Oh rk a b st (x + 1 + 1) ka (nb + 1) _ (setMg st (mg - 1)) := Oh.of M3 c12 c9 (Nat.succ_pos _) (by omega) (by omega) (by omega)
              by_cases c13 : (decide (na + 1 - (ka + 1) < 7) && decide (nb + 1 - k2 < 7)) = true
              · exact wpS_pos c13 (wpS_pure (.on J))
              · exact wpS_neg c13 (wpS_pure ⟨rfl, J⟩)
          · refine wpS_neg c6 (wpS_bind (wpS_elem hv ?_))
            have gt1 := K.gt
            obtain rfl : k = na + 1 := by omega
            have M2 := M.pb hv gt1
            by_cases c9 : (nb + 1 == 1) = true
            · exact wpS_pos c9 (wpS_pure (.good (M2.first W (eq_of_beq c9))))
            obtain ⟨u, hu, mu⟩ := at_lt (a := a) (i := na) (by omega)
            refine wpS_neg c9 (wpS_bind (wpS_elem hu (wpS_bind (hidB O hkd W M2 (Nat.le_of_succ_le hb) hu mu fun k2 K2 => ?_))))
            have l2 := K2.le
            by_cases c10 : nb + 1 - k2 > 0
            · refine wpS_pos c10 ?_
              by_cases c11 : (k2 == 1) = true
              · exact wpS_pos c11 (wpS_pure (.good (K2.m.first W (eq_of_beq c11))))
              refine wpS_neg c11 ?_
              by_cases c14 : (k2 == 0) = true
              · exact wpS_pos c14 (wpS_pure (.good (K2.m.done (.inr (eq_of_beq c14)))))
              refine wpS_neg c14 (wpS_bind (wpS_elem hu ?_))
              have M3 := K2.m.pa hu K2.gt
              by_cases c12 : (na == 0) = true
              · exact wpS_pos c12 (wpS_pure (.good (M3.done (.inl (eq_of_beq c12)))))
              refine wpS_neg c12 ?_
              have J : Oh rk a b st (x + 1 + 1) na k2 _ (setMg st (mg - 1)) := Oh.of M3 c12 c11 (Nat.pos_of_ne_zero fun q => c14 (beq_iff_eq.mpr q)) (by omega) (by omega) (by omega)
              by_cases c13 : (decide (na + 1 - (na + 1) < 7) && decide (nb + 1 - k2 < 7)) = true
              · exact wpS_pos c13 (wpS_pure (.on J))
              · exact wpS_neg c13 (wpS_pure ⟨rfl, J⟩)
            · refine wpS_neg c10 (wpS_bind (wpS_elem hu ?_))
              have gt0 := K2.gt
              rw [show k2 = nb + 1 by omega] at gt0
              have M3 := M2.pa hu gt0
              by_cases c12 : (na == 0) = true
              · exact wpS_pos c12 (wpS_pure (.good (M3.done (.inl (eq_of_beq c12)))))
              refine wpS_neg c12 ?_
              have J : Oh rk a b st (x + 1 + 1) na (nb + 1) _ (setMg st (mg - 1)) := Oh.of M3 c12 c9 (Nat.succ_pos _) (by omega) (by omega) (by omega)
              by_cases c13 : (decide (na + 1 - (na + 1) < 7) && decide (nb + 1 - k2 < 7)) = true
              · exact wpS_pos c13 (wpS_pure (.on J))
              · exact wpS_neg c13 (wpS_pure ⟨rfl, J⟩)
        · refine wpS_neg c5 (wpS_bind (wpS_modify (wpS_bind (wpS_elem hv (wpS_bind (mid fun k K => ?_))))))
          have l1 := K.le
          by_cases c6 : na + 1 - k > 0
          · refine wpS_pos c6 ?_
            by_cases c7 : (k == 0) = true
            · exact wpS_pos c7 (wpS_pure (.good (K.m.done (.inl (eq_of_beq c7)))))
            obtain ⟨ka, rfl⟩ : ∃ j, k = j + 1 := ⟨k - 1, (Nat.sub_add_cancel (Nat.pos_of_ne_zero fun q => c7 (beq_iff_eq.mpr q))).symm⟩
            refine wpS_neg c7 (wpS_bind (wpS_elem hv ?_))
            have M2 := K.m.pb hv K.gt
            by_cases c9 : (nb + 1 == 1) = true
            · exact wpS_pos c9 (wpS_pure (.good (M2.first W (eq_of_beq c9))))
            obtain ⟨u, hu, mu⟩ := at_lt (a := a) (i := ka) (by omega)
            refine wpS_neg c9 (wpS_bind (wpS_elem hu (wpS_bind (hidB O hkd W M2 (Nat.le_of_succ_le hb) hu mu fun k2 K2 => ?_))))
            have l2 := K2.le
            by_cases c10 : nb + 1 - k2 > 0
            · refine wpS_pos c10 ?_
              by_cases c11 : (k2 == 1) = true
              · exact wpS_pos c11 (wpS_pure (.good (K2.m.first W (eq_of_beq c11))))
              refine wpS_neg c11 ?_
              by_cases c14 : (k2 == 0) = true
              · exact wpS_pos c14 (wpS_pure (.good (K2.m.done (.inr (eq_of_beq c14)))))
              refine wpS_neg c14 (wpS_bind (wpS_elem hu ?_))
              have M3 := K2.m.pa hu K2.gt
              by_cases c12 : (ka == 0) = true
              · exact wpS_pos c12 (wpS_pure (.good (M3.done (.inl (eq_of_beq c12)))))
              refine wpS_neg c12 ?_
              have J : Oh rk a b st (x + 1 + 1) ka k2 _ (setMg st mg) := Oh.of M3 c12 c11 (Nat.pos_of_ne_zero fun q => c14 (beq_iff_eq.mpr q)) (by omega) (by omega) (by omega)
              by_cases c13 : (decide (na + 1 - (ka + 1) < 7) && decide (nb + 1 - k2 < 7)) = true
              · exact wpS_pos c13 (wpS_pure (.on J))
              · exact wpS_neg c13 (wpS_pure ⟨rfl, J⟩)
            · refine wpS_neg c10 (wpS_bind (wpS_elem hu ?_))
              have gt0 := K2.gt
              rw [show k2 = nb + 1 by omega] at gt0
              have M3 := M2.pa hu gt0
              by_cases c12 : (ka == 0) = true
              · exact wpS_pos c12 (wpS_pure (.good (M3.done (.inl (eq_of_beq c12)))))
              refine wpS_neg c12 ?_
              have J : Oh rk a b st (x + 1 + 1) ka (nb + 1) _ (setMg st mg) := Oh.of M3 c12 c9 (Nat.succ_pos _) (by omega) (by omega) (by omega)
              by_cases c13 : (decide (na + 1 - (ka + 1) < 7) && decide (nb + 1 - k2 < 7)) = true
              · exact wpS_pos c13 (wpS_pure (.on J))
              · exact wpS_neg c13 (wpS_pure ⟨rfl, J⟩)
          · refine wpS_neg c6 (wpS_bind (wpS_elem hv ?_))
            have gt1 := K.gt
            obtain rfl : k = na + 1 := by omega
            have M2 := M.pb hv gt1
            by_cases c9 : (nb + 1 == 1) = true
            · exact wpS_pos c9 (wpS_pure (.good (M2.first W (eq_of_beq c9))))
            obtain ⟨u, hu, mu⟩ := at_lt (a := a) (i := na) (by omega)
            refine wpS_neg c9 (wpS_bind (wpS_elem hu (wpS_bind (hidB O hkd W M2 (Nat.le_of_succ_le hb) hu mu fun k2 K2 => ?_))))
            have l2 := K2.le
            by_cases c10 : nb + 1 - k2 > 0
            · refine wpS_pos c10 ?_
              by_cases c11 : (k2 == 1) = true
              · exact wpS_pos c11 (wpS_pure (.good (K2.m.first W (eq_of_beq c11))))
              refine wpS_neg c11 ?_
              by_cases c14 : (k2 == 0) = true
              · exact wpS_pos c14 (wpS_pure (.good (K2.m.done (.inr (eq_of_beq c14)))))
              refine wpS_neg c14 (wpS_bind (wpS_elem hu ?_))
              have M3 := K2.m.pa hu K2.gt
              by_cases c12 : (na == 0) = true
              · exact wpS_pos c12 (wpS_pure (.good (M3.done (.inl (eq_of_beq c12)))))
              refine wpS_neg c12 ?_
              have J : Oh rk a b st (x + 1 + 1) na k2 _ (setMg st mg) := Oh.of M3 c12 c11 (Nat.pos_of_ne_zero fun q => c14 (beq_iff_eq.mpr q)) (by omega) (by omega) (by omega)
              by_cases c13 : (decide (na + 1 - (na + 1) < 7) && decide (nb + 1 - k2 < 7)) = true
              · exact wpS_pos c13 (wpS_pure (.on J))
              · exact wpS_neg c13 (wpS_pure ⟨rfl, J⟩)
            · refine wpS_neg c10 (wpS_bind (wpS_elem hu ?_))
              have gt0 := K2.gt
              rw [show k2 = nb + 1 by omega] at gt0
              have M3 := M2.pa hu gt0
              by_cases c12 : (na == 0) = true
              · exact wpS_pos c12 (wpS_pure (.good (M3.done (.inl (eq_of_beq c12)))))
              refine wpS_neg c12 ?_
              have J : Oh rk a b st (x + 1 + 1) na (nb + 1) _ (setMg st mg) := Oh.of M3 c12 c9 (Nat.succ_pos _) (by omega) (by omega) (by omega)
              by_cases c13 : (decide (na + 1 - (na + 1) < 7) && decide (nb + 1 - k2 < 7)) = true
              · exact wpS_pos c13 (wpS_pure (.on J))
              · exact wpS_neg c13 (wpS_pure ⟨rfl, J⟩)
end
end Mine

namespace Mine
open PySem PyProof.Rows
set_option maxRecDepth 100000
section
variable {prog : Program} {w : World} {A : Around} {E : Value → Shared → Prop} {s : Shared} {rk : Keyed → Nat} {D : Keyed → Prop} {st : SortSt}
theorem wpS_set {σ : Type} {M : Model} {s' st : σ} {Q : PUnit → σ → Prop} (h : Q ⟨⟩ s') : wpS M A E s (set s' : StateT σ Sem PUnit) Q st := by
  unfold wpS; rw [StateT.run_set]; exact wpAny_pure ⟨rfl, h⟩
section
variable {a : Array Keyed} {L X R : List Keyed}
theorem at_split (e : a.toList = L ++ (X ++ R)) {i : Nat} (hi : i < X.length) : a[L.length + i]? = some X[i] := by
  rw [← Array.getElem?_toList, e, List.getElem?_append_right (Nat.le_add_right _ _), Nat.add_sub_cancel_left, List.getElem?_append_left hi, List.getElem?_eq_getElem hi]
theorem ext_split (e : a.toList = L ++ (X ++ R)) : (a.extract L.length (L.length + X.length)).toList = X := by
  rw [Array.toList_extract, List.extract_eq_take_drop, e, List.drop_left, Nat.add_sub_cancel_left, List.take_left]
theorem galL (O : Ord prog w A s rk D) (hkd : kindOf st = tuples' true) (e : a.toList = L ++ (X ++ R)) (hd : ∀ x ∈ X, D x) (hs : X.Pairwise (Le rk)) {left : Bool} {key : Keyed} {n hint o : Nat} (hk : D key) (hn : X.length = n) (ho : L.length = o) (hh : hint < n) {Q : Option Nat → SortSt → Prop}
    (h : ∀ X1 X2, X = X1 ++ X2 → (∀ x ∈ X1, Le rk x key) → (∀ x ∈ X2, Le rk key x) → Q (some X1.length) st) : wpS (model prog w) A E s (gallop' left key a o n hint) Q st := by
  subst hn ho
  have hB : ∀ i (hi : i < X.length), Ba rk a L.length left key i = if left = true then decide (rk X[i] < rk key) else !decide (rk key < rk X[i]) := fun i hi => Ba_at (at_split e hi)
  refine wps_gallop O hkd (B := Ba rk a L.length left key) (fun i hi => ⟨X[i], at_split e hi, hd _ (List.getElem_mem hi), hB i hi⟩) hk (fun i j hij hj hb => ?_) hh fun k C => ?_
  · have hle : rk X[i] ≤ rk X[j] := by
      rcases Nat.eq_or_lt_of_le hij with q | q
      · subst q; exact Nat.le_refl _
      · exact List.pairwise_iff_getElem.mp hs i j (Nat.lt_of_le_of_lt hij hj) hj q
    rw [hB j hj] at hb
    rw [hB i (Nat.lt_of_le_of_lt hij hj)]
    cases left with
    | true => exact decide_eq_true (Nat.lt_of_le_of_lt hle (of_decide_eq_true hb))
    | false =>
      have hb : ¬ rk key < rk X[j] := of_decide_eq_false (not_t hb)
      show (!decide (rk key < rk X[i])) = true
      rw [decide_eq_false (fun q => hb (Nat.lt_of_lt_of_le q hle))]; rfl
  · have := h (X.take k) (X.drop k) (List.take_append_drop k X).symm (fun x hx => ?_) fun x hx => ?_
    · rwa [List.length_take, Nat.min_eq_left C.top] at this
    · obtain ⟨i, hi, rfl⟩ := List.getElem_of_mem hx
      rw [List.length_take, Nat.min_eq_left C.top] at hi
      have := C.yes i hi
      rw [hB i (Nat.lt_of_lt_of_le hi C.top)] at this
      rw [List.getElem_take]
      cases left with
      | true => exact Nat.le_of_lt (of_decide_eq_true this)
      | false => exact Nat.not_lt.mp (of_decide_eq_false (not_t this))
    · obtain ⟨i, hi, rfl⟩ := List.getElem_of_mem hx
      rw [List.length_drop] at hi
      have := C.no (k + i) (Nat.le_add_right _ _) (by omega)
      rw [hB (k + i) (by omega)] at this
      rw [List.getElem_drop]
      cases left with
      | true => exact Nat.not_lt.mp (of_decide_eq_false this)
      | false => exact Nat.le_of_lt (of_decide_eq_true (not_f this))
end
theorem writes (f : Array Keyed → Keyed × Nat → Array Keyed) (o : Nat) (hf : ∀ a p, f a p = a.setIfInBounds (o + p.2) p.1) : ∀ (l : List Keyed) (j : Nat) (a : Array Keyed) (L X R : List Keyed), a.toList = L ++ (X ++ R) → L.length = o + j → X.length = l.length → ((l.zipIdx j).foldl f a).toList = L ++ (l ++ R)
  | [], j, a, L, X, R, e, _, hx => by
    cases X with
    | nil => exact e
    | cons => cases hx
  | p :: l, j, a, L, X, R, e, hL, hx => by
    cases X with
    | nil => cases hx
    | cons x X =>
      rw [List.zipIdx_cons, List.foldl_cons, hf]
      have e2 : (a.setIfInBounds (o + j) p).toList = (L ++ [p]) ++ (X ++ R) := by
        rw [Array.toList_setIfInBounds, e, ← hL, List.set_append_right _ _ (Nat.le_refl _), Nat.sub_self, List.append_assoc]; rfl
      rw [writes f o hf l (j + 1) _ (L ++ [p]) X R e2 (by rw [List.length_append, hL]; rfl) (Nat.succ.inj hx), List.append_assoc]; rfl
theorem last_le {X : List Keyed} {x : Keyed} (hs : X.Pairwise (Le rk)) (hx : X.getLast? = some x) : ∀ y ∈ X, Le rk y x := fun y hy => by
  obtain ⟨Z, rfl⟩ := List.getLast?_eq_some_iff.mp hx
  rcases List.mem_append.mp hy with q | q
  · exact (List.pairwise_append.mp hs).2.2 y q x (List.mem_singleton.mpr rfl)
  · rw [List.mem_singleton.mp q]; exact Nat.le_refl _
structure Mrg (rk : Keyed → Nat) (L X Y R : List Keyed) (p : Array (Nat × Nat × Nat)) (st : SortSt) : Prop where
  kind : kindOf st = tuples' true
  fail : failedOf st = none
  pend : pendingOf st = p
  arr : ∃ Z, (arrOf st).toList = L ++ (Z ++ R) ∧ Z.Perm (X ++ Y) ∧ Z.Pairwise (Le rk)
theorem wps_mergeAt (O : Ord prog w A s rk D) (hkd : kindOf st = tuples' true) (hfl : failedOf st = none) {i pw pw2 : Nat} {L X Y R : List Keyed} (hl : (arrOf st).toList = L ++ (X ++ (Y ++ R))) (hX : X.Pairwise (Le rk)) (hY : Y.Pairwise (Le rk)) (dX : ∀ x ∈ X, D x) (dY : ∀ x ∈ Y, D x) (nX : 0 < X.length) (nY : 0 < Y.length)
    (h1 : (pendingOf st)[i]? = some (L.length, X.length, pw)) (h2 : (pendingOf st)[i + 1]? = some (L.length + X.length, Y.length, pw2)) {Q : Bool → SortSt → Prop}
    (h : ∀ st', Mrg rk L X Y R (((pendingOf st).setIfInBounds i (L.length, X.length + Y.length, pw)).eraseIdxIfInBounds (i + 1)) st' → Q true st') : wpS (model prog w) A E s (mergeAt' i) Q st := by
  have hl2 : (arrOf st).toList = (L ++ X) ++ (Y ++ R) := by rw [hl, List.append_assoc]
  have eY := at_split hl2 nY
  rw [List.length_append, Nat.add_zero] at eY
  obtain ⟨lx, hlx⟩ : ∃ x, X.getLast? = some x := by
    cases X with
    | nil => cases nX
    | cons x X => exact ⟨_, List.getLast?_eq_some_getLast (List.cons_ne_nil x X)⟩
  refine wpS_bind (wpS_get ?_)
  rw [h1, h2]
  refine wpS_bind (wpS_set (wpS_bind (wpS_elem eY (wpS_bind (galL (st := SortSt.mk' (kindOf st) (arrOf st) (((pendingOf st).setIfInBounds i (L.length, X.length + Y.length, pw)).eraseIdxIfInBounds (i + 1)) (gallopOf st) (failedOf st)) O hkd hl dX hX (dY _ (List.getElem_mem nY)) rfl rfl nX fun X1 X2 e1 k1 k2 => ?_)))))
  have y0 : ∀ y ∈ Y, Le rk Y[0] y := fun y hy => by
    cases Y with
    | nil => cases hy
    | cons z Y =>
      rcases List.mem_cons.mp hy with q | q
      · rw [q]; exact Nat.le_refl _
      · exact (List.pairwise_cons.mp hY).1 y q
  have le1 : ∀ x ∈ X1, ∀ y ∈ Y, Le rk x y := fun x hx y hy => Nat.le_trans (k1 x hx) (y0 y hy)
  have base : ∀ {g : Nat}, (∀ x ∈ X, ∀ y ∈ Y, Le rk x y) → Mrg rk L X Y R (((pendingOf st).setIfInBounds i (L.length, X.length + Y.length, pw)).eraseIdxIfInBounds (i + 1)) (SortSt.mk' (kindOf st) (arrOf st) (((pendingOf st).setIfInBounds i (L.length, X.length + Y.length, pw)).eraseIdxIfInBounds (i + 1)) g (failedOf st)) := fun hxy => ⟨hkd, hfl, rfl, X ++ Y, by rw [List.append_assoc]; exact hl, .refl _, List.pairwise_append.mpr ⟨hX, hY, hxy⟩⟩
  by_cases c1 : (X.length - X1.length == 0) = true
  · have hc := eq_of_beq c1
    have : X2 = [] := List.eq_nil_of_length_eq_zero (by rw [e1, List.length_append] at hc; omega)
    rw [this, List.append_nil] at e1
    exact wpS_pos c1 (wpS_pure (h _ (base (e1 ▸ le1))))
  have l1 : X.length = X1.length + X2.length := by rw [e1, List.length_append]
  have n2 : 0 < X2.length := Nat.pos_of_ne_zero fun q => c1 (beq_iff_eq.mpr (by omega))
  have dl : D lx := dX lx (List.mem_of_getLast? hlx)
  have ex : (arrOf st)[L.length + X1.length + (X.length - X1.length) - 1]? = some lx := by
    rw [show L.length + X1.length + (X.length - X1.length) - 1 = L.length + (X.length - 1) by omega, at_split hl (Nat.sub_one_lt_of_lt nX), ← hlx, List.getLast?_eq_getElem?]
    exact (List.getElem?_eq_getElem _).symm
  refine wpS_neg c1 (wpS_bind (wpS_elem ex (wpS_bind (galL (st := SortSt.mk' (kindOf st) (arrOf st) (((pendingOf st).setIfInBounds i (L.length, X.length + Y.length, pw)).eraseIdxIfInBounds (i + 1)) (gallopOf st) (failedOf st)) O hkd hl2 dY hY dl rfl List.length_append (Nat.sub_one_lt_of_lt nY) fun Y1 Y2 e2 m1 m2 => ?_))))
  have tX := last_le hX hlx
  by_cases c2 : (Y1.length == 0) = true
  · have : Y1 = [] := List.eq_nil_of_length_eq_zero (eq_of_beq c2)
    rw [this, List.nil_append] at e2
    exact wpS_pos c2 (wpS_pure (h _ (base fun x hx y hy => Nat.le_trans (tX x hx) (m2 y (e2 ▸ hy)))))
  have n1 : 0 < Y1.length := Nat.pos_of_ne_zero fun q => c2 (beq_iff_eq.mpr q)
  have ea : ((arrOf st).extract (L.length + X1.length) (L.length + X.length)).toList = X2 := by
    have := ext_split (a := arrOf st) (L := L ++ X1) (X := X2) (R := Y ++ R) (by rw [hl, e1, List.append_assoc, List.append_assoc])
    rwa [List.length_append, Nat.add_assoc, ← l1] at this
  have eb : ((arrOf st).extract (L.length + X.length) (L.length + X.length + Y1.length)).toList = Y1 := by
    have := ext_split (a := arrOf st) (L := L ++ X) (X := Y1) (R := Y2 ++ R) (by rw [hl2, e2, List.append_assoc Y1])
    rwa [List.length_append] at this
  have W : Two rk D ((arrOf st).extract (L.length + X1.length) (L.length + X.length)) ((arrOf st).extract (L.length + X.length) (L.length + X.length + Y1.length)) := by
    refine ⟨fun x hx => dX x (e1 ▸ List.mem_append_right _ (by rw [ea] at hx; exact hx)), fun y hy => dY y (e2 ▸ List.mem_append_left _ (by rw [eb] at hy; exact hy)), by rw [ea]; exact (List.pairwise_append.mp (e1 ▸ hX)).2.1, by rw [eb]; exact (List.pairwise_append.mp (e2 ▸ hY)).1, ?_, ?_, fun y hy x hx => ?_, fun x hx y hy => ?_⟩
    · rw [← Array.length_toList, ea]; exact n2
    · rw [← Array.length_toList, eb]; exact n1
    · have : Y[0] = y := by
        rw [← Array.getElem?_toList, eb] at hy
        have q : Y[0]? = some y := by rw [e2, List.getElem?_append_left n1]; exact hy
        rw [List.getElem?_eq_getElem nY] at q; injection q
      rw [ea] at hx
      exact this ▸ k2 x hx
    · have : lx = x := by
        rw [← Array.getElem?_toList, ea, ← Array.length_toList, ea, ← List.getLast?_eq_getElem?] at hx
        rw [e1, List.getLast?_append, hx] at hlx; injection hlx with q; exact q.symm
      rw [eb] at hy
      exact this ▸ m1 y hy
  have hn : (failedOf st).isNone = true := by rw [hfl]; rfl
  have fin : ∀ {f : Array Keyed → Keyed × Nat → Array Keyed} {g : Nat} {r : Array Keyed}, (∀ a p, f a p = a.setIfInBounds (L.length + X1.length + p.2) p.1) → Good (Le rk) (((arrOf st).extract (L.length + X1.length) (L.length + X.length)).toList ++ ((arrOf st).extract (L.length + X.length) (L.length + X.length + Y1.length)).toList) r → Q (failedOf st).isNone (SortSt.mk' (kindOf st) (r.toList.zipIdx.foldl f (arrOf st)) (((pendingOf st).setIfInBounds i (L.length, X.length + Y.length, pw)).eraseIdxIfInBounds (i + 1)) g (failedOf st)) := fun {f g r} hf G => by
    rw [hn]
    rw [ea, eb] at G
    have ew := writes f (L.length + X1.length) hf r.toList 0 (arrOf st) (L ++ X1) (X2 ++ Y1) (Y2 ++ R) (by rw [hl, e1, e2]; simp only [List.append_assoc]) List.length_append G.1.length_eq.symm
    have pz : (X1 ++ (r.toList ++ Y2)).Perm (X ++ Y) := by
      rw [e1, e2, List.append_assoc]
      refine ((G.1.append_right Y2).append_left X1).trans ?_
      rw [List.append_assoc]
    have hm : ∀ z ∈ r.toList, z ∈ X2 ∨ z ∈ Y1 := fun z hz => List.mem_append.mp (G.1.mem_iff.mp hz)
    obtain ⟨s1, -, s3⟩ := List.pairwise_append.mp (e1 ▸ hX)
    obtain ⟨-, t2, t3⟩ := List.pairwise_append.mp (e2 ▸ hY)
    refine h _ ⟨hkd, hfl, rfl, X1 ++ (r.toList ++ Y2), ew.trans (by simp only [List.append_assoc]), pz, List.pairwise_append.mpr ⟨s1, List.pairwise_append.mpr ⟨G.2, t2, fun z hz y hy => ?_⟩, fun x hx z hz => ?_⟩⟩
    · rcases hm z hz with q | q
      · exact Nat.le_trans (tX z (e1 ▸ List.mem_append_right _ q)) (m2 y hy)
      · exact t3 z q y hy
    · rcases List.mem_append.mp hz with q | q
      · rcases hm z q with q | q
        · exact s3 x hx z q
        · exact le1 x hx z (e2 ▸ List.mem_append_left _ q)
      · exact le1 x hx z (e2 ▸ List.mem_append_right _ q)
  refine wpS_neg c2 ?_
  by_cases c3 : X.length - X1.length ≤ Y1.length
  · exact wpS_pos c3 (wpS_bind (wps_mergeLo (st := SortSt.mk' (kindOf st) (arrOf st) (((pendingOf st).setIfInBounds i (L.length, X.length + Y.length, pw)).eraseIdxIfInBounds (i + 1)) (gallopOf st) (failedOf st)) O hkd W fun r g G => wpS_bind (wpS_modify (wpS_bind (wpS_get (wpS_pure (fin (fun _ _ => rfl) G)))))))
  · exact wpS_neg c3 (wpS_bind (wps_mergeHi (st := SortSt.mk' (kindOf st) (arrOf st) (((pendingOf st).setIfInBounds i (L.length, X.length + Y.length, pw)).eraseIdxIfInBounds (i + 1)) (gallopOf st) (failedOf st)) O hkd W fun r g G => wpS_bind (wpS_modify (wpS_bind (wpS_get (wpS_pure (fin (fun _ _ => rfl) G)))))))
end
end Mine

namespace Mine
open PySem PyProof.Rows
set_option maxRecDepth 100000
noncomputable def kr (rk : Keyed → Nat) (a : Array Keyed) (i : Nat) : Nat := match a[i]? with
  | some p => rk p
  | none => 0
noncomputable def Asc (rk : Keyed → Nat) (a : Array Keyed) (lo hi : Nat) : Prop := ∀ i j, lo ≤ i → i ≤ j → j < hi → kr rk a i ≤ kr rk a j
structure Run (st0 : SortSt) (lo : Nat) (st : SortSt) : Prop where
  kind : kindOf st = tuples' true
  fail : failedOf st = none
  pend : pendingOf st = pendingOf st0
  perm : (arrOf st).Perm (arrOf st0)
  low : ∀ k < lo, (arrOf st)[k]? = (arrOf st0)[k]?
section
variable {prog : Program} {w : World} {A : Around} {E : Value → Shared → Prop} {s : Shared} {rk : Keyed → Nat} {D : Keyed → Prop} {st0 st : SortSt} {a b : Array Keyed} {lo i j n ok nrem : Nat}
theorem kr_congr (h : a[i]? = b[j]?) : kr rk a i = kr rk b j := by unfold kr; rw [h]
theorem Run.size (R : Run st0 lo st) : (arrOf st).size = (arrOf st0).size := R.perm.size_eq
theorem Run.set (R : Run st0 lo st) {xs : Array Keyed} (hp : xs.Perm (arrOf st)) (hl : ∀ k < lo, xs[k]? = (arrOf st)[k]?) : Run st0 lo (setArr st xs) :=
  ⟨R.kind, R.fail, R.pend, hp.trans R.perm, fun k hk => (hl k hk).trans (R.low k hk)⟩
theorem wpS_ltI (O : Ord prog w A s rk D) (hd : ∀ x ∈ (arrOf st0).toList, D x) (R : Run st0 lo st) (hi : i < (arrOf st0).size) (hj : j < (arrOf st0).size) {Q : Option Bool → SortSt → Prop} (h : Q (some (decide (kr rk (arrOf st) i < kr rk (arrOf st) j))) st) : wpS (model prog w) A E s (ltAt' i j) Q st := by
  have hm : ∀ x ∈ (arrOf st).toList, D x := fun x hx => hd x ((Array.perm_iff_toList_perm.mp R.perm).mem_iff.mp hx)
  obtain ⟨x, hx, mx⟩ := at_lt (R.size.symm ▸ hi)
  obtain ⟨y, hy, my⟩ := at_lt (R.size.symm ▸ hj)
  rw [show kr rk (arrOf st) i = rk x by unfold kr; rw [hx], show kr rk (arrOf st) j = rk y by unfold kr; rw [hy]] at h
  rw [ltAt'_eq]
  exact wpS_bind (wpS_get (wpS_bind (wpS_elem hx (wpS_bind (wpS_elem hy (wpS_lt O R.kind (hm x mx) (hm y my) h))))))
theorem kr_bubble {src d : Nat} (hs : src < a.size) (hd : d ≤ src) (k : Nat) : kr rk (bubble a src d) k = if k = src - d then kr rk a src else if src - d < k ∧ k ≤ src then kr rk a (k - 1) else kr rk a k := by
  have e := getElem?_bubble hs d hd k
  by_cases h1 : k = src - d
  · rw [if_pos h1] at e ⊢; exact kr_congr e
  · rw [if_neg h1] at e ⊢
    by_cases h2 : src - d < k ∧ k ≤ src
    · rw [if_pos h2] at e ⊢; exact kr_congr e
    · rw [if_neg h2] at e ⊢; exact kr_congr e
theorem bubble_asc {k l : Nat} (ha : Asc rk a lo (lo + k)) (hk : lo + k < a.size) (hl : l ≤ k) (h1 : ∀ i, i < l → kr rk a (lo + i) ≤ kr rk a (lo + k)) (h2 : ∀ i, l ≤ i → i < k → kr rk a (lo + k) ≤ kr rk a (lo + i)) : Asc rk (bubble a (lo + k) (lo + k - (lo + l))) lo (lo + (k + 1)) := fun i j g1 g2 g3 => by
  obtain ⟨i, rfl⟩ : ∃ x, i = lo + x := ⟨i - lo, by omega⟩
  obtain ⟨j, rfl⟩ : ∃ x, j = lo + x := ⟨j - lo, by omega⟩
  rw [kr_bubble hk (by omega), kr_bubble hk (by omega), show lo + k - (lo + k - (lo + l)) = lo + l by omega]
  by_cases a1 : i = l
  · subst a1
    rw [if_pos rfl]
    by_cases b1 : j = i
    · subst b1; rw [if_pos rfl]; exact Nat.le_refl _
    · rw [if_neg (by omega), if_pos (by omega), show lo + j - 1 = lo + (j - 1) by omega]
      exact h2 _ (by omega) (by omega)
  · rw [if_neg (by omega)]
    by_cases a2 : l < i
    · rw [if_pos (by omega), if_neg (by omega), if_pos (by omega)]
      exact ha _ _ (by omega) (by omega) (by omega)
    · rw [if_neg (by omega)]
      by_cases b1 : j = l
      · subst b1; rw [if_pos rfl]; exact h1 _ (by omega)
      · rw [if_neg (by omega)]
        by_cases b2 : l < j
        · rw [if_pos (by omega)]; exact ha _ _ (by omega) (by omega) (by omega)
        · rw [if_neg (by omega)]; exact ha _ _ (by omega) (by omega) (by omega)
structure Sch (rk : Keyed → Nat) (a : Array Keyed) (lo k l r : Nat) : Prop where
  le : l ≤ r
  top : r ≤ k
  yes : ∀ i, i < l → kr rk a (lo + i) ≤ kr rk a (lo + k)
  no : ∀ i, r ≤ i → i < k → kr rk a (lo + k) ≤ kr rk a (lo + i)
theorem wps_bin (O : Ord prog w A s rk D) (hd : ∀ x ∈ (arrOf st0).toList, D x) (R : Run st0 lo st) (hn : lo + n ≤ (arrOf st0).size) (hok : ok ≤ n) (hs : Asc rk (arrOf st) lo (lo + ok)) {Q : Bool → SortSt → Prop} (h : ∀ st', Run st0 lo st' → Asc rk (arrOf st') lo (lo + n) → Q true st') : wpS (model prog w) A E s (binarySort' lo n ok) Q st := by
  rw [binarySort'_eq]
  refine wpS_bind (wpS_mono (wpS_forRange (I := fun k c st' => c = (none, ()) ∧ Run st0 lo st' ∧ Asc rk (arrOf st') lo (lo + min k n)) (Q := fun c st' => c = (none, ()) ∧ Run st0 lo st' ∧ Asc rk (arrOf st') lo (lo + n)) ?step ?fin ?init) ?post)
  case post =>
    rintro c st' ⟨rfl, R, hs⟩
    exact wpS_pure (h st' R hs)
  case init =>
    refine ⟨rfl, R, fun i j h1 h2 h3 => ?_⟩
    by_cases q : i = j
    · subst q; exact Nat.le_refl _
    · exact hs i j h1 h2 (by omega)
  case fin =>
    rintro c st' ⟨hc, R, hs⟩
    refine ⟨hc, R, ?_⟩
    rwa [show min (max (max ok 1) n) n = n by omega] at hs
  case step =>
    rintro k c st' hak hkn ⟨rfl, R, hs⟩
    rw [Nat.min_eq_left (Nat.le_of_lt hkn)] at hs
    have hk : lo + k < (arrOf st0).size := by omega
    refine wpS_bind (wpS_mono (wpS_forRange (I := fun x c st2 => st2 = st' ∧ ∃ l r, c = (none, l, r) ∧ Sch rk (arrOf st') lo k l r ∧ r - l ≤ k - x) (Q := fun c st2 => st2 = st' ∧ ∃ l r, c = (none, l, r) ∧ Sch rk (arrOf st') lo k l l) ?istep ?ifin ?iinit) ?ipost)
    case iinit => exact ⟨rfl, 0, k, rfl, ⟨Nat.zero_le _, Nat.le_refl _, fun i hi => (Nat.not_lt_zero i hi).elim, fun i h1 h2 => absurd h2 (Nat.not_lt.mpr h1)⟩, Nat.le_refl _⟩
    case ifin =>
      rintro c _ ⟨rfl, l, r, rfl, S, hm⟩
      have : l = r := by have := S.le; omega
      subst this; exact ⟨rfl, l, l, rfl, S⟩
    case istep =>
      rintro x c st2 _ hx ⟨rfl, l, r, rfl, S, hm⟩
      by_cases c1 : l ≥ r
      · have : l = r := Nat.le_antisymm S.le c1
        subst this; exact wpS_pos c1 (wpS_pure ⟨rfl, l, l, rfl, S⟩)
      have ht := S.top
      refine wpS_neg c1 (wpS_bind (wpS_ltI O hd R hk (j := lo + (l + r) / 2) (by omega) ?_))
      cases hb : decide (kr rk (arrOf st2) (lo + k) < kr rk (arrOf st2) (lo + (l + r) / 2)) with
      | true =>
        have := Nat.le_of_lt (of_decide_eq_true hb)
        exact wpS_pos rfl (wpS_pure ⟨rfl, l, (l + r) / 2, rfl, ⟨by omega, by omega, S.yes, fun i h1 h2 => Nat.le_trans this (hs _ _ (by omega) (by omega) (by omega))⟩, by omega⟩)
      | false =>
        have := Nat.not_lt.mp (of_decide_eq_false hb)
        exact wpS_neg Bool.false_ne_true (wpS_pure ⟨rfl, (l + r) / 2 + 1, r, rfl, ⟨by omega, ht, fun i h1 => Nat.le_trans (hs _ _ (by omega) (by omega) (by omega)) this, S.no⟩, by omega⟩)
    case ipost =>
      rintro c st2 ⟨rfl, l, r, rfl, S⟩
      have hz : lo + k < (arrOf st2).size := R.size.symm ▸ hk
      refine wpS_bind (wpS_modify (wpS_pure ⟨rfl, R.set (xs := bubble (arrOf st2) (lo + k) (lo + k - (lo + l))) (bubble_perm _ _ _) fun j hj => ?_, ?_⟩))
      · rw [getElem?_bubble hz _ (Nat.sub_le _ _), if_neg (by have := S.top; omega), if_neg (by have := S.top; omega)]
      · rw [Nat.min_eq_left hkn]
        exact bubble_asc hs hz S.top S.yes S.no
noncomputable def Dist (rk : Keyed → Nat) (a : Array Keyed) : Prop := (a.toList.map rk).Nodup
theorem Dist.ne (h : Dist rk a) (hij : i < j) (hj : j < a.size) : kr rk a i ≠ kr rk a j := fun q => by
  obtain ⟨x, hx, -⟩ := at_lt (Nat.lt_trans hij hj)
  obtain ⟨y, hy, -⟩ := at_lt hj
  rw [show kr rk a i = rk x by unfold kr; rw [hx], show kr rk a j = rk y by unfold kr; rw [hy]] at q
  rw [← Array.getElem?_toList] at hx hy
  have := List.pairwise_iff_getElem.mp h i j (by rw [List.length_map, Array.length_toList]; exact Nat.lt_trans hij hj) (by rw [List.length_map, Array.length_toList]; exact hj) hij
  rw [List.getElem_map, List.getElem_map, (List.getElem?_eq_some_iff.mp hx).2, (List.getElem?_eq_some_iff.mp hy).2] at this
  exact this q
theorem Dist.perm (h : Dist rk a) (hp : b.Perm a) : Dist rk b := ((Array.perm_iff_toList_perm.mp hp).map rk).nodup_iff.mpr h
theorem kr_mirror (hj : j ≤ a.size) (k : Nat) : kr rk (mirror a i j ((j - i) / 2)) k = if i ≤ k ∧ k < j then kr rk a (i + j - 1 - k) else kr rk a k := by
  have e := getElem?_mirror_all (i := i) hj k
  by_cases h1 : i ≤ k ∧ k < j
  · rw [if_pos h1] at e ⊢; exact kr_congr e
  · rw [if_neg h1] at e ⊢; exact kr_congr e
theorem asc_more (h : Asc rk a lo (lo + n)) (hn : 1 ≤ n) (hb : ¬ kr rk a (lo + n) < kr rk a (lo + n - 1)) : Asc rk a lo (lo + (n + 1)) := fun i j h1 h2 h3 => by
  by_cases q : j = lo + n
  · subst q
    by_cases q2 : i = lo + n
    · rw [q2]; exact Nat.le_refl _
    · exact Nat.le_trans (h i (lo + n - 1) h1 (by omega) (by omega)) (Nat.not_lt.mp hb)
  · exact h i j h1 h2 (by omega)
noncomputable abbrev RSt := Option (Option Nat) × Nat
theorem ascLp (O : Ord prog w A s rk D) (hd : ∀ x ∈ (arrOf st0).toList, D x) (R : Run st0 lo st) (hn : lo + nrem ≤ (arrOf st0).size) (h1 : 1 ≤ n) (h2 : n ≤ nrem) (hs : Asc rk (arrOf st) lo (lo + n)) {f : Nat → RSt → StateT SortSt Sem (ForInStep RSt)}
    (hf : ∀ {x n : Nat} {Q : ForInStep RSt → SortSt → Prop}, wpS (model prog w) A E s (ltAt' (lo + n) (lo + n - 1)) (fun o st => ∃ b, o = some b ∧ Q (if b = true then .done (none, n) else .yield (none, n + 1)) st) st → wpS (model prog w) A E s (f x (none, n)) Q st) {Q : RSt → SortSt → Prop}
    (h : ∀ m, n ≤ m → m ≤ nrem → Asc rk (arrOf st) lo (lo + m) → (m < nrem → kr rk (arrOf st) (lo + m) < kr rk (arrOf st) (lo + m - 1)) → Q (none, m) st) : wpS (model prog w) A E s (forIn [n:nrem] ((none, n) : RSt) f) Q st := by
  refine wpS_mono (wpS_forRange (I := fun x c st' => st' = st ∧ c = (none, x) ∧ n ≤ x ∧ Asc rk (arrOf st) lo (lo + x)) (Q := fun c st' => st' = st ∧ ∃ m, c = (none, m) ∧ n ≤ m ∧ m ≤ nrem ∧ Asc rk (arrOf st) lo (lo + m) ∧ (m < nrem → kr rk (arrOf st) (lo + m) < kr rk (arrOf st) (lo + m - 1))) ?_ ?_ ⟨rfl, rfl, Nat.le_refl _, hs⟩) ?_
  · rintro x c st2 _ hx ⟨rfl, rfl, h3, hs⟩
    refine hf (wpS_ltI O hd R (by omega) (by omega) ⟨_, rfl, ?_⟩)
    cases hb : decide (kr rk (arrOf st2) (lo + x) < kr rk (arrOf st2) (lo + x - 1)) with
    | true => exact ⟨rfl, x, rfl, h3, Nat.le_of_lt hx, hs, fun _ => of_decide_eq_true hb⟩
    | false => exact ⟨rfl, rfl, Nat.le_succ_of_le h3, asc_more hs (Nat.le_trans h1 h3) (of_decide_eq_false hb)⟩
  · rintro c st2 ⟨rfl, rfl, h3, hs⟩
    rw [Nat.max_eq_right h2] at hs h3 ⊢
    exact ⟨rfl, nrem, rfl, h3, Nat.le_refl _, hs, fun q => absurd q (Nat.lt_irrefl _)⟩
  · rintro c st2 ⟨rfl, m, rfl, g1, g2, g3, g4⟩
    exact h m g1 g2 g3 g4
theorem wps_count (O : Ord prog w A s rk D) (hd : ∀ x ∈ (arrOf st0).toList, D x) (hD : Dist rk (arrOf st0)) (R : Run st0 lo st) (hn : lo + nrem ≤ (arrOf st0).size) (h1 : 1 ≤ nrem) {Q : Option Nat → SortSt → Prop}
    (h : ∀ n st', 1 ≤ n → n ≤ nrem → Run st0 lo st' → Asc rk (arrOf st') lo (lo + n) → Q (some n) st') : wpS (model prog w) A E s (countRun' lo nrem) Q st := by
  refine wpS_bind (ascLp O hd R hn (Nat.le_refl 1) h1 (fun i j g1 g2 g3 => ?_) (fun {x n Q} q => wpS_bind (wpS_mono q fun o st' q => ?_)) fun m m1 m2 hs hlt => ?_)
  · rw [show i = j by omega]; exact Nat.le_refl _
  · obtain ⟨b, rfl, q⟩ := q
    cases b with
    | true => exact wpS_pos rfl (wpS_pure q)
    | false => exact wpS_neg Bool.false_ne_true (wpS_pure q)
  have hz := R.size
  by_cases c1 : (m == nrem) = true
  · exact wpS_pos c1 (wpS_pure (h m st m1 m2 R hs))
  have m3 : m < nrem := Nat.lt_of_le_of_ne m2 fun q => c1 (beq_iff_eq.mpr q)
  refine wpS_neg c1 ?_
  by_cases c2 : m > 1
  · refine wpS_pos c2 (wpS_bind (wpS_ltI O hd R (by omega) (by omega) ?_))
    have : kr rk (arrOf st) lo < kr rk (arrOf st) (lo + m - 1) := Nat.lt_of_le_of_ne (hs _ _ (Nat.le_refl _) (by omega) (by omega)) ((hD.perm R.perm).ne (by omega) (by omega))
    rw [decide_eq_true this]
    exact wpS_pos rfl (wpS_pure (h m st m1 m2 R hs))
  obtain rfl : m = 1 := Nat.le_antisymm (Nat.not_lt.mp c2) m1
  have d2 : ∀ i j, lo ≤ i → i ≤ j → j < lo + 2 → kr rk (arrOf st) j ≤ kr rk (arrOf st) i := fun i j g1 g2 g3 => by
    by_cases q : i = j
    · rw [q]; exact Nat.le_refl _
    · have := Nat.le_of_lt (hlt m3)
      rwa [show i = lo + 1 - 1 by omega, show j = lo + 1 by omega]
  refine wpS_neg c2 (wpS_bind (wpS_lift (wpAny_rule ⟨rfl, wpS_bind (wpS_mono (wpS_forRange (I := fun x c st' => st' = st ∧ c = (none, x, 0) ∧ 2 ≤ x ∧ ∀ i j, lo ≤ i → i ≤ j → j < lo + x → kr rk (arrOf st) j ≤ kr rk (arrOf st) i) (Q := fun c st' => st' = st ∧ ∃ n, c = (none, n, 0) ∧ 2 ≤ n ∧ n ≤ nrem ∧ ∀ i j, lo ≤ i → i ≤ j → j < lo + n → kr rk (arrOf st) j ≤ kr rk (arrOf st) i) ?step ?fin ?init) ?post)⟩)))
  case init => exact ⟨rfl, rfl, Nat.le_refl 2, d2⟩
  case fin =>
    rintro c st2 ⟨rfl, rfl, h3, hs⟩
    rw [show max (1 + 1) nrem = nrem by omega] at hs h3 ⊢
    exact ⟨rfl, nrem, rfl, h3, Nat.le_refl _, hs⟩
  case step =>
    rintro x c st2 _ hx ⟨rfl, rfl, h3, hs⟩
    refine wpS_bind (wpS_ltI O hd R (i := lo + x) (j := lo + x - 1) (by omega) (by omega) ?_)
    cases hb : decide (kr rk (arrOf st2) (lo + x) < kr rk (arrOf st2) (lo + x - 1)) with
    | true =>
      refine wpS_pos rfl (wpS_neg (Nat.lt_irrefl 0) (wpS_pure ⟨rfl, rfl, Nat.le_succ_of_le h3, fun i j g1 g2 g3 => ?_⟩))
      by_cases q : j = lo + x
      · by_cases q2 : i = lo + x
        · rw [q, q2]; exact Nat.le_refl _
        · exact q ▸ Nat.le_trans (Nat.le_of_lt (of_decide_eq_true hb)) (hs i (lo + x - 1) g1 (by omega) (by omega))
      · exact hs i j g1 g2 (by omega)
    | false =>
      refine wpS_neg Bool.false_ne_true (wpS_bind (wpS_ltI O hd R (i := lo + x - 1) (j := lo + x) (by omega) (by omega) ?_))
      have : kr rk (arrOf st2) (lo + x - 1) < kr rk (arrOf st2) (lo + x) := Nat.lt_of_le_of_ne (Nat.not_lt.mp (of_decide_eq_false hb)) ((hD.perm R.perm).ne (by omega) (by omega))
      rw [decide_eq_true this]
      exact wpS_pos rfl (wpS_pure ⟨rfl, x, rfl, h3, Nat.le_of_lt hx, hs⟩)
  case post =>
    rintro c st2 ⟨rfl, n, rfl, n1, n2, hs⟩
    have hj : lo + n ≤ (arrOf st2).size := by omega
    have R2 : Run st0 lo (setArr st2 (mirror (arrOf st2) lo (lo + n) ((lo + n - lo) / 2))) := R.set (mirror_perm _ _ _ _) fun k hk => by rw [getElem?_mirror_all hj, if_neg (by omega)]
    have hs2 : Asc rk (mirror (arrOf st2) lo (lo + n) ((lo + n - lo) / 2)) lo (lo + n) := fun i j g1 g2 g3 => by
      rw [kr_mirror hj, kr_mirror hj, if_pos ⟨g1, by omega⟩, if_pos ⟨by omega, g3⟩]
      exact hs _ _ (by omega) (by omega) (by omega)
    refine wpS_neg (Nat.lt_irrefl 0) (wpS_bind (wpS_modify (wpS_bind (ascLp O hd R2 hn (Nat.le_of_succ_le n1) n2 hs2 (fun {x n Q} q => wpS_bind (wpS_mono q fun o st' q => ?_)) fun m m1 m2 hs hlt => wpS_pure (h m _ (Nat.le_trans (Nat.le_of_succ_le n1) m1) m2 R2 hs)))))
    obtain ⟨b, rfl, q⟩ := q
    cases b with
    | true => exact wpS_pos rfl (wpS_pure q)
    | false => exact wpS_neg Bool.false_ne_true (wpS_pure q)
end
end Mine

namespace Mine
open PySem PyProof.Rows
set_option maxRecDepth 100000
noncomputable def two (p : Nat × Nat × Nat) : Nat × Nat := (p.1, p.2.1)
noncomputable def pos : Nat → List (List Keyed) → List (Nat × Nat)
  | _, [] => []
  | o, r :: rs => (o, r.length) :: pos (o + r.length) rs
theorem pos_append : ∀ (o : Nat) (P S : List (List Keyed)), pos o (P ++ S) = pos o P ++ pos (o + P.flatten.length) S
  | o, [], S => rfl
  | o, r :: P, S => by
    show (o, r.length) :: pos (o + r.length) (P ++ S) = (o, r.length) :: (pos (o + r.length) P ++ pos (o + (r ++ P.flatten).length) S)
    rw [pos_append, List.length_append, Nat.add_assoc]
theorem pos_len : ∀ (o : Nat) (P : List (List Keyed)), (pos o P).length = P.length
  | _, [] => rfl
  | o, r :: P => congrArg (· + 1) (pos_len (o + r.length) P)
structure Sr (rk : Keyed → Nat) (T : List Keyed) (rs : List (List Keyed)) (rest : List Keyed) (st : SortSt) : Prop where
  kind : kindOf st = tuples' true
  fail : failedOf st = none
  perm : (arrOf st).toList.Perm T
  arr : (arrOf st).toList = rs.flatten ++ rest
  run : ∀ r ∈ rs, 0 < r.length ∧ r.Pairwise (Le rk)
  pend : (pendingOf st).toList.map two = pos 0 rs
section
variable {prog : Program} {w : World} {A : Around} {E : Value → Shared → Prop} {s : Shared} {rk : Keyed → Nat} {D : Keyed → Prop} {st : SortSt} {T rest : List Keyed} {rs : List (List Keyed)}
theorem Sr.size (S : Sr rk T rs rest st) : (pendingOf st).size = rs.length := by
  have := congrArg List.length S.pend
  rwa [List.length_map, Array.length_toList, pos_len] at this
theorem Sr.len (S : Sr rk T rs rest st) : rs.flatten.length + rest.length = (arrOf st).size := by
  rw [← List.length_append, ← S.arr, Array.length_toList]
theorem sr_merge (O : Ord prog w A s rk D) (hd : ∀ x ∈ T, D x) (S : Sr rk T rs rest st) {i : Nat} (hi : i + 1 < rs.length) {Q : Bool → SortSt → Prop} (h : ∀ rs' st', Sr rk T rs' rest st' → rs'.length + 1 = rs.length → rs'.flatten.length = rs.flatten.length → Q true st') : wpS (model prog w) A E s (mergeAt' i) Q st := by
  obtain ⟨P, X, Y, U, rfl, rfl⟩ : ∃ P X Y U, rs = P ++ X :: Y :: U ∧ P.length = i := by
    refine ⟨rs.take i, rs[i], rs[i + 1], rs.drop (i + 2), ?_, by rw [List.length_take]; omega⟩
    rw [← List.drop_eq_getElem_cons hi, ← List.drop_eq_getElem_cons (Nat.lt_of_succ_lt hi), List.take_append_drop]
  have hp := S.pend
  rw [pos_append, Nat.zero_add] at hp
  obtain ⟨pa, pb, e1, e2, e3⟩ := List.map_eq_append_iff.mp hp
  obtain ⟨u, pc, rfl, hu, e4⟩ := List.map_eq_cons_iff.mp (show List.map two pb = (P.flatten.length, X.length) :: (P.flatten.length + X.length, Y.length) :: pos (P.flatten.length + X.length + Y.length) U from e3)
  obtain ⟨v, pd, rfl, hv, e5⟩ := List.map_eq_cons_iff.mp e4
  obtain ⟨u1, u2, u3⟩ := u
  obtain ⟨v1, v2, v3⟩ := v
  cases hu
  cases hv
  have lp : pa.length = P.length := by rw [← List.length_map (as := pa) two, e2, pos_len]
  have earr : (arrOf st).toList = P.flatten ++ (X ++ (Y ++ (U.flatten ++ rest))) := by
    rw [S.arr, List.flatten_append, List.flatten_cons, List.flatten_cons, List.append_assoc, List.append_assoc, List.append_assoc]
  have rX := S.run X (List.mem_append_right _ (.head _))
  have rY := S.run Y (List.mem_append_right _ (.tail _ (.head _)))
  have dm : ∀ x ∈ (arrOf st).toList, D x := fun x hx => hd x (S.perm.mem_iff.mp hx)
  rw [earr] at dm
  have g1 : (pendingOf st)[P.length]? = some (P.flatten.length, X.length, u3) := by
    rw [← Array.getElem?_toList, e1, ← lp, List.getElem?_append_right (Nat.le_refl _), Nat.sub_self]; rfl
  have g2 : (pendingOf st)[P.length + 1]? = some (P.flatten.length + X.length, Y.length, v3) := by
    rw [← Array.getElem?_toList, e1, ← lp, List.getElem?_append_right (Nat.le_add_right _ _), Nat.add_sub_cancel_left]; rfl
  refine wps_mergeAt O S.kind S.fail earr rX.2 rY.2 (fun x hx => dm x (by simp [hx])) (fun x hx => dm x (by simp [hx])) rX.1 rY.1 g1 g2 fun st' M => ?_
  obtain ⟨Z, hz1, hz2, hz3⟩ := M.arr
  have lz : Z.length = X.length + Y.length := by rw [hz2.length_eq, List.length_append]
  refine h (P ++ Z :: U) st' ⟨M.kind, M.fail, ?_, ?_, fun r hr => ?_, ?_⟩ ?_ ?_
  · rw [hz1]
    refine List.Perm.trans ?_ (earr ▸ S.perm)
    refine List.Perm.append_left _ ?_
    rw [← List.append_assoc X]; exact hz2.append_right _
  · rw [hz1, List.flatten_append, List.flatten_cons, List.append_assoc, List.append_assoc]
  · rcases List.mem_append.mp hr with q | q
    · exact S.run r (List.mem_append_left _ q)
    · rcases List.mem_cons.mp q with q | q
      · subst q; exact ⟨by omega, hz3⟩
      · exact S.run r (List.mem_append_right _ (.tail _ (.tail _ q)))
  · rw [M.pend, Array.toList_eraseIdxIfInBounds, Array.toList_setIfInBounds, e1, ← lp, List.set_append_right _ _ (Nat.le_refl _), Nat.sub_self, List.set_cons_zero, List.eraseIdx_append_of_length_le (Nat.le_add_right pa.length 1), Nat.add_sub_cancel_left, List.map_append, e2, pos_append, Nat.zero_add]
    show pos 0 P ++ (P.flatten.length, X.length + Y.length) :: pd.map two = pos 0 P ++ (P.flatten.length, Z.length) :: pos (P.flatten.length + Z.length) U
    rw [lz, e5, Nat.add_assoc]
  · rw [List.length_append, List.length_append]; rfl
  · rw [List.flatten_append, List.flatten_append, List.length_append, List.length_append, List.flatten_cons, List.flatten_cons, List.flatten_cons, List.length_append, List.length_append, List.length_append, lz, Nat.add_assoc X.length]
theorem Sr.found (S : Sr rk T rs rest st) {st2 : SortSt} {n : Nat} (R : Run st rs.flatten.length st2) (hn : rs.flatten.length + n ≤ (arrOf st).size) (ha : Asc rk (arrOf st2) rs.flatten.length (rs.flatten.length + n)) : ∃ Z rest2, Sr rk T rs (Z ++ rest2) st2 ∧ Z.length = n ∧ Z.Pairwise (Le rk) := by
  have hz := R.size
  have et : (arrOf st2).toList.take rs.flatten.length = rs.flatten := by
    have : (arrOf st).toList.take rs.flatten.length = rs.flatten := by rw [S.arr, List.take_left]
    rw [← this]
    refine List.ext_getElem? fun k => ?_
    rw [List.getElem?_take, List.getElem?_take]
    by_cases q : k < (List.take rs.flatten.length (arrOf st).toList).length
    · rw [this] at q ⊢
      rw [if_pos q, if_pos q, Array.getElem?_toList, Array.getElem?_toList]
      exact R.low k q
    · rw [this] at q ⊢
      rw [if_neg q, if_neg q]
  refine ⟨((arrOf st2).toList.drop rs.flatten.length).take n, (((arrOf st2).toList.drop rs.flatten.length).drop n), ⟨R.kind, R.fail, (Array.perm_iff_toList_perm.mp R.perm).trans S.perm, ?_, S.run, R.pend ▸ S.pend⟩, ?_, ?_⟩
  · rw [List.take_append_drop]
    exact (List.take_append_drop rs.flatten.length (arrOf st2).toList).symm.trans (by rw [et])
  · rw [List.length_take, List.length_drop, Array.length_toList]; omega
  · refine List.pairwise_iff_getElem.mpr fun i j hi hj hij => ?_
    rw [List.length_take, List.length_drop, Array.length_toList] at hi hj
    have g : ∀ k (hk : rs.flatten.length + k < (arrOf st2).size), kr rk (arrOf st2) (rs.flatten.length + k) = rk ((arrOf st2)[rs.flatten.length + k]) := fun k hk => by unfold kr; rw [Array.getElem?_eq_getElem hk]
    have := ha (rs.flatten.length + i) (rs.flatten.length + j) (Nat.le_add_right _ _) (by omega) (by omega)
    rw [g i (by omega), g j (by omega)] at this
    rw [List.getElem_take, List.getElem_take, List.getElem_drop, List.getElem_drop, Array.getElem_toList, Array.getElem_toList]
    exact this
theorem Sr.power (S : Sr rk T rs rest st) {i : Nat} {f : Nat × Nat × Nat → Nat × Nat × Nat} (hf : ∀ p, two (f p) = two p) : Sr rk T rs rest (setPending st ((pendingOf st).modify i f)) := by
  refine ⟨S.kind, S.fail, S.perm, S.arr, S.run, Eq.trans ?_ S.pend⟩
  show (((pendingOf st).modify i f).toList).map two = (pendingOf st).toList.map two
  refine List.ext_getElem? fun k => ?_
  rw [List.getElem?_map, List.getElem?_map, Array.toList_modify, List.getElem?_modify]
  cases (pendingOf st).toList[k]? with
  | none => rfl
  | some p =>
    show some (two (if i = k then f p else p)) = some (two p)
    by_cases q : i = k
    · rw [if_pos q, hf p]
    · rw [if_neg q]
theorem Sr.push {Z rest2 : List Keyed} (S : Sr rk T rs (Z ++ rest2) st) (hz : Z.Pairwise (Le rk)) (h0 : 0 < Z.length) {lo n : Nat} (hl : lo = rs.flatten.length) (hn : n = Z.length) : Sr rk T (rs ++ [Z]) rest2 (setPending st ((pendingOf st).push (lo, n, 0))) := by
  refine ⟨S.kind, S.fail, S.perm, ?_, fun r hr => ?_, ?_⟩
  · rw [List.flatten_append, List.flatten_singleton, List.append_assoc]; exact S.arr
  · rcases List.mem_append.mp hr with q | q
    · exact S.run r q
    · rw [List.mem_singleton.mp q]; exact ⟨h0, hz⟩
  · show ((pendingOf st).push (lo, n, 0)).toList.map two = _
    rw [Array.toList_push, List.map_append, S.pend, pos_append, Nat.zero_add, hl, hn]; rfl
theorem ite_lt {c : Prop} [Decidable c] {p n : Nat} (hp : p = n) (h : ¬ p ≤ 1) : (if c then p - 2 - 1 else p - 2) + 1 < n := by split <;> omega
theorem ite_wp {σ α : Type} {c : Prop} [Decidable c] {m m' : StateT σ Sem α} {Q : α → σ → Prop} {st : σ} (h : wpS (model prog w) A E s m Q st) (h' : wpS (model prog w) A E s m' Q st) : wpS (model prog w) A E s (if c then m else m') Q st := by split <;> assumption
noncomputable abbrev MSt := Option Unit × Unit
theorem mrgLp (O : Ord prog w A s rk D) (hd : ∀ x ∈ T, D x) (S : Sr rk T rs rest st) {n : Nat} {f : Nat → MSt → StateT SortSt Sem (ForInStep MSt)}
    (hf : ∀ {x : Nat} {st : SortSt} {Q : ForInStep MSt → SortSt → Prop}, Q (.done (none, ())) st → ((pendingOf st).size > 1 → wpS (model prog w) A E s (mergeAt' ((pendingOf st).size - 2)) (fun b st => b = true ∧ Q (.yield (none, ())) st) st) → wpS (model prog w) A E s (f x (none, ())) Q st)
    {Q : MSt → SortSt → Prop} (h : ∀ rs' st', Sr rk T rs' rest st' → rs'.flatten.length = rs.flatten.length → Q (none, ()) st') : wpS (model prog w) A E s (forIn [0:n] ((none, ()) : MSt) f) Q st := by
  refine wpS_mono (wpS_forRange (I := fun _ c st' => c = (none, ()) ∧ ∃ rs', Sr rk T rs' rest st' ∧ rs'.flatten.length = rs.flatten.length) (Q := fun c st' => c = (none, ()) ∧ ∃ rs', Sr rk T rs' rest st' ∧ rs'.flatten.length = rs.flatten.length) ?_ (fun _ _ q => q) ⟨rfl, rs, S, rfl⟩) ?_
  · rintro x c st' _ _ ⟨rfl, rs', S', e⟩
    refine hf ⟨rfl, rs', S', e⟩ fun hp => sr_merge O hd S' (by rw [S'.size] at hp ⊢; omega) fun rs2 st2 S2 _ e2 => ⟨rfl, rfl, rs2, S2, e2.trans e⟩
  · rintro c st' ⟨rfl, rs', S', e⟩
    exact h rs' st' S' e
theorem flat_len0 : ∀ {rs : List (List Keyed)}, (∀ r ∈ rs, 0 < r.length) → rs.length ≤ rs.flatten.length
  | [], _ => Nat.le_refl 0
  | r :: rs, h => by
    have := flat_len0 fun r' hr => h r' (.tail _ hr)
    have h0 := h r (.head _)
    rw [List.flatten_cons, List.length_append, List.length_cons]; omega
theorem wps_sort (O : Ord prog w A s rk D) (hkd : kindOf st = tuples' true) (hfl : failedOf st = none) (hpd : pendingOf st = #[]) (hd : ∀ x ∈ (arrOf st).toList, D x) (hD : Dist rk (arrOf st)) {Q : Unit → SortSt → Prop}
    (h : ∀ st', (arrOf st').toList.Perm (arrOf st).toList → (arrOf st').toList.Pairwise (Le rk) → failedOf st' = none → Q () st') : wpS (model prog w) A E s sortRuns' Q st := by
  have S0 : Sr rk (arrOf st).toList [] (arrOf st).toList st := ⟨hkd, hfl, .refl _, rfl, fun _ h => (nomatch h), by rw [hpd]; rfl⟩
  refine wpS_bind (wpS_get (wpS_bind (wpS_mono (wpS_forRange (I := fun x c st' => c.1 = none ∧ ∃ rs rest, Sr rk (arrOf st).toList rs rest st' ∧ c.2 = rs.flatten.length ∧ (x ≤ c.2 ∨ (arrOf st).size ≤ c.2)) (Q := fun c st' => c.1 = none ∧ ∃ rs rest, Sr rk (arrOf st).toList rs rest st' ∧ (arrOf st).size ≤ rs.flatten.length) ?step ?fin ?init) ?post)))
  case init => exact ⟨rfl, [], _, S0, rfl, .inl (Nat.le_refl 0)⟩
  case fin =>
    rintro ⟨o, lo⟩ st' ⟨rfl, rs, rest, S, e, hx⟩
    refine ⟨rfl, rs, rest, S, ?_⟩
    rw [Nat.max_eq_right (Nat.zero_le _)] at hx
    exact e ▸ hx.elim id id
  case post =>
    rintro ⟨o, lo⟩ st' ⟨rfl, rs, rest, S, hsz⟩
    have hz : (arrOf st').size = (arrOf st).size := by rw [← Array.length_toList, S.perm.length_eq, Array.length_toList]
    have hr : rest = [] := List.eq_nil_of_length_eq_zero (by have := S.len; omega)
    subst hr
    have hl := flat_len0 fun r hr => (S.run r hr).1
    have hle : rs.length ≤ (arrOf st).size := by have := S.len; simp only [List.length_nil] at this; omega
    refine wpS_bind (wpS_mono (wpS_forRange (I := fun x c st' => c = (none, ()) ∧ ∃ rs, Sr rk (arrOf st).toList rs [] st' ∧ (rs.length ≤ (arrOf st).size - x ∨ rs.length ≤ 1)) (Q := fun c st' => c = (none, ()) ∧ ∃ rs, Sr rk (arrOf st).toList rs [] st' ∧ rs.length ≤ 1) ?step2 ?fin2 ?init2) ?post2)
    case init2 => exact ⟨rfl, rs, S, .inl hle⟩
    case fin2 =>
      rintro c st2 ⟨rfl, rs, S, hx⟩
      rw [Nat.max_eq_right (Nat.zero_le _), Nat.sub_self] at hx
      exact ⟨rfl, rs, S, hx.elim (fun q => Nat.le_trans q (Nat.zero_le 1)) id⟩
    case step2 =>
      rintro x c st2 _ hx ⟨rfl, rs, S, hx2⟩
      refine wpS_bind (wpS_get ?_)
      by_cases c1 : (pendingOf st2).size ≤ 1
      · exact wpS_pos c1 (wpS_pure ⟨rfl, rs, S, S.size ▸ c1⟩)
      have hp := S.size
      refine wpS_neg c1 (wpS_bind (sr_merge O hd S ?_ fun rs2 st3 S3 e3 _ => wpS_neg (by decide) (wpS_pure ⟨rfl, rs2, S3, by omega⟩)))
      exact ite_lt S.size c1
    case post2 =>
      rintro c st2 ⟨rfl, rs, S, hx⟩
      refine wpS_pure (h st2 S.perm ?_ S.fail)
      rw [S.arr, List.append_nil]
      match rs, hx, S.run with
      | [], _, _ => exact .nil
      | [r], _, hr => rw [List.flatten_singleton]; exact (hr r (.head _)).2
  case step =>
    rintro x ⟨o, lo⟩ st' _ hx ⟨rfl, rs, rest, S, e, hx2⟩
    replace e : lo = rs.flatten.length := e
    subst e
    have hz : (arrOf st').size = (arrOf st).size := by rw [← Array.length_toList, S.perm.length_eq, Array.length_toList]
    by_cases c1 : rs.flatten.length ≥ (arrOf st).size
    · exact wpS_pos c1 (wpS_pure ⟨rfl, rs, rest, S, c1⟩)
    replace hx2 : x ≤ rs.flatten.length := hx2.resolve_right c1
    have hlt := Nat.not_le.mp c1
    have hd' : ∀ x ∈ (arrOf st').toList, D x := fun x hx => hd x (S.perm.mem_iff.mp hx)
    have hD' : Dist rk (arrOf st') := hD.perm (Array.perm_iff_toList_perm.mpr S.perm)
    have R0 : Run st' rs.flatten.length st' := ⟨S.kind, S.fail, rfl, .refl _, fun _ _ => rfl⟩
    refine wpS_neg c1 (wpS_bind (wps_count (nrem := (arrOf st).size - rs.flatten.length) O hd' hD' R0 (by omega) (by omega) fun n st2 n1 n2 R2 ha => ?_))
    by_cases c2 : n < minRun' (arrOf st).size (arrOf st).size 0
    · have hm : n ≤ (min ((arrOf st).size - rs.flatten.length) (minRun' (arrOf st).size (arrOf st).size 0)) := Nat.le_min.mpr ⟨n2, Nat.le_of_lt c2⟩
      have hm2 : (min ((arrOf st).size - rs.flatten.length) (minRun' (arrOf st).size (arrOf st).size 0)) ≤ (arrOf st).size - rs.flatten.length := Nat.min_le_left _ _
      refine wpS_pos c2 (wpS_bind (wpS_lift (wpAny_rule ⟨rfl, wpS_bind (wps_bin O hd' R2 (n := (min ((arrOf st).size - rs.flatten.length) (minRun' (arrOf st).size (arrOf st).size 0))) (by omega) hm ha fun st3 R3 ha3 => wpS_neg (by decide) ?_)⟩)))
      obtain ⟨Z, rest2, S3, lz, sz⟩ := S.found R3 (by omega) ha3
      have hl : ∀ {rs' : List (List Keyed)}, rs'.flatten.length = rs.flatten.length → rs.flatten.length + (min ((arrOf st).size - rs.flatten.length) (minRun' (arrOf st).size (arrOf st).size 0)) = (rs' ++ [Z]).flatten.length := fun e => by rw [List.flatten_append, List.flatten_singleton, List.length_append, e, lz]
      refine wpS_bind (wpS_get ?_)
      cases hb : (pendingOf st3).back? with
      | none => exact wpS_bind (wpS_modify (wpS_pure ⟨rfl, rs ++ [Z], rest2, S3.push sz (lz.symm ▸ Nat.le_trans n1 hm) rfl lz.symm, hl rfl, .inl (show x + 1 ≤ rs.flatten.length + (min ((arrOf st).size - rs.flatten.length) (minRun' (arrOf st).size (arrOf st).size 0)) by omega)⟩))
      | some p =>
        obtain ⟨p1, p2, p3⟩ := p
        refine wpS_bind (mrgLp O hd S3 (fun {x st Q} q1 q2 => wpS_bind (wpS_get ?_)) fun rs' st4 S4 e4 => wpS_bind (wpS_modify (wpS_bind (wpS_modify (wpS_pure ⟨rfl, rs' ++ [Z], rest2, (S4.power (i := (pendingOf st4).size - 1) (f := fun p => (p.1, p.2.1, power' (arrOf st).size (2 * p1 + p2) (2 * p1 + p2 + p2 + min ((arrOf st).size - rs.flatten.length) (minRun' (arrOf st).size (arrOf st).size 0)) (arrOf st).size)) fun _ => rfl).push sz (lz.symm ▸ Nat.le_trans n1 hm) e4.symm lz.symm, hl e4, .inl (show x + 1 ≤ rs.flatten.length + (min ((arrOf st).size - rs.flatten.length) (minRun' (arrOf st).size (arrOf st).size 0)) by omega)⟩)))))
        dsimp only
        by_cases c3 : (pendingOf st).size > 1
        · rw [if_pos c3]
          cases (pendingOf st)[(pendingOf st).size - 2]? with
          | none => exact wpS_pure q1
          | some p =>
            obtain ⟨p1, p2, p3⟩ := p
            refine ite_wp (wpS_pure q1) (wpS_bind (wpS_mono (q2 c3) fun b st5 q => ?_))
            obtain ⟨rfl, q⟩ := q
            exact wpS_neg (by decide) (wpS_pure q)
        · rw [if_neg c3]; exact wpS_pure q1
    · refine wpS_neg c2 ?_
      have R3 := R2
      have ha3 := ha
      obtain ⟨Z, rest2, S3, lz, sz⟩ := S.found R3 (by omega) ha3
      have hl : ∀ {rs' : List (List Keyed)}, rs'.flatten.length = rs.flatten.length → rs.flatten.length + n = (rs' ++ [Z]).flatten.length := fun e => by rw [List.flatten_append, List.flatten_singleton, List.length_append, e, lz]
      refine wpS_bind (wpS_get ?_)
      cases hb : (pendingOf st2).back? with
      | none => exact wpS_bind (wpS_modify (wpS_pure ⟨rfl, rs ++ [Z], rest2, S3.push sz (lz.symm ▸ n1) rfl lz.symm, hl rfl, .inl (show x + 1 ≤ rs.flatten.length + n by omega)⟩))
      | some p =>
        obtain ⟨p1, p2, p3⟩ := p
        refine wpS_bind (mrgLp O hd S3 (fun {x st Q} q1 q2 => wpS_bind (wpS_get ?_)) fun rs' st4 S4 e4 => wpS_bind (wpS_modify (wpS_bind (wpS_modify (wpS_pure ⟨rfl, rs' ++ [Z], rest2, (S4.power (i := (pendingOf st4).size - 1) (f := fun p => (p.1, p.2.1, power' (arrOf st).size (2 * p1 + p2) (2 * p1 + p2 + p2 + n) (arrOf st).size)) fun _ => rfl).push sz (lz.symm ▸ n1) e4.symm lz.symm, hl e4, .inl (show x + 1 ≤ rs.flatten.length + n by omega)⟩)))))
        dsimp only
        by_cases c3 : (pendingOf st).size > 1
        · rw [if_pos c3]
          cases (pendingOf st)[(pendingOf st).size - 2]? with
          | none => exact wpS_pure q1
          | some p =>
            obtain ⟨p1, p2, p3⟩ := p
            refine ite_wp (wpS_pure q1) (wpS_bind (wpS_mono (q2 c3) fun b st5 q => ?_))
            obtain ⟨rfl, q⟩ := q
            exact wpS_neg (by decide) (wpS_pure q)
        · rw [if_neg c3]; exact wpS_pure q1
end
end Mine

namespace Mine
open PySem PyProof.Rows
set_option maxRecDepth 100000
theorem ex_map {α β : Type} [DecidableEq α] (d : β) : ∀ {l : List α} {m : List β}, l.Nodup → l.length = m.length → ∃ f : α → β, m = l.map f
  | [], [], _, _ => ⟨fun _ => d, rfl⟩
  | a :: l, b :: m, hn, hl => by
    obtain ⟨h1, h2⟩ := List.nodup_cons.mp hn
    obtain ⟨f, hf⟩ := ex_map d h2 (Nat.succ.inj hl)
    refine ⟨fun x => if x = a then b else f x, ?_⟩
    rw [List.map_cons, if_pos rfl, hf]
    exact congrArg (b :: ·) (List.map_congr_left fun x hx => (if_neg fun e : x = a => h1 (e ▸ hx)).symm)
section
variable {prog : Program} {w : World} {A : Around} {E : Value → Shared → Prop} {s : Shared}
noncomputable def IsTw (h : Heap) (v : Value) (k : Int × Int) : Prop := ∃ a o n t u, v = .ref a ∧ h.get? a = some o ∧ o.cls = .type "tuple" ∧ o.data = .seq #[.int k.1 t, .int k.2 u] n
theorem oneLt_plain {a b : Int} {t u : Tok} {Q : Bool → Shared → Prop} (h : Q (decide (a < b)) s) : wpAny (model prog w) A (oneLt' false (.int a t) (.int b u)) Q E s := by
  rw [oneLt'_eq]
  exact wpAny_bind (wpAny_lt_int (wpAny_truthy_bool h))
theorem keyLt_eq (b : Bool) (x y : Value) : keyLt' (tuples' b) x y = (do
    let xs ← Builtin.List.listItems x; let ys ← Builtin.List.listItems y
    for ((p, q), i) in (xs.toList.zip ys.toList).zipIdx do
      if !(← eqBool p q) then return ← oneLt' (b && i == 0) p q
    return xs.size < ys.size) := rfl
theorem keyLt_tw {x y : Value} {k l : Int × Int} (hx : IsTw s.heap x k) (hy : IsTw s.heap y l) {Q : Bool → Shared → Prop} (h : Q (lexB k l) s) : wpAny (model prog w) A (keyLt' (tuples' true) x y) Q E s := by
  obtain ⟨a, o, n, t, u, rfl, h1, h2, h3⟩ := hx
  obtain ⟨a', o', n', t', u', rfl, g1, g2, g3⟩ := hy
  obtain ⟨k1, k2⟩ := k
  obtain ⟨l1, l2⟩ := l
  rw [keyLt_eq]
  refine wpAny_bind (listItems_at h1 h3 (wpAny_bind (listItems_at g1 g3 (wpAny_bind (wpAny_bind (wpAny_bind (wpAny_eqBool_int ?_)))))))
  by_cases e1 : k1 = l1
  · rw [beq_iff_eq.mpr e1]
    have h : Q (decide (k2 < l2)) s := by
      unfold lexB at h
      rw [decide_eq_false (fun q : k1 < l1 => Int.ne_of_lt q e1), decide_eq_true e1, Bool.false_or, Bool.true_and] at h; exact h
    refine wpAny_pure (wpAny_bind (wpAny_bind (wpAny_eqBool_int ?_)))
    by_cases e2 : k2 = l2
    · rw [beq_iff_eq.mpr e2]
      rw [decide_eq_false (fun q : k2 < l2 => Int.ne_of_lt q e2)] at h
      exact wpAny_pure (wpAny_pure (wpAny_pure h))
    · rw [beq_eq_false_iff_ne.mpr e2]
      exact wpAny_bind (oneLt_plain (wpAny_pure (wpAny_pure (wpAny_pure h))))
  · rw [beq_eq_false_iff_ne.mpr e1]
    have h : Q (decide (k1 < l1)) s := by
      unfold lexB at h
      rw [decide_eq_false e1, Bool.false_and, Bool.or_false] at h; exact h
    exact wpAny_bind (oneLt_int (wpAny_pure (wpAny_pure (wpAny_pure h))))
theorem first_tw {v : Value} {k : Int × Int} (hv : IsTw s.heap v k) : ∃ t, ∀ {E : Value → Shared → Prop} {Q : Option Value → Shared → Prop}, Q (some (.int k.1 t)) s → wpAny (model prog w) A (firstOfTuple' v) Q E s := by
  obtain ⟨a, o, n, t, u, rfl, h1, h2, h3⟩ := hv
  refine ⟨t, fun {E Q} h => ?_⟩
  have e : firstOfTuple' (.ref a) = (do
    if (← typeOf (.ref a)) != .type "tuple" then return none
    return (← Builtin.List.listItems (.ref a))[0]?) := rfl
  rw [e]
  refine wpAny_bind (wpAny_typeOf (⟨o, h1, h2⟩ : s.TypeIs (.ref a) "tuple") ?_)
  exact wpAny_bind (listItems_at h1 h3 (wpAny_pure h))
theorem firsts_tw : ∀ {l : List Value}, (∀ v ∈ l, ∃ k, IsTw s.heap v k) → ∃ fs ns, IntsAre fs ns ∧ fs.length = l.length ∧ ∀ {E : Value → Shared → Prop} {Q : List (Option Value) → Shared → Prop}, Q (fs.map some) s → wpAny (model prog w) A (l.mapM firstOfTuple') Q E s
  | [], _ => ⟨[], [], .nil, rfl, fun h => by rw [List.mapM_nil]; exact wpAny_pure h⟩
  | v :: l, h => by
    obtain ⟨k, hk⟩ := h v (.head _)
    obtain ⟨t, ht⟩ := first_tw (prog := prog) (w := w) (A := A) hk
    obtain ⟨fs, ns, h1, h2, h3⟩ := firsts_tw fun u hu => h u (.tail _ hu)
    refine ⟨.int k.1 t :: fs, k.1 :: ns, .cons _ _ h1, congrArg (· + 1) h2, fun hQ => ?_⟩
    rw [List.mapM_cons]
    exact wpAny_bind (ht (wpAny_bind (h3 (wpAny_pure hQ))))
theorem kind_tw {l : List Value} {v : Value} {vs : List Value} (hl : l = v :: vs) (h : ∀ u ∈ l, ∃ k, IsTw s.heap u k) {Q : SortKind → Shared → Prop} (hQ : Q (tuples' true) s) : wpAny (model prog w) A (keyKind' l.toArray) Q E s := by
  subst hl
  obtain ⟨fs, ns, h1, h2, h3⟩ := firsts_tw (prog := prog) (w := w) (A := A) h
  rw [keyKind'_eq, List.mapM_toArray]
  refine wpAny_bind (wpAny_map (h3 ?_))
  have a1 : ((fs.map some).toArray.all (·.isSome)) = true := by
    rw [List.all_toArray, List.all_map]; exact List.all_eq_true.mpr fun _ _ => rfl
  have a2 : (fs.map some).toArray.filterMap id = fs.toArray := by
    rw [List.filterMap_toArray, List.filterMap_map]
    exact congrArg List.toArray List.filterMap_some
  have a3 : ((fs.map fun _ => Value.type "int").toArray.all fun x => x == Value.type "int") = true := by
    rw [List.all_toArray, List.all_map]; exact List.all_eq_true.mpr fun _ _ => rfl
  have a4 : (fs.map fun _ => Value.type "int").toArray[0]? = some (Value.type "int") := by
    cases fs with
    | nil => cases h2
    | cons => rfl
  rw [if_pos a1, a2, oneTypeOnly'_eq, List.mapM_toArray, mapM_typeOf_ints h1]
  refine wpAny_bind (wpAny_rule (wpAny_bind (wpAny_bind (wpAny_map (wpAny_pure ?_)))))
  rw [a4]
  show wpAny _ _ (pure (if ((fs.map fun _ => Value.type "int").toArray.all fun x => x == Value.type "int") = true then some (Value.type "int") else none)) _ _ _
  rw [if_pos a3]
  exact wpAny_pure (wpAny_pure hQ)
theorem wpAny_as {α : Type} {t t' : Sem α} {Q : α → Shared → Prop} (e : t = t') (h : wpAny (model prog w) A t' Q E s) : wpAny (model prog w) A t Q E s := e ▸ h
theorem wpAny_pos {α : Type} {c : Prop} [Decidable c] {m m' : Sem α} {Q : α → Shared → Prop} (hc : c) (h : wpAny (model prog w) A m Q E s) : wpAny (model prog w) A (if c then m else m') Q E s := by rw [if_pos hc]; exact h
theorem wpAny_neg {α : Type} {c : Prop} [Decidable c] {m m' : Sem α} {Q : α → Shared → Prop} (hc : ¬ c) (h : wpAny (model prog w) A m' Q E s) : wpAny (model prog w) A (if c then m else m') Q E s := by rw [if_neg hc]; exact h
theorem lexB_irrefl (a : Int × Int) : lexB a a = false := by
  unfold lexB; rw [decide_eq_false (Int.lt_irrefl _), decide_eq_false (Int.lt_irrefl _), Bool.and_false]; rfl
theorem lexB_lt {a b : Int × Int} : lexB a b = true ↔ a.1 < b.1 ∨ a.1 = b.1 ∧ a.2 < b.2 := by
  unfold lexB; rw [Bool.or_eq_true, Bool.and_eq_true, decide_eq_true_iff, decide_eq_true_iff, decide_eq_true_iff]
theorem lexB_asymm {a b : Int × Int} (h : lexB a b = true) : lexB b a = false := by
  rw [lexB_lt] at h
  exact Bool.eq_false_iff.mpr fun q => by rw [lexB_lt] at q; omega
theorem lexB_total {a b : Int × Int} (h : a ≠ b) (h2 : lexB b a = false) : lexB a b = true := by
  rw [lexB_lt]
  have h2 : ¬ (b.1 < a.1 ∨ b.1 = a.1 ∧ b.2 < a.2) := fun q => by rw [lexB_lt.mpr q] at h2; cases h2
  have h : ¬ (a.1 = b.1 ∧ a.2 = b.2) := fun q => h (Prod.ext q.1 q.2)
  omega
theorem sortT_perm (l : List (Int × Int)) : (sortT l).Perm l := List.mergeSort_perm _ _
theorem sortT_sorted {l : List (Int × Int)} (hn : l.Nodup) : (sortT l).Pairwise fun a b => lexB a b = true := by
  have := List.pairwise_mergeSort (le := fun a b : Int × Int => !lexB b a) (fun a b c h1 h2 => by
    rw [Bool.not_eq_true', Bool.eq_false_iff, Ne, lexB_lt] at h1 h2 ⊢
    omega) (fun a b => by
    cases h : lexB b a with
    | false => rfl
    | true => rw [lexB_asymm h]; rfl) l
  refine (this.and ((sortT_perm l).nodup_iff.mpr hn)).imp fun {a b} h => lexB_total h.2 (by simpa using h.1)
structure Rk (ks : List (Int × Int)) (g : Nat → Int × Int) (ρ : Int × Int → Nat) : Prop where
  sort : sortT ks = (List.range ks.length).map g
  back : ∀ k ∈ ks, g (ρ k) = k
  lt : ∀ r < ks.length, ∀ r' < ks.length, decide (r < r') = lexB (g r) (g r')
  key : ∀ r < ks.length, g r ∈ ks
  nd : (ks.map ρ).Nodup
  top : ∀ a ∈ ks.map ρ, a < ks.length
theorem ranks {ks : List (Int × Int)} (hn : ks.Nodup) : ∃ g ρ, Rk ks g ρ := by
  have hp := sortT_perm ks
  have hN := hp.nodup_iff.mpr hn
  have hl : (sortT ks).length = ks.length := hp.length_eq
  obtain ⟨g, hg⟩ := ex_map (0, 0) (l := List.range ks.length) (m := sortT ks) List.nodup_range (List.length_range.trans hl.symm)
  obtain ⟨ρ, hρ⟩ := ex_map 0 (l := sortT ks) (m := List.range ks.length) hN (hl.trans List.length_range.symm)
  have e : ∀ r < ks.length, ρ (g r) = r := fun r hr => by
    rw [hg, List.map_map] at hρ
    have := congrArg (·[r]?) hρ
    simp only [List.getElem?_map, List.getElem?_range hr] at this
    injection this with this; exact this.symm
  have hk : ∀ k ∈ ks, ∃ r, r < ks.length ∧ g r = k := fun k hk => by
    obtain ⟨r, hr, q⟩ := List.mem_map.mp (hg ▸ hp.mem_iff.mpr hk)
    exact ⟨r, List.mem_range.mp hr, q⟩
  have pm : (ks.map ρ).Perm (List.range ks.length) := hρ ▸ hp.symm.map ρ
  have so := sortT_sorted hn
  rw [hg, List.pairwise_map] at so
  refine ⟨g, ρ, hg, fun k h => ?_, fun r hr r' hr' => ?_, fun r hr => hp.mem_iff.mp (hg ▸ List.mem_map_of_mem (List.mem_range.mpr hr)), pm.nodup_iff.mpr List.nodup_range, fun a ha => List.mem_range.mp (pm.mem_iff.mp ha)⟩
  · obtain ⟨r, hr, rfl⟩ := hk k h
    rw [e r hr]
  · have mono : ∀ {r r'}, r < r' → r' < ks.length → lexB (g r) (g r') = true := fun {r r'} h h' => by
      have := List.pairwise_iff_getElem.mp so r r' (by rw [List.length_range]; exact Nat.lt_trans h h') (by rw [List.length_range]; exact h') h
      simpa using this
    rcases Nat.lt_trichotomy r r' with h | h | h
    · rw [decide_eq_true h, mono h hr']
    · rw [h, decide_eq_false (Nat.lt_irrefl _), lexB_irrefl]
    · rw [decide_eq_false (Nat.lt_asymm h), lexB_asymm (mono h hr)]
theorem list_sort_tw {a : Addr} {n : Nat} {ks : List (Int × Int)} {f : Int × Int → Value} {P : Fin → Shared → Prop} (ho : s.heap.get? a = some (seqObj "list" (ks.map f).toArray n)) (hk : ∀ k ∈ ks, IsTw s.heap (f k) k) (hn : ks.Nodup) (h4 : ks.length ≤ 1000)
    (h : P (.done (.ret .none)) { s with heap := sortedHeap s.heap a (ks.map f) ((sortT ks).map f).toArray }) : wpAny (model prog w) A (Builtin.«list.sort» ⟨[.ref a], []⟩) P E s := by
  have ha := Heap.lt_size ho
  obtain ⟨e1, ho1⟩ : ∃ e1, (s.heap.update a (Obj.mapSeq fun _ => #[])).get? a = some (seqObj "list" #[] e1) := ⟨_, get?_update_seq ho (fun _ => #[])⟩
  have old : ∀ b o, b ≠ a → s.heap.get? b = some o → (((s.heap.update a (Obj.mapSeq fun _ => #[])).push (seqObj "tuple" (ks.map f).toArray 0)).push (seqObj "list" #[] 0)).get? b = some o := fun b o hb hg => by
    have hb' := Heap.lt_size hg
    rw [Heap.get?_push_ne _ _ _ (by rw [size_push', Heap.size_update]; exact Nat.ne_of_lt (Nat.lt_succ_of_lt hb')), Heap.get?_push_ne _ _ _ (by rw [Heap.size_update]; exact Nat.ne_of_lt hb'), Heap.get?_update_ne _ _ _ _ hb]
    exact hg
  have ho2 : (((s.heap.update a (Obj.mapSeq fun _ => #[])).push (seqObj "tuple" (ks.map f).toArray 0)).push (seqObj "list" #[] 0)).get? a = some (seqObj "list" #[] e1) := by
    rw [Heap.get?_push_ne _ _ _ (by rw [size_push', Heap.size_update]; exact Nat.ne_of_lt (Nat.lt_succ_of_lt ha)), Heap.get?_push_ne _ _ _ (by rw [Heap.size_update]; exact Nat.ne_of_lt ha)]
    exact ho1
  have hk2 : ∀ k ∈ ks, IsTw (((s.heap.update a (Obj.mapSeq fun _ => #[])).push (seqObj "tuple" (ks.map f).toArray 0)).push (seqObj "list" #[] 0)) (f k) k := fun k hk' => by
    obtain ⟨b, o, m, t, u, e, g1, g2, g3⟩ := hk k hk'
    refine ⟨b, o, m, t, u, e, old b o (fun q => ?_) g1, g2, g3⟩
    rw [q, ho] at g1
    cases g1
    injection g2 with g2
    exact absurd g2 (by decide)
  have fin : ∀ {out : Array Value} {X : Sem PySem.Fin}, out = ((sortT ks).map f).toArray → wpAny (model prog w) A (seqEpoch a >>= fun x => Builtin.List.listUpdate (.ref a) (fun _ => out) >>= fun _ => if (x != e1) = true then X else ret .none) P E { s with heap := ((s.heap.update a (Obj.mapSeq fun _ => #[])).push (seqObj "tuple" (ks.map f).toArray 0)).push (seqObj "list" #[] 0) } := fun {out X} e => by
    subst e
    refine wpAny_bind (seqEpoch_at ho2 rfl (wpAny_bind (listUpdate_at ho2 rfl (wpAny_neg (by simp) (wpAny_pure h)) (hsz2 := by
      rw [List.size_toArray, List.length_map, (sortT_perm ks).length_eq]; exact Nat.le_trans h4 (by rw [sizeLine_eq]; decide)))))
  rw [list_sort_plain]
  refine wpAny_bind (listItems_at ho rfl (wpAny_bind (listUpdate_at ho rfl (wpAny_bind (seqEpoch_at ho1 rfl (wpAny_bind (wpAny_newTuple (wpAny_bind (wpAny_newList (wpAny_holding ?_))))))))))
  by_cases h2 : (ks.map f).toArray.size < 2
  · refine wpAny_pos h2 (wpAny_bind (wpAny_pure (wpAny_bind (wpAny_of_eq (congrArg (StateT.run · _) (if_pos h2)) (fin ?_)))))
    show (Array.zip _ _).map (·.2) = _
    have h1 : ks.length < 2 := by simpa using h2
    rw [show sortT ks = ks from by
      cases ks with
      | nil => exact List.mergeSort_nil
      | cons a l => cases l with
        | nil => exact List.mergeSort_singleton a
        | cons => exact absurd h1 (Nat.not_lt.mpr (Nat.le_add_left 2 _))]
    apply Array.ext'
    rw [Array.toList_map, Array.toList_zip, List.map_snd_zip]
    exact Nat.le_refl _
  · obtain ⟨g, ρ, R⟩ := ranks hn
    have hl : 2 ≤ ks.length := by
      have := Nat.not_lt.mp h2
      rwa [List.size_toArray, List.length_map] at this
    have lt : ∀ k ∈ ks, ∀ l ∈ ks, decide (ρ k < ρ l) = lexB k l := fun k hk l hl => by
      have := R.lt (ρ k) (R.top _ (List.mem_map_of_mem hk)) (ρ l) (R.top _ (List.mem_map_of_mem hl))
      rwa [R.back k hk, R.back l hl] at this
    have inj : ∀ k ∈ ks, ∀ l ∈ ks, f k = f l → k = l := fun k hk' l hl' e => by
      obtain ⟨b, o, n, t, u, e1, g1, g2, g3⟩ := hk k hk'
      obtain ⟨b', o', n', t', u', e1', g1', g2', g3'⟩ := hk l hl'
      rw [e1, e1'] at e
      cases e
      rw [g1] at g1'
      cases g1'
      rw [g3] at g3'
      injection g3' with q
      have q1 := congrArg (·[0]?) q
      have q2 := congrArg (·[1]?) q
      simp at q1 q2
      exact Prod.ext q1.1 q2.1
    have ex : ∃ key : Keyed → Int × Int, ∀ k ∈ ks, key (f k, f k) = k := by
      classical
      refine ⟨fun p => if h : ∃ k ∈ ks, p = (f k, f k) then h.choose else (0, 0), fun k hk' => ?_⟩
      have h : ∃ l ∈ ks, ((f k, f k) : Keyed) = (f l, f l) := ⟨k, hk', rfl⟩
      refine (dif_pos h).trans ?_
      exact (inj k hk' _ h.choose_spec.1 (congrArg Prod.fst h.choose_spec.2)).symm
    obtain ⟨key, hkey⟩ := ex
    have hpair : ((ks.map f).toArray.zip (ks.map f).toArray).toList = ks.map fun k => ((f k, f k) : Keyed) := by
      rw [Array.toList_zip, List.zip_map']
    have hr := wps_sort (prog := prog) (w := w) (A := A) (E := E) (s := { s with heap := ((s.heap.update a (Obj.mapSeq fun _ => #[])).push (seqObj "tuple" (ks.map f).toArray 0)).push (seqObj "list" #[] 0) }) (rk := fun p => ρ (key p)) (D := fun p => ∃ k ∈ ks, p = (f k, f k)) (st := SortSt.mk' (tuples' true) ((ks.map f).toArray.zip (ks.map f).toArray) #[] 7 none)
      (fun x y ⟨k, k1, e1⟩ ⟨l, l1, e2⟩ E Q hQ => by
        subst e1 e2
        have e : decide (ρ (key (f k, f k)) < ρ (key (f l, f l))) = lexB k l := by rw [hkey k k1, hkey l l1]; exact lt k k1 l l1
        exact keyLt_tw (hk2 k k1) (hk2 l l1) (Eq.mp (congrArg (Q · _) e) hQ)) rfl rfl rfl (fun x hx => by
        rw [hpair] at hx
        obtain ⟨k, k1, rfl⟩ := List.mem_map.mp hx
        exact ⟨k, k1, rfl⟩) (by
        show (((ks.map f).toArray.zip (ks.map f).toArray).toList.map fun p => ρ (key p)).Nodup
        rw [hpair, List.map_map]
        exact (List.map_congr_left fun k k1 => by show ρ (key (f k, f k)) = ρ k; rw [hkey k k1]) ▸ R.nd) (Q := fun _ st => failedOf st = none ∧ ((arrOf st).map (·.2)) = ((sortT ks).map f).toArray) fun st' h1 h2 h3 => ⟨h3, by
          rw [hpair] at h1
          have hm : ∀ p ∈ (arrOf st').toList, key p ∈ ks ∧ p = (f (key p), f (key p)) := fun p hp => by
            obtain ⟨k, k1, rfl⟩ := List.mem_map.mp (h1.mem_iff.mp hp)
            rw [hkey k k1]; exact ⟨k1, rfl⟩
          have hp : ((arrOf st').toList.map key).Perm ks := by
            have := h1.map key
            rwa [List.map_map, show ks.map (key ∘ fun k => ((f k, f k) : Keyed)) = ks from (List.map_congr_left fun k k1 => hkey k k1).trans (List.map_id ks)] at this
          have he : (arrOf st').toList.map key = sortT ks := by
            refine (hp.trans (sortT_perm ks).symm).eq_of_pairwise (le := fun a b => lexB b a = false) (fun a b ha hb g1 g2 => ?_) ?_ ((sortT_sorted hn).imp fun h => lexB_asymm h)
            · exact Classical.byContradiction fun q => by rw [lexB_total q g1] at g2; cases g2
            · refine List.pairwise_map.mpr (h2.imp_of_mem fun {x y} hx hy h => ?_)
              rw [← lt _ (hm y hy).1 _ (hm x hx).1]
              exact decide_eq_false (Nat.not_lt.mpr h)
          apply Array.ext'
          rw [Array.toList_map, ← he, List.map_map]
          exact List.map_congr_left fun p hp => congrArg Prod.snd (hm p hp).2⟩
    have hc : ∃ v vs, ks.map f = v :: vs := by
      cases ks with
      | nil => cases hl
      | cons k l => exact ⟨_, _, rfl⟩
    obtain ⟨v, vs, hv⟩ := hc
    refine wpAny_neg h2 (wpAny_bind (kind_tw hv (fun u hu => ?_) (wpAny_bind (wpAny_as (congrArg (StateT.run · _) (if_neg h2)) (wpAny_mono hr (fun r s' h' => ?_) fun _ _ e => e)))))
    · obtain ⟨k, hk', rfl⟩ := List.mem_map.mp hu
      exact ⟨k, hk2 k hk'⟩
    · obtain ⟨⟨⟩, ⟨kd, ar, pd, mg, fl⟩⟩ := r
      obtain ⟨rfl, hf, ha⟩ := h'
      cases (show fl = none from hf)
      exact fin ha
end
end Mine

namespace Mine
open PySem PySem.Calls PySem.W PyProof.Rows
set_option maxRecDepth 100000

section
variable {G : Gd} {x : Fx} {W : Wd} {ρ : Rho} {k : Ky} {σ : Sto} {s : Shared}
theorem Post.listAny (I : Inv G W σ s) {s' : Shared} {a : Addr} {ds : List D} {vs : List Value} {n : Nat} (hk : ∀ b o, s.heap.get? b = some o → s'.heap.get? b = some o) (hg : s'.gens = s.gens) (hos : s'.os = s.os) (ha : s.heap.get? a = none) (ho : s'.heap.get? a = some { cls := .type "list", data := .seq vs.toArray n }) (r : RelL G W ds vs) (sz : ds.length ≤ cap) :
    Post G W (Rel G) (Mine.alloc (.list ds) σ) (.ref a) s' := by
  have I' : Inv G W σ s' := I.grow hk hg hos
  have hn := I.nobody ha
  exact ⟨_, _, _, rfl, Ext.put hn, I'.push hn ho (.list ho rfl rfl (r.mono (Ext.put hn).fx) (I.hnone ha) sz rfl), .ref put_self⟩
theorem Post.listAt (I : Inv G W σ s) {h' : Heap} {a : Addr} {ds : List D} {vs : List Value} {n : Nat} (tk : Nat) (hk : ∀ b o, s.heap.get? b = some o → h'.get? b = some o) (ha : s.heap.get? a = none) (ho : h'.get? a = some { cls := .type "list", data := .seq vs.toArray n }) (r : RelL G W ds vs) (sz : ds.length ≤ cap) :
    Post G W (Rel G) (Mine.alloc (.list ds) σ) (.ref a) { s with heap := h', toks := tk } := Post.listAny I hk rfl rfl ha ho r sz
theorem ints_rel : ∀ {ds : List D} {vs : List Value} {ns : List Int}, RelL G W ds vs → intsOf ds = some ns → IntsAre vs ns
  | [], _, ns, r, e => by cases r; cases e; exact .nil
  | d :: ds, _, ns, r, e => by
    cases r with
    | cons r rs =>
      obtain ⟨y, r', h1, h2, rfl⟩ := mapM_cons_some e
      obtain ⟨t, _, rfl⟩ := r.int_inv h1
      exact .cons _ t (ints_rel rs h2)
theorem intsAre_rel : ∀ {vs : List Value} {ns : List Int}, IntsAre vs ns → RelL G W (ns.map .int) vs := by
  intro vs ns h0
  induction h0 with
  | nil => exact .nil
  | cons n t r ih =>
    exact .cons (.int n t) ih
theorem intsAre_items : ∀ {vs : List Value} {ns : List Int}, IntsAre vs ns → ∃ l : List (Int × Tok), vs = l.map (fun p => Value.int p.1 p.2) ∧ ns = l.map (·.1) := by
  intro vs ns h0
  induction h0 with
  | nil => exact ⟨[], rfl, rfl⟩
  | cons n t r ih =>
    obtain ⟨l, h1, h2⟩ := ih
    exact ⟨(n, t) :: l, by rw [h1]; rfl, by rw [h2]; rfl⟩
theorem sum_sim (hh : x.A.handled = none) {d : D} {v : Value} {W : Wd} (r : Rel G W d v) : Sim G x W (Rel G) (call (.builtin "sum") [v]) (call1 .sum d) := fun W' σ s e I hr => by
  replace hr : Cm.opt ((Mine.listAt σ d).bind fun ds => (intsOf ds).map fun l => D.int l.sum) σ ≠ .stuck := hr
  show wpAny G.M x.A _ (Post G W' (Rel G) (Cm.opt ((Mine.listAt σ d).bind fun ds => (intsOf ds).map fun l => D.int l.sum) σ)) (PostX G W' x.envs (Cm.opt ((Mine.listAt σ d).bind fun ds => (intsOf ds).map fun l => D.int l.sum) σ)) s
  cases hd : (Mine.listAt σ d).bind fun ds => (intsOf ds).map fun l => D.int l.sum with
  | none => rw [hd] at hr; exact absurd rfl hr
  | some d' =>
    obtain ⟨ds, h1, hd⟩ := Option.bind_eq_some_iff.mp hd
    obtain ⟨ns, h2, rfl⟩ := Option.map_eq_some_iff.mp hd
    obtain ⟨b, vs, rfl, hb, rl, sz⟩ := isList_of I (r.mono e.fx) h1
    obtain ⟨l, rfl, rfl⟩ := intsAre_items (ints_rel rl h2)
    refine sum_intListG (xs := l.toArray) hh (by simpa [intItems] using hb) fun h' tk t' hk => ?_
    rw [preSum_eq, List.take_of_length_le (by simp)]
    exact ⟨_, σ, W', rfl, Ext.refl _, I.grow hk rfl rfl, by simpa using Rel.int _ t'⟩
theorem two_sim {f : Value} {b : Bi} {n : Nat} {g : Int → Int → Int} (h : ∀ {i j : Int} {t u : Tok} {s : Shared} {Q : Value → Shared → Prop}, (∀ h' t tk, (∀ c o, s.heap.get? c = some o → h'.get? c = some o) → Q (.int (g i j) t) { s with heap := h', toks := tk }) → wpAny G.M x.A (call f [.int i t, .int j u]) Q (fun _ _ => False) s)
    (h1 : ∀ {d : D}, call1 b d = Cm.stuck) (h2 : ∀ d e, call2 b d e = Cm.opt ((intOf d).bind fun i => (intOf e).map fun j => D.int (g i j))) {ds : List D} {vs : List Value} (r : RLn G n W ds vs) : Sim G x W (Rel G) (call f vs) (callBi b ds) := by
  obtain ⟨r, _⟩ := r
  cases r with
  | nil => exact Sim.stuck
  | @cons d v ds vs r rs =>
    cases rs with
    | nil =>
      show Sim G x W (Rel G) _ (call1 b d)
      rw [h1]; exact Sim.stuck
    | @cons d' v' ds vs r' rs =>
      cases rs with
      | nil =>
        show Sim G x W (Rel G) _ (call2 b d d')
        rw [h2]
        refine Sim.opt fun e he => ?_
        obtain ⟨i, hi, he⟩ := Option.bind_eq_some_iff.mp he
        obtain ⟨j, hj, rfl⟩ := Option.map_eq_some_iff.mp he
        obtain ⟨t, _, rfl⟩ := r.int_inv hi
        obtain ⟨u, _, rfl⟩ := r'.int_inv hj
        exact fun W' σ s _ I _ => wpAny_mono (h fun h' t tk hk => (⟨_, σ, W', rfl, Ext.refl _, I.grow (s' := { s with heap := h', toks := tk }) hk rfl rfl, .int _ t⟩ : Post G W' (Rel G) (Cm.ok (D.int (g i j)) σ) _ _)) (fun _ _ q => q) fun _ _ q => q.elim
      | cons => exact Sim.stuck
theorem min_sim (hh : x.A.handled = none) {n : Nat} {ds : List D} {vs : List Value} (r : RLn G n W ds vs) : Sim G x W (Rel G) (call (.builtin "min") vs) (callBi .min ds) :=
  two_sim (g := fun x y => if y < x then y else x) (fun {i j t u s Q} q => min_two_ints hh fun h' tk hk => by
    by_cases c : j < i
    · have := q h' u tk hk; rw [if_pos c] at this ⊢; exact this
    · have := q h' t tk hk; rw [if_neg c] at this ⊢; exact this) rfl (fun _ _ => rfl) r
theorem max_sim (hh : x.A.handled = none) {n : Nat} {ds : List D} {vs : List Value} (r : RLn G n W ds vs) : Sim G x W (Rel G) (call (.builtin "max") vs) (callBi .max ds) :=
  two_sim (g := fun x y => if x < y then y else x) (fun {i j t u s Q} q => max_two_ints hh fun h' tk hk => by
    by_cases c : i < j
    · have := q h' u tk hk; rw [if_pos c] at this ⊢; exact this
    · have := q h' t tk hk; rw [if_neg c] at this ⊢; exact this) rfl (fun _ _ => rfl) r
theorem two_inv {d : D} {k : Int × Int} (h : twoOf d = some k) : d = twoD k := by
  cases d with
  | tup ds =>
    cases ds with
    | nil => cases h
    | cons a r => cases r with
      | nil => cases h
      | cons b r => cases r with
        | cons => cases h
        | nil =>
          obtain ⟨i, h1, h⟩ := Option.bind_eq_some_iff.mp (show ((intOf a).bind fun x => (intOf b).map fun y => (x, y)) = some k from h)
          obtain ⟨j, h2, rfl⟩ := Option.map_eq_some_iff.mp h
          cases a with
          | int => cases h1; cases b with
            | int => cases h2; rfl
            | _ => cases h2
          | _ => cases h1
  | _ => cases h
theorem twos_inv : ∀ {ds : List D} {l : List (Int × Int)}, ds.mapM twoOf = some l → ds = l.map twoD
  | [], _, h => by cases h; rfl
  | d :: ds, _, h => by
    obtain ⟨k, l, h1, h2, rfl⟩ := mapM_cons_some h
    rw [two_inv h1, twos_inv h2]; rfl
theorem rel_map {f : Int × Int → Value} : ∀ {l : List (Int × Int)}, RelL G W (l.map twoD) (l.map f) → ∀ k ∈ l, Rel G W (twoD k) (f k)
  | k :: l, r, k', h => by
    cases r with
    | cons r rs => cases h with
      | head => exact r
      | tail _ h => exact rel_map rs k' h
theorem map_rel {f : Int × Int → Value} : ∀ {l : List (Int × Int)}, (∀ k ∈ l, Rel G W (twoD k) (f k)) → RelL G W (l.map twoD) (l.map f)
  | [], _ => .nil
  | k :: l, h => .cons (h k (.head _)) (map_rel fun k' h' => h k' (.tail _ h'))
theorem isTw_of (I : Inv G W σ s) {k : Int × Int} {v : Value} (r : Rel G W (twoD k) v) : IsTw s.heap v k := by
  unfold twoD at r
  cases r with
  | tup ho hc hd rl sz =>
    cases rl with
    | cons r1 rl => cases rl with
      | cons r2 rl => cases rl with
        | nil =>
          cases r1 with
          | int => cases r2 with
            | int =>
              cases I.pl _ _ ho with
              | firm k1 => exact ⟨_, _, _, _, _, rfl, k1, hc, hd⟩
theorem sorted_tw {d : D} {v : Value} {W : Wd} (r : Rel G W d v) {ds : List D} {ks : List (Int × Int)} (I : Inv G W σ s) (hl : Mine.listAt σ d = some ds) (hk : ds.mapM twoOf = some ks) (hn : ks.Nodup) (h4 : ks.length ≤ 1000) : wpAny G.M x.A (call (.builtin "sorted") [v]) (Post G W (Rel G) (Mine.alloc (.list ((sortT ks).map twoD)) σ)) (fun _ _ => False) s := by
  obtain ⟨b, vs, rfl, hb, rl, sz⟩ := isList_of I r hl
  rw [twos_inv hk] at rl
  obtain ⟨f, rfl⟩ := ex_map Value.none (l := ks) (m := vs) hn (by rw [← rl.length, List.length_map])
  have hr := rel_map rl
  refine Calls.call_function_entry kind_sorted plain_sorted entry_sorted (args_sorted1 _) ?_
  unfold Builtin.«sorted»
  refine wpAny_bind (m := checkCount "sorted" 1 1 _) (wpAny_pure (wpAny_bind (collect_list hb (wpAny_bind (wpAny_newList ?_)) (by rw [List.length_map, sizeLine_eq]; exact Nat.le_trans h4 (by decide)))))
  have hsz : ((s.heap.push (seqObj "list" #[] 0)).update s.heap.objs.size (Obj.mapSeq (· ++ (ks.map f).toArray))).objs.size = s.heap.objs.size + 1 := by rw [Heap.size_update, size_push']
  have hoL : (((s.heap.push (seqObj "list" #[] 0)).update s.heap.objs.size (Obj.mapSeq (· ++ (ks.map f).toArray))).push (seqObj "list" (ks.map f).toArray 0)).get? (s.heap.objs.size + 1) = some (seqObj "list" (ks.map f).toArray 0) := by
    rw [← hsz]; exact Heap.get?_push_size _ rfl
  have old : ∀ b o, s.heap.get? b = some o → (((s.heap.push (seqObj "list" #[] 0)).update s.heap.objs.size (Obj.mapSeq (· ++ (ks.map f).toArray))).push (seqObj "list" (ks.map f).toArray 0)).get? b = some o := fun b o q => by
    have hlt := Heap.lt_size q
    refine Heap.get?_push_of_some _ ?_
    rw [Heap.get?_update_ne _ _ _ _ (Nat.ne_of_lt hlt)]
    exact Heap.get?_push_of_some _ q
  show wpAny _ _ _ _ _ { s with heap := ((s.heap.push (seqObj "list" #[] 0)).update s.heap.objs.size (Obj.mapSeq (· ++ (ks.map f).toArray))).push (seqObj "list" (ks.map f).toArray 0) }
  rw [hsz]
  refine wpAny_bind (wpAny_holding (wpAny_call_entry slot_list_sort ⟨_, hoL, rfl⟩ entry_list_sort (list_sort_tw hoL (fun k hk => ?_) hn h4 ⟨_, rfl, wpAny_pure ⟨_, rfl, ?_⟩⟩) (args_list_sort _)))
  · obtain ⟨a, o, m, t, u, e, g1, g2⟩ := isTw_of I (hr k hk)
    exact ⟨a, o, m, t, u, e, old _ _ g1, g2⟩
  · obtain ⟨e, he⟩ := sortedAll_at s.heap (ks.map f) ((sortT ks).map f).toArray
    exact Post.listAt I s.toks (fun _ _ => sortedAll_old) (Heap.get?_none_of_le (Nat.le_succ _)) (vs := (sortT ks).map f) he (map_rel fun k hk => hr k ((sortT_perm ks).mem_iff.mp hk)) (by rw [List.length_map, (sortT_perm ks).length_eq]; exact Nat.le_trans h4 (by decide))
theorem sorted_sim {d : D} {v : Value} {W : Wd} (r : Rel G W d v) : Sim G x W (Rel G) (call (.builtin "sorted") [v]) (call1 .sorted d) := fun W' σ s e I hr => by
  replace hr : (match (Mine.listAt σ d).bind sortL with | some ds => Mine.alloc (.list ds) σ | none => .stuck) ≠ .stuck := hr
  show wpAny G.M x.A _ (Post G W' (Rel G) (match (Mine.listAt σ d).bind sortL with | some ds => Mine.alloc (.list ds) σ | none => .stuck)) (PostX G W' x.envs (match (Mine.listAt σ d).bind sortL with | some ds => Mine.alloc (.list ds) σ | none => .stuck)) s
  cases ho : (Mine.listAt σ d).bind sortL with
  | none => rw [ho] at hr; exact absurd rfl hr
  | some ds =>
    obtain ⟨es, hes, ho⟩ := Option.bind_eq_some_iff.mp ho
    obtain ⟨ks, hk, ho⟩ := Option.bind_eq_some_iff.mp ho
    obtain ⟨hc, ho⟩ := Option.ite_none_right_eq_some.mp ho
    cases ho
    exact wpAny_mono (sorted_tw (r.mono e.fx) I hes hk hc.1 hc.2) (fun _ _ q => q) fun _ _ q => q.elim
theorem list_sim {d : D} {v : Value} {W : Wd} (r : Rel G W d v) : Sim G x W (Rel G) (call (.type "list") [v]) (call1 .list d) := fun W' σ s e I hr => by
  replace hr : (match Mine.listAt σ d with | some ds => Mine.alloc (.list ds) σ | none => .stuck) ≠ .stuck := hr
  show wpAny G.M x.A _ (Post G W' (Rel G) (match Mine.listAt σ d with | some ds => Mine.alloc (.list ds) σ | none => .stuck)) (PostX G W' x.envs (match Mine.listAt σ d with | some ds => Mine.alloc (.list ds) σ | none => .stuck)) s
  cases hl : Mine.listAt σ d with
  | none => rw [hl] at hr; exact absurd rfl hr
  | some ds =>
    obtain ⟨b, vs, rfl, ⟨o, ho, hc, n, hd⟩, rl, sz⟩ := isList_of I (r.mono e.fx) hl
    refine call_list_seq b (.inl rfl) ho hc hd (fun h' c' hk ho' => ?_) (by rw [List.size_toArray, ← rl.length]; exact Nat.le_trans sz cap_le)
    exact Post.listAt I s.toks hk (Heap.get?_none_of_le (Nat.le_refl _)) ho' rl sz
theorem int_sim {d : D} {v : Value} {W : Wd} (r : Rel G W d v) : Sim G x W (Rel G) (call (.type "int") [v]) (call1 .int d) := by
  show Sim G x W (Rel G) _ (Cm.opt ((boolOf d).map fun b => .int (if b then 1 else 0)))
  refine Sim.opt fun d' hd => ?_
  obtain ⟨b, hb, rfl⟩ := Option.map_eq_some_iff.mp hd
  obtain ⟨rfl, rfl⟩ := r.bool_inv hb
  cases b <;> exact Sim.int fun s Q hQ => call_int_bool (hQ _ _)
theorem callB_at (ok : GOk G) {y : Str} {b : Bi} {fv : Value} {p pos : Pos} {es : List PySem.Expr} {cs : List CE} (hm : y ∈ biNames) (hboot : bootBuiltins y = some fv) (hkeep : Keep G fv) (hdb : (y == ("__debug__" : Str)) = false) (hg : k.C.isGlob y = true) (h : SEl G k es cs)
    (hs : ∀ {x : Fx} {n : Nat} {W : Wd} {ds : List D} {vs : List Value}, (b.plain = false → x.A.handled = none) → RLn G n W ds vs → Sim G x W (Rel G) (call fv vs) (callBi b ds)) : SE G k (.Call (.Name y p) es [] pos) (.callB b cs) := fun {x} {W} {ρ} hk E => by
  subst hk
  show Sim G x W (Rel G) _ (if x.hd && !b.plain then Cm.stuck else (evsx G x cs ρ).bnd fun ds => callBi b ds)
  refine Sim.ite (fun _ => Sim.stuck) fun hc => ?_
  have hh : b.plain = false → x.A.handled = none := fun q => (E.handled (by rw [q] at hc; simpa using hc)).1
  exact callName_sim (fun hs q => builtin_name ok E hm hboot (isGlob_kind hg) hdb hs q) hkeep h rfl E fun ds vs W₁ _ r => hs hh r
theorem callB_se (ok : GOk G) {y : Str} {b : Bi} {p pos : Pos} {es : List PySem.Expr} {cs : List CE} (hb : biOf y = some b) (hg : k.C.isGlob y = true) (h : SEl G k es cs) : SE G k (.Call (.Name y p) es [] pos) (.callB b cs) := by
  have hm := mem_of_lookup' hb
  simp only [List.mem_cons, Prod.mk.injEq, List.not_mem_nil, or_false] at hm
  rcases hm with ⟨rfl, rfl⟩ | ⟨rfl, rfl⟩ | ⟨rfl, rfl⟩ | ⟨rfl, rfl⟩ | ⟨rfl, rfl⟩ | ⟨rfl, rfl⟩ | ⟨rfl, rfl⟩
  · exact fun {_ _ _} hk E => callB_at ok (fv := .builtin "len") (by decide) (by decide +kernel) (Keep.builtin _) (by decide) hg h (fun _ r => one_arg (fun r => len_sim r) (fun _ _ => rfl) r) hk E
  · exact fun {_ _ _} hk E => callB_at ok (fv := .builtin "sum") (by decide) (by decide +kernel) (Keep.builtin _) (by decide) hg h (fun hh r => one_arg (fun r => sum_sim (hh rfl) r) (fun _ _ => rfl) r) hk E
  · exact fun {_ _ _} hk E => callB_at ok (fv := .builtin "sorted") (by decide) (by decide +kernel) (Keep.builtin _) (by decide) hg h (fun _ r => one_arg (fun r => sorted_sim r) (fun _ _ => rfl) r) hk E
  · exact fun {_ _ _} hk E => callB_at ok (fv := .builtin "min") (by decide) (by decide +kernel) (Keep.builtin _) (by decide) hg h (fun hh r => min_sim (hh rfl) r) hk E
  · exact fun {_ _ _} hk E => callB_at ok (fv := .builtin "max") (by decide) (by decide +kernel) (Keep.builtin _) (by decide) hg h (fun hh r => max_sim (hh rfl) r) hk E
  · exact fun {_ _ _} hk E => callB_at ok (fv := .type "int") (by decide) (by decide +kernel) (Keep.type _) (by decide) hg h (fun _ r => one_arg (fun r => int_sim r) (fun _ _ => rfl) r) hk E
  · exact fun {_ _ _} hk E => callB_at ok (fv := .type "list") (by decide) (by decide +kernel) (Keep.type _) (by decide) hg h (fun _ r => one_arg (fun r => list_sim r) (fun _ _ => rfl) r) hk E
end
end Mine

namespace Mine
open PySem PySem.Calls PySem.W PyProof.Rows
set_option maxRecDepth 100000

section
variable {G : Gd} {k : Ky}
theorem FnAt.wp {a : Addr} {i : Nat} (h : FnAt G a i) (p : Option (Addr × Obj)) : FnAt (G.wp p) a i := ⟨h.ex⟩
theorem GOk.wp (ok : GOk G) (p : Option (Addr × Obj)) : GOk (G.wp p) :=
  ⟨ok.hg, ok.hb, ok.lim, ok.con, fun x hx i hi => let ⟨a, h1, h2⟩ := ok.fns x hx i hi; ⟨a, h1, h2.wp p⟩, ok.bi, ok.exc, ok.sub⟩
theorem cE_noset {C : CC} {m : Nat} {e : PySem.Expr} {c : CE} (h : cE m C e = some c) (env : Env) (x : Value) : foldedSetIterable e env x = pure x := by
  cases e with
  | Set es k pos => cases m with
    | zero => cases h
    | succ m => cases h
  | _ => rfl

theorem cE_noslice {C : CC} {m : Nat} {e : PySem.Expr} {c : CE} (h : cE m C e = some c) : isSlice e = false := by
  cases e with
  | Slice lo hi st p => cases m with
    | zero => cases h
    | succ m => cases h
  | _ => rfl
theorem cE_nostar {C : CC} {m : Nat} {e : PySem.Expr} {c : CE} (h : cE m C e = some c) : isStar e = false := by
  cases e with
  | Starred v p => cases m with
    | zero => cases h
    | succ m => cases h
  | _ => rfl

theorem nameOf_some {e : PySem.Expr} {x : Str} (h : nameOf e = some x) : ∃ p, e = .Name x p := by
  cases e with
  | Name y p => cases h; exact ⟨p, rfl⟩
  | _ => cases h
theorem attrOf_some {e o : PySem.Expr} {m : Str} {ap : Pos} (h : attrOf e = some (o, m, ap)) : e = .Attribute o m ap := by
  cases e with
  | Attribute y p => cases h; rfl
  | _ => cases h
theorem sliceOf_some {e : PySem.Expr} {q : Option PySem.Expr × Option PySem.Expr × Option PySem.Expr} (h : sliceOf e = some q) : ∃ p, e = .Slice q.1 q.2.1 q.2.2 p := by
  cases e with
  | Slice lo hi st p => cases h; exact ⟨p, rfl⟩
  | _ => cases h
theorem callOf_some {e : PySem.Expr} {f : Str} {args : List PySem.Expr} (h : callOf e = some (f, args)) : ∃ p pos, e = .Call (.Name f p) args [] pos := by
  cases e with
  | Call g as kws pos =>
    obtain ⟨hk, h⟩ := Option.ite_none_right_eq_some.mp (show (if kws.isEmpty = true then (nameOf g).map fun x => (x, as) else none) = some (f, args) from h)
    obtain ⟨x, hx, e⟩ := Option.map_eq_some_iff.mp h
    obtain ⟨p, rfl⟩ := nameOf_some hx
    cases e
    cases kws with
    | nil => exact ⟨p, pos, rfl⟩
    | cons => cases hk
  | _ => cases h


theorem names_of : ∀ {es : List PySem.Expr} {xs : List Str}, es.mapM nameOf = some xs → ∃ ys : List (Str × Pos), es = ys.map (fun x => PySem.Expr.Name x.1 x.2) ∧ xs = ys.map (·.1)
  | [], xs, h => by cases h; exact ⟨[], rfl, rfl⟩
  | e :: es, xs, h => by
    rw [List.mapM_cons] at h
    obtain ⟨x, hx, h⟩ := Option.bind_eq_some_iff.mp h
    obtain ⟨r, hr, h⟩ := Option.bind_eq_some_iff.mp h
    cases h
    obtain ⟨p, rfl⟩ := nameOf_some hx
    obtain ⟨ys, rfl, rfl⟩ := names_of hr
    exact ⟨(x, p) :: ys, rfl, rfl⟩
theorem ctg_of {t : PySem.Expr} {xs : List Str} (h : targetsOf t = some xs) : CTg t xs := by
  cases t with
  | Name y p => cases h; exact .name y p
  | Tuple es kk p =>
    obtain ⟨hl, h⟩ := Option.ite_none_left_eq_some.mp (show (if (es.length == 1) = true then none else es.mapM nameOf) = some xs from h)
    obtain ⟨ys, rfl, rfl⟩ := names_of h
    exact .tup ys kk p fun q => hl (by rw [List.length_map, q]; rfl)
  | _ => cases h
theorem compOk_of {C : CC} {scope : Scope} {xs : List Str} (h1 : scope.kind = .function) (h3 : ∀ x ∈ xs, scope.names.lookup x = some .local) (h4 : ∀ p ∈ scope.names, ¬ p.2 = .cell) (h5 : ∀ p ∈ scope.names, ¬ p.2 = .local ∨ scope.names.lookup p.1 = some .local)
    (h6 : ∀ p ∈ scope.names, ¬ p.2 = .free ∨ ((lastIdx p.1 C.vars).isSome = true ∧ (C.kind p.1 = some .cell ∨ C.kind p.1 = some .free))) (h7 : xs.Nodup) : CompOk C scope xs := by
  refine ⟨h1, h3, h7, fun p hp => h4 p hp, fun p hp hl => ?_, fun y hy => ?_⟩
  · rcases h5 p hp with q | q
    · exact absurd hl q
    · exact q
  · rcases h6 _ hy with q | q
    · exact absurd rfl q
    · exact ⟨Option.isSome_iff_exists.mp q.1, q.2⟩
theorem and_se {es : List PySem.Expr} {cs : List CE} {pos : Pos} (hne : es ≠ []) (h : SEs G k es cs) : SE G k (.BoolOp .And es pos) (.and cs) := fun hk E => and_go hne h hk E
theorem or_se {es : List PySem.Expr} {cs : List CE} {pos : Pos} (hne : es ≠ []) (h : SEs G k es cs) : SE G k (.BoolOp .Or es pos) (.or cs) := fun hk E => or_go hne h hk E
theorem and_st {es : List PySem.Expr} {cs : List CE} {pos : Pos} (h : SEs G k es cs) : ST G k (.BoolOp .And es pos) (.and cs) := fun hk E => and_tgo h hk E
theorem or_st {es : List PySem.Expr} {cs : List CE} {pos : Pos} (h : SEs G k es cs) : ST G k (.BoolOp .Or es pos) (.or cs) := fun hk E => or_tgo h hk E
theorem both {e : PySem.Expr} {c : CE} (h : SE G k e c) (hp : ∀ (env : Env) (w : Sem Value), isTrue e env w = (do let v ← w; standAt e.pos; holding [v] (truthy v))) : SE G k e c ∧ ST G k e c := ⟨h, ST.plain h hp⟩
set_option tactic.hygienic true in
theorem cName_ok (ok : GOk G) (hg : k.C.g = G.g) {x : Str} {p : Pos} {c : CE} (h : cName k.C x = some c) : SE G k (.Name x p) c := by
  unfold cName at h
  split at h
  · cases h
  · rename_i hx
    simp only [Bool.or_eq_true, not_or, Bool.not_eq_true] at hx
    split at h
    · rename_i i hi
      split at h
      · rename_i hk
        injection h with h; subst h
        simp only [Bool.or_eq_true, beq_iff_eq] at hk
        exact loc_se hx.1 hx.2 hi (by rcases hk with (hk | hk) | hk; exact .inl hk; exact .inr (.inl hk); exact .inr (.inr hk))
      · cases h
    · split at h
      · rename_i hk
        obtain ⟨d, hgd, rfl⟩ := Option.map_eq_some_iff.mp h
        exact gcon_se ok hg hx.1 (by simpa using hk) hgd
      · cases h
end
structure AllE (G : Gd) (n m : Nat) : Prop where
  e : ∀ p C, C.g = G.g → ∀ e c, cE m C e = some c → SE (G.wp p) ⟨n, C⟩ e c ∧ ST (G.wp p) ⟨n, C⟩ e c
  es : ∀ p C, C.g = G.g → ∀ es cs, cEs m C es = some cs → SEl (G.wp p) ⟨n, C⟩ es cs ∧ SEs (G.wp p) ⟨n, C⟩ es cs
  o : ∀ p C, C.g = G.g → ∀ e c, cEo m C e = some c → SEo (G.wp p) ⟨n, C⟩ e c
  i : ∀ p C, C.g = G.g → ∀ e c, cI m C e = some c → SI (G.wp p) ⟨n, C⟩ e c ∧ (∀ env x, foldedSetIterable e env x = pure x)
  a : ∀ p C, C.g = G.g → ∀ e c, cE m C e = some c → SC (G.wp p) ⟨n, C⟩ e c
theorem AllE.zero {G : Gd} {n : Nat} : AllE G n 0 := ⟨fun _ _ _ _ _ h => (nomatch h), fun _ _ _ _ _ h => (nomatch h), fun _ _ _ _ _ h => (nomatch h), fun _ _ _ _ _ h => (nomatch h), fun _ _ _ _ _ h => (nomatch h)⟩
section
variable {G : Gd} {n m : Nat} {C : CC} {q : Option (Addr × Obj)} (ih : AllE G n m) (hg : C.g = G.g)
include ih hg
theorem cUn_ok {op : PySem.UnaryOp} {x : PySem.Expr} {p : Pos} {c : CE} (h : cUn ⟨cE m, cEs m, cEo m, cI m⟩ C op x = some c) : SE (G.wp q) ⟨n, C⟩ (.UnaryOp op x p) c ∧ ST (G.wp q) ⟨n, C⟩ (.UnaryOp op x p) c := by
  cases op with
  | Not =>
    obtain ⟨a, ha, rfl⟩ := Option.map_eq_some_iff.mp (show (cE m C x).map CE.not = some c from h)
    exact ⟨not_se (ih.e q C hg _ _ ha).1, not_st (ih.e q C hg _ _ ha).2⟩
  | USub =>
    obtain ⟨a, ha, rfl⟩ := Option.map_eq_some_iff.mp (show (cE m C x).map CE.neg = some c from h)
    exact both (neg_se (ih.e q C hg _ _ ha).1) fun _ _ => rfl
  | _ => cases h
theorem cBool_ok {op : PySem.BoolOp} {vs : List PySem.Expr} {p : Pos} {c : CE} (h : cBool ⟨cE m, cEs m, cEo m, cI m⟩ C op vs = some c) : SE (G.wp q) ⟨n, C⟩ (.BoolOp op vs p) c ∧ ST (G.wp q) ⟨n, C⟩ (.BoolOp op vs p) c := by
  unfold cBool at h
  obtain ⟨hne, h⟩ := Option.ite_none_left_eq_some.mp h
  have hne : vs ≠ [] := fun e => hne (by rw [e]; rfl)
  cases op with
  | And =>
    obtain ⟨a, ha, rfl⟩ := Option.map_eq_some_iff.mp (show (cEs m C vs).map CE.and = some c from h)
    have := (ih.es q C hg _ _ ha).2
    exact ⟨and_se hne this, and_st this⟩
  | Or =>
    obtain ⟨a, ha, rfl⟩ := Option.map_eq_some_iff.mp (show (cEs m C vs).map CE.or = some c from h)
    have := (ih.es q C hg _ _ ha).2
    exact ⟨or_se hne this, or_st this⟩
theorem cCompare_ok {l : PySem.Expr} {ops : List CmpOp} {rs : List PySem.Expr} {p : Pos} {c : CE} (h : cCompare ⟨cE m, cEs m, cEo m, cI m⟩ C l ops rs = some c) : SE (G.wp q) ⟨n, C⟩ (.Compare l ops rs p) c ∧ ST (G.wp q) ⟨n, C⟩ (.Compare l ops rs p) c := by
  cases ops with
  | nil => cases h
  | cons o1 ops => cases rs with
    | nil => cases h
    | cons a rs => cases ops with
      | nil => cases rs with
        | cons => cases h
        | nil =>
          obtain ⟨hm, h⟩ := Option.ite_none_right_eq_some.mp (show (if (true && !behindInMarks o1 a) = true then (cE m C l).bind fun l => (cE m C a).map fun a => CE.cmp (cCop o1) l a else none) = some c from h)
          obtain ⟨x, hx, h⟩ := Option.bind_eq_some_iff.mp h
          obtain ⟨y, hy, rfl⟩ := Option.map_eq_some_iff.mp h
          have hm : behindInMarks o1 a = false := by simpa using hm
          exact ⟨cmp_se hm (ih.e q C hg _ _ hx).1 (ih.e q C hg _ _ hy).1, cmp_st hm (ih.e q C hg _ _ hx).1 (ih.e q C hg _ _ hy).1⟩
      | cons o2 ops => cases rs with
        | nil => cases h
        | cons b rs =>
          obtain ⟨hm, h'⟩ := Option.ite_none_right_eq_some.mp (show (if (ops.isEmpty && rs.isEmpty && !behindInMarks o2 b) = true then (cE m C l).bind fun l => (cE m C a).bind fun a => (cE m C b).map fun b => CE.cmp2 (cCop o1) (cCop o2) l a b else none) = some c from h)
          clear h
          simp only [Bool.and_eq_true, List.isEmpty_iff, Bool.not_eq_true'] at hm
          obtain ⟨⟨rfl, rfl⟩, hm⟩ := hm
          obtain ⟨x, hx, h⟩ := Option.bind_eq_some_iff.mp h'
          obtain ⟨y, hy, h⟩ := Option.bind_eq_some_iff.mp h
          obtain ⟨z, hz, rfl⟩ := Option.map_eq_some_iff.mp h
          exact ⟨cmp2_se hm (ih.e q C hg _ _ hx).1 (ih.e q C hg _ _ hy).1 (ih.e q C hg _ _ hz).1, cmp2_st hm (ih.e q C hg _ _ hx).1 (ih.e q C hg _ _ hy).1 (ih.e q C hg _ _ hz).1⟩
theorem cSub_ok {v s : PySem.Expr} {p : Pos} {c : CE} (h : cSub ⟨cE m, cEs m, cEo m, cI m⟩ C v s = some c) : SE (G.wp q) ⟨n, C⟩ (.Subscript v s p) c := by
  unfold cSub at h
  cases hs : sliceOf s with
  | some w =>
    obtain ⟨lo, hi, st⟩ := w
    rw [hs] at h
    obtain ⟨sp, hs'⟩ := sliceOf_some hs
    dsimp only at hs' h
    subst hs'
    cases st with
    | some _ => cases h
    | none =>
      obtain ⟨a, ha, h⟩ := Option.bind_eq_some_iff.mp h
      obtain ⟨b, hb, h⟩ := Option.bind_eq_some_iff.mp h
      obtain ⟨d, hd, rfl⟩ := Option.map_eq_some_iff.mp h
      exact slice_se (ih.e q C hg _ _ ha).1 (ih.o q C hg _ _ hb) (ih.o q C hg _ _ hd)
  | none =>
    rw [hs] at h
    obtain ⟨a, ha, h⟩ := Option.bind_eq_some_iff.mp h
    obtain ⟨b, hb, rfl⟩ := Option.map_eq_some_iff.mp h
    exact sub_se (cE_noslice hb) (ih.e q C hg _ _ ha).1 (ih.e q C hg _ _ hb).1
theorem cIsi_ok (ok : GOk G) {args : List PySem.Expr} {fp p : Pos} {c : CE} (hgl : C.isGlob "isinstance" = true) (h : cIsi ⟨cE m, cEs m, cEo m, cI m⟩ C args = some c) : SE (G.wp q) ⟨n, C⟩ (.Call (.Name "isinstance" fp) args [] p) c := by
  cases args with
  | nil => cases h
  | cons e r => cases r with
    | nil => cases h
    | cons t r => cases r with
      | cons => cases h
      | nil =>
        obtain ⟨y, ht, h⟩ := Option.bind_eq_some_iff.mp (show ((nameOf t).bind fun t => if C.isGlob t = true then (cE m C e).bind fun e => (tyOf t).map fun t => CE.isinst e t else none) = some c from h)
        obtain ⟨tp, rfl⟩ := nameOf_some ht
        obtain ⟨hgt, h⟩ := Option.ite_none_right_eq_some.mp h
        obtain ⟨a, ha, h⟩ := Option.bind_eq_some_iff.mp h
        obtain ⟨ty, hty, rfl⟩ := Option.map_eq_some_iff.mp h
        exact isi_se (ok.wp q) (cE_nostar ha) hgl hgt hty (ih.e q C hg _ _ ha).1
set_option tactic.hygienic true in
theorem cCallN_ok (ok : GOk G) (hb : Bod (G.wp q) n) {f : Str} {args : List PySem.Expr} {fp p : Pos} {c : CE} (h : cCallN ⟨cE m, cEs m, cEo m, cI m⟩ C f args = some c) : SE (G.wp q) ⟨n, C⟩ (.Call (.Name f fp) args [] p) c := by
  unfold cCallN at h
  obtain ⟨hgl, h'⟩ := Option.ite_none_left_eq_some.mp h
  clear h
  have h := h'
  clear h'
  simp only [Bool.or_eq_true, not_or, Bool.not_eq_true, Bool.not_eq_false'] at hgl
  obtain ⟨hgl, hdb⟩ := hgl
  split at h
  · rename_i hfn
    obtain ⟨i, hi, h⟩ := Option.bind_eq_some_iff.mp h
    obtain ⟨cs, hcs, rfl⟩ := Option.map_eq_some_iff.mp h
    exact fun {_ _ _} hk E => callF_se (k := ⟨n, C⟩) (ok.wp q) hb (by show f ∈ G.g.fns; rw [← hg]; simpa using hfn) hi hgl hdb (ih.es q C hg _ _ hcs).1 hk E
  · split at h
    · rename_i hisi
      have hisi := eq_of_beq hisi
      subst hisi
      exact fun {_ _ _} hk E => cIsi_ok ih hg ok hgl h hk E
    · obtain ⟨b, hbi, h⟩ := Option.bind_eq_some_iff.mp h
      obtain ⟨cs, hcs, rfl⟩ := Option.map_eq_some_iff.mp h
      exact fun {_ _ _} hk E => callB_se (k := ⟨n, C⟩) (ok.wp q) hbi hgl (ih.es q C hg _ _ hcs).1 hk E
theorem cCall_ok (ok : GOk G) (hb : Bod (G.wp q) n) {f : PySem.Expr} {args : List PySem.Expr} {p : Pos} {c : CE} (h : cCall ⟨cE m, cEs m, cEo m, cI m⟩ C f args p = some c) : SE (G.wp q) ⟨n, C⟩ (.Call f args [] p) c := by
  unfold cCall at h
  cases hf : nameOf f with
  | some x =>
    rw [hf] at h
    obtain ⟨fp, rfl⟩ := nameOf_some hf
    exact cCallN_ok ih hg ok hb h
  | none =>
    rw [hf] at h
    obtain ⟨⟨o, mm, ap⟩, ha, h⟩ := Option.bind_eq_some_iff.mp h
    obtain rfl := attrOf_some ha
    obtain ⟨hc, h⟩ := Option.ite_none_left_eq_some.mp h
    simp only [Bool.or_eq_true, not_or, Bool.not_eq_true, Bool.not_eq_false'] at hc
    obtain ⟨a, ha, h⟩ := Option.bind_eq_some_iff.mp h
    obtain ⟨i, hi, h⟩ := Option.bind_eq_some_iff.mp h
    obtain ⟨hm, h⟩ := Option.ite_none_right_eq_some.mp h
    obtain ⟨cs, hcs, rfl⟩ := Option.map_eq_some_iff.mp h
    exact meth_se hc.1.1 (by simpa using hc.1.2) (by simpa using hc.2) hi (ih.e q C hg _ _ ha).1 (ih.es q C hg _ _ hcs).1
theorem cComp_ok {elt target iter : PySem.Expr} {ifs : List PySem.Expr} {scope : Scope} {p : Pos} {c : CE} (h : cComp ⟨cE m, cEs m, cEo m, cI m⟩ C elt target iter ifs scope = some c) : SE (G.wp q) ⟨n, C⟩ (.ListComp elt [⟨target, iter, ifs, 0⟩] scope p) c ∧ SC (G.wp q) ⟨n, C⟩ (.ListComp elt [⟨target, iter, ifs, 0⟩] scope p) c := by
  unfold cComp at h
  obtain ⟨xs, hx, h⟩ := Option.bind_eq_some_iff.mp h
  obtain ⟨hc, h⟩ := Option.ite_none_right_eq_some.mp h
  simp only [Bool.and_eq_true, beq_iff_eq, List.all_eq_true, Bool.or_eq_true, bne_iff_ne, ne_eq] at hc
  obtain ⟨⟨⟨⟨⟨h1, h3⟩, h4⟩, h5⟩, h6⟩, h7⟩ := hc
  obtain ⟨ce, hce, h⟩ := Option.bind_eq_some_iff.mp h
  obtain ⟨ci, hci, h⟩ := Option.bind_eq_some_iff.mp h
  obtain ⟨ht, h⟩ := Option.ite_none_left_eq_some.mp h
  have htup : ci.tup = true → xs.length ≠ 1 := fun q1 q2 => ht (by rw [q1, q2]; rfl)
  have ctg := ctg_of hx
  have cok : CompOk (⟨n, C⟩ : Ky).C scope xs := compOk_of h1 h3 h4 h5 h6 (of_decide_eq_true h7)
  obtain ⟨hi, hset⟩ := ih.i q C hg _ _ hci
  have key : ∀ {cc}, (∀ p, CondOk ((G.wp q).wp p) ⟨n, compCC C scope xs⟩ ifs cc) → SE (G.wp q) ⟨n, C⟩ (.ListComp elt [⟨target, iter, ifs, 0⟩] scope p) (.comp ce xs.length ci cc) ∧ SC (G.wp q) ⟨n, C⟩ (.ListComp elt [⟨target, iter, ifs, 0⟩] scope p) (.comp ce xs.length ci cc) := fun hcc =>
    ⟨fun {_ _ _} hk E => comp_se (k := ⟨n, C⟩) cok ctg htup hset hi.p (fun p => (ih.e p (compCC C scope xs) hg _ _ hce).1) hcc hk E,
      fun sc pos hs y' i p' spos hn hx hsw => by
        cases hs
        exact fun {_ _ _ _ _} hk ht E I hr => asgC_ss (k := ⟨n, C⟩) hn hx hsw cok ctg htup hset hi.p (fun p => (ih.e p (compCC C scope xs) hg _ _ hce).1) hcc hk ht E I hr⟩
  cases ifs with
  | nil => cases h; exact key fun _ => .none
  | cons cnd r => cases r with
    | cons => cases h
    | nil =>
      obtain ⟨cc, hcc, rfl⟩ := Option.map_eq_some_iff.mp (show (cE m (compCC C scope xs) cnd).map (fun c => CE.comp ce xs.length ci (some c)) = some c from h)
      exact key fun p => .some (ih.e p (compCC C scope xs) hg _ _ hcc).2
theorem cE_ok (ok : GOk G) (hb : Bod (G.wp q) n) {e : PySem.Expr} {c : CE} (h : cEstep ⟨cE m, cEs m, cEo m, cI m⟩ C e = some c) : SE (G.wp q) ⟨n, C⟩ e c ∧ ST (G.wp q) ⟨n, C⟩ e c := by
  cases e with
  | Constant k a p =>
    obtain ⟨d, hd, rfl⟩ := Option.map_eq_some_iff.mp (show (cConst k).map CE.lit = some c from h)
    exact both (lit_se hd) fun _ _ => rfl
  | Name x p => exact both (cName_ok (k := ⟨n, C⟩) (ok.wp q) hg h) fun _ _ => rfl
  | BinOp l op r p =>
    obtain ⟨o, ho, h⟩ := Option.bind_eq_some_iff.mp (show ((cBop op).bind fun o => (cE m C l).bind fun x => (cE m C r).map fun y => CE.bin o x y) = some c from h)
    obtain ⟨a, ha, h⟩ := Option.bind_eq_some_iff.mp h
    obtain ⟨b, hb, rfl⟩ := Option.map_eq_some_iff.mp h
    exact both (bin_se ho (ih.e q C hg _ _ ha).1 (ih.e q C hg _ _ hb).1) fun _ _ => rfl
  | UnaryOp op x p => exact cUn_ok ih hg h
  | BoolOp op vs p => exact cBool_ok ih hg h
  | Compare l ops rs p => exact cCompare_ok ih hg h
  | List es p =>
    obtain ⟨hl, h⟩ := Option.ite_none_right_eq_some.mp (show (if es.length ≤ 1000 then (cEs m C es).map CE.list else none) = some c from h)
    obtain ⟨a, ha, rfl⟩ := Option.map_eq_some_iff.mp h
    exact both (list_se (ih.es q C hg _ _ ha).1 (Nat.le_trans hl (by decide))) fun _ _ => rfl
  | Tuple es k p =>
    obtain ⟨hl, h⟩ := Option.ite_none_right_eq_some.mp (show (if es.length ≤ 1000 then (cEs m C es).map CE.tup else none) = some c from h)
    obtain ⟨a, ha, rfl⟩ := Option.map_eq_some_iff.mp h
    exact both (tup_se (ih.es q C hg _ _ ha).1 (Nat.le_trans hl (by decide))) fun _ _ => rfl
  | Subscript v s p => exact both (cSub_ok ih hg h) fun _ _ => rfl
  | Call f args kws p => cases kws with
    | nil => exact both (cCall_ok ih hg ok hb h) fun _ _ => rfl
    | cons kw kws => cases h
  | ListComp elt gens scope p => cases gens with
    | nil => cases h
    | cons g r => cases r with
      | cons => cases h
      | nil =>
        obtain ⟨gt, gi, gf, ga⟩ := g
        obtain ⟨hz, h⟩ := Option.ite_none_right_eq_some.mp (show (if (true && ga == 0) = true then cComp ⟨cE m, cEs m, cEo m, cI m⟩ C elt gt gi gf scope else none) = some c from h)
        simp only [Bool.true_and, beq_iff_eq] at hz
        subst hz
        exact both (cComp_ok ih hg h).1 fun _ _ => rfl
  | _ => cases h
theorem cA_ok {e : PySem.Expr} {c : CE} (h : cEstep ⟨cE m, cEs m, cEo m, cI m⟩ C e = some c) : SC (G.wp q) ⟨n, C⟩ e c := by
  intro sc pos hs
  cases e with
  | ListComp elt gens scope p => cases gens with
    | nil => cases h
    | cons g r => cases r with
      | cons => cases h
      | nil =>
        obtain ⟨gt, gi, gf, ga⟩ := g
        obtain ⟨hz, h⟩ := Option.ite_none_right_eq_some.mp (show (if (true && ga == 0) = true then cComp ⟨cE m, cEs m, cEo m, cI m⟩ C elt gt gi gf scope else none) = some c from h)
        simp only [Bool.true_and, beq_iff_eq] at hz
        subst hz
        exact (cComp_ok ih hg h).2 sc pos hs
  | _ => cases hs
theorem callOne_some {f : Str} {e a : PySem.Expr} (h : callOne C f e = some a) : ∃ fp pos, e = .Call (.Name f fp) [a] [] pos ∧ isStar a = false ∧ C.isGlob f = true := by
  unfold callOne at h
  obtain ⟨⟨y, args⟩, hq, h1⟩ := Option.bind_eq_some_iff.mp h
  clear h
  obtain ⟨fp, pos, rfl⟩ := callOf_some hq
  obtain ⟨hf, h2⟩ := Option.ite_none_right_eq_some.mp h1
  clear h1
  simp only [Bool.and_eq_true] at hf
  have hn : y = f := eq_of_beq hf.1.1
  subst hn
  cases args with
  | nil => cases h2
  | cons b r =>
    obtain ⟨hst, h3⟩ := Option.ite_none_right_eq_some.mp (show (if (r.isEmpty && !isStar b) = true then some b else none) = some a from h2)
    clear h2
    cases h3
    rw [Bool.and_eq_true, List.isEmpty_iff, Bool.not_eq_true'] at hst
    obtain ⟨rfl, hst⟩ := hst
    exact ⟨fp, pos, rfl, hst, hf.1.2⟩
theorem callTwo_some {f : Str} {e a b : PySem.Expr} (h : callTwo C f e = some (a, b)) : ∃ fp pos, e = .Call (.Name f fp) [a, b] [] pos ∧ isStar a = false ∧ isStar b = false ∧ C.isGlob f = true := by
  unfold callTwo at h
  obtain ⟨⟨y, args⟩, hq, h1⟩ := Option.bind_eq_some_iff.mp h
  clear h
  obtain ⟨fp, pos, rfl⟩ := callOf_some hq
  obtain ⟨hf, h2⟩ := Option.ite_none_right_eq_some.mp h1
  clear h1
  simp only [Bool.and_eq_true] at hf
  have hn : y = f := eq_of_beq hf.1.1
  subst hn
  cases args with
  | nil => cases h2
  | cons a' r => cases r with
    | nil => cases h2
    | cons b' r =>
      obtain ⟨hst, h3⟩ := Option.ite_none_right_eq_some.mp (show (if (r.isEmpty && !isStar a' && !isStar b') = true then some (a', b') else none) = some (a, b) from h2)
      clear h2
      cases h3
      simp only [Bool.and_eq_true, List.isEmpty_iff, Bool.not_eq_true'] at hst
      obtain ⟨⟨rfl, h4⟩, h5⟩ := hst
      exact ⟨fp, pos, rfl, h4, h5, hf.1.2⟩
theorem cIz_ok (ok : GOk G) {e : PySem.Expr} {c : CI} (h : cIz ⟨cE m, cEs m, cEo m, cI m⟩ C e = some c) : SI (G.wp q) ⟨n, C⟩ e c ∧ (∀ env x, foldedSetIterable e env x = pure x) := by
  unfold cIz at h
  cases hc : callTwo C "zip" e with
  | none =>
    rw [hc] at h
    obtain ⟨a, ha, rfl⟩ := Option.map_eq_some_iff.mp h
    exact ⟨ev_si (ih.e q C hg _ _ ha).1, cE_noset ha⟩
  | some w =>
    obtain ⟨a, b⟩ := w
    rw [hc] at h
    obtain ⟨ca, ha, h⟩ := Option.bind_eq_some_iff.mp h
    obtain ⟨cb, hb, rfl⟩ := Option.map_eq_some_iff.mp h
    obtain ⟨fp, pos, rfl, h4, h5, hgl⟩ := callTwo_some ih hg hc
    exact ⟨zip_si (ok.wp q) h4 h5 hgl (ih.e q C hg _ _ ha).1 (ih.e q C hg _ _ hb).1, fun _ _ => rfl⟩
theorem cI_ok (ok : GOk G) {e : PySem.Expr} {c : CI} (h : cIstep ⟨cE m, cEs m, cEo m, cI m⟩ C e = some c) : SI (G.wp q) ⟨n, C⟩ e c ∧ (∀ env x, foldedSetIterable e env x = pure x) := by
  unfold cIstep at h
  cases hc : callOne C "range" e with
  | none =>
    rw [hc] at h
    exact cIz_ok ih hg ok h
  | some a =>
    rw [hc] at h
    obtain ⟨c', ha, rfl⟩ := Option.map_eq_some_iff.mp h
    obtain ⟨fp, pos, rfl, hst, hgl⟩ := callOne_some ih hg hc
    exact ⟨range_si (ok.wp q) hst hgl (ih.e q C hg _ _ ha).1, fun _ _ => rfl⟩
end
theorem AllE.succ {G : Gd} {n m : Nat} (ok : GOk G) (hb : ∀ q, Bod (G.wp q) n) (ih : AllE G n m) : AllE G n (m + 1) := by
  refine ⟨fun q C hg e c h => cE_ok ih hg ok (hb q) h, fun q C hg es cs h => ?_, fun q C hg e c h => ?_, fun q C hg e c h => cI_ok ih hg ok h, fun q C hg e c h => cA_ok ih hg h⟩
  · cases es with
    | nil => cases h; exact ⟨trivial, trivial⟩
    | cons e es =>
      obtain ⟨hst, h⟩ := Option.ite_none_left_eq_some.mp (show (if isStar e = true then none else (cE m C e).bind fun x => (cEs m C es).map fun y => x :: y) = some cs from h)
      obtain ⟨a, ha, h⟩ := Option.bind_eq_some_iff.mp h
      obtain ⟨b, hb, rfl⟩ := Option.map_eq_some_iff.mp h
      have e1 := ih.e q C hg _ _ ha
      have e2 := ih.es q C hg _ _ hb
      exact ⟨⟨by simpa using hst, e1.1, e2.1⟩, ⟨e1, e2.2⟩⟩
  · cases e with
    | none => cases h; exact trivial
    | some e =>
      obtain ⟨a, ha, rfl⟩ := Option.map_eq_some_iff.mp (show (cE m C e).map some = some c from h)
      exact (ih.e q C hg _ _ ha).1
theorem allE_of {G : Gd} {n : Nat} (ok : GOk G) (hb : ∀ q, Bod (G.wp q) n) : ∀ m, AllE G n m
  | 0 => AllE.zero
  | m + 1 => (allE_of ok hb m).succ ok hb
end Mine

namespace Mine
open PySem PySem.Calls PySem.W PyProof.Rows
set_option maxRecDepth 100000

structure AllS (G : Gd) (n m : Nat) : Prop where
  s : ∀ p C, C.g = G.g → VarsND C.vars → ∀ st c, cS m C st = some c → SS (G.wp p) ⟨n, C⟩ st c
  ss : ∀ p C, C.g = G.g → VarsND C.vars → ∀ ss cs, cSs m C ss = some cs → SSs (G.wp p) ⟨n, C⟩ ss cs
theorem AllS.zero {G : Gd} {n : Nat} : AllS G n 0 := ⟨fun _ _ _ _ _ _ h => (nomatch h), fun _ _ _ _ _ _ h => (nomatch h)⟩
theorem tupleOf_some {t : PySem.Expr} {es : List PySem.Expr} (h : tupleOf t = some es) : ∃ kk p, t = .Tuple es kk p := by
  cases t with
  | Tuple es' kk p => cases h; exact ⟨kk, p, rfl⟩
  | _ => cases h
theorem ownsT_ok {x : Fx} (hn : VarsND x.k.C.vars) : ∀ {es : List PySem.Expr} {is : List Nat}, ownsT x.k.C es = some is → ∃ xs : List (Str × Pos), es = xs.map (fun x => PySem.Expr.Name x.1 x.2) ∧ Tgs x (Own x) xs is
  | [], is, h => by cases h; exact ⟨[], rfl, .nil⟩
  | e :: r, is, h => by
    obtain ⟨y, hy, h⟩ := Option.bind_eq_some_iff.mp h
    obtain ⟨i, hi, h⟩ := Option.bind_eq_some_iff.mp h
    obtain ⟨js, hj, rfl⟩ := Option.map_eq_some_iff.mp h
    obtain ⟨p, rfl⟩ := nameOf_some hy
    obtain ⟨xs, rfl, T⟩ := ownsT_ok hn hj
    exact ⟨(y, p) :: xs, rfl, .cons (own_places hn hi) T⟩
theorem many_ok {x : Fx} (hn : VarsND x.k.C.vars) {es : List PySem.Expr} {kk : Nat} {p : Pos} {is : List Nat} (h : manyOf x.k.C es = some is) : TgOk x (Own x) (.Tuple es kk p) is := by
  obtain ⟨hl, h⟩ := Option.ite_none_left_eq_some.mp h
  obtain ⟨xs, rfl, T⟩ := ownsT_ok hn h
  exact .tup T (by rw [T.len]; rwa [List.length_map] at hl)
theorem tgtOf_ok {x : Fx} (hn : VarsND x.k.C.vars) {t : PySem.Expr} {is : List Nat} (h : tgtOf x.k.C t = some is) : TgOk x (Own x) t is := by
  unfold tgtOf at h
  cases ht : nameOf t with
  | some y =>
    rw [ht] at h
    obtain ⟨i, hi, rfl⟩ := Option.map_eq_some_iff.mp h
    obtain ⟨p, rfl⟩ := nameOf_some ht
    exact .name (own_places hn hi)
  | none =>
    rw [ht] at h
    obtain ⟨es, he, h⟩ := Option.bind_eq_some_iff.mp h
    obtain ⟨kk, p, rfl⟩ := tupleOf_some he
    exact many_ok hn h
section
variable {G : Gd} {n m : Nat} {C : CC} {q : Option (Addr × Obj)} (ihE : AllE G n m) (ih : AllS G n m) (hg : C.g = G.g) (hn : VarsND C.vars)
include ihE ih hg hn
theorem cAsg_ok (ok : GOk G) {ts : List PySem.Expr} {v : PySem.Expr} {p : Pos} {c : CS} (h : cAsg ⟨cE m, cI m, cSs m⟩ C ts v = some c) : SS (G.wp q) ⟨n, C⟩ (.Assign ts v p) c := by
  cases ts with
  | nil => cases h
  | cons t r =>
    unfold cAsg at h
    obtain ⟨hc, h'⟩ := Option.ite_none_right_eq_some.mp h
    clear h
    rw [Bool.and_eq_true, List.isEmpty_iff] at hc
    obtain ⟨rfl, hc⟩ := hc
    cases ht : nameOf t with
    | some x =>
      rw [ht] at h'
      obtain ⟨tp, rfl⟩ := nameOf_some ht
      obtain ⟨i, hi, h⟩ := Option.bind_eq_some_iff.mp h'
      obtain ⟨a, ha, rfl⟩ := Option.map_eq_some_iff.mp h
      cases hcv : isComp v with
      | false => exact asg_ss (k := ⟨n, C⟩) hn hi hcv (ihE.e q C hg _ _ ha).1
      | true =>
        rw [hcv] at hc
        replace hc : (match compAt v with | some r => swapsB C r.1 x tp r.2 | none => false) = true := hc
        cases hv : compAt v with
        | none => rw [hv] at hc; cases hc
        | some r => rw [hv] at hc; exact fun {_ _ _ _ _} hk ht E I hr => ihE.a q C hg _ _ ha r.1 r.2 hv x i tp p hn hi hc hk ht E I hr
    | none => rw [ht] at h'; cases h'
theorem cFor_ok {t it : PySem.Expr} {b : List Stmt} {p : Pos} {c : CS} (h : cFor ⟨cE m, cI m, cSs m⟩ C t it b = some c) : SS (G.wp q) ⟨n, C⟩ (.For t it b [] p) c := by
  obtain ⟨is, hi, h⟩ := Option.bind_eq_some_iff.mp h
  obtain ⟨ci, hci, h⟩ := Option.bind_eq_some_iff.mp h
  obtain ⟨h3, h⟩ := Option.ite_none_left_eq_some.mp h
  obtain ⟨cb, hcb, rfl⟩ := Option.map_eq_some_iff.mp h
  obtain ⟨h1, h2⟩ := ihE.i q C hg _ _ hci
  exact for_ss (k := ⟨n, C⟩) (fun x hk => tgtOf_ok (by rw [hk]; exact hn) (by rw [hk]; exact hi)) (fun q e => h3 (by rw [q, e]; rfl)) h1 h2 (ih.ss q C hg hn _ _ hcb)
theorem cRaise_ok (ok : GOk G) {e k : Option PySem.Expr} {p : Pos} {c : CS} (h : cRaise C e k = some c) : SS (G.wp q) ⟨n, C⟩ (.Raise e k p) c := by
  cases k with
  | some _ => cases h
  | none =>
    cases e with
    | none => cases h
    | some e =>
      obtain ⟨⟨f, args⟩, hq, h⟩ := Option.bind_eq_some_iff.mp (show (callOf e).bind _ = some c from h)
      obtain ⟨fp, pos, rfl⟩ := callOf_some hq
      obtain ⟨hc, h⟩ := Option.ite_none_right_eq_some.mp h
      obtain ⟨t, ht, rfl⟩ := Option.map_eq_some_iff.mp h
      simp only [Bool.and_eq_true, bne_iff_ne, ne_eq] at hc
      obtain ⟨⟨⟨h1, h2⟩, h3⟩, h4⟩ := hc
      cases args with
      | nil => cases h4
      | cons a r =>
        rw [constArg, Bool.and_eq_true, List.isEmpty_iff] at h4
        obtain ⟨rfl, h4⟩ := h4
        obtain ⟨d, hd⟩ := Option.isSome_iff_exists.mp h4
        cases a with
        | Constant co kk cp => exact raise_ss (k := ⟨n, C⟩) (ok.wp q) hg (by show f ∈ G.g.cls; rw [← hg]; simpa using h3) ht h1 (beq_eq_false_iff_ne.mpr h2) hd
        | _ => cases hd
theorem cTry_ok (ok : GOk G) {b : List Stmt} {hs : List ExceptHandler} {p : Pos} {c : CS} (h : cTry ⟨cE m, cI m, cSs m⟩ C b hs = some c) : SS (G.wp q) ⟨n, C⟩ (.Try b hs [] [] p) c := by
  cases hs with
  | nil => cases h
  | cons hd hs => cases hs with
    | cons => cases h
    | nil =>
      obtain ⟨cb, hcb, h⟩ := Option.bind_eq_some_iff.mp (show ((cSs m C b).bind fun b => (cHandler ⟨cE m, cI m, cSs m⟩ C hd).map fun q => CS.try (clsIds C.g) b q.1 q.2) = some c from h)
      obtain ⟨ch₀, hch₀, rfl⟩ := Option.map_eq_some_iff.mp h
      obtain ⟨⟨x, nm, b⟩, hq, h⟩ := Option.bind_eq_some_iff.mp hch₀
      obtain ⟨hc, h⟩ := Option.ite_none_right_eq_some.mp h
      obtain ⟨t, ht, h⟩ := Option.bind_eq_some_iff.mp h
      obtain ⟨ch, hch, rfl⟩ := Option.map_eq_some_iff.mp h
      simp only [Bool.and_eq_true, bne_iff_ne, ne_eq, Bool.not_eq_true', List.isEmpty_eq_false_iff, Option.isNone_iff_eq_none] at hc
      obtain ⟨⟨⟨⟨h1, h2⟩, h3⟩, rfl⟩, h4⟩ := hc
      obtain ⟨ty, nm', hb, hp⟩ := hd
      obtain ⟨ty, rfl, hq⟩ := Option.bind_eq_some_iff.mp hq
      obtain ⟨x', hx, hq⟩ := Option.map_eq_some_iff.mp hq
      cases hq
      obtain ⟨tp, rfl⟩ := nameOf_some hx
      cases b with
      | nil => exact absurd rfl h4
      | cons b₀ b =>
        rw [hg]
        exact try_ss (k := ⟨n, C⟩) (ok.wp q) (by show x ∈ G.g.cls; rw [← hg]; simpa using h3) ht h1 (beq_eq_false_iff_ne.mpr h2) (ih.ss q C hg hn _ _ hcb) (ih.ss q C hg hn _ _ hch)
theorem cS_ok (ok : GOk G) {st : Stmt} {c : CS} (h : cSstep ⟨cE m, cI m, cSs m⟩ C st = some c) : SS (G.wp q) ⟨n, C⟩ st c := by
  cases st with
  | Pass p => cases h; exact pass_ss
  | Return v p => cases v with
    | none => cases h; exact ret0_ss
    | some e =>
      obtain ⟨a, ha, rfl⟩ := Option.map_eq_some_iff.mp (show (cE m C e).map (fun e => CS.ret (some e)) = some c from h)
      exact ret_ss (ihE.e q C hg _ _ ha).1
  | Assign ts v p => exact cAsg_ok ihE ih hg hn ok h
  | Expr v p =>
    obtain ⟨hc, h⟩ := Option.ite_none_left_eq_some.mp (show (if isComp v = true then none else (cE m C v).map CS.expr) = some c from h)
    obtain ⟨a, ha, rfl⟩ := Option.map_eq_some_iff.mp h
    exact expr_ss (by simpa using hc) (ihE.e q C hg _ _ ha).1
  | If t b o p =>
    obtain ⟨t', ht, h⟩ := Option.bind_eq_some_iff.mp (show ((cE m C t).bind fun x => (cSs m C b).bind fun y => (cSs m C o).map fun z => CS.iff x y z) = some c from h)
    obtain ⟨b', hb, h⟩ := Option.bind_eq_some_iff.mp h
    obtain ⟨o', ho, rfl⟩ := Option.map_eq_some_iff.mp h
    exact if_ss (ihE.e q C hg _ _ ht).2 (ih.ss q C hg hn _ _ hb) (ih.ss q C hg hn _ _ ho)
  | For t it b o p => cases o with
    | nil => exact cFor_ok ihE ih hg hn h
    | cons => cases h
  | Raise e k p => exact cRaise_ok ihE ih hg hn ok h
  | Try b hs o f p => cases o with
    | cons => cases h
    | nil => cases f with
      | cons => cases h
      | nil => exact cTry_ok ihE ih hg hn ok h
  | _ => cases h
end
theorem AllS.succ {G : Gd} {n m : Nat} (ok : GOk G) (hE : ∀ m, AllE G n m) (ih : AllS G n m) : AllS G n (m + 1) := by
  refine ⟨fun q C hg hn st c h => cS_ok (hE m) ih hg hn ok h, fun q C hg hn ss cs h => ?_⟩
  cases ss with
  | nil => cases h; exact nil_ss
  | cons st ss =>
    obtain ⟨a, ha, h⟩ := Option.bind_eq_some_iff.mp (show (cS m C st).bind (fun a => (cSs m C ss).map fun b => a :: b) = some cs from h)
    obtain ⟨b, hb, rfl⟩ := Option.map_eq_some_iff.mp h
    exact cons_ss (ih.s q C hg hn _ _ ha) (ih.ss q C hg hn _ _ hb)
theorem allS_of {G : Gd} {n : Nat} (ok : GOk G) (hE : ∀ m, AllE G n m) : ∀ m, AllS G n m
  | 0 => AllS.zero
  | m + 1 => (allS_of ok hE m).succ ok hE
theorem sound_all {G : Gd} (ok : GOk G) : ∀ n q, Bod (G.wp q) n
  | 0, _ => fun _ h => (nomatch h)
  | n + 1, q => fun n' h C ss cs hg hn hc => by
    cases h
    exact (allS_of ok (allE_of ok (sound_all ok n)) fuelC).ss q C hg hn ss cs hc
theorem sound_call {G : Gd} {n : Nat} {W : Wd} {σ : Sto} {s : Shared} (ok : GOk G) {hd : Bool} {A : Around} {envs : List Env} {i : Nat} {f : Addr} (hf : FnAt G f i) (B : Base G n hd A envs W) (I : Inv G W σ s) {ds : List D} {vs : List Value} (r : RelL G W ds vs) (hr : callN G.P n hd i ds σ ≠ .stuck) :
    wpAny G.M A (call (.ref f) vs) (Post G W (Rel G) (callN G.P n hd i ds σ)) (PostX G W envs (callN G.P n hd i ds σ)) s :=
  fn_sim ok hf (sound_all ok n G.pin) B I r hr
end Mine

namespace Mine
open PySem PySem.Calls PySem.W PyProof.Rows
set_option maxRecDepth 100000

noncomputable def recAt (p : Program) (i : Nat) : Option DefRec := (recsOf p).find? fun d => nameId d.name == some i
noncomputable def progOf (p : Program) (g : CG) : Prog := fun i => (recAt p i).bind fun d => cFn g d.params d.body d.scope

noncomputable def fnsOk (p : Program) (g : CG) : Bool := g.fns.all fun x => match nameId x with
  | none => true
  | some i => match recAt p i with
    | some d => d.name == x && (cFn g d.params d.body d.scope).isSome
    | none => false
noncomputable def conOk (p : Program) (g : CG) : Bool := g.gc.all fun q => match q.2, valOf p q.1 with
  | .int i, some (.int j) => i == j
  | .str s, some (.str u) => u == tx s && sOk s
  | _, _ => false
noncomputable def biOk (p : Program) (loose : List Str) : Bool := biNames.all fun x => !(startupNames.contains x || loose.contains x || ((recsOf p).map (·.name)).contains x || ((litsOf p).map (·.1)).contains x || ((clssOf p loose).map (·.name)).contains x) && x != "__name__"

noncomputable def refOf : Option (Option Value) → Option Addr
  | some (some (.ref f)) => some f
  | _ => none
noncomputable def mroIn (K : Frag) (C C' : Addr) : Option Bool := match K.lookup C with
  | some ⟨_, _, .cls cd, _⟩ => some (cd.mro.contains (.ref C'))
  | _ => none
noncomputable def subFacts (g : CG) (K : Frag) : Bool := g.cls.all fun x => g.cls.all fun y => match refOf (nsIn K mainGlobals x) with
  | some C => (match refOf (nsIn K mainGlobals y) with
    | some C' => (match excId x with
      | some c => (match excId y with
        | some t => mroIn K C C' == some (excSub c t)
        | none => true)
      | none => true)
    | none => false)
  | none => false
noncomputable def SubSays (g : CG) (h : Heap) : Prop := ∃ K, Frag.In K h ∧ subFacts g K = true
noncomputable def nsAt (h : Heap) (a : Addr) (x : Str) : Option Value := (h.get? a).bind fun o => (lookIn x o).join
noncomputable def refV : Option Value → Option Addr
  | some (.ref a) => some a
  | _ => none
noncomputable def fragAt (h : Heap) (as : List Addr) : Frag := as.filterMap fun a => (h.get? a).map fun o => (a, o)
noncomputable def subObs (g : CG) (h : Heap) : Bool := subFacts g (fragAt h (mainGlobals :: g.cls.filterMap fun x => refV (nsAt h mainGlobals x)))
set_option tactic.hygienic true in
theorem frag_in {h : Heap} : ∀ (as : List Addr), Frag.In (fragAt h as) h
  | [], _, _, e => by cases e
  | a :: as, b, o, e => by
    unfold fragAt at e
    rw [List.filterMap_cons] at e
    cases ha : h.get? a with
    | none => rw [ha] at e; exact frag_in as b o e
    | some oa =>
      rw [ha] at e
      dsimp only [Option.map_some] at e
      rw [List.lookup_cons] at e
      split at e
      · rename_i q
        cases e
        rw [eq_of_beq q]; exact ha
      · exact frag_in as b o e
theorem sub_says {g : CG} {h : Heap} (e : subObs g h = true) : SubSays g h := ⟨_, frag_in _, e⟩
theorem SubSays.keeps {g : CG} {h h' : Heap} (x : SubSays g h) (k : ∀ b o, h.get? b = some o → h'.get? b = some o) : SubSays g h' :=
  let ⟨K, h1, h2⟩ := x; ⟨K, h1.keeps k, h2⟩
noncomputable def ecOf (mg : Str → Option Value) (c : Nat) : Value := match excNames[c]? with
  | some x => (mg x).getD .none
  | none => .none
theorem map_eq_mem {α γ : Type} {f g : α → γ} : ∀ {l : List α}, l.map f = l.map g → ∀ x ∈ l, f x = g x
  | [], _, x, hx => by cases hx
  | a :: l, h, x, hx => by
    rw [List.map_cons, List.map_cons] at h
    injection h with h1 h2
    cases hx with
    | head => exact h1
    | tail _ hx => exact map_eq_mem h2 x hx
theorem refOf_some {o : Option (Option Value)} {C : Addr} (h : refOf o = some C) : o = some (some (.ref C)) := by
  unfold refOf at h
  split at h
  · cases h; rfl
  · cases h
set_option tactic.hygienic true in
theorem sub_of {K : Frag} {h : Heap} {mg : Str → Option Value} {g : CG} (X : K.In h) (T : h.Ns mainGlobals mg) (f : subFacts g K = true) {x y : Str} {c t : Nat} (hx : x ∈ g.cls) (hy : y ∈ g.cls) (hc : excId x = some c) (ht : excId y = some t) : ∀ C C', mg x = some (.ref C) → mg y = some (.ref C') → mroAt h C C' = some (excSub c t) := by
  have f := List.all_eq_true.mp (List.all_eq_true.mp f x hx) y hy
  rw [hc, ht] at f
  dsimp only at f
  cases h1 : refOf (nsIn K mainGlobals x) with
  | none => rw [h1] at f; cases f
  | some C₀ =>
    rw [h1] at f
    cases h2 : refOf (nsIn K mainGlobals y) with
    | none => rw [h2] at f; cases f
    | some C₁ =>
      rw [h2] at f
      dsimp only at f
      intro C C' q1 q2
      have m1 := mg_of X T (refOf_some h1)
      have m2 := mg_of X T (refOf_some h2)
      rw [q1] at m1; cases m1
      rw [q2] at m2; cases m2
      rw [beq_iff_eq] at f
      unfold mroIn at f
      split at f
      · rename_i hl
        unfold mroAt
        rw [X _ _ hl]
        exact f
      · cases f
set_option tactic.hygienic true in
theorem gok_of_top {p p' : Program} {w : World} {loose : List Str} {mean : ExcName → Option Value} {mg mb : Str → Option Value} {h : Heap} {gens : Shared} (T : Top p loose mean mg mb h) {g : CG} (Y : SubSays g h)
    (h1 : fnsOk p g = true) (h2 : conOk p g = true) (h3 : biOk p loose = true) (h4 : g.cls.map (specOf p) = g.cls.map fun _ => some ("ValueError.__new__", vbm)) : GOk ⟨p', w, h, mg, mb, ecOf mg, 0, g, progOf p g, gens, none⟩ := by
  obtain ⟨K, X, f0⟩ := Y
  refine ⟨T.g, T.b, T.nolimit, fun x d hd => ?_, fun x hx i hi => ?_, fun x hx => ?_, fun x hx c hc => ?_, fun x hx y hy c t hc ht => sub_of X T.g f0 hx hy hc ht⟩
  · have hm := List.all_eq_true.mp h2 (x, d) (mem_of_lookup' hd)
    dsimp only at hm
    split at hm
    · rename_i i j hv
      obtain ⟨v, hv1, hv2⟩ := T.const x _ hv
      have := hv2 h
      cases this with
      | int _ t => exact ⟨_, hv1, .inl ⟨i, t, rfl, by rw [eq_of_beq hm]⟩⟩
    · rename_i s u hv
      rw [Bool.and_eq_true] at hm
      obtain ⟨v, hv1, hv2⟩ := T.const x _ hv
      have := hv2 h
      cases this with
      | str _ t => exact ⟨_, hv1, .inr ⟨s, t, rfl, by rw [eq_of_beq hm.1], hm.2⟩⟩
    · cases hm
  · have hm := List.all_eq_true.mp h1 x hx
    rw [hi] at hm
    dsimp only at hm
    cases hr : recAt p i with
    | none => rw [hr] at hm; cases hm
    | some d =>
      rw [hr] at hm
      simp only [Bool.and_eq_true] at hm
      obtain ⟨a, o, pm, code, doc, k1, k2, k3, k4⟩ := T.fn d (List.mem_of_find?_eq_some hr)
      obtain ⟨fn, hfn⟩ := Option.isSome_iff_exists.mp hm.2
      have hx' : d.name = x := eq_of_beq hm.1
      refine ⟨a, by rw [← hx']; exact k1, ⟨o, _, fn, d.body, k2, k3, rfl, rfl, rfl, rfl, rfl, k4, ?_, hfn⟩⟩
      show progOf p g i = some fn
      unfold progOf
      rw [hr]; exact hfn
  · have hm := List.all_eq_true.mp h3 x hx
    simp only [Bool.and_eq_true, Bool.not_eq_true', Bool.or_eq_false_iff, List.contains_eq_mem, decide_eq_false_iff_not, bne_iff_ne, ne_eq] at hm
    obtain ⟨⟨⟨⟨⟨q1, q2⟩, q3⟩, q4⟩, q5⟩, q6⟩ := hm
    exact ⟨T.free x q1 q2 q3 q4 q5, T.builtins x q6⟩
  · obtain ⟨C, O, _⟩ := T.ownAt (map_eq_mem h4 x hx)
    refine ⟨C, ?_, O⟩
    show ecOf mg c = _
    unfold ecOf
    rw [idIn_get hc]
    dsimp only
    rw [O.bound]; rfl
end Mine

namespace Mine
open PySem PySem.Calls PySem.W PyProof.Rows
set_option maxRecDepth 100000

theorem top_call {G : Gd} (ok : GOk G) {n : Nat} {A : Around} {s : Shared} {l f : Addr} {i : Nat} {vs : List Value} {ns : List Int} (hH : G.H = s.heap) (hG : G.gens = s) (hp : G.pin = none) (hfr : A.frames = some []) (hdp : A.depth + 1 + 4 * n < recursionLimit) (hu : A.units + 3 + 100 * n < cLine) (hh : A.handled = none)
    (hf : FnAt G f i) (hl : s.heap.IsList l vs.toArray) (hI : IntsAre vs ns) (hz : ns.length ≤ cap) {b : Bool} {σ' : Sto} (hrun : callN G.P n false i [.ref 0] [.froz (ns.map .int)] = .ok (.bool b) σ') {Q : Value → Shared → Prop} {E : Value → Shared → Prop}
    (hQ : ∀ s', (∀ b o, s.heap.get? b = some o → s'.heap.get? b = some o) → s'.gens = s.gens → s'.os = s.os → Q (.bool b) s') : wpAny G.M A (call (.ref f) [.ref l]) Q E s := by
  obtain ⟨o, ho, hc, k, hd⟩ := hl
  have hw : ∀ a kl, (Wd.put (fun _ => none) l (some (.sto 0)) : Wd) a = some kl → a = l ∧ kl = .sto 0 := fun a kl h => by
    by_cases e : a = l
    · subst e; rw [put_self] at h; cases h; exact ⟨rfl, rfl⟩
    · rw [put_ne e] at h; cases h
  have inv : Inv G (Wd.put (fun _ => none) l (some (.sto 0))) [.froz (ns.map .int)] s := by
    refine ⟨fun b o e => by rw [hH] at e; exact e, fun a kl h => ?_, fun a b i h1 h2 => ?_, fun i hi => ?_, by rw [hG], by rw [hG], fun b o e => by rw [hp] at e; cases e⟩
    · obtain ⟨rfl, rfl⟩ := hw a kl h
      exact .sto ho rfl (.froz (by rw [hH]; exact ho) hc hd (intsAre_rel hI) (by rw [List.length_map]; exact hz))
    · rw [(hw a _ h1).1, (hw b _ h2).1]
    · have : i = 0 := by simpa using hi
      subst this; exact ⟨l, put_self⟩
  refine wpAny_mono (sound_call (hd := false) ok hf ⟨hfr, (fun e he => by cases he), hdp, hu, fun _ => ⟨hh, hp⟩⟩ inv (ds := [.ref 0]) (vs := [.ref l]) (.cons (.ref put_self) .nil) (by rw [hrun]; intro q; cases q)) (fun v s' q => ?_) fun v s' q => ?_
  · obtain ⟨d, σ₁, W₁, h1, h2, h3, h4⟩ := q
    rw [hrun] at h1; cases h1
    cases h4 with
    | bool b => exact hQ s' (fun c o e => h3.keep c o (by rw [hH]; exact e)) (h3.gens.trans (by rw [hG])) (h3.os.trans (by rw [hG]))
  · obtain ⟨c, σ₁, W', e, base, a0, h1, _⟩ := q
    rw [hrun] at h1; cases h1

noncomputable def isNm : Stmt → Bool
  | .Assign ts _ _ => (match ts with
    | [] => false
    | t :: _ => nameOf t == some (Str.ofString "__name__"))
  | _ => false
noncomputable def viewOf (p : Program) : Program := { p with main := { p.main with body := p.main.body.filter fun s => !isNm s } }
noncomputable def subHook (g : CG) : Hook := ⟨Bool, fun s => subObs g s.heap, fun _ => true, fun _ h => SubSays g h, fun _ _ e => sub_says e, fun _ _ _ x k => x.keeps k⟩
theorem law_end {view prog : Program} {w : World} {loose : List Str} {mean : ExcName → Option Value} {mg mb : Str → Option Value} {s : Shared} (T : Top view loose mean mg mb s.heap) (g : CG) (Y : SubSays g s.heap)
    (h1 : fnsOk view g = true) (h2 : conOk view g = true) (h3 : biOk view loose = true) (h4 : g.cls.map (specOf view) = g.cls.map fun _ => some ("ValueError.__new__", vbm)) {x : Str} (hx : g.fns.contains x = true) (hid : nameId x = some 32) {fa : Addr} (hmg : mg x = some (.ref fa))
    {ns : List Int} {l : Addr} {vs : List Value} (hL : s.heap.IsList l vs.toArray) (hI : IntsAre vs ns) (hlen : ¬ 63 < ns.length) {n : Nat} (hn : n ≤ 90) {σ' : Sto} (hrun : callN (progOf view g) n false 32 [.ref 0] [.froz (ns.map .int)] = .ok (.bool true) σ')
    {Q : Value → Shared → Prop} {E : Value → Shared → Prop} (hQ : ∀ s' : Shared, (∀ b o, s.heap.get? b = some o → s'.heap.get? b = some o) → s'.gens = s.gens → s'.os = s.os → Q (.bool true) s') :
    wpAny (model prog w) callerA (call (.ref fa) [.ref l]) Q E s := by
  have ok := gok_of_top (p' := prog) (w := w) (gens := s) T Y h1 h2 h3 h4
  obtain ⟨f, hf1, hf2⟩ := ok.fns x (by simpa using hx) 32 hid
  have hf : f = fa := by
    have : mg x = some (.ref f) := hf1
    rw [hmg] at this; injection this with this; injection this with this; exact this.symm
  subst hf
  refine top_call ok (n := n) rfl rfl rfl rfl ?_ ?_ rfl hf2 hL hI ?_ hrun hQ
  · show 301 + 1 + 4 * n < 1000
    omega
  · show 4 + 3 + 100 * n < 9900
    omega
  · have : 63 ≤ cap := by decide
    omega
end Mine

namespace Mine
open PySem PySem.W PySem.Calls PyProof.Rows

noncomputable abbrev qStep := @Fast.tw10156331382660048174
noncomputable abbrev qDen := @Fast.tw11892475500146522536
noncomputable abbrev qTree := @Fast.tw14364793385576792824
noncomputable abbrev qImp := @Fast.tw10274390034422433532
noncomputable abbrev qFence := @Fast.tw14289696077712309145
noncomputable abbrev qSeen := @Fast.tw4187177175401517315
noncomputable abbrev qStart := @Fast.tw1435165496053646825
noncomputable abbrev qOk := @Fast.tw6613529449190102663
noncomputable abbrev qNsMap := @Fast.tw8920871248978507458
noncomputable abbrev qSaid := @Fast.tw9446332074065402090
theorem qSaid_eq : @OpenLaw.wellSaid = qSaid := Fast.te9446332074065402090
theorem said_q {l : OpenLaw} (h : qSaid l = true) : l.wellSaid = true := by rw [qSaid_eq]; exact h
theorem qStep_eq : @stepT = qStep := Fast.te10156331382660048174
theorem qDen_eq : @denote = qDen := Fast.te11892475500146522536
theorem qTree_eq : treeTable = qTree := Fast.te14364793385576792824
theorem qImp_eq : @importEnds = qImp := Fast.te10274390034422433532
theorem qFence_eq : @fenceModules? = qFence := Fast.te14289696077712309145
theorem qSeen_eq : @openSeen = qSeen := Fast.te4187177175401517315
theorem qStart_eq : @start = qStart := Fast.te1435165496053646825
theorem qOk_eq : @stepOk = qOk := Fast.te6613529449190102663
theorem qNsMap_eq : @Heap.nsMap = qNsMap := Fast.te8920871248978507458

noncomputable def topRunT (tb : String → Option Builtin) (p : Program) (w : World) (n₀ : Nat) (ann : Option Value) : Nat → SharedT → Thread → Option SharedT
  | 0, _, _ => none
  | n + 1, s, t => match through t with
    | true => some s
    | false => match stepOk n₀ ann t with
      | false => none
      | true => match stepT (denote tb) p w s t with
        | some (s', t') => topRunT tb p w n₀ ann n s' t'
        | none => none
section
variable {tb : String → Option Builtin} {p : Program} {w : World} {n₀ : Nat} {ann : Option Value}
theorem topRun_of : ∀ {n : Nat} {s s' : SharedT} {t : Thread}, topRunT tb p w n₀ ann n s t = some s' → topRun tb p w n₀ ann n s.abs t = some s'.abs
  | 0, _, _, _, h => by cases h
  | n + 1, s, s', t, h => by
    unfold topRunT at h
    unfold topRun
    cases he : through t with
    | true => rw [he] at h; cases h; rfl
    | false =>
      rw [he] at h
      cases hk : stepOk n₀ ann t with
      | false => rw [hk] at h; cases h
      | true =>
        rw [hk] at h
        cases hs : stepT (denote tb) p w s t with
        | none => rw [hs] at h; cases h
        | some r => obtain ⟨s₂, t₂⟩ := r; rw [hs] at h; rw [stepT_spec hs]; exact topRun_of h
end
noncomputable def insAll : List Obj → BT → Nat → Option (BT × Nat)
  | [], t, n => some (t, n)
  | o :: r, t, n => match ((t.ins n o).get n).isSome with
    | true => insAll r (t.ins n o) (n + 1)
    | false => none
theorem insAll_abs (life : Life) : ∀ {l : List Obj} {t t' : BT} {n n' : Nat}, insAll l t n = some (t', n') → absHeap t' n' life = ⟨(absHeap t n life).objs ++ l.toArray, life⟩
  | [], t, t', n, n', h => by
    unfold insAll at h
    cases h
    simp [absHeap]
  | o :: r, t, t', n, n', h => by
    unfold insAll at h
    cases e : ((t.ins n o).get n).isSome with
    | false => rw [e] at h; cases h
    | true =>
      rw [e] at h
      rw [insAll_abs life h, absHeap_ins e]
      simp [Heap.push]
noncomputable def sharedT (s : Shared) : Option SharedT := match insAll s.heap.objs.toList .nil 0 with
  | some q => some ⟨q.1, q.2, s.heap.life, s.gens, s.drawn, s.toks, s.os⟩
  | none => none
theorem sharedT_abs {s : Shared} {t : SharedT} (h : sharedT s = some t) : t.abs = s := by
  unfold sharedT at h
  cases e : insAll s.heap.objs.toList .nil 0 with
  | none => rw [e] at h; cases h
  | some q =>
    rw [e] at h
    cases h
    obtain ⟨⟨objs, life⟩, gens, drawn, toks, os⟩ := s
    show Shared.mk (absHeap q.1 q.2 life) _ _ _ _ = _
    rw [insAll_abs life e]
    simp [absHeap, BT.list]
noncomputable def topFromT (tb : String → Option Builtin) (p : Program) (w : World) (N : Nat) (s₀ : Shared) : Option Shared :=
  match s₀.heap.isNs mainGlobals && s₀.gens.size == 0 with
  | true => match sharedT s₀ with
    | some t => match topRunT tb p w s₀.heap.objs.size (s₀.heap.nsMap mainGlobals "__annotations__") N t (topStub p) with
      | some t₁ => match staticsOk (importedModules p.main.body) s₀.heap t₁.abs.heap && namesBound p t₁.abs.heap && gensDone t₁.abs && laidKept s₀.heap t₁.abs.heap with
        | true => some t₁.abs
        | false => none
      | none => none
    | none => none
  | false => none
theorem topFrom_of {tb : String → Option Builtin} {p : Program} {w : World} {N : Nat} {s₀ s₁ : Shared} (h : topFromT tb p w N s₀ = some s₁) : topFrom tb p w N s₀ = some s₁ := by
  unfold topFromT at h
  unfold topFrom
  cases e : (s₀.heap.isNs mainGlobals && s₀.gens.size == 0) with
  | false => rw [e] at h; cases h
  | true =>
    rw [e] at h
    cases e1 : sharedT s₀ with
    | none => rw [e1] at h; cases h
    | some t =>
      rw [e1] at h
      dsimp only at h ⊢
      cases e2 : topRunT tb p w s₀.heap.objs.size (s₀.heap.nsMap mainGlobals "__annotations__") N t (topStub p) with
      | none => rw [e2] at h; cases h
      | some t₁ =>
        rw [e2] at h
        have := topRun_of e2
        rw [sharedT_abs e1] at this
        rw [this]
        dsimp only at h
        show (match staticsOk (importedModules p.main.body) s₀.heap t₁.abs.heap && namesBound p t₁.abs.heap && gensDone t₁.abs && laidKept s₀.heap t₁.abs.heap with
          | true => some t₁.abs
          | false => none) = _
        exact h
theorem leftO_of {p q : Program} {loose : List Str} {Xt : Shared → Bool} {α : Type} {Yf : Shared → α} {Ya : World → α} {N : Nat} {g0 : Bool}
    (h : ∀ w, (match fencedOpening treeTable p w N with
      | some s₀ => (match topFromT treeTable p w N s₀ with
        | some s => some (openSeen q loose (importedModules p.main.body) Xt g0 s, Yf s)
        | none => none)
      | none => none) = some (openGood q loose, Ya w)) : LeftO p q loose Xt Yf Ya N g0 := fun w => by
  have h := h w
  unfold openEnds
  cases e : fencedOpening treeTable p w N with
  | none => rw [e] at h; cases h
  | some s₀ =>
    rw [e] at h
    dsimp only at h
    cases e2 : topFromT treeTable p w N s₀ with
    | none => rw [e2] at h; cases h
    | some s =>
      rw [e2] at h
      rw [Option.bind_some, topFrom_of e2]
      exact h
noncomputable def topRunQ (p : Program) (w : World) (n₀ : Nat) (ann : Option Value) : Nat → SharedT → Thread → Option SharedT
  | 0, _, _ => none
  | n + 1, s, t => match through t with
    | true => some s
    | false => match qOk n₀ ann t with
      | false => none
      | true => match qStep (qDen qTree) p w s t with
        | some (s', t') => topRunQ p w n₀ ann n s' t'
        | none => none
theorem topRunQ_eq (p : Program) (w : World) (n₀ : Nat) (ann : Option Value) : ∀ (n : Nat) (s : SharedT) (t : Thread), topRunT treeTable p w n₀ ann n s t = topRunQ p w n₀ ann n s t
  | 0, _, _ => rfl
  | n + 1, s, t => by
    unfold topRunT topRunQ
    rw [← qOk_eq, ← qStep_eq, ← qDen_eq, ← qTree_eq]
    cases through t with
    | true => rfl
    | false =>
      cases stepOk n₀ ann t with
      | false => rfl
      | true =>
        cases stepT (denote treeTable) p w s t with
        | none => rfl
        | some r => exact topRunQ_eq p w n₀ ann n r.1 r.2
noncomputable def fencedQ (p : Program) (w : World) (N : Nat) : Option Shared := (qImp qTree (opening p) w N (qStart (opening p)).1 (qStart (opening p)).2).bind (qFence p)
theorem fencedQ_eq (p : Program) (w : World) (N : Nat) : fencedOpening treeTable p w N = fencedQ p w N := by
  unfold fencedOpening fencedQ
  rw [← qImp_eq, ← qStart_eq, ← qFence_eq, ← qTree_eq]
noncomputable def topFromQ (p : Program) (w : World) (N : Nat) (s₀ : Shared) : Option Shared :=
  match s₀.heap.isNs mainGlobals && s₀.gens.size == 0 with
  | true => match sharedT s₀ with
    | some t => match topRunQ p w s₀.heap.objs.size (qNsMap s₀.heap mainGlobals "__annotations__") N t (topStub p) with
      | some t₁ => match staticsOk (importedModules p.main.body) s₀.heap t₁.abs.heap && namesBound p t₁.abs.heap && gensDone t₁.abs && laidKept s₀.heap t₁.abs.heap with
        | true => some t₁.abs
        | false => none
      | none => none
    | none => none
  | false => none
theorem topFromQ_eq (p : Program) (w : World) (N : Nat) (s₀ : Shared) : topFromT treeTable p w N s₀ = topFromQ p w N s₀ := by
  unfold topFromT topFromQ
  rw [← qNsMap_eq]
  cases s₀.heap.isNs mainGlobals && s₀.gens.size == 0 with
  | false => rfl
  | true =>
    cases sharedT s₀ with
    | none => rfl
    | some t =>
      dsimp only
      rw [topRunQ_eq]
theorem leftO_q {p q : Program} {loose : List Str} {Xt : Shared → Bool} {α : Type} {Yf : Shared → α} {Ya : World → α} {N : Nat} {g0 : Bool}
    (h : ∀ w, (match fencedQ p w N with
      | some s₀ => (match topFromQ p w N s₀ with
        | some s => some (qSeen q loose (importedModules p.main.body) Xt g0 s, Yf s)
        | none => none)
      | none => none) = some (openGood q loose, Ya w)) : LeftO p q loose Xt Yf Ya N g0 := leftO_of fun w => by
  have h := h w
  rw [← fencedQ_eq, ← qSeen_eq] at h
  cases e : fencedOpening treeTable p w N with
  | none => rw [e] at h; exact h
  | some s₀ =>
    rw [e] at h
    dsimp only at h ⊢
    rw [topFromQ_eq]; exact h
noncomputable def runQ (p : Program) (w : World) (N : Nat) : Option Shared := (fencedQ p w N).bind (topFromQ p w N)
theorem leftO_q2 {p q : Program} {loose : List Str} {Xt : Shared → Bool} {α : Type} {Yf : Shared → α} {Ya : World → α} {N : Nat} {g0 : Bool}
    (h1 : ∀ w, (runQ p w N).map (qSeen q loose (importedModules p.main.body) Xt g0) = some (openGood q loose)) (h2 : ∀ w, (runQ p w N).map Yf = some (Ya w)) : LeftO p q loose Xt Yf Ya N g0 := leftO_q fun w => by
  have a := h1 w
  have b := h2 w
  unfold runQ at a b
  cases e : fencedQ p w N with
  | none => rw [e] at a; cases a
  | some s₀ =>
    rw [e, Option.bind_some] at a b
    dsimp only
    cases e2 : topFromQ p w N s₀ with
    | none => rw [e2] at a; cases a
    | some s =>
      rw [e2, Option.map_some] at a b
      injection a with a; injection b with b
      dsimp only
      rw [a, b]
end Mine

namespace Mine.Pu
open PySem
set_option maxRecDepth 100000

theorem pyEq_int (σ : Sto) (a b : Int) : pyEq σ (.int a) (.int b) = some (a == b) := rfl
theorem rd_list {n k : Nat} {σ : Sto} {ds : List D} (h : σ[k]? = some (.list ds)) : rd (n + 1) σ (.ref k) = (ds.mapM (rd n σ)).map .list := by
  show (match σ[k]? with
      | some (.list ds) => (ds.mapM (rd n σ)).map PyData.list
      | some (.froz ds) => (ds.mapM (rd n σ)).map PyData.list
      | _ => none) = _
  rw [h]
theorem get_last (σ : Sto) (o : AObj) : (σ ++ [o])[σ.length]? = some o := by simp
theorem pre_get {σ σ' : Sto} (h : σ <+: σ') {i : Nat} {o : AObj} (e : σ[i]? = some o) : σ'[i]? = some o := by
  obtain ⟨t, rfl⟩ := h
  rw [List.getElem?_append_left (List.getElem?_eq_some_iff.mp e).1]; exact e
section
variable {σ : Sto}
theorem bo_mul (x y : Int) (h : x.natAbs < 2 ^ 64 ∨ y.natAbs < 2 ^ 64) : binOp .mul (.int x) (.int y) σ = .ok (.int (x * y)) σ := by
  show Cm.opt ((if x.natAbs < 2 ^ 64 ∨ y.natAbs < 2 ^ 64 then some (x * y) else none).map D.int) σ = _
  rw [if_pos h]; rfl
theorem bo_mod (x y : Int) (h : 0 < y) : binOp .mod (.int x) (.int y) σ = .ok (.int (x % y)) σ := by
  show Cm.opt ((if 0 < y then some (x % y) else none).map D.int) σ = _
  rw [if_pos h]; rfl
theorem co_eq {a b : D} {t : Bool} (h : pyEq σ a b = some t) : cmpOp .eq a b σ = .ok (.bool t) σ := by
  show Cm.opt ((pyEq σ a b).map D.bool) σ = _
  rw [h]; rfl
theorem co_ne {a b : D} {t : Bool} (h : pyEq σ a b = some t) : cmpOp .ne a b σ = .ok (.bool (!t)) σ := by
  show Cm.opt ((pyEq σ a b).map fun x => D.bool (!x)) σ = _
  rw [h]; rfl
theorem co_eqi (x y : Int) : cmpOp .eq (.int x) (.int y) σ = .ok (.bool (x == y)) σ := co_eq (pyEq_int σ x y)
theorem co_nei (x y : Int) : cmpOp .ne (.int x) (.int y) σ = .ok (.bool (!(x == y))) σ := co_ne (pyEq_int σ x y)
theorem idx_nat {k n : Nat} (h : k < n) : idx? (k : Int) n = some k := by
  unfold idx?
  simp only [show ¬ ((k : Int) < 0) by omega, if_false]
  rw [if_pos (by omega)]; simp
theorem so_seq {d : D} {ds : List D} {k : Nat} {v : D} (hs : seqOf σ d = some ds) (h : ds[k]? = some v) : subOp d (.int k) σ = .ok v σ := by
  unfold subOp
  rw [hs]
  show Cm.opt ((idx? k ds.length).bind (ds[·]?)) σ = _
  rw [idx_nat (List.getElem?_eq_some_iff.mp h).1, Option.bind_some, h]; rfl
theorem seqOf_list {n : Nat} {ds : List D} (h : σ[n]? = some (.list ds)) : seqOf σ (.ref n) = some ds := by
  unfold seqOf; simp only [h]
theorem seqOf_froz {n : Nat} {ds : List D} (h : σ[n]? = some (.froz ds)) : seqOf σ (.ref n) = some ds := by
  unfold seqOf; simp only [h]
theorem listAt_list {n : Nat} {ds : List D} (h : σ[n]? = some (.list ds)) : listAt σ (.ref n) = some ds := by
  unfold listAt; simp only [h]
theorem len_seq {d : D} {ds : List D} (hs : seqOf σ d = some ds) : callBi .len [d] σ = .ok (.int ds.length) σ := by
  show Cm.opt ((lenOf σ d).map fun (n : Nat) => D.int (n : Int)) σ = _
  unfold lenOf
  rw [hs]; rfl
theorem clip_nat {k n : Nat} (h : k ≤ n) : clip (k : Int) n = k := by
  unfold clip
  simp only [show ¬ ((k : Int) < 0) by omega, if_false, show ¬ ((n : Int) < (k : Int)) by omega]
  simp
end

section
variable {hd : Bool} {cl : Bool → Call} {ρ : Rho} {σ σ1 σ2 σ3 : Sto} {R : Res D}
theorem e_b {e : CE} {b b' : Bool} (h : ev hd cl e ρ σ = .ok (.bool b) σ1) (hb : b = b') : ev hd cl e ρ σ = .ok (.bool b') σ1 := hb ▸ h
theorem bnd_ok {α β : Type} {r : Cm α} {k : α → Cm β} {a : α} {R : Res β} (h : r σ = .ok a σ1) (h2 : k a σ1 = R) : r.bnd k σ = R := by
  rw [Cm.bnd_ap, h]; exact h2
theorem ab_ok {r : Cm D} {b : Bool} (h : r σ = .ok (.bool b) σ1) : asBool r σ = .ok b σ1 := bnd_ok h rfl
theorem es_nil : evs hd cl [] ρ σ = .ok [] σ := rfl
theorem es_cons {e : CE} {es : List CE} {d : D} {ds : List D} (h : ev hd cl e ρ σ = .ok d σ1) (h2 : evs hd cl es ρ σ1 = .ok ds σ2) : evs hd cl (e :: es) ρ σ = .ok (d :: ds) σ2 :=
  bnd_ok h (bnd_ok h2 rfl)
theorem e_bin {o : Bop} {l r : CE} {a b : D} (h : ev hd cl l ρ σ = .ok a σ1) (h2 : ev hd cl r ρ σ1 = .ok b σ2) (h3 : binOp o a b σ2 = R) : ev hd cl (.bin o l r) ρ σ = R :=
  bnd_ok h (bnd_ok h2 h3)
theorem e_cmp {o : Cop} {l r : CE} {a b : D} (h : ev hd cl l ρ σ = .ok a σ1) (h2 : ev hd cl r ρ σ1 = .ok b σ2) (h3 : cmpOp o a b σ2 = R) : ev hd cl (.cmp o l r) ρ σ = R :=
  bnd_ok h (bnd_ok h2 h3)
theorem e_sub {l r : CE} {a b : D} (h : ev hd cl l ρ σ = .ok a σ1) (h2 : ev hd cl r ρ σ1 = .ok b σ2) (h3 : subOp a b σ2 = R) : ev hd cl (.sub l r) ρ σ = R :=
  bnd_ok h (bnd_ok h2 h3)
theorem e_callF {f : Nat} {as : List CE} {ds : List D} (h : evs hd cl as ρ σ = .ok ds σ1) (h2 : cl hd f ds σ1 = R) : ev hd cl (.callF f as) ρ σ = R := bnd_ok h h2
theorem e_callB {f : Bi} {as : List CE} {ds : List D} (h : evs false cl as ρ σ = .ok ds σ1) (h2 : callBi f ds σ1 = R) : ev false cl (.callB f as) ρ σ = R := bnd_ok h h2
theorem e_not {e : CE} {b : Bool} (h : ev hd cl e ρ σ = .ok (.bool b) σ1) : ev hd cl (.not e) ρ σ = .ok (.bool (!b)) σ1 := bnd_ok (ab_ok h) rfl
theorem e_and1 {e : CE} {es : List CE} (h : ev hd cl e ρ σ = .ok (.bool true) σ1) (h2 : evAnd hd cl es ρ σ1 = R) : evAnd hd cl (e :: es) ρ σ = R := bnd_ok (ab_ok h) h2
theorem e_and0 {e : CE} {es : List CE} (h : ev hd cl e ρ σ = .ok (.bool false) σ1) : evAnd hd cl (e :: es) ρ σ = .ok (.bool false) σ1 := bnd_ok (ab_ok h) rfl
theorem e_or0 {e : CE} {es : List CE} (h : ev hd cl e ρ σ = .ok (.bool false) σ1) (h2 : evOr hd cl es ρ σ1 = R) : evOr hd cl (e :: es) ρ σ = R := bnd_ok (ab_ok h) h2
theorem e_cmp2 {o p : Cop} {a b c : CE} {x y z : D} (h : ev hd cl a ρ σ = .ok x σ1) (h2 : ev hd cl b ρ σ1 = .ok y σ2) (h3 : cmpOp o x y σ2 = .ok (.bool true) σ2) (h4 : ev hd cl c ρ σ2 = .ok z σ3) (h5 : cmpOp p y z σ3 = R) :
    ev hd cl (.cmp2 o p a b c) ρ σ = R := bnd_ok h (bnd_ok h2 (bnd_ok (ab_ok h3) (bnd_ok h4 h5)))
theorem e_slice {o : CE} {lo hi : Option CE} {a : D} {l r : Option D} (h : ev hd cl o ρ σ = .ok a σ1) (h2 : evo hd cl lo ρ σ1 = .ok l σ1) (h3 : evo hd cl hi ρ σ1 = .ok r σ1) (h4 : sliceOp a l r σ1 = R) : ev hd cl (.slice o lo hi) ρ σ = R :=
  bnd_ok h (bnd_ok h2 (bnd_ok h3 h4))
theorem e_methL {o : CE} {n : Nat} {e : CE} {ds : List D} {d : D} (h : ev false cl o ρ σ = .ok (.ref n) σ) (hi : σ[n]? = some (.list ds))
    (h2 : ev false cl e ρ σ = .ok d σ) (h3 : ds.length < most) : ev false cl (.meth o 0 [e]) ρ σ = .ok .none (σ.set n (.list (ds ++ [d]))) :=
  bnd_ok h (bnd_ok (a := ()) (σ1 := σ) (if_pos ⟨rfl, rfl, by rw [listAt_list hi]; rfl⟩) (bnd_ok (es_cons h2 es_nil) (by
      show methL (.ref n) [d] σ = _
      unfold methL
      dsimp only
      rw [listAt_list hi]
      dsimp only
      rw [if_pos ⟨rfl, h3⟩])))
theorem i_range {e : CE} {k : Int} (h : ev false cl e ρ σ = .ok (.int k) σ1) (hk : -(most : Int) ≤ k ∧ k ≤ most) : evi false cl (.range e) ρ σ = .ok ⟨(List.range k.toNat).map fun (i : Nat) => D.int (i : Int), []⟩ σ1 :=
  (bnd_ok h (by
    show Cm.opt (if -(most : Int) ≤ k ∧ k ≤ most then some (Src.mk ((List.range k.toNat).map fun (i : Nat) => D.int (i : Int)) []) else none) σ1 = _
    rw [if_pos hk]; rfl) : ((ev false cl e ρ).bnd fun d => Cm.opt ((intOf d).bind fun n => if -(most : Int) ≤ n ∧ n ≤ most then some (Src.mk ((List.range n.toNat).map fun (i : Nat) => D.int (i : Int)) []) else none)) σ = _)
theorem i_list {e : CE} {k : Nat} {ds : List D} (h : ev false cl e ρ σ = .ok (.ref k) σ1) (hi : σ1[k]? = some (.list ds)) : evi false cl (.ev e) ρ σ = .ok ⟨ds, [(k, .list ds)]⟩ σ1 :=
  (bnd_ok h (by
    show Cm.opt (itemsOf σ1 (.ref k)) σ1 = _
    unfold itemsOf
    simp only [hi]; rfl) : ((ev false cl e ρ).bnd fun d => fun σ => Cm.opt (itemsOf σ d) σ) σ = _)
theorem e_comp {elt : CE} {k : Nat} {it : CI} {src : Src} {ds : List D} (h : evi hd cl it ρ σ = .ok src σ1) (h2 : compGo (fun ρ => ev (it.isKeys || hd) cl elt ρ) none k ρ src.st src.items [] σ1 = .ok ds σ2) :
    ev hd cl (.comp elt k it none) ρ σ = .ok (.ref σ2.length) (σ2 ++ [.list ds]) := bnd_ok h (bnd_ok h2 rfl)
theorem e_compc {elt c : CE} {k : Nat} {it : CI} {src : Src} {ds : List D} (h : evi hd cl it ρ σ = .ok src σ1) (h2 : compGo (fun ρ => ev (it.isKeys || hd) cl elt ρ) (some fun ρ => ev (it.isKeys || hd) cl c ρ) k ρ src.st src.items [] σ1 = .ok ds σ2) :
    ev hd cl (.comp elt k it (some c)) ρ σ = .ok (.ref σ2.length) (σ2 ++ [.list ds]) := bnd_ok h (bnd_ok h2 rfl)
end

theorem stands_nil (σ : Sto) : Stands σ [] := fun _ h => nomatch h
theorem stands_one {σ : Sto} {n : Nat} {o : AObj} (h : σ[n]? = some o) : Stands σ [(n, o)] := fun p hp => by
  cases hp with
  | head => exact h
  | tail _ h => cases h
theorem comp_map {elt : Rho → Cm D} {ρ : Rho} {σ : Sto} {st : List (Nat × AObj)} {f : D → D} (hst : Stands σ st) : ∀ (items acc : List D), (∀ d ∈ items, elt (ρ ++ [some d]) σ = .ok (f d) σ) → compGo elt none 1 ρ st items acc σ = .ok (acc.reverse ++ items.map f) σ
  | [], acc, _ => by rw [compGo_nil, if_pos hst, List.map_nil, List.append_nil]
  | d :: r, acc, h => by
    rw [compGo_cons, if_pos hst]
    simp only [unpackT, if_true, List.map_cons, List.map_nil]
    rw [h d (.head _)]
    dsimp only
    rw [comp_map hst r (f d :: acc) fun x hx => h x (.tail _ hx)]
    simp
section
variable {cl : Bool → Call} {hd : Bool} {i : Nat} {e : CE} {r : List CS} {ρ ρ' : Rho} {σ σ' σ'' : Sto} {d : D} {R : Res Fl}
theorem x_go {s : CS} (h : ex cl hd s ρ σ = .ok (.next ρ') σ') (h2 : exs cl hd r ρ' σ' = R) : exs cl hd (s :: r) ρ σ = R := bnd_ok h h2
noncomputable def isN : Fl → Bool
  | .next _ => true
  | _ => false
theorem x_out {s : CS} {fl : Fl} (h : ex cl hd s ρ σ = .ok fl σ') (hn : isN fl = false := by rfl) : exs cl hd (s :: r) ρ σ = .ok fl σ' :=
  bnd_ok h (by
    cases fl with
    | next ρ => cases hn
    | _ => rfl)
theorem x_asg (d : D) (h : ev hd cl e ρ σ = .ok d σ') (hs : setVars ρ [i] [d] = some ρ') (h2 : exs cl hd r ρ' σ' = R) : exs cl hd (.asg i e :: r) ρ σ = R :=
  x_go ((Cm.stm_ok h).trans (by rw [hs]; rfl)) h2
theorem x_ret (d : D) (h : ev hd cl e ρ σ = .ok d σ') : exs cl hd (.ret (some e) :: r) ρ σ = .ok (.ret d) σ' := x_out (Cm.stm_ok h)
theorem x_expr (d : D) (h : ev hd cl e ρ σ = .ok d σ') (h2 : exs cl hd r ρ σ' = R) : exs cl hd (.expr e :: r) ρ σ = R := x_go (Cm.stm_ok h) h2
theorem x_ift {t f : List CS} (h : ev hd cl e ρ σ = .ok (.bool true) σ') (h2 : exs cl hd t ρ σ' = .ok (.next ρ') σ'') (h3 : exs cl hd r ρ' σ'' = R) : exs cl hd (.iff e t f :: r) ρ σ = R :=
  x_go ((Cm.stm_ok (ab_ok h)).trans h2) h3
theorem x_ifo {t f : List CS} {fl : Fl} (h : ev hd cl e ρ σ = .ok (.bool true) σ') (h2 : exs cl hd t ρ σ' = .ok fl σ'') (hn : isN fl = false := by rfl) : exs cl hd (.iff e t f :: r) ρ σ = .ok fl σ'' :=
  x_out ((Cm.stm_ok (ab_ok h)).trans h2) hn
theorem x_skip {t : List CS} (h : ev hd cl e ρ σ = .ok (.bool false) σ') (h2 : exs cl hd r ρ σ' = R) : exs cl hd (.iff e t [] :: r) ρ σ = R :=
  x_go (Cm.stm_ok (ab_ok h)) h2
theorem x_for {is : List Nat} {it : CI} {b : List CS} (src : Src) (h : evi hd cl it ρ σ = .ok src σ') (h2 : forGo (fun ρ => exs cl hd b ρ) is src.st src.items ρ σ' = .ok (.next ρ') σ'') (h3 : exs cl hd r ρ' σ'' = R) : exs cl hd (.for is it b :: r) ρ σ = R :=
  x_go ((Cm.stm_ok h).trans h2) h3
theorem x_try {ids : List Nat} {b h' : List CS} {t : Nat} (h : exs cl false b ρ σ = .ok (.next ρ') σ') (h2 : exs cl false r ρ' σ' = R) : exs cl false (.try ids b t h' :: r) ρ σ = R :=
  x_go (by
    show (exs cl false b ρ σ).bind _ = _
    rw [h]; rfl) h2
theorem x_tryX {ids : List Nat} {b h : List CS} {t c : Nat} (h1 : exs cl false b ρ σ = .ok (.exc c ρ') σ') (hc : (ids.contains c && excSub c t) = true) (h2 : exs cl true h ρ' σ' = .ok (.ret d) σ'') : exs cl false (.try ids b t h :: r) ρ σ = .ok (.ret d) σ'' :=
  x_out (by
    show (exs cl false b ρ σ).bind _ = _
    rw [h1]
    show (if (ids.contains c && excSub c t) = true then afterH (exs cl true h ρ' σ') else Res.stuck) = _
    rw [if_pos hc, h2]; rfl)
end

section
variable {P : Prog} {n f : Nat} {hd : Bool} {as : List D} {σ σ' : Sto} {d : D} {fn : CFn}
noncomputable def rho0 (fn : CFn) (as : List D) : Rho := as.map some ++ List.replicate (fn.nv - fn.np) none
noncomputable def okN (as : List D) (fn : CFn) : Bool := as.length == fn.np && decide (fn.np ≤ fn.nv)
theorem callN_eq (h : P f = some fn) (hl : okN as fn = true) : callN P (n + 1) hd f as σ = endCall (exs (callN P n) hd fn.body (rho0 fn as) σ) := by
  have hl := Bool.and_eq_true_iff.mp hl
  rw [callN_succ, h]
  dsimp only
  rw [if_pos ⟨eq_of_beq hl.1, of_decide_eq_true hl.2⟩]; rfl
theorem c_ret (h : P f = some fn) (hb : exs (callN P n) hd fn.body (rho0 fn as) σ = .ok (.ret d) σ') (hl : okN as fn = true := by rfl) : callN P (n + 1) hd f as σ = .ok d σ' :=
  (callN_eq h hl).trans (congrArg endCall hb)
theorem c_exc {ρ : Rho} {c : Nat} (h : P f = some fn) (hb : exs (callN P n) hd fn.body (rho0 fn as) σ = .ok (.exc c ρ) σ') (hl : okN as fn = true := by rfl) : callN P (n + 1) hd f as σ = .exc c σ' :=
  (callN_eq h hl).trans (congrArg endCall hb)
noncomputable def Has (P : Prog) (tab : List (Nat × CFn)) : Prop := tab.map (fun q => P q.1) = tab.map fun q => some q.2
theorem Has.get {tab : List (Nat × CFn)} (H : Has P tab) (k : Nat) {i : Nat} (e : tab[k]? = some (i, fn)) : P i = some fn := by
  have := congrArg (·[k]?) H
  simpa [e] using this
end
theorem for_step1 {body : Rho → Cm Fl} {is : List Nat} {st : List (Nat × AObj)} {d : D} {r : List D} {ρ ρ₁ ρ' : Rho} {σ σ' : Sto} {R : Res Fl} (hst : Stands σ st) (h1 : (unpackT σ is.length d).bind (setVars ρ is) = some ρ₁) (h2 : body ρ₁ σ = .ok (.next ρ') σ') (h3 : forGo body is st r ρ' σ' = R) : forGo body is st (d :: r) ρ σ = R := by
  rw [forGo_cons, if_pos hst, h1]
  dsimp only
  rw [h2]; exact h3
theorem for_done1 {body : Rho → Cm Fl} {is : List Nat} {st : List (Nat × AObj)} {ρ : Rho} {σ : Sto} (hst : Stands σ st) : forGo body is st [] ρ σ = .ok (.next ρ) σ := by
  rw [forGo_nil, if_pos hst]
theorem mod_nat (c : Int) {k : Nat} (hk : 0 < k) : ∃ q : Nat, c % k = q ∧ q < k := by
  have h1 := Int.emod_nonneg c (show (k : Int) ≠ 0 by omega)
  have h2 := Int.emod_lt_of_pos c (show (0 : Int) < k by omega)
  exact ⟨(c % k).toNat, by omega, by omega⟩
section
variable {hd : Bool} {cl : Bool → Call} {ρ : Rho} {σ σ1 : Sto} {es : List CE} {ds : List D}
theorem e_tup (h : evs hd cl es ρ σ = .ok ds σ1) : ev hd cl (.tup es) ρ σ = .ok (.tup ds) σ1 := bnd_ok h rfl
theorem e_list (h : evs hd cl es ρ σ = .ok ds σ1) : ev hd cl (.list es) ρ σ = .ok (.ref σ1.length) (σ1 ++ [.list ds]) := bnd_ok h rfl
theorem e_and3 {e : CE} {a b : Bool} (h : ev hd cl e ρ σ = .ok (.bool a) σ) (h2 : a = true → evAnd hd cl es ρ σ = .ok (.bool b) σ) : evAnd hd cl (e :: es) ρ σ = .ok (.bool (a && b)) σ :=
  bnd_ok (ab_ok h) (by
    cases a with
    | false => rfl
    | true => exact h2 rfl)
theorem e_or3 {e : CE} {a b : Bool} (h : ev hd cl e ρ σ = .ok (.bool a) σ) (h2 : evOr hd cl es ρ σ = .ok (.bool b) σ) : evOr hd cl (e :: es) ρ σ = .ok (.bool (a || b)) σ :=
  bnd_ok (ab_ok h) (by
    cases a with
    | false => exact h2
    | true => rfl)
theorem co_lt {x y : Int} {b : Bool} (h : decide (x < y) = b) : cmpOp .lt (.int x) (.int y) σ = .ok (.bool b) σ := h ▸ rfl
theorem co_gt {x y : Int} {b : Bool} (h : decide (y < x) = b) : cmpOp .gt (.int x) (.int y) σ = .ok (.bool b) σ := h ▸ rfl
theorem get_mid {σ t : Sto} {o : AObj} : (σ ++ o :: t)[σ.length]? = some o := by rw [List.getElem?_append_right (Nat.le_refl _), Nat.sub_self]; rfl
theorem set_mid {σ t : Sto} {o o' : AObj} : (σ ++ o :: t).set σ.length o' = σ ++ o' :: t := by
  rw [List.set_append_right _ _ (Nat.le_refl _), Nat.sub_self]; rfl
theorem intsOf_map : ∀ l : List Int, intsOf (l.map .int) = some l
  | [] => rfl
  | a :: l => by
    have := intsOf_map l
    unfold intsOf at this ⊢
    rw [List.map_cons, List.mapM_cons, this]; rfl
theorem sum_list {r : Nat} {ds : List D} {l : List Int} (h : σ[r]? = some (.list ds)) (hi : intsOf ds = some l) : callBi .sum [.ref r] σ = .ok (.int l.sum) σ := by
  show Cm.opt ((listAt σ (.ref r)).bind fun ds => (intsOf ds).map fun l => D.int l.sum) σ = _
  rw [listAt_list h, Option.bind_some, hi]; rfl
theorem sl_list {A : Nat} {ds : List D} {lo hi : Option D} {o : AObj} (h : σ[A]? = some (.list ds)) (e : sliceList ds lo hi = some o) : sliceOp (.ref A) lo hi σ = .ok (.ref σ.length) (σ ++ [o]) := by
  unfold sliceOp
  rw [show tupOf (.ref A) = none from rfl, seqOf_list h]
  show allocO (sliceList ds lo hi) σ = _
  rw [e]; rfl
theorem bo_list {a b : Nat} {xs ys : List D} (h1 : σ[a]? = some (.list xs)) (h2 : σ[b]? = some (.list ys)) (hl : xs.length + ys.length ≤ most) : binOp .add (.ref a) (.ref b) σ = .ok (.ref σ.length) (σ ++ [.list (xs ++ ys)]) := by
  show binL .add (.ref a) (.ref b) σ = _
  unfold binL
  rw [listAt_list h1]
  show addL xs (.ref b) σ = _
  unfold addL
  rw [listAt_list h2]
  dsimp only
  rw [if_pos hl]; rfl
end
theorem comp_on {α : Type} {elt c : Rho → Cm D} {ρ : Rho} {σ : Sto} {st : List (Nat × AObj)} {h : α → D} {b : α → Bool} {f : α → D} (hst : Stands σ st) : ∀ (l : List α) (acc : List D), (∀ x ∈ l, c (ρ ++ [some (h x)]) σ = .ok (.bool (b x)) σ ∧ elt (ρ ++ [some (h x)]) σ = .ok (f x) σ) →
    compGo elt (some c) 1 ρ st (l.map h) acc σ = .ok (acc.reverse ++ (l.filter b).map f) σ
  | [], acc, _ => by rw [List.map_nil, compGo_nil, if_pos hst, List.filter_nil, List.map_nil, List.append_nil]
  | x :: l, acc, hx => by
    rw [List.map_cons, compGo_cons, if_pos hst]
    simp only [unpackT, if_true, List.map_cons, List.map_nil]
    obtain ⟨h1, h2⟩ := hx x (.head _)
    rw [h1]
    have ih := fun acc => comp_on hst l acc fun x hx' => hx x (.tail _ hx')
    cases hb : b x with
    | true =>
      show (match elt (ρ ++ [some (h x)]) σ with
        | .ok v σ'' => compGo elt (some c) 1 ρ st (l.map h) (v :: acc) σ''
        | _ => Res.stuck) = _
      rw [h2]
      dsimp only
      rw [ih, List.filter_cons_of_pos hb, List.reverse_cons, List.append_assoc]; rfl
    | false =>
      show compGo elt (some c) 1 ρ st (l.map h) acc σ = _
      rw [ih, List.filter_cons_of_neg (by rw [hb]; exact Bool.false_ne_true)]
theorem comp_two {α : Type} {elt : Rho → Cm D} {ρ : Rho} {σ : Sto} {st : List (Nat × AObj)} {h1 h2 f : α → D} (hst : Stands σ st) : ∀ (l : List α) (acc : List D), (∀ x ∈ l, elt (ρ ++ [some (h1 x), some (h2 x)]) σ = .ok (f x) σ) →
    compGo elt none 2 ρ st (l.map fun x => .tup [h1 x, h2 x]) acc σ = .ok (acc.reverse ++ l.map f) σ
  | [], acc, _ => by rw [List.map_nil, compGo_nil, if_pos hst, List.map_nil, List.append_nil]
  | x :: l, acc, hx => by
    rw [List.map_cons, compGo_cons, if_pos hst]
    show (match elt (ρ ++ [some (h1 x), some (h2 x)]) σ with
        | .ok v σ'' => compGo elt none 2 ρ st (l.map fun x => D.tup [h1 x, h2 x]) (v :: acc) σ''
        | _ => Res.stuck) = _
    rw [hx x (.head _)]
    dsimp only
    rw [comp_two hst l (f x :: acc) fun y hy => hx y (.tail _ hy), List.reverse_cons, List.append_assoc]; rfl
end Mine.Pu

namespace Mine.Pu
open PySem
set_option maxRecDepth 100000
noncomputable def fn__law_whole : CFn := ⟨1, 1, [.ret (some (.and [(.isinst (.loc 0) .int), (.not (.isinst (.loc 0) .bool))]))]⟩
noncomputable def fn__law_cell_at : CFn := ⟨2, 2, [.iff (.cmp .lt (.loc 1) (.callB .len [(.loc 0)])) [.ret (some (.sub (.loc 0) (.loc 1)))] [], .ret (some (.lit (.int 0)))]⟩
noncomputable def fn__law_free_by : CFn := ⟨2, 2, [.iff (.cmp .eq (.loc 1) (.lit (.int 0))) [.ret (some (.lit (.int 5)))] [], .iff (.cmp .eq (.loc 1) (.lit (.int 1))) [.ret (some (.bin .mod (.bin .fdiv (.loc 0) (.lit (.int 8))) (.bin .add (.bin .pow (.lit (.int 10)) (.lit (.int 30))) (.lit (.int 1)))))] [], .ret (some (.bin .mod (.bin .fdiv (.loc 0) (.lit (.int 8))) (.lit (.int 12))))]⟩
noncomputable def rooms1 : List CS := [.asg 5 (.sub (.loc 0) (.bin .add (.loc 4) (.lit (.int 2)))), .asg 6 (.callB .len [(.loc 3)]), .iff (.cmp .eq (.bin .mod (.loc 5) (.lit (.int 3))) (.lit (.int 0))) [.asg 6 (.bin .mod (.bin .fdiv (.loc 5) (.lit (.int 3))) (.bin .add (.callB .len [(.loc 3)]) (.lit (.int 1))))] [], .asg 3 (.bin .add (.bin .add (.slice (.loc 3) none (some (.loc 6))) (.list [(.tup [(.bin .add (.loc 2) (.loc 4)), (.callF 93 [(.loc 5), (.loc 1)])])])) (.slice (.loc 3) (some (.loc 6)) none))]
noncomputable def rooms2 : List CS := [.asg 5 (.bin .add (.bin .mod (.bin .add (.callF 26 [(.loc 0), (.lit (.int 2))]) (.bin .mul (.bin .mul (.lit (.int 1000003)) (.loc 4)) (.loc 4))) (.lit (.int 1009))) (.bin .mul (.lit (.int 8)) (.loc 4))), .expr (.meth (.loc 3) 0 [(.tup [(.bin .add (.loc 2) (.bin .mod (.bin .mul (.lit (.int 37)) (.loc 4)) (.lit (.int 181)))), (.callF 93 [(.loc 5), (.lit (.int 3))])])])]
noncomputable def fn__law_rooms : CFn := ⟨1, 7, [.asg 1 (.bin .mod (.callF 26 [(.loc 0), (.lit (.int 0))]) (.lit (.int 4))), .asg 2 (.bin .mod (.bin .fdiv (.callF 26 [(.loc 0), (.lit (.int 0))]) (.lit (.int 4))) (.lit (.int 9700))), .asg 3 (.list []), .iff (.cmp .eq (.loc 1) (.lit (.int 2))) [.for [4] (.range (.sub (.list [(.lit (.int 60)), (.lit (.int 180))]) (.callB .int [(.cmp .eq (.bin .mod (.bin .fdiv (.callF 26 [(.loc 0), (.lit (.int 1))]) (.lit (.int 3))) (.lit (.int 4))) (.lit (.int 1)))]))) rooms2, .ret (some (.loc 3))] [], .for [4] (.range (.bin .sub (.callB .len [(.loc 0)]) (.lit (.int 2)))) rooms1, .ret (some (.loc 3))]⟩
noncomputable def deal1 : List CS := [.asg 6 (.callB .min [(.neg (.sub (.loc 5) (.lit (.int 0)))), (.loc 4)]), .iff (.cmp .gt (.loc 6) (.lit (.int 0))) [.expr (.meth (.loc 3) 0 [(.tup [(.sub (.loc 5) (.lit (.int 1))), (.loc 6)])]), .asg 4 (.bin .sub (.loc 4) (.loc 6))] []]
noncomputable def fn_dealt : CFn := ⟨2, 7, [.iff (.cmp .lt (.callB .sum [(.comp (.sub (.loc 7) (.lit (.int 1))) 1 (.ev (.loc 0)) none)]) (.loc 1)) [.raise 5] [], .asg 2 (.callB .sorted [(.comp (.tup [(.neg (.sub (.loc 7) (.lit (.int 1)))), (.sub (.loc 7) (.lit (.int 0)))]) 1 (.ev (.loc 0)) none)]), .asg 3 (.list []), .asg 4 (.loc 1), .for [5] (.ev (.loc 2)) deal1, .ret (some (.loc 3))]⟩
noncomputable def pairs1 : List CS := [.iff (.or [(.not (.isinst (.loc 1) .tuple)), (.cmp .ne (.callB .len [(.loc 1)]) (.lit (.int 2))), (.not (.callF 25 [(.sub (.loc 1) (.lit (.int 0)))])), (.not (.callF 25 [(.sub (.loc 1) (.lit (.int 1)))]))]) [.ret (some (.lit (.bool false)))] []]
noncomputable def fn__law_pairs : CFn := ⟨1, 2, [.iff (.not (.isinst (.loc 0) .list)) [.ret (some (.lit (.bool false)))] [], .for [1] (.ev (.loc 0)) pairs1, .ret (some (.lit (.bool true)))]⟩
noncomputable def fn__law_ahead : CFn := ⟨2, 2, [.ret (some (.or [(.cmp .gt (.sub (.loc 0) (.lit (.int 1))) (.sub (.loc 1) (.lit (.int 1)))), (.and [(.cmp .eq (.sub (.loc 0) (.lit (.int 1))) (.sub (.loc 1) (.lit (.int 1)))), (.cmp .lt (.sub (.loc 0) (.lit (.int 0))) (.sub (.loc 1) (.lit (.int 0))))])]))]⟩
noncomputable def chosen1 : List CS := [.asg 5 (.comp (.loc 6) 1 (.ev (.loc 0)) (some (.cmp .eq (.sub (.loc 6) (.lit (.int 0))) (.loc 3)))), .iff (.or [(.cmp .ne (.callB .len [(.loc 5)]) (.lit (.int 1))), (.not (.cmp2 .lt .le (.lit (.int 0)) (.loc 4) (.sub (.sub (.loc 5) (.lit (.int 0))) (.lit (.int 1)))))]) [.ret (some (.lit .none))] [], .expr (.meth (.loc 2) 0 [(.sub (.loc 5) (.lit (.int 0)))])]
noncomputable def fn__law_chosen : CFn := ⟨2, 6, [.asg 2 (.list []), .for [3, 4] (.ev (.loc 1)) chosen1, .ret (some (.loc 2))]⟩
noncomputable def law1 : List CS := [.iff (.not (.callF 96 [(.loc 8), (.loc 9)])) [.ret (some (.lit (.bool false)))] []]
noncomputable def law2 : List CS := [.iff (.cmp .ne (.sub (.sub (.loc 6) (.loc 10)) (.lit (.int 1))) (.sub (.sub (.loc 7) (.loc 10)) (.lit (.int 1)))) [.ret (some (.lit (.bool false)))] []]
noncomputable def law3 : List CS := [.iff (.and [(.cmp .nmem (.loc 2) (.loc 7)), (.cmp .gt (.sub (.loc 2) (.lit (.int 1))) (.lit (.int 0))), (.not (.callF 96 [(.sub (.loc 7) (.neg (.lit (.int 1)))), (.loc 2)]))]) [.ret (some (.lit (.bool false)))] []]
noncomputable def end9 : List CS := [.iff (.or [(.cmp .is (.loc 7) (.lit .none)), (.cmp .ne (.callB .sum [(.comp (.loc 12) 2 (.ev (.loc 6)) none)]) (.loc 4))]) [.ret (some (.lit (.bool false)))] [], .for [8, 9] (.zip (.loc 7) (.slice (.loc 7) (some (.lit (.int 1))) none)) law1, .for [10] (.range (.bin .sub (.callB .len [(.loc 6)]) (.lit (.int 1)))) law2, .for [2] (.ev (.loc 1)) law3, .ret (some (.cmp .lt (.callB .sum [(.comp (.sub (.loc 11) (.lit (.int 1))) 1 (.ev (.slice (.loc 7) none (some (.neg (.lit (.int 1)))))) none)]) (.loc 4)))]
noncomputable def rest9 : List CS := [.asg 5 (.callB .list [(.loc 1)]), .asg 6 (.lit .none), .try [1, 5] [.asg 6 (.callF 70 [(.loc 5), (.loc 4)])] 5 [.ret (some (.and [(.cmp .gt (.loc 4) (.loc 3)), (.cmp .eq (.loc 5) (.loc 1))]))], .iff (.or [(.cmp .gt (.loc 4) (.loc 3)), (.cmp .ne (.loc 5) (.loc 1)), (.not (.callF 95 [(.loc 6)]))]) [.ret (some (.lit (.bool false)))] [], .asg 7 (.callF 97 [(.loc 1), (.loc 6)])] ++ end9
noncomputable def fn_law : CFn := ⟨1, 11, [.asg 1 (.callF 94 [(.loc 0)]), .asg 3 (.callB .sum [(.comp (.sub (.loc 11) (.lit (.int 1))) 1 (.ev (.loc 1)) none)]), .asg 4 (.bin .add (.lit (.int 1)) (.bin .mod (.bin .fdiv (.callF 26 [(.loc 0), (.lit (.int 1))]) (.lit (.int 3))) (.callB .max [(.lit (.int 1)), (.loc 3)]))), .iff (.cmp .eq (.bin .mod (.callF 26 [(.loc 0), (.lit (.int 1))]) (.lit (.int 3))) (.lit (.int 1))) [.asg 4 (.bin .add (.loc 3) (.lit (.int 1)))] [], .iff (.and [(.cmp .eq (.bin .mod (.callF 26 [(.loc 0), (.lit (.int 1))]) (.lit (.int 3))) (.lit (.int 2))), (.cmp .gt (.loc 3) (.lit (.int 0)))]) [.asg 4 (.loc 3)] []] ++ rest9⟩
noncomputable def tab9 : List (Nat × CFn) := [(70, fn_dealt), (25, fn__law_whole), (26, fn__law_cell_at), (93, fn__law_free_by), (94, fn__law_rooms), (95, fn__law_pairs), (96, fn__law_ahead), (97, fn__law_chosen), (32, fn_law)]
structure Rooms (rs : List (Int × Int)) : Prop where
  nd : (rs.map (·.1)).Nodup
  nn : ∀ q ∈ rs, 0 ≤ q.2
  len : rs.length ≤ 180
theorem sl_to {l : List D} {k : Nat} (h : k ≤ l.length) : sliceList l none (some (.int k)) = some (.list (l.take k)) := by
  show some (AObj.list (cut l 0 (clip k l.length))) = _
  rw [clip_nat h]; rfl
theorem sl_from {l : List D} {k : Nat} (h : k ≤ l.length) : sliceList l (some (.int k)) none = some (.list (l.drop k)) := by
  show some (AObj.list (cut l (clip k l.length) l.length)) = _
  rw [clip_nat h]; unfold cut; rw [List.take_length]
theorem nd_ins {rs : List (Int × Int)} {q : Int × Int} {l : List Int} {k : Nat} (h : (rs.map (·.1) ++ q.1 :: l).Nodup) : ((rs.take k ++ q :: rs.drop k).map (·.1) ++ l).Nodup := by
  refine (List.Perm.nodup_iff ?_).mp h
  refine List.perm_middle.trans ?_
  have h : ((q :: rs).map (·.1)).Perm ((rs.take k ++ q :: rs.drop k).map (·.1)) := List.Perm.map (·.1) (List.Perm.trans (l₂ := q :: (rs.take k ++ rs.drop k)) (by rw [List.take_append_drop]) List.perm_middle.symm)
  exact h.append_right l
theorem lt_most {n : Nat} (h : n < 1000) : n < most := Nat.lt_trans h (by decide)
section
variable {P : Prog} (H : Has P tab9) {n : Nat} {σ : Sto} {ns : List Int}
include H
theorem law_whole (i : Int) : callN P (n + 1) false 25 [.int i] σ = .ok (.bool true) σ := c_ret (H.get 1 rfl) (x_ret (.bool true) rfl)
theorem cell_at (h0 : σ[0]? = some (.froz (ns.map .int))) (k : Nat) : callN P (n + 1) false 26 [.ref 0, .int k] σ = .ok (.int (ns.getD k 0)) σ := by
  have hl : callBi .len [.ref 0] σ = .ok (.int ns.length) σ := (len_seq (seqOf_froz h0)).trans (by rw [List.length_map])
  have e := e_cmp (cl := callN P n) (hd := false) (o := .lt) (l := .loc 1) (r := .callB .len [.loc 0]) (ρ := [some (.ref 0), some (.int k)]) (a := .int k) (b := .int ns.length) rfl (e_callB (es_cons rfl es_nil) hl) rfl
  by_cases h : k < ns.length
  · refine c_ret (H.get 2 rfl) (x_ifo (e_b e (decide_eq_true (Int.ofNat_lt.mpr h))) (x_ret _ (e_sub rfl rfl (so_seq (k := k) (seqOf_froz h0) ?_))))
    rw [List.getElem?_map, List.getElem?_eq_getElem h, List.getD_eq_getElem?_getD, List.getElem?_eq_getElem h]; rfl
  · rw [List.getD_eq_getElem?_getD, List.getElem?_eq_none (Nat.not_lt.mp h)]
    exact c_ret (H.get 2 rfl) (x_skip (e_b e (decide_eq_false fun q => h (Int.ofNat_lt.mp q))) (x_ret _ rfl))
theorem free_by (c w : Int) : ∃ f, callN P (n + 1) false 93 [.int c, .int w] σ = .ok (.int f) σ ∧ 0 ≤ f := by
  have a0 := e_cmp (cl := callN P n) (hd := false) (l := .loc 1) (r := .lit (.int 0)) (ρ := [some (.int c), some (.int w)]) (σ := σ) rfl rfl (co_eqi w 0)
  have a1 := e_cmp (cl := callN P n) (hd := false) (l := .loc 1) (r := .lit (.int 1)) (ρ := [some (.int c), some (.int w)]) (σ := σ) rfl rfl (co_eqi w 1)
  cases h0 : (w == 0) with
  | true => exact ⟨5, c_ret (H.get 3 rfl) (x_ifo (e_b a0 h0) (x_ret (.int 5) rfl)), by decide⟩
  | false =>
    cases h1 : (w == 1) with
    | true => exact ⟨c / 8 % 1000000000000000000000000000001, c_ret (H.get 3 rfl) (x_skip (e_b a0 h0) (x_ifo (e_b a1 h1) (x_ret _ (e_bin (a := .int (c / 8)) (b := .int 1000000000000000000000000000001) rfl rfl rfl)))), Int.emod_nonneg _ (by decide)⟩
    | false => exact ⟨c / 8 % 12, c_ret (H.get 3 rfl) (x_skip (e_b a0 h0) (x_skip (e_b a1 h1) (x_ret _ (e_bin (a := .int (c / 8)) (b := .int 12) rfl rfl rfl)))), Int.emod_nonneg _ (by decide)⟩
theorem roomsA (h0 : σ[0]? = some (.froz (ns.map .int))) {x1 : Option D} {least : Int} {tl : Sto} : ∀ (t : List Nat) (rs : List (Int × Int)) (x4 x5 x6 : Option D), (∀ q ∈ rs, 0 ≤ q.2) → (∀ k ∈ t, k < 1000) → rs.length + t.length < 1000 →
    ∃ (rs' : List (Int × Int)) (y4 y5 : Option D), forGo (fun ρ => exs (callN P (n + 1)) false rooms2 ρ) [4] [] (t.map fun (k : Nat) => D.int (k : Int)) [some (.ref 0), x1, some (.int least), some (.ref σ.length), x4, x5, x6] (σ ++ .list (rs.map twoD) :: tl) = .ok (.next [some (.ref 0), x1, some (.int least), some (.ref σ.length), y4, y5, x6]) (σ ++ .list (rs'.map twoD) :: tl) ∧ rs'.map (·.1) = rs.map (·.1) ++ t.map (fun k => least + (37 * k % 181 : Nat)) ∧ ∀ q ∈ rs', 0 ≤ q.2
  | [], rs, x4, x5, x6, hn, _, _ => ⟨rs, x4, x5, for_done1 (stands_nil _), (List.append_nil _).symm, hn⟩
  | k :: t, rs, x4, x5, x6, hn, hk, hl => by
    let c : Int := (ns.getD 2 0 + 1000003 * k * k) % 1009 + 8 * k
    have h0' : (σ ++ .list (rs.map twoD) :: tl)[0]? = some (.froz (ns.map .int)) := pre_get (List.prefix_append _ _) h0
    obtain ⟨f, hf, f0⟩ := free_by (n := n) (σ := σ ++ .list (rs.map twoD) :: tl) H c 3
    obtain ⟨rs', y4, y5, h, e, hn'⟩ := roomsA (x1 := x1) (least := least) (tl := tl) h0 t (rs ++ [(least + (37 * k % 181 : Nat), f)]) (some (.int k)) (some (.int c)) x6 (fun q hq => by
      rcases List.mem_append.mp hq with q' | q'
      · exact hn q q'
      · rw [List.mem_singleton.mp q']; exact f0) (fun j hj => hk j (.tail _ hj)) (by rw [List.length_append, Nat.add_assoc, Nat.add_comm _ t.length]; exact hl)
    refine ⟨rs', y4, y5, for_step1 (stands_nil _) rfl (x_asg (.int c) ?_ rfl (x_expr .none (e_methL (ds := rs.map twoD) (d := twoD (least + (37 * k % 181 : Nat), f)) rfl (get_mid (t := tl)) ?_ (lt_most (by rw [List.length_map]; exact Nat.lt_of_le_of_lt (Nat.le_add_right _ _) hl))) rfl)) ?_, ?_, hn'⟩
    · refine e_bin (a := .int ((ns.getD 2 0 + 1000003 * k * k) % 1009)) (b := .int (8 * k)) (σ1 := σ ++ .list (rs.map twoD) :: tl) (σ2 := σ ++ .list (rs.map twoD) :: tl) (e_bin (a := .int (ns.getD 2 0 + 1000003 * k * k)) (b := .int 1009) (σ1 := σ ++ .list (rs.map twoD) :: tl) (σ2 := σ ++ .list (rs.map twoD) :: tl) (e_bin (a := .int (ns.getD 2 0)) (b := .int (1000003 * k * k)) (σ1 := σ ++ .list (rs.map twoD) :: tl) (σ2 := σ ++ .list (rs.map twoD) :: tl) (e_callF (es_cons rfl (es_cons rfl es_nil)) (cell_at (n := n) H h0' 2)) ?_ rfl) rfl rfl) ?_ rfl
      · refine e_bin (a := .int (1000003 * k)) (b := .int k) (e_bin (a := .int 1000003) (b := .int k) rfl rfl (bo_mul _ _ (.inl (by decide)))) rfl (bo_mul _ _ (.inr ?_))
        exact Nat.lt_trans (hk k (.head _)) (by decide)
      · exact e_bin (a := .int 8) (b := .int k) rfl rfl (bo_mul _ _ (.inl (by decide)))
    · refine e_tup (es_cons (d := .int (least + (37 * k % 181 : Nat))) (e_bin (a := .int least) (b := .int (37 * k % 181 : Nat)) rfl (e_bin (a := .int (37 * k)) (b := .int 181) (e_bin (a := .int 37) (b := .int k) rfl rfl (bo_mul _ _ (.inl (by decide)))) rfl rfl) rfl) (es_cons (e_callF (es_cons rfl (es_cons rfl es_nil)) hf) es_nil))
    · rw [set_mid]
      have e1 : (rs.map twoD) ++ [twoD (least + (37 * k % 181 : Nat), f)] = (rs ++ [(least + (37 * k % 181 : Nat), f)]).map twoD := by rw [List.map_append]; rfl
      rw [e1]; exact h
    · rw [e, List.map_append, List.append_assoc]; rfl
theorem roomB {A k : Nat} {rs : List (Int × Int)} {way least : Int} {x5 x6 : Option D} (h0 : σ[0]? = some (.froz (ns.map .int))) (hA : σ[A]? = some (.list (rs.map twoD))) (hk : k + 2 < ns.length) (hl : rs.length < 1000) :
    ∃ (i : Nat) (f : Int) (σ' : Sto) (B : Nat) (y5 : Option D), exs (callN P (n + 1)) false rooms1 [some (.ref 0), some (.int way), some (.int least), some (.ref A), some (.int k), x5, x6] σ = .ok (.next [some (.ref 0), some (.int way), some (.int least), some (.ref B), some (.int k), y5, some (.int i)]) σ' ∧ σ <+: σ' ∧ σ'[B]? = some (.list ((rs.take i ++ (least + k, f) :: rs.drop i).map twoD)) ∧ 0 ≤ f := by
  obtain ⟨c, hc⟩ : ∃ c, (ns.map D.int)[k + 2]? = some (.int c) := ⟨ns[k + 2], by rw [List.getElem?_map, List.getElem?_eq_getElem hk]; rfl⟩
  have el : ∀ {ρ : Rho}, ρ[3]? = some (some (.ref A)) → ev false (callN P (n + 1)) (.callB .len [(.loc 3)]) ρ σ = .ok (.int rs.length) σ := fun e => e_callB (es_cons (d := .ref A) (σ1 := σ) (by
    show Cm.opt (_[3]?.join) σ = _
    rw [e]; rfl) es_nil) ((len_seq (seqOf_list hA)).trans (by rw [List.length_map]))
  obtain ⟨i, hi, go⟩ : ∃ i : Nat, i ≤ rs.length ∧ ∀ {r : List CS} {R : Res Fl}, exs (callN P (n + 1)) false r [some (.ref 0), some (.int way), some (.int least), some (.ref A), some (.int k), some (.int c), some (.int i)] σ = R →
      exs (callN P (n + 1)) false (.asg 6 (.callB .len [(.loc 3)]) :: .iff (.cmp .eq (.bin .mod (.loc 5) (.lit (.int 3))) (.lit (.int 0))) [.asg 6 (.bin .mod (.bin .fdiv (.loc 5) (.lit (.int 3))) (.bin .add (.callB .len [(.loc 3)]) (.lit (.int 1))))] [] :: r) [some (.ref 0), some (.int way), some (.int least), some (.ref A), some (.int k), some (.int c), x6] σ = R := by
    have et : ev false (callN P (n + 1)) (.cmp .eq (.bin .mod (.loc 5) (.lit (.int 3))) (.lit (.int 0))) [some (.ref 0), some (.int way), some (.int least), some (.ref A), some (.int k), some (.int c), some (.int rs.length)] σ = .ok (.bool (c % 3 == 0)) σ := e_cmp (a := .int (c % 3)) (b := .int 0) rfl rfl (co_eqi _ _)
    cases hb : (c % 3 == 0) with
    | false =>
      rw [hb] at et
      exact ⟨rs.length, Nat.le_refl _, fun h => x_asg _ (el rfl) rfl (x_skip et h)⟩
    | true =>
      rw [hb] at et
      obtain ⟨i, e, hi⟩ := mod_nat (c / 3) (k := rs.length + 1) (Nat.succ_pos _)
      refine ⟨i, Nat.le_of_lt_succ hi, fun h => x_asg _ (el rfl) rfl (x_ift et (x_asg (.int i) ?_ rfl rfl) h)⟩
      exact e_bin (a := .int (c / 3)) (b := .int (rs.length + 1)) (σ1 := σ) (σ2 := σ) rfl (e_bin (a := .int rs.length) (b := .int 1) (el rfl) rfl rfl) ((bo_mod _ _ (Int.ofNat_lt.mpr (Nat.succ_pos rs.length))).trans (by rw [← e]))
  have hi' : i ≤ (rs.map twoD).length := by rw [List.length_map]; exact hi
  let s1 : Sto := σ ++ [.list ((rs.map twoD).take i)]
  obtain ⟨f, hf, f0⟩ := free_by (n := n) (σ := s1) H c way
  let s2 : Sto := s1 ++ [.list [twoD (least + k, f)]]
  let s3 : Sto := s2 ++ [.list ((rs.map twoD).take i ++ [twoD (least + k, f)])]
  let s4 : Sto := s3 ++ [.list ((rs.map twoD).drop i)]
  let s5 : Sto := s4 ++ [.list (((rs.map twoD).take i ++ [twoD (least + k, f)]) ++ (rs.map twoD).drop i)]
  have p3 : σ <+: s3 := (List.prefix_append _ _).trans ((List.prefix_append _ _).trans (List.prefix_append _ _))
  have l1 : ((rs.map twoD).take i).length + 1 ≤ most := by
    rw [List.length_take, List.length_map]
    exact Nat.le_trans (Nat.succ_le_succ (Nat.min_le_right _ _)) (Nat.le_trans hl (by decide))
  have l2 : ((rs.map twoD).take i ++ [twoD (least + k, f)]).length + ((rs.map twoD).drop i).length ≤ most := by
    rw [List.length_append, List.length_take, List.length_drop, List.length_map]
    have : (1000 : Nat) ≤ most := by decide
    show min i rs.length + 1 + (rs.length - i) ≤ most
    omega
  refine ⟨i, f, s5, s4.length, some (.int c), x_asg (.int c) (e_sub (b := .int (k + 2 : Nat)) rfl rfl (so_seq (seqOf_froz h0) hc)) rfl (go (x_asg (.ref s4.length) ?_ rfl rfl)), p3.trans ((List.prefix_append _ _).trans (List.prefix_append _ _)), (get_last s4 _).trans ?_, f0⟩
  · refine e_bin (a := .ref s2.length) (b := .ref s3.length) (σ1 := s3) (σ2 := s4) (e_bin (a := .ref σ.length) (b := .ref s1.length) (σ1 := s1) (σ2 := s2) (e_slice rfl rfl rfl (sl_list hA (sl_to hi'))) (e_list (es_cons (e_tup (es_cons rfl (es_cons (e_callF (es_cons rfl (es_cons rfl es_nil)) hf) es_nil))) es_nil)) (bo_list (pre_get (List.prefix_append _ _) (get_last _ _)) (get_last _ _) l1)) (e_slice rfl rfl rfl (sl_list (pre_get p3 hA) (sl_from hi'))) (bo_list (pre_get (List.prefix_append _ _) (get_last _ _)) (get_last _ _) l2)
  · rw [List.append_assoc, List.map_append, List.map_take, List.map_cons, List.map_drop]; rfl
theorem roomsB {way least : Int} : ∀ (t : List Nat) (rs : List (Int × Int)) (A : Nat) (σ : Sto) (x4 x5 x6 : Option D), σ[0]? = some (.froz (ns.map .int)) → σ[A]? = some (.list (rs.map twoD)) → (∀ k ∈ t, k + 2 < ns.length) → (∀ q ∈ rs, 0 ≤ q.2) → (rs.map (·.1) ++ t.map fun (k : Nat) => least + k).Nodup → rs.length + t.length ≤ 180 →
    ∃ (rs' : List (Int × Int)) (B : Nat) (σ' : Sto) (y4 y5 y6 : Option D), forGo (fun ρ => exs (callN P (n + 1)) false rooms1 ρ) [4] [] (t.map fun (k : Nat) => D.int (k : Int)) [some (.ref 0), some (.int way), some (.int least), some (.ref A), x4, x5, x6] σ = .ok (.next [some (.ref 0), some (.int way), some (.int least), some (.ref B), y4, y5, y6]) σ' ∧ σ <+: σ' ∧ σ'[B]? = some (.list (rs'.map twoD)) ∧ Rooms rs'
  | [], rs, A, σ, x4, x5, x6, _, hA, _, hn, hd, hl => ⟨rs, A, σ, x4, x5, x6, for_done1 (stands_nil _), List.prefix_refl _, hA, by rwa [List.map_nil, List.append_nil] at hd, hn, hl⟩
  | k :: t, rs, A, σ, x4, x5, x6, h0, hA, hk, hn, hd, hl => by
    obtain ⟨i, f, s1, B, y5, h1, p1, hB, f0⟩ := roomB (n := n) (k := k) (way := way) (least := least) (x5 := x5) (x6 := x6) H h0 hA (hk k (.head _)) (Nat.lt_of_le_of_lt (Nat.le_trans (Nat.le_add_right _ _) hl) (by decide))
    obtain ⟨rs', B', s2, z4, z5, z6, h2, p2, hB', R⟩ := roomsB t (rs.take i ++ (least + k, f) :: rs.drop i) B s1 (some (.int k)) y5 (some (.int i)) (pre_get p1 h0) hB (fun j hj => hk j (.tail _ hj)) (fun q hq => by
      rcases List.mem_append.mp hq with h | h
      · exact hn q (List.mem_of_mem_take h)
      · rcases List.mem_cons.mp h with rfl | h
        · exact f0
        · exact hn q (List.mem_of_mem_drop h)) (nd_ins hd) (by
      rw [List.length_append, List.length_cons, List.length_take, List.length_drop]
      have : rs.length + (t.length + 1) ≤ 180 := hl
      omega)
    exact ⟨rs', B', s2, z4, z5, z6, for_step1 (stands_nil _) rfl h1 h2, p1.trans p2, hB', R⟩
theorem rooms (h0 : σ[0]? = some (.froz (ns.map .int))) (hl : ns.length ≤ 63) : ∃ (rs : List (Int × Int)) (R : Nat) (σ' : Sto), callN P (n + 2) false 94 [.ref 0] σ = .ok (.ref R) σ' ∧ σ <+: σ' ∧ σ'[R]? = some (.list (rs.map twoD)) ∧ Rooms rs := by
  have ca := fun (k : Nat) => e_callF (hd := false) (cl := callN P (n + 1)) (as := [.loc 0, .lit (.int k)]) (ρ := [some (.ref 0), none, none, none, none, none, none]) (es_cons rfl (es_cons rfl es_nil)) (cell_at (n := n) H h0 k)
  let way := ns.getD 0 0 % 4
  let least := ns.getD 0 0 / 4 % 9700
  let s1 : Sto := σ ++ [.list []]
  have h1 : s1[0]? = some (.froz (ns.map .int)) := pre_get (List.prefix_append _ _) h0
  have pre : ∀ {r : List CS} {R : Res Fl}, exs (callN P (n + 1)) false r [some (.ref 0), some (.int way), some (.int least), some (.ref σ.length), none, none, none] s1 = R → exs (callN P (n + 1)) false (.asg 1 (.bin .mod (.callF 26 [(.loc 0), (.lit (.int 0))]) (.lit (.int 4))) :: .asg 2 (.bin .mod (.bin .fdiv (.callF 26 [(.loc 0), (.lit (.int 0))]) (.lit (.int 4))) (.lit (.int 9700))) :: .asg 3 (.list []) :: r) [some (.ref 0), none, none, none, none, none, none] σ = R := fun h =>
    x_asg (.int way) (e_bin (b := .int 4) (σ2 := σ) (ca 0) rfl rfl) rfl (x_asg (.int least) (e_bin (a := .int (ns.getD 0 0 / 4)) (b := .int 9700) (σ1 := σ) (σ2 := σ) (e_bin (b := .int 4) (σ2 := σ) (e_callF (es_cons rfl (es_cons rfl es_nil)) (cell_at (n := n) H h0 0)) rfl rfl) rfl rfl) rfl (x_asg _ (e_list es_nil) rfl h))
  have et : ev false (callN P (n + 1)) (.cmp .eq (.loc 1) (.lit (.int 2))) [some (.ref 0), some (.int way), some (.int least), some (.ref σ.length), none, none, none] s1 = .ok (.bool (way == 2)) s1 := e_cmp (a := .int way) (b := .int 2) rfl rfl (co_eqi _ _)
  cases hb : (way == 2) with
  | true =>
    rw [hb] at et
    obtain ⟨m, hm, nd, em⟩ : ∃ m : Nat, m ≤ 180 ∧ ((List.range m).map fun k => 37 * k % 181).Nodup ∧ ev false (callN P (n + 1)) (.sub (.list [(.lit (.int 60)), (.lit (.int 180))]) (.callB .int [(.cmp .eq (.bin .mod (.bin .fdiv (.callF 26 [(.loc 0), (.lit (.int 1))]) (.lit (.int 3))) (.lit (.int 4))) (.lit (.int 1)))])) [some (.ref 0), some (.int way), some (.int least), some (.ref σ.length), none, none, none] s1 = .ok (.int m) (s1 ++ [.list [.int 60, .int 180]]) := by
      let s2 : Sto := s1 ++ [.list [.int 60, .int 180]]
      have h2 : s2[0]? = some (.froz (ns.map .int)) := pre_get (List.prefix_append _ _) h1
      have e2 : ev false (callN P (n + 1)) (.cmp .eq (.bin .mod (.bin .fdiv (.callF 26 [(.loc 0), (.lit (.int 1))]) (.lit (.int 3))) (.lit (.int 4))) (.lit (.int 1))) [some (.ref 0), some (.int way), some (.int least), some (.ref σ.length), none, none, none] s2 = .ok (.bool (ns.getD 1 0 / 3 % 4 == 1)) s2 :=
        e_cmp (a := .int (ns.getD 1 0 / 3 % 4)) (b := .int 1) (σ1 := s2) (σ2 := s2) (e_bin (a := .int (ns.getD 1 0 / 3)) (b := .int 4) (σ1 := s2) (σ2 := s2) (e_bin (b := .int 3) (σ2 := s2) (e_callF (es_cons rfl (es_cons rfl es_nil)) (cell_at (n := n) H h2 1)) rfl rfl) rfl rfl) rfl (co_eqi _ _)
      cases hq : (ns.getD 1 0 / 3 % 4 == 1) with
      | true =>
        rw [hq] at e2
        exact ⟨180, by decide, by decide +kernel, e_sub (b := .int (1 : Nat)) (e_list (es_cons rfl (es_cons rfl es_nil))) (e_callB (es_cons e2 es_nil) rfl) (so_seq (seqOf_list (get_last s1 _)) rfl)⟩
      | false =>
        rw [hq] at e2
        exact ⟨60, by decide, by decide +kernel, e_sub (b := .int (0 : Nat)) (e_list (es_cons rfl (es_cons rfl es_nil))) (e_callB (es_cons e2 es_nil) rfl) (so_seq (seqOf_list (get_last s1 _)) rfl)⟩
    obtain ⟨rs, y4, y5, h, e, hn⟩ := roomsA (n := n) (x1 := some (.int way)) (least := least) (tl := [.list [.int 60, .int 180]]) H h0 (List.range m) [] none none none (fun _ h => nomatch h) (fun k hk => Nat.lt_trans (List.mem_range.mp hk) (Nat.lt_of_le_of_lt hm (by decide))) (by
      rw [List.length_range]; exact Nat.lt_of_le_of_lt ((Nat.zero_add m).symm ▸ hm) (by decide))
    refine ⟨rs, σ.length, _, c_ret (H.get 4 rfl) (pre (x_ifo et (x_for ⟨_, _⟩ (i_range em ⟨?_, ?_⟩) ((List.append_assoc σ [AObj.list []] _).symm ▸ h) (x_ret _ rfl)))), List.prefix_append _ _, get_mid, ?_, hn, ?_⟩
    · exact Int.le_trans (by decide) (Int.natCast_nonneg m)
    · exact Int.ofNat_le.mpr (Nat.le_trans hm (by decide))
    · rw [e, List.map_nil, List.nil_append]
      exact List.pairwise_map.mpr ((List.pairwise_map.mp nd).imp fun h e => h (Int.ofNat_inj.mp (Int.add_left_cancel e)))
    · have := congrArg List.length e
      rw [List.length_map, List.map_nil, List.nil_append, List.length_map, List.length_range] at this
      rw [this]; exact hm
  | false =>
    rw [hb] at et
    have el : ev false (callN P (n + 1)) (.bin .sub (.callB .len [(.loc 0)]) (.lit (.int 2))) [some (.ref 0), some (.int way), some (.int least), some (.ref σ.length), none, none, none] s1 = .ok (.int (ns.length - 2)) s1 := e_bin (a := .int ns.length) (b := .int 2) (σ1 := s1) (σ2 := s1) (e_callB (es_cons rfl es_nil) ((len_seq (seqOf_froz h1)).trans (by rw [List.length_map]))) rfl rfl
    have hm : (((ns.length : Int) - 2)).toNat = ns.length - 2 := by omega
    obtain ⟨rs, B, s2, y4, y5, y6, h, p2, hB, R⟩ := roomsB (n := n) (way := way) (least := least) H (List.range (ns.length - 2)) [] σ.length s1 none none none h1 (get_last _ _) (fun k hk => by have := List.mem_range.mp hk; omega) (fun _ h => nomatch h) (by
      rw [List.map_nil, List.nil_append]
      exact List.pairwise_map.mpr ((List.nodup_range).imp fun h e => h (Int.ofNat_inj.mp (Int.add_left_cancel e)))) (by
      rw [List.length_range, List.length_nil]; omega)
    have hmost : (most : Int) = 100000 := rfl
    exact ⟨rs, B, s2, c_ret (H.get 4 rfl) (pre (x_skip et (x_for ⟨_, _⟩ (i_range el ⟨by rw [hmost]; omega, by rw [hmost]; omega⟩) (hm.symm ▸ h) (x_ret _ rfl)))), (List.prefix_append _ _).trans p2, hB, R⟩
end
end Mine.Pu

namespace Mine.Pu
open PySem
noncomputable def mp (q : Int × Int) (wn : Int) : Int := if wn < -q.1 then wn else -q.1
noncomputable def partsOf : List (Int × Int) → Int → List (Int × Int)
  | [], _ => []
  | q :: t, wn => bif decide (0 < mp q wn) then (q.2, mp q wn) :: partsOf t (wn - mp q wn) else partsOf t wn
theorem parts_none : ∀ {t : List (Int × Int)} {wn : Int}, wn ≤ 0 → partsOf t wn = []
  | [], _, _ => rfl
  | q :: t, wn, h => by
    have : ¬ 0 < mp q wn := by unfold mp; split <;> omega
    unfold partsOf
    rw [decide_eq_false this]
    exact parts_none h
noncomputable def rm (q : Int × Int) : Int × Int := (q.2, -q.1)
noncomputable def key (q : Int × Int) : Int × Int := (-q.2, q.1)
theorem rm_key (q : Int × Int) : rm (key q) = q := Prod.ext rfl (Int.neg_neg _)
noncomputable def ahead (x y : Int × Int) : Bool := decide (y.2 < x.2) || (x.2 == y.2 && (decide (x.1 < y.1) && true))
theorem sum_le0 : ∀ {t : List (Int × Int)}, (∀ r ∈ t, 0 ≤ r.1) → ((t.map rm).map (·.2)).sum ≤ 0
  | [], _ => Int.le_refl _
  | q :: t, h => by
    have := sum_le0 (t := t) fun r hr => h r (.tail _ hr)
    have := h q (.head _)
    rw [List.map_cons, List.map_cons, List.sum_cons]
    show -q.1 + _ ≤ 0
    omega
theorem deal_law : ∀ {t : List (Int × Int)} {wn : Int}, t.Pairwise (fun a b => a.1 ≤ b.1) → 0 < wn → wn ≤ ((t.map rm).map (·.2)).sum →
    ∃ (a : List (Int × Int)) (q : Int × Int) (b : List (Int × Int)) (w : Int), t.map rm = a ++ q :: b ∧ partsOf t wn = a ++ [(q.1, w)] ∧ 0 < w ∧ w ≤ q.2 ∧ (a.map (·.2)).sum + w = wn ∧ ∀ r ∈ a, 0 < r.2
  | [], wn, _, h, h2 => by
    have : wn ≤ 0 := h2
    omega
  | q :: t, wn, hp, h, h2 => by
    obtain ⟨p1, p2⟩ := List.pairwise_cons.mp hp
    rw [List.map_cons, List.map_cons, List.sum_cons] at h2
    have h2 : wn ≤ -q.1 + ((t.map rm).map (·.2)).sum := h2
    have hq : 0 < -q.1 := by
      refine Decidable.byContradiction fun c => ?_
      have := sum_le0 (t := t) fun r hr => by have := p1 r hr; omega
      omega
    unfold partsOf
    by_cases c : wn ≤ -q.1
    · have e : mp q wn = wn := by unfold mp; split <;> omega
      rw [e, decide_eq_true h, Int.sub_self, parts_none (Int.le_refl 0)]
      exact ⟨[], rm q, t.map rm, wn, rfl, rfl, h, c, Int.zero_add _, fun _ h => nomatch h⟩
    · have e : mp q wn = -q.1 := by unfold mp; split <;> omega
      obtain ⟨a, x, b, w, e1, e2, e3, e4, e5, e6⟩ := deal_law (t := t) (wn := wn - -q.1) p2 (by omega) (by omega)
      rw [e, decide_eq_true hq, e2]
      refine ⟨rm q :: a, x, b, w, by rw [List.map_cons, e1]; rfl, rfl, e3, e4, ?_, fun r hr => ?_⟩
      · rw [List.map_cons, List.sum_cons]
        show -q.1 + _ + w = wn
        omega
      · cases hr with
        | head => exact hq
        | tail _ hr => exact e6 r hr
theorem lex_trans {a b c : Int × Int} (h1 : (!lexB b a) = true) (h2 : (!lexB c b) = true) : (!lexB c a) = true := by
  unfold lexB at *
  simp only [Bool.not_eq_true', Bool.or_eq_false_iff, Bool.and_eq_false_iff, decide_eq_false_iff_not] at *
  omega
theorem lex_total (a b : Int × Int) : ((!lexB b a) || (!lexB a b)) = true := by
  unfold lexB
  simp only [Bool.or_eq_true, Bool.not_eq_true', Bool.or_eq_false_iff, Bool.and_eq_false_iff, decide_eq_false_iff_not]
  omega
theorem sortT_pw (l : List (Int × Int)) : (sortT l).Pairwise fun a b => (!lexB b a) = true :=
  List.pairwise_mergeSort (le := fun a b => !lexB b a) (fun _ _ _ => lex_trans) lex_total l
theorem lex_le {a b : Int × Int} (h : (!lexB b a) = true) : a.1 ≤ b.1 := by
  unfold lexB at h
  simp only [Bool.not_eq_true', Bool.or_eq_false_iff, decide_eq_false_iff_not] at h
  omega
theorem lex_ahead {a b : Int × Int} (h : (!lexB b a) = true) (hn : a.2 ≠ b.2) : ahead (rm a) (rm b) = true := by
  unfold lexB at h
  unfold ahead rm
  simp only [Bool.not_eq_true', Bool.or_eq_false_iff, Bool.and_eq_false_iff, decide_eq_false_iff_not, Bool.or_eq_true, Bool.and_eq_true, decide_eq_true_eq, beq_iff_eq, and_true] at *
  omega
theorem perm_sum {l m : List Int} (h : l.Perm m) : l.sum = m.sum := by
  induction h with
  | nil => rfl
  | cons a _ ih => rw [List.sum_cons, List.sum_cons, ih]
  | swap a b l => simp only [List.sum_cons]; omega
  | trans _ _ h1 h2 => exact h1.trans h2
theorem dealt_law {rs : List (Int × Int)} (hn : (rs.map (·.1)).Nodup) {v : Int} (hv : 0 < v) (hs : v ≤ (rs.map (·.2)).sum) :
    ∃ (a : List (Int × Int)) (q : Int × Int) (b : List (Int × Int)) (w : Int), partsOf (sortT (rs.map key)) v = a ++ [(q.1, w)] ∧ rs.Perm (a ++ q :: b) ∧ (a ++ q :: b).Pairwise (fun x y => ahead x y = true) ∧ 0 < w ∧ w ≤ q.2 ∧ (a.map (·.2)).sum + w = v ∧ ∀ r ∈ a, 0 < r.2 := by
  have hp : ((sortT (rs.map key)).map rm).Perm rs := by
    have := ((List.mergeSort_perm (rs.map key) fun a b => !lexB b a).map rm)
    rw [List.map_map, show rm ∘ key = id from funext rm_key, List.map_id] at this
    exact this
  have pw := sortT_pw (rs.map key)
  generalize sortT (rs.map key) = t at hp pw ⊢
  have nd : t.Pairwise fun x y => x.2 ≠ y.2 := by
    have := (hp.map (·.1)).nodup_iff.mpr hn
    rw [List.map_map] at this
    exact List.pairwise_map.mp this
  obtain ⟨a, q, b, w, e1, e2, e3, e4, e5, e6⟩ := deal_law (t := t) (pw.imp lex_le) hv (by rw [perm_sum (hp.map (·.2))]; exact hs)
  refine ⟨a, q, b, w, e2, e1 ▸ hp.symm, e1 ▸ List.pairwise_map.mpr ?_, e3, e4, e5, e6⟩
  exact (pw.and nd).imp fun h => lex_ahead h.1 h.2
theorem zip_ahead : ∀ {l : List (Int × Int)}, l.Pairwise (fun x y => ahead x y = true) → ∀ p ∈ l.zip (l.drop 1), ahead p.1 p.2 = true
  | [], _, p, hp => nomatch hp
  | [_], _, p, hp => nomatch hp
  | x :: y :: l, h, p, hp => by
    obtain ⟨h1, h2⟩ := List.pairwise_cons.mp h
    rcases List.mem_cons.mp (show p ∈ (x, y) :: (y :: l).zip l from hp) with rfl | hp
    · exact h1 y (.head _)
    · exact zip_ahead h2 p hp
theorem filter_one : ∀ {rs : List (Int × Int)}, (rs.map (·.1)).Nodup → ∀ r ∈ rs, rs.filter (fun x => x.1 == r.1) = [r]
  | x :: rs, hn, r, hr => by
    obtain ⟨n1, n2⟩ := List.nodup_cons.mp (show (x.1 :: rs.map (·.1)).Nodup from hn)
    rcases List.mem_cons.mp hr with rfl | hr
    · rw [List.filter_cons_of_pos (p := fun x : Int × Int => x.1 == r.1) (beq_self_eq_true r.1)]
      refine congrArg (r :: ·) (List.filter_eq_nil_iff.mpr fun y hy e => n1 ?_)
      exact List.mem_map.mpr ⟨y, hy, eq_of_beq e⟩
    · rw [List.filter_cons_of_neg, filter_one n2 r hr]
      intro e
      exact n1 (List.mem_map.mpr ⟨r, hr, (eq_of_beq e).symm⟩)
end Mine.Pu

namespace Mine.Pu
open PySem
set_option maxRecDepth 100000
section
variable {P : Prog} {n : Nat} {σ : Sto} {v : Int}
theorem dealL {items : List D} {B : Nat} {d0 d1 : Option D} (hB : σ[B]? = some (.list items)) : ∀ (t : List (Int × Int)) (wn : Int) (acc : List (Int × Int)) (x5 x6 : Option D), acc.length + t.length < 1000 →
    ∃ wn' y5 y6, forGo (fun ρ => exs (callN P n) false deal1 ρ) [5] [(B, .list items)] (t.map twoD) [d0, d1, some (.ref B), some (.ref σ.length), some (.int wn), x5, x6] (σ ++ [.list (acc.map twoD)])
      = .ok (.next [d0, d1, some (.ref B), some (.ref σ.length), wn', y5, y6]) (σ ++ [.list ((acc ++ partsOf t wn).map twoD)])
  | [], wn, acc, x5, x6, _ => ⟨some (.int wn), x5, x6, by rw [show partsOf [] wn = [] from rfl, List.append_nil]; exact for_done1 (stands_one (pre_get (List.prefix_append _ _) hB))⟩
  | q :: t, wn, acc, x5, x6, ha => by
    have e3 : ev false (callN P n) (.cmp .gt (.loc 6) (.lit (.int 0))) [d0, d1, some (.ref B), some (.ref σ.length), some (.int wn), some (twoD q), some (.int (mp q wn))] (σ ++ [.list (acc.map twoD)]) = .ok (.bool (decide (0 < mp q wn))) (σ ++ [.list (acc.map twoD)]) := rfl
    show ∃ wn' y5 y6, _ = Res.ok _ (σ ++ [.list ((acc ++ (bif decide (0 < mp q wn) then (q.2, mp q wn) :: partsOf t (wn - mp q wn) else partsOf t wn)).map twoD)])
    have hst := fun {o : AObj} => stands_one (pre_get (List.prefix_append σ [o]) hB)
    cases hb : decide (0 < mp q wn) with
    | false =>
      rw [hb] at e3
      obtain ⟨wn', y5, y6, h⟩ := dealL hB t wn acc (some (twoD q)) (some (.int (mp q wn))) (Nat.lt_of_succ_lt ha)
      exact ⟨wn', y5, y6, for_step1 hst rfl (x_asg (.int (mp q wn)) rfl rfl (x_skip e3 rfl)) h⟩
    | true =>
      rw [hb] at e3
      obtain ⟨wn', y5, y6, h⟩ := dealL hB t (wn - mp q wn) (acc ++ [(q.2, mp q wn)]) (some (twoD q)) (some (.int (mp q wn))) (by rw [List.length_append, Nat.add_assoc, Nat.add_comm _ t.length]; exact ha)
      have e : ((acc.map twoD) ++ [twoD (q.2, mp q wn)]) = (acc ++ [(q.2, mp q wn)]).map twoD := by rw [List.map_append]; rfl
      rw [List.append_assoc] at h
      exact ⟨wn', y5, y6, for_step1 hst rfl (x_asg (.int (mp q wn)) rfl rfl (x_ift e3 (x_expr .none (e_methL (d := twoD (q.2, mp q wn)) rfl get_mid rfl (lt_most (by rw [List.length_map]; exact Nat.lt_of_le_of_lt (Nat.le_add_right _ _) ha))) (x_asg (.int (wn - mp q wn)) rfl rfl rfl)) rfl)) (by rw [set_mid, e]; exact h)⟩
theorem twos : ∀ l : List (Int × Int), (l.map twoD).mapM twoOf = some l
  | [] => rfl
  | a :: l => by rw [List.map_cons, List.mapM_cons, twos l]; rfl
theorem sorted_twos {r : Nat} {l : List (Int × Int)} (h : σ[r]? = some (.list (l.map twoD))) (hl : l.length ≤ 1000) (hn : l.Nodup) : callBi .sorted [.ref r] σ = .ok (.ref σ.length) (σ ++ [.list ((sortT l).map twoD)]) := by
  have e : sortL (l.map twoD) = some ((sortT l).map twoD) := by
    unfold sortL
    rw [twos, Option.bind_some, if_pos ⟨hn, hl⟩]
  show (match (listAt σ (.ref r)).bind sortL with
    | some ds => alloc (.list ds) σ
    | none => .stuck) = _
  rw [listAt_list h, Option.bind_some, e]; rfl
noncomputable def ngD (d : D) : D := match twoOf d with
  | some q => twoD (key q)
  | none => .none
noncomputable def sndD (d : D) : D := match twoOf d with
  | some q => .int q.2
  | none => .none
theorem sum_snd {l : List (Int × Int)} {cl : Bool → Call} {A k : Nat} {o : CE} {ρ : Rho} {σ0 : Sto} (ho : ev false cl o ρ σ0 = .ok (.ref A) σ) (hk : ρ.length = k) (hA : σ[A]? = some (.list (l.map twoD))) : ev false cl (.callB .sum [(.comp (.sub (.loc k) (.lit (.int 1))) 1 (.ev o) none)]) ρ σ0 = .ok (.int (l.map (·.2)).sum) (σ ++ [.list ((l.map (·.2)).map .int)]) := by
  have c1 := comp_map (elt := fun ρ => ev false cl (.sub (.loc k) (.lit (.int 1))) ρ) (ρ := ρ) (f := sndD) (stands_one hA) (l.map twoD) [] (fun d hd => by
    obtain ⟨q, -, rfl⟩ := List.mem_map.mp hd
    refine e_sub (a := twoD q) (b := .int 1) (σ1 := σ) (σ2 := σ) ?_ rfl rfl
    show Cm.opt ((ρ ++ [some (twoD q)])[k]?.join) σ = _
    rw [List.getElem?_append_right (Nat.le_of_eq hk), hk, Nat.sub_self]; rfl)
  have m1 : [].reverse ++ (l.map twoD).map sndD = (l.map (·.2)).map .int := by rw [List.reverse_nil, List.nil_append, List.map_map, List.map_map]; rfl
  rw [m1] at c1
  exact e_callB (es_cons (e_comp (i_list ho hA) c1) es_nil) (sum_list (get_last σ _) (intsOf_map _))
theorem dealt (H : Has P tab9) {l : List (Int × Int)} {A : Nat} (hA : σ[A]? = some (.list (l.map twoD))) (hl : l.length < 1000) (hn : (l.map key).Nodup) : ((l.map (·.2)).sum < v ∧ ∃ σ', callN P (n + 1) false 70 [.ref A, .int v] σ = .exc 5 σ' ∧ σ <+: σ') ∨
    v ≤ (l.map (·.2)).sum ∧ ∃ r σ', callN P (n + 1) false 70 [.ref A, .int v] σ = .ok (.ref r) σ' ∧ σ <+: σ' ∧ σ'[r]? = some (.list ((partsOf (sortT (l.map key)) v).map twoD)) := by
  let σ1 : Sto := σ ++ [.list ((l.map (·.2)).map .int)]
  have hA1 : σ1[A]? = some (.list (l.map twoD)) := pre_get (List.prefix_append _ _) hA
  have e1 := sum_snd (cl := callN P n) (k := 7) (o := .loc 0) (ρ := [some (.ref A), some (.int v), none, none, none, none, none]) rfl rfl hA
  by_cases c : (l.map (·.2)).sum < v
  · exact .inl ⟨c, σ1, c_exc (H.get 0 rfl) (x_ifo (e_cmp e1 rfl (co_lt (decide_eq_true c))) (x_out rfl)), List.prefix_append _ _⟩
  · have c2 := comp_map (elt := fun ρ => ev false (callN P n) (.tup [(.neg (.sub (.loc 7) (.lit (.int 1)))), (.sub (.loc 7) (.lit (.int 0)))]) ρ) (ρ := [some (.ref A), some (.int v), none, none, none, none, none]) (f := ngD) (stands_one hA1) (l.map twoD) [] (fun d hd => by
      obtain ⟨q, -, rfl⟩ := List.mem_map.mp hd; rfl)
    have m2 : [].reverse ++ (l.map twoD).map ngD = (l.map key).map twoD := by rw [List.reverse_nil, List.nil_append, List.map_map, List.map_map]; rfl
    rw [m2] at c2
    let σ2 : Sto := σ1 ++ [.list ((l.map key).map twoD)]
    let t := sortT (l.map key)
    let σ3 : Sto := σ2 ++ [.list (t.map twoD)]
    have hp : t.Perm (l.map key) := List.mergeSort_perm _ _
    obtain ⟨wn, y5, y6, h⟩ := dealL (P := P) (n := n) (σ := σ3) (B := σ2.length) (d0 := some (.ref A)) (d1 := some (.int v)) (get_last _ _) t v [] none none (by
      rw [hp.length_eq, List.length_map, List.length_nil, Nat.zero_add]; exact hl)
    rw [List.nil_append] at h
    have p3 : σ <+: σ3 := (List.prefix_append _ _).trans ((List.prefix_append _ _).trans (List.prefix_append _ _))
    have hb : exs (callN P n) false fn_dealt.body [some (.ref A), some (.int v), none, none, none, none, none] σ = .ok (.ret (.ref σ3.length)) (σ3 ++ [.list ((partsOf t v).map twoD)]) := x_skip (e_cmp e1 rfl (co_lt (decide_eq_false c))) (x_asg (.ref σ2.length) (ρ' := [some (.ref A), some (.int v), some (.ref σ2.length), none, none, none, none]) (e_callB (es_cons (e_comp (i_list rfl hA1) c2) es_nil) (sorted_twos (get_last _ _) ((List.length_map (as := l) key).symm ▸ Nat.le_of_lt hl) hn)) rfl
      (x_asg (.ref σ3.length) (ρ' := [some (.ref A), some (.int v), some (.ref σ2.length), some (.ref σ3.length), none, none, none]) (σ' := σ3 ++ [.list []]) rfl rfl (x_asg (.int v) (ρ' := [some (.ref A), some (.int v), some (.ref σ2.length), some (.ref σ3.length), some (.int v), none, none]) rfl rfl (x_for ⟨_, _⟩ (i_list rfl (pre_get (List.prefix_append _ _) (get_last _ _))) h (x_ret _ rfl)))))
    exact .inr ⟨Int.not_lt.mp c, σ3.length, _, c_ret (H.get 0 rfl) hb, p3.trans (List.prefix_append _ _), get_last _ _⟩
end
end Mine.Pu

namespace Mine.Pu
open PySem
set_option maxRecDepth 100000
theorem for_same {body : Rho → Cm Fl} {is : List Nat} {st : List (Nat × AObj)} {σ : Sto} (J : Rho → Prop) (hst : Stands σ st) : ∀ (items : List D) (ρ : Rho), (∀ d ∈ items, ∀ ρ, J ρ → ∃ ρ₁, (unpackT σ is.length d).bind (setVars ρ is) = some ρ₁ ∧ body ρ₁ σ = .ok (.next ρ₁) σ ∧ J ρ₁) → J ρ → ∃ ρ', forGo body is st items ρ σ = .ok (.next ρ') σ ∧ J ρ'
  | [], ρ, _, h => ⟨ρ, for_done1 hst, h⟩
  | d :: r, ρ, step, h => by
    obtain ⟨ρ₁, h1, h2, h3⟩ := step d (.head _) ρ h
    obtain ⟨ρ', h4, h5⟩ := for_same J hst r ρ₁ (fun d hd => step d (.tail _ hd)) h3
    exact ⟨ρ', for_step1 hst h1 h2 h4, h5⟩
noncomputable def twoP (q : Int × Int) : PyData := .tuple [.int q.1, .int q.2]
theorem rd_twos {m : Nat} {σ : Sto} : ∀ l : List (Int × Int), (l.map twoD).mapM (rd (m + 2) σ) = some (l.map twoP)
  | [] => rfl
  | a :: l => by rw [List.map_cons, List.mapM_cons, rd_twos l]; rfl
theorem eqv_twos : ∀ l : List (Int × Int), PyData.eqvAll (l.map twoP) (l.map twoP) = true
  | [] => rfl
  | a :: l => by
    show (((a.1 == a.1) && ((a.2 == a.2) && true)) && PyData.eqvAll (l.map twoP) (l.map twoP)) = true
    rw [eqv_twos l, beq_self_eq_true, beq_self_eq_true]; rfl
section
variable {σ : Sto} {i j : Nat} {l : List (Int × Int)}
theorem pyEq_twos (h : σ[i]? = some (.list (l.map twoD))) (h2 : σ[j]? = some (.list (l.map twoD))) : pyEq σ (.ref i) (.ref j) = some true := by
  have e1 : rd rdDepth σ (.ref i) = some (.list (l.map twoP)) := (rd_list h).trans (by rw [rd_twos]; rfl)
  have e2 : rd rdDepth σ (.ref j) = some (.list (l.map twoP)) := (rd_list h2).trans (by rw [rd_twos]; rfl)
  unfold pyEq
  rw [e1, e2]
  exact congrArg some (eqv_twos l)
theorem nin_twos {r : Int × Int} (h : σ[i]? = some (.list (l.map twoD))) : cmpOp .nmem (twoD r) (.ref i) σ = .ok (.bool (!(l.any fun q => (q.1 == r.1) && ((q.2 == r.2) && true)))) σ := by
  have e : isIn σ (twoD r) (.ref i) = some (l.any fun q => (q.1 == r.1) && ((q.2 == r.2) && true)) := by
    unfold isIn
    rw [show rd rdDepth σ (twoD r) = some (twoP r) from rfl]
    dsimp only
    rw [seqOf_list h, Option.bind_some, show rdDepth = 6 + 2 from rfl, rd_twos, Option.map_some, List.any_map]
    rfl
  show Cm.opt ((isIn σ (twoD r) (.ref i)).map fun x => D.bool (!x)) σ = _
  rw [e]; rfl
theorem list_copy {ds : List D} (h : σ[i]? = some (.list ds)) : callBi .list [.ref i] σ = .ok (.ref σ.length) (σ ++ [.list ds]) := by
  show (match listAt σ (.ref i) with
    | some ds => alloc (.list ds) σ
    | none => .stuck) = _
  rw [listAt_list h]; rfl
end
section
variable {P : Prog} (H : Has P tab9) {n : Nat} {σ : Sto}
include H
theorem pairs {F : Nat} {l : List (Int × Int)} (h : σ[F]? = some (.list (l.map twoD))) : callN P (n + 2) false 95 [.ref F] σ = .ok (.bool true) σ := by
  have ei : ev false (callN P (n + 1)) (.isinst (.loc 0) .list) [some (.ref F), none] σ = .ok (.bool true) σ := bnd_ok (a := .ref F) (σ1 := σ) rfl (by
    show Cm.opt (((listAt σ (.ref F)).map fun _ => true).map D.bool) σ = _
    rw [listAt_list h]; rfl)
  obtain ⟨ρ, hf, x, rfl⟩ := for_same (body := fun ρ => exs (callN P (n + 1)) false pairs1 ρ) (is := [1]) (J := fun ρ => ∃ x, ρ = [some (.ref F), x]) (stands_one h) (l.map twoD) [some (.ref F), none] (fun d hd ρ ⟨x, e⟩ => by
    subst e
    obtain ⟨q, -, rfl⟩ := List.mem_map.mp hd
    refine ⟨[some (.ref F), some (twoD q)], rfl, x_skip (e_or0 rfl (e_or0 (e_cmp (a := .int 2) (b := .int 2) (σ1 := σ) (σ2 := σ) rfl rfl (co_nei 2 2)) (e_or0 (e_not (e_callF (es_cons (d := .int q.1) (σ1 := σ) rfl es_nil) (law_whole H q.1))) (e_or0 (e_not (e_callF (es_cons (d := .int q.2) (σ1 := σ) rfl es_nil) (law_whole H q.2))) rfl)))) rfl, _, rfl⟩) ⟨_, rfl⟩
  exact c_ret (H.get 5 rfl) (x_skip (e_not ei) (x_for ⟨_, _⟩ (i_list rfl h) hf (x_ret (.bool true) rfl)))
theorem ahead_run (x y : Int × Int) : callN P (n + 1) false 96 [twoD x, twoD y] σ = .ok (.bool (ahead x y)) σ :=
  c_ret (H.get 6 rfl) (x_ret _ (e_b (b := (decide (y.2 < x.2) || ((x.2 == y.2 && (decide (x.1 < y.1) && true)) || false))) (e_or3 (e_cmp (a := .int x.2) (b := .int y.2) (σ1 := σ) (σ2 := σ) rfl rfl rfl) (e_or3 (e_and3 (e_cmp (a := .int x.2) (b := .int y.2) (σ1 := σ) (σ2 := σ) rfl rfl (co_eqi _ _)) fun _ => e_and3 (e_cmp (a := .int x.1) (b := .int y.1) (σ1 := σ) (σ2 := σ) rfl rfl rfl) fun _ => rfl) rfl)) (by rw [Bool.or_false]; rfl)))
omit H in
theorem chosenL {items : List D} {R F : Nat} {rs : List (Int × Int)} (hR : σ[R]? = some (.list (rs.map twoD))) (hF : σ[F]? = some (.list items)) (hn : (rs.map (·.1)).Nodup) : ∀ (G : List ((Int × Int) × Int)) (acc : List (Int × Int)) (tl : Sto) (x3 x4 x5 : Option D), acc.length + G.length < 1000 → (∀ g ∈ G, g.1 ∈ rs ∧ 0 < g.2 ∧ g.2 ≤ g.1.2) →
    ∃ tl' y3 y4 y5, forGo (fun ρ => exs (callN P n) false chosen1 ρ) [3, 4] [(F, .list items)] ((G.map fun g => (g.1.1, g.2)).map twoD) [some (.ref R), some (.ref F), some (.ref σ.length), x3, x4, x5] (σ ++ .list (acc.map twoD) :: tl) = .ok (.next [some (.ref R), some (.ref F), some (.ref σ.length), y3, y4, y5]) (σ ++ .list ((acc ++ G.map (·.1)).map twoD) :: tl')
  | [], acc, tl, x3, x4, x5, _, _ => ⟨tl, x3, x4, x5, by rw [show acc ++ ([] : List ((Int × Int) × Int)).map (·.1) = acc from List.append_nil _]; exact for_done1 (stands_one (pre_get (List.prefix_append _ _) hF))⟩
  | g :: G, acc, tl, x3, x4, x5, hl, hg => by
    obtain ⟨g1, g2, g3⟩ := hg g (.head _)
    have hst := fun {o : AObj} {t : Sto} => stands_one (pre_get (List.prefix_append σ (o :: t)) hF)
    let s1 : Sto := σ ++ .list (acc.map twoD) :: tl
    have c1 := comp_on (elt := fun ρ => ev false (callN P n) (.loc 6) ρ) (c := fun ρ => ev false (callN P n) (.cmp .eq (.sub (.loc 6) (.lit (.int 0))) (.loc 3)) ρ) (ρ := [some (.ref R), some (.ref F), some (.ref σ.length), some (.int g.1.1), some (.int g.2), x5]) (σ := s1) (h := twoD) (b := fun x => x.1 == g.1.1) (f := twoD) (stands_one (pre_get (List.prefix_append _ _) hR)) rs [] (fun x _ => ⟨e_cmp (a := .int x.1) (b := .int g.1.1) (σ1 := s1) (σ2 := s1) rfl rfl (co_eqi _ _), rfl⟩)
    rw [filter_one hn g.1 g1] at c1
    have ec := e_compc (it := .ev (.loc 0)) (i_list (k := R) rfl (pre_get (List.prefix_append σ _) hR)) c1
    have hs : s1 ++ [.list [twoD g.1]] = σ ++ .list (acc.map twoD) :: (tl ++ [.list [twoD g.1]]) := List.append_assoc _ _ _
    have ho := get_last s1 (.list [twoD g.1])
    change ev false (callN P n) _ _ s1 = .ok _ (s1 ++ [.list [twoD g.1]]) at ec
    rw [hs] at ec ho
    let s2 : Sto := σ ++ .list (acc.map twoD) :: (tl ++ [.list [twoD g.1]])
    obtain ⟨tl', y3, y4, y5, h⟩ := chosenL hR hF hn G (acc ++ [g.1]) (tl ++ [.list [twoD g.1]]) (some (.int g.1.1)) (some (.int g.2)) (some (.ref s1.length)) (by rw [List.length_append, Nat.add_assoc, Nat.add_comm _ G.length]; exact hl) (fun x hx => hg x (.tail _ hx))
    have e0 : ∀ {ρ : Rho}, ρ[5]? = some (some (.ref s1.length)) → ev false (callN P n) (.sub (.loc 5) (.lit (.int 0))) ρ s2 = .ok (twoD g.1) s2 := fun e => e_sub (a := .ref s1.length) (b := .int (0 : Nat)) (σ1 := s2) (σ2 := s2) (by
      show Cm.opt (_[5]?.join) s2 = _
      rw [e]; rfl) rfl (so_seq (seqOf_list ho) rfl)
    refine ⟨tl', y3, y4, y5, for_step1 hst rfl (x_asg (.ref s1.length) ec rfl (x_skip (e_or0 (e_cmp (a := .int (1 : Nat)) (b := .int 1) (σ1 := s2) (σ2 := s2) (e_callB (es_cons (d := .ref s1.length) (σ1 := s2) rfl es_nil) (len_seq (seqOf_list ho))) rfl (co_nei _ _)) (e_or0 (e_not (e_cmp2 (x := .int 0) (y := .int g.2) (z := .int g.1.2) (σ1 := s2) (σ2 := s2) (σ3 := s2) rfl rfl (co_lt (decide_eq_true g2)) (e_sub (a := twoD g.1) (b := .int 1) (σ1 := s2) (σ2 := s2) (e0 rfl) rfl rfl) (show cmpOp .le _ _ s2 = .ok (.bool true) s2 from ?_))) rfl)) (x_expr .none (e_methL (d := twoD g.1) (σ := s2) rfl get_mid (e0 rfl) (lt_most (by rw [List.length_map]; exact Nat.lt_of_le_of_lt (Nat.le_add_right _ _) hl))) rfl))) ?_⟩
    · show Res.ok (D.bool (decide (g.2 ≤ g.1.2))) s2 = _
      rw [decide_eq_true g3]
    · rw [set_mid]
      have e : (acc.map twoD) ++ [twoD g.1] = (acc ++ [g.1]).map twoD := by rw [List.map_append]; rfl
      rw [e]; exact h.trans (by rw [List.append_assoc]; rfl)
theorem chosen {R F : Nat} {rs : List (Int × Int)} {G : List ((Int × Int) × Int)} (hR : σ[R]? = some (.list (rs.map twoD))) (hF : σ[F]? = some (.list ((G.map fun g => (g.1.1, g.2)).map twoD))) (hn : (rs.map (·.1)).Nodup) (hl : G.length < 1000) (hg : ∀ g ∈ G, g.1 ∈ rs ∧ 0 < g.2 ∧ g.2 ≤ g.1.2) :
    ∃ C σ', callN P (n + 1) false 97 [.ref R, .ref F] σ = .ok (.ref C) σ' ∧ σ <+: σ' ∧ σ'[C]? = some (.list ((G.map (·.1)).map twoD)) := by
  obtain ⟨tl, y3, y4, y5, h⟩ := chosenL (P := P) (n := n) hR hF hn G [] [] none none none (by rw [List.length_nil, Nat.zero_add]; exact hl) hg
  exact ⟨σ.length, _, c_ret (H.get 7 rfl) (x_asg _ (e_list es_nil) rfl (x_for ⟨_, _⟩ (i_list rfl (pre_get (List.prefix_append _ _) hF)) h (x_ret _ rfl))), List.prefix_append _ _, get_mid⟩
end
end Mine.Pu

namespace Mine.Pu
open PySem
set_option maxRecDepth 100000
section
variable {σ σ1 σ2 : Sto}
theorem so_last {d v : D} {ds : List D} (hs : seqOf σ d = some (ds ++ [v])) : subOp d (.int (-1)) σ = .ok v σ := by
  have e : idx? (-1) (ds ++ [v]).length = some ds.length := by
    unfold idx?
    simp only [show (-1 : Int) < 0 by decide, if_true, List.length_append, List.length_singleton]
    rw [if_pos (by omega)]
    exact congrArg some (by omega)
  unfold subOp
  rw [hs]
  show Cm.opt ((idx? (-1) (ds ++ [v]).length).bind ((ds ++ [v])[·]?)) σ = _
  rw [e, Option.bind_some, List.getElem?_append_right (Nat.le_refl _), Nat.sub_self]; rfl
theorem sl_but {v : D} {ds : List D} : sliceList (ds ++ [v]) none (some (.int (-1))) = some (.list ds) := by
  have e : clip (-1) (ds ++ [v]).length = ds.length := by
    unfold clip
    simp only [show (-1 : Int) < 0 by decide, if_true, List.length_append, List.length_singleton]
    rw [if_neg (by omega), if_neg (by omega)]; omega
  show some (AObj.list (cut (ds ++ [v]) 0 (clip (-1) (ds ++ [v]).length))) = _
  rw [e]
  exact congrArg (fun l => some (AObj.list l)) (List.take_left' rfl)
theorem i_zip {cl : Bool → Call} {ρ : Rho} {a b : CE} {x y : Nat} {xs ys : List D} (ha : ev false cl a ρ σ = .ok (.ref x) σ1) (hb : ev false cl b ρ σ1 = .ok (.ref y) σ2) (hx : σ2[x]? = some (.list xs)) (hy : σ2[y]? = some (.list ys)) :
    evi false cl (.zip a b) ρ σ = .ok ⟨(xs.zip ys).map fun p => .tup [p.1, p.2], [(x, .list xs), (y, .list ys)]⟩ σ2 :=
  (bnd_ok ha (bnd_ok hb (by
    show Cm.opt (zipOf σ2 (.ref x) (.ref y)) σ2 = _
    unfold zipOf
    simp only [hx, hy]; rfl)) : ((ev false cl a ρ).bnd fun x => (ev false cl b ρ).bnd fun y => fun σ => Cm.opt (zipOf σ x y) σ) σ = _)
theorem stands_two {x y : Nat} {o o' : AObj} (h : σ[x]? = some o) (h2 : σ[y]? = some o') : Stands σ [(x, o), (y, o')] := fun p hp => by
  rcases List.mem_cons.mp hp with rfl | hp
  · exact h
  · exact stands_one h2 p hp
end
section
variable {P : Prog} (H : Has P tab9) {n R F C : Nat} {σ : Sto} {rs a b : List (Int × Int)} {q : Int × Int} {w v : Int} {x0 x2 x3 x5 : Option D}
include H
theorem law_end9 (hR : σ[R]? = some (.list (rs.map twoD))) (hF : σ[F]? = some (.list ((a ++ [(q.1, w)]).map twoD))) (hC : σ[C]? = some (.list ((a ++ [q]).map twoD))) (hl : a.length < 1000)
    (hp : rs.Perm (a ++ q :: b)) (pw : (a ++ q :: b).Pairwise fun x y => ahead x y = true) (hw : 0 < w) (hs : (a.map (·.2)).sum + w = v) :
    ∃ σ', exs (callN P (n + 1)) false end9 [x0, some (.ref R), x2, x3, some (.int v), x5, some (.ref F), some (.ref C), none, none, none] σ = .ok (.ret (.bool true)) σ' := by
  have eC : (a ++ [q]).map twoD = a.map twoD ++ [twoD q] := List.map_append
  have c1 := comp_two (elt := fun ρ => ev false (callN P (n + 1)) (.loc 12) ρ) (ρ := [x0, some (.ref R), x2, x3, some (.int v), x5, some (.ref F), some (.ref C), none, none, none]) (h1 := fun x => .int x.1) (h2 := fun x => .int x.2) (f := fun x => .int x.2) (stands_one hF) (a ++ [(q.1, w)]) [] (fun _ _ => rfl)
  let s1 : Sto := σ ++ [.list (((a ++ [(q.1, w)]).map (·.2)).map .int)]
  have c1 : compGo (fun ρ => ev false (callN P (n + 1)) (.loc 12) ρ) none 2 [x0, some (.ref R), x2, x3, some (.int v), x5, some (.ref F), some (.ref C), none, none, none] [(F, .list ((a ++ [(q.1, w)]).map twoD))] ((a ++ [(q.1, w)]).map twoD) [] σ = .ok (((a ++ [(q.1, w)]).map (·.2)).map .int) σ := c1.trans (by rw [List.reverse_nil, List.nil_append, List.map_map]; rfl)
  have hsum : ((a ++ [(q.1, w)]).map (·.2)).sum = v := by
    rw [List.map_append, List.sum_append, ← hs]
    exact congrArg (_ + ·) (Int.add_zero w)
  have e1 := e_callB (cl := callN P (n + 1)) (f := .sum) (es_cons (e_comp (it := .ev (.loc 6)) (i_list rfl hF) c1) es_nil) (sum_list (get_last σ _) (intsOf_map _))
  rw [hsum] at e1
  have eq1 : (!(v == v)) = false := by rw [beq_self_eq_true]; rfl
  let s2 : Sto := s1 ++ [.list (((a ++ [q]).map twoD).drop 1)]
  have p2 : σ <+: s2 := (List.prefix_append _ _).trans (List.prefix_append _ _)
  have hC2 := pre_get p2 hC
  have hF2 := pre_get p2 hF
  have hR2 := pre_get p2 hR
  have ez := i_zip (cl := callN P (n + 1)) (ρ := [x0, some (.ref R), x2, x3, some (.int v), x5, some (.ref F), some (.ref C), none, none, none]) (a := .loc 7) (b := .slice (.loc 7) (some (.lit (.int 1))) none) (σ := s1) (σ1 := s1) (σ2 := s2) (x := C) (y := s1.length) rfl (e_slice rfl rfl rfl (sl_list (pre_get (List.prefix_append _ _) hC) (sl_from (k := 1) (by rw [List.length_map, List.length_append]; exact Nat.le_add_left _ _)))) hC2 (get_last _ _)
  have pw1 : (a ++ [q]).Pairwise fun x y => ahead x y = true := pw.sublist (List.Sublist.append (List.Sublist.refl _) (List.Sublist.cons_cons _ (List.nil_sublist _)))
  obtain ⟨ρ1, f1, x8, x9, rfl⟩ := for_same (σ := s2) (body := fun ρ => exs (callN P (n + 1)) false law1 ρ) (is := [8, 9]) (J := fun ρ => ∃ x8 x9, ρ = [x0, some (.ref R), x2, x3, some (.int v), x5, some (.ref F), some (.ref C), x8, x9, none]) (stands_two hC2 (get_last _ _)) ((((a ++ [q]).map twoD).zip (((a ++ [q]).map twoD).drop 1)).map fun p => .tup [p.1, p.2]) _ (fun d hd ρ ⟨x8, x9, e⟩ => by
    subst e
    obtain ⟨d2, hd2, rfl⟩ := List.mem_map.mp hd
    rw [← List.map_drop, List.zip_map] at hd2
    obtain ⟨p, hp, rfl⟩ := List.mem_map.mp hd2
    have ha := ahead_run (n := n) (σ := s2) H p.1 p.2
    rw [zip_ahead pw1 p hp] at ha
    exact ⟨[x0, some (.ref R), x2, x3, some (.int v), x5, some (.ref F), some (.ref C), some (twoD p.1), some (twoD p.2), none], rfl, x_skip (e_not (e_callF (es_cons rfl (es_cons rfl es_nil)) ha)) rfl, _, _, rfl⟩) ⟨none, none, rfl⟩
  have er : ev false (callN P (n + 1)) (.bin .sub (.callB .len [(.loc 6)]) (.lit (.int 1))) [x0, some (.ref R), x2, x3, some (.int v), x5, some (.ref F), some (.ref C), x8, x9, none] s2 = .ok (.int a.length) s2 := e_bin (a := .int (a.length + 1 : Nat)) (b := .int 1) (σ1 := s2) (σ2 := s2) (e_callB (es_cons (d := .ref F) (σ1 := s2) rfl es_nil) ((len_seq (seqOf_list hF2)).trans (by rw [List.length_map, List.length_append]; rfl))) rfl (show Res.ok (D.int ((a.length + 1 : Nat) - 1)) s2 = _ by rw [Int.natCast_add]; exact congrArg (fun i => Res.ok (D.int i) s2) (Int.add_sub_cancel _ _))
  obtain ⟨ρ2, f2, x10, rfl⟩ := for_same (σ := s2) (st := []) (body := fun ρ => exs (callN P (n + 1)) false law2 ρ) (is := [10]) (J := fun ρ => ∃ x10, ρ = [x0, some (.ref R), x2, x3, some (.int v), x5, some (.ref F), some (.ref C), x8, x9, x10]) (stands_nil _) ((List.range (a.length : Int).toNat).map fun (i : Nat) => D.int (i : Int)) _ (fun d hd ρ ⟨x10, e⟩ => by
    subst e
    obtain ⟨k, hk, rfl⟩ := List.mem_map.mp hd
    have hk : k < a.length := List.mem_range.mp hk
    have g : ∀ x, ((a ++ [x]).map twoD)[k]? = some (twoD a[k]) := fun x => by
      rw [List.getElem?_map, List.getElem?_append_left hk, List.getElem?_eq_getElem hk]; rfl
    refine ⟨[x0, some (.ref R), x2, x3, some (.int v), x5, some (.ref F), some (.ref C), x8, x9, some (.int k)], rfl, x_skip (e_b (e_cmp (a := .int a[k].2) (b := .int a[k].2) (σ1 := s2) (σ2 := s2) (e_sub (a := twoD a[k]) (b := .int 1) (σ1 := s2) (σ2 := s2) (e_sub rfl rfl (so_seq (seqOf_list hF2) (g _))) rfl rfl) (e_sub (a := twoD a[k]) (b := .int 1) (σ1 := s2) (σ2 := s2) (e_sub rfl rfl (so_seq (seqOf_list hC2) (g _))) rfl rfl) (co_nei _ _)) (by rw [beq_self_eq_true]; rfl)) rfl, _, rfl⟩) ⟨none, rfl⟩
  obtain ⟨ρ3, f3, y2, rfl⟩ := for_same (σ := s2) (body := fun ρ => exs (callN P (n + 1)) false law3 ρ) (is := [2]) (J := fun ρ => ∃ x2, ρ = [x0, some (.ref R), x2, x3, some (.int v), x5, some (.ref F), some (.ref C), x8, x9, x10]) (stands_one hR2) (rs.map twoD) _ (fun d hd ρ ⟨x2, e⟩ => by
    subst e
    obtain ⟨r, hr, rfl⟩ := List.mem_map.mp hd
    refine ⟨[x0, some (.ref R), some (twoD r), x3, some (.int v), x5, some (.ref F), some (.ref C), x8, x9, x10], rfl, x_skip (e_b (e_and3 (e_cmp (a := twoD r) (b := .ref C) (σ1 := s2) (σ2 := s2) rfl rfl (nin_twos hC2)) (b := decide (0 < r.2) && (false && true)) fun hn => e_and3 (e_cmp (a := .int r.2) (b := .int 0) (σ1 := s2) (σ2 := s2) rfl rfl rfl) fun _ => e_and3 (e_not (b := true) (e_callF (es_cons (d := twoD q) (σ1 := s2) (e_sub (a := .ref C) (b := .int (-1)) (σ1 := s2) (σ2 := s2) rfl rfl (so_last ((seqOf_list hC2).trans (congrArg some eC)))) (es_cons (d := twoD r) (σ1 := s2) rfl es_nil)) ((ahead_run (n := n) (σ := s2) H q r).trans ?_))) fun _ => rfl) (by rw [Bool.false_and, Bool.and_false, Bool.and_false])) rfl, _, rfl⟩
    have hn : ∀ x ∈ a ++ [q], x ≠ r := fun x hx e => by
      have := List.any_eq_false.mp (show ((a ++ [q]).any fun q => (q.1 == r.1) && ((q.2 == r.2) && true)) = false by
        cases h : ((a ++ [q]).any fun q => (q.1 == r.1) && ((q.2 == r.2) && true)) with
        | false => rfl
        | true => rw [h] at hn; cases hn) x hx
      rw [e, beq_self_eq_true, beq_self_eq_true] at this
      exact this rfl
    have hb : r ∈ b := by
      rcases List.mem_append.mp (hp.mem_iff.mp hr) with h | h
      · exact absurd rfl (hn r (List.mem_append_left _ h))
      · rcases List.mem_cons.mp h with h | h
        · exact absurd h.symm (hn q (List.mem_append_right _ (.head _)))
        · exact h
    rw [(List.pairwise_cons.mp (List.pairwise_append.mp pw).2.1).1 r hb]) ⟨x2, rfl⟩
  have es := sum_snd (cl := callN P (n + 1)) (k := 11) (l := a) (ρ := [x0, some (.ref R), y2, x3, some (.int v), x5, some (.ref F), some (.ref C), x8, x9, x10]) (o := .slice (.loc 7) none (some (.neg (.lit (.int 1))))) (σ0 := s2) (A := s2.length) (σ := s2 ++ [.list (a.map twoD)]) (e_slice (a := .ref C) (l := none) (r := some (.int (-1))) (σ1 := s2) rfl rfl rfl (sl_list hC2 (by rw [eC]; exact sl_but))) rfl (get_last _ _)
  exact ⟨_, x_skip (e_or0 (e_cmp (a := .ref C) (b := .none) (σ1 := σ) (σ2 := σ) rfl rfl rfl) (e_or0 (e_b (e_cmp (b := .int v) (σ2 := s1) e1 rfl (co_nei v v)) eq1) rfl)) (x_for ⟨_, _⟩ ez f1 (x_for ⟨_, _⟩ (i_range er ⟨Int.le_trans (by decide) (Int.natCast_nonneg _), Int.ofNat_le.mpr (Nat.le_of_lt (lt_most hl))⟩) f2 (x_for ⟨_, _⟩ (i_list rfl hR2) f3 (x_ret (.bool true) (e_cmp (b := .int v) es rfl (co_lt (decide_eq_true (by omega))))))))⟩
end
end Mine.Pu

namespace Mine.Pu
open PySem
set_option maxRecDepth 100000
theorem sum_nn : ∀ {l : List (Int × Int)}, (∀ q ∈ l, 0 ≤ q.2) → 0 ≤ (l.map (·.2)).sum
  | [], _ => Int.le_refl _
  | q :: l, h => by
    rw [List.map_cons, List.sum_cons]
    exact Int.add_nonneg (h q (.head _)) (sum_nn fun r hr => h r (.tail _ hr))
section
variable {P : Prog} (H : Has P tab9) {n R : Nat} {σ : Sto} {rs : List (Int × Int)} {v : Int} {ns : List Int}
include H
theorem law_rest (hR : σ[R]? = some (.list (rs.map twoD))) (W : Rooms rs) (hv : 0 < v) :
    ∃ σ', exs (callN P (n + 2)) false rest9 [some (.ref 0), some (.ref R), none, some (.int (rs.map (·.2)).sum), some (.int v), none, none, none, none, none, none] σ = .ok (.ret (.bool true)) σ' := by
  let s1 : Sto := σ ++ [.list (rs.map twoD)]
  have hR1 : s1[R]? = some (.list (rs.map twoD)) := pre_get (List.prefix_append _ _) hR
  have hH1 : s1[σ.length]? = some (.list (rs.map twoD)) := get_last _ _
  have nd : (rs.map key).Nodup := List.pairwise_map.mpr ((List.pairwise_map.mp W.nd).imp fun h e => h (congrArg (·.2) e))
  have hl : rs.length < 1000 := Nat.lt_of_le_of_lt W.len (by decide)
  have pre : ∀ {r : List CS} {R' : Res Fl}, exs (callN P (n + 2)) false r [some (.ref 0), some (.ref R), none, some (.int (rs.map (·.2)).sum), some (.int v), some (.ref σ.length), some .none, none, none, none, none] s1 = R' → exs (callN P (n + 2)) false (.asg 5 (.callB .list [(.loc 1)]) :: .asg 6 (.lit .none) :: r) [some (.ref 0), some (.ref R), none, some (.int (rs.map (·.2)).sum), some (.int v), none, none, none, none, none, none] σ = R' := fun h =>
    x_asg _ (e_callB (es_cons rfl es_nil) (list_copy hR)) rfl (x_asg .none rfl rfl h)
  rcases dealt (n := n + 1) (v := v) H hH1 hl nd with ⟨hlt, s2, h2, p2⟩ | ⟨hle, F, s2, h2, p2, hF⟩
  · have hx : ex (callN P (n + 2)) false (.asg 6 (.callF 70 [(.loc 5), (.loc 4)])) [some (.ref 0), some (.ref R), none, some (.int (rs.map (·.2)).sum), some (.int v), some (.ref σ.length), some .none, none, none, none, none] s1 = .ok (.exc 5 _) s2 := Cm.stm_exc (e_callF (es_cons rfl (es_cons rfl es_nil)) h2)
    exact ⟨_, pre (x_tryX (x_out hx) rfl (x_ret (.bool true) (e_and1 (e_cmp (a := .int v) (b := .int (rs.map (·.2)).sum) (σ1 := s2) (σ2 := s2) rfl rfl (co_gt (decide_eq_true hlt))) (e_and1 (e_cmp (a := .ref σ.length) (b := .ref R) (σ1 := s2) (σ2 := s2) rfl rfl (co_eq (pyEq_twos (pre_get p2 hH1) (pre_get p2 hR1)))) rfl))))⟩
  · obtain ⟨a, q, b, w, e, hp, pw, w0, w1, hs, a0⟩ := dealt_law W.nd hv hle
    rw [e] at hF
    let G : List ((Int × Int) × Int) := (a.map fun r => (r, r.2)) ++ [(q, w)]
    have hG1 : G.map (fun g => (g.1.1, g.2)) = a ++ [(q.1, w)] := by
      rw [List.map_append, List.map_map]
      exact congrArg (· ++ [(q.1, w)]) (List.map_id a)
    have hG2 : G.map (·.1) = a ++ [q] := by
      rw [List.map_append, List.map_map]
      exact congrArg (· ++ [q]) (List.map_id a)
    have la : a.length < 1000 := by
      have := hp.length_eq
      rw [List.length_append] at this
      exact Nat.lt_of_le_of_lt (this ▸ Nat.le_add_right _ _) hl
    have lG : G.length < 1000 := by
      have := hp.length_eq
      rw [List.length_append, List.length_cons] at this
      have e : G.length = a.length + 1 := by rw [List.length_append, List.length_map]; rfl
      omega
    have hR2 := pre_get p2 hR1
    obtain ⟨C, s3, h3, p3, hC⟩ := chosen (n := n + 1) (G := G) H hR2 (hG1.symm ▸ hF) W.nd lG (fun g hg => by
      rcases List.mem_append.mp hg with h | h
      · obtain ⟨r, hr, rfl⟩ := List.mem_map.mp h
        exact ⟨hp.mem_iff.mpr (List.mem_append_left _ hr), a0 r hr, Int.le_refl _⟩
      · rw [List.mem_singleton.mp h]
        exact ⟨hp.mem_iff.mpr (List.mem_append_right _ (.head _)), w0, w1⟩)
    rw [hG2] at hC
    obtain ⟨s4, h4⟩ := law_end9 (n := n + 1) (v := v) (x0 := some (.ref 0)) (x2 := none) (x3 := some (.int (rs.map (·.2)).sum)) (x5 := some (.ref σ.length)) H (pre_get p3 hR2) (pre_get p3 hF) hC la hp pw w0 hs
    exact ⟨s4, pre (x_try (x_asg (.ref F) (e_callF (es_cons rfl (es_cons rfl es_nil)) h2) rfl rfl) (x_skip (e_or0 (e_cmp (a := .int v) (b := .int (rs.map (·.2)).sum) (σ1 := s2) (σ2 := s2) rfl rfl (co_gt (decide_eq_false (Int.not_lt.mpr hle)))) (e_or0 (e_cmp (a := .ref σ.length) (b := .ref R) (σ1 := s2) (σ2 := s2) rfl rfl (co_ne (pyEq_twos (pre_get p2 hH1) hR2))) (e_or0 (e_not (e_callF (es_cons rfl es_nil) (pairs H hF))) rfl))) (x_asg (.ref C) (e_callF (es_cons rfl (es_cons rfl es_nil)) h3) rfl h4)))⟩
theorem law (h0 : σ[0]? = some (.froz (ns.map .int))) (hl : ns.length ≤ 63) : ∃ σ', callN P (n + 3) false 32 [.ref 0] σ = .ok (.bool true) σ' := by
  obtain ⟨rs, R, s1, h1, p1, hR, W⟩ := rooms (n := n) H h0 hl
  have nn := sum_nn W.nn
  have e3 := sum_snd (cl := callN P (n + 2)) (k := 11) (ρ := [some (.ref 0), some (.ref R), none, none, none, none, none, none, none, none, none]) (o := .loc 1) (σ0 := s1) rfl rfl hR
  let s2 : Sto := s1 ++ [.list ((rs.map (·.2)).map .int)]
  have h2 : s2[0]? = some (.froz (ns.map .int)) := pre_get (p1.trans (List.prefix_append _ _)) h0
  generalize hwh : (rs.map (·.2)).sum = whole at e3 nn
  let c := ns.getD 1 0
  let mx : Int := if 1 < whole then whole else 1
  have hmx : 0 < mx := by
    show 0 < if 1 < whole then whole else 1
    split <;> omega
  let v0 : Int := 1 + c / 3 % mx
  have hv0 : 0 < v0 := by
    have := Int.emod_nonneg (c / 3) (Int.ne_of_gt hmx)
    show 0 < 1 + c / 3 % mx
    omega
  let ρ : Int → Rho := fun v => [some (.ref 0), some (.ref R), none, some (.int whole), some (.int v), none, none, none, none, none, none]
  have et : ∀ (v k : Int), ev false (callN P (n + 2)) (.cmp .eq (.bin .mod (.callF 26 [(.loc 0), (.lit (.int 1))]) (.lit (.int 3))) (.lit (.int k))) (ρ v) s2 = .ok (.bool (c % 3 == k)) s2 := fun v k => e_cmp (a := .int (c % 3)) (b := .int k) (σ1 := s2) (σ2 := s2) (e_bin (a := .int c) (b := .int 3) (σ1 := s2) (σ2 := s2) (e_callF (es_cons rfl (es_cons rfl es_nil)) (cell_at (n := n + 1) H h2 1)) rfl rfl) rfl (co_eqi _ _)
  obtain ⟨v, hv, go⟩ : ∃ v : Int, 0 < v ∧ ∀ {R' : Res Fl}, exs (callN P (n + 2)) false rest9 (ρ v) s2 = R' → exs (callN P (n + 2)) false (.iff (.cmp .eq (.bin .mod (.callF 26 [(.loc 0), (.lit (.int 1))]) (.lit (.int 3))) (.lit (.int 1))) [.asg 4 (.bin .add (.loc 3) (.lit (.int 1)))] [] :: .iff (.and [(.cmp .eq (.bin .mod (.callF 26 [(.loc 0), (.lit (.int 1))]) (.lit (.int 3))) (.lit (.int 2))), (.cmp .gt (.loc 3) (.lit (.int 0)))]) [.asg 4 (.loc 3)] [] :: rest9) (ρ v0) s2 = R' := by
    have t1 := et v0 1
    have t2 := fun v => et v 2
    cases b1 : (c % 3 == 1) with
    | true =>
      rw [b1] at t1
      have b2 : (c % 3 == 2) = false := by rw [eq_of_beq b1]; rfl
      rw [b2] at t2
      exact ⟨whole + 1, Int.lt_add_one_of_le nn, fun h => x_ift t1 (x_asg (.int (whole + 1)) rfl (ρ' := ρ (whole + 1)) rfl rfl) (x_skip (e_and0 (t2 _)) h)⟩
    | false =>
      rw [b1] at t1
      cases b2 : (c % 3 == 2) with
      | false =>
        rw [b2] at t2
        exact ⟨v0, hv0, fun h => x_skip t1 (x_skip (e_and0 (t2 _)) h)⟩
      | true =>
        rw [b2] at t2
        by_cases c : 0 < whole
        · exact ⟨whole, c, fun h => x_skip t1 (x_ift (e_and1 (t2 _) (e_and1 (e_cmp (a := .int whole) (b := .int 0) (σ1 := s2) (σ2 := s2) rfl rfl (co_gt (decide_eq_true c))) rfl)) (x_asg (.int whole) rfl (ρ' := ρ whole) rfl rfl) h)⟩
        · exact ⟨v0, hv0, fun h => x_skip t1 (x_skip (e_and1 (t2 _) (e_and0 (e_cmp (a := .int whole) (b := .int 0) (σ1 := s2) (σ2 := s2) rfl rfl (co_gt (decide_eq_false c))))) h)⟩
  obtain ⟨s3, h3⟩ := law_rest (n := n) (v := v) H (pre_get (List.prefix_append _ _) hR : s2[R]? = _) W hv
  rw [hwh] at h3
  refine ⟨s3, c_ret (H.get 8 rfl) (x_asg (.ref R) (e_callF (es_cons rfl es_nil) h1) rfl (x_asg (.int whole) e3 rfl (x_asg (.int v0) (ρ' := ρ v0) ?_ rfl (go h3))))⟩
  exact e_bin (a := .int 1) (b := .int (c / 3 % mx)) (σ1 := s2) (σ2 := s2) rfl (e_bin (a := .int (c / 3)) (b := .int mx) (σ1 := s2) (σ2 := s2) (e_bin (a := .int c) (b := .int 3) (σ1 := s2) (σ2 := s2) (e_callF (es_cons rfl (es_cons rfl es_nil)) (cell_at (n := n + 1) H h2 1)) rfl rfl) (e_callB (es_cons rfl (es_cons rfl es_nil)) rfl) (bo_mod _ _ hmx)) rfl
end
end Mine.Pu

open PySem PySem.W PyProof.Rows
namespace Mine
noncomputable def S (l : List String) : List Str := l.map Str.ofString
noncomputable def g09 : CG := ⟨[], S ["dealt", "_law_whole", "_law_cell_at", "_law_free_by", "_law_rooms", "_law_pairs", "_law_ahead", "_law_chosen", "law"], S ["StockError", "TooFew"]⟩
noncomputable def view09 : Program := viewOf PySem.Challenge.pw_uf020035_09
theorem has09 : Pu.Has (progOf view09 g09) Pu.tab9 := by
  unfold Pu.Has
  kernel_rfl
theorem run09 (ns : List Int) (h : ¬ 63 < ns.length) : ∃ σ', callN (progOf view09 g09) 3 false 32 [.ref 0] [.froz (ns.map .int)] = .ok (.bool true) σ' := Pu.law (n := 0) has09 rfl (Nat.not_lt.mp h)
set_option maxRecDepth 100000 in
theorem left09a (w : World) : (runQ PySem.Challenge.pw_uf020035_09 w 6000).map (qSeen view09 [] (importedModules PySem.Challenge.pw_uf020035_09.main.body) (fun s => xlAt view09 [] s && recOk (RowW.records (OpenRow.toRowW PySem.Challenge.rw_uf020035_09.row)) s) true) = some (openGood view09 []) := by kernel_rfl
set_option maxRecDepth 100000 in
theorem left09b (w : World) : (runQ PySem.Challenge.pw_uf020035_09 w 6000).map (Hook.obs (subHook g09)) = some (Hook.val (subHook g09) w) := by kernel_rfl
theorem end09 {prog : Program} {w : World} {mean : ExcName → Option Value} {mg mb : Str → Option Value} {s : Shared} (T : Top view09 [] mean mg mb s.heap) (Y : SubSays g09 s.heap)
    (h2 : conOk view09 g09 = true) (h1 : fnsOk view09 g09 = true) (h3 : biOk view09 [] = true) (h4 : g09.cls.map (specOf view09) = g09.cls.map fun _ => some ("ValueError.__new__", vbm)) {fa : Addr} (hmg : mg "law" = some (.ref fa))
    {ns : List Int} {l : Addr} {vs : List Value} (hL : s.heap.IsList l vs.toArray) (hI : IntsAre vs ns) (hlen : ¬ ((63 : Nat) : Int) < ((ns.length : Nat) : Int))
    {Q : Value → Shared → Prop} {E : Value → Shared → Prop} (hQ : ∀ s' : Shared, (∀ b o, s.heap.get? b = some o → s'.heap.get? b = some o) → s'.gens = s.gens → s'.os = s.os → Q (.bool true) s') :
    wpAny (model prog w) callerA (call (.ref fa) [.ref l]) Q E s := by
  have hlen : ¬ 63 < ns.length := by omega
  obtain ⟨σ', hrun⟩ := run09 ns hlen
  exact law_end T g09 Y h1 h2 h3 h4 (x := "law") (by decide +kernel) (by decide +kernel) hmg hL hI hlen (n := 3) (by decide) hrun hQ
theorem good_true {c : ClaimW} {cl : Str → Option Addr} {mean : ExcName → Option Value} {args : List WData} {s₁ s' : Shared} (hk : ∀ b o, s₁.heap.get? b = some o → s'.heap.get? b = some o) (hg : s'.gens = s₁.gens) (hg0 : s₁.gens = #[]) (hos : s'.os = s₁.os)
    (hn : ∀ cls, c.raises args cls = false) (hp : c.post args (.bool true) args = true) : GoodWG c cl mean args s₁ (.ok (.ret (.bool true))) s' :=
  ⟨.inl ⟨.bool true, .bool true, [], rfl, hn, .bool true, hp, fun _ => ⟨List.nodup_nil, fun a ha => by cases ha⟩⟩, .of_keep hk, hos, .of_eq (hg.trans hg0)⟩
end Mine
set_option maxRecDepth 100000 in
set_option maxHeartbeats 8000000 in
set_option tactic.hygienic true in
theorem PySem.Challenge.cw_uf020035_09_holds : PySem.Challenge.rw_uf020035_09.Holds := by
  w_on
  refine holds_law (Mine.said_q (by kernel_rfl)) fun said => ?_
  refine holds_open (q := Mine.view09) (loose := []) (Xt := fun s => xlAt Mine.view09 [] s && recOk (RowW.records (OpenRow.toRowW PySem.Challenge.rw_uf020035_09.row)) s) (XP := XL Mine.view09 []) (Yf := Hook.obs (Mine.subHook Mine.g09)) (Ya := Hook.val (Mine.subHook Mine.g09)) (YP := Hook.says (Mine.subHook Mine.g09)) (N := 6000) ?hl (Hook.of (Mine.subHook Mine.g09)) (Hook.keeps (Mine.subHook Mine.g09)) (fun s e => xl_of s (Bool.and_eq_true_iff.mp e).1) XL.keeps (by rfl) (by rfl) (by rfl) (fun s e => recFacts_of (Bool.and_eq_true_iff.mp e).2) (by rfl) (by first | assumption | decide +kernel) (by decide +kernel) ⟨rfl, rfl, rfl, rfl, rfl, by decide +kernel⟩ ?hw ?hc
  case hl => exact Mine.leftO_q2 Mine.left09a Mine.left09b
  case hw => w_witness2
  intro w s₀ s₁ mg mb G Y fa o pm cd doc dV kV ho hd hcd hD hmg hg args vals as hpre hlay hrd hwl hlo
  refine Ground.open G ?_
  intro T B D TE TW
  wrow_args hpre hlay hrd hwl hlo
  clear TE TW B D ho hd hcd hD
  rename_i hL _ _ _ hI _ hcond _
  refine Mine.end09 T Y (by decide +kernel) (by decide +kernel) (by decide +kernel) (by kernel_rfl) hmg hL hI hcond fun s' k1 k2 k3 => ?_
  exact Mine.good_true k1 k2 hg k3 (fun cls => rfl) (by kc_post)
