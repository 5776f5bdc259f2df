import PyProof.Rows.All
import Wide.All
import OpenK.AllK
import Wide.FinOn
import HandS.ForMost
import HandS.Exc
import HandS.ExcOwn
import HandS.CallSlots
import HandS.WordsExc
import HandS.Lambda
import HandS.TupAny
import HandS.IsInst
import HandS.Deep
import PyProof.NeKinds
import KE.IntTextLaws
import KE.KUnpackStar
import HandS.More
import HandS.Text
import HandS.Conv
import HandS.Iter
import HandS.Dict
import HandS.MakeKwOnly
import HandS.Defaults
import HandS.Zip
import HandS.HeadNt
import HandS.Codes
import HandS.EndTab
import HandS.ExcIs
import HandS.ExcField
import HandS.ExcInit
import HandS.ClsMeth
import HandS.SetFor
import KE.DataFind
import HandS.Head0
import HandS.Head1
import HandS.Head2
import HandS.HeadEnd
import HandS.HeadHook4
import HandS.HeadWalk
import KE.GoesEnum
import HandS.Strs
import HandS.OwnIter
import HandS.SetBool
import HandS.Style
import HandS.SetKeys
import KE.KEqNest
import PyProof.SetRoads
import PySem.Challenge.RW_changemill_k15_books_looked_through
set_option Elab.async false
set_option linter.all false
set_option maxRecDepth 100001
set_option maxHeartbeats 4000001
/-! Mini machine: plain data, a store, results, the words of a small language as functions. Own text. -/
namespace MP

inductive D where
  | non | bl (b : Bool) | int (i : Int) | str (cs : List Nat) | tup (ds : List D) | lst (ds : List D) | ref (n : Nat) | scr (ns : List Int)
  deriving Inhabited

inductive Ob where
  | lst (ds : List D) | ins (c : Nat) (fs : List (String × D)) | dic (kvs : List (D × D))
  deriving Inhabited

abbrev Sto := List Ob
structure Exn where
  cls : Nat
  fs : List (String × D)

inductive Res (α : Type) where
  | ok (a : α) (s : Sto) | exc (x : Exn) (s : Sto) | stk
namespace Res
def bind {α β : Type} (m : Res α) (f : α → Sto → Res β) : Res β :=
  match m with
  | .ok a s => f a s
  | .exc x s => .exc x s
  | .stk => .stk
@[simp] theorem bind_ok {α β : Type} (a : α) (s : Sto) (f : α → Sto → Res β) : (Res.ok a s).bind f = f a s := rfl
@[simp] theorem bind_exc {α β : Type} (x : Exn) (s : Sto) (f : α → Sto → Res β) : (Res.exc x s : Res α).bind f = .exc x s := rfl
@[simp] theorem bind_stk {α β : Type} (f : α → Sto → Res β) : (Res.stk : Res α).bind f = .stk := rfl
/-- an answer that may be wanting -/
def ofO {α : Type} (o : Option α) (s : Sto) : Res α :=
  match o with
  | some a => .ok a s
  | none => .stk
@[simp] theorem ofO_some {α : Type} (a : α) (s : Sto) : ofO (some a) s = .ok a s := rfl
@[simp] theorem ofO_none {α : Type} (s : Sto) : (ofO none s : Res α) = .stk := rfl
end Res

inductive Slot where
  | emp | val (d : D) | own (ds : List D) | exn (x : Exn)
  deriving Inhabited
abbrev Env := List Slot
abbrev ME := Env → Sto → Res D
abbrev MT := Env → Sto → Res Bool
abbrev MA := Env → Sto → Res (List D)

def cap : Nat := 1000000

/-! ### plain data: equality, looks -/
mutual
def D.eqv : D → D → Bool
  | .non, .non => true
  | .bl a, .bl b => a == b
  | .bl a, .int j => (if a then 1 else 0) == j
  | .int i, .bl b => i == (if b then 1 else 0)
  | .int i, .int j => i == j
  | .str x, .str y => decide (x = y)
  | .lst xs, .lst ys => D.eqvs xs ys
  | .tup xs, .tup ys => D.eqvs xs ys
  | _, _ => false
def D.eqvs : List D → List D → Bool
  | [], [] => true
  | x :: xs, y :: ys => D.eqv x y && D.eqvs xs ys
  | _, _ => false
end
mutual
/-- data without references, so deep at most, of written signs -/
def D.fit : Nat → D → Bool
  | _, .non | _, .bl _ | _, .int _ => true
  | _, .str cs => cs.all fun c => decide (c < 1114112)
  | 0, _ => false
  | n + 1, .lst ds | n + 1, .tup ds => D.fits n ds
  | _, .ref _ | _, .scr _ => false
def D.fits : Nat → List D → Bool
  | _, [] => true
  | n, d :: ds => D.fit n d && D.fits n ds
end
/-- the items of a list or tuple, by the store where it is placed -/
def seqOf (s : Sto) : D → Option (List D)
  | .tup ds => some ds
  | .lst ds => some ds
  | .ref n => match s[n]? with
    | some (.lst ds) => some ds
    | _ => none
  | _ => none
/-- a placed list as the list that it is -/
def view (s : Sto) : D → D
  | .ref n => match s[n]? with
    | some (.lst ds) => .lst ds
    | _ => .ref n
  | d => d
def isFlat : D → Bool
  | .non | .bl _ | .int _ | .str _ => true
  | _ => false
/-- the place of an index, from either end -/
def place (n : Nat) (i : Int) : Option Nat :=
  if 0 ≤ i then (if i < n then some i.toNat else none) else if -(n : Int) ≤ i then some (i + n).toNat else none

/-! ### operators -/
abbrev Op2 := Sto → D → D → Option D
abbrev Op1 := Sto → D → Option D
def eqD (a b : D) : Option Bool :=
  match a, b with
  | .lst [], .lst [] => some true
  | .lst [], .lst (_ :: _) => some false
  | .lst (_ :: _), .lst [] => some false
  | a, b => if a.fit 60 && b.fit 60 then some (a.eqv b) else none
def opEq : Op2 := fun s x y => (eqD (view s x) (view s y)).map D.bl
def opNe : Op2 := fun s x y => (eqD (view s x) (view s y)).map fun b => D.bl (!b)
def opAdd : Op2 := fun _ x y =>
  match x, y with
  | .int i, .int j => some (.int (i + j))
  | .str a, .str b => if a.length + b.length ≤ cap then some (.str (a ++ b)) else none
  | .tup a, .tup b => if a.length + b.length ≤ cap then some (.tup (a ++ b)) else none
  | _, _ => none
def opSub : Op2 := fun _ x y =>
  match x, y with
  | .int i, .int j => some (.int (i - j))
  | _, _ => none
def smallI (i : Int) : Bool := decide (-(2 ^ 64) < i) && decide (i < 2 ^ 64)
def opMul : Op2 := fun _ x y =>
  match x, y with
  | .int i, .int j => if smallI i || smallI j then some (.int (i * j)) else none
  | _, _ => none
/-- a divisor that is positive and below 2 ^ 30; the number of any size -/
def opDiv : Op2 := fun _ x y =>
  match x, y with
  | .int i, .int j => if 0 < j ∧ j < 1073741824 then some (.int (i / j)) else none
  | _, _ => none
def opMod : Op2 := fun _ x y =>
  match x, y with
  | .int i, .int j => if 0 < j then some (.int (i % j)) else none
  | _, _ => none
def opPow : Op2 := fun _ x y =>
  match x, y with
  | .int i, .int j => if 0 ≤ j ∧ j ≤ 1000 ∧ i.natAbs < 2 ^ 64 then some (.int (i ^ j.toNat)) else none
  | _, _ => none
def opCmp (p : Int → Int → Bool) : Op2 := fun _ x y =>
  match x, y with
  | .int i, .int j => some (.bl (p i j))
  | _, _ => none
abbrev opLt : Op2 := opCmp fun i j => decide (i < j)
abbrev opLe : Op2 := opCmp fun i j => decide (i ≤ j)
abbrev opGt : Op2 := opCmp fun i j => decide (j < i)
abbrev opGe : Op2 := opCmp fun i j => decide (j ≤ i)
/-- a flat thing in a list or tuple of flat things; one sign in a text -/
def inD (s : Sto) (x y : D) : Option Bool :=
  match x, y with
  | .str [c], .str z => some (decide (c ∈ z))
  | _, _ => match seqOf s y with
    | some ds => if isFlat x && ds.all isFlat then some (ds.any fun d => d.eqv x) else none
    | none => none
def opIn : Op2 := fun s x y => (inD s x y).map D.bl
def opNotIn : Op2 := fun s x y => (inD s x y).map fun b => D.bl (!b)
def isNon : D → Bool | .non => true | _ => false
def opIsN : Op1 := fun _ x => some (.bl (isNon x))
def opNotN : Op1 := fun _ x => some (.bl (!isNon x))
def ixD (ds : List D) (i : Int) : Option D := (place ds.length i).bind fun k => ds[k]?
def opIx : Op2 := fun s x y =>
  match x, y with
  | .str z, .int i => if z.length ≤ cap then (place z.length i).bind fun k => (z[k]?).map fun c => D.str [c] else none
  | .scr ns, .int i => (place ns.length i).bind fun k => (ns[k]?).map D.int
  | _, .int i => (seqOf s x).bind fun ds => ixD ds i
  | _, _ => none
def opLen : Op1 := fun s x =>
  match x with
  | .str z => if z.length ≤ cap then some (.int z.length) else none
  | .scr ns => some (.int ns.length)
  | _ => (seqOf s x).map fun ds => .int ds.length
/-- the number that written figures tell -/
def figs (cs : List Nat) : Nat := cs.foldl (fun n c => n * 10 + (c - 48)) 0
def isFig (c : Nat) : Bool := decide (48 ≤ c) && decide (c ≤ 57)
def opIntOf : Op1 := fun _ x =>
  match x with
  | .int i => some (.int i)
  | .bl b => some (.int (if b then 1 else 0))
  | .str cs => if cs ≠ [] ∧ cs.length ≤ 9 ∧ cs.all isFig = true then some (.int (figs cs : Nat)) else none
  | _ => none
/-- the signs of a number -/
def signs (i : Int) : List Nat := (toString i).toList.map Char.toNat
def opStrOf : Op1 := fun _ x =>
  match x with
  | .int i => if smallI i then some (.str (signs i)) else none
  | _ => none
def kGet (tab : List (List Nat × D)) : Op1 := fun _ x =>
  match x with
  | .str cs => tab.lookup cs
  | _ => none
def kIn (tab : List (List Nat × D)) : Op1 := fun _ x =>
  match x with
  | .str cs => some (.bl (tab.lookup cs).isSome)
  | _ => none
def joinC (sep : List Nat) : List (List Nat) → List Nat
  | [] => []
  | [x] => x
  | x :: y :: r => x ++ sep ++ joinC sep (y :: r)
def strsOf : List D → Option (List (List Nat))
  | [] => some []
  | .str x :: r => (strsOf r).map fun xs => x :: xs
  | _ :: _ => none
def opJoin : Op2 := fun s x y =>
  match x with
  | .str sep => (seqOf s y).bind fun ds => (strsOf ds).bind fun xs => if sep.length ≤ 10 ∧ xs.length ≤ 10000 ∧ (xs.map List.length).sum ≤ cap then some (.str (joinC sep xs)) else none
  | _ => none
/-- cut at each of a sign -/
def cutC (c : Nat) : List Nat → List (List Nat)
  | [] => [[]]
  | x :: r => if x = c then [] :: cutC c r else (match cutC c r with
    | [] => [[x]]
    | y :: ys => (x :: y) :: ys)
def opSplit : Op2 := fun _ x y =>
  match x, y with
  | .str a, .str [c] => if a.length ≤ cap then some (.lst ((cutC c a).map .str)) else none
  | _, _ => none
/-- x[i:], x[:-1] and the like -/
def partIx (n : Nat) (d : Nat) : Option Int → Nat
  | none => d
  | some i => if i < 0 then (i + (n : Int)).toNat else min i.toNat n
def cutD (ds : List D) (lo hi : Option Int) : List D := (ds.drop (partIx ds.length 0 lo)).take (partIx ds.length ds.length hi - partIx ds.length 0 lo)
/-- list(..), of a list or a tuple -/
def opTuple : Op1 := fun s x => (seqOf s x).map .tup
inductive Ki where
  | non | bool | int | str | tuple | list
  deriving DecidableEq
def kindOf (s : Sto) : D → Option Ki
  | .non => some .non
  | .bl _ => some .bool
  | .int _ => some .int
  | .str _ => some .str
  | .tup _ => some .tuple
  | .lst _ => some .list
  | .scr _ => some .list
  | .ref n => match s[n]? with
    | some (.lst _) => some .list
    | _ => none
def Ki.isA : Ki → Ki → Bool
  | .non, .non | .bool, .bool | .int, .int | .str, .str | .tuple, .tuple | .list, .list | .bool, .int => true
  | _, _ => false
def opKind (t : Ki) : Op1 := fun s x => (kindOf s x).map fun k => .bl (k.isA t)

/-! ### expressions -/
def eVar (i : Nat) : ME := fun env s => match env[i]? with | some (.val d) => .ok d s | _ => .stk
def eBor (i : Nat) : ME := fun env s => match env[i]? with | some (.val d) => .ok d s | some (.own ds) => .ok (.lst ds) s | _ => .stk
def eC (d : D) : ME := fun _ s => .ok d s
def eOp2 (g : Op2) (a b : ME) : ME := fun env s => (a env s).bind fun x s1 => (b env s1).bind fun y s2 => .ofO (g s2 x y) s2
def eOp1 (g : Op1) (a : ME) : ME := fun env s => (a env s).bind fun x s1 => .ofO (g s1 x) s1
def aNil : MA := fun _ s => .ok [] s
def aCons (a : ME) (r : MA) : MA := fun env s => (a env s).bind fun x s1 => (r env s1).bind fun xs s2 => .ok (x :: xs) s2
abbrev MO := Env → Sto → Res (Option Int)
def oNone : MO := fun _ s => .ok none s
def oSome (a : ME) : MO := fun env s => (a env s).bind fun x s1 => match x with | .int i => .ok (some i) s1 | _ => .stk
/-- a slice of a list, of a tuple -/
def lSl (a : ME) (lo hi : MO) : MA := fun env s => (a env s).bind fun x s1 => (lo env s1).bind fun l s2 => (hi env s2).bind fun h s3 => match view s3 x with | .lst ds => .ok (cutD ds l h) s3 | _ => .stk
def eSlT (a : ME) (lo hi : MO) : ME := fun env s => (a env s).bind fun x s1 => (lo env s1).bind fun l s2 => (hi env s2).bind fun h s3 => match x with | .tup ds => .ok (.tup (cutD ds l h)) s3 | _ => .stk
/-- list(..) of a list or a tuple -/
def lOf (a : ME) : MA := fun env s => (a env s).bind fun x s1 => .ofO (seqOf s1 x) s1
def eTup (a : MA) : ME := fun env s => (a env s).bind fun ds s1 => if ds.length ≤ 1000 then .ok (.tup ds) s1 else .stk
def lLst (a : MA) : MA := fun env s => (a env s).bind fun ds s1 => if ds.length ≤ 1000 then .ok ds s1 else .stk
def eFrz (l : MA) : ME := fun env s => (l env s).bind fun ds s1 => .ok (.lst ds) s1
def ePlc (l : MA) : ME := fun env s => (l env s).bind fun ds s1 => .ok (.ref s1.length) (s1 ++ [.lst ds])
def asB (d : D) (s : Sto) : Res Bool := match d with | .bl b => .ok b s | _ => .stk
@[simp] theorem asB_bl (b : Bool) (s : Sto) : asB (.bl b) s = .ok b s := rfl
def tVal (a : ME) : MT := fun env s => (a env s).bind asB
def tNot (t : MT) : MT := fun env s => (t env s).bind fun b s1 => .ok (!b) s1
def tAnd (t u : MT) : MT := fun env s => (t env s).bind fun b s1 => if b then u env s1 else .ok false s1
def tOr (t u : MT) : MT := fun env s => (t env s).bind fun b s1 => if b then .ok true s1 else u env s1
def eAnd (a b : ME) : ME := fun env s => ((a env s).bind asB).bind fun c s1 => if c then b env s1 else .ok (.bl false) s1
def eOr (a b : ME) : ME := fun env s => ((a env s).bind asB).bind fun c s1 => if c then .ok (.bl true) s1 else b env s1
def eNot (a : ME) : ME := fun env s => ((a env s).bind asB).bind fun c s1 => .ok (.bl (!c)) s1
def eIf (t : MT) (a b : ME) : ME := fun env s => (t env s).bind fun c s1 => if c then a env s1 else b env s1
/-- a < b < c by two operators -/
def eChain (g h : Op2) (a b c : ME) : ME := fun env s => (a env s).bind fun x s1 => (b env s1).bind fun y s2 => (Res.ofO (g s2 x y) s2).bind fun z s3 => (asB z s3).bind fun k s4 =>
  if k then (c env s4).bind fun w s5 => .ofO (h s5 y w) s5 else .ok (.bl false) s4
abbrev Fn := List D → Sto → Res D
def eCall (g : Fn) (a : MA) : ME := fun env s => (a env s).bind g
def fieldOf (s : Sto) (c : Nat) (f : String) : D → Option D
  | .ref n => match s[n]? with
    | some (.ins c' fs) => if c' = c then fs.lookup f else none
    | _ => none
  | _ => none
def eFld (c : Nat) (o : ME) (f : String) : ME := fun env s => (o env s).bind fun x s1 => .ofO (fieldOf s1 c f x) s1
/-- whether an object is of a class, without a field of a name -/
def isOf (s : Sto) (c : Nat) (m : String) : D → Bool
  | .ref n => match s[n]? with
    | some (.ins c' fs) => decide (c' = c) && (fs.lookup m).isNone
    | _ => false
  | _ => false
def eMeth (c : Nat) (m : String) (g : Fn) (o : ME) (a : MA) : ME := fun env s => (o env s).bind fun x s1 => if isOf s1 c m x then (a env s1).bind fun ds s2 => g (x :: ds) s2 else .stk
def eNew (c : Nat) (g : Fn) (a : MA) : ME := fun env s => (a env s).bind fun ds s1 => (g (.ref s1.length :: ds) (s1 ++ [.ins c []])).bind fun d s2 => match d with | .non => .ok (.ref s1.length) s2 | _ => .stk

/-! ### targets, walked things -/
abbrev MG := D → Env → Option Env
def gNm (i : Nat) : MG := fun d env => some (env.set i (.val d))
def gAll : List MG → List D → Env → Option Env
  | [], [], env => some env
  | g :: gs, d :: ds, env => (g d env).bind fun e => gAll gs ds e
  | _, _, _ => none
def gTp (gs : List MG) : MG := fun d env => match d with | .tup ds => gAll gs ds env | _ => none
/-- a, *b, c = a list or a tuple -/
def gSt (gs hs : List MG) (j : Nat) : MG := fun d env =>
  match d with
  | .tup ds | .lst ds => if gs.length + hs.length ≤ ds.length ∧ ds.length ≤ 16000 then
      (gAll gs (ds.take gs.length) env).bind fun e1 => gAll hs ((ds.drop gs.length).drop (ds.length - gs.length - hs.length)) (e1.set j (.val (.lst ((ds.drop gs.length).take (ds.length - gs.length - hs.length)))))
    else none
  | _ => none
structure Src where
  ds : List D
  pin : Option Nat
/-- the item of a turn: of a placed list the one that lies there now -/
def cur (x : Src) (s : Sto) (i : Nat) (d : D) : Option D :=
  match x.pin with
  | none => some d
  | some n => match s[n]? with
    | some (.lst es) => if es.length = x.ds.length then es[i]? else none
    | _ => none
def fin (x : Src) (s : Sto) : Bool :=
  match x.pin with
  | none => true
  | some n => match s[n]? with
    | some (.lst es) => decide (es.length = x.ds.length)
    | _ => false
abbrev MI := Env → Sto → Res Src
def srcOf (s : Sto) : D → Option Src
  | .tup ds => some ⟨ds, none⟩
  | .lst ds => some ⟨ds, none⟩
  | .scr ns => some ⟨ns.map .int, none⟩
  | .ref n => match s[n]? with
    | some (.lst ds) => some ⟨ds, some n⟩
    | _ => none
  | _ => none
def iSeq (a : ME) : MI := fun env s => (a env s).bind fun x s1 => .ofO (srcOf s1 x) s1
def intsD (lo : Int) (n : Nat) : List D := (List.range n).map fun (k : Nat) => D.int (lo + (k : Int))
def iRng (a : ME) : MI := fun env s => (a env s).bind fun x s1 => match x with | .int j => if -(cap : Int) ≤ j ∧ j ≤ cap then .ok ⟨intsD 0 j.toNat, none⟩ s1 else .stk | _ => .stk
def iEnum (a : ME) : MI := fun env s => (a env s).bind fun x s1 => match x with
  | .lst ds => .ok ⟨ds.mapIdx fun i d => .tup [.int i, d], none⟩ s1
  | _ => .stk
def iZip (a b : ME) : MI := fun env s => (a env s).bind fun x s1 => (b env s1).bind fun y s2 => match seqOf s2 x, seqOf s2 y with
  | some ds, some es => .ok ⟨List.zipWith (fun d e => .tup [d, e]) ds es, none⟩ s2
  | _, _ => .stk
/-- nothing raised within a comprehension -/
def calm {α : Type} (m : Res α) : Res α := match m with | .ok a s => .ok a s | _ => .stk
@[simp] theorem calm_ok {α : Type} (a : α) (s : Sto) : calm (.ok a s) = .ok a s := rfl
def wipeE (env : Env) : List Nat → Env
  | [] => env
  | v :: vs => (wipeE env vs).set v .emp
def lcL (x : Src) (g : MG) (t : MT) (e : ME) (env : Env) : Nat → List D → Sto → Res (List D)
  | _, [], s => if fin x s then .ok [] s else .stk
  | i, d :: ds, s => (Res.ofO ((cur x s i d).bind fun d => g d env) s).bind fun env1 s => (calm (t env1 s)).bind fun b s1 =>
    if b then (calm (e env1 s1)).bind fun y s2 => (lcL x g t e env (i + 1) ds s2).bind fun ys s3 => .ok (y :: ys) s3
    else lcL x g t e env (i + 1) ds s1
def tYesM : MT := fun _ s => .ok true s
def lLc (mi : MI) (g : MG) (t : MT) (e : ME) (vs : List Nat) : MA := fun env s => (mi env s).bind fun x s1 => if x.ds.length ≤ cap then lcL x g t e (wipeE env vs) 0 x.ds s1 else .stk

/-! ### statements -/
inductive SRes where
  | nx (e : Env) (s : Sto) | rt (d : D) (s : Sto) | bk (e : Env) (s : Sto) | ct (e : Env) (s : Sto) | ex (x : Exn) (e : Env) (s : Sto) | stk
abbrev MS := Env → Sto → SRes
/-- an expression's answer, then on -/
def Res.go {α : Type} (m : Res α) (env : Env) (f : α → Sto → SRes) : SRes :=
  match m with
  | .ok a s => f a s
  | .exc x s => .ex x env s
  | .stk => .stk
@[simp] theorem Res.go_ok {α : Type} (a : α) (s : Sto) (env : Env) (f : α → Sto → SRes) : (Res.ok a s).go env f = f a s := rfl
@[simp] theorem Res.go_exc {α : Type} (x : Exn) (s : Sto) (env : Env) (f : α → Sto → SRes) : (Res.exc x s : Res α).go env f = .ex x env s := rfl
def SRes.andThen (r : SRes) (f : Env → Sto → SRes) : SRes :=
  match r with
  | .nx e s => f e s
  | r => r
@[simp] theorem SRes.andThen_nx (e : Env) (s : Sto) (f : Env → Sto → SRes) : (SRes.nx e s).andThen f = f e s := rfl
@[simp] theorem SRes.andThen_rt (d : D) (s : Sto) (f : Env → Sto → SRes) : (SRes.rt d s).andThen f = .rt d s := rfl
@[simp] theorem SRes.andThen_ex (x : Exn) (e : Env) (s : Sto) (f : Env → Sto → SRes) : (SRes.ex x e s).andThen f = .ex x e s := rfl
@[simp] theorem SRes.andThen_bk (e : Env) (s : Sto) (f : Env → Sto → SRes) : (SRes.bk e s).andThen f = .bk e s := rfl
@[simp] theorem SRes.andThen_ct (e : Env) (s : Sto) (f : Env → Sto → SRes) : (SRes.ct e s).andThen f = .ct e s := rfl
def sNext : MS := fun e s => .nx e s
def sBrk : MS := fun e s => .bk e s
def sCnt : MS := fun e s => .ct e s
def sSeq (a b : MS) : MS := fun e s => (a e s).andThen b
def putE (g : MG) (d : D) (e : Env) (s : Sto) : SRes := match g d e with | some e' => .nx e' s | none => .stk
def sAsg (m : ME) (g : MG) : MS := fun e s => (m e s).go e fun d s1 => putE g d e s1
def sOwn (l : MA) (i : Nat) : MS := fun e s => (l e s).go e fun ds s1 => .nx (e.set i (.own ds)) s1
def sApp (i : Nat) (m : ME) : MS := fun e s => match e[i]? with
  | some (.own ds) => (m e s).go e fun d s1 => if ds.length < cap then .nx (e.set i (.own (ds ++ [d]))) s1 else .stk
  | _ => .stk
def sExt (i : Nat) (l : ME) : MS := fun e s => match e[i]? with
  | some (.own ds) => (l e s).go e fun x s1 => match view s1 x with
    | .lst es => if ds.length + es.length < cap then .nx (e.set i (.own (ds ++ es))) s1 else .stk
    | _ => .stk
  | _ => .stk
/-- a list of the frame's own becomes a value -/
def sFrz (i : Nat) : MS := fun e s => match e[i]? with
  | some (.own ds) => .nx (e.set i (.val (.lst ds))) s
  | _ => .stk
def sDrop (m : ME) : MS := fun e s => (m e s).go e fun _ s1 => .nx e s1
def sRet (m : ME) : MS := fun e s => (m e s).go e fun d s1 => .rt d s1
def sIf (t : MT) (a b : MS) : MS := fun e s => (t e s).go e fun c s1 => if c then a e s1 else b e s1
def forL (x : Src) (g : MG) (body : MS) : Nat → List D → Env → Sto → SRes
  | _, [], e, s => if fin x s then .nx e s else .stk
  | i, d :: ds, e, s => match (cur x s i d).bind fun d => g d e with
    | none => .stk
    | some e1 => match body e1 s with
      | .nx e2 s2 => forL x g body (i + 1) ds e2 s2
      | .ct e2 s2 => forL x g body (i + 1) ds e2 s2
      | .bk e2 s2 => .nx e2 s2
      | r => r
def sFor (mi : MI) (g : MG) (body : MS) : MS := fun e s => (mi e s).go e fun x s1 => forL x g body 0 x.ds e s1
def whL (t : MT) (body : MS) : Nat → Env → Sto → SRes
  | 0, _, _ => .stk
  | n + 1, e, s => (t e s).go e fun c s1 => if c then (match body e s1 with
      | .nx e2 s2 => whL t body n e2 s2
      | .ct e2 s2 => whL t body n e2 s2
      | .bk e2 s2 => .nx e2 s2
      | r => r) else .nx e s1
def sWhile (n : Nat) (t : MT) (body : MS) : MS := whL t body n
/-- o.f = e -/
def putF' (f : String) (v : D) : List (String × D) → List (String × D)
  | [] => [(f, v)]
  | (g, w) :: r => if g = f then (g, v) :: r else (g, w) :: putF' f v r
def sFld (c : Nat) (o m : ME) (f : String) : MS := fun e s => (m e s).go e fun d s1 => (o e s1).go e fun x s2 => match x with
  | .ref n => match s2[n]? with
    | some (.ins c' fs) => if c' = c ∧ fs.length < 100 then .nx e (s2.set n (.ins c (putF' f d fs))) else .stk
    | _ => .stk
  | _ => .stk
/-- placed lists: append, pop -/
def eAppP (o m : ME) : ME := fun env s => (o env s).bind fun x s1 => (m env s1).bind fun d s2 => match x with
  | .ref n => match s2[n]? with
    | some (.lst ds) => if ds.length < cap then .ok .non (s2.set n (.lst (ds ++ [d]))) else .stk
    | _ => .stk
  | _ => .stk
def ePopP (o : ME) : ME := fun env s => (o env s).bind fun x s1 => match x with
  | .ref n => match s1[n]? with
    | some (.lst ds) => match ds[ds.length - 1]? with
      | some d => .ok d (s1.set n (.lst ds.dropLast))
      | none => .stk
    | _ => .stk
  | _ => .stk
/-- o[i] = e, of a placed list -/
def sSet (o i m : ME) : MS := fun e s => (m e s).go e fun d s1 => (o e s1).go e fun x s2 => (i e s2).go e fun k s3 => match x, k with
  | .ref n, .int k => match s3[n]? with
    | some (.lst ds) => match place ds.length k with
      | some j => .nx e (s3.set n (.lst (ds.set j d)))
      | none => .stk
    | _ => .stk
  | _, _ => .stk
/-- a def's body run: what it hands back -/
def runB (k n : Nat) (body : MS) : Fn := fun ds s => if ds.length = k then (match body (ds.map .val ++ List.replicate (n - k) .emp) s with
  | .nx _ s => .ok .non s
  | .rt d s => .ok d s
  | .ex x _ s => .exc x s
  | _ => .stk) else .stk
/-! ### more words -/
def opNeg : Op1 := fun _ x => match x with | .int i => some (.int (-i)) | _ => none
/-- each sign of a text -/
def iStrI (a : ME) : MI := fun env s => (a env s).bind fun x s1 => match x with | .str cs => .ok ⟨cs.map fun c => .str [c], none⟩ s1 | _ => .stk
/-- two new lists in one -/
def lAdd (a b : ME) : MA := fun env s => (a env s).bind fun x s1 => (b env s1).bind fun y s2 => match view s2 x, view s2 y with
  | .lst xs, .lst ys => if xs.length + ys.length ≤ cap then .ok (xs ++ ys) s2 else .stk
  | _, _ => .stk
def cutAt (u : List Nat) (y : D) (s : Sto) : Res (List D) := match y with
  | .str [c] => if u.length ≤ cap ∧ c < 256 then .ok ((cutC c u).map D.str) s else .stk
  | _ => .stk
def lSplit (a b : ME) : MA := fun env s => (a env s).bind fun x s1 => match x with | .str u => (b env s1).bind fun y s2 => cutAt u y s2 | _ => .stk
def joinAt (sep : List Nat) (y : D) (s : Sto) : Res D := match seqOf s y with
  | some ds => (match strsOf ds with
    | some xs => if sep.length ≤ 10 ∧ xs.length ≤ 10000 ∧ (xs.map List.length).sum ≤ cap then .ok (.str (joinC sep xs)) s else .stk
    | none => .stk)
  | none => .stk
def eJoin (a b : ME) : ME := fun env s => (a env s).bind fun x s1 => match x with | .str u => (b env s1).bind fun y s2 => joinAt u y s2 | _ => .stk
def eTupRg (a : ME) : ME := fun env s => (a env s).bind fun x s1 => match x with | .int j => if 0 ≤ j ∧ j ≤ cap then .ok (.tup (intsD 0 j.toNat)) s1 else .stk | _ => .stk
/-- never read -/
def sNever : MS := fun _ _ => .stk
/-- two names at once -/
def sPar (i j : Nat) (a : MA) : MS := fun e s => (a e s).go e fun ds s1 => match ds with | [d, b] => .nx ((e.set i (.val d)).set j (.val b)) s1 | _ => .stk
/-- a written dict asked with a default -/
def kGetD (tab : List (List Nat × D)) : Op2 := fun _ x y => match x with | .str cs => some ((tab.lookup cs).getD y) | _ => none
def kNotIn (tab : List (List Nat × D)) : Op1 := fun _ x => match x with | .str cs => some (.bl (!(tab.lookup cs).isSome)) | _ => none
def keyEq : D → D → Bool
  | .int i, .int j => decide (i = j)
  | .str a, .str b => decide (a = b)
  | _, _ => false
def isKey : D → Bool | .int _ | .str _ => true | _ => false
def dLook (kvs : List (D × D)) (x : D) : Option D := (kvs.find? fun kv => keyEq kv.1 x).map (·.2)
def dPut (kvs : List (D × D)) (x y : D) : List (D × D) := if (kvs.any fun kv => keyEq kv.1 x) = true then kvs.map (fun kv => if keyEq kv.1 x then (kv.1, y) else kv) else kvs ++ [(x, y)]
def dMerge (a b : List (D × D)) : List (D × D) := b.foldl (fun acc kv => dPut acc kv.1 kv.2) a
def dicOf (s : Sto) : D → Option (List (D × D))
  | .ref n => match s[n]? with
    | some (.dic kvs) => some kvs
    | _ => none
  | _ => none
def opDGet : Op2 := fun s x y => if isKey y then (dicOf s x).bind fun kvs => dLook kvs y else none
def opDIn : Op2 := fun s x y => if isKey x then (dicOf s y).map fun kvs => .bl (dLook kvs x).isSome else none
def opDNotIn : Op2 := fun s x y => if isKey x then (dicOf s y).map fun kvs => .bl (!(dLook kvs x).isSome) else none
/-- {k: v, ..}, written pairs, placed -/
def pNil : Env → Sto → Res (List (D × D)) := fun _ s => .ok [] s
def pCons (k v : ME) (r : Env → Sto → Res (List (D × D))) : Env → Sto → Res (List (D × D)) := fun env s => (k env s).bind fun x s1 => (v env s1).bind fun y s2 => (r env s2).bind fun ps s3 => .ok ((x, y) :: ps) s3
def eDic (p : Env → Sto → Res (List (D × D))) : ME := fun env s => (p env s).bind fun ps s1 => if ps.all (fun kv => isKey kv.1) && decide (ps.length ≤ 15) then .ok (.ref s1.length) (s1 ++ [.dic (dMerge [] ps)]) else .stk
/-- d.update(e), two placed dicts -/
def refN : D → Option Nat | .ref n => some n | _ => none
def eUpd (a b : ME) : ME := fun env s => (a env s).bind fun x s1 => if (dicOf s1 x).isSome then (b env s1).bind fun y s2 => match refN x, refN y, dicOf s2 x, dicOf s2 y with
  | some n, some m, some p, some r => if n ≠ m ∧ p.length + r.length ≤ 1000 then .ok .non (s2.set n (.dic (dMerge p r))) else .stk
  | _, _, _, _ => .stk else .stk
abbrev FnK := List D → List D → Sto → Res D
/-- the made instance, behind its maker -/
def madeR (n : Nat) (r : Res D) : Res D := r.bind fun d s => match d with | .non => .ok (.ref n) s | _ => .stk
/-- an instance made with keywords -/
def eNewK (c : Nat) (g : FnK) (n m : Nat) (a k : MA) : ME := fun env s => (a env s).bind fun ds s1 => (k env s1).bind fun es s2 => if ds.length = n ∧ es.length = m then madeR s2.length (g (.ref s2.length :: ds) es (s2 ++ [.ins c []])) else .stk
/-- a call with keywords -/
def eCallK (g : FnK) (n m : Nat) (a k : MA) : ME := fun env s => (a env s).bind fun ds s1 => (k env s1).bind fun es s2 => if ds.length = n ∧ es.length = m then g ds es s2 else .stk
/-- zip of a tuple and a list -/
def zipTL (x y : D) (s : Sto) : Res Src := match x, y with
  | .tup ds, .lst es => .ok ⟨List.zipWith (fun d e => .tup [d, e]) ds es, none⟩ s
  | _, _ => .stk
def iZipTL (a b : ME) : MI := fun env s => (a env s).bind fun x s1 => (b env s1).bind fun y s2 => zipTL x y s2
/-! ### words of refusals and readers -/
def cntAt (ds : List D) (y : D) (s : Sto) : Res D := if y.fit 50 && D.fits 50 ds then .ok (.int ((ds.countP fun z => z.eqv y : Nat) : Int)) s else .stk
def idxAt (ds : List D) (y : D) (s : Sto) : Res D := if y.fit 50 && D.fits 50 ds then (match ds.findIdx? fun z => z.eqv y with | some j => .ok (.int (j : Nat)) s | none => .stk) else .stk
/-- x.count(y), x.index(y) of a list -/
def eCnt (a b : ME) : ME := fun env s => (a env s).bind fun x s1 => match x with | .lst ds => (b env s1).bind fun y s2 => cntAt ds y s2 | _ => .stk
def eIdx (a b : ME) : ME := fun env s => (a env s).bind fun x s1 => match x with | .lst ds => (b env s1).bind fun y s2 => idxAt ds y s2 | _ => .stk
def intsOf : List D → Option (List Int)
  | [] => some []
  | .int i :: r => (intsOf r).map fun is => i :: is
  | _ :: _ => none
/-- max(..) of a list of numbers -/
def opMax : Op1 := fun _ x => match x with | .lst ds => (match intsOf ds with | some (n :: ns) => some (.int (ns.foldl max n)) | _ => none) | _ => none
/-- a list so many times -/
def mulAt (x y : D) (s : Sto) : Res (List D) := match view s x, y with | .lst ds, .int k => if ds.length * k.toNat ≤ cap ∧ -1000 ≤ k ∧ k ≤ 1000 then .ok (List.replicate k.toNat ds).flatten s else .stk | _, _ => .stk
def lMul (a b : ME) : MA := fun env s => (a env s).bind fun x s1 => (b env s1).bind fun y s2 => mulAt x y s2
/-- a piece of a text -/
def cutS0 (cs : List Nat) (lo hi : Option Int) : List Nat := (cs.drop (partIx cs.length 0 lo)).take (partIx cs.length cs.length hi - partIx cs.length 0 lo)
def cutSAt (x : D) (l h : Option Int) (s : Sto) : Res D := match x with | .str cs => if cs.length ≤ cap then .ok (.str (cutS0 cs l h)) s else .stk | _ => .stk
def eSlS (a : ME) (lo hi : MO) : ME := fun env s => (a env s).bind fun x s1 => (lo env s1).bind fun l s2 => (hi env s2).bind fun h s3 => cutSAt x l h s3
/-- d[k] = e, of a placed dict -/
def putAt (e : Env) (x k d : D) (s : Sto) : SRes := match x with
  | .ref n => (match s[n]? with
    | some (.dic kvs) => if isKey k = true ∧ kvs.length < 1000 then .nx e (s.set n (.dic (dPut kvs k d))) else .stk
    | _ => .stk)
  | _ => .stk
def sSetD (o i m : ME) : MS := fun e s => (m e s).go e fun d s1 => (o e s1).go e fun x s2 => (i e s2).go e fun k s3 => putAt e x k d s3
/-- two names at once, the first one a list of the frame's own -/
def sParO (i j : Nat) (l : MA) (m : ME) : MS := fun e s => (l e s).go e fun ds s1 => (m e s1).go e fun b s2 => .nx ((e.set i (.own ds)).set j (.val b)) s2
/-! ### refusals -/
def eIsX (i : Nat) (tab : List (Nat × Bool)) : ME := fun env s => match env[i]? with
  | some (.exn x) => (match tab.lookup x.cls with | some b => .ok (.bl b) s | none => .stk)
  | _ => .stk
def eXf (i : Nat) (f : String) (cs : List Nat) : ME := fun env s => match env[i]? with
  | some (.exn x) => if x.cls ∈ cs then (match x.fs.lookup f with | some d => .ok d s | none => .stk) else .stk
  | _ => .stk
def eTold (me : ME) (mh : MS) (N j : Nat) (cs : List Nat) : ME := fun env s => match me env s with
  | .ok d s1 => .ok d s1
  | .exc x s1 => if x.cls ∈ cs then (match mh ((List.replicate N .emp).set j (.exn x)) s1 with | .rt d s2 => .ok d s2 | _ => .stk) else .stk
  | .stk => .stk
def sRz (c : Nat) : MS := fun e s => .ex ⟨c, []⟩ e s
def sRs (c : Nat) (fs : List String) (ma : MA) : MS := fun e s => (ma e s).go e fun ds s1 => if ds.length = fs.length then .ex ⟨c, (fs.zip ds).reverse⟩ e s1 else .stk
/-- enumerate of a tuple -/
def iEnumT (a : ME) : MI := fun env s => (a env s).bind fun x s1 => match x with
  | .tup ds => .ok ⟨ds.mapIdx fun i d => .tup [.int i, d], none⟩ s1
  | _ => .stk
/-! ### two walks in one comprehension -/
def lcL2 (x : Src) (g : MG) (t : MT) (mi1 : MI) (g1 : MG) (t1 : MT) (e : ME) (vs1 : List Nat) (env : Env) : Nat → List D → Sto → Res (List D)
  | _, [], s => if fin x s then .ok [] s else .stk
  | i, d :: ds, s => (Res.ofO ((cur x s i d).bind fun d => g d env) s).bind fun env1 s => (calm (t env1 s)).bind fun b s1 =>
    if b then (calm (mi1 env1 s1)).bind fun x1 s2 => if x1.ds.length ≤ 1000 then (lcL x1 g1 t1 e (wipeE env1 vs1) 0 x1.ds s2).bind fun ys s3 => (lcL2 x g t mi1 g1 t1 e vs1 env (i + 1) ds s3).bind fun zs s4 => .ok (ys ++ zs) s4 else .stk
    else lcL2 x g t mi1 g1 t1 e vs1 env (i + 1) ds s1
def lLc2 (mi : MI) (g : MG) (t : MT) (mi1 : MI) (g1 : MG) (t1 : MT) (e : ME) (vs vs1 : List Nat) : MA := fun env s => (mi env s).bind fun x s1 => if x.ds.length ≤ 1000 then lcL2 x g t mi1 g1 t1 e vs1 (wipeE env vs) 0 x.ds s1 else .stk
/-! ### placed lists -/
def plOf (s : Sto) : D → Option (List D)
  | .ref n => match s[n]? with
    | some (.lst ds) => some ds
    | _ => none
  | _ => none
def putL (x : D) (ds : List D) (s : Sto) : Sto := match x with | .ref n => s.set n (.lst ds) | _ => s
/-- a placed list, a thing read, then what becomes of it -/
def plAt (o : ME) (f : D → Env → Sto → Res D) : ME := fun env s => (o env s).bind fun x s1 => if (plOf s1 x).isSome then f x env s1 else .stk
def appAt (x d : D) (s : Sto) : Res D := match plOf s x with | some ds => if ds.length < cap then .ok .non (putL x (ds ++ [d]) s) else .stk | none => .stk
def extAt (x d : D) (s : Sto) : Res D := match plOf s x, view s d with | some ds, .lst es => if ds.length + es.length < cap then .ok .non (putL x (ds ++ es) s) else .stk | _, _ => .stk
def popAt (x : D) (s : Sto) : Res D := match plOf s x with | some ds => (match ds[ds.length - 1]? with | some d => .ok d (putL x ds.dropLast s) | none => .stk) | none => .stk
def clrAt (x : D) (s : Sto) : Res D := match plOf s x with | some _ => .ok .non (putL x [] s) | none => .stk
def eAppL (o m : ME) : ME := plAt o fun x env s => (m env s).bind fun d s2 => appAt x d s2
def eExtL (o m : ME) : ME := plAt o fun x env s => (m env s).bind fun d s2 => extAt x d s2
def ePopL (o : ME) : ME := plAt o fun x _ s => popAt x s
def eClrL (o : ME) : ME := plAt o fun x _ s => clrAt x s
/-! ### lists of other things -/
def opMin : Op2 := fun _ x y => match x, y with | .int i, .int j => some (.int (if j < i then j else i)) | _, _ => none
/-- put where it belongs, once -/
def insU (n : Int) : List Int → List Int
  | [] => [n]
  | m :: r => if n < m then n :: m :: r else if n = m then m :: r else m :: insU n r
def sortU (ns : List Int) : List Int := ns.foldr insU []
def setAt (x : D) (s : Sto) : Res (List D) := match x with
  | .tup ds => (match intsOf ds with | some ns => if ns.length < 64 then .ok ((sortU ns).map D.int) s else .stk | none => .stk)
  | _ => .stk
/-- sorted(set(t)), t a tuple of numbers -/
def lSrtS (a : ME) : MA := fun env s => (a env s).bind fun x s1 => setAt x s1
def enumAt (x : D) (s : Sto) : Res (List D) := match x with
  | .lst ds => if ds.length ≤ cap then .ok (ds.mapIdx fun i d => .tup [.int i, d]) s else .stk
  | _ => .stk
/-- list(enumerate(x)), x a list -/
def lEnum (a : ME) : MA := fun env s => (a env s).bind fun x s1 => enumAt x s1
/-! ### books -/
/-- three names at once -/
def sPar3 (i j k : Nat) (a : MA) : MS := fun e s => (a e s).go e fun ds s1 => match ds with | [x, y, z] => .nx (((e.set i (.val x)).set j (.val y)).set k (.val z)) s1 | _ => .stk
/-- a, *b = a placed list -/
def starAt (g : MG) (x : D) (e : Env) (s : Sto) : SRes := match plOf s x with | some ds => putE g (.lst ds) e s | none => .stk
def sStP (m : ME) (g : MG) : MS := fun e s => (m e s).go e fun x s1 => starAt g x e s1
def dDrop (kvs : List (D × D)) (x : D) : List (D × D) := kvs.filter fun kv => !keyEq kv.1 x
def putDic (x : D) (kvs : List (D × D)) (s : Sto) : Sto := match x with | .ref n => s.set n (.dic kvs) | _ => s
def dicAt (o : ME) (f : D → Env → Sto → Res D) : ME := fun env s => (o env s).bind fun x s1 => if (dicOf s1 x).isSome then f x env s1 else .stk
/-- d.pop(k, z) -/
def dpopAt (x k z : D) (s : Sto) : Res D := match dicOf s x with
  | some kvs => if isKey k then (match dLook kvs k with | some v => .ok v (putDic x (dDrop kvs k) s) | none => .ok z s) else .stk
  | none => .stk
def eDPop (o k z : ME) : ME := dicAt o fun x env s => (k env s).bind fun y s2 => (z env s2).bind fun w s3 => dpopAt x y w s3
/-- d.setdefault(k, z) -/
def dsetAt (x k z : D) (s : Sto) : Res D := match dicOf s x with
  | some kvs => if isKey k && decide (kvs.length < 1000) then (match dLook kvs k with | some v => .ok v s | none => .ok z (putDic x (dPut kvs k z) s)) else .stk
  | none => .stk
def eDSetd (o k z : ME) : ME := dicAt o fun x env s => (k env s).bind fun y s2 => (z env s2).bind fun w s3 => dsetAt x y w s3
/-- sorted(d), its keys numbers -/
def srtdAt (x : D) (s : Sto) : Res (List D) := match dicOf s x with
  | some kvs => (match intsOf (kvs.map (·.1)) with | some ns => if ns.length < 64 ∧ ns.Nodup then .ok ((sortU ns).map D.int) s else .stk | none => .stk)
  | none => .stk
def lSrtD (a : ME) : MA := fun env s => (a env s).bind fun x s1 => srtdAt x s1
/-- sorted(set(x)), x a list of numbers -/
def setLAt (x : D) (s : Sto) : Res (List D) := match x with
  | .lst ds => (match intsOf ds with | some ns => if ns.length < 1000 ∧ (sortU ns).length < 64 then .ok ((sortU ns).map D.int) s else .stk | none => .stk)
  | _ => .stk
def lSrtL (a : ME) : MA := fun env s => (a env s).bind fun x s1 => setLAt x s1
def boolsOf : List D → Option (List Bool)
  | [] => some []
  | .bl i :: r => (boolsOf r).map fun is => i :: is
  | _ :: _ => none
def cntB (bs : List Bool) : Nat := (if true ∈ bs then 1 else 0) + (if false ∈ bs then 1 else 0)
/-- len(set(x)), x a list of truth values -/
def lenSetAt (x : D) (s : Sto) : Res D := match x with
  | .lst ds => (match boolsOf ds with | some bs => if bs.length < 1000 then .ok (.int (cntB bs : Nat)) s else .stk | none => .stk)
  | _ => .stk
def eLenSet (a : ME) : ME := fun env s => (a env s).bind fun x s1 => lenSetAt x s1
/-- dict(d) -/
def dcopyAt (x : D) (s : Sto) : Res D := match dicOf s x with
  | some kvs => .ok (.ref s.length) (s ++ [.dic kvs])
  | none => .stk
def eDCopy (a : ME) : ME := fun env s => (a env s).bind fun x s1 => dcopyAt x s1
/-- {} -/
def eDic0 : ME := fun _ s => .ok (.ref s.length) (s ++ [.dic []])
/-- two things alike, lists and dicts of plain ones too -/
def likeV (r : List (D × D)) (kv : D × D) : Bool := kv.2.fit 30 && (match dLook r kv.1 with | some v => v.fit 30 && kv.2.eqv v | none => false)
def likeDic (s : Sto) (x y : D) : Bool := match refN x, refN y, dicOf s x, dicOf s y with
  | some n, some m, some p, some r => decide (n ≠ m) && decide (p.length = r.length) && p.all (likeV r)
  | _, _, _, _ => false
def likeAt (s : Sto) (x y : D) : Bool := ((view s x).fit 30 && (view s y).fit 30 && (view s x).eqv (view s y)) || likeDic s x y
def likeAll (s : Sto) : List D → List D → Bool
  | [], [] => true
  | x :: xs, y :: ys => likeAt s x y && likeAll s xs ys
  | _, _ => false
/-- x != y, two lists of such things that are alike -/
def opNeX : Op2 := fun s x y => match x, y with
  | .lst xs, .lst ys => if likeAll s xs ys then some (.bl false) else none
  | _, _ => none
end MP

/-! How the mini machine's data stand in the abstract heap of the layer, and what it means that a reading follows it. Own text. -/
namespace MP
open PySem L2

/-- an abstract state: the tracked heap, what trees keep away from, where the placed objects lie -/
structure Stt where
  H : Hp
  L : Addr → Prop
  r : List Addr

/-- not a table of code objects: such grow -/
def NT (o : HO) : Prop := ∀ ps, o ≠ .tbl ps
/-- untracked, or a table of code objects -/
def Fr (q : Stt) (a : Addr) : Prop := ∀ o, q.H a = some o → ¬ NT o
theorem Fr.of {q : Stt} {a : Addr} (h : q.H a = none) : Fr q a := fun o e => by rw [h] at e; cases e
theorem Fr.ne {q : Stt} {p a : Addr} {o : HO} (f : Fr q p) (e : q.H a = some o) (t : NT o) : a ≠ p := fun z => by subst z; exact f o e t
structure Ext (q q' : Stt) : Prop where
  keep : ∀ a o, q.H a = some o → a ∉ q.r → NT o → q'.H a = some o
  mono : ∀ a, q.L a → q'.L a
  u : ∀ a o, q.H a = some o → ¬ q.L a → NT o → q'.H a = some o ∧ ¬ q'.L a
  pre : ∃ t, q'.r = q.r ++ t
  new : ∀ a, a ∈ q'.r → a ∈ q.r ∨ Fr q a
  th : ∀ a o, q.H a = some o → NT o → ∃ o', q'.H a = some o' ∧ NT o'
structure WF (q : Stt) : Prop where
  nd : q.r.Nodup
  live : ∀ a, a ∈ q.r → q.L a
  trk : ∀ a, q.L a → ∃ o, q.H a = some o ∧ NT o
/-- what trees lean on is kept -/
structure Kp (q q' : Stt) : Prop where
  u : ∀ a o, q.H a = some o → ¬ q.L a → NT o → q'.H a = some o ∧ ¬ q'.L a
  pre : ∃ t, q'.r = q.r ++ t

theorem pre_trans {a b c : List Addr} (x : ∃ t, b = a ++ t) (y : ∃ t, c = b ++ t) : ∃ t, c = a ++ t := by
  obtain ⟨t, e⟩ := x
  obtain ⟨u, f⟩ := y
  exact ⟨t ++ u, by rw [f, e, List.append_assoc]⟩
theorem Ext.refl (q : Stt) : Ext q q := ⟨fun _ _ h _ _ => h, fun _ h => h, fun _ _ h n _ => ⟨h, n⟩, ⟨[], by simp⟩, fun _ h => .inl h, fun _ o h t => ⟨o, h, t⟩⟩
theorem Ext.trans {a b c : Stt} (x : Ext a b) (y : Ext b c) : Ext a c where
  keep := fun p o h n t => y.keep p o (x.keep p o h n t) (fun hb => (x.new p hb).elim n fun z => z o h t) t
  mono := fun p h => y.mono p (x.mono p h)
  u := fun p o h n t => y.u p o (x.u p o h n t).1 (x.u p o h n t).2 t
  pre := pre_trans x.pre y.pre
  new := fun p h => (y.new p h).elim (fun z => x.new p z) fun z => by
    refine .inr fun o e t => ?_
    obtain ⟨o', e', t'⟩ := x.th p o e t
    exact z o' e' t'
  th := fun p o h t => let ⟨o', h', t'⟩ := x.th p o h t; y.th p o' h' t'
theorem Ext.kp {a b : Stt} (x : Ext a b) : Kp a b := ⟨x.u, x.pre⟩
theorem Kp.refl (q : Stt) : Kp q q := ⟨fun _ _ h n _ => ⟨h, n⟩, ⟨[], by simp⟩⟩
theorem Kp.trans {a b c : Stt} (x : Kp a b) (y : Kp b c) : Kp a c :=
  ⟨fun p o h n t => y.u p o (x.u p o h n t).1 (x.u p o h n t).2 t, pre_trans x.pre y.pre⟩
theorem WF.no {q : Stt} (w : WF q) {a : Addr} (h : q.H a = none) : ¬ q.L a := fun z => by
  obtain ⟨o, e, _⟩ := w.trk a z
  rw [h] at e; cases e
theorem WF.noF {q : Stt} (w : WF q) {a : Addr} (h : Fr q a) : ¬ q.L a := fun z => let ⟨o, e, t⟩ := w.trk a z; h o e t
theorem WF.norF {q : Stt} (w : WF q) {a : Addr} (h : Fr q a) : a ∉ q.r := fun z => w.noF h (w.live a z)
theorem WF.nor {q : Stt} (w : WF q) {a : Addr} (h : q.H a = none) : a ∉ q.r := fun z => w.no h (w.live a z)
theorem WF.nor' {q : Stt} (w : WF q) {a : Addr} (h : ¬ q.L a) : a ∉ q.r := fun z => h (w.live a z)
/-- a new object of no concern -/
theorem Ext.new1 {q : Stt} (w : WF q) {p : Addr} {o : HO} (h : q.H p = none) : Ext q ⟨upd q.H p o, q.L, q.r⟩ :=
  ⟨fun a u e _ _ => by show upd q.H p o a = _; rw [upd_ne (ne_of_none e h)]; exact e, fun _ x => x,
   fun a u e n _ => ⟨by show upd q.H p o a = _; rw [upd_ne (ne_of_none e h)]; exact e, n⟩, ⟨[], by simp⟩, fun _ x => .inl x, fun a u e t => ⟨u, by show upd q.H p o a = _; rw [upd_ne (ne_of_none e h)]; exact e, t⟩⟩
theorem WF.new1 {q : Stt} (w : WF q) {p : Addr} {o : HO} (h : q.H p = none) : WF ⟨upd q.H p o, q.L, q.r⟩ :=
  ⟨w.nd, w.live, fun a l => by
    obtain ⟨u, e, t⟩ := w.trk a l
    exact ⟨u, by show upd q.H p o a = _; rw [upd_ne (ne_of_none e h)]; exact e, t⟩⟩

/-! ### data in the heap -/
def FT (K : PySem.W.Frag) (q : Stt) (a : Addr) (vs : List V) : Prop := (q.H a = some (.tup vs) ∧ ¬ q.L a) ∨ SqT K (fun _ => none) a vs
def FL (q : Stt) (a : Addr) (vs : List V) : Prop := q.H a = some (.lst vs) ∧ ¬ q.L a
def FS (K : PySem.W.Frag) (q : Stt) (a : Addr) (vs : List V) : Prop := (∃ o, q.H a = some (.frz o (.lst vs)) ∧ ¬ q.L a) ∨ FL q a vs ∨ SqL K (fun _ => none) a vs
theorem FS.sq {K : PySem.W.Frag} {q : Stt} {a : Addr} {vs : List V} (h : FS K q a vs) : SqL K q.H a vs := by
  rcases h with ⟨o, h, _⟩ | ⟨h, _⟩ | h
  · exact .inl (.inr ⟨o, h⟩)
  · exact .inl (.inl h)
  · rcases h with (h | ⟨_, h⟩) | h
    · cases h
    · cases h
    · exact .inr h
theorem FT.sq {K : PySem.W.Frag} {q : Stt} {a : Addr} {vs : List V} (h : FT K q a vs) : SqT K q.H a vs := by
  rcases h with ⟨h, _⟩ | h
  · exact .inl (.inl h)
  · rcases h with (h | ⟨_, h⟩) | h
    · cases h
    · cases h
    · exact .inr h
mutual
inductive RD (K : PySem.W.Frag) (q : Stt) : D → V → Prop
  | non : RD K q .non .non
  | bl (b : Bool) : RD K q (.bl b) (.bl b)
  | int (i : Int) : RD K q (.int i) (.int i)
  | str (cs : List Nat) : RD K q (.str cs) (.str ⟨cs.toArray⟩)
  | tup {a : Addr} {vs : List V} {ds : List D} : FT K q a vs → RDs K q ds vs → RD K q (.tup ds) (.ref a)
  | lst {a : Addr} {vs : List V} {ds : List D} : FL q a vs → RDs K q ds vs → RD K q (.lst ds) (.ref a)
  | ref {n : Nat} {a : Addr} : q.r[n]? = some a → RD K q (.ref n) (.ref a)
  | scr {ns : List Int} {a : Addr} : FS K q a (ns.map V.int) → RD K q (.scr ns) (.ref a)
inductive RDs (K : PySem.W.Frag) (q : Stt) : List D → List V → Prop
  | nil : RDs K q [] []
  | cons {d : D} {v : V} {ds : List D} {vs : List V} : RD K q d v → RDs K q ds vs → RDs K q (d :: ds) (v :: vs)
end
section
variable {K : PySem.W.Frag} {q q' : Stt}
theorem FT.mono {a : Addr} {vs : List V} (k : Kp q q') (h : FT K q a vs) : FT K q' a vs := by
  rcases h with ⟨h, n⟩ | h
  · exact .inl (k.u _ _ h n fun _ z => nomatch z)
  · exact .inr h
theorem FL.mono {a : Addr} {vs : List V} (k : Kp q q') (h : FL q a vs) : FL q' a vs := k.u _ _ h.1 h.2 fun _ z => nomatch z
theorem FS.mono {a : Addr} {vs : List V} (k : Kp q q') (h : FS K q a vs) : FS K q' a vs := by
  rcases h with ⟨o, h, n⟩ | h | h
  · exact .inl ⟨o, (k.u _ _ h n fun _ z => nomatch z).1, (k.u _ _ h n fun _ z => nomatch z).2⟩
  · exact .inr (.inl (h.mono k))
  · exact .inr (.inr h)
theorem pre_get {r r' : List Addr} (p : ∃ t, r' = r ++ t) {n : Nat} {a : Addr} (h : r[n]? = some a) : r'[n]? = some a := by
  obtain ⟨t, e⟩ := p
  have hn := (List.getElem?_eq_some_iff.mp h).1
  rw [e, List.getElem?_append_left hn]; exact h
mutual
theorem RD.mono (k : Kp q q') : ∀ (d : D) {v : V}, RD K q d v → RD K q' d v
  | .non, _, h => by cases h; exact .non
  | .bl b, _, h => by cases h; exact .bl b
  | .int i, _, h => by cases h; exact .int i
  | .str cs, _, h => by cases h; exact .str cs
  | .tup ds, _, h => by cases h with | tup f r => exact .tup (f.mono k) (RDs.mono k ds r)
  | .lst ds, _, h => by cases h with | lst f r => exact .lst (f.mono k) (RDs.mono k ds r)
  | .ref n, _, h => by cases h with | ref e => exact .ref (pre_get k.pre e)
  | .scr ns, _, h => by cases h with | scr f => exact .scr (f.mono k)
theorem RDs.mono (k : Kp q q') : ∀ (ds : List D) {vs : List V}, RDs K q ds vs → RDs K q' ds vs
  | [], _, h => by cases h; exact .nil
  | d :: ds, _, h => by cases h with | cons a b => exact .cons (RD.mono k d a) (RDs.mono k ds b)
end
theorem RDs.length : ∀ {ds : List D} {vs : List V}, RDs K q ds vs → vs.length = ds.length
  | [], _, h => by cases h; rfl
  | _ :: _, _, h => by cases h with | cons _ b => simp [RDs.length b]
theorem RDs.append : ∀ {ds es : List D} {vs us : List V}, RDs K q ds vs → RDs K q es us → RDs K q (ds ++ es) (vs ++ us)
  | [], _, _, _, h, g => by cases h; exact g
  | _ :: _, _, _, _, h, g => by cases h with | cons a b => exact .cons a (RDs.append b g)
theorem RDs.get : ∀ {ds : List D} {vs : List V} {i : Nat} {d : D}, RDs K q ds vs → ds[i]? = some d → ∃ v, vs[i]? = some v ∧ RD K q d v
  | [], _, _, _, h, e => by simp at e
  | _ :: _, _, 0, _, h, e => by cases h with | cons a b => simp at e; subst e; exact ⟨_, rfl, a⟩
  | _ :: ds, _, i + 1, _, h, e => by
    cases h with
    | cons a b =>
      rw [List.getElem?_cons_succ] at e
      obtain ⟨v, h1, h2⟩ := RDs.get b e
      exact ⟨v, by rw [List.getElem?_cons_succ]; exact h1, h2⟩
theorem RDs.get' : ∀ {ds : List D} {vs : List V} {i : Nat} {v : V}, RDs K q ds vs → vs[i]? = some v → ∃ d, ds[i]? = some d ∧ RD K q d v
  | [], _, _, _, h, e => by cases h; simp at e
  | _ :: _, _, 0, _, h, e => by cases h with | cons a b => simp at e; subst e; exact ⟨_, rfl, a⟩
  | _ :: _, _, i + 1, _, h, e => by
    cases h with
    | cons a b =>
      rw [List.getElem?_cons_succ] at e
      obtain ⟨d, h1, h2⟩ := RDs.get' b e
      exact ⟨d, by rw [List.getElem?_cons_succ]; exact h1, h2⟩
theorem RDs.set : ∀ {ds : List D} {vs : List V} {i : Nat} {d : D} {v : V}, RDs K q ds vs → RD K q d v → RDs K q (ds.set i d) (vs.set i v)
  | [], _, _, _, _, h, _ => by cases h; exact .nil
  | _ :: _, _, 0, _, _, h, g => by cases h with | cons a b => exact .cons g b
  | _ :: _, _, i + 1, _, _, h, g => by cases h with | cons a b => exact .cons a (RDs.set b g)
theorem RDs.take : ∀ {ds : List D} {vs : List V} (n : Nat), RDs K q ds vs → RDs K q (ds.take n) (vs.take n)
  | _, _, 0, _ => by simp; exact .nil
  | [], _, n + 1, h => by cases h; exact .nil
  | _ :: _, _, n + 1, h => by cases h with | cons a b => exact .cons a (RDs.take n b)
theorem RDs.drop : ∀ {ds : List D} {vs : List V} (n : Nat), RDs K q ds vs → RDs K q (ds.drop n) (vs.drop n)
  | _, _, 0, h => by simpa using h
  | [], _, n + 1, h => by cases h; exact .nil
  | _ :: _, _, n + 1, h => by cases h with | cons a b => exact RDs.drop n b
theorem RDs.ints : ∀ (ns : List Int), RDs K q (ns.map D.int) (ns.map V.int)
  | [] => .nil
  | n :: ns => .cons (.int n) (RDs.ints ns)
end

/-- the table of classes and what the placed objects are -/
structure Tab where
  f : Nat → Addr
  /-- which slots hold a caught exception: its place, its class, its dict -/
  z : Nat → Option (Addr × Value × Option Addr) := fun _ => none
  /-- the tables of code objects, and the name that their objects bear -/
  t : List (Addr × Str) := []
instance : CoeFun Tab fun _ => Nat → Addr := ⟨Tab.f⟩
inductive RF (K : PySem.W.Frag) (q : Stt) : List (String × D) → List (Str × V) → Prop
  | nil : RF K q [] []
  | cons {f : String} {d : D} {v : V} {fs : List (String × D)} {gs : List (Str × V)} : RD K q d v → RF K q fs gs → RF K q ((f, d) :: fs) ((Str.ofString f, v) :: gs)
def keyOf : D → Option Key
  | .int i => some (.inl i)
  | .str cs => some (.inr ⟨cs.toArray⟩)
  | _ => none
inductive RK (K : PySem.W.Frag) (q : Stt) : List (D × D) → List (Key × V) → Prop
  | nil : RK K q [] []
  | cons {k : D} {d : D} {y : Key} {v : V} {fs : List (D × D)} {gs : List (Key × V)} : keyOf k = some y → RD K q d v → RK K q fs gs → RK K q ((k, d) :: fs) ((y, v) :: gs)
def RO (K : PySem.W.Frag) (C : Nat → Addr) (q : Stt) (a : Addr) : Ob → Prop
  | .lst ds => ∃ vs, q.H a = some (.lst vs) ∧ RDs K q ds vs
  | .ins c fs => ∃ dx gs, q.H a = some (.ins (C c) dx gs) ∧ RF K q fs gs
  | .dic kvs => ∃ ks, q.H a = some (.dK ks) ∧ RK K q kvs ks
/-- the tables of code objects -/
def TB (T : List (Addr × Str)) (H : Hp) : Prop := LamX.Tabs T H
theorem TB.new {T : List (Addr × Str)} {H : Hp} {p : Addr} {o : HO} (t : TB T H) (h : H p = none) (nt : NT o) : TB T (upd H p o) :=
  LamX.Tabs.ext t fun b u e => by rw [upd_ne (ne_of_none e h)]; exact e
structure Rel0 (K : PySem.W.Frag) (C : Nat → Addr) (T : List (Addr × Str)) (s : Sto) (q : Stt) : Prop where
  wf : WF q
  len : q.r.length = s.length
  obs : ∀ (n : Nat) (o : Ob) (a : Addr), s[n]? = some o → q.r[n]? = some a → RO K C q a o
  tb : TB T q.H

abbrev Rel (K : PySem.W.Frag) (C : Tab) (s : Sto) (q : Stt) : Prop := Rel0 K C.f C.t s q

section
variable {K : PySem.W.Frag} {C : Tab} {q q' : Stt}
theorem RF.mono (k : Kp q q') : ∀ {fs : List (String × D)} {gs : List (Str × V)}, RF K q fs gs → RF K q' fs gs
  | _, _, .nil => .nil
  | _, _, .cons a b => .cons (RD.mono k _ a) (RF.mono k b)
theorem RK.mono (k : Kp q q') : ∀ {fs : List (D × D)} {gs : List (Key × V)}, RK K q fs gs → RK K q' fs gs
  | _, _, .nil => .nil
  | _, _, .cons e a b => .cons e (RD.mono k _ a) (RK.mono k b)
/-- an object whose own place is kept -/
theorem RO.mono {a : Addr} (k : Kp q q') (h : q'.H a = q.H a) : ∀ {o : Ob}, RO K C q a o → RO K C q' a o
  | .lst ds, ⟨vs, e, r⟩ => ⟨vs, h.trans e, RDs.mono k ds r⟩
  | .ins c fs, ⟨dx, gs, e, r⟩ => ⟨dx, gs, h.trans e, r.mono k⟩
  | .dic kvs, ⟨ks, e, r⟩ => ⟨ks, h.trans e, r.mono k⟩
theorem RO.there {a : Addr} {o : Ob} (h : RO K C q a o) : ∃ u, q.H a = some u := by
  cases o with
  | lst ds => obtain ⟨vs, e, _⟩ := h; exact ⟨_, e⟩
  | ins c fs => obtain ⟨dx, gs, e, _⟩ := h; exact ⟨_, e⟩
  | dic kvs => obtain ⟨ks, e, _⟩ := h; exact ⟨_, e⟩
theorem RO.kind {a : Addr} {o : Ob} (h : RO K C q a o) : ∃ u, q.H a = some u ∧ NT u ∧ ∀ f, u ≠ .ext f := by
  cases o with
  | lst ds => obtain ⟨vs, e, _⟩ := h; exact ⟨_, e, (fun _ z => nomatch z), fun _ z => nomatch z⟩
  | ins c fs => obtain ⟨dx, gs, e, _⟩ := h; exact ⟨_, e, (fun _ z => nomatch z), fun _ z => nomatch z⟩
  | dic kvs => obtain ⟨ks, e, _⟩ := h; exact ⟨_, e, (fun _ z => nomatch z), fun _ z => nomatch z⟩
theorem Rel.new1 {s : Sto} (R : Rel K C s q) {p : Addr} {o : HO} (h : q.H p = none) (nt : NT o := by exact fun _ z => nomatch z) : Rel K C s ⟨upd q.H p o, q.L, q.r⟩ :=
  ⟨R.wf.new1 h, R.len, fun n ob a e f => by
    have x := R.obs n ob a e f
    obtain ⟨u, hu⟩ := x.there
    exact x.mono (Ext.new1 R.wf h).kp (by show upd q.H p o a = _; rw [upd_ne (ne_of_none hu h)]), R.tb.new h nt⟩
/-- a write at what is no table and no code object -/
theorem tabs_upd {T : List (Addr × Str)} {H : Hp} {a : Addr} {u ho : HO} (t : TB T H) (h : H a = some u) (n1 : NT u) (n2 : ∀ f, u ≠ .ext f) (n3 : NT ho := by exact fun _ z => nomatch z) : TB T (upd H a ho) := by
  intro p hp
  obtain ⟨ps, h1, h2, h3⟩ := t p hp
  refine ⟨ps, ?_, h2, fun pos cv hc => ?_⟩
  · rw [upd_ne fun z => ?_]
    · exact h1
    · rw [z, h] at h1
      exact n1 ps (Option.some.inj h1)
  · obtain ⟨c, e1, e2⟩ := h3 pos cv hc
    refine ⟨c, e1, ?_⟩
    rw [upd_ne fun z => ?_]
    · exact e2
    · rw [z, h] at e2
      unfold LamX.CodeO at e2
      exact n2 _ (Option.some.inj e2)
end

/-! ### the frame's names -/
/-- an exception as it stands: its class, its dict -/
def RX (q : Stt) (C : Tab) (K : PySem.W.Frag) (x : Exn) (cls : Value) (d : Option Addr) : Prop :=
  cls = .ref (C x.cls) ∧ match x.fs with
    | [] => d = none
    | fs => ∃ a gs, d = some a ∧ q.H a = some (.xd gs) ∧ ¬ q.L a ∧ RF K q fs gs
theorem RX.mono {q q' : Stt} {C : Tab} {K : PySem.W.Frag} {x : Exn} {cls : Value} {d : Option Addr} (k : Kp q q') (h : RX q C K x cls d) : RX q' C K x cls d := by
  refine ⟨h.1, ?_⟩
  have h2 := h.2
  split
  · rename_i e; rw [e] at h2; exact h2
  · rename_i fs hne
    split at h2
    · rename_i e; exact absurd e hne
    · obtain ⟨a, gs, e, h1, h3, h4⟩ := h2
      obtain ⟨g1, g2⟩ := k.u _ _ h1 h3 fun _ z => nomatch z
      exact ⟨a, gs, e, g1, g2, h4.mono k⟩
structure RE (K : PySem.W.Frag) (C : Tab) (q0 q : Stt) (env : Env) (σ : St) : Prop where
  len : env.length = σ.length
  val : ∀ (i : Nat) (d : D), env[i]? = some (.val d) → ∃ v, σ[i]? = some (some v) ∧ RD K q d v
  own : ∀ (i : Nat) (ds : List D), env[i]? = some (.own ds) → ∃ a vs, σ[i]? = some (some (.ref a)) ∧ q.H a = some (.lst vs) ∧ q.L a ∧ a ∉ q.r ∧ RDs K q ds vs ∧ Fr q0 a
  inj : ∀ (i j : Nat) (ds es : List D) (a : Addr), env[i]? = some (.own ds) → env[j]? = some (.own es) → σ[i]? = some (some (.ref a)) → σ[j]? = some (some (.ref a)) → i = j
  w0 : WF q0
  exn : ∀ (i : Nat) (x : Exn), env[i]? = some (.exn x) → ∃ a cls d, C.z i = some (a, cls, d) ∧ σ[i]? = some (some (.ref a)) ∧ RX q C K x cls d
theorem RE.ext {K : PySem.W.Frag} {C : Tab} {q0 q q' : Stt} {env : Env} {σ : St} (E : RE K C q0 q env σ) (x : Ext q q') : RE K C q0 q' env σ where
  len := E.len
  val := fun i d e => by
    obtain ⟨v, h, r⟩ := E.val i d e
    exact ⟨v, h, RD.mono x.kp d r⟩
  own := fun i ds e => by
    obtain ⟨a, vs, h1, h2, h3, h4, h5, h6⟩ := E.own i ds e
    exact ⟨a, vs, h1, x.keep a _ h2 h4 (fun _ z => nomatch z), x.mono a h3, (fun z => (x.new a z).elim h4 fun n => n _ h2 fun _ z => nomatch z), RDs.mono x.kp ds h5, h6⟩
  inj := E.inj
  w0 := E.w0
  exn := fun i y e => let ⟨a, cl, d, h1, h2, h3⟩ := E.exn i y e; ⟨a, cl, d, h1, h2, h3.mono x.kp⟩

/-! ### a reading follows a function -/
abbrev Wx := WX
/-- what is asked behind: of a value that stands for the answer, of an exception that stands for the exception -/
def Post {α β : Type} (K : PySem.W.Frag) (C : Tab) (W : Wx) (R : Stt → Stt → α → β → Prop) (q : Stt) (σ : St) (Q : β → Hp → Prop) : Res α → Prop
  | .ok a s => ∀ b q', Ext q q' → Rel K C s q' → R q q' a b → Q b q'.H
  | .exc x s => ∀ cls d q', Ext q q' → Rel K C s q' → RX q' C K x cls d → W cls d σ q'.H
  | .stk => False
def Sim {α β : Type} (K : PySem.W.Frag) (C : Tab) (W : Wx) (R : Stt → Stt → α → β → Prop) (t : St → Hp → (β → Hp → Prop) → Prop) (m : Env → Sto → Res α) : Prop :=
  ∀ (q0 q : Stt) (env : Env) (σ : St) (s : Sto) (Q : β → Hp → Prop), RE K C q0 q env σ → Rel K C s q → Post K C W R q σ Q (m env s) → t σ q.H Q

/-- readable: a value, or a list that is borrowed -/
def RB (K : PySem.W.Frag) (q : Stt) (d : D) (v : V) : Prop := RD K q d v ∨ ∃ a vs ds, d = .lst ds ∧ v = .ref a ∧ q.H a = some (.lst vs) ∧ a ∉ q.r ∧ RDs K q ds vs
theorem RB.ext {K : PySem.W.Frag} {q q' : Stt} {d : D} {v : V} (x : Ext q q') (h : RB K q d v) : RB K q' d v := by
  rcases h with h | ⟨a, vs, ds, e1, e2, h1, h2, h3⟩
  · exact .inl (RD.mono x.kp d h)
  · exact .inr ⟨a, vs, ds, e1, e2, x.keep a _ h1 h2 (fun _ z => nomatch z), (fun z => (x.new a z).elim h2 fun n => n _ h1 fun _ z => nomatch z), RDs.mono x.kp ds h3⟩
/-- a list just made: tracked, kept from trees, not placed -/
def RN (K : PySem.W.Frag) (q q' : Stt) (ds : List D) (v : V) : Prop := ∃ p vs, v = .ref p ∧ Fr q p ∧ q'.H p = some (.lst vs) ∧ q'.L p ∧ p ∉ q'.r ∧ RDs K q' ds vs
abbrev rD (K : PySem.W.Frag) : Stt → Stt → D → V → Prop := fun _ q' d v => RD K q' d v
abbrev rB (K : PySem.W.Frag) : Stt → Stt → D → V → Prop := fun _ q' d v => RB K q' d v
abbrev rA (K : PySem.W.Frag) : Stt → Stt → List D → List V → Prop := fun _ q' d v => RDs K q' d v
abbrev rT : Stt → Stt → Bool → Bool → Prop := fun _ _ b c => b = c

section
variable {K : PySem.W.Frag} {C : Tab} {W : Wx}
theorem Sim.imp {α β : Type} {R R' : Stt → Stt → α → β → Prop} {t : St → Hp → (β → Hp → Prop) → Prop} {m : Env → Sto → Res α} (h : Sim K C W R t m) (hi : ∀ q q' a b, R q q' a b → R' q q' a b) : Sim K C W R' t m := by
  intro q0 q env σ s Q E R1 P
  refine h q0 q env σ s Q E R1 ?_
  cases e : m env s with
  | ok a s' => rw [e] at P; exact fun b q' x r y => P b q' x r (hi _ _ _ _ y)
  | exc x s' => rw [e] at P; exact P
  | stk => rw [e] at P; exact P
/-- after a first part -/
theorem Post.bind {α β γ δ : Type} {R : Stt → Stt → α → β → Prop} {R' : Stt → Stt → γ → δ → Prop} {q : Stt} {σ : St} {Q : δ → Hp → Prop} {P : β → Hp → Prop} {m : Res α} {f : α → Sto → Res γ} (h : Post K C W R' q σ Q (m.bind f))
    (k : ∀ a s, m = .ok a s → ∀ b q', Ext q q' → Rel K C s q' → R q q' a b → Post K C W R' q σ Q (f a s) → P b q'.H) : Post K C W R q σ P m := by
  cases m with
  | ok a s => exact fun b q' x r y => k a s rfl b q' x r y h
  | exc x s => exact h
  | stk => exact h
/-- what is asked from a later state -/
theorem Post.later {γ δ : Type} {R : Stt → Stt → γ → δ → Prop} {q q1 : Stt} {σ : St} {Q : δ → Hp → Prop} {m : Res γ} (x : Ext q q1) (h : Post K C W R q σ Q m) (hR : ∀ q2 a b, Ext q1 q2 → R q1 q2 a b → R q q2 a b) : Post K C W R q1 σ Q m := by
  cases m with
  | ok a s => exact fun b q' y r z => h b q' (x.trans y) r (hR _ _ _ y z)
  | exc e s => exact fun c d q' y r z => h c d q' (x.trans y) r z
  | stk => exact h
end
end MP

/-! Expressions of the text and their functions. Own text. -/
namespace MP
open PySem L2

theorem PE.imp {X : Cx} {e : Expr} {t t' : TE} (h : PE X e t) (hi : ∀ σ H Q, t' σ H Q → t σ H Q) : PE X e t' := ⟨fun pins s σ H Q I z => h.run pins s σ H Q I (hi σ H Q z)⟩
theorem PT.imp {X : Cx} {e : Expr} {t t' : TT} (h : PT X e t) (hi : ∀ σ H Q, t' σ H Q → t σ H Q) : PT X e t' := ⟨fun pins s σ H Q I z => h.run pins s σ H Q I (hi σ H Q z)⟩
theorem PW.imp {X : Cx} {e : Expr} {t t' : TT} (h : PW X e t) (hi : ∀ σ H Q, t' σ H Q → t σ H Q) : PW X e t' := ⟨fun wh pins s σ H Q I z => h.run wh pins s σ H Q I (hi σ H Q z)⟩
theorem PA.imp {X : Cx} {es : List Expr} {t t' : TA} (h : PA X es t) (hi : ∀ σ H Q, t' σ H Q → t σ H Q) : PA X es t' := ⟨fun pos pins s σ H Q I z => h.run pos pins s σ H Q I (hi σ H Q z)⟩
theorem PS.imp {X : Cx} {st : Stmt} {t t' : TS} (h : PS X st t) (hi : ∀ D σ H, t' D σ H → t D σ H) : PS X st t' := ⟨fun pins s σ H D I z => h.run pins s σ H D I (hi D σ H z)⟩
theorem PSs.imp {X : Cx} {st : List Stmt} {t t' : TS} (h : PSs X st t) (hi : ∀ D σ H, t' D σ H → t D σ H) : PSs X st t' := ⟨fun pins s σ H D I z => h.run pins s σ H D I (hi D σ H z)⟩
theorem PG.imp {X : Cx} {g : Expr} {t t' : TG} (h : PG X g t) (hi : ∀ v σ H Q, t' v σ H Q → t v σ H Q) : PG X g t' := ⟨fun pins s σ H v u Q I r z => h.run pins s σ H v u Q I r (hi v σ H Q z)⟩
theorem PI.imp {X : Cx} {tg it : Expr} {t t' : TI} (h : PI X tg it t) (hi : ∀ σ H R, t' σ H R → t σ H R) : PI X tg it t' := ⟨fun pins s σ H R I z => h.run pins s σ H R I (hi σ H R z)⟩

/-- the reading by a function -/
def tM {α β : Type} (K : PySem.W.Frag) (C : Tab) (W : Wx) (R : Stt → Stt → α → β → Prop) (m : MP.Env → Sto → Res α) : St → Hp → (β → Hp → Prop) → Prop := fun σ H Q =>
  ∃ (q0 q : Stt) (env : MP.Env) (s : Sto), q.H = H ∧ RE K C q0 q env σ ∧ Rel K C s q ∧ Post K C W R q σ Q (m env s)
def GE (X : Cx) (C : Tab) (W : Wx) (e : Expr) (m : ME) : Prop := PE X e (tM X.K C W (rD X.K) m)
def GB (X : Cx) (C : Tab) (W : Wx) (e : Expr) (m : ME) : Prop := PE X e (tM X.K C W (rB X.K) m)
def GL (X : Cx) (C : Tab) (W : Wx) (e : Expr) (m : MA) : Prop := PE X e (tM X.K C W (RN X.K) m)
def GA (X : Cx) (C : Tab) (W : Wx) (es : List Expr) (m : MA) : Prop := PA X es (tM X.K C W (rA X.K) m)
def GT (X : Cx) (C : Tab) (W : Wx) (e : Expr) (m : MT) : Prop := PT X e (tM X.K C W rT m)
def GW (X : Cx) (C : Tab) (W : Wx) (e : Expr) (m : MT) : Prop := PW X e (tM X.K C W rT m)

section
variable {K : PySem.W.Frag} {C : Tab} {W : Wx} {α β γ δ : Type} {R : Stt → Stt → α → β → Prop} {R' : Stt → Stt → γ → δ → Prop} {q0 q : Stt} {env : MP.Env} {s : Sto} {σ : St} {Q : δ → Hp → Prop} {P : β → Hp → Prop}
/-- a first part, its answer, then what follows from there -/
theorem tM.first {m : MP.Env → Sto → Res α} {f : α → Sto → Res γ} (E : RE K C q0 q env σ) (L : Rel K C s q) (h : Post K C W R' q σ Q ((m env s).bind f)) (hR : ∀ q1, Ext q q1 → ∀ q2 a b, R' q1 q2 a b → R' q q2 a b)
    (k : ∀ a s1, ∀ b q1, Ext q q1 → RE K C q0 q1 env σ → Rel K C s1 q1 → R q q1 a b → Post K C W R' q1 σ Q (f a s1) → P b q1.H) : tM K C W R m σ q.H P :=
  ⟨q0, q, env, s, rfl, E, L, Post.bind h fun a s1 _ b q1 x r y z => k a s1 b q1 x (E.ext x) r y (z.later x fun q2 c d _ w => hR q1 x q2 c d w)⟩
theorem tM.same {m : MP.Env → Sto → Res γ} (E : RE K C q0 q env σ) (L : Rel K C s q) (h : Post K C W R' q σ Q (m env s)) : tM K C W R' m σ q.H Q := ⟨q0, q, env, s, rfl, E, L, h⟩
end
theorem rD_any {K : PySem.W.Frag} {q : Stt} : ∀ q1, Ext q q1 → ∀ q2 a b, rD K q1 q2 a b → rD K q q2 a b := fun _ _ _ _ _ h => h
theorem rB_any {K : PySem.W.Frag} {q : Stt} : ∀ q1, Ext q q1 → ∀ q2 a b, rB K q1 q2 a b → rB K q q2 a b := fun _ _ _ _ _ h => h
theorem rA_any {K : PySem.W.Frag} {q : Stt} : ∀ q1, Ext q q1 → ∀ q2 a b, rA K q1 q2 a b → rA K q q2 a b := fun _ _ _ _ _ h => h
theorem rT_any {q : Stt} : ∀ q1, Ext q q1 → ∀ q2 a b, rT q1 q2 a b → rT q q2 a b := fun _ _ _ _ _ h => h
theorem Ext.free {q q' : Stt} (w : WF q) (x : Ext q q') {p : Addr} (h : q'.H p = none) (hp : p ∉ q.r) : Fr q p := fun o e t => by
  obtain ⟨o', e', _⟩ := x.th p o e t
  rw [e'] at h; cases h
theorem Ext.free' {K : PySem.W.Frag} {C : Tab} {s : Sto} {q q' : Stt} (x : Ext q q') {p : Addr} (h : Fr q' p) (L : Rel K C s q') : Fr q p := fun o e t => by
  obtain ⟨o', e', t'⟩ := x.th p o e t
  exact h o' e' t'
section
variable {X : Cx} {C : Tab} {W : Wx} {pos : Pos} {e a b c o : Expr} {es : List Expr} {m ma mb mc mo : ME}

/-! ### from one to another -/
theorem gb_of (h : GE X C W e m) : GB X C W e m := PE.imp h fun σ H Q ⟨q0, q, env, s, e, E, L, p⟩ => ⟨q0, q, env, s, e, E, L, by
  cases z : m env s with
  | ok d s' => rw [z] at p; exact fun v q' x r y => p v q' x r (.inl y)
  | exc x s' => rw [z] at p; exact p
  | stk => rw [z] at p; exact p⟩
/-- a list just made becomes a value -/
theorem freeze {K : PySem.W.Frag} {q q' : Stt} {s : Sto} {p : Addr} {vs : List V} {ds : List D} (w : WF q) (x : Ext q q') (r : Rel K C s q') (hp : Fr q p) (h : q'.H p = some (.lst vs)) (hl : q'.L p) (hr : p ∉ q'.r) (rd : RDs K q' ds vs) :
    Ext q ⟨q'.H, fun a => q'.L a ∧ a ≠ p, q'.r⟩ ∧ Rel K C s ⟨q'.H, fun a => q'.L a ∧ a ≠ p, q'.r⟩ ∧ RD K ⟨q'.H, fun a => q'.L a ∧ a ≠ p, q'.r⟩ (.lst ds) (.ref p) := by
  have k : Kp q' ⟨q'.H, fun a => q'.L a ∧ a ≠ p, q'.r⟩ := ⟨fun a u e n _ => ⟨e, fun z => n z.1⟩, ⟨[], by simp⟩⟩
  have nq : ¬ q.L p := w.noF hp
  refine ⟨⟨x.keep, fun a l => ⟨x.mono a l, fun z => nq (z ▸ l)⟩, fun a u e n t => ⟨(x.u a u e n t).1, fun z => (x.u a u e n t).2 z.1⟩, x.pre, x.new, x.th⟩,
    ⟨⟨r.wf.nd, fun a h => ⟨r.wf.live a h, fun z => hr (z ▸ h)⟩, fun a l => r.wf.trk a l.1⟩, r.len, fun n ob a e1 e2 => (r.obs n ob a e1 e2).mono k rfl, r.tb⟩, ?_⟩
  exact .lst ⟨h, fun z => z.2 rfl⟩ (RDs.mono k ds rd)
theorem tM.first0 {K : PySem.W.Frag} {α β γ δ : Type} {R : Stt → Stt → α → β → Prop} {R' : Stt → Stt → γ → δ → Prop} {q0 q : Stt} {env : MP.Env} {s : Sto} {σ : St} {Q : δ → Hp → Prop} {P : β → Hp → Prop} {m : MP.Env → Sto → Res α} {f : α → Sto → Res γ}
    (E : RE K C q0 q env σ) (L : Rel K C s q) (h : Post K C W R' q σ Q ((m env s).bind f)) (k : ∀ a s1, ∀ b q1, Ext q q1 → Rel K C s1 q1 → R q q1 a b → Post K C W R' q σ Q (f a s1) → P b q1.H) : tM K C W R m σ q.H P :=
  ⟨q0, q, env, s, rfl, E, L, Post.bind h fun a s1 _ b q1 x r y z => k a s1 b q1 x r y z⟩
theorem ge_frz {l : MA} (h : GL X C W e l) : GE X C W e (eFrz l) := PE.imp h fun σ H Q ⟨q0, q, env, s, eq, E, L, p⟩ => by
  subst eq
  refine tM.first0 (f := fun ds s1 => (Res.ok (D.lst ds) s1 : Res D)) E L p fun ds s1 v q1 x L1 y z => ?_
  obtain ⟨p, vs, rfl, h1, h2, h3, h4, h5⟩ := y
  obtain ⟨e1, e2, e3⟩ := freeze L.wf x L1 h1 h2 h3 h4 h5
  exact z (.ref p) ⟨q1.H, fun a => q1.L a ∧ a ≠ p, q1.r⟩ e1 e2 e3
/-- a list just made is placed -/
theorem placed {K : PySem.W.Frag} {q q' : Stt} {s : Sto} {p : Addr} {vs : List V} {ds : List D} (w : WF q) (x : Ext q q') (r : Rel K C s q') (hp : Fr q p) (h : q'.H p = some (.lst vs)) (hl : q'.L p) (hr : p ∉ q'.r) (rd : RDs K q' ds vs) :
    Ext q ⟨q'.H, q'.L, q'.r ++ [p]⟩ ∧ Rel K C (s ++ [.lst ds]) ⟨q'.H, q'.L, q'.r ++ [p]⟩ ∧ RD K ⟨q'.H, q'.L, q'.r ++ [p]⟩ (.ref s.length) (.ref p) := by
  have k : Kp q' ⟨q'.H, q'.L, q'.r ++ [p]⟩ := ⟨fun a u e n _ => ⟨e, n⟩, ⟨[p], rfl⟩⟩
  refine ⟨⟨x.keep, x.mono, x.u, pre_trans x.pre ⟨[p], rfl⟩, fun a ha => ?_, x.th⟩, ⟨⟨?_, fun a ha => ?_, r.wf.trk⟩, by simp [r.len], fun n ob a e1 e2 => ?_, r.tb⟩, .ref ?_⟩
  · rcases List.mem_append.mp ha with z | z
    · exact x.new a z
    · obtain rfl : a = p := by simpa using z
      exact .inr hp
  · exact List.nodup_append.mpr ⟨r.wf.nd, by simp, fun a ha b hb => by
      obtain rfl : b = p := by simpa using hb
      exact fun z => hr (z ▸ ha)⟩
  · rcases List.mem_append.mp ha with z | z
    · exact r.wf.live a z
    · obtain rfl : a = p := by simpa using z
      exact hl
  · by_cases hn : n < s.length
    · rw [List.getElem?_append_left hn] at e1
      have e2 : (q'.r ++ [p])[n]? = some a := e2
      rw [List.getElem?_append_left (by rw [r.len]; exact hn)] at e2
      exact (r.obs n ob a e1 e2).mono k rfl
    · have hz : n = s.length := by
        have := (List.getElem?_eq_some_iff.mp e1).1
        simp at this; omega
      subst hz
      simp at e1
      have e2 : (q'.r ++ [p])[s.length]? = some a := e2
      rw [← r.len] at e2
      simp at e2
      subst e1 e2
      exact ⟨vs, h, RDs.mono k ds rd⟩
  · show (q'.r ++ [p])[s.length]? = some p
    rw [← r.len]; simp
theorem ge_plc {l : MA} (h : GL X C W e l) : GE X C W e (ePlc l) := PE.imp h fun σ H Q ⟨q0, q, env, s, eq, E, L, p⟩ => by
  subst eq
  refine tM.first0 (f := fun ds s1 => (Res.ok (D.ref s1.length) (s1 ++ [Ob.lst ds]) : Res D)) E L p fun ds s1 v q1 x L1 y z => ?_
  obtain ⟨p, vs, rfl, h1, h2, h3, h4, h5⟩ := y
  obtain ⟨e1, e2, e3⟩ := placed L.wf x L1 h1 h2 h3 h4 h5
  exact z (.ref p) ⟨q1.H, q1.L, q1.r ++ [p]⟩ e1 e2 e3

/-! ### names, constants -/
theorem ge_var (i : Nat) {x : Str} (hN : X.N[i]? = some x := by rfl) (hv : Vis X.env.scope x := by first | exact Or.inl rfl | exact Or.inr (Or.inl rfl) | exact Or.inr (Or.inr rfl)) (hd : (x == ("__debug__" : Str)) = false := by decide)
    (hc : (x == ("__classdict__" : Str)) = false := by decide) : GE X C W (.Name x pos) (eVar i) := PE.imp (pe_var (i := i) hN hv hd hc) fun σ H Q ⟨q0, q, env, s, eq, E, L, p⟩ => by
  subst eq
  unfold eVar at p
  split at p
  · rename_i d e
    obtain ⟨v, h1, h2⟩ := E.val i d e
    exact ⟨v, h1, p v q (Ext.refl q) L h2⟩
  · exact p.elim
theorem gb_var (i : Nat) {x : Str} (hN : X.N[i]? = some x := by rfl) (hv : Vis X.env.scope x := by first | exact Or.inl rfl | exact Or.inr (Or.inl rfl) | exact Or.inr (Or.inr rfl)) (hd : (x == ("__debug__" : Str)) = false := by decide)
    (hc : (x == ("__classdict__" : Str)) = false := by decide) : GB X C W (.Name x pos) (eBor i) := PE.imp (pe_var (i := i) hN hv hd hc) fun σ H Q ⟨q0, q, env, s, eq, E, L, p⟩ => by
  subst eq
  unfold eBor at p
  split at p
  · rename_i d e
    obtain ⟨v, h1, h2⟩ := E.val i d e
    exact ⟨v, h1, p v q (Ext.refl q) L (.inl h2)⟩
  · rename_i ds e
    obtain ⟨a, vs, h1, h2, h3, h4, h5, h6⟩ := E.own i ds e
    exact ⟨.ref a, h1, p _ q (Ext.refl q) L (.inr ⟨a, vs, ds, rfl, rfl, h2, h4, h5⟩)⟩
  · exact p.elim
/-- a reading that gives a value at once -/
theorem ge_of_c {v : V} {d : D} (h : PE X e (tC v)) (r : ∀ q : Stt, RD X.K q d v) : GE X C W e (eC d) := PE.imp h fun σ H Q ⟨q0, q, env, s, eq, E, L, p⟩ => by
  subst eq
  exact p v q (Ext.refl q) L (r q)
theorem ge_int {i : Int} {j} : GE X C W (.Constant (.int i) j pos) (eC (.int i)) := ge_of_c pe_int fun _ => .int i
theorem ge_bl {b : Bool} {j} : GE X C W (.Constant (.bool b) j pos) (eC (.bl b)) := ge_of_c pe_bl fun _ => .bl b
theorem ge_non {j} : GE X C W (.Constant .none j pos) (eC .non) := ge_of_c pe_non fun _ => .non
theorem ge_str {x : Str} {j} (cs : List Nat) (h : x = ⟨cs.toArray⟩ := by decide +kernel) : GE X C W (.Constant (.str x) j pos) (eC (.str cs)) := ge_of_c pe_str fun _ => by subst h; exact .str cs
theorem ge_glob {x : Str} {u : Value} {v : V} (d : D) (hg : Gl X x) (hm : X.mg x = some u) (r : RelV v u) (hr : ∀ q : Stt, RD X.K q d v) (hd : (x == ("__debug__" : Str)) = false := by decide) : GE X C W (.Name x pos) (eC d) := ge_of_c (pe_glob hg hm r hd) hr

/-! ### operators -/
def SimOp (K : PySem.W.Frag) (C : Tab) (r : R2) (g : Op2) : Prop := ∀ (q : Stt) (s : Sto) (x y : D) (vx vy : V) (z : D) (Q : VK), Rel K C s q → RB K q x vx → RB K q y vy → g s x y = some z →
  (∀ v q', Ext q q' → Rel K C s q' → RD K q' z v → Q v q'.H) → r vx vy q.H Q
theorem op2_imp {K : PySem.W.Frag} {r : R2} {g : Op2} (hs : SimOp K C r g) (σ : St) (H : Hp) (Q : VK) (h : tM K C W (rD K) (eOp2 g ma mb) σ H Q) : tOp r (tM K C W (rB K) ma) (tM K C W (rB K) mb) σ H Q := by
  obtain ⟨q0, q, env, s, eq, E, L, p⟩ := h
  subst eq
  refine tM.first (f := fun x s1 => (mb env s1).bind fun y s2 => .ofO (g s2 x y) s2) E L p rD_any fun x s1 vx q1 x1 E1 L1 y1 p1 => ?_
  refine tM.first (f := fun y s2 => .ofO (g s2 x y) s2) E1 L1 p1 rD_any fun y s2 vy q2 x2 E2 L2 y2 p2 => ?_
  cases e : g s2 x y with
  | none => rw [e] at p2; exact p2.elim
  | some z => rw [e] at p2; exact hs q2 s2 x y vx vy z Q L2 (y1.ext x2) y2 e fun v q3 x3 r3 d3 => p2 v q3 x3 r3 d3
theorem ge_bin {op : Operator} {r : R2} {g : Op2} (ho : OpR X (binaryOp op) r) (hs : SimOp X.K C r g) (ha : GB X C W a ma) (hb : GB X C W b mb) : GE X C W (.BinOp a op b pos) (eOp2 g ma mb) := PE.imp (pe_op ho ha hb) (op2_imp hs)
theorem ge_cmp {op : CmpOp} {r : R2} {g : Op2} (ho : OpR X (compareOp op) r) (hs : SimOp X.K C r g) (hm : behindInMarks op b = false) (ha : GB X C W a ma) (hb : GB X C W b mb) : GE X C W (.Compare a [op] [b] pos) (eOp2 g ma mb) := PE.imp (pe_cmpR ho ha hb hm) (op2_imp hs)
theorem test_imp {K : PySem.W.Frag} {t : TE} {m : ME} (h : ∀ σ H Q, tM K C W (rD K) m σ H Q → t σ H Q) (σ : St) (H : Hp) (Q : Bool → Hp → Prop) (p : tM K C W rT (tVal m) σ H Q) : tTest t σ H Q := by
  obtain ⟨q0, q, env, s, eq, E, L, p⟩ := p
  subst eq
  refine h σ q.H _ (tM.first (f := asB) E L p rT_any fun d s1 v q1 x1 E1 L1 y1 p1 => ?_)
  cases y1 with
  | bl b => exact ⟨b, rfl, p1 b q1 (Ext.refl q1) L1 rfl⟩
  | _ => exact p1.elim
theorem gt_cmp {op : CmpOp} {r : R2} {g : Op2} (ho : OpR X (compareOp op) r) (hs : SimOp X.K C r g) (hm : behindInMarks op b = false) (ha : GB X C W a ma) (hb : GB X C W b mb) : GT X C W (.Compare a [op] [b] pos) (tVal (eOp2 g ma mb)) :=
  PT.imp (pt_cmpR ho ha hb hm) (test_imp (op2_imp hs))
theorem gt_val (h : GE X C W e m) (he : ∀ whole, isTrue e X.env whole = (do let v ← whole; standAt e.pos; holding [v] (truthy v)) := by intro _; rfl) : GT X C W e (tVal m) :=
  PT.imp (pt_val h he) (test_imp fun _ _ _ z => z)
def SimU (K : PySem.W.Frag) (C : Tab) (r : V → Hp → VK → Prop) (g : Op1) : Prop := ∀ (q : Stt) (s : Sto) (x : D) (vx : V) (z : D) (Q : VK), Rel K C s q → RB K q x vx → g s x = some z →
  (∀ v q', Ext q q' → Rel K C s q' → RD K q' z v → Q v q'.H) → r vx q.H Q
theorem op1_imp {K : PySem.W.Frag} {r : V → Hp → VK → Prop} {g : Op1} (hs : SimU K C r g) (σ : St) (H : Hp) (Q : VK) (h : tM K C W (rD K) (eOp1 g ma) σ H Q) : tM K C W (rB K) ma σ H fun x H1 => r x H1 Q := by
  obtain ⟨q0, q, env, s, eq, E, L, p⟩ := h
  subst eq
  refine tM.first (f := fun x s1 => .ofO (g s1 x) s1) E L p rD_any fun x s1 vx q1 x1 E1 L1 y1 p1 => ?_
  cases e : g s1 x with
  | none => rw [e] at p1; exact p1.elim
  | some z => rw [e] at p1; exact hs q1 s1 x vx z Q L1 y1 e fun v q3 x3 r3 d3 => p1 v q3 x3 r3 d3
theorem tM.mono {α β : Type} {K : PySem.W.Frag} {R : Stt → Stt → α → β → Prop} {m : MP.Env → Sto → Res α} {σ : St} {H : Hp} {Q Q' : β → Hp → Prop} (h : tM K C W R m σ H Q) (hq : ∀ b H', Q b H' → Q' b H') : tM K C W R m σ H Q' := by
  obtain ⟨q0, q, env, s, eq, E, L, p⟩ := h
  refine ⟨q0, q, env, s, eq, E, L, ?_⟩
  cases z : m env s with
  | ok d s' => rw [z] at p; exact fun v q' x r y => hq _ _ (p v q' x r y)
  | exc x s' => rw [z] at p; exact p
  | stk => rw [z] at p; exact p
/-- x is None -/
theorem ge_isN {j p'} (ha : GE X C W a ma) : GE X C W (.Compare a [.Is] [.Constant .none j p'] pos) (eOp1 opIsN ma) := PE.imp (pe_cmp (pc_isN ha) rfl) fun σ H Q ⟨q0, q, env, s, eq, E, L, p⟩ => by
  subst eq
  refine tM.first (f := fun x s1 => .ofO (opIsN s1 x) s1) E L p rD_any fun x s1 vx q1 x1 E1 L1 y1 p1 => ?_
  have e : decide (vx = .non) = isNon x := by cases y1 <;> first | rfl | simp [isNon]
  rw [e]
  exact p1 _ q1 (Ext.refl q1) L1 (.bl _)
theorem ge_notN {j p'} (ha : GE X C W a ma) : GE X C W (.Compare a [.IsNot] [.Constant .none j p'] pos) (eOp1 opNotN ma) := PE.imp (pe_cmp (pc_notN ha) rfl) fun σ H Q ⟨q0, q, env, s, eq, E, L, p⟩ => by
  subst eq
  refine tM.first (f := fun x s1 => .ofO (opNotN s1 x) s1) E L p rD_any fun x s1 vx q1 x1 E1 L1 y1 p1 => ?_
  have e : (!decide (vx = .non)) = !isNon x := by cases y1 <;> first | rfl | simp [isNon]
  rw [e]
  exact p1 _ q1 (Ext.refl q1) L1 (.bl _)
theorem gt_isN {j p'} (ha : GE X C W a ma) : GT X C W (.Compare a [.Is] [.Constant .none j p'] pos) (tVal (eOp1 opIsN ma)) := PT.imp (pt_cmp (pc_isN ha) rfl) fun σ H Q ⟨q0, q, env, s, eq, E, L, p⟩ => by
  subst eq
  unfold tVal eOp1 at p
  cases z : ma env s with
  | ok x s1 =>
    rw [z] at p
    refine ⟨q0, q, env, s, rfl, E, L, ?_⟩
    rw [z]
    intro vx q1 x1 L1 y1
    have e : decide (vx = .non) = isNon x := by cases y1 <;> first | rfl | simp [isNon]
    exact ⟨_, rfl, by rw [e]; exact p _ q1 x1 L1 rfl⟩
  | exc x s1 => rw [z] at p; exact ⟨q0, q, env, s, rfl, E, L, by rw [z]; exact p⟩
  | stk => rw [z] at p; exact p.elim
theorem gt_notN {j p'} (ha : GE X C W a ma) : GT X C W (.Compare a [.IsNot] [.Constant .none j p'] pos) (tVal (eOp1 opNotN ma)) := PT.imp (pt_cmp (pc_notN ha) rfl) fun σ H Q ⟨q0, q, env, s, eq, E, L, p⟩ => by
  subst eq
  unfold tVal eOp1 at p
  cases z : ma env s with
  | ok x s1 =>
    rw [z] at p
    refine ⟨q0, q, env, s, rfl, E, L, ?_⟩
    rw [z]
    intro vx q1 x1 L1 y1
    have e : (!decide (vx = .non)) = !isNon x := by cases y1 <;> first | rfl | simp [isNon]
    exact ⟨_, rfl, by rw [e]; exact p _ q1 x1 L1 rfl⟩
  | exc x s1 => rw [z] at p; exact ⟨q0, q, env, s, rfl, E, L, by rw [z]; exact p⟩
  | stk => rw [z] at p; exact p.elim

/-! ### arguments, displays -/
theorem ga_nil : GA X C W [] aNil := PA.imp pa_nil fun σ H Q ⟨q0, q, env, s, eq, E, L, p⟩ => by
  subst eq
  exact p [] q (Ext.refl q) L .nil
theorem ga_cons {mr : MA} (ha : GE X C W e ma) (hr : GA X C W es mr) (hs : starEach (e :: es) X.env = (false, eval e X.env) :: starEach es X.env := by rfl) : GA X C W (e :: es) (aCons ma mr) := PA.imp (pa_cons ha hr hs) fun σ H Q ⟨q0, q, env, s, eq, E, L, p⟩ => by
  subst eq
  refine tM.first (f := fun x s1 => (mr env s1).bind fun xs s2 => .ok (x :: xs) s2) E L p rA_any fun x s1 vx q1 x1 E1 L1 y1 p1 => ?_
  refine tM.first (f := fun xs s2 => .ok (x :: xs) s2) E1 L1 p1 rA_any fun xs s2 vs q2 x2 E2 L2 y2 p2 => ?_
  exact p2 _ q2 (Ext.refl q2) L2 (.cons (RD.mono x2.kp x y1) y2)
theorem lenS {n : Nat} (h : n ≤ cap) : n ≤ sizeLine := by
  have : cap ≤ sizeLine := by rw [sizeLine_eq]; decide
  omega
theorem ge_tup {x1} {l : MA} (h : GA X C W es l) : GE X C W (.Tuple es x1 pos) (eTup l) := PE.imp (pe_tup h) fun σ H Q ⟨q0, q, env, s, eq, E, L, p⟩ => by
  subst eq
  refine tM.first (f := fun ds s1 => if ds.length ≤ 1000 then .ok (.tup ds) s1 else .stk) E L p rD_any fun ds s1 vs q1 x1 E1 L1 y1 p1 => ?_
  by_cases hl : ds.length ≤ 1000
  · rw [if_pos hl] at p1
    refine ⟨lenS (by rw [y1.length]; unfold cap; omega), fun a ha => ?_⟩
    have x2 := Ext.new1 (o := .tup vs) L1.wf ha
    exact p1 _ _ x2 (L1.new1 ha) (.tup (.inl ⟨upd_same, L1.wf.no ha⟩) (RDs.mono x2.kp ds y1))
  · rw [if_neg hl] at p1; exact p1.elim
/-- a new list, protected -/
theorem Ext.newL {q : Stt} (w : WF q) {p : Addr} {o : HO} (h : q.H p = none) : Ext q ⟨upd q.H p o, fun a => q.L a ∨ a = p, q.r⟩ :=
  ⟨fun a u e _ _ => by show upd q.H p o a = _; rw [upd_ne (ne_of_none e h)]; exact e, fun _ x => .inl x,
   fun a u e n _ => ⟨by show upd q.H p o a = _; rw [upd_ne (ne_of_none e h)]; exact e, fun z => z.elim n (ne_of_none e h)⟩, ⟨[], by simp⟩, fun _ x => .inl x, fun a u e t => ⟨u, by show upd q.H p o a = _; rw [upd_ne (ne_of_none e h)]; exact e, t⟩⟩
theorem Rel.newL {K : PySem.W.Frag} {q : Stt} {s : Sto} (R : Rel K C s q) {p : Addr} {o : HO} (h : q.H p = none) (nt : NT o := by exact fun _ z => nomatch z) : Rel K C s ⟨upd q.H p o, fun a => q.L a ∨ a = p, q.r⟩ :=
  ⟨⟨R.wf.nd, fun a z => .inl (R.wf.live a z), fun a l => by
    rcases l with l | rfl
    · obtain ⟨u, e, t⟩ := R.wf.trk a l
      exact ⟨u, by show upd q.H p o a = _; rw [upd_ne (ne_of_none e h)]; exact e, t⟩
    · exact ⟨o, upd_same, nt⟩⟩, R.len, fun n ob a e f => by
    have x := R.obs n ob a e f
    obtain ⟨u, hu⟩ := x.there
    exact x.mono (Ext.newL R.wf h).kp (by show upd q.H p o a = _; rw [upd_ne (ne_of_none hu h)]), R.tb.new h nt⟩
theorem RN.newL {K : PySem.W.Frag} {q q1 : Stt} {s : Sto} {ds : List D} {vs : List V} {p : Addr} (w : WF q) (x : Ext q q1) (L1 : Rel K C s q1) (h : q1.H p = none) (r : RDs K q1 ds vs) : RN K q ⟨upd q1.H p (.lst vs), fun a => q1.L a ∨ a = p, q1.r⟩ ds (.ref p) :=
  ⟨p, vs, rfl, x.free w h fun z => by
    obtain ⟨t, e⟩ := x.pre
    exact L1.wf.nor h (by rw [e]; exact List.mem_append_left _ z), upd_same, .inr rfl, L1.wf.nor h, RDs.mono (Ext.newL L1.wf h).kp ds r⟩
theorem gl_lst {l : MA} (h : GA X C W es l) : GL X C W (.List es pos) (lLst l) := PE.imp (pe_lst h) fun σ H Q ⟨q0, q, env, s, eq, E, L, p⟩ => by
  subst eq
  refine tM.first0 (f := fun ds s1 => if ds.length ≤ 1000 then .ok ds s1 else .stk) E L p fun ds s1 vs q1 x1 L1 y1 p1 => ?_
  by_cases hl : ds.length ≤ 1000
  · rw [if_pos hl] at p1
    refine ⟨lenS (by rw [y1.length]; unfold cap; omega), fun a ha => ?_⟩
    exact p1 _ _ (x1.trans (Ext.newL L1.wf ha)) (L1.newL ha) (RN.newL L.wf x1 L1 ha y1)
  · rw [if_neg hl] at p1; exact p1.elim

/-! ### and, or, not, if -/
theorem gt_not {mt : MT} (h : GT X C W a mt) : GT X C W (.UnaryOp .Not a pos) (tNot mt) := PT.imp (pt_not h) fun σ H Q ⟨q0, q, env, s, eq, E, L, p⟩ => by
  subst eq
  refine tM.first (f := fun b s1 => .ok (!b) s1) E L p rT_any fun b s1 c q1 x1 E1 L1 y1 p1 => ?_
  cases y1
  exact p1 _ q1 (Ext.refl q1) L1 rfl
theorem gw_and1 {mt : MT} (h : GT X C W a mt) : GW X C W (.BoolOp .And [a] pos) mt := pw_and1 h
theorem gw_or1 {mt : MT} (h : GT X C W a mt) : GW X C W (.BoolOp .Or [a] pos) mt := pw_or1 h
theorem gw_and {mt mu : MT} (ha : GT X C W a mt) (hb : GW X C W (.BoolOp .And (b :: es) pos) mu) : GW X C W (.BoolOp .And (a :: b :: es) pos) (tAnd mt mu) := PW.imp (pw_and ha hb) fun σ H Q ⟨q0, q, env, s, eq, E, L, p⟩ => by
  subst eq
  refine tM.first (f := fun b s1 => if b then mu env s1 else .ok false s1) E L p rT_any fun b s1 c q1 x1 E1 L1 y1 p1 => ?_
  cases y1
  cases b with
  | true => exact iteT (tM.same E1 L1 p1)
  | false => exact iteF (p1 _ q1 (Ext.refl q1) L1 rfl)
theorem gw_or {mt mu : MT} (ha : GT X C W a mt) (hb : GW X C W (.BoolOp .Or (b :: es) pos) mu) : GW X C W (.BoolOp .Or (a :: b :: es) pos) (tOr mt mu) := PW.imp (pw_or ha hb) fun σ H Q ⟨q0, q, env, s, eq, E, L, p⟩ => by
  subst eq
  refine tM.first (f := fun b s1 => if b then .ok true s1 else mu env s1) E L p rT_any fun b s1 c q1 x1 E1 L1 y1 p1 => ?_
  cases y1
  cases b with
  | true => exact iteT (p1 _ q1 (Ext.refl q1) L1 rfl)
  | false => exact iteF (tM.same E1 L1 p1)
theorem gt_w {mt : MT} (h : GW X C W e mt) : GT X C W e mt := h.pt
theorem ge_one {op} (h : GE X C W a ma) : GE X C W (.BoolOp op [a] pos) ma := pe_one h
theorem ge_and (ha : GE X C W a ma) (hb : GE X C W (.BoolOp .And (b :: es) pos) mb) : GE X C W (.BoolOp .And (a :: b :: es) pos) (eAnd ma mb) := PE.imp (pe_and ha hb) fun σ H Q ⟨q0, q, env, s, eq, E, L, p⟩ => by
  subst eq
  unfold eAnd at p
  cases z : ma env s with
  | stk => rw [z] at p; exact p.elim
  | exc x s1 => rw [z] at p; exact ⟨q0, q, env, s, rfl, E, L, by rw [z]; exact p⟩
  | ok d s1 =>
    refine ⟨q0, q, env, s, rfl, E, L, ?_⟩
    rw [z] at p ⊢
    intro v q1 x1 L1 y1
    cases y1 with
    | bl c =>
      refine ⟨c, rfl, ?_⟩
      cases c with
      | true =>
        refine iteT ⟨q0, q1, env, s1, rfl, E.ext x1, L1, ?_⟩
        exact Post.later x1 p fun _ _ _ _ w => w
      | false => exact iteF (p _ q1 x1 L1 (.bl false))
    | _ => exact p.elim
theorem ge_or (ha : GE X C W a ma) (hb : GE X C W (.BoolOp .Or (b :: es) pos) mb) : GE X C W (.BoolOp .Or (a :: b :: es) pos) (eOr ma mb) := PE.imp (pe_or ha hb) fun σ H Q ⟨q0, q, env, s, eq, E, L, p⟩ => by
  subst eq
  unfold eOr at p
  cases z : ma env s with
  | stk => rw [z] at p; exact p.elim
  | exc x s1 => rw [z] at p; exact ⟨q0, q, env, s, rfl, E, L, by rw [z]; exact p⟩
  | ok d s1 =>
    refine ⟨q0, q, env, s, rfl, E, L, ?_⟩
    rw [z] at p ⊢
    intro v q1 x1 L1 y1
    cases y1 with
    | bl c =>
      refine ⟨c, rfl, ?_⟩
      cases c with
      | false =>
        refine iteF ⟨q0, q1, env, s1, rfl, E.ext x1, L1, ?_⟩
        exact Post.later x1 p fun _ _ _ _ w => w
      | true => exact iteT (p _ q1 x1 L1 (.bl true))
    | _ => exact p.elim
theorem ge_not (ha : GE X C W a ma) : GE X C W (.UnaryOp .Not a pos) (eNot ma) := PE.imp (pe_not ha) fun σ H Q ⟨q0, q, env, s, eq, E, L, p⟩ => by
  subst eq
  unfold eNot at p
  cases z : ma env s with
  | stk => rw [z] at p; exact p.elim
  | exc x s1 => rw [z] at p; exact ⟨q0, q, env, s, rfl, E, L, by rw [z]; exact p⟩
  | ok d s1 =>
    refine ⟨q0, q, env, s, rfl, E, L, ?_⟩
    rw [z] at p ⊢
    intro v q1 x1 L1 y1
    cases y1 with
    | bl c => exact ⟨c, rfl, p _ q1 x1 L1 (.bl _)⟩
    | _ => exact p.elim
theorem ge_if {mt : MT} (hc : GT X C W c mt) (ha : GE X C W a ma) (hb : GE X C W b mb) : GE X C W (.IfExp c a b pos) (eIf mt ma mb) := PE.imp (pe_ifExp hc ha hb) fun σ H Q ⟨q0, q, env, s, eq, E, L, p⟩ => by
  subst eq
  refine tM.first (f := fun c s1 => if c then ma env s1 else mb env s1) E L p rD_any fun b s1 c q1 x1 E1 L1 y1 p1 => ?_
  cases y1
  cases b with
  | true => exact iteT (tM.same E1 L1 p1)
  | false => exact iteF (tM.same E1 L1 p1)
end
end MP

/-! Operators by values: each rule of the layer and the function beside it. Own text. -/
namespace MP
open PySem L2
variable {C : Tab}

/-! ### data as the model's data -/
mutual
def toP : D → PyData
  | .non => .none
  | .bl b => .bool b
  | .int i => .int i
  | .str cs => .str ⟨cs.toArray⟩
  | .tup ds => .tuple (toPs ds)
  | .lst ds => .list (toPs ds)
  | .ref _ => .none
  | .scr _ => .none
def toPs : List D → List PyData
  | [] => []
  | d :: ds => toP d :: toPs ds
end
mutual
theorem RD.dp {K : PySem.W.Frag} {q : Stt} : ∀ (n : Nat) (d : D) {v : V}, RD K q d v → d.fit n = true → Dp K q.H v (toP d)
  | _, .non, _, h, _ => by cases h; exact .non
  | _, .bl b, _, h, _ => by cases h; exact .bl b
  | _, .int b, _, h, _ => by cases h; exact .int b
  | _, .str b, _, h, _ => by cases h; exact .str _
  | n + 1, .tup ds, _, h, f => by
    cases h with
    | tup g r => exact .tup g.sq (RDs.dp n ds r (by simpa [D.fit] using f))
  | n + 1, .lst ds, _, h, f => by
    cases h with
    | lst g r => exact .lst (SqL.of g.1) (RDs.dp n ds r (by simpa [D.fit] using f))
  | 0, .tup ds, _, h, f => by simp [D.fit] at f
  | 0, .lst ds, _, h, f => by simp [D.fit] at f
  | 0, .ref n, _, h, f => by simp [D.fit] at f
  | _ + 1, .ref n, _, h, f => by simp [D.fit] at f
  | 0, .scr n, _, h, f => by simp [D.fit] at f
  | _ + 1, .scr n, _, h, f => by simp [D.fit] at f
theorem RDs.dp {K : PySem.W.Frag} {q : Stt} : ∀ (n : Nat) (ds : List D) {vs : List V}, RDs K q ds vs → D.fits n ds = true → DpAll K q.H vs (toPs ds)
  | _, [], _, h, _ => by cases h; exact .nil
  | n, d :: ds, _, h, f => by
    simp only [D.fits, Bool.and_eq_true] at f
    cases h with
    | cons a b => exact .cons (RD.dp n d a f.1) (RDs.dp n ds b f.2)
end
mutual
theorem eqv_toP : ∀ (n m : Nat) (a b : D), a.fit n = true → b.fit m = true → PyData.eqv (toP a) (toP b) = a.eqv b
  | n, m, .non, b, _, g => by cases b <;> simp [toP, D.eqv, PyData.eqv]; all_goals (cases m <;> simp [D.fit] at g)
  | n, m, .bl x, b, _, g => by cases b <;> simp [toP, D.eqv, PyData.eqv]
  | n, m, .int x, b, _, g => by cases b <;> simp [toP, D.eqv, PyData.eqv]
  | n, m, .str x, b, _, g => by
    cases b <;> simp only [toP, D.eqv, PyData.eqv]
    rw [Bool.beq_eq_decide_eq]
    simp
  | n, m, .tup xs, b, f, g => by
    cases n with
    | zero => simp [D.fit] at f
    | succ n =>
      cases b with
      | tup ys =>
        cases m with
        | zero => simp [D.fit] at g
        | succ m =>
          simp only [toP, D.eqv, PyData.eqv]
          exact eqvs_toP n m xs ys (by simpa [D.fit] using f) (by simpa [D.fit] using g)
      | _ => simp [toP, D.eqv, PyData.eqv]
  | n, m, .lst xs, b, f, g => by
    cases n with
    | zero => simp [D.fit] at f
    | succ n =>
      cases b with
      | lst ys =>
        cases m with
        | zero => simp [D.fit] at g
        | succ m =>
          simp only [toP, D.eqv, PyData.eqv]
          exact eqvs_toP n m xs ys (by simpa [D.fit] using f) (by simpa [D.fit] using g)
      | _ => simp [toP, D.eqv, PyData.eqv]
  | n, m, .ref _, b, f, g => by cases n <;> simp [D.fit] at f
  | n, m, .scr _, b, f, g => by cases n <;> simp [D.fit] at f
theorem eqvs_toP : ∀ (n m : Nat) (a b : List D), D.fits n a = true → D.fits m b = true → PyData.eqvAll (toPs a) (toPs b) = D.eqvs a b
  | n, m, [], [], _, _ => by simp [toPs, D.eqvs, PyData.eqvAll]
  | n, m, [], _ :: _, _, _ => by simp [toPs, D.eqvs, PyData.eqvAll]
  | n, m, _ :: _, [], _, _ => by simp [toPs, D.eqvs, PyData.eqvAll]
  | n, m, x :: xs, y :: ys, f, g => by
    simp only [D.fits, Bool.and_eq_true] at f g
    simp only [toPs, D.eqvs, PyData.eqvAll]
    rw [eqv_toP n m x y f.1 g.1, eqvs_toP n m xs ys f.2 g.2]
end
mutual
theorem lay_toP : ∀ (n : Nat) (d : D), d.fit n = true → (toP d).canLay0 = true ∧ (toP d).depth ≤ n + 1
  | n, .non, _ => by simp [toP, PyData.canLay0, PyData.depth]
  | n, .bl _, _ => by simp [toP, PyData.canLay0, PyData.depth]
  | n, .int _, _ => by simp [toP, PyData.canLay0, PyData.depth]
  | n, .str cs, f => by
    refine ⟨?_, by simp [toP, PyData.depth]⟩
    have f' : (cs.all fun c => decide (c < 1114112)) = true := by cases n <;> simpa [D.fit] using f
    simpa [toP, PyData.canLay0, PyData.strOk] using f'
  | n + 1, .tup ds, f => by
    obtain ⟨a, b⟩ := lay_toPs n ds (by simpa [D.fit] using f)
    exact ⟨by simpa [toP, PyData.canLay0] using a, by simp only [toP, PyData.depth]; omega⟩
  | n + 1, .lst ds, f => by
    obtain ⟨a, b⟩ := lay_toPs n ds (by simpa [D.fit] using f)
    exact ⟨by simpa [toP, PyData.canLay0] using a, by simp only [toP, PyData.depth]; omega⟩
  | 0, .tup ds, f => by simp [D.fit] at f
  | 0, .lst ds, f => by simp [D.fit] at f
  | n, .ref _, f => by cases n <;> simp [D.fit] at f
  | n, .scr _, f => by cases n <;> simp [D.fit] at f
theorem lay_toPs : ∀ (n : Nat) (ds : List D), D.fits n ds = true → PyData.canLayAll0 (toPs ds) = true ∧ PyData.depthAll (toPs ds) ≤ n + 1
  | n, [], _ => by simp [toPs, PyData.canLayAll0, PyData.depthAll]
  | n, d :: ds, f => by
    simp only [D.fits, Bool.and_eq_true] at f
    obtain ⟨a, b⟩ := lay_toP n d f.1
    obtain ⟨a', b'⟩ := lay_toPs n ds f.2
    exact ⟨by simp only [toPs, PyData.canLayAll0, a, a', Bool.and_self], by simp only [toPs, PyData.depthAll]; omega⟩
end
theorem shaped_toP {d : D} (f : d.fit 60 = true) : SeqAt.shaped (toP d) = true := by
  obtain ⟨a, b⟩ := lay_toP 60 d f
  unfold SeqAt.shaped
  rw [a, decide_eq_true (by omega)]
  rfl

/-! ### what is readable -/
theorem RB.flat {K : PySem.W.Frag} {q : Stt} {d : D} {v : V} (h : RB K q d v) (f : isFlat d = true) : RD K q d v := by
  rcases h with h | ⟨a, vs, ds, rfl, rfl, _⟩
  · exact h
  · simp [isFlat] at f
theorem RB.nl {K : PySem.W.Frag} {q : Stt} {d : D} {v : V} (h : RB K q d v) (f : ∀ ds, d ≠ .lst ds) : RD K q d v := by
  rcases h with h | ⟨a, vs, ds, rfl, rfl, _⟩
  · exact h
  · exact absurd rfl (f ds)
theorem RB.lst {K : PySem.W.Frag} {q : Stt} {ds : List D} {v : V} (h : RB K q (.lst ds) v) : ∃ a vs, v = .ref a ∧ q.H a = some (.lst vs) ∧ RDs K q ds vs := by
  rcases h with h | ⟨a, vs, ds', e, rfl, h1, _, h3⟩
  · cases h with | lst g r => exact ⟨_, _, rfl, g.1, r⟩
  · injection e with e; subst e; exact ⟨a, vs, rfl, h1, h3⟩
/-- a list or tuple by its items -/
theorem RB.seq {K : PySem.W.Frag} {q : Stt} {s : Sto} {d : D} {v : V} {ds : List D} (R : Rel K C s q) (h : RB K q d v) (f : seqOf s d = some ds) : ∃ a vs, v = .ref a ∧ (q.H a = some (.lst vs) ∨ SqT K q.H a vs) ∧ RDs K q ds vs := by
  cases d with
  | tup es =>
    simp only [seqOf, Option.some.injEq] at f
    subst f
    cases h.nl (by intro _ z; cases z) with | tup g r => exact ⟨_, _, rfl, .inr g.sq, r⟩
  | lst es =>
    simp only [seqOf, Option.some.injEq] at f
    subst f
    obtain ⟨a, vs, e, g, r⟩ := h.lst
    exact ⟨a, vs, e, .inl g, r⟩
  | ref n =>
    simp only [seqOf] at f
    split at f
    · rename_i es e
      simp only [Option.some.injEq] at f
      subst f
      cases h.nl (by intro _ z; cases z) with
      | ref g =>
        obtain ⟨vs, h1, h2⟩ := R.obs n _ _ e g
        exact ⟨_, _, rfl, .inl h1, h2⟩
    · cases f
  | _ => simp [seqOf] at f
/-- a list, placed or not -/
theorem RB.seqL {K : PySem.W.Frag} {q : Stt} {s : Sto} {d : D} {v : V} {ds : List D} (R : Rel K C s q) (h : RB K q d v) (f : seqOf s d = some ds) (nt : ∀ es, d ≠ .tup es) : ∃ a vs, v = .ref a ∧ q.H a = some (.lst vs) ∧ RDs K q ds vs := by
  cases d with
  | tup es => exact absurd rfl (nt es)
  | lst es =>
    simp only [seqOf, Option.some.injEq] at f
    subst f
    exact h.lst
  | ref n =>
    simp only [seqOf] at f
    split at f
    · rename_i es e
      simp only [Option.some.injEq] at f
      subst f
      cases h.nl (by intro _ z; cases z) with
      | ref g =>
        obtain ⟨vs, h1, h2⟩ := R.obs n _ _ e g
        exact ⟨_, _, rfl, h1, h2⟩
    · cases f
  | _ => simp [seqOf] at f
theorem sqOr {K : PySem.W.Frag} {H : Hp} {a : Addr} {vs : List V} (h : H a = some (.lst vs) ∨ SqT K H a vs) : SqL K H a vs ∨ SqT K H a vs := h.imp SqL.of id
/-- a list that is placed, as what it is -/
theorem RB.view {K : PySem.W.Frag} {q : Stt} {s : Sto} {d : D} {v : V} (R : Rel K C s q) (h : RB K q d v) : (∃ ds a vs, view s d = .lst ds ∧ v = .ref a ∧ q.H a = some (.lst vs) ∧ RDs K q ds vs) ∨ (view s d = d ∧ RD K q d v ∧ ∀ ds, d ≠ .lst ds) := by
  cases d with
  | lst ds =>
    obtain ⟨a, vs, e, g, r⟩ := h.lst
    exact .inl ⟨ds, a, vs, rfl, e, g, r⟩
  | ref n =>
    have h' := h.nl (by intro _ z; cases z)
    unfold MP.view
    simp only
    split
    · rename_i ds e
      cases h' with
      | ref g =>
        obtain ⟨vs, h1, h2⟩ := R.obs n _ _ e g
        exact .inl ⟨ds, _, vs, rfl, rfl, h1, h2⟩
    · exact .inr ⟨rfl, h', by intro _ z; cases z⟩
  | _ => exact .inr ⟨rfl, h.nl (by intro _ z; cases z), by intro _ z; cases z⟩
theorem RB.dp {K : PySem.W.Frag} {q : Stt} {s : Sto} {d : D} {v : V} (R : Rel K C s q) (h : RB K q d v) (f : (MP.view s d).fit 60 = true) : Dp K q.H v (toP (MP.view s d)) := by
  rcases h.view R with ⟨ds, a, vs, e, rfl, g, r⟩ | ⟨e, r, _⟩
  · rw [e] at f ⊢
    exact .lst (SqL.of g) (RDs.dp 59 ds r (by simpa [D.fit] using f))
  · rw [e] at f ⊢
    exact RD.dp 60 d r f

/-! ### numbers -/
theorem simI {K : PySem.W.Frag} {P : Int → Int → Prop} {f : Int → Int → V} {g : Op2} (h : ∀ s x y z, g s x y = some z → ∃ i j, x = .int i ∧ y = .int j ∧ P i j ∧ ∀ q : Stt, RD K q z (f i j)) : SimOp K C (rI P f) g := by
  intro q s x y vx vy z Q R bx bY e k
  obtain ⟨i, j, rfl, rfl, p, r⟩ := h s x y z e
  cases bx.flat rfl
  cases bY.flat rfl
  exact ⟨i, j, rfl, rfl, p, k _ q (Ext.refl q) R (r q)⟩
theorem simI0 {K : PySem.W.Frag} {f : Int → Int → V} {g : Op2} (h : ∀ s x y z, g s x y = some z → ∃ i j, x = .int i ∧ y = .int j ∧ ∀ q : Stt, RD K q z (f i j)) : SimOp K C (rI0 f) g := by
  intro q s x y vx vy z Q R bx bY e k
  obtain ⟨i, j, rfl, rfl, r⟩ := h s x y z e
  cases bx.flat rfl
  cases bY.flat rfl
  exact ⟨i, j, rfl, rfl, k _ q (Ext.refl q) R (r q)⟩
theorem simSub {K : PySem.W.Frag} : SimOp K C (rI0 fun i j => .int (i - j)) opSub := simI0 fun s x y z e => by
  unfold opSub at e
  split at e
  · cases e; exact ⟨_, _, rfl, rfl, fun _ => .int _⟩
  · cases e
theorem smallI_iff {i : Int} (h : smallI i = true) : -(2 ^ 64) < i ∧ i < 2 ^ 64 := by
  unfold smallI at h
  simpa using h
theorem simMul {K : PySem.W.Frag} : SimOp K C (rI CMul fun i j => .int (i * j)) opMul := simI fun s x y z e => by
  unfold opMul at e
  split at e
  · split at e
    · rename_i hc
      cases e
      refine ⟨_, _, rfl, rfl, ?_, fun _ => .int _⟩
      rw [Bool.or_eq_true] at hc
      exact hc.imp smallI_iff smallI_iff
    · cases e
  · cases e
theorem simDiv {K : PySem.W.Frag} : SimOp K C (rI CDiv fun i j => .int (i / j)) opDiv := simI fun s x y z e => by
  unfold opDiv at e
  split at e
  · split at e
    · rename_i hc
      cases e
      exact ⟨_, _, rfl, rfl, hc, fun _ => .int _⟩
    · cases e
  · cases e
theorem simMod {K : PySem.W.Frag} : SimOp K C (rI (fun _ j => 0 < j) fun i j => .int (i % j)) opMod := simI fun s x y z e => by
  unfold opMod at e
  split at e
  · split at e
    · rename_i hc
      cases e
      exact ⟨_, _, rfl, rfl, hc, fun _ => .int _⟩
    · cases e
  · cases e
theorem simPow {K : PySem.W.Frag} : SimOp K C (rI CPow fun i j => .int (i ^ j.toNat)) opPow := simI fun s x y z e => by
  unfold opPow at e
  split at e
  · split at e
    · rename_i hc
      cases e
      exact ⟨_, _, rfl, rfl, ⟨hc.1, by omega, hc.2.2⟩, fun _ => .int _⟩
    · cases e
  · cases e
theorem simCmp {K : PySem.W.Frag} (p : Int → Int → Bool) : SimOp K C (rI0 fun i j => .bl (p i j)) (opCmp p) := simI0 fun s x y z e => by
  unfold opCmp at e
  split at e
  · cases e; exact ⟨_, _, rfl, rfl, fun _ => .bl _⟩
  · cases e

/-! ### sums -/
def rAddA (K : PySem.W.Frag) : R2 := fun x y H Q => (rI0 fun i j => .int (i + j)) x y H Q ∨ (∃ i j, x = .str i ∧ y = .str j ∧ i.length + j.length ≤ sizeLine ∧ Q (.str (i ++ j)) H) ∨ rCatA K x y H Q
theorem op_addA {X : Cx} : OpR X (binaryOp .Add) (rAddA X.K) := op_add.or (op_add_str.or op_catA)
theorem simAdd {K : PySem.W.Frag} : SimOp K C (rAddA K) opAdd := by
  intro q s x y vx vy z Q R bx bY e k
  unfold opAdd at e
  split at e
  · cases e
    cases bx.flat rfl
    cases bY.flat rfl
    exact .inl ⟨_, _, rfl, rfl, k _ q (Ext.refl q) R (.int _)⟩
  · rename_i a b
    split at e
    · rename_i hl
      cases e
      cases bx.flat rfl
      cases bY.flat rfl
      refine .inr (.inl ⟨_, _, rfl, rfl, ?_, ?_⟩)
      · exact lenS (by simpa [Str.length] using hl)
      · refine k _ q (Ext.refl q) R ?_
        have : (⟨a.toArray⟩ ++ ⟨b.toArray⟩ : Str) = ⟨(a ++ b).toArray⟩ := by
          show Str.append _ _ = _
          unfold Str.append
          simp
        rw [this]
        exact .str _
    · cases e
  · rename_i a b
    split at e
    · rename_i hl
      cases e
      cases bx.nl (by intro _ z; cases z) with
      | @tup a1 v1 _ gx rx =>
        cases bY.nl (by intro _ z; cases z) with
        | @tup a2 v2 _ gy ry =>
          refine .inr (.inr ⟨_, _, _, _, rfl, rfl, gx.sq, gy.sq, lenS (by rw [rx.length, ry.length]; exact hl), fun h0 => ?_, fun _ h0 => ?_, fun _ _ p hp => ?_⟩)
          · subst h0
            have : a = [] := by have := rx.length; simpa using this.symm
            subst this
            exact k _ q (Ext.refl q) R (.tup gy ry)
          · subst h0
            have : b = [] := by have := ry.length; simpa using this.symm
            subst this
            rw [List.append_nil] at k
            exact k _ q (Ext.refl q) R (.tup gx rx)
          · have x2 := Ext.new1 (o := .tup (v1 ++ v2)) R.wf hp
            exact k _ _ x2 (R.new1 hp) (.tup (.inl ⟨upd_same, R.wf.no hp⟩) (RDs.mono x2.kp _ (rx.append ry)))
    · cases e
  · cases e

/-! ### equality -/
/-- lists, one of them empty -/
def rLenE (K : PySem.W.Frag) (neg : Bool) : R2 := fun x y H Q => ∃ a b xs ys, x = .ref a ∧ y = .ref b ∧ H a = some (.lst xs) ∧ H b = some (.lst ys) ∧ xs.length ≠ ys.length ∧ Q (.bl neg) H
theorem vals_size {xs : List V} {its : List Value} (r : Vals xs its) : its.toArray.size = xs.length := by rw [List.size_toArray]; exact r.length.symm
theorem op_eqLen {X : Cx} (hu : X.A.units + 64 < cLine) : OpR X (compareOp .Eq) (rLenE X.K false) := by
  intro pins s σ H x y v u Q I rx ry h; obtain ⟨a, b, xs, ys, rfl, rfl, ha, hb, hn, q⟩ := h
  cases rx
  cases ry
  obtain ⟨its, r, p, _⟩ := I.list (SqL.of ha)
  obtain ⟨its2, r2, p2, _⟩ := I.list (SqL.of hb)
  refine SeqAt.eq_list_lengthsAt p.isList p2.isList ?_ (by omega) ⟨.bl false, H, I, rfl, q⟩
  rw [vals_size r, vals_size r2]
  simpa using hn
theorem op_neLen {X : Cx} (hu : X.A.units + 64 < cLine) : OpR X (compareOp .NotEq) (rLenE X.K true) := by
  intro pins s σ H x y v u Q I rx ry h; obtain ⟨a, b, xs, ys, rfl, rfl, ha, hb, hn, q⟩ := h
  cases rx
  cases ry
  obtain ⟨its, r, p, _⟩ := I.list (SqL.of ha)
  obtain ⟨its2, r2, p2, _⟩ := I.list (SqL.of hb)
  refine SeqAt.RcNeAt.lists_lengths p.isList p2.isList ?_ (by omega) X.prog X.w X.xe _ ⟨.bl true, H, I, rfl, q⟩
  rw [vals_size r, vals_size r2]
  simpa using hn
def rEqA (K : PySem.W.Frag) : R2 := fun x y H Q => rLenE K false x y H Q ∨ rEqD K x y H Q
def rNeA (K : PySem.W.Frag) : R2 := fun x y H Q => rLenE K true x y H Q ∨ rNeD K x y H Q
theorem op_eqA {X : Cx} (hu : X.A.units + 64 < cLine) : OpR X (compareOp .Eq) (rEqA X.K) := (op_eqLen hu).or (op_eqD hu)
theorem op_neA {X : Cx} (hu : X.A.units + 64 < cLine) : OpR X (compareOp .NotEq) (rNeA X.K) := (op_neLen hu).or (op_neD hu)
theorem eqD_cases {a b : D} {k : Bool} (h : eqD a b = some k) : (∃ ds es, a = .lst ds ∧ b = .lst es ∧ ds.length ≠ es.length ∧ k = false) ∨ (a = .lst [] ∧ b = .lst [] ∧ k = true) ∨ (a.fit 60 = true ∧ b.fit 60 = true ∧ k = a.eqv b) := by
  unfold eqD at h
  split at h
  · cases h; exact .inr (.inl ⟨rfl, rfl, rfl⟩)
  · cases h; exact .inl ⟨_, _, rfl, rfl, by simp, rfl⟩
  · cases h; exact .inl ⟨_, _, rfl, rfl, by simp, rfl⟩
  · split at h
    · rename_i hf
      cases h
      rw [Bool.and_eq_true] at hf
      exact .inr (.inr ⟨hf.1, hf.2, rfl⟩)
    · cases h
theorem eq_core {K : PySem.W.Frag} {q : Stt} {s : Sto} {x y : D} {vx vy : V} {k : Bool} (R : Rel K C s q) (bx : RB K q x vx) (bY : RB K q y vy) (e : eqD (view s x) (view s y) = some k) :
    (k = false ∧ ∃ a b xs ys, vx = .ref a ∧ vy = .ref b ∧ q.H a = some (.lst xs) ∧ q.H b = some (.lst ys) ∧ xs.length ≠ ys.length) ∨
      ∃ d e, Dp K q.H vx d ∧ Dp K q.H vy e ∧ SeqAt.shaped d = true ∧ SeqAt.shaped e = true ∧ PyData.eqv d e = k := by
  have lists : ∀ ds es, view s x = .lst ds → view s y = .lst es → ∃ a b xs ys, vx = .ref a ∧ vy = .ref b ∧ q.H a = some (.lst xs) ∧ q.H b = some (.lst ys) ∧ RDs K q ds xs ∧ RDs K q es ys := by
    intro ds es e1 e2
    rcases bx.view R with ⟨ds', a, xs, f1, rfl, g1, r1⟩ | ⟨f1, _, n1⟩
    · rcases bY.view R with ⟨es', b, ys, f2, rfl, g2, r2⟩ | ⟨f2, _, n2⟩
      · rw [f1] at e1; injection e1 with e1; subst e1
        rw [f2] at e2; injection e2 with e2; subst e2
        exact ⟨a, b, xs, ys, rfl, rfl, g1, g2, r1, r2⟩
      · rw [f2] at e2; exact absurd e2 (n2 _)
    · rw [f1] at e1; exact absurd e1 (n1 _)
  rcases eqD_cases e with ⟨ds, es, e1, e2, hn, rfl⟩ | ⟨e1, e2, rfl⟩ | ⟨f1, f2, rfl⟩
  · obtain ⟨a, b, xs, ys, h1, h2, h3, h4, r1, r2⟩ := lists ds es e1 e2
    exact .inl ⟨rfl, a, b, xs, ys, h1, h2, h3, h4, by rw [r1.length, r2.length]; exact hn⟩
  · obtain ⟨a, b, xs, ys, h1, h2, h3, h4, r1, r2⟩ := lists [] [] e1 e2
    subst h1 h2
    cases r1
    cases r2
    exact .inr ⟨.list [], .list [], .lst (SqL.of h3) .nil, .lst (SqL.of h4) .nil, by decide +kernel, by decide +kernel, by decide +kernel⟩
  · exact .inr ⟨_, _, bx.dp R f1, bY.dp R f2, shaped_toP f1, shaped_toP f2, eqv_toP 60 60 _ _ f1 f2⟩
theorem simEq {K : PySem.W.Frag} : SimOp K C (rEqA K) opEq := by
  intro q s x y vx vy z Q R bx bY e k
  unfold opEq at e
  cases h : eqD (view s x) (view s y) with
  | none => rw [h] at e; cases e
  | some b =>
    rw [h] at e
    cases e
    have kk := k (.bl b) q (Ext.refl q) R (.bl b)
    rcases eq_core R bx bY h with ⟨rfl, a, b, xs, ys, h1, h2, h3, h4, hn⟩ | ⟨d, e, h1, h2, h3, h4, rfl⟩
    · exact .inl ⟨a, b, xs, ys, h1, h2, h3, h4, hn, kk⟩
    · exact .inr ⟨d, e, h1, h2, h3, h4, kk⟩
theorem simNe {K : PySem.W.Frag} : SimOp K C (rNeA K) opNe := by
  intro q s x y vx vy z Q R bx bY e k
  unfold opNe at e
  cases h : eqD (view s x) (view s y) with
  | none => rw [h] at e; cases e
  | some b =>
    rw [h] at e
    cases e
    have kk := k (.bl (!b)) q (Ext.refl q) R (.bl _)
    rcases eq_core R bx bY h with ⟨rfl, a, b, xs, ys, h1, h2, h3, h4, hn⟩ | ⟨d, e, h1, h2, h3, h4, rfl⟩
    · exact .inl ⟨a, b, xs, ys, h1, h2, h3, h4, hn, kk⟩
    · exact .inr ⟨d, e, h1, h2, h3, h4, kk⟩
end MP

/-! More operators: membership, items, lengths, texts, kinds, slices. Own text. -/
namespace MP
open PySem L2
variable {C : Tab}

/-! ### membership -/
theorem RD.flatV {K : PySem.W.Frag} {q : Stt} {d : D} {v : V} (h : RD K q d v) (f : isFlat d = true) : flatV v = true := by cases h <;> first | rfl | simp [isFlat] at f
theorem RDs.flatV {K : PySem.W.Frag} {q : Stt} : ∀ {ds : List D} {vs : List V}, RDs K q ds vs → ds.all isFlat = true → vs.all L2.flatV = true
  | [], _, h, _ => by cases h; rfl
  | d :: ds, _, h, f => by
    rw [List.all_cons, Bool.and_eq_true] at f; cases h with
    | cons a b => rw [List.all_cons, a.flatV f.1, RDs.flatV b f.2]; rfl
theorem eqV_flat {K : PySem.W.Frag} {q : Stt} {d e : D} {v u : V} (h : RD K q d v) (g : RD K q e u) (fd : isFlat d = true) (fe : isFlat e = true) : eqV v u = d.eqv e := by
  cases h <;> first | (simp [isFlat] at fd; done) | skip
  all_goals cases g <;> first | (simp [isFlat] at fe; done) | skip
  all_goals simp only [eqV, D.eqv]
  rw [Bool.beq_eq_decide_eq]
  simp
theorem inV_flat {K : PySem.W.Frag} {q : Stt} {x : D} {vx : V} (h : RD K q x vx) (fx : isFlat x = true) : ∀ {ds : List D} {vs : List V}, RDs K q ds vs → ds.all isFlat = true → inV vx vs = ds.any fun d => d.eqv x
  | [], _, r, _ => by cases r; rfl
  | d :: ds, _, r, f => by
    rw [List.all_cons, Bool.and_eq_true] at f; cases r with
    | cons a b =>
      have ih := inV_flat h fx b f.2
      unfold inV at ih ⊢
      rw [List.any_cons, List.any_cons, ih, eqV_flat a h f.1 fx]
def rInA (K : PySem.W.Frag) (neg : Bool) : R2 := fun x y H Q => (∃ (c : Nat) (z : Str), x = .str ⟨#[c]⟩ ∧ y = .str z ∧ Q (.bl (if neg then !decide (c ∈ z.cps.toList) else decide (c ∈ z.cps.toList))) H) ∨ rIn K neg x y H Q
theorem op_inA {X : Cx} : OpR X (compareOp .In) (rInA X.K false) := op_in_sign.or op_in_seq
theorem op_notInA {X : Cx} : OpR X (compareOp .NotIn) (rInA X.K true) := op_notIn_sign.or op_notIn_seq
theorem in_core {K : PySem.W.Frag} {q : Stt} {s : Sto} {x y : D} {vx vy : V} {k : Bool} {neg : Bool} {Q : VK} (R : Rel K C s q) (bx : RB K q x vx) (bY : RB K q y vy) (e : inD s x y = some k) (kk : Q (.bl (if neg then !k else k)) q.H) : rInA K neg vx vy q.H Q := by
  unfold inD at e
  split at e
  · rename_i c z
    cases e
    cases bx.flat rfl
    cases bY.flat rfl
    exact .inl ⟨c, _, rfl, rfl, kk⟩
  · split at e
    · rename_i ds hs
      split at e
      · rename_i hf
        cases e
        rw [Bool.and_eq_true] at hf
        obtain ⟨a, vs, rfl, h1, r⟩ := bY.seq R hs
        have rx := bx.flat hf.1
        refine .inr ⟨a, vs, rfl, sqOr h1, rx.flatV hf.1, r.flatV hf.2, ?_⟩
        rw [inV_flat rx hf.1 r hf.2]
        exact kk
      · cases e
    · cases e
theorem simIn {K : PySem.W.Frag} : SimOp K C (rInA K false) opIn := by
  intro q s x y vx vy z Q R bx bY e k
  unfold opIn at e
  cases h : inD s x y with
  | none => rw [h] at e; cases e
  | some b => rw [h] at e; cases e; exact in_core R bx bY h (k _ q (Ext.refl q) R (.bl b))
theorem simNotIn {K : PySem.W.Frag} : SimOp K C (rInA K true) opNotIn := by
  intro q s x y vx vy z Q R bx bY e k
  unfold opNotIn at e
  cases h : inD s x y with
  | none => rw [h] at e; cases e
  | some b => rw [h] at e; cases e; exact in_core R bx bY h (k _ q (Ext.refl q) R (.bl (!b)))

/-! ### items -/
theorem place_ix (n : Nat) (i : Int) : place n i = ixN n i := rfl
theorem ixD_get {K : PySem.W.Frag} {q : Stt} {ds : List D} {vs : List V} {i : Int} {d : D} (r : RDs K q ds vs) (e : ixD ds i = some d) : ∃ v, atI vs i = some v ∧ RD K q d v := by
  unfold ixD at e
  cases h : place ds.length i with
  | none => rw [h] at e; cases e
  | some k =>
    rw [h] at e
    obtain ⟨v, h1, h2⟩ := RDs.get r e
    refine ⟨v, ?_, h2⟩
    unfold atI
    rw [r.length, ← place_ix, h]
    exact h1
theorem simIx {K : PySem.W.Frag} : SimOp K C (rIx K) opIx := by
  intro q s x y vx vy z Q R bx bY e k
  unfold opIx at e
  split at e
  · rename_i z' i
    split at e
    · rename_i hl
      cases bx.flat rfl
      cases bY.flat rfl
      cases h : place z'.length i with
      | none => rw [h] at e; cases e
      | some j =>
        rw [h] at e
        simp only [Option.bind] at e
        cases h2 : z'[j]? with
        | none => rw [h2] at e; cases e
        | some c =>
          rw [h2] at e
          cases e
          refine .inr (.inr ⟨_, i, c, rfl, rfl, ?_, ?_, k _ q (Ext.refl q) R (.str [c])⟩)
          · exact lenS (by simpa [Str.length] using hl)
          · show atI z' i = some c
            unfold atI
            rw [← place_ix, h]
            exact h2
    · cases e
  · rename_i ns i
    cases bY.flat rfl
    cases bx.nl (by intro _ z; cases z) with
    | @scr _ a g =>
      cases h : place ns.length i with
      | none => rw [h] at e; cases e
      | some j =>
        rw [h] at e
        simp only [Option.bind] at e
        cases h2 : ns[j]? with
        | none => rw [h2] at e; cases e
        | some c =>
          rw [h2] at e
          cases e
          refine .inl ⟨a, _, i, .int c, rfl, rfl, g.sq, ?_, k _ q (Ext.refl q) R (.int c)⟩
          unfold atI
          rw [List.length_map, ← place_ix, h]
          simp [h2]
  · rename_i i _ _
    cases bY.flat rfl
    cases h : seqOf s x with
    | none => rw [h] at e; cases e
    | some ds =>
      rw [h] at e
      obtain ⟨a, vs, rfl, h1, r⟩ := bx.seq R h
      obtain ⟨v, h2, h3⟩ := ixD_get r e
      rcases h1 with h1 | h1
      · exact .inl ⟨a, vs, i, v, rfl, rfl, SqL.of h1, h2, k v q (Ext.refl q) R h3⟩
      · exact .inr (.inl ⟨a, vs, i, v, rfl, rfl, h1, h2, k v q (Ext.refl q) R h3⟩)
  · cases e

section
variable {X : Cx} {W : Wx} {pos p apos : Pos} {e a b o : Expr} {es : List Expr} {m ma mb : ME}
theorem PE.ix {r : R2} {g : Op2} (hr : IxR X r) (hs : SimOp X.K C r g) (ha : GB X C W a ma) (hb : GB X C W b mb) (hp : PlainIx b) : GE X C W (.Subscript a b pos) (eOp2 g ma mb) := PE.imp (pe_ix hr ha hb hp) (op2_imp hs)
theorem ge_ix (ha : GB X C W a ma) (hb : GB X C W b mb) (hp : PlainIx b := by exact fun _ _ => rfl) : GE X C W (.Subscript a b pos) (eOp2 opIx ma mb) := PE.ix ix_seq simIx ha hb hp

/-! ### built-in functions of one thing -/
theorem CallR.or {f : Value} {r r' : List V → Hp → VK → Prop} (h : CallR X f r) (h' : CallR X f r') : CallR X f (fun x H Q => r x H Q ∨ r' x H Q) := by
  intro pins s σ H xs us Q I rr q
  rcases q with q | q
  · exact h pins s σ H xs us Q I rr q
  · exact h' pins s σ H xs us Q I rr q
theorem pa1 (ha : GB X C W e ma) (hs : starEach [e] X.env = (false, eval e X.env) :: starEach [] X.env := by rfl) : PA X [e] (tCons (tM X.K C W (rB X.K) ma) tNil) := pa_cons ha pa_nil hs
theorem fun1_imp {K : PySem.W.Frag} {r : List V → Hp → VK → Prop} {g : Op1} (hs : SimU K C (fun v H Q => r [v] H Q) g) (σ : St) (H : Hp) (Q : VK) (h : tM K C W (rD K) (eOp1 g ma) σ H Q) : tCB r (tCons (tM K C W (rB K) ma) tNil) σ H Q := op1_imp hs σ H Q h
theorem ge_fun1 {x : Str} {id : String} {r : List V → Hp → VK → Prop} {g : Op1} (hc : CallR X (.builtin id) r) (hs : SimU X.K C (fun v H Q => r [v] H Q) g) (hm : X.mg x = none) (ha : GB X C W e ma) (hg : Gl X x := by rfl) (hv : bootBuiltins x = some (.builtin id) := by decide +kernel)
    (hn : x ≠ "__name__" := by decide) (hd : (x == ("__debug__" : Str)) = false := by decide) (h1 : starEach [e] X.env = (false, eval e X.env) :: starEach [] X.env := by rfl) : GE X C W (.Call (.Name x p) [e] [] pos) (eOp1 g ma) :=
  PE.imp (pe_callB hc hg hm hv (pa1 ha h1) hn hd (he := h1)) (fun1_imp hs)
theorem ge_ty1 {x : Str} {T : String} {r : List V → Hp → VK → Prop} {g : Op1} (hc : CallR X (.type T) r) (hs : SimU X.K C (fun v H Q => r [v] H Q) g) (hm : X.mg x = none) (ha : GB X C W e ma) (hg : Gl X x := by rfl) (hv : bootBuiltins x = some (.type T) := by decide +kernel)
    (hn : x ≠ "__name__" := by decide) (hd : (x == ("__debug__" : Str)) = false := by decide) (h1 : starEach [e] X.env = (false, eval e X.env) :: starEach [] X.env := by rfl) : GE X C W (.Call (.Name x p) [e] [] pos) (eOp1 g ma) :=
  PE.imp (pe_callTy hc hg hm hv (pa1 ha h1) hn hd (he := h1)) (fun1_imp hs)
def rLenA (K : PySem.W.Frag) : List V → Hp → VK → Prop := fun xs H Q => (∃ p ys, xs = [.ref p] ∧ (SqL K H p ys ∨ SqT K H p ys) ∧ Q (.int ys.length) H) ∨ ∃ z, xs = [.str z] ∧ z.length ≤ sizeLine ∧ Q (.int z.length) H
theorem call_lenA : CallR X (.builtin "len") (rLenA X.K) := CallR.or call_len_seq call_len_str
theorem simLen {K : PySem.W.Frag} : SimU K C (fun v H Q => rLenA K [v] H Q) opLen := by
  intro q s x vx z Q R bx e k
  unfold opLen at e
  split at e
  · rename_i z'
    split at e
    · rename_i hl
      cases e
      cases bx.flat rfl
      have := k (.int (z'.length : Nat)) q (Ext.refl q) R (.int _)
      exact .inr ⟨_, rfl, lenS (by simpa [Str.length] using hl), by simpa [Str.length] using this⟩
    · cases e
  · rename_i ns
    cases e
    cases bx.nl (by intro _ z; cases z) with
    | @scr _ a g =>
      have := k (.int (ns.length : Nat)) q (Ext.refl q) R (.int _)
      exact .inl ⟨a, ns.map V.int, rfl, .inl g.sq, by rw [List.length_map]; exact this⟩
  · cases h : seqOf s x with
    | none => rw [h] at e; cases e
    | some ds =>
      rw [h] at e
      cases e
      obtain ⟨a, vs, rfl, h1, r⟩ := bx.seq R h
      have := k (.int (ds.length : Nat)) q (Ext.refl q) R (.int _)
      exact .inl ⟨a, vs, rfl, sqOr h1, by rw [r.length]; exact this⟩
def rIntA : List V → Hp → VK → Prop := fun xs H Q => ((∃ i, xs = [.int i] ∧ Q (.int i) H) ∨ ∃ k, xs = [.bl k] ∧ Q (.int (if k then 1 else 0)) H) ∨ ∃ a n, xs = [.str a] ∧ PySem.intText? a = some n ∧ a.length ≤ 640 ∧ Q (.int n) H
theorem call_intA : CallR X (.type "int") rIntA := CallR.or call_int1 call_int_str
theorem figs_text {cs : List Nat} (h1 : cs ≠ []) (h2 : cs.length ≤ 9) (h3 : cs.all isFig = true) : PySem.intText? ⟨cs.toArray⟩ = some ((figs cs : Nat) : Int) := by
  refine intText_digits (x := ⟨cs.toArray⟩) (fun c hc => ?_) (by simpa using h1) (by simp [Str.length]; omega)
  have := List.all_eq_true.mp h3 c (by simpa using hc)
  simpa [isFig] using this
theorem simInt {K : PySem.W.Frag} : SimU K C (fun v H Q => rIntA [v] H Q) opIntOf := by
  intro q s x vx z Q R bx e k
  unfold opIntOf at e
  split at e
  · cases e; cases bx.flat rfl; exact .inl (.inl ⟨_, rfl, k _ q (Ext.refl q) R (.int _)⟩)
  · cases e; cases bx.flat rfl; exact .inl (.inr ⟨_, rfl, k _ q (Ext.refl q) R (.int _)⟩)
  · split at e
    · rename_i cs hc
      cases e
      cases bx.flat rfl
      exact .inr ⟨_, _, rfl, figs_text hc.1 hc.2.1 hc.2.2, by simp [Str.length]; omega, k _ q (Ext.refl q) R (.int _)⟩
    · cases e
  · cases e
theorem ofS (z : String) : Str.ofString z = ⟨(z.toList.map Char.toNat).toArray⟩ := Str.ofString_eq_toList z
theorem simStr {K : PySem.W.Frag} : SimU K C (fun v H Q => ∃ i, [v] = [V.int i] ∧ i.natAbs.log2 < 1920 ∧ Q (.str (Str.ofString (toString i))) H) opStrOf := by
  intro q s x vx z Q R bx e k
  unfold opStrOf at e
  split at e
  · rename_i i
    split at e
    · rename_i hs
      cases e
      cases bx.flat rfl
      have h := smallI_iff hs
      refine ⟨i, rfl, ?_, ?_⟩
      · rcases Nat.eq_zero_or_pos i.natAbs with h0 | h0
        · rw [h0]; decide
        · exact Nat.lt_of_lt_of_le ((Nat.log2_lt (by omega)).mpr (show i.natAbs < 2 ^ 64 by omega)) (by decide)
      · rw [ofS]
        exact k _ q (Ext.refl q) R (.str _)
    · cases e
  · cases e
theorem simTuple {K : PySem.W.Frag} : SimU K C (fun v H Q => ∃ p ys, [v] = [V.ref p] ∧ ((SqL K H p ys ∧ ∀ l, H l = none → Q (.ref l) (upd H l (.tup ys))) ∨ (SqT K H p ys ∧ Q (.ref p) H))) opTuple := by
  intro q s x vx z Q R bx e k
  unfold opTuple at e
  cases h : seqOf s x with
  | none => rw [h] at e; cases e
  | some ds =>
    rw [h] at e
    cases e
    cases x with
    | tup es =>
      simp only [seqOf, Option.some.injEq] at h
      subst h
      have b := bx.nl (by intro _ z; cases z)
      cases id b with
      | tup g r => exact ⟨_, _, rfl, .inr ⟨g.sq, k _ q (Ext.refl q) R b⟩⟩
    | _ =>
      obtain ⟨a, vs, rfl, h1', r⟩ := bx.seqL R h (by intro _ z; cases z)
      refine ⟨a, vs, rfl, .inl ⟨SqL.of h1', fun l hl => ?_⟩⟩
      have x2 := Ext.new1 (o := .tup vs) R.wf hl
      exact k _ _ x2 (R.new1 hl) (.tup (.inl ⟨upd_same, R.wf.no hl⟩) (RDs.mono x2.kp _ r))
end
end MP

/-! Calls, objects, kinds, slices, texts. Own text. -/
namespace MP
open PySem L2

/-! ### calls -/
/-- what a def promises by its function -/
def spM (K : PySem.W.Frag) (C : Tab) (g : Fn) : Sp := fun vs H Q E => ∃ (q : Stt) (s : Sto) (ds : List D), q.H = H ∧ Rel K C s q ∧ RDs K q ds vs ∧ Post K C (fun cls d _ H' => E cls d H') (rD K) q [] Q (g ds s)
/-- a def at f that may be called: g from the arguments that are written -/
def Cal (P : Program) (w : World) (K : PySem.W.Frag) (mg : Str → Option Value) (base : Heap) (C : Tab) (k : Nat) (f : Addr) (g : Fn) : Prop :=
  ∃ (fd : FuncData) (ps : List Str) (ds : List Value) (dvs : List V) (dD : List D) (g' : Fn), FnOk P w K mg base (L2.CX P w) k f fd ps (spM K C g') ∧ Binds K fd ps ds ∧ Vals dvs ds ∧ (∀ q : Stt, RDs K q dD dvs) ∧ g = fun as => g' (as ++ dD)
theorem Cal.mono {P : Program} {w : World} {K : PySem.W.Frag} {mg : Str → Option Value} {base : Heap} {C : Tab} {j k : Nat} {f : Addr} {g : Fn} (h : Cal P w K mg base C j f g) (hk : j ≤ k) : Cal P w K mg base C k f g := by
  obtain ⟨fd, ps, ds, dvs, dD, g', F, b, d, r, e⟩ := h
  exact ⟨fd, ps, ds, dvs, dD, g', F.mono hk, b, d, r, e⟩
section
variable {X : Cx} {C : Tab} {W : Wx} {k : Nat} {f Ca : Addr} {g : Fn} {pos p apos : Pos} {x : Str} {e a b o : Expr} {es : List Expr} {m ma mb mo : ME} {ml : MA}
/-- what a call asks of its arguments -/
def Asked (K : PySem.W.Frag) (C : Tab) (W : Wx) (g : Fn) (σ : St) (vs : List V) (H : Hp) (Q : VK) : Prop := ∃ (q : Stt) (s : Sto) (ds : List D), q.H = H ∧ Rel K C s q ∧ RDs K q ds vs ∧ Post K C W (rD K) q σ Q (g ds s)
theorem post_sig {K : PySem.W.Frag} {q : Stt} {σ : St} {Q : VK} {r : Res D} (h : Post K C W (rD K) q σ Q r) : Post K C (fun cls d _ H' => W cls d σ H') (rD K) q [] Q r := by
  cases r with
  | ok d s => exact h
  | exc x s => exact h
  | stk => exact h
theorem run_cal {pins : List (Addr × Obj)} {σ : St} {H : Hp} {s : Shared} {Q : VK} {us : List Value} {vs : List V} (F : Cal X.prog X.w X.K X.mg X.base C k f g) (hr : Room k X.A) (tk : Takes X W) (I : Inv X pins σ H s) (r : Vals vs us) (h : Asked X.K C W g σ vs H Q) : wpAny (model X.prog X.w) X.A (call (.ref f) us) (EP X pins σ Q) X.xe s := by
  obtain ⟨fd, ps, ds, dvs, dD, g', F, b, d, rd, rfl⟩ := F
  obtain ⟨q, st, as, e, L, ra, p⟩ := h
  refine run_fnSD (E := WE W) F hr b d (passAt tk σ) I r ?_
  exact ⟨q, st, as ++ dD, e, L, ra.append (rd q), post_sig p⟩
def tAsk (K : PySem.W.Frag) (C : Tab) (W : Wx) (g : Fn) (t : TA) : TE := fun σ H Q => t σ H fun vs H1 => Asked K C W g σ vs H1 Q
theorem call_imp {K : PySem.W.Frag} (σ : St) (H : Hp) (Q : VK) (h : tM K C W (rD K) (eCall g ml) σ H Q) : tAsk K C W g (tM K C W (rA K) ml) σ H Q := by
  obtain ⟨q0, q, env, s, eq, E, L, p⟩ := h
  subst eq
  exact tM.first (f := g) E L p rD_any fun ds s1 vs q1 x1 E1 L1 y1 p1 => ⟨q1, s1, ds, rfl, L1, y1, p1⟩
theorem ge_call (F : Cal X.prog X.w X.K X.mg X.base C k f g) (hr : Room k X.A) (tk : Takes X W) (hm : X.mg x = some (.ref f)) (hk : PySem.W.keepIn X.K (.ref f) = true) (ha : GA X C W (e :: es) ml) (hg : Gl X x := by rfl)
    (hdb : (x == ("__debug__" : Str)) = false := by decide) (he : starEach (e :: es) X.env = (false, eval e X.env) :: starEach es X.env := by rfl) (hpl : (backTo pos (starEach es X.env)).any (·.1) = false := by rfl) : GE X C W (.Call (.Name x p) (e :: es) [] pos) (eCall g ml) := by
  refine PE.imp (t := tAsk X.K C W g (tM X.K C W (rA X.K) ml)) ⟨fun pins s σ H Q I h => ?_⟩ call_imp
  refine wpAny_Call_Name_kw (ld_glob I hg hm ?_ hdb); exact PySem.W.callWith_K (h₀ := X.base) I.ok.mod.kin hk (thn (ha.run pos pins s σ H _ I h) fun us s1 ⟨vs, H1, I1, r, q⟩ => ⟨I1.kIn, run_cal F hr tk I1 r q⟩) he hpl
theorem ge_call0 (F : Cal X.prog X.w X.K X.mg X.base C k f g) (hr : Room k X.A) (tk : Takes X W) (hm : X.mg x = some (.ref f)) (hk : PySem.W.keepIn X.K (.ref f) = true) (hg : Gl X x := by rfl) (hdb : (x == ("__debug__" : Str)) = false := by decide) :
    GE X C W (.Call (.Name x p) [] [] pos) (eCall g aNil) := by
  refine PE.imp (t := fun σ H Q => Asked X.K C W g σ [] H Q) ⟨fun pins s σ H Q I h => ?_⟩ fun σ H Q ⟨q0, q, env, s, eq, E, L, p⟩ => ⟨q, s, [], eq, L, .nil, p⟩
  refine wpAny_Call_Name_kw (ld_glob I hg hm ?_ hdb); exact PySem.W.callWith_K0 I.kIn hk (run_cal F hr tk I .nil h)
/-- a method of an object of a class -/
def tAskM (K : PySem.W.Frag) (C : Tab) (W : Wx) (Ca : Addr) (m : Str) (g : Fn) (to : TE) (t : TA) : TE := fun σ H Q => to σ H fun x H1 => ∃ a dx fs, x = .ref a ∧ H1 a = some (.ins Ca dx fs) ∧ fs.lookup m = none ∧ t σ H1 fun vs H2 => Asked K C W g σ (x :: vs) H2 Q
theorem ofS_inj {x y : String} (h : Str.ofString x = Str.ofString y) : x = y := by
  rw [ofS, ofS] at h
  injection h with h
  have h2 : x.toList.map Char.toNat = y.toList.map Char.toNat := by simpa using h
  have h3 : x.toList = y.toList := (List.map_inj_right fun a b (e : a.toNat = b.toNat) => Char.ext (UInt32.toNat_inj.mp e)).mp h2
  exact String.toList_inj.mp h3
theorem RF.look {K : PySem.W.Frag} {q : Stt} (f : String) : ∀ {fs : List (String × D)} {gs : List (Str × V)}, RF K q fs gs → (∀ d, fs.lookup f = some d → ∃ v, gs.lookup (Str.ofString f) = some v ∧ RD K q d v) ∧ (fs.lookup f = none → gs.lookup (Str.ofString f) = none)
  | _, _, .nil => ⟨fun _ h => by simp at h, fun _ => rfl⟩
  | _, _, .cons (f := g) (d := d) a b => by
    have ih := RF.look f b
    by_cases e : f = g
    · subst e
      refine ⟨fun d' h => ?_, fun h => ?_⟩
      · rw [List.lookup_cons_self] at h ⊢; cases h; exact ⟨_, rfl, a⟩
      · rw [List.lookup_cons_self] at h; cases h
    · have e1 : (f == g) = false := by simpa using e
      have e2 : (Str.ofString f == Str.ofString g) = false := by simpa using fun z => e (ofS_inj z)
      rw [List.lookup_cons, List.lookup_cons, e1, e2]
      exact ih
theorem isOf_at {K : PySem.W.Frag} {q : Stt} {s : Sto} {c : Nat} {nm : String} {d : D} {v : V} (R : Rel K C s q) (h : RD K q d v) (f : isOf s c nm d = true) : ∃ a dx gs, v = .ref a ∧ q.H a = some (.ins (C c) dx gs) ∧ gs.lookup (Str.ofString nm) = none := by
  unfold isOf at f
  split at f
  · rename_i n
    split at f
    · rename_i c' fs e
      rw [Bool.and_eq_true] at f
      have ec : c' = c := by simpa using f.1
      subst ec
      cases h with
      | ref g =>
        obtain ⟨dx, gs, h1, h2⟩ := R.obs n _ _ e g
        refine ⟨_, dx, gs, rfl, h1, (RF.look nm h2).2 ?_⟩
        simpa using f.2
    · cases f
  · cases f
theorem meth_imp {K : PySem.W.Frag} {c : Nat} {nm : String} (σ : St) (H : Hp) (Q : VK) (h : tM K C W (rD K) (eMeth c nm g mo ml) σ H Q) : tAskM K C W (C c) (Str.ofString nm) g (tM K C W (rD K) mo) (tM K C W (rA K) ml) σ H Q := by
  obtain ⟨q0, q, env, s, eq, E, L, p⟩ := h
  subst eq
  refine tM.first (f := fun x s1 => if isOf s1 c nm x then (ml env s1).bind fun ds s2 => g (x :: ds) s2 else .stk) E L p rD_any fun x s1 vx q1 x1 E1 L1 y1 p1 => ?_
  cases f : isOf s1 c nm x with
  | false => rw [f] at p1; exact p1.elim
  | true =>
    rw [f] at p1
    obtain ⟨a, dx, gs, rfl, h1, h2⟩ := isOf_at L1 y1 f
    refine ⟨a, dx, gs, rfl, h1, h2, ?_⟩
    exact tM.first (f := fun ds s2 => g (x :: ds) s2) E1 L1 p1 rD_any fun ds s2 vs q2 x2 E2 L2 y2 p2 => ⟨q2, s2, x :: ds, rfl, L2, .cons (RD.mono x2.kp x y1) y2, p2⟩
theorem ge_meth {pl : Sem Bool} {c : Nat} {nm : String} (ho : GE X C W o mo) (hc : Cls X.K (C c)) (hM : Meth X.K (C c) (Str.ofString nm) f) (F : Cal X.prog X.w X.K X.mg X.base C k f g) (hr : Room k X.A) (tk : Takes X W) (ha : GA X C W (e :: es) ml) (hst : starEach (e :: es) X.env = (false, eval e X.env) :: starEach es X.env := by rfl) (hpl : (backTo pos (starEach es X.env)).any (·.1) = false := by rfl)
    (ht : eval (.Call (.Attribute o (Str.ofString nm) apos) (e :: es) [] pos) X.env = (eval o X.env >>= fun ov => standAt apos.atName >>= fun _ => holding [ov] (getMethod ov (Str.ofString nm) pl) >>= fun y => callWith pos y.1 y.2 (backTo pos (starEach (e :: es) X.env)) (backToKw pos (keywordEach [] X.env))) := by rfl) :
    GE X C W (.Call (.Attribute o (Str.ofString nm) apos) (e :: es) [] pos) (eMeth c nm g mo ml) := by
  refine PE.imp (t := tAskM X.K C W (C c) (Str.ofString nm) g (tM X.K C W (rD X.K) mo) (tM X.K C W (rA X.K) ml)) ⟨fun pins s σ H Q I h => ?_⟩ meth_imp
  refine PySem.W.methodCall_KW (pl := pl) (thn (ho.run pins s σ H _ I h) fun u s1 ⟨x, H1, I1, rx, a, dx, fs, ex, ea, l, q⟩ => ?_) ht
  subst ex
  obtain rfl : u = Value.ref a := rx; refine getmeth_ok I1 ea hc hM l ?_
  exact PySem.W.callWith_K (first := [.ref a]) (h₀ := X.base) I.ok.mod.kin hM.kp (thn (ha.run pos pins s1 σ H1 _ I1 q) fun us s2 ⟨vs, H2, I2, r, q2⟩ => ⟨I2.kIn, run_cal (us := .ref a :: us) (vs := .ref a :: vs) F hr tk I2 (.cons rfl r) q2⟩) hst hpl
theorem ge_meth0 {pl : Sem Bool} {c : Nat} {nm : String} (ho : GE X C W o mo) (hc : Cls X.K (C c)) (hM : Meth X.K (C c) (Str.ofString nm) f) (F : Cal X.prog X.w X.K X.mg X.base C k f g) (hr : Room k X.A) (tk : Takes X W)
    (ht : eval (.Call (.Attribute o (Str.ofString nm) apos) [] [] pos) X.env = (eval o X.env >>= fun ov => standAt apos.atName >>= fun _ => holding [ov] (getMethod ov (Str.ofString nm) pl) >>= fun y => callWith pos y.1 y.2 (backTo pos (starEach [] X.env)) (backToKw pos (keywordEach [] X.env))) := by rfl) :
    GE X C W (.Call (.Attribute o (Str.ofString nm) apos) [] [] pos) (eMeth c nm g mo aNil) := by
  refine PE.imp (t := tAskM X.K C W (C c) (Str.ofString nm) g (tM X.K C W (rD X.K) mo) (tM X.K C W (rA X.K) aNil)) ⟨fun pins s σ H Q I h => ?_⟩ meth_imp
  refine PySem.W.methodCall_KW (pl := pl) (thn (ho.run pins s σ H _ I h) fun u s1 ⟨x, H1, I1, rx, a, dx, fs, ex, ea, l, q⟩ => ?_) ht
  subst ex
  obtain rfl : u = Value.ref a := rx; refine getmeth_ok I1 ea hc hM l ?_
  obtain ⟨q0, q1, env, st, eq, E, L, p⟩ := q
  subst eq
  exact PySem.W.callWith_K0 (first := [.ref a]) I1.kIn hM.kp (run_cal (us := [.ref a]) (vs := [.ref a]) F hr tk I1 (.cons rfl .nil) (p [] q1 (Ext.refl q1) L .nil))

/-! ### fields -/
theorem field_at {K : PySem.W.Frag} {q : Stt} {s : Sto} {c : Nat} {nm : String} {d z : D} {v : V} (R : Rel K C s q) (h : RD K q d v) (f : fieldOf s c nm d = some z) : ∃ a dx gs u, v = .ref a ∧ q.H a = some (.ins (C c) dx gs) ∧ gs.lookup (Str.ofString nm) = some u ∧ RD K q z u := by
  unfold fieldOf at f
  split at f
  · rename_i n
    split at f
    · rename_i c' fs e
      split at f
      · rename_i ec
        subst ec
        cases h with
        | ref g =>
          obtain ⟨dx, gs, h1, h2⟩ := R.obs n _ _ e g
          obtain ⟨u, h3, h4⟩ := (RF.look nm h2).1 z f
          exact ⟨_, dx, gs, u, rfl, h1, h3, h4⟩
      · cases f
    · cases f
  · cases f
theorem ge_fld {c : Nat} {nm : String} (ho : GE X C W o mo) (hc : Cls X.K (C c)) (hn : NoAttr X.K (C c) (Str.ofString nm)) (hb : attributeBase o (Str.ofString nm) X.env (eval o X.env) = eval o X.env := by rfl) :
    GE X C W (.Attribute o (Str.ofString nm) pos) (eFld c mo nm) := PE.imp (pe_fld ho hb) fun σ H Q ⟨q0, q, env, s, eq, E, L, p⟩ => by
  subst eq
  refine tM.first (f := fun x s1 => .ofO (fieldOf s1 c nm x) s1) E L p rD_any fun x s1 vx q1 x1 E1 L1 y1 p1 => ?_
  cases f : fieldOf s1 c nm x with
  | none => rw [f] at p1; exact p1.elim
  | some z =>
    rw [f] at p1
    obtain ⟨a, dx, gs, u, rfl, h1, h2, h3⟩ := field_at L1 y1 f
    exact ⟨a, C c, dx, gs, u, rfl, h1, hc, hn, h2, p1 u q1 (Ext.refl q1) L1 h3⟩

/-! ### kinds -/
def Ki.nm : Ki → String
  | .non => "NoneType" | .bool => "bool" | .int => "int" | .str => "str" | .tuple => "tuple" | .list => "list"
theorem ki_ty : ∀ a b : Ki, kitB a.nm b.nm = some (a.isA b) := by
  intro a b
  cases a <;> cases b <;> decide +kernel
theorem kind_at {K : PySem.W.Frag} {q : Stt} {s : Sto} {d : D} {v : V} {k : Ki} (R : Rel K C s q) (h : RD K q d v) (f : kindOf s d = some k) : TyX K q.H v (.type k.nm) := by
  unfold kindOf at f
  split at f
  · cases f; cases h; exact .base .non
  · cases f; cases h; exact .base (.bl _)
  · cases f; cases h; exact .base (.int _)
  · cases f; cases h; exact .base (.str _)
  · cases f
    cases h with
    | tup g r =>
      rcases g with ⟨g, _⟩ | g
      · exact .base (.tup g)
      · rcases g with (g | ⟨_, g⟩) | ⟨o, its, n, h1, h2, _⟩
        · cases g
        · cases g
        · exact .kTuple h1 h2
  · cases f; cases h with | lst g r => exact .base (.lst g.1)
  · cases f; cases h with
    | scr g =>
      rcases g with ⟨o, g, _⟩ | ⟨g, _⟩ | (g | ⟨_, g⟩) | ⟨o, its, n, h1, h2, _⟩
      · exact .base (.frz g)
      · exact .base (.lst g)
      · cases g
      · cases g
      · exact .kList h1 h2
  · split at f
    · rename_i e
      cases f
      cases h with
      | ref g =>
        obtain ⟨vs, h1, _⟩ := R.obs _ _ _ e g
        exact .base (.lst h1)
    · cases f
/-- isinstance(e, T) -/
theorem ge_isi (t : Ki) {x1 : Str} {p2 : Pos} (hm : X.mg "isinstance" = none) (hmt : X.mg x1 = none) (hvt : bootBuiltins x1 = some (.type t.nm)) (ha : GE X C W e ma) (hg : Gl X "isinstance" := by rfl) (hgt : Gl X x1 := by rfl) (hv : bootBuiltins "isinstance" = some (.builtin "isinstance") := by decide +kernel)
    (hn : x1 ≠ "__name__" := by decide) (hd : (x1 == ("__debug__" : Str)) = false := by decide) (h1 : starEach [e, .Name x1 p2] X.env = (false, eval e X.env) :: starEach [.Name x1 p2] X.env := by rfl) (h2 : starEach [.Name x1 p2] X.env = (false, eval (.Name x1 p2) X.env) :: starEach [] X.env := by rfl)
    (hpl : (backTo pos (starEach [.Name x1 p2] X.env)).any (·.1) = false := by rfl) :
    GE X C W (.Call (.Name "isinstance" p) [e, .Name x1 p2] [] pos) (eOp1 (opKind t) ma) :=
  PE.imp (pe_callB call_isi hg hm hv (pa_cons ha (pa_cons (pe_bltn (v := .ty t.nm) hgt hmt hvt rfl hn hd) pa_nil h2) h1) (he := h1) (hpl := hpl)) fun σ H Q ⟨q0, q, env, s, eq, E, L, p⟩ => by
    subst eq
    refine tM.first (f := fun x s1 => .ofO (opKind t s1 x) s1) E L p rD_any fun x s1 vx q1 x1 E1 L1 y1 p1 => ?_
    unfold opKind at p1
    cases f : kindOf s1 x with
    | none => rw [f] at p1; exact p1.elim
    | some k =>
      rw [f] at p1
      exact ⟨vx, .ty t.nm, _, _, k.isA t, rfl, .ty t.nm, kind_at L1 y1 f, kit_ty (ki_ty k t), p1 _ q1 (Ext.refl q1) L1 (.bl _)⟩

/-! ### parts of lists, of tuples -/
def GO (X : Cx) (C : Tab) (W : Wx) (e : Option Expr) (m : MO) : Prop := PO X e (tM X.K C W (fun _ _ a b => a = b) m)
theorem go_none : GO X C W none oNone := ⟨fun pins s σ H Q I ⟨q0, q, env, st, eq, E, L, p⟩ => po_none.run pins s σ H Q I (by subst eq; exact p none q (Ext.refl q) L rfl)⟩
theorem go_some (h : GE X C W e ma) : GO X C W (some e) (oSome ma) := ⟨fun pins s σ H Q I ⟨q0, q, env, st, eq, E, L, p⟩ => (po_some h).run pins s σ H Q I (by
  subst eq
  refine tM.first (f := fun x s1 => match x with | .int i => .ok (some i) s1 | _ => .stk) E L p (fun _ _ _ _ _ w => w) fun x s1 vx q1 x1 E1 L1 y1 p1 => ?_
  cases y1 with
  | int i => exact ⟨i, rfl, p1 _ q1 (Ext.refl q1) L1 rfl⟩
  | _ => exact p1.elim)⟩
theorem cut_rel {K : PySem.W.Frag} {q : Stt} {ds : List D} {vs : List V} (lo hi : Option Int) (r : RDs K q ds vs) : RDs K q (cutD ds lo hi) (cutV vs lo hi) := by
  have e : ∀ (n d : Nat) (o : Option Int), partIx n d o = HT.sIx n d o := fun n d o => by cases o <;> rfl
  unfold cutD cutV
  rw [e, e, r.length]
  exact (r.drop _).take _
theorem gl_sl {p2 : Pos} {lo hi : Option Expr} {l h : MO} (ha : GB X C W a ma) (hl : GO X C W lo l) (hh : GO X C W hi h) : GL X C W (.Subscript a (.Slice lo hi none p2) pos) (lSl ma l h) := PE.imp (pe_slice sl_list ha hl hh) fun σ H Q ⟨q0, q, env, s, eq, E, L, p⟩ => by
  subst eq
  refine tM.first0 (f := fun x s1 => (l env s1).bind fun l s2 => (h env s2).bind fun h s3 => match MP.view s3 x with | .lst ds => .ok (cutD ds l h) s3 | _ => .stk) E L p fun x s1 vx q1 x1 L1 y1 p1 => ?_
  refine ⟨q0, q1, env, s1, rfl, E.ext x1, L1, ?_⟩
  cases e1 : l env s1 with
  | stk => rw [e1] at p1; exact p1.elim
  | exc z t => rw [e1] at p1; exact fun c d q' w r => p1 c d q' (x1.trans w) r
  | ok lo' s2 =>
    rw [e1] at p1
    intro lo'' q2 x2 L2 e2
    subst e2
    refine ⟨q0, q2, env, s2, rfl, (E.ext x1).ext x2, L2, ?_⟩
    simp only [Res.bind_ok] at p1
    cases e2 : h env s2 with
    | stk => rw [e2] at p1; exact p1.elim
    | exc z t => rw [e2] at p1; exact fun c d q' w r => p1 c d q' ((x1.trans x2).trans w) r
    | ok hi' s3 =>
      rw [e2] at p1
      intro hi'' q3 x3 L3 e3
      subst e3
      simp only [Res.bind_ok] at p1
      rcases ((y1.ext x2).ext x3).view L3 with ⟨ds, a, vs, ev, rfl, g, r⟩ | ⟨ev, r, nl⟩
      · rw [ev] at p1
        refine ⟨a, vs, rfl, SqL.of g, fun p' hp => ?_⟩
        exact p1 _ _ (((x1.trans x2).trans x3).trans (Ext.newL L3.wf hp)) (L3.newL hp) (RN.newL L.wf ((x1.trans x2).trans x3) L3 hp (cut_rel lo' hi' r))
      · cases x with
        | lst ds => exact absurd rfl (nl ds)
        | _ => rw [ev] at p1; exact p1.elim
theorem cut_whole {ds : List D} {lo hi : Option Int} (h : HT.sIx ds.length 0 lo = 0 ∧ HT.sIx ds.length ds.length hi = ds.length) : cutD ds lo hi = ds := by
  have e : ∀ (n d : Nat) (o : Option Int), partIx n d o = HT.sIx n d o := fun n d o => by cases o <;> rfl
  unfold cutD
  rw [e, e, h.1, h.2]
  simp
theorem ge_slT {p2 : Pos} {lo hi : Option Expr} {l h : MO} (ha : GE X C W a ma) (hl : GO X C W lo l) (hh : GO X C W hi h) : GE X C W (.Subscript a (.Slice lo hi none p2) pos) (eSlT ma l h) := PE.imp (pe_slice sl_tupA ha hl hh) fun σ H Q ⟨q0, q, env, s, eq, E, L, p⟩ => by
  subst eq
  refine tM.first (f := fun x s1 => (l env s1).bind fun l s2 => (h env s2).bind fun h s3 => match x with | .tup ds => .ok (.tup (cutD ds l h)) s3 | _ => .stk) E L p rD_any fun x s1 vx q1 x1 E1 L1 y1 p1 => ?_
  refine tM.first (f := fun l s2 => (h env s2).bind fun h s3 => match x with | .tup ds => .ok (.tup (cutD ds l h)) s3 | _ => .stk) E1 L1 p1 rD_any fun lo' s2 lo'' q2 x2 E2 L2 y2 p2 => ?_
  refine tM.first (f := fun h s3 => match x with | .tup ds => .ok (.tup (cutD ds lo' h)) s3 | _ => .stk) E2 L2 p2 rD_any fun hi' s3 hi'' q3 x3 E3 L3 y3 p3 => ?_
  subst y2 y3
  cases RD.mono (x2.trans x3).kp x y1 with
  | @tup a vs ds g r =>
    refine ⟨a, vs, rfl, g.sq, fun hw => ?_, fun _ pp hp => ?_⟩
    · have hw' := hw
      rw [r.length] at hw'
      have pz := p3 (.ref a) q3 (Ext.refl q3) L3
      simp only [cut_whole hw'] at pz
      exact pz (.tup g r)
    · have x4 := Ext.new1 (o := .tup (cutV vs lo' hi')) L3.wf hp
      exact p3 _ _ x4 (L3.new1 hp) (.tup (.inl ⟨upd_same, L3.wf.no hp⟩) (RDs.mono x4.kp _ (cut_rel lo' hi' r)))
  | _ => exact p3.elim
/-- list(e) -/
theorem gl_of {x : Str} (hm : X.mg x = none) (ha : GB X C W e ma) (hg : Gl X x := by rfl) (hv : bootBuiltins x = some (.type "list") := by decide +kernel) (hn : x ≠ "__name__" := by decide) (hd : (x == ("__debug__" : Str)) = false := by decide)
    (h1 : starEach [e] X.env = (false, eval e X.env) :: starEach [] X.env := by rfl) : GL X C W (.Call (.Name x p) [e] [] pos) (lOf ma) := PE.imp (pe_callTy call_list_of hg hm hv (pa1 ha h1) hn hd (he := h1)) fun σ H Q ⟨q0, q, env, s, eq, E, L, p⟩ => by
  subst eq
  refine tM.first0 (f := fun x s1 => .ofO (seqOf s1 x) s1) E L p fun x s1 vx q1 x1 L1 y1 p1 => ?_
  cases f : seqOf s1 x with
  | none => rw [f] at p1; exact p1.elim
  | some ds =>
    rw [f] at p1
    obtain ⟨a, vs, rfl, h2, r⟩ := y1.seq L1 f
    refine ⟨a, vs, rfl, sqOr h2, fun l hl => ?_⟩
    exact p1 _ _ (x1.trans (Ext.newL L1.wf hl)) (L1.newL hl) (RN.newL L.wf x1 L1 hl r)
end
end MP

/-! Targets, walked things, comprehensions, statements, bodies. Own text. -/
namespace MP
open PySem L2

/-! ### names are stored -/
theorem RE.set {K : PySem.W.Frag} {C : Tab} {q0 q : Stt} {env : MP.Env} {σ : St} (E : RE K C q0 q env σ) (i : Nat) {d : D} {v : V} (r : RD K q d v) : RE K C q0 q (env.set i (.val d)) (σ.set i (some v)) where
  len := by simp [E.len]
  val := fun j d' h => by
    by_cases e : i = j
    · subst e
      have hi : i < env.length := by
        have := (List.getElem?_eq_some_iff.mp h).1
        simpa using this
      rw [List.getElem?_set_self hi] at h
      cases h
      exact ⟨v, List.getElem?_set_self (by rw [← E.len]; exact hi), r⟩
    · rw [List.getElem?_set_ne e] at h ⊢
      exact E.val j d' h
  own := fun j ds h => by
    by_cases e : i = j
    · subst e
      have hi : i < env.length := by
        have := (List.getElem?_eq_some_iff.mp h).1
        simpa using this
      rw [List.getElem?_set_self hi] at h
      cases h
    · rw [List.getElem?_set_ne e] at h ⊢
      exact E.own j ds h
  inj := fun j k ds es a h1 h2 h3 h4 => by
    have ne : ∀ {l : Nat} {xs : List D}, (env.set i (.val d))[l]? = some (.own xs) → i ≠ l := fun {l xs} h e => by
      subst e
      have hi : i < env.length := by
        have := (List.getElem?_eq_some_iff.mp h).1
        simpa using this
      rw [List.getElem?_set_self hi] at h
      cases h
    have n1 := ne h1
    have n2 := ne h2
    rw [List.getElem?_set_ne n1] at h1 h3
    rw [List.getElem?_set_ne n2] at h2 h4
    exact E.inj j k ds es a h1 h2 h3 h4
  w0 := E.w0
  exn := fun j y h => by
    by_cases e : i = j
    · subst e
      have hi : i < env.length := by
        have := (List.getElem?_eq_some_iff.mp h).1
        simpa using this
      rw [List.getElem?_set_self hi] at h
      cases h
    · rw [List.getElem?_set_ne e] at h ⊢
      exact E.exn j y h
/-- a target's reading by its function; vs: the slots that it may change -/
def tG (K : PySem.W.Frag) (C : Tab) (g : MG) (vs : List Nat) : TG := fun v σ H Q => ∃ (q0 q : Stt) (env env' : MP.Env) (s : Sto) (d : D), q.H = H ∧ RE K C q0 q env σ ∧ Rel K C s q ∧ RD K q d v ∧ g d env = some env' ∧
  ∀ (σ' : St) (q' : Stt), Ext q q' → Rel K C s q' → RE K C q0 q' env' σ' → σ'.length = σ.length → (∀ j, j ∉ vs → σ'[j]? = σ[j]?) → Q σ' q'.H
def GG (X : Cx) (C : Tab) (e : Expr) (g : MG) (vs : List Nat) : Prop := PG X e (tG X.K C g vs)
def tGs (K : PySem.W.Frag) (C : Tab) (gs : List MG) (vs : List Nat) : TGs := fun us σ H Q => ∃ (q0 q : Stt) (env env' : MP.Env) (s : Sto) (ds : List D), q.H = H ∧ RE K C q0 q env σ ∧ Rel K C s q ∧ RDs K q ds us ∧ gAll gs ds env = some env' ∧
  ∀ (σ' : St) (q' : Stt), Ext q q' → Rel K C s q' → RE K C q0 q' env' σ' → σ'.length = σ.length → (∀ j, j ∉ vs → σ'[j]? = σ[j]?) → Q σ' q'.H
def GGs (X : Cx) (C : Tab) (es : List Expr) (gs : List MG) (vs : List Nat) : Prop := PGs X es (tGs X.K C gs vs)
theorem PGs.imp {X : Cx} {es : List Expr} {t t' : TGs} (h : PGs X es t) (hi : ∀ vs σ H Q, t' vs σ H Q → t vs σ H Q) : PGs X es t' := ⟨fun pins s σ H vs us Q I r z => h.run pins s σ H vs us Q I r (hi vs σ H Q z)⟩
section
variable {X : Cx} {C : Tab} {pos : Pos}
theorem gg_name (i : Nat) {x : Str} (hN : X.N.Nodup) (hi : X.N[i]? = some x := by rfl) (hx : Loc X.env.scope x := by first | exact Or.inl rfl | exact Or.inr rfl) (hf : X.fn x = true ∨ X.env.scope.names.lookup x = some .local := by first | exact .inl rfl | exact .inr rfl) : GG X C (.Name x pos) (gNm i) [i] :=
  PG.imp (pg_name (i := i) hN hi hx hf) fun v σ H Q ⟨q0, q, env, env', s, d, e, E, L, r, g, k⟩ => by
    subst e
    cases g
    exact k _ q (Ext.refl q) L (E.set i r) (by simp) fun j hj => by
      rw [List.getElem?_set_ne]
      intro z
      exact hj (by simp [z])
theorem ggs_nil : GGs X C [] [] [] := PGs.imp pgs_nil fun us σ H Q ⟨q0, q, env, env', s, ds, e, E, L, r, g, k⟩ => by
  subst e
  cases r with
  | nil =>
    cases g
    exact ⟨rfl, k σ q (Ext.refl q) L E rfl fun _ _ => rfl⟩
  | cons _ _ => cases g
theorem ggs_cons {e : Expr} {es : List Expr} {g : MG} {gs : List MG} {vs ws : List Nat} (h1 : GG X C e g vs) (h2 : GGs X C es gs ws) (hs : (assignEach (e :: es) X.env).map (·.2) = assign e X.env :: (assignEach es X.env).map (·.2) := by rfl) : GGs X C (e :: es) (g :: gs) (vs ++ ws) :=
  PGs.imp (pgs_cons h1 h2 hs) fun us σ H Q ⟨q0, q, env, env', s, ds, eq, E, L, r, gg, k⟩ => by
    subst eq
    cases r with
    | nil => cases gg
    | @cons d v ds us r1 r2 =>
      simp only [gAll] at gg
      cases g1 : g d env with
      | none => rw [g1] at gg; cases gg
      | some env1 =>
        rw [g1] at gg
        refine ⟨v, us, rfl, q0, q, env, env1, s, d, rfl, E, L, r1, g1, fun σ1 q1 x1 L1 E1 n1 w1 => ?_⟩
        refine ⟨q0, q1, env1, env', s, ds, rfl, E1, L1, RDs.mono x1.kp _ r2, gg, fun σ2 q2 x2 L2 E2 n2 w2 => ?_⟩
        refine k σ2 q2 (x1.trans x2) L2 E2 (n2.trans n1) fun j hj => ?_
        rw [List.mem_append] at hj
        rw [w2 j fun z => hj (.inr z), w1 j fun z => hj (.inl z)]
theorem gg_tup {es : List Expr} {kk : Nat} {gs : List MG} {vs : List Nat} (hc : X.calm = true) (h : GGs X C es gs vs) (hl : (assignEach es X.env).length = gs.length := by rfl) (hst : (assignEach es X.env).findIdx? (·.1) = none := by rfl) : GG X C (.Tuple es kk pos) (gTp gs) vs :=
  PG.imp (pg_tup hc h hl hst) fun v σ H Q ⟨q0, q, env, env', s, d, e, E, L, r, g, k⟩ => by
    subst e
    cases r with
    | @tup a us ds f r =>
      have e : gAll gs ds env = some env' := g
      have len : ∀ (gs : List MG) (ds : List D) (env : MP.Env), gAll gs ds env = some env' → ds.length = gs.length := by
        intro gs
        induction gs with
        | nil => intro ds env e; cases ds <;> first | rfl | cases e
        | cons g gs ih =>
          intro ds env e
          cases ds with
          | nil => cases e
          | cons d ds =>
            simp only [gAll] at e
            cases g1 : g d env with
            | none => rw [g1] at e; cases e
            | some env1 => rw [g1] at e; simp [ih ds env1 e]
      exact ⟨a, us, rfl, f.sq, by rw [r.length]; exact len gs ds env e, q0, q, env, env', s, ds, rfl, E, L, r, e, k⟩
    | _ => cases g
end

/-! ### walked things -/
def ItOk (K : PySem.W.Frag) (C : Tab) (J : It) (x : Src) (q : Stt) : Prop := ∀ (q2 : Stt) (s2 : Sto) (i : Nat), Kp q q2 → Rel K C s2 q2 →
  (∀ d d', x.ds[i]? = some d → cur x s2 i d = some d' → J.go i q2.H ∧ ∀ v H3, J.yld i q2.H v H3 → ∃ q3, q3.H = H3 ∧ Ext q2 q3 ∧ Rel K C s2 q3 ∧ RD K q3 d' v) ∧ (i = x.ds.length → MP.fin x s2 = true → J.stop i q2.H)
theorem ItOk.mono {K : PySem.W.Frag} {C : Tab} {J : It} {x : Src} {q q' : Stt} (k : Kp q q') (h : ItOk K C J x q) : ItOk K C J x q' := fun q2 s2 i k2 R => h q2 s2 i (k.trans k2) R
abbrev rI' (K : PySem.W.Frag) (C : Tab) : Stt → Stt → Src → It → Prop := fun _ q' x J => ItOk K C J x q'
def GI (X : Cx) (C : Tab) (W : Wx) (tg e : Expr) (m : MI) : Prop := PI X tg e (tM X.K C W (rI' X.K C) m)
section
variable {X : Cx} {C : Tab} {W : Wx} {tg l a b : Expr} {p pos : Pos} {ml ma mb : ME}
/-- a list or a tuple, walked -/
def tAny (K : PySem.W.Frag) (tl : TE) : TI := fun σ H R => tl σ H fun x H1 => ∃ a, x = .ref a ∧ (((∃ xs, SqL K H1 a xs) ∧ R (Itl K a) H1) ∨ ((∃ xs, SqT K H1 a xs) ∧ R (Itt K a) H1))
theorem pi_any {tl : TE} (hl : PE X l tl) : PI X tg l (tAny X.K tl) := by
  constructor
  intro pins s σ H R I h
  refine thn (hl.run pins s σ H _ I h) ?_
  rintro v s1 ⟨x, H1, I1, r1, a, rfl, q⟩
  cases r1
  have kept : ∀ o, Inv X pins σ H1 { s1 with heap := s1.heap.push o } := fun o => I1.kept (t' := s1.toks) fun b u e => Heap.get?_push_of_some _ e
  have fp : ∀ b ∈ [s1.heap.objs.size], FpOk X pins H1 b := fun b hb => by
    obtain rfl : b = s1.heap.objs.size := by simpa using hb
    exact I1.fpOk Nat.le.refl (I1.hok.fresh Nat.le.refl)
  rcases q with ⟨⟨xs, hq⟩, q⟩ | ⟨⟨xs, hq⟩, q⟩
  · obtain ⟨its, _, pl, _⟩ := I1.list hq
    exact wpAny_pyIter_list pl.isList ⟨_, [_], _, _, H1, rfl, kept _, turn_list a _, ⟨_, Heap.get?_push_size _ rfl, rfl, rfl⟩, fp, q⟩
  · obtain ⟨its, _, pl, _⟩ := I1.tuple hq
    exact wpAny_pyIter_tuple (show s1.heap.IsTuple a its.toArray from pl) ⟨_, [_], _, _, H1, rfl, kept _, turn_tuple a _, ⟨_, Heap.get?_push_size _ rfl, rfl, rfl⟩, fp, q⟩
theorem seqL_inj {K : PySem.W.Frag} {H : Hp} {a : Addr} {xs ys : List V} (h : H a = some (.lst xs)) (g : Rd H a (.lst ys)) : ys = xs := by
  rcases g with g | ⟨o, g⟩
  · rw [h] at g; cases g; rfl
  · rw [h] at g; cases g
theorem gi_seq (hl : GE X C W l ml) : GI X C W tg l (iSeq ml) := PI.imp (pi_any hl) fun σ H R ⟨q0, q, env, s, eq, E, L, p⟩ => by
  subst eq
  refine tM.first (f := fun x s1 => .ofO (srcOf s1 x) s1) E L p (fun q1 x1 q2 a b w => w) fun x s1 vx q1 x1 E1 L1 y1 p1 => ?_
  cases f : srcOf s1 x with
  | none => rw [f] at p1; exact p1.elim
  | some src =>
    rw [f] at p1
    have go := fun J (ok : ItOk X.K C J src q1) => p1 J q1 (Ext.refl q1) L1 ok
    cases y1 with
    | @tup a vs ds g r =>
      cases f
      refine ⟨a, rfl, .inr ⟨⟨vs, g.sq⟩, go _ fun q2 s2 i k R2 => ⟨fun d d' h1 h2 => ?_, fun hi _ => ?_⟩⟩⟩
      · cases h2
        have g2 := (g.mono k).sq
        obtain ⟨v, h3, h4⟩ := RDs.get (RDs.mono k _ r) h1
        exact ⟨⟨vs, v, g2, h3⟩, fun u H3 ⟨e1, e2⟩ => ⟨q2, e1.symm, Ext.refl q2, R2, by
          have := e2 vs g2
          rw [h3] at this
          cases this
          exact h4⟩⟩
      · exact ⟨vs, (g.mono k).sq, by rw [r.length]; exact Nat.le_of_eq hi.symm⟩
    | @lst a vs ds g r =>
      cases f
      refine ⟨a, rfl, .inl ⟨⟨vs, SqL.of g.1⟩, go _ fun q2 s2 i k R2 => ⟨fun d d' h1 h2 => ?_, fun hi _ => ?_⟩⟩⟩
      · cases h2
        have g2 : SqL X.K q2.H a vs := SqL.of (g.mono k).1
        obtain ⟨v, h3, h4⟩ := RDs.get (RDs.mono k _ r) h1
        exact ⟨⟨vs, v, g2, h3⟩, fun u H3 ⟨e1, e2⟩ => ⟨q2, e1.symm, Ext.refl q2, R2, by
          have := e2 vs g2
          rw [h3] at this
          cases this
          exact h4⟩⟩
      · exact ⟨vs, SqL.of (g.mono k).1, by rw [r.length]; exact Nat.le_of_eq hi.symm⟩
    | @scr ns a g =>
      cases f
      have r : RDs X.K q1 (ns.map D.int) (ns.map V.int) := RDs.ints ns
      refine ⟨a, rfl, .inl ⟨⟨_, g.sq⟩, go _ fun q2 s2 i k R2 => ⟨fun d d' h1 h2 => ?_, fun hi _ => ?_⟩⟩⟩
      · cases h2
        have g2 : SqL X.K q2.H a (ns.map V.int) := (g.mono k).sq
        obtain ⟨v, h3, h4⟩ := RDs.get (RDs.mono k _ r) h1
        exact ⟨⟨_, v, g2, h3⟩, fun u H3 ⟨e1, e2⟩ => ⟨q2, e1.symm, Ext.refl q2, R2, by
          have := e2 _ g2
          rw [h3] at this
          cases this
          exact h4⟩⟩
      · exact ⟨_, (g.mono k).sq, by rw [r.length]; exact Nat.le_of_eq hi.symm⟩
    | @ref n a g =>
      simp only [srcOf] at f
      split at f
      · rename_i ds e
        cases f
        obtain ⟨vs, h1, r⟩ := L1.obs n _ a e g
        refine ⟨a, rfl, .inl ⟨⟨vs, SqL.of h1⟩, go _ fun q2 s2 i k R2 => ⟨fun d d' h1 h2 => ?_, fun hi hf => ?_⟩⟩⟩
        · simp only [cur] at h2
          split at h2
          · rename_i es ee
            split at h2
            · obtain ⟨us, h3, r3⟩ := R2.obs n _ a ee (pre_get k.pre g)
              obtain ⟨v, h4, h5⟩ := RDs.get r3 h2
              exact ⟨⟨us, v, SqL.of h3, h4⟩, fun u H3 ⟨e1, e2⟩ => ⟨q2, e1.symm, Ext.refl q2, R2, by
                have := e2 us (SqL.of h3)
                rw [h4] at this
                cases this
                exact h5⟩⟩
            · cases h2
          · cases h2
        · simp only [MP.fin] at hf
          split at hf
          · rename_i es ee
            obtain ⟨us, h3, r3⟩ := R2.obs n _ a ee (pre_get k.pre g)
            have hf' : es.length = ds.length := by simpa using hf
            exact ⟨us, SqL.of h3, by rw [r3.length, hf']; exact Nat.le_of_eq hi.symm⟩
          · cases hf
      · cases f
    | _ => cases f
/-- an iterator's turns that change nothing -/
theorem itOk_still {K : PySem.W.Frag} {J : It} {ds : List D} {q : Stt} (h : ∀ (q2 : Stt) (i : Nat), Kp q q2 → (∀ d, ds[i]? = some d → J.go i q2.H ∧ ∀ v H3, J.yld i q2.H v H3 → H3 = q2.H ∧ RD K q2 d v) ∧ (i = ds.length → J.stop i q2.H)) : ItOk K C J ⟨ds, none⟩ q :=
  fun q2 s2 i k R => ⟨fun d d' h1 h2 => by
    cases h2
    obtain ⟨g, y⟩ := (h q2 i k).1 d h1
    exact ⟨g, fun v H3 e => ⟨q2, (y v H3 e).1.symm, Ext.refl q2, R, (y v H3 e).2⟩⟩, fun hi _ => (h q2 i k).2 hi⟩
theorem intsD_get {lo : Int} {n i : Nat} {d : D} (h : (intsD lo n)[i]? = some d) : i < n ∧ d = .int (lo + (i : Int)) := by
  unfold intsD at h
  rw [List.getElem?_map] at h
  cases e : (List.range n)[i]? with
  | none => rw [e] at h; exact nomatch h
  | some j =>
    rw [e] at h
    cases h
    obtain ⟨h1, h2⟩ := List.getElem?_eq_some_iff.mp e
    simp at h1 h2
    subst h2
    exact ⟨h1, rfl⟩
theorem intsD_len (lo : Int) (n : Nat) : (intsD lo n).length = n := by simp [intsD]
theorem gi_range (hm : X.mg "range" = none) (ha : GE X C W a ma) (hg : Gl X "range" := by rfl) (h1 : starEach [a] X.env = (false, eval a X.env) :: starEach [] X.env := by rfl) (hs : starEach [a] X.env = [(false, eval a X.env)] := by rfl) :
    GI X C W tg (.Call (.Name "range" p) [a] [] pos) (iRng ma) := PI.imp (pi_range1 hg hm (pa_cons ha pa_nil h1) hs) fun σ H R ⟨q0, q, env, s, eq, E, L, p⟩ => by
  subst eq
  refine tM.first (f := fun x s1 => (match x with | .int j => if -(cap : Int) ≤ j ∧ j ≤ cap then Res.ok (⟨intsD 0 j.toNat, none⟩ : Src) s1 else .stk | _ => .stk : Res Src)) E L p (fun q1 x1 q2 a b w => w) fun x s1 vx q1 x1 E1 L1 y1 p1 => ?_
  cases y1 with
  | int j =>
    simp only at p1
    by_cases hj : -(cap : Int) ≤ j ∧ j ≤ cap
    · rw [if_pos hj] at p1
      have hc : (cap : Int) < 2 ^ 62 := by unfold cap; omega
      refine ⟨j, rfl, by omega, by omega, p1 _ q1 (Ext.refl q1) L1 (itOk_still fun q2 i k => ⟨fun d h => ?_, fun h => ?_⟩)⟩
      · obtain ⟨h2, rfl⟩ := intsD_get h
        exact ⟨h2, fun v H3 ⟨e1, e2⟩ => ⟨e1, by rw [e2]; exact .int _⟩⟩
      · rw [intsD_len] at h
        exact Nat.le_of_eq h.symm
    · rw [if_neg hj] at p1; exact p1.elim
  | _ => exact p1.elim
end

/-! ### comprehensions -/
def GTs (X : Cx) (C : Tab) (W : Wx) (es : List Expr) (m : MT) : Prop := PTs X es (tM X.K C W rT m)
theorem PTs.imp {X : Cx} {es : List Expr} {t t' : TT} (h : PTs X es t) (hi : ∀ σ H Q, t' σ H Q → t σ H Q) : PTs X es t' := ⟨fun pins s σ H Q I z => h.run pins s σ H Q I (hi σ H Q z)⟩
theorem gts_nil {X : Cx} {C : Tab} {W : Wx} : GTs X C W [] tYesM := PTs.imp pts_nil fun σ H Q ⟨q0, q, env, s, eq, E, L, p⟩ => by
  subst eq
  exact p true q (Ext.refl q) L rfl
theorem gts_one {X : Cx} {C : Tab} {W : Wx} {c : Expr} {mt : MT} (h : GT X C W c mt) : GTs X C W [c] mt := pts_one h
theorem wipe_get {σ : St} {j : Nat} : ∀ {vs : List Nat}, j ∈ vs → (wipe σ vs)[j]? = none ∨ (wipe σ vs)[j]? = some none
  | v :: vs, h => by
    unfold wipe
    by_cases e : v = j
    · subst e
      by_cases hv : v < List.length (wipe σ vs)
      · exact .inr (List.getElem?_set_self hv)
      · exact .inl (by rw [List.getElem?_eq_none]; simpa using hv)
    · rw [List.getElem?_set_ne e]
      rcases (List.mem_cons.mp h) with z | z
      · exact absurd z.symm e
      · exact wipe_get z
theorem wipe_out {σ : St} {j : Nat} : ∀ {vs : List Nat}, j ∉ vs → (wipe σ vs)[j]? = σ[j]?
  | [], _ => rfl
  | v :: vs, h => by
    unfold wipe
    rw [List.getElem?_set_ne (fun e => h (by simp [e]))]
    exact wipe_out fun z => h (List.mem_cons_of_mem _ z)
/-- what differs from the wiped at wiped places alone is wiped to the same -/
theorem wipe_eq {σ σ' : St} {vs : List Nat} (hl : σ'.length = σ.length) (h : ∀ j, j ∉ vs → σ'[j]? = (wipe σ vs)[j]?) : wipe σ' vs = wipe σ vs := by
  apply List.ext_getElem?
  intro j
  by_cases hj : j ∈ vs
  · have a := wipe_get (σ := σ') hj
    have b := wipe_get (σ := σ) hj
    have la : (wipe σ' vs).length = (wipe σ vs).length := by rw [wipe_length, wipe_length, hl]
    rcases a with a | a <;> rcases b with b | b
    · rw [a, b]
    · exfalso
      have h1 := (List.getElem?_eq_some_iff.mp b).1
      have h2 := List.getElem?_eq_none_iff.mp a
      omega
    · exfalso
      have h1 := (List.getElem?_eq_some_iff.mp a).1
      have h2 := List.getElem?_eq_none_iff.mp b
      omega
    · rw [a, b]
  · rw [wipe_out hj, h j hj]
theorem RE.wipe {K : PySem.W.Frag} {C : Tab} {q0 q : Stt} {env : MP.Env} {σ : St} (E : RE K C q0 q env σ) : ∀ vs : List Nat, RE K C q0 q (wipeE env vs) (L2.wipe σ vs)
  | [] => E
  | v :: vs => by
    have E := E.wipe vs
    show RE K C q0 q ((wipeE env vs).set v .emp) ((L2.wipe σ vs).set v none)
    have ne : ∀ {l : Nat} {o : Slot}, ((wipeE env vs).set v .emp)[l]? = some o → o ≠ .emp → v ≠ l := fun {l o} h n e => by
      subst e
      have hi : v < (wipeE env vs).length := by
        have := (List.getElem?_eq_some_iff.mp h).1
        simpa using this
      rw [List.getElem?_set_self hi] at h
      cases h
      exact n rfl
    refine ⟨by simp [E.len], fun i d h => ?_, fun i ds h => ?_, fun i j ds es a h1 h2 h3 h4 => ?_, E.w0, fun i y h => ?_⟩
    · have n := ne h (by intro z; cases z)
      rw [List.getElem?_set_ne n] at h ⊢
      exact E.val i d h
    · have n := ne h (by intro z; cases z)
      rw [List.getElem?_set_ne n] at h ⊢
      exact E.own i ds h
    · have n1 := ne h1 (by intro z; cases z)
      have n2 := ne h2 (by intro z; cases z)
      rw [List.getElem?_set_ne n1] at h1 h3
      rw [List.getElem?_set_ne n2] at h2 h4
      exact E.inj i j ds es a h1 h2 h3 h4
    · have n := ne h (by intro z; cases z)
      rw [List.getElem?_set_ne n] at h ⊢
      exact E.exn i y h
/-- nothing may be raised -/
abbrev W0 : Wx := fun _ _ _ _ => False
theorem Post.calm {α β γ δ : Type} {K : PySem.W.Frag} {C : Tab} {W : Wx} {R : Stt → Stt → α → β → Prop} {R' : Stt → Stt → γ → δ → Prop} {q q4 : Stt} {σ τ : St} {Q : δ → Hp → Prop} {P : β → Hp → Prop} {m : Res α} {f : α → Sto → Res γ} (h : Post K C W R' q σ Q ((MP.calm m).bind f))
    (k : ∀ a s, m = .ok a s → ∀ b q', Ext q4 q' → Rel K C s q' → R q4 q' a b → Post K C W R' q σ Q (f a s) → P b q'.H) : Post K C W0 R q4 τ P m := by
  cases m with
  | ok a s => exact fun b q' x r y => k a s rfl b q' x r y h
  | exc x s => exact h.elim
  | stk => exact h.elim
theorem Res.bind_assoc {α β γ : Type} (m : Res α) (f : α → Sto → Res β) (g : β → Sto → Res γ) : (m.bind f).bind g = m.bind fun a s => (f a s).bind g := by cases m <;> rfl
/-- an object of one's own is written -/
theorem Ext.own {q q' : Stt} {p : Addr} {o : HO} (x : Ext q q') (h : Fr q p) : Ext q ⟨upd q'.H p o, q'.L, q'.r⟩ :=
  ⟨fun a u e n t => by show upd q'.H p o a = _; rw [upd_ne (h.ne e t)]; exact x.keep a u e n t, x.mono, fun a u e n t => ⟨by show upd q'.H p o a = _; rw [upd_ne (h.ne e t)]; exact (x.u a u e n t).1, (x.u a u e n t).2⟩, x.pre, x.new,
    fun a u e t => by obtain ⟨o', h', t'⟩ := x.th a u e t; exact ⟨o', by show upd q'.H p o a = _; rw [upd_ne (h.ne e t)]; exact h', t'⟩⟩
theorem Kp.own {q q' : Stt} {p : Addr} {o : HO} (x : Kp q q') (h : Fr q p) : Kp q ⟨upd q'.H p o, q'.L, q'.r⟩ :=
  ⟨fun a u e n t => ⟨by show upd q'.H p o a = _; rw [upd_ne (h.ne e t)]; exact (x.u a u e n t).1, (x.u a u e n t).2⟩, x.pre⟩
theorem Kp.wr {q : Stt} {p : Addr} {o : HO} (h : q.L p) : Kp q ⟨upd q.H p o, q.L, q.r⟩ :=
  ⟨fun a u e n _ => ⟨by
    have ne : a ≠ p := fun z => by subst z; exact n h
    show upd q.H p o a = _
    rw [upd_ne ne]; exact e, n⟩, ⟨[], by simp⟩⟩
theorem Rel.wr {K : PySem.W.Frag} {C : Tab} {q : Stt} {s : Sto} {p : Addr} {o w : HO} (R : Rel K C s q) (h : q.L p) (n : p ∉ q.r) (hw : q.H p = some w) (n1 : NT w) (n2 : ∀ f, w ≠ .ext f) (nt : NT o := by exact fun _ z => nomatch z) : Rel K C s ⟨upd q.H p o, q.L, q.r⟩ :=
  ⟨⟨R.wf.nd, R.wf.live, fun a l => by
    by_cases e : a = p
    · exact ⟨o, by show upd q.H p o a = _; rw [e]; exact upd_same, nt⟩
    · obtain ⟨u, hu, t⟩ := R.wf.trk a l
      exact ⟨u, by show upd q.H p o a = _; rw [upd_ne e]; exact hu, t⟩⟩, R.len, fun k ob a e f => (R.obs k ob a e f).mono (Kp.wr h) (by
        have ne : a ≠ p := fun z => by subst z; exact n (List.mem_of_getElem? f)
        show upd q.H p o a = _
        rw [upd_ne ne]), tabs_upd R.tb hw n1 n2 nt⟩
section
variable {K : PySem.W.Frag} {C : Tab} {W : Wx}
theorem lc_imp {mi : MI} {g : MG} {mt : MT} {me : ME} {gvs vs : List Nat} (hsub : ∀ j ∈ gvs, j ∈ vs) (σ : St) (H : Hp) (Q : VK) (h : tM K C W (RN K) (lLc mi g mt me vs) σ H Q) :
    tLc (tM K C W (rI' K C) mi) (tG K C g gvs) (tM K C W0 rT mt) (tM K C W0 (rD K) me) vs σ H Q := by
  obtain ⟨q0, q, env, s, eq, E, L, p⟩ := h
  subst eq
  refine tM.first0 (f := fun x s1 => if x.ds.length ≤ cap then lcL x g mt me (wipeE env vs) 0 x.ds s1 else .stk) E L p fun x s1 J q1 x1 L1 ok p1 => ?_
  by_cases hsz : x.ds.length ≤ cap
  · rw [if_pos hsz] at p1
    intro Dl hD
    have hq : Fr q Dl := x1.free L.wf hD fun z => by
      obtain ⟨t, e⟩ := x1.pre
      exact L1.wf.nor hD (by rw [e]; exact List.mem_append_left _ z)
    refine ⟨fun i m H => ∃ (q' : Stt) (s' : Sto) (acc : List D) (av : List V), H = q'.H ∧ i ≤ x.ds.length ∧ m = x.ds.length - i ∧ acc.length ≤ i ∧ Ext q q' ∧ Kp q1 q' ∧ Rel K C s' q' ∧ q'.H Dl = some (.lst av) ∧ q'.L Dl ∧ Dl ∉ q'.r ∧ RDs K q' acc av ∧
      Post K C W (RN K) q σ Q ((lcL x g mt me (wipeE env vs) i (x.ds.drop i) s').bind fun ys s3 => .ok (acc ++ ys) s3),
      ⟨x.ds.length, ⟨upd q1.H Dl (.lst []), fun a => q1.L a ∨ a = Dl, q1.r⟩, s1, [], [], rfl, Nat.zero_le _, rfl, Nat.zero_le _, x1.trans (Ext.newL L1.wf hD), (Ext.newL L1.wf hD).kp, L1.newL hD, upd_same, .inr rfl, L1.wf.nor hD, .nil, by
        rw [List.drop_zero]
        cases e : lcL x g mt me (wipeE env vs) 0 x.ds s1 with
        | ok a s => rw [e] at p1; exact p1
        | exc a s => rw [e] at p1; exact p1
        | stk => rw [e] at p1; exact p1⟩, ?_⟩
    rintro i m H ⟨q', s', acc, av, rfl, hi, rfl, hacc, X1, K1, R1, hDl, hL, hr, racc, P⟩
    obtain ⟨okI, okE⟩ := ok q' s' i K1 R1
    rcases Nat.lt_or_ge i x.ds.length with hlt | hge
    · obtain ⟨d, hd⟩ : ∃ d, x.ds[i]? = some d := ⟨_, List.getElem?_eq_getElem hlt⟩
      have hdrop : x.ds.drop i = d :: x.ds.drop (i + 1) := by
        rw [List.drop_eq_getElem_cons hlt]; have := List.getElem?_eq_getElem hlt
        rw [hd] at this
        cases this
        rfl
      rw [hdrop] at P
      simp only [lcL] at P
      cases hcur : cur x s' i d with
      | none => rw [hcur] at P; exact P.elim
      | some d' =>
        rw [hcur] at P
        simp only [Option.bind_some] at P
        cases hg : g d' (wipeE env vs) with
        | none => rw [hg] at P; exact P.elim
        | some env1 =>
          rw [hg] at P
          simp only [Res.ofO_some, Res.bind_ok] at P
          obtain ⟨go, yl⟩ := okI d d' hd hcur
          refine .inr ⟨go, fun H' => ∃ (q' : Stt) (s' : Sto) (acc : List D) (av : List V), H' = q'.H ∧ i + 1 ≤ x.ds.length ∧ acc.length ≤ i + 1 ∧ Ext q q' ∧ Kp q1 q' ∧ Rel K C s' q' ∧ q'.H Dl = some (.lst av) ∧ q'.L Dl ∧ Dl ∉ q'.r ∧ RDs K q' acc av ∧
            Post K C W (RN K) q σ Q ((lcL x g mt me (wipeE env vs) (i + 1) (x.ds.drop (i + 1)) s').bind fun ys s3 => .ok (acc ++ ys) s3),
            fun H' ⟨q', s', acc, av, h1, h2, h3, h4, h5, h6, h7, h8, h9, h10, h11⟩ => ⟨x.ds.length - (i + 1), by omega, q', s', acc, av, h1, h2, rfl, h3, h4, h5, h6, h7, h8, h9, h10, h11⟩, fun v H3 hy => ?_⟩
          obtain ⟨q3, rfl, X3, R3, rd⟩ := yl v H3 hy
          refine ⟨q0, q3, wipeE env vs, env1, s', d', rfl, (E.wipe vs).ext (X1.trans X3), R3, rd, hg, fun σ2 q4 X4 R4 E4 n4 w4 => ⟨wipe_eq (by rw [n4, wipe_length]) fun j hj => w4 j fun z => hj (hsub j z), ?_⟩⟩
          refine ⟨q0, q4, env1, s', rfl, E4, R4, ?_⟩
          rw [Res.bind_assoc] at P
          refine Post.calm P fun b s5 _ b' q5 X5 R5 e5 P5 => ?_
          subst e5
          have X15 := ((X1.trans X3).trans X4).trans X5
          have X35 := (X3.trans X4).trans X5
          cases b with
          | false =>
            refine iteF ⟨q5, s5, acc, av, rfl, hlt, by omega, X15, K1.trans X35.kp, R5, X35.keep Dl _ hDl hr (fun _ z => nomatch z), X35.mono Dl hL, (fun z => (X35.new Dl z).elim hr fun n => by exact n _ hDl fun _ z => nomatch z), RDs.mono X35.kp _ racc, ?_⟩
            simpa using P5
          | true =>
            refine iteT ⟨q0, q5, env1, s5, rfl, E4.ext X5, R5, ?_⟩
            simp only [if_true] at P5
            rw [Res.bind_assoc] at P5
            refine Post.calm P5 fun y s6 _ yv q6 X6 R6 e6 P6 => ?_
            have X36 := X35.trans X6
            have X16 := X15.trans X6
            have hD6 := X36.keep Dl _ hDl hr (fun _ z => nomatch z)
            have hL6 := X36.mono Dl hL
            have hr6 : Dl ∉ q6.r := fun z => (X36.new Dl z).elim hr fun n => by exact n _ hDl fun _ z => nomatch z
            refine ⟨av, hD6, ?_, ?_⟩
            · rw [racc.length]
              exact Nat.lt_of_lt_of_le (show acc.length < cap by omega) (lenS (Nat.le_refl _))
            · have kw : Kp q6 ⟨upd q6.H Dl (.lst (av ++ [yv])), q6.L, q6.r⟩ := Kp.wr hL6
              refine ⟨⟨upd q6.H Dl (.lst (av ++ [yv])), q6.L, q6.r⟩, s6, acc ++ [y], av ++ [yv], rfl, hlt, by simp; omega, X16.own hq, (K1.trans X36.kp).own (Fr.of hD), R6.wr hL6 hr6 hD6 (fun _ z => nomatch z) (fun _ z => nomatch z), upd_same, hL6, hr6, RDs.mono kw _ ((RDs.mono X36.kp _ racc).append (.cons e6 .nil)), ?_⟩
              rw [Res.bind_assoc] at P6
              simp only [Res.bind_ok] at P6
              simpa using P6
    · have hz : i = x.ds.length := by omega
      subst hz
      rw [List.drop_length] at P
      simp only [lcL] at P
      cases hf : MP.fin x s' with
      | false => rw [hf] at P; exact P.elim
      | true =>
        rw [hf] at P
        simp only [if_true, Res.bind_ok, List.append_nil] at P
        exact .inl ⟨okE rfl hf, P (.ref Dl) q' X1 R1 ⟨Dl, av, rfl, hq, hDl, hL, hr, racc⟩⟩
  · rw [if_neg hsz] at p1
    exact p1.elim
end
end MP

/-! Statements and bodies. Own text. -/
namespace MP
open PySem L2

/-! ### a statement follows its function -/
def PostS (K : PySem.W.Frag) (C : Tab) (W : Wx) (q0 q : Stt) (D : Ends) : SRes → Prop
  | .nx e s => ∀ σ' q', Ext q0 q' → Kp q q' → Rel K C s q' → RE K C q0 q' e σ' → D.nx σ' q'.H
  | .rt d s => ∀ v q', Ext q0 q' → Kp q q' → Rel K C s q' → RD K q' d v → D.rt v q'.H
  | .bk e s => ∀ σ' q', Ext q0 q' → Kp q q' → Rel K C s q' → RE K C q0 q' e σ' → D.bk σ' q'.H
  | .ct e s => ∀ σ' q', Ext q0 q' → Kp q q' → Rel K C s q' → RE K C q0 q' e σ' → D.ct σ' q'.H
  | .ex x e s => ∀ cls d σ' q', Ext q0 q' → Kp q q' → Rel K C s q' → RE K C q0 q' e σ' → RX q' C K x cls d → W cls d σ' q'.H
  | .stk => False
def tS (K : PySem.W.Frag) (C : Tab) (W : Wx) (m : MS) : TS := fun D σ H => ∃ (q0 q : Stt) (env : MP.Env) (s : Sto), q.H = H ∧ Ext q0 q ∧ RE K C q0 q env σ ∧ Rel K C s q ∧ PostS K C W q0 q D (m env s)
def GS (X : Cx) (C : Tab) (W : Wx) (st : Stmt) (m : MS) : Prop := PS X st (tS X.K C W m)
def GSs (X : Cx) (C : Tab) (W : Wx) (sts : List Stmt) (m : MS) : Prop := PSs X sts (tS X.K C W m)
section
variable {K : PySem.W.Frag} {C : Tab} {W : Wx} {q0 q q1 : Stt} {De : Ends} {σ : St} {env : MP.Env} {s : Sto}
theorem PostS.later {r : SRes} (k : Kp q q1) (h : PostS K C W q0 q De r) : PostS K C W q0 q1 De r := by
  cases r with
  | nx e s => exact fun a b c d f g => h a b c (k.trans d) f g
  | rt e s => exact fun a b c d f g => h a b c (k.trans d) f g
  | bk e s => exact fun a b c d f g => h a b c (k.trans d) f g
  | ct e s => exact fun a b c d f g => h a b c (k.trans d) f g
  | ex x e s => exact fun a b c d f g i j l => h a b c d f (k.trans g) i j l
  | stk => exact h
/-- an expression's answer, then on -/
theorem tS.first {α β : Type} {R : Stt → Stt → α → β → Prop} {m : MP.Env → Sto → Res α} {f : α → Sto → SRes} {P : β → Hp → Prop} (X0 : Ext q0 q) (E : RE K C q0 q env σ) (L : Rel K C s q) (h : PostS K C W q0 q De ((m env s).go env f))
    (k : ∀ a s1 b q1, Ext q q1 → Ext q0 q1 → RE K C q0 q1 env σ → Rel K C s1 q1 → R q q1 a b → PostS K C W q0 q1 De (f a s1) → P b q1.H) : tM K C W R m σ q.H P := by
  refine ⟨q0, q, env, s, rfl, E, L, ?_⟩
  cases e : m env s with
  | stk => rw [e] at h; exact h
  | exc x s' => rw [e] at h; exact fun cls d q' x1 r1 rx => h cls d σ q' (X0.trans x1) x1.kp r1 (E.ext x1) rx
  | ok a s' => rw [e] at h; exact fun b q' x1 r1 y => k a s' b q' x1 (X0.trans x1) (E.ext x1) r1 y (h.later x1.kp)
/-- a placed object is written -/
theorem wr_placed {n : Nat} {a : Addr} {o o' : Ob} {ho : HO} (L : Rel K C s q) (h1 : s[n]? = some o) (h2 : q.r[n]? = some a) (h3 : RO K C ⟨upd q.H a ho, q.L, q.r⟩ a o') : Ext q ⟨upd q.H a ho, q.L, q.r⟩ ∧ Rel K C (s.set n o') ⟨upd q.H a ho, q.L, q.r⟩ := by
  have ha : a ∈ q.r := List.mem_of_getElem? h2
  have la : q.L a := L.wf.live a ha
  have kp := Kp.wr (o := ho) la
  obtain ⟨w0, k0, k1, k2⟩ := (L.obs n o a h1 h2).kind
  obtain ⟨w3, k3, k4, _⟩ := h3.kind
  obtain rfl : ho = w3 := Option.some.inj (upd_same.symm.trans k3)
  refine ⟨⟨fun b u e n _ => ?_, fun _ z => z, kp.u, kp.pre, fun _ z => .inl z, fun b u e t => ?_⟩, ⟨⟨L.wf.nd, L.wf.live, fun b l => ?_⟩, by simp [L.len], fun k ob b e f => ?_, tabs_upd L.tb k0 k1 k2 k4⟩⟩
  · have ne : b ≠ a := fun z => by subst z; exact n ha
    show upd q.H a ho b = _
    rw [upd_ne ne]; exact e
  · by_cases z : b = a
    · exact ⟨ho, by show upd q.H a ho b = _; rw [z]; exact upd_same, k4⟩
    · exact ⟨u, by show upd q.H a ho b = _; rw [upd_ne z]; exact e, t⟩
  · by_cases e : b = a
    · exact ⟨ho, by show upd q.H a ho b = _; rw [e]; exact upd_same, k4⟩
    · obtain ⟨u, hu, t⟩ := L.wf.trk b l
      exact ⟨u, by show upd q.H a ho b = _; rw [upd_ne e]; exact hu, t⟩
  · have hn : n < s.length := (List.getElem?_eq_some_iff.mp h1).1
    by_cases ek : n = k
    · subst ek
      rw [List.getElem?_set_self hn] at e
      cases e
      have f : q.r[n]? = some b := f
      rw [h2] at f
      cases f
      exact h3
    · rw [List.getElem?_set_ne ek] at e
      refine (L.obs k ob b e f).mono kp ?_
      have ne : b ≠ a := fun z => by
        subst z
        have h4 := (List.getElem?_eq_some_iff.mp h2)
        have h5 := (List.getElem?_eq_some_iff.mp (show q.r[k]? = some b from f))
        exact ek ((List.getElem_inj L.wf.nd).mp (h4.2.trans h5.2.symm))
      show upd q.H a ho b = _
      rw [upd_ne ne]
theorem RE.setOwn (E : RE K C q0 q1 env σ) (X0 : Ext q0 q) (L : Rel K C s q) (i : Nat) {p : Addr} {vs : List V} {ds : List D} (hE : RE K C q0 q env σ) (h1 : Fr q p) (h2 : q1.H p = some (.lst vs)) (h3 : q1.L p) (h4 : p ∉ q1.r) (h5 : RDs K q1 ds vs) :
    RE K C q0 q1 (env.set i (.own ds)) (σ.set i (some (.ref p))) := by
  have self : ∀ {l : Nat} {o : Slot}, (env.set i (.own ds))[l]? = some o → i = l → o = .own ds ∧ i < env.length := fun {l o} h e => by
    subst e
    have hi : i < env.length := by
      have := (List.getElem?_eq_some_iff.mp h).1
      simpa using this
    rw [List.getElem?_set_self hi] at h
    cases h
    exact ⟨rfl, hi⟩
  have h0 : Fr q0 p := X0.free' h1 L
  refine ⟨by simp [E.len], fun j d h => ?_, fun j es h => ?_, fun j k es fs a g1 g2 g3 g4 => ?_, E.w0, fun j y h => ?_⟩
  · by_cases e : i = j
    · cases (self h e).1
    · rw [List.getElem?_set_ne e] at h ⊢
      exact E.val j d h
  · by_cases e : i = j
    · obtain ⟨e1, e2⟩ := self h e
      cases e1
      subst e
      exact ⟨p, vs, List.getElem?_set_self (by rw [← E.len]; exact e2), h2, h3, h4, h5, h0⟩
    · rw [List.getElem?_set_ne e] at h ⊢
      exact E.own j es h
  · have old : ∀ {l : Nat} {xs : List D}, env[l]? = some (.own xs) → σ[l]? ≠ some (some (.ref p)) := fun {l xs} h z => by
      obtain ⟨a, us, z1, z2, _⟩ := hE.own l xs h
      rw [z] at z1
      cases z1
      exact h1 _ z2 fun _ z => nomatch z
    by_cases ej : i = j
    · by_cases ek : i = k
      · rw [← ej, ← ek]
      · obtain ⟨e1, e2⟩ := self g1 ej
        subst ej
        rw [List.getElem?_set_self (by rw [← E.len]; exact e2)] at g3
        cases g3
        rw [List.getElem?_set_ne ek] at g2 g4
        exact absurd g4 (old g2)
    · rw [List.getElem?_set_ne ej] at g1 g3
      by_cases ek : i = k
      · obtain ⟨e1, e2⟩ := self g2 ek
        subst ek
        rw [List.getElem?_set_self (by rw [← E.len]; exact e2)] at g4
        cases g4
        exact absurd g3 (old g1)
      · rw [List.getElem?_set_ne ek] at g2 g4
        exact E.inj j k es fs a g1 g2 g3 g4
  · by_cases e : i = j
    · cases (self h e).1
    · rw [List.getElem?_set_ne e] at h ⊢
      exact E.exn j y h
end

section
variable {X : Cx} {C : Tab} {W : Wx} {pos p' apos cpos : Pos} {e a b c o : Expr} {m mo mk : ME} {ml : MA} {st : Stmt} {rest body sa sb : List Stmt} {ms mu : MS} {mt : MT} {x : Str}
theorem gss_nil : GSs X C W [] sNext := PSs.imp pss_nil fun D σ H ⟨q0, q, env, s, eq, X0, E, L, p⟩ => by
  subst eq
  exact p σ q X0 (Kp.refl q) L E
theorem gss_one (h : GS X C W st ms) : GSs X C W [st] ms := pss_one h
theorem gss_cons (h : GS X C W st ms) (hr : GSs X C W rest mu) : GSs X C W (st :: rest) (sSeq ms mu) := PSs.imp (pss_cons h hr) fun D σ H ⟨q0, q, env, s, eq, X0, E, L, p⟩ => by
  subst eq
  refine ⟨q0, q, env, s, rfl, X0, E, L, ?_⟩
  unfold sSeq at p
  cases z : ms env s with
  | nx e' s' => rw [z] at p; exact fun σ' q' x1 k1 L1 E1 => ⟨q0, q', e', s', rfl, x1, E1, L1, PostS.later k1 p⟩
  | rt d s' => rw [z] at p; exact p
  | bk e' s' => rw [z] at p; exact p
  | ct e' s' => rw [z] at p; exact p
  | ex x e' s' => rw [z] at p; exact p
  | stk => rw [z] at p; exact p
theorem gs_pass : GS X C W (.Pass pos) sNext := PS.imp ps_pass fun D σ H ⟨q0, q, env, s, eq, X0, E, L, p⟩ => by
  subst eq
  exact p σ q X0 (Kp.refl q) L E
theorem gs_break : GS X C W (.Break pos) sBrk := PS.imp ps_break fun D σ H ⟨q0, q, env, s, eq, X0, E, L, p⟩ => by
  subst eq
  exact p σ q X0 (Kp.refl q) L E
theorem gs_continue : GS X C W (.Continue pos) sCnt := PS.imp ps_continue fun D σ H ⟨q0, q, env, s, eq, X0, E, L, p⟩ => by
  subst eq
  exact p σ q X0 (Kp.refl q) L E
theorem gs_expr (h : GE X C W e m) (hs : swapsWith e none pos.line X.env = pure false := by rfl) : GS X C W (.Expr e pos) (sDrop m) := PS.imp (ps_expr h hs) fun D σ H ⟨q0, q, env, s, eq, X0, E, L, p⟩ => by
  subst eq
  exact tS.first X0 E L p fun d s1 v q1 x1 X1 E1 L1 y p1 => p1 σ q1 X1 (Kp.refl q1) L1 E1
theorem gs_ret (h : GE X C W e m) : GS X C W (.Return (some e) pos) (sRet m) := PS.imp (ps_ret h) fun D σ H ⟨q0, q, env, s, eq, X0, E, L, p⟩ => by
  subst eq
  exact tS.first X0 E L p fun d s1 v q1 x1 X1 E1 L1 y p1 => p1 v q1 X1 (Kp.refl q1) L1 y
theorem gs_if (hc : GT X C W c mt) (ha : GSs X C W sa ms) (hb : GSs X C W sb mu) : GS X C W (.If c sa sb pos) (sIf mt ms mu) := PS.imp (ps_if hc ha hb) fun D σ H ⟨q0, q, env, s, eq, X0, E, L, p⟩ => by
  subst eq
  refine tS.first X0 E L p fun d s1 v q1 x1 X1 E1 L1 y p1 => ?_
  cases y
  cases d with
  | true => exact iteT ⟨q0, q1, env, s1, rfl, X1, E1, L1, p1⟩
  | false => exact iteF ⟨q0, q1, env, s1, rfl, X1, E1, L1, p1⟩
/-- a name's store, whatever its value's rule -/
theorem set_imp {K : PySem.W.Frag} (i : Nat) (D : Ends) (σ : St) (H : Hp) (h : tS K C W (sAsg m (gNm i)) D σ H) : tAsg (tM K C W (rD K) m) (gName i) D σ H := by
  obtain ⟨q0, q, env, s, eq, X0, E, L, p⟩ := h
  subst eq
  exact tS.first X0 E L p fun d s1 v q1 x1 X1 E1 L1 y p1 => p1 _ q1 X1 (Kp.refl q1) L1 (E1.set i y)
theorem gs_set (i : Nat) (h : GE X C W e m) (hN : X.N.Nodup) (hi : X.N[i]? = some x := by rfl) (hx : Loc X.env.scope x := by first | exact Or.inl rfl | exact Or.inr rfl) (hs : swapsWith e (some (.Name x p')) pos.line X.env = pure false := by rfl) (hf : X.fn x = true ∨ X.env.scope.names.lookup x = some .local := by first | exact .inl rfl | exact .inr rfl) :
    GS X C W (.Assign [.Name x p'] e pos) (sAsg m (gNm i)) := PS.imp (ps_set hN hi hx h hs hf) (set_imp i)
theorem asg_imp {K : PySem.W.Frag} {g : MG} {vs : List Nat} (D : Ends) (σ : St) (H : Hp) (h : tS K C W (sAsg m g) D σ H) : tAsg (tM K C W (rD K) m) (tG K C g vs) D σ H := by
  obtain ⟨q0, q, env, s, eq, X0, E, L, p⟩ := h
  subst eq
  refine tS.first X0 E L p fun d s1 v q1 x1 X1 E1 L1 y p1 => ?_
  unfold putE at p1
  cases z : g d env with
  | none => rw [z] at p1; exact p1.elim
  | some env' => rw [z] at p1; exact ⟨q0, q1, env, env', s1, d, rfl, E1, L1, y, z, fun σ' q' x2 L2 E2 _ _ => p1 σ' q' (X1.trans x2) x2.kp L2 E2⟩
theorem gs_asg {tg : Expr} {g : MG} {vs : List Nat} (h : GE X C W e m) (hg : GG X C tg g vs) (hs : swapsWithSole [tg] e pos.line X.env = pure false := by rfl) (hw : swappedStores [tg] e X.env = pure none := by rfl) (h1 : (assignEach [tg] X.env).map (·.2) = [assign tg X.env] := by rfl) :
    GS X C W (.Assign [tg] e pos) (sAsg m g) := PS.imp (ps_asg h hg hs hw h1) asg_imp
/-- a list just made goes to a name: as a value, as the frame's own, placed -/
theorem new_own {K : PySem.W.Frag} (i : Nat) (D : Ends) (σ : St) (H : Hp) (h : tS K C W (sOwn ml i) D σ H) : tAsg (tM K C W (RN K) ml) (gName i) D σ H := by
  obtain ⟨q0, q, env, s, eq, X0, E, L, p⟩ := h
  subst eq
  refine tS.first X0 E L p fun d s1 v q1 x1 X1 E1 L1 y p1 => ?_
  obtain ⟨pp, vs, rfl, h1, h2, h3, h4, h5⟩ := y
  exact p1 _ q1 X1 (Kp.refl q1) L1 (RE.setOwn E1 X0 L i E h1 h2 h3 h4 h5)
theorem new_frz {K : PySem.W.Frag} (i : Nat) (D : Ends) (σ : St) (H : Hp) (h : tS K C W (sAsg (eFrz ml) (gNm i)) D σ H) : tAsg (tM K C W (RN K) ml) (gName i) D σ H := by
  obtain ⟨q0, q, env, s, eq, X0, E, L, p⟩ := h
  subst eq
  refine ⟨q0, q, env, s, rfl, E, L, ?_⟩
  unfold sAsg eFrz at p
  cases e : ml env s with
  | stk => rw [e] at p; exact p
  | exc z s' => rw [e] at p; exact fun cls d q' x1 r1 rx => p cls d σ q' (X0.trans x1) x1.kp r1 (E.ext x1) rx
  | ok ds s' =>
    rw [e] at p
    intro v q1 x1 L1 y
    obtain ⟨pp, vs, rfl, h1, h2, h3, h4, h5⟩ := y
    obtain ⟨e1, e2, e3⟩ := freeze L.wf x1 L1 h1 h2 h3 h4 h5
    exact p _ ⟨q1.H, fun a => q1.L a ∧ a ≠ pp, q1.r⟩ (X0.trans e1) e1.kp e2 ((E.ext e1).set i e3)
theorem new_plc {K : PySem.W.Frag} (i : Nat) (D : Ends) (σ : St) (H : Hp) (h : tS K C W (sAsg (ePlc ml) (gNm i)) D σ H) : tAsg (tM K C W (RN K) ml) (gName i) D σ H := by
  obtain ⟨q0, q, env, s, eq, X0, E, L, p⟩ := h
  subst eq
  refine ⟨q0, q, env, s, rfl, E, L, ?_⟩
  unfold sAsg ePlc at p
  cases e : ml env s with
  | stk => rw [e] at p; exact p
  | exc z s' => rw [e] at p; exact fun cls d q' x1 r1 rx => p cls d σ q' (X0.trans x1) x1.kp r1 (E.ext x1) rx
  | ok ds s' =>
    rw [e] at p
    intro v q1 x1 L1 y
    obtain ⟨pp, vs, rfl, h1, h2, h3, h4, h5⟩ := y
    obtain ⟨e1, e2, e3⟩ := placed L.wf x1 L1 h1 h2 h3 h4 h5
    exact p _ ⟨q1.H, q1.L, q1.r ++ [pp]⟩ (X0.trans e1) e1.kp e2 ((E.ext e1).set i e3)
/-- a statement that stores a new list under a name -/
def PN (X : Cx) (C : Tab) (W : Wx) (i : Nat) (st : Stmt) (l : MA) : Prop := PS X st (tAsg (tM X.K C W (RN X.K) l) (gName i))
theorem pn_set (i : Nat) (h : GL X C W e ml) (hN : X.N.Nodup) (hi : X.N[i]? = some x := by rfl) (hx : Loc X.env.scope x := by first | exact Or.inl rfl | exact Or.inr rfl) (hs : swapsWith e (some (.Name x p')) pos.line X.env = pure false := by rfl) (hf : X.fn x = true ∨ X.env.scope.names.lookup x = some .local := by first | exact .inl rfl | exact .inr rfl) :
    PN X C W i (.Assign [.Name x p'] e pos) ml := ps_set hN hi hx h hs hf
theorem gs_own {i : Nat} (h : PN X C W i st ml) : GS X C W st (sOwn ml i) := PS.imp h (new_own i)
theorem gs_frz {i : Nat} (h : PN X C W i st ml) : GS X C W st (sAsg (eFrz ml) (gNm i)) := PS.imp h (new_frz i)
theorem gs_plc {i : Nat} (h : PN X C W i st ml) : GS X C W st (sAsg (ePlc ml) (gNm i)) := PS.imp h (new_plc i)
/-- comprehensions -/
theorem gl_lc {elt tg iter : Expr} {ifs : List Expr} {scope : Scope} {own : List (Str × Nat)} {mi : MI} {g : MG} {me : ME} {gvs : List Nat} (hc : X.calm = true) (hN : X.N.Nodup) (hi : GI X C W tg iter mi) (ok : BlkOk X.N X.env.scope scope own)
    (hg : ∀ (s : Shared) (H : Hp) (Ca : Addr) (cl : List (Str × Addr)) (fp : List Addr), GG (X.blk s H scope (compEnvC scope cl Ca X.env) fp) C tg g gvs) (ht : ∀ (s : Shared) (H : Hp) (Ca : Addr) (cl : List (Str × Addr)) (fp : List Addr), GTs (X.blk s H scope (compEnvC scope cl Ca X.env) fp) C W0 ifs mt)
    (he : ∀ (s : Shared) (H : Hp) (Ca : Addr) (cl : List (Str × Addr)) (fp : List Addr), GE (X.blk s H scope (compEnvC scope cl Ca X.env) fp) C W0 elt me) (hsub : ∀ j ∈ gvs, j ∈ own.map (·.2) := by decide) (hs : ∀ x, foldedSetIterable iter X.env x = pure x := by intro _; rfl) :
    GL X C W (.ListComp elt [⟨tg, iter, ifs, 0⟩] scope pos) (lLc mi g mt me (own.map (·.2))) := PE.imp (pe_lc (g := tG X.K C g gvs) (tt := tM X.K C W0 rT mt) (te := tM X.K C W0 (rD X.K) me) hc hN hi ok hg ht he hs) (lc_imp hsub)
theorem pn_lc {i : Nat} {elt tg iter : Expr} {ifs : List Expr} {scope : Scope} {own : List (Str × Nat)} {mi : MI} {g : MG} {me : ME} {gvs : List Nat} (hc : X.calm = true) (hN : X.N.Nodup) (hi : GI X C W tg iter mi) (ok : BlkOk X.N X.env.scope scope own)
    (hg : ∀ (s : Shared) (H : Hp) (Ca : Addr) (cl : List (Str × Addr)) (fp : List Addr), GG (X.blk s H scope (compEnvC scope cl Ca X.env) fp) C tg g gvs) (ht : ∀ (s : Shared) (H : Hp) (Ca : Addr) (cl : List (Str × Addr)) (fp : List Addr), GTs (X.blk s H scope (compEnvC scope cl Ca X.env) fp) C W0 ifs mt)
    (he : ∀ (s : Shared) (H : Hp) (Ca : Addr) (cl : List (Str × Addr)) (fp : List Addr), GE (X.blk s H scope (compEnvC scope cl Ca X.env) fp) C W0 elt me) (hy : X.N[i]? = some x := by rfl) (hyl : X.env.scope.names.lookup x = some .local := by rfl)
    (hsw : swapsWith (.ListComp elt [⟨tg, iter, ifs, 0⟩] scope pos) (some (.Name x p')) cpos.line X.env = pure true := by exact sw_true rfl rfl rfl (by decide +kernel)) (hsub : ∀ j ∈ gvs, j ∈ own.map (·.2) := by decide) (hs : ∀ x, foldedSetIterable iter X.env x = pure x := by intro _; rfl) :
    PN X C W i (.Assign [.Name x p'] (.ListComp elt [⟨tg, iter, ifs, 0⟩] scope pos) cpos) (lLc mi g mt me (own.map (·.2))) :=
  PS.imp (ps_setLc (g := tG X.K C g gvs) (tt := tM X.K C W0 rT mt) (te := tM X.K C W0 (rD X.K) me) hc hN hy hyl hsw hi ok hg ht he hs) fun D σ H h => lc_imp hsub σ H _ h
end
end MP

/-! Loops, lists that grow, objects' fields, bodies of defs. Own text. -/
namespace MP
open PySem L2
section
variable {X : Cx} {C : Tab} {W : Wx} {pos p' apos cpos : Pos} {e a b c o : Expr} {m mo mk : ME} {ml : MA} {st : Stmt} {rest body sa sb : List Stmt} {ms mu : MS} {mt : MT} {x : Str}

/-! ### loops -/
theorem for_turns {K : PySem.W.Frag} {J : It} {xs : Src} {g : MG} {gvs : List Nat} {q0 qs : Stt} {D : Ends} (ok : ItOk K C J xs qs) :
    ∀ (m : Nat) (i : Nat) (q : Stt) (env : MP.Env) (s : Sto) (σ : St), m = xs.ds.length - i → i ≤ xs.ds.length → Ext q0 q → Kp qs q → RE K C q0 q env σ → Rel K C s q → PostS K C W q0 q D (forL xs g ms i (xs.ds.drop i) env s) →
      (J.stop i q.H ∧ D.nx σ q.H) ∨ (J.go i q.H ∧ ∀ v H', J.yld i q.H v H' → tG K C g gvs v σ H' fun σ2 H2 => tS K C W ms { D with
        nx := fun σ3 H3 => ∃ q3 env3 s3, q3.H = H3 ∧ i + 1 ≤ xs.ds.length ∧ Ext q0 q3 ∧ Kp qs q3 ∧ RE K C q0 q3 env3 σ3 ∧ Rel K C s3 q3 ∧ PostS K C W q0 q3 D (forL xs g ms (i + 1) (xs.ds.drop (i + 1)) env3 s3),
        ct := fun σ3 H3 => ∃ q3 env3 s3, q3.H = H3 ∧ i + 1 ≤ xs.ds.length ∧ Ext q0 q3 ∧ Kp qs q3 ∧ RE K C q0 q3 env3 σ3 ∧ Rel K C s3 q3 ∧ PostS K C W q0 q3 D (forL xs g ms (i + 1) (xs.ds.drop (i + 1)) env3 s3),
        bk := D.nx } σ2 H2) := by
  intro m i q env s σ hm hi X0 K1 E R P
  obtain ⟨okI, okE⟩ := ok q s i K1 R
  rcases Nat.lt_or_ge i xs.ds.length with hlt | hge
  · obtain ⟨d, hd⟩ : ∃ d, xs.ds[i]? = some d := ⟨_, List.getElem?_eq_getElem hlt⟩
    have hdrop : xs.ds.drop i = d :: xs.ds.drop (i + 1) := by
      rw [List.drop_eq_getElem_cons hlt]; have := List.getElem?_eq_getElem hlt
      rw [hd] at this
      cases this
      rfl
    rw [hdrop] at P
    simp only [forL] at P
    cases hcur : cur xs s i d with
    | none => rw [hcur] at P; exact P.elim
    | some d' =>
      rw [hcur] at P
      simp only [Option.bind_some] at P
      cases hg : g d' env with
      | none => rw [hg] at P; exact P.elim
      | some env1 =>
        rw [hg] at P
        simp only at P
        obtain ⟨go, yl⟩ := okI d d' hd hcur
        refine .inr ⟨go, fun v H' hy => ?_⟩
        obtain ⟨q3, rfl, X3, R3, rd⟩ := yl v H' hy
        refine ⟨q0, q3, env, env1, s, d', rfl, E.ext X3, R3, rd, hg, fun σ2 q4 X4 R4 E4 _ _ => ?_⟩
        refine ⟨q0, q4, env1, s, rfl, (X0.trans X3).trans X4, E4, R4, ?_⟩
        have k4 : Kp q q4 := (X3.trans X4).kp
        cases hb : ms env1 s with
        | nx e2 s2 => rw [hb] at P; exact fun σ' q' x1 k1 L1 E1 => ⟨q', e2, s2, rfl, hlt, x1, (K1.trans k4).trans k1, E1, L1, PostS.later (k4.trans k1) P⟩
        | ct e2 s2 => rw [hb] at P; exact fun σ' q' x1 k1 L1 E1 => ⟨q', e2, s2, rfl, hlt, x1, (K1.trans k4).trans k1, E1, L1, PostS.later (k4.trans k1) P⟩
        | bk e2 s2 => rw [hb] at P; exact fun σ' q' x1 k1 L1 E1 => P σ' q' x1 (k4.trans k1) L1 E1
        | rt d s2 => rw [hb] at P; exact fun v q' x1 k1 L1 r1 => P v q' x1 (k4.trans k1) L1 r1
        | ex z e2 s2 => rw [hb] at P; exact fun cls d σ' q' x1 k1 L1 E1 r1 => P cls d σ' q' x1 (k4.trans k1) L1 E1 r1
        | stk => rw [hb] at P; exact P.elim
  · have hz : i = xs.ds.length := by omega
    subst hz
    rw [List.drop_length] at P
    simp only [forL] at P
    cases hf : MP.fin xs s with
    | false => rw [hf] at P; exact P.elim
    | true =>
      rw [hf] at P
      exact .inl ⟨okE rfl hf, P σ q X0 (Kp.refl q) R E⟩
theorem gs_for {tg iter : Expr} {mi : MI} {g : MG} {gvs : List Nat} (hp : PassesOwn (model X.prog X.w) X.A X.env X.xe) (hc : X.calm = true) (hi : GI X C W tg iter mi) (hg : GG X C tg g gvs) (hb : GSs X C W body ms) (hs : ∀ x, foldedSetIterable iter X.env x = pure x := by intro _; rfl) :
    GS X C W (.For tg iter body [] pos) (sFor mi g ms) := PS.imp (ps_for hp hc hi hg hb hs) fun D σ H ⟨q0, q, env, s, eq, X0, E, L, p⟩ => by
  subst eq
  refine tS.first X0 E L p fun xs s1 J q1 x1 X1 E1 L1 ok p1 => ?_
  refine ⟨fun i m σ H => ∃ q3 env3 s3, q3.H = H ∧ m = xs.ds.length - i ∧ i ≤ xs.ds.length ∧ Ext q0 q3 ∧ Kp q1 q3 ∧ RE X.K C q0 q3 env3 σ ∧ Rel X.K C s3 q3 ∧ PostS X.K C W q0 q3 D (forL xs g ms i (xs.ds.drop i) env3 s3),
    ⟨_, q1, env, s1, rfl, rfl, Nat.zero_le _, X1, Kp.refl q1, E1, L1, by rw [List.drop_zero]; exact p1⟩, ?_⟩
  rintro i m σ' H ⟨q3, env3, s3, rfl, hm, hi, X3, K3, E3, L3, P3⟩
  rcases for_turns (gvs := gvs) ok m i q3 env3 s3 σ' hm hi X3 K3 E3 L3 P3 with h | ⟨go, h⟩
  · exact .inl h
  · exact .inr ⟨go, _, fun σ4 H4 ⟨q4, env4, s4, h1, h2, h3, h4, h5, h6, h7⟩ => ⟨xs.ds.length - (i + 1), by omega, q4, env4, s4, h1, rfl, h2, h3, h4, h5, h6, h7⟩, h⟩
theorem gs_while (n : Nat) (hp : PassesOwn (model X.prog X.w) X.A X.env X.xe) (hc : GT X C W c mt) (hb : GSs X C W body ms) : GS X C W (.While c body [] pos) (sWhile n mt ms) := PS.imp (ps_while hp hc hb) fun D σ H ⟨q0, q, env, s, eq, X0, E, L, p⟩ => by
  subst eq
  refine ⟨fun m σ H => ∃ q3 env3 s3, q3.H = H ∧ Ext q0 q3 ∧ RE X.K C q0 q3 env3 σ ∧ Rel X.K C s3 q3 ∧ PostS X.K C W q0 q3 D (whL mt ms m env3 s3), ⟨n, q, env, s, rfl, X0, E, L, p⟩, ?_⟩
  rintro m σ' H ⟨q3, env3, s3, rfl, X3, E3, L3, P3⟩
  cases m with
  | zero => exact P3.elim
  | succ m =>
    simp only [whL] at P3
    refine tS.first X3 E3 L3 P3 fun d s4 v q4 x4 X4 E4 L4 y p4 => ?_
    cases y
    cases d with
    | false => exact iteF (p4 σ' q4 X4 (Kp.refl q4) L4 E4)
    | true =>
      refine iteT ⟨fun σ H => ∃ q3 env3 s3, q3.H = H ∧ Ext q0 q3 ∧ RE X.K C q0 q3 env3 σ ∧ Rel X.K C s3 q3 ∧ PostS X.K C W q0 q3 D (whL mt ms m env3 s3), fun σ' H' h => ⟨m, Nat.lt_succ_self m, h⟩, q0, q4, env3, s4, rfl, X4, E4, L4, ?_⟩
      simp only [if_true] at p4
      cases hb : ms env3 s4 with
      | nx e2 s2 => rw [hb] at p4; exact fun σ' q' x1 k1 L1 E1 => ⟨q', e2, s2, rfl, x1, E1, L1, PostS.later k1 p4⟩
      | ct e2 s2 => rw [hb] at p4; exact fun σ' q' x1 k1 L1 E1 => ⟨q', e2, s2, rfl, x1, E1, L1, PostS.later k1 p4⟩
      | bk e2 s2 => rw [hb] at p4; exact p4
      | rt d s2 => rw [hb] at p4; exact p4
      | ex z e2 s2 => rw [hb] at p4; exact p4
      | stk => rw [hb] at p4; exact p4.elim

/-! ### lists that grow -/
/-- the frame's own list gets another content -/
theorem own_write {K : PySem.W.Frag} {q0 q : Stt} {env : MP.Env} {σ : St} {s : Sto} {i : Nat} {p : Addr} {vs ws : List V} {ds es : List D} (X0 : Ext q0 q) (E : RE K C q0 q env σ) (L : Rel K C s q) (ho : env[i]? = some (.own ds)) (hs : σ[i]? = some (some (.ref p))) (h1 : q.H p = some (.lst vs)) (hL : q.L p) (hr : p ∉ q.r) (h0 : Fr q0 p)
    (r : RDs K q es ws) : Ext q0 ⟨upd q.H p (.lst ws), q.L, q.r⟩ ∧ Kp q ⟨upd q.H p (.lst ws), q.L, q.r⟩ ∧ Rel K C s ⟨upd q.H p (.lst ws), q.L, q.r⟩ ∧ RE K C q0 ⟨upd q.H p (.lst ws), q.L, q.r⟩ (env.set i (.own es)) σ := by
  have kw : Kp q ⟨upd q.H p (.lst ws), q.L, q.r⟩ := Kp.wr hL
  have hi : i < env.length := (List.getElem?_eq_some_iff.mp ho).1
  refine ⟨X0.own h0, kw, L.wr hL hr h1 (fun _ z => nomatch z) (fun _ z => nomatch z), ⟨by simp [E.len], fun j d h => ?_, fun j fs h => ?_, fun j k fs gs a g1 g2 g3 g4 => ?_, E.w0, fun j y h => ?_⟩⟩
  · by_cases e : i = j
    · subst e
      rw [List.getElem?_set_self hi] at h
      cases h
    · rw [List.getElem?_set_ne e] at h
      obtain ⟨v, h2, h3⟩ := E.val j d h
      exact ⟨v, h2, RD.mono kw d h3⟩
  · by_cases e : i = j
    · subst e
      rw [List.getElem?_set_self hi] at h
      cases h
      exact ⟨p, ws, hs, upd_same, hL, hr, RDs.mono kw _ r, h0⟩
    · rw [List.getElem?_set_ne e] at h
      obtain ⟨a, us, h2, h3, h4, h5, h6, h7⟩ := E.own j fs h
      have ne : a ≠ p := fun z => by
        subst z
        exact e (E.inj i j ds fs a ho h hs h2)
      exact ⟨a, us, h2, by show upd q.H p _ a = _; rw [upd_ne ne]; exact h3, h4, h5, RDs.mono kw _ h6, h7⟩
  · have old : ∀ {l : Nat} {xs : List D}, (env.set i (.own es))[l]? = some (.own xs) → ∃ ys, env[l]? = some (.own ys) := fun {l xs} h => by
      by_cases e : i = l
      · subst e; exact ⟨ds, ho⟩
      · rw [List.getElem?_set_ne e] at h; exact ⟨xs, h⟩
    obtain ⟨ys, y1⟩ := old g1
    obtain ⟨zs, z1⟩ := old g2
    exact E.inj j k ys zs a y1 z1 g3 g4
  · by_cases e : i = j
    · subst e
      rw [List.getElem?_set_self hi] at h
      cases h
    · rw [List.getElem?_set_ne e] at h
      obtain ⟨a, cl, d, h2, h3, h4⟩ := E.exn j y h
      exact ⟨a, cl, d, h2, h3, h4.mono kw⟩
theorem tyL {K : PySem.W.Frag} {H : Hp} {a : Addr} {vs : List V} (h : H a = some (.lst vs)) : tyV K "list" (.ref a) H := Or.inl ⟨rfl, vs, SqL.of h⟩
/-- xs.append(e) as a statement, xs the frame's own -/
theorem gs_app (i : Nat) (h : GE X C W e m) (hN : X.N[i]? = some x := by rfl) (hv : Vis X.env.scope x := by first | exact Or.inl rfl | exact Or.inr (Or.inl rfl) | exact Or.inr (Or.inr rfl)) (hd : (x == ("__debug__" : Str)) = false := by decide) (hcd : (x == ("__classdict__" : Str)) = false := by decide)
    (h1 : starEach [e] X.env = (false, eval e X.env) :: starEach [] X.env := by rfl) (hbase : attributeBase (.Name x p') "append" X.env (eval (.Name x p') X.env) = eval (.Name x p') X.env := by rfl)
    (hfew : ((backTo cpos (starEach [e] X.env)).all (fun x => !x.1) && (backToKw cpos (keywordEach [] X.env)).all (fun x => x.1.isSome) && decide (([e] : List Expr).length + ([] : List Keyword).length + (if ([] : List Keyword).isEmpty then 0 else 1) < 30)) = true := by rfl)
    (hline : (apos.endLine == cpos.line) = true := by rfl) (hs : swapsWith (.Call (.Attribute (.Name x p') "append" apos) [e] [] cpos) none pos.line X.env = pure false := by rfl) :
    GS X C W (.Expr (.Call (.Attribute (.Name x p') "append" apos) [e] [] cpos) pos) (sApp i m) :=
  PS.imp (ps_expr (pe_bm PySem.F.plainAttrs_list PySem.F.slot_list_append PySem.F.type_list_append mt_append (pe_var (i := i) hN hv hd hcd) (pa_cons h pa_nil h1) hbase hfew hline h1) hs) fun D σ H ⟨q0, q, env, s, eq, X0, E, L, p⟩ => by
    subst eq
    unfold sApp at p
    split at p
    · rename_i ds ho
      obtain ⟨a, vs, o1, o2, o3, o4, o5, o6⟩ := E.own i ds ho
      refine ⟨.ref a, o1, tyL o2, ?_⟩
      refine tS.first X0 E L p fun d s1 v q1 x1 X1 E1 L1 y p1 => ?_
      by_cases hl : ds.length < cap
      · rw [if_pos hl] at p1
        obtain ⟨a', vs', u1, u2, u3, u4, u5, u6⟩ := E1.own i ds ho
        rw [o1] at u1
        cases u1
        refine ⟨a, vs', v, rfl, rfl, u2, ?_, ?_⟩
        · rw [u5.length]
          exact Nat.lt_of_lt_of_le hl (lenS (Nat.le_refl _))
        · obtain ⟨w1, w2, w3, w4⟩ := own_write X1 E1 L1 ho o1 u2 u3 u4 u6 (u5.append (.cons y .nil))
          exact p1 σ _ w1 w2 w3 w4
      · rw [if_neg hl] at p1; exact p1.elim
    · exact p.elim
/-- xs.extend(e) as a statement, e a list -/
theorem gs_ext (i : Nat) (h : GE X C W e m) (hN : X.N[i]? = some x := by rfl) (hv : Vis X.env.scope x := by first | exact Or.inl rfl | exact Or.inr (Or.inl rfl) | exact Or.inr (Or.inr rfl)) (hd : (x == ("__debug__" : Str)) = false := by decide) (hcd : (x == ("__classdict__" : Str)) = false := by decide)
    (h1 : starEach [e] X.env = (false, eval e X.env) :: starEach [] X.env := by rfl) (hbase : attributeBase (.Name x p') "extend" X.env (eval (.Name x p') X.env) = eval (.Name x p') X.env := by rfl)
    (hfew : ((backTo cpos (starEach [e] X.env)).all (fun x => !x.1) && (backToKw cpos (keywordEach [] X.env)).all (fun x => x.1.isSome) && decide (([e] : List Expr).length + ([] : List Keyword).length + (if ([] : List Keyword).isEmpty then 0 else 1) < 30)) = true := by rfl)
    (hline : (apos.endLine == cpos.line) = true := by rfl) (hs : swapsWith (.Call (.Attribute (.Name x p') "extend" apos) [e] [] cpos) none pos.line X.env = pure false := by rfl) :
    GS X C W (.Expr (.Call (.Attribute (.Name x p') "extend" apos) [e] [] cpos) pos) (sExt i m) :=
  PS.imp (ps_expr (pe_bm PySem.F.plainAttrs_list PySem.F.slot_list_extend PySem.F.type_list_extend mt_extend (pe_var (i := i) hN hv hd hcd) (pa_cons h pa_nil h1) hbase hfew hline h1) hs) fun D σ H ⟨q0, q, env, s, eq, X0, E, L, p⟩ => by
    subst eq
    unfold sExt at p
    split at p
    · rename_i ds ho
      obtain ⟨a, vs, o1, o2, o3, o4, o5, o6⟩ := E.own i ds ho
      refine ⟨.ref a, o1, tyL o2, ?_⟩
      refine tS.first X0 E L p fun d s1 v q1 x1 X1 E1 L1 y p1 => ?_
      obtain ⟨a', vs', u1, u2, u3, u4, u5, u6⟩ := E1.own i ds ho
      rw [o1] at u1
      cases u1
      rcases RB.view L1 (.inl y) with ⟨es, b, us, ev, rfl, g, r⟩ | ⟨ev, r, nl⟩
      · rw [ev] at p1
        simp only at p1
        by_cases hl : ds.length + es.length < cap
        · rw [if_pos hl] at p1
          refine ⟨a, b, vs', us, rfl, rfl, u2, g, ?_, ?_⟩
          · rw [u5.length, r.length]
            exact lenS (Nat.le_of_lt hl)
          · obtain ⟨w1, w2, w3, w4⟩ := own_write X1 E1 L1 ho o1 u2 u3 u4 u6 (u5.append r)
            exact p1 σ _ w1 w2 w3 w4
        · rw [if_neg hl] at p1; exact p1.elim
      · rw [ev] at p1
        cases d with
        | lst es => exact absurd rfl (nl es)
        | _ => exact p1.elim
    · exact p.elim
/-- an own list becomes a value, ahead of a block -/
theorem gss_frz (i : Nat) {sts : List Stmt} (h : GSs X C W sts ms) : GSs X C W sts (sSeq (sFrz i) ms) := PSs.imp h fun D σ H ⟨q0, q, env, s, eq, X0, E, L, p⟩ => by
  subst eq
  unfold sSeq sFrz at p
  split at p
  · rename_i r ds ho
    simp only [SRes.andThen_nx] at p
    obtain ⟨a, vs, o1, o2, o3, o4, o5, o6⟩ := E.own i ds ho
    have kp : Kp q ⟨q.H, fun b => q.L b ∧ b ≠ a, q.r⟩ := ⟨fun b u e n _ => ⟨e, fun z => n z.1⟩, ⟨[], by simp⟩⟩
    have na : ¬ q0.L a := E.w0.noF o6
    refine ⟨q0, ⟨q.H, fun b => q.L b ∧ b ≠ a, q.r⟩, env.set i (.val (.lst ds)), s, rfl, ⟨X0.keep, fun b l => ⟨X0.mono b l, fun z => by subst z; exact na l⟩, fun b u e n t => ⟨(X0.u b u e n t).1, fun z => (X0.u b u e n t).2 z.1⟩, X0.pre, X0.new, X0.th⟩, ?_, ⟨⟨L.wf.nd, fun b h => ⟨L.wf.live b h, fun z => by subst z; exact o4 h⟩, fun b l => L.wf.trk b l.1⟩, L.len, fun n ob b e1 e2 => (L.obs n ob b e1 e2).mono kp rfl, L.tb⟩, PostS.later kp p⟩
    have E' : RE X.K C q0 ⟨q.H, fun b => q.L b ∧ b ≠ a, q.r⟩ (env.set i .emp) σ := by
      have ne : ∀ {l : Nat} {o : Slot}, (env.set i .emp)[l]? = some o → o ≠ .emp → i ≠ l := fun {l o} h n e => by
        subst e
        have hi : i < env.length := by
          have := (List.getElem?_eq_some_iff.mp h).1
          simpa using this
        rw [List.getElem?_set_self hi] at h
        cases h
        exact n rfl
      refine ⟨by simp [E.len], fun j d h => ?_, fun j es h => ?_, fun j k es fs b g1 g2 g3 g4 => ?_, E.w0, fun j y h => ?_⟩
      · rw [List.getElem?_set_ne (ne h (by intro z; cases z))] at h
        obtain ⟨v, h2, h3⟩ := E.val j d h
        exact ⟨v, h2, RD.mono kp d h3⟩
      · have n := ne h (by intro z; cases z)
        rw [List.getElem?_set_ne n] at h
        obtain ⟨b, us, h2, h3, h4, h5, h6, h7⟩ := E.own j es h
        refine ⟨b, us, h2, h3, ⟨h4, fun z => ?_⟩, h5, RDs.mono kp _ h6, h7⟩
        subst z
        exact n (E.inj i j ds es b ho h o1 h2)
      · rw [List.getElem?_set_ne (ne g1 (by intro z; cases z))] at g1
        rw [List.getElem?_set_ne (ne g2 (by intro z; cases z))] at g2
        exact E.inj j k es fs b g1 g2 g3 g4
      · rw [List.getElem?_set_ne (ne h (by intro z; cases z))] at h
        obtain ⟨a', cl, d, h2, h3, h4⟩ := E.exn j y h
        exact ⟨a', cl, d, h2, h3, h4.mono kp⟩
    have r := E'.set i (d := .lst ds) (v := .ref a) (.lst ⟨o2, fun z => z.2 rfl⟩ (RDs.mono kp _ o5))
    rw [List.set_set] at r
    have e : σ.set i (some (.ref a)) = σ := by
      apply List.ext_getElem?
      intro j
      by_cases hj : i = j
      · subst hj
        rw [List.getElem?_set_self (List.getElem?_eq_some_iff.mp o1).1, o1]
      · rw [List.getElem?_set_ne hj]
    rw [e] at r
    exact r
  · exact p.elim

/-! ### objects -/
theorem RF.put {K : PySem.W.Frag} {q : Stt} (f : String) {d : D} {v : V} (r : RD K q d v) : ∀ {fs : List (String × D)} {gs : List (Str × V)}, RF K q fs gs → RF K q (putF' f d fs) (putF (Str.ofString f) v gs)
  | _, _, .nil => .cons r .nil
  | _, _, .cons (f := g) (d := dg) a b => by
    unfold putF' putF
    by_cases e : g = f
    · subst e
      rw [if_pos rfl, if_pos rfl]
      exact .cons r b
    · rw [if_neg e, if_neg fun z => e (ofS_inj z)]
      exact .cons a (RF.put f r b)
theorem RF.length {K : PySem.W.Frag} {q : Stt} : ∀ {fs : List (String × D)} {gs : List (Str × V)}, RF K q fs gs → gs.length = fs.length
  | _, _, .nil => rfl
  | _, _, .cons _ b => by simp [RF.length b]
/-- o.f = e -/
theorem gs_fld {cn : Nat} {nm : String} (ho : GE X C W o mo) (hv : GE X C W e m) (hc : Cls X.K (C cn)) (hn : NoAttr X.K (C cn) (Str.ofString nm)) (hs : swapsWith e (some (.Attribute o (Str.ofString nm) p')) pos.line X.env = pure false := by rfl) :
    GS X C W (.Assign [.Attribute o (Str.ofString nm) p'] e pos) (MP.sFld cn mo m nm) := PS.imp (ps_fld ho hv hs) fun D σ H ⟨q0, q, env, s, eq, X0, E, L, p⟩ => by
  subst eq
  refine tS.first X0 E L p fun d s1 v q1 x1 X1 E1 L1 y p1 => ?_
  refine tS.first X1 E1 L1 p1 fun ob s2 u q2 x2 X2 E2 L2 z p2 => ?_
  cases z with
  | @ref n a h2 =>
    simp only at p2
    split at p2
    · rename_i c' fs hn1
      split at p2
      · rename_i hh
        obtain ⟨rfl, hl⟩ := hh
        obtain ⟨dx, gs, e1, r1⟩ := L2.obs n _ a hn1 h2
        refine ⟨a, C c', dx, gs, rfl, e1, hc, hn, by rw [r1.length]; omega, ?_⟩
        have kw : Kp q2 ⟨upd q2.H a (.ins (C c') dx (putF (Str.ofString nm) v gs)), q2.L, q2.r⟩ := Kp.wr (L2.wf.live a (List.mem_of_getElem? h2))
        obtain ⟨w1, w2⟩ := wr_placed (o' := .ins c' (putF' nm d fs)) (ho := .ins (C c') dx (putF (Str.ofString nm) v gs)) L2 hn1 h2 ⟨dx, _, upd_same, RF.put nm (RD.mono kw d (RD.mono x2.kp d y)) (r1.mono kw)⟩
        exact p2 σ _ (X2.trans w1) w1.kp w2 (E2.ext w1)
      · exact p2.elim
    · exact p2.elim
  | _ => exact p2.elim
/-- o[i] = e, o a placed list -/
theorem gs_sub (ho : GE X C W o mo) (hi : GE X C W a mk) (hv : GE X C W e m) (hs : swapsWithSole [.Subscript o a p'] e pos.line X.env = pure false := by rfl) (hw : swappedStores [.Subscript o a p'] e X.env = pure none := by rfl)
    (h1 : (assignEach [.Subscript o a p'] X.env).map (·.2) = [assign (.Subscript o a p') X.env] := by rfl)
    (ha : ∀ v, assign (.Subscript o a p') X.env v = (do
      let ov ← holding [v] (eval o X.env); let iv ← holding [v, ov] (eval a X.env)
      standAt p'
      holding [v, ov, iv] (setItem ov iv v); release [v, ov, iv] []) := by intro _; rfl) :
    GS X C W (.Assign [.Subscript o a p'] e pos) (sSet mo mk m) := PS.imp (ps_asg hv (pg_sub ho hi set_list ha) hs hw h1) fun D σ H ⟨q0, q, env, s, eq, X0, E, L, p⟩ => by
  subst eq
  refine tS.first X0 E L p fun d s1 v q1 x1 X1 E1 L1 y p1 => ?_
  refine tS.first X1 E1 L1 p1 fun ob s2 u q2 x2 X2 E2 L2 z p2 => ?_
  refine tS.first X2 E2 L2 p2 fun ix s3 iv q3 x3 X3 E3 L3 w p3 => ?_
  have z' := RD.mono x3.kp _ z
  cases z' with
  | @ref n b h2 =>
    cases w with
    | int k =>
      simp only at p3
      split at p3
      · rename_i ds hn1
        split at p3
        · rename_i j hj
          obtain ⟨vs, e1, r1⟩ := L3.obs n _ b hn1 h2
          refine ⟨b, vs, k, j, rfl, rfl, e1, by rw [r1.length, ← place_ix]; exact hj, ?_⟩
          have kw : Kp q3 ⟨upd q3.H b (.lst (vs.set j v)), q3.L, q3.r⟩ := Kp.wr (L3.wf.live b (List.mem_of_getElem? h2))
          obtain ⟨w1, w2⟩ := wr_placed (o' := .lst (ds.set j d)) (ho := .lst (vs.set j v)) L3 hn1 h2 ⟨_, upd_same, (RDs.mono kw _ r1).set (RD.mono kw d (RD.mono (x2.trans x3).kp d y))⟩
          exact p3 σ _ (X3.trans w1) w1.kp w2 (E3.ext w1)
        · exact p3.elim
      · exact p3.elim
    | _ => exact p3.elim
  | _ => cases w <;> exact p3.elim
end

/-! ### a def's body, its promise -/
section
variable {P : Program} {w : World} {K : PySem.W.Frag} {mg : Str → Option Value} {base : Heap} {C : Tab}
theorem RE.start {q : Stt} {s : Sto} {ds : List D} {vs : List V} {N : List Str} (n : Nat) (L : Rel K C s q) (r : RDs K q ds vs) (hn : n = N.length - ds.length) : RE K C q q (ds.map .val ++ List.replicate n .emp) (start N vs) := by
  have hl := r.length
  subst hn
  unfold L2.start
  refine ⟨by simp [hl], fun i d h => ?_, fun i es h => ?_, fun i j es fs a h => ?_, L.wf, fun i y h => ?_⟩
  · by_cases hi : i < ds.length
    · rw [List.getElem?_append_left (by simpa using hi), List.getElem?_map] at h
      cases e : ds[i]? with
      | none => rw [e] at h; exact nomatch h
      | some d' =>
        rw [e] at h
        cases h
        obtain ⟨v, h1, h2⟩ := RDs.get r e
        refine ⟨v, ?_, h2⟩
        rw [List.getElem?_append_left (by simp [hl, hi]), List.getElem?_map, h1]
        rfl
    · rw [List.getElem?_append_right (by simpa using hi)] at h
      have := List.mem_of_getElem? h
      simp at this
  · exfalso
    have := List.mem_of_getElem? h
    simp at this
  · exfalso
    have := List.mem_of_getElem? h
    simp at this
  · exfalso
    have := List.mem_of_getElem? h
    simp at this
theorem fn_cal {x qual : Str} {st : Stmt} {f : Addr} {fd : FuncData} {N ps : List Str} {k : Nat} {ms : MS} (F : Fun K x qual st f fd) (S : FnScope N ps (defScope st)) (hN : ps.length ≤ N.length)
    (hb : ∀ (cdv : Value) (A : Around) (outer : List PySem.Env) (s : Shared) (H : Hp) (E : XK), Room k (A.deeper (PyProof.Rows.envOfC qual (defScope st) s.heap.objs.size f cdv)) →
      GSs (cxOf (L2.CX P w) P w K mg base N qual (defScope st) f cdv A outer s H E) C (fun cls d _ H' => E cls d H') (defBody st) ms) : FnOk P w K mg base (L2.CX P w) (k + 1) f fd ps (spM K C (runB ps.length N.length ms)) := by
  refine F.okX S (fun vs H Q E h => ?_) fun cdv A outer s H vs Q E hr h => ⟨_, hb cdv A outer s H E hr, ?_⟩
  · obtain ⟨q, s, ds, e, L, r, p⟩ := h
    rw [r.length]
    unfold runB at p
    split at p
    · rename_i h; exact h
    · exact p.elim
  · obtain ⟨q, s, ds, e, L, r, p⟩ := h
    subst e
    unfold runB at p
    split at p
    · rename_i hk
      refine ⟨q, q, _, s, rfl, Ext.refl q, RE.start (N.length - ps.length) L r (by rw [hk]), L, ?_⟩
      cases z : ms (ds.map .val ++ List.replicate (N.length - ps.length) .emp) s with
      | nx e s' => rw [z] at p; exact fun σ' q' x1 k1 L1 E1 => p .non q' x1 L1 .non
      | rt d s' => rw [z] at p; exact fun v q' x1 k1 L1 r1 => p v q' x1 L1 r1
      | ex y e s' => rw [z] at p; exact fun cls d σ' q' x1 k1 L1 E1 r1 => p cls d q' x1 L1 r1
      | bk e s' => rw [z] at p; exact p.elim
      | ct e s' => rw [z] at p; exact p.elim
      | stk => rw [z] at p; exact p.elim
    · exact p.elim
end
end MP

/-! A star in targets. Own text. -/
namespace MP
open PySem L2
open PyProof.Rows (assignInOrder_cons)
section
variable {X : Cx} {σ : St} {H : Hp} {s : Shared} {pins : List (Addr × Obj)}
theorem ns_fun {h : Heap} {a : Addr} {m m' : Str → Option Value} (x : h.Ns a m) (y : h.Ns a m') : m = m' := by
  obtain ⟨o, es, ep, e1, d1, _, r1⟩ := x
  obtain ⟨o', es', ep', e2, d2, _, r2⟩ := y
  rw [e1] at e2
  cases e2
  rw [d1] at d2
  cases d2
  exact funext fun z => (r1 z).symm.trans (r2 z)
/-- behind a rule of the library's that made one list -/
theorem inv_one {h' : Heap} {tk : Nat} {D : Addr} {its : List Value} {vs : List V} {m : Str → Option Value} (I : Inv X pins σ H s) (F : PyProof.Rows.Fr X.base X.env.locals s.heap m) (F' : PyProof.Rows.Fr X.base X.env.locals h' m)
    (N' : PyProof.Rows.News X.base X.env.locals h' ((D, W.listOf its.toArray 0) :: allNews X.base s.heap X.env.locals)) (lt : ∀ p ∈ allNews X.base s.heap X.env.locals, p.1 < D) (r : Vals vs its) (hl : vs.length ≤ sizeLine) :
    H D = none ∧ Inv X pins σ (upd H D (.lst vs)) { s with heap := h', toks := tk } := by
  obtain ⟨nD, DL, Dg⟩ := N' (D, _) List.mem_cons_self
  have old : ∀ b o, b ≠ X.env.locals → s.heap.get? b = some o → h'.get? b = some o := fun b o hb e => by
    cases q : X.base.get? b with
    | some u =>
      have h1 := F.keep b u q
      have h2 := F'.keep b u q
      rw [e] at h1
      cases h1
      exact h2
    | none => exact (N' (b, o) (List.mem_cons_of_mem _ (mem_allNews hb q e))).1
  have fresh : s.heap.get? D = none := by
    cases q : s.heap.get? D with
    | none => rfl
    | some o => exact absurd (lt (D, o) (mem_allNews DL Dg q)) (Nat.lt_irrefl _)
  have hD : H D = none := I.hok.gone fresh
  have ne : ∀ b o, H b = some o → b ≠ D := fun b o e z => by subst z; rw [hD] at e; cases e
  have hok : HOk X.prog X.w (upd H D (.lst vs)) h' := fun b u e => by
    by_cases hb : b = D
    · subst hb
      rw [upd_same] at e
      cases e
      exact ⟨hl, its, 0, r, nD⟩
    · rw [upd_ne hb] at e
      refine (I.hok b u e).stay (fun c v hc q => old c v (fun z => ?_) q) (fun c q => by rw [upd_ne (ne c _ q)]; exact q) fun c xs q => by rw [upd_ne (ne c _ q)]; exact q
      subst z
      have n := I.free
      rcases hc with rfl | hc
      · rw [n] at e; cases e
      · rw [n] at hc; cases hc
  have there : ∀ b o, s.heap.get? b = some o → ∃ o', h'.get? b = some o' := fun b o e => by
    by_cases hb : b = X.env.locals
    · subst hb
      obtain ⟨o', _, _, e', _⟩ := F'.ns
      exact ⟨o', e'⟩
    · exact ⟨o, old b o hb e⟩
  refine ⟨hD, I.step (g' := s.gens) (d' := s.drawn) (ch := []) (fun _ z => absurd z (by simp)) (fun b o hb _ _ e _ => old b o hb e) (fun b o hb _ _ e _ => ⟨o.slots, old b o hb e⟩) (fun b o _ e n => ?_) (fun b o _ e => there b o e) (fun b xs e => ?_) (fun b o u e => ?_)
    (fun b ps e => ⟨#[], ?_⟩) (fun m' hm => ?_) hok I.bare⟩
  · have z : b ≠ D := fun z => by subst z; rw [fresh] at e; cases e
    rw [upd_ne z]; exact n
  · rw [upd_ne (ne b _ e)]; exact e
  · rw [upd_ne (ne b _ e)]; exact e
  · rw [upd_ne (ne b _ e), e]; simp
  · rw [ns_fun hm F.ns]; exact F'.ns
/-- the middle of a list or tuple goes to a new list -/
def gStar (K : PySem.W.Frag) (n i : Nat) (t : TGs) : TG := fun v σ H Q => ∃ a xs, v = .ref a ∧ (SqL K H a xs ∨ SqT K H a xs) ∧ i < n ∧ n ≤ xs.length + 1 ∧ xs.length ≤ 16000 ∧
  ∀ p, H p = none → t (xs.take i ++ [.ref p] ++ (xs.drop i).drop (xs.length + 1 - n)) σ (upd H p (.lst ((xs.drop i).take (xs.length + 1 - n)))) Q
theorem pg_star {es : List Expr} {k n i : Nat} {pos : Pos} {t : TGs} (hc : X.calm = true) (h : PGs X es t) (hn : (assignEach es X.env).length = n := by rfl) (hst : (assignEach es X.env).findIdx? (·.1) = some i := by rfl) : PG X (.Tuple es k pos) (gStar X.K n i t) := by
  constructor
  intro pins s σ H v u Q I r ⟨a, xs, e, hq, h1, h2, h3, q⟩
  subst e
  cases r
  obtain ⟨m, F⟩ := I.fr
  have mids : ∀ {its : List Value}, Vals xs its → Vals (xs.take i) (its.take i) ∧ Vals ((xs.drop i).take (xs.length + 1 - n)) ((its.drop i).take (xs.length + 1 - n)) ∧ Vals ((xs.drop i).drop (xs.length + 1 - n)) ((its.drop i).drop (xs.length + 1 - n)) := fun r => ⟨r.take i, (r.drop i).take _, (r.drop i).drop _⟩
  have fin : ∀ {its : List Value}, Vals xs its → ∀ (D : Addr) (h' : Heap) (tk : Nat), PyProof.Rows.Fr X.base X.env.locals h' m → PyProof.Rows.News X.base X.env.locals h' ((D, W.listOf ((its.drop i).take (xs.length + 1 - n)).toArray 0) :: allNews X.base s.heap X.env.locals) → (∀ p ∈ allNews X.base s.heap X.env.locals, p.1 < D) →
      wpAny (model X.prog X.w) X.A (assignInOrder ((assignEach es X.env).map (·.2)) (its.take i ++ [Value.ref D] ++ (its.drop i).drop (xs.length + 1 - n))) (fun _ s' => ∃ σ' H', Inv X pins σ' H' s' ∧ Q σ' H') X.xe { s with heap := h', toks := tk } := fun {its} rv D h' tk F' N' lt => by
    obtain ⟨m1, m2, m3⟩ := mids rv
    have hl : ((xs.drop i).take (xs.length + 1 - n)).length ≤ sizeLine := by
      rw [List.length_take, List.length_drop]; exact lenS (by unfold cap; omega)
    obtain ⟨hD, I'⟩ := inv_one (tk := tk) I F F' N' lt m2 hl
    exact h.run pins _ σ _ _ _ Q I' ((m1.append (.cons (show RelV (V.ref D) (Value.ref D) from rfl) .nil)).append m3) (q D hD)
  rcases hq with hq | hq
  · obtain ⟨its, rv, ⟨o, no, ho, hcl, _, hd⟩, hz⟩ := I.list hq
    have hs : its.toArray.size = xs.length := vals_size rv
    refine W.kun_assignL F news_all (items := its.toArray) ⟨o, ho, hcl, no, hd⟩ (I.ok.hd hc) hn hst h1 (by rw [hs]; exact h2) (by rw [hs]; omega) rfl rfl rfl fun D h' tk F' N' lt => ?_
    rw [hs] at N' ⊢
    exact fin rv D h' tk F' N' lt
  · obtain ⟨its, rv, ht, hz⟩ := I.tuple hq
    have hs : its.toArray.size = xs.length := vals_size rv
    refine W.kun_assignT F news_all (items := its.toArray) ht (I.ok.hd hc) hn hst h1 (by rw [hs]; exact h2) (by rw [hs]; omega) rfl rfl rfl fun D h' tk F' N' lt => ?_
    rw [hs] at N' ⊢
    exact fin rv D h' tk F' N' lt
end
section
variable {X : Cx} {C : Tab} {pos p2 : Pos}
theorem ggs_star {e : Expr} {es : List Expr} {g : MG} {gs : List MG} {vs ws : List Nat} (h1 : GG X C e g vs) (h2 : GGs X C es gs ws) (hs : (assignEach (.Starred e p2 :: es) X.env).map (·.2) = assign e X.env :: (assignEach es X.env).map (·.2) := by rfl) : GGs X C (.Starred e p2 :: es) (g :: gs) (vs ++ ws) := by
  constructor
  intro pins s σ H us zs Q I r ⟨q0, q, env, env', st, ds, eq, E, L, rd, gg, k⟩
  subst eq
  cases rd with
  | nil => cases gg
  | @cons d v ds us r1 r2 =>
    simp only [gAll] at gg
    cases g1 : g d env with
    | none => rw [g1] at gg; cases gg
    | some env1 =>
      rw [g1] at gg
      cases r with
      | cons ra rb =>
        rw [hs]
        refine assignInOrder_cons (thn (h1.run pins s σ q.H v _ (fun σ1 H1 => ∃ q1, q1.H = H1 ∧ Ext q q1 ∧ Rel X.K C st q1 ∧ RE X.K C q0 q1 env1 σ1 ∧ σ1.length = σ.length ∧ ∀ j, j ∉ vs → σ1[j]? = σ[j]?) I ra
          ⟨q0, q, env, env1, st, d, rfl, E, L, r1, g1, fun σ1 q1 x1 L1 E1 n1 w1 => ⟨q1, rfl, x1, L1, E1, n1, w1⟩⟩) ?_)
        rintro _ s1 ⟨σ1, H1, I1, q1, rfl, x1, L1, E1, n1, w1⟩
        refine h2.run pins s1 σ1 q1.H us _ Q I1 rb ⟨q0, q1, env1, env', st, ds, rfl, E1, L1, RDs.mono x1.kp _ r2, gg, fun σ2 q2 x2 L2 E2 n2 w2 => ?_⟩
        refine k σ2 q2 (x1.trans x2) L2 E2 (n2.trans n1) fun j hj => ?_
        rw [List.mem_append] at hj
        rw [w2 j fun z => hj (.inr z), w1 j fun z => hj (.inl z)]
theorem gAll_append : ∀ (gs : List MG) (hs : List MG) (ds es : List D) (env : MP.Env), gs.length = ds.length → gAll (gs ++ hs) (ds ++ es) env = (gAll gs ds env).bind fun e => gAll hs es e
  | [], hs, [], es, env, _ => rfl
  | g :: gs, hs, d :: ds, es, env, h => by
    simp only [List.cons_append, gAll]
    cases g d env with
    | none => rfl
    | some e => exact gAll_append gs hs ds es e (by simpa using h)
  | [], _, _ :: _, _, _, h => by simp at h
  | _ :: _, _, [], _, _, h => by simp at h
/-- a, *b, c = .. -/
theorem gg_star {es : List Expr} {kk : Nat} {gs hs : List MG} {j : Nat} {vs : List Nat} (hc : X.calm = true) (h : GGs X C es (gs ++ gNm j :: hs) vs) (hn : (assignEach es X.env).length = gs.length + hs.length + 1 := by rfl) (hst : (assignEach es X.env).findIdx? (·.1) = some gs.length := by rfl) :
    GG X C (.Tuple es kk pos) (gSt gs hs j) vs := PG.imp (pg_star hc h hn hst) fun v σ H Q ⟨q0, q, env, env', s, d, e, E, L, r, g, k⟩ => by
  subst e
  have main : ∀ (ds : List D) (a : Addr) (us : List V), v = .ref a → (SqL X.K q.H a us ∨ SqT X.K q.H a us) → RDs X.K q ds us → (if gs.length + hs.length ≤ ds.length ∧ ds.length ≤ 16000 then
      (gAll gs (ds.take gs.length) env).bind fun e1 => gAll hs ((ds.drop gs.length).drop (ds.length - gs.length - hs.length)) (e1.set j (.val (.lst ((ds.drop gs.length).take (ds.length - gs.length - hs.length))))) else none) = some env' →
      gStar X.K (gs.length + hs.length + 1) gs.length (tGs X.K C (gs ++ gNm j :: hs) vs) v σ q.H Q := by
    intro ds a us e1 hq rs g
    subst e1
    split at g
    · rename_i hh
      have hl := rs.length
      refine ⟨a, us, rfl, hq, by omega, by omega, by omega, fun p hp => ?_⟩
      have em : us.length + 1 - (gs.length + hs.length + 1) = ds.length - gs.length - hs.length := by omega
      rw [em]
      have L2 := L.new1 (o := .lst ((us.drop gs.length).take (ds.length - gs.length - hs.length))) hp
      have x2 := Ext.new1 (o := .lst ((us.drop gs.length).take (ds.length - gs.length - hs.length))) L.wf hp
      have r2 := RDs.mono x2.kp _ rs
      refine ⟨q0, _, env, env', s, ds.take gs.length ++ [D.lst ((ds.drop gs.length).take (ds.length - gs.length - hs.length))] ++ (ds.drop gs.length).drop (ds.length - gs.length - hs.length), rfl, E.ext x2, L2, ?_, ?_, fun σ' q' x' L' E' n' w' => k σ' q' (x2.trans x') L' E' n' w'⟩
      · exact ((r2.take _).append (.cons (.lst ⟨upd_same, L.wf.no hp⟩ ((r2.drop _).take _)) .nil)).append ((r2.drop _).drop _)
      · rw [List.append_assoc, gAll_append gs (gNm j :: hs) _ _ env (by rw [List.length_take]; omega), ← g]
        rfl
    · cases g
  cases r with
  | @tup a us ds f r => exact main ds a us rfl (.inr f.sq) r g
  | @lst a us ds f r => exact main ds a us rfl (.inl (SqL.of f.1)) r g
  | _ => cases g
end
end MP

/-! More words: signs of a text, enumerate, join, split, sums of lists, chains. Own text. -/
namespace MP
open PySem L2 TL
section
variable {X : Cx} {C : Tab} {W : Wx} {pos p p2 apos tpos : Pos} {tg e a b c o : Expr} {es elts : List Expr} {m ma mb mc mo : ME} {st : Stmt}
theorem gi_str (h : GE X C W e m) : GI X C W tg e (iStrI m) := PI.imp (pi_str h) fun σ H R ⟨q0, q, env, s, eq, E, L, p⟩ => by
  subst eq
  refine tM.first (f := fun x s1 => (match x with | .str cs => Res.ok (⟨cs.map fun c => .str [c], none⟩ : Src) s1 | _ => .stk : Res Src)) E L p (fun q1 x1 q2 a b w => w) fun x s1 vx q1 x1 E1 L1 y1 p1 => ?_
  cases y1 with
  | str cs =>
    refine ⟨_, rfl, p1 _ q1 (Ext.refl q1) L1 (itOk_still fun q2 i k => ⟨fun d h => ?_, fun h => ?_⟩)⟩
    · rw [List.getElem?_map] at h
      cases e : cs[i]? with
      | none => rw [e] at h; exact nomatch h
      | some c =>
        rw [e] at h
        cases h
        have hi : i < cs.length := (List.getElem?_eq_some_iff.mp e).1
        refine ⟨by simpa [Its] using hi, fun v H3 ⟨e1, c', e2, e3⟩ => ⟨e1, ?_⟩⟩
        have e2 : cs[i]? = some c' := by simpa using e2
        rw [e] at e2
        cases e2
        rw [e3]
        exact .str [c]
    · rw [List.length_map] at h
      show cs.toArray.size ≤ i
      simp [h]
  | _ => exact p1.elim
theorem mapIdx_get {ds : List D} {i : Nat} {d : D} (h : (ds.mapIdx fun i d => D.tup [.int i, d])[i]? = some d) : ∃ d0, ds[i]? = some d0 ∧ d = .tup [.int i, d0] := by
  rw [List.getElem?_mapIdx] at h
  cases e : ds[i]? with
  | none => rw [e] at h; exact nomatch h
  | some d0 => rw [e] at h; cases h; exact ⟨d0, rfl, rfl⟩
theorem gi_enum {kk : Nat} (hm : X.mg "enumerate" = none) (h : GE X C W e m) (hg : Gl X "enumerate" := by rfl) (h1 : starEach [e] X.env = (false, eval e X.env) :: starEach [] X.env := by rfl) (hs : starEach [e] X.env = [(false, eval e X.env)] := by rfl) :
    GI X C W (.Tuple elts kk tpos) (.Call (.Name "enumerate" p) [e] [] pos) (iEnum m) := PI.imp (pi_enum hg hm (pa_cons h pa_nil h1) hs) fun σ H R ⟨q0, q, env, s, eq, E, L, p⟩ => by
  subst eq
  refine tM.first (f := fun x s1 => (match x with | .lst ds => Res.ok (⟨ds.mapIdx fun i d => .tup [.int i, d], none⟩ : Src) s1 | _ => .stk : Res Src)) E L p (fun q1 x1 q2 a b w => w) fun x s1 vx q1 x1 E1 L1 y1 p1 => ?_
  cases y1 with
  | @lst a vs ds g r =>
    refine ⟨a, vs, rfl, SqL.of g.1, p1 _ q1 (Ext.refl q1) L1 fun q2 s2 i k R2 => ⟨fun d d' h1 h2 => ?_, fun hi _ => ?_⟩⟩
    · cases h2
      obtain ⟨d0, h3, rfl⟩ := mapIdx_get h1
      have g2 : SqL X.K q2.H a vs := SqL.of (g.mono k).1
      obtain ⟨v, h4, h5⟩ := RDs.get (RDs.mono k _ r) h3
      refine ⟨⟨vs, v, g2, h4⟩, fun u H3 ⟨T, x, e1, e2, e3, e4⟩ => ?_⟩
      have := e4 vs g2
      rw [h4] at this
      cases this
      subst e1 e3
      have x2 := Ext.new1 (o := .tup [.int (i : Nat), v]) R2.wf e2
      exact ⟨⟨upd q2.H T (.tup [.int (i : Nat), v]), q2.L, q2.r⟩, rfl, x2, R2.new1 e2, .tup (.inl ⟨upd_same, R2.wf.no e2⟩) (.cons (.int _) (.cons (RD.mono x2.kp _ h5) .nil))⟩
    · have hi : i = ds.length := by simpa using hi
      exact ⟨vs, SqL.of (g.mono k).1, by rw [r.length]; exact Nat.le_of_eq hi.symm⟩
  | _ => exact p1.elim
theorem ge_neg (h : GE X C W e m) : GE X C W (.UnaryOp .USub e pos) (eOp1 opNeg m) := PE.imp (pe_un un_neg h) fun σ H Q ⟨q0, q, env, s, eq, E, L, p⟩ => by
  subst eq
  refine tM.first (f := fun x s1 => .ofO (opNeg s1 x) s1) E L p rD_any fun x s1 vx q1 x1 E1 L1 y1 p1 => ?_
  cases y1 with
  | int i => exact ⟨i, rfl, p1 _ q1 (Ext.refl q1) L1 (.int _)⟩
  | _ => exact p1.elim
theorem chain_imp {K : PySem.W.Frag} {r r' : R2} {g h : Op2} (hs : SimOp K C r g) (hs' : SimOp K C r' h) (σ : St) (H : Hp) (Q : VK) (z : tM K C W (rD K) (eChain g h ma mb mc) σ H Q) : tChain r r' (tM K C W (rB K) ma) (tM K C W (rB K) mb) (tM K C W (rB K) mc) σ H Q := by
  obtain ⟨q0, q, env, s, eq, E, L, p⟩ := z
  subst eq
  refine tM.first (f := fun x s1 => (mb env s1).bind fun y s2 => (Res.ofO (g s2 x y) s2).bind fun z s3 => (asB z s3).bind fun k s4 => if k then (mc env s4).bind fun w s5 => .ofO (h s5 y w) s5 else .ok (.bl false) s4) E L p rD_any fun x s1 vx q1 x1 E1 L1 y1 p1 => ?_
  refine tM.first (f := fun y s2 => (Res.ofO (g s2 x y) s2).bind fun z s3 => (asB z s3).bind fun k s4 => if k then (mc env s4).bind fun w s5 => .ofO (h s5 y w) s5 else .ok (.bl false) s4) E1 L1 p1 rD_any fun y s2 vy q2 x2 E2 L2 y2 p2 => ?_
  cases e : g s2 x y with
  | none => rw [e] at p2; exact p2.elim
  | some z =>
    rw [e] at p2
    refine hs q2 s2 x y vx vy z _ L2 (y1.ext x2) y2 e fun v q3 x3 r3 d3 => ?_
    cases d3 with
    | bl k =>
      refine ⟨k, rfl, ?_⟩
      simp only [Res.ofO_some, Res.bind_ok, asB_bl] at p2
      cases k with
      | false => exact iteF (p2 (.bl false) q3 x3 r3 (.bl false))
      | true =>
        refine iteT ?_
        simp only [if_true] at p2
        refine tM.first (f := fun w s5 => .ofO (h s5 y w) s5) (E2.ext x3) r3 (Post.later x3 p2 fun _ _ _ _ w => w) rD_any fun w s5 vw q4 x4 E4 L4 y4 p4 => ?_
        cases e4 : h s5 y w with
        | none => rw [e4] at p4; exact p4.elim
        | some z => rw [e4] at p4; exact hs' q4 s5 y w vy vw z _ L4 (y2.ext (x3.trans x4)) y4 e4 fun v q5 x5 r5 d5 => p4 v q5 x5 r5 d5
    | _ => exact p2.elim
theorem ge_chain {op op' : CmpOp} {r r' : R2} {g h : Op2} (ho : OpR X (compareOp op) r) (hs : SimOp X.K C r g) (ho' : OpR X (compareOp op') r') (hs' : SimOp X.K C r' h) (ha : GB X C W a ma) (hb : GB X C W b mb) (hc : GB X C W c mc)
    (hm : lastMarks [op, op'] [b, c] = false := by with_unfolding_all rfl) : GE X C W (.Compare a [op, op'] [b, c] pos) (eChain g h ma mb mc) := PE.imp (pe_chain ho ho' ha hb hc hm) (chain_imp hs hs')
theorem gt_chain {op op' : CmpOp} {r r' : R2} {g h : Op2} (ho : OpR X (compareOp op) r) (hs : SimOp X.K C r g) (ho' : OpR X (compareOp op') r') (hs' : SimOp X.K C r' h) (ha : GB X C W a ma) (hb : GB X C W b mb) (hc : GB X C W c mc)
    (hm : lastMarks [op, op'] [b, c] = false := by with_unfolding_all rfl) : GT X C W (.Compare a [op, op'] [b, c] pos) (tVal (eChain g h ma mb mc)) := PT.imp (pt_chain ho ho' ha hb hc hm) (test_imp (chain_imp hs hs'))

/-! ### texts -/
theorem cutC_spl (c : Nat) : ∀ (l acc : List Nat), spl [c] 0 acc l = (match cutC c l with | [] => [acc] | y :: ys => (acc ++ y) :: ys)
  | [], acc => by rw [spl_nil]; simp [cutC]
  | x :: r, acc => by
    by_cases h : x = c
    · subst h
      rw [spl_hit (by simp [pre])]
      simp only [cutC, List.length_cons, List.length_nil, Nat.zero_add, Nat.sub_self, if_true]
      rw [cutC_spl x r []]
      cases e : cutC x r with
      | nil => cases r <;> simp [cutC] at e; split at e <;> first | (cases e) | (split at e <;> cases e)
      | cons y ys => simp
    · rw [spl_miss (by simp [pre]; intro z; exact h z)]
      rw [cutC_spl c r (acc ++ [x])]
      simp only [cutC, if_neg h]
      cases e : cutC c r with
      | nil => simp
      | cons y ys => simp
theorem cutC_ne (c : Nat) (l : List Nat) : cutC c l ≠ [] := by
  cases l with
  | nil => simp [cutC]
  | cons x r =>
    simp only [cutC]
    split
    · simp
    · split <;> simp
theorem split_cutC (u : List Nat) (c : Nat) (hc : c < 256) : (Txt.split ⟨u.toArray⟩ ⟨#[c]⟩) = (cutC c u).map fun l => (⟨l.toArray⟩ : Str) := by
  have h := split_spl ⟨u.toArray⟩ ⟨#[c]⟩ (by simp) (kind_ok (by simp [hc]))
  have e : spl (tl ⟨#[c]⟩) 0 [] (tl ⟨u.toArray⟩) = cutC c u := by
    show spl [c] 0 [] u = _
    rw [cutC_spl]
    cases e : cutC c u with
    | nil => exact absurd e (cutC_ne c u)
    | cons y ys => simp
  rw [e] at h
  rw [← h, List.map_map]
  have : (fun l => (⟨l.toArray⟩ : Str)) ∘ tl = id := funext fun x => mk_tl x
  rw [this, List.map_id]
theorem RDs.strs {K : PySem.W.Frag} {q : Stt} : ∀ (ls : List (List Nat)), RDs K q (ls.map D.str) ((ls.map fun l => (⟨l.toArray⟩ : Str)).map V.str)
  | [] => .nil
  | l :: ls => .cons (.str l) (RDs.strs ls)
theorem cutC_len (c : Nat) : ∀ l : List Nat, (cutC c l).length ≤ l.length + 1
  | [] => by simp [cutC]
  | x :: r => by
    have ih := cutC_len c r
    simp only [cutC]
    split
    · simp; omega
    · cases e : cutC c r with
      | nil => simp
      | cons y ys => rw [e] at ih; simp at ih ⊢; omega
theorem gl_split (ho : GE X C W o mo) (he : GE X C W e m) (hs : starEach [e] X.env = [(false, eval e X.env)] := by rfl) (hbase : attributeBase o "split" X.env (eval o X.env) = eval o X.env := by rfl) (hline : (apos.endLine == pos.line) = true := by rfl) :
    GL X C W (.Call (.Attribute o "split" apos) [e] [] pos) (lSplit mo m) := PE.imp (pe_split ho he hs hbase hline) fun σ H Q ⟨q0, q, env, s, eq, E, L, p⟩ => by
  subst eq
  refine tM.first0 (f := fun x s1 => match x with | .str u => (m env s1).bind fun y s2 => cutAt u y s2 | _ => .stk) E L p fun x s1 vx q1 x1 L1 y1 p1 => ?_
  cases y1 with
  | str u =>
    refine ⟨⟨_, rfl⟩, q0, q1, env, s1, rfl, E.ext x1, L1, ?_⟩
    simp only at p1
    cases e1 : m env s1 with
    | stk => rw [e1] at p1; exact p1.elim
    | exc z t => rw [e1] at p1; exact fun c d q' w r => p1 c d q' (x1.trans w) r
    | ok y s2 =>
      rw [e1] at p1
      intro vy q2 x2 L2 y2
      simp only [Res.bind_ok] at p1
      unfold cutAt at p1
      split at p1
      · rename_i c
        split at p1
        · rename_i hl
          cases y2
          refine ⟨_, _, rfl, rfl, by simp [Str.length], ?_, fun l hl' => ?_⟩
          · have : cap + 2 ≤ sizeLine := by rw [sizeLine_eq]; decide
            simp only [Str.length, List.size_toArray]; omega
          · rw [split_cutC u c hl.2]
            exact p1 _ _ ((x1.trans x2).trans (Ext.newL L2.wf hl')) (L2.newL hl') (RN.newL L.wf (x1.trans x2) L2 hl' (RDs.strs _))
        · exact p1.elim
      · exact p1.elim
  | _ => exact p1.elim
theorem joinC_L (S : List Nat) : ∀ ls : List (List Nat), joinL S ls = joinC S ls
  | [] => rfl
  | [_] => rfl
  | x :: y :: r => by
    show x ++ (S ++ joinL S (y :: r)) = x ++ S ++ joinC S (y :: r)
    rw [joinC_L S (y :: r), List.append_assoc]
theorem strsOf_vals {K : PySem.W.Frag} {q : Stt} : ∀ {ds : List D} {vs : List V} {ls : List (List Nat)}, RDs K q ds vs → strsOf ds = some ls → vs = (ls.map fun l => (⟨l.toArray⟩ : Str)).map V.str
  | [], _, _, h, e => by cases h; cases e; rfl
  | d :: ds, _, ls, h, e => by
    cases h with
    | cons a b =>
      cases a with
      | str x =>
        simp only [strsOf] at e
        cases e2 : strsOf ds with
        | none => rw [e2] at e; cases e
        | some xs =>
          rw [e2] at e
          cases e
          rw [strsOf_vals b e2]
          rfl
      | _ => cases e
theorem join_of (sep : List Nat) (ls : List (List Nat)) : Txt.join ⟨sep.toArray⟩ (ls.map fun l => (⟨l.toArray⟩ : Str)) = ⟨(joinC sep ls).toArray⟩ := by
  rw [join_eq]
  have h := tl_join ⟨sep.toArray⟩ (ls.map fun l => (⟨l.toArray⟩ : Str))
  rw [List.map_map] at h
  have e : tl ∘ (fun l => (⟨l.toArray⟩ : Str)) = (id : List Nat → List Nat) := funext fun l => rfl
  rw [e, List.map_id] at h
  rw [show tl (⟨sep.toArray⟩ : Str) = sep from rfl, joinC_L] at h
  rw [← h, mk_tl]
theorem ge_join (ho : GE X C W o mo) (he : GB X C W e m) (hs : starEach [e] X.env = [(false, eval e X.env)] := by rfl) (hbase : attributeBase o "join" X.env (eval o X.env) = eval o X.env := by rfl) (hline : (apos.endLine == pos.line) = true := by rfl) :
    GE X C W (.Call (.Attribute o "join" apos) [e] [] pos) (eJoin mo m) := PE.imp (pe_join ho he hs hbase hline) fun σ H Q ⟨q0, q, env, s, eq, E, L, p⟩ => by
  subst eq
  refine tM.first (f := fun x s1 => match x with | .str u => (m env s1).bind fun y s2 => joinAt u y s2 | _ => .stk) E L p rD_any fun x s1 vx q1 x1 E1 L1 y1 p1 => ?_
  cases y1 with
  | str u =>
    refine ⟨⟨_, rfl⟩, tM.first (f := fun y s2 => joinAt u y s2) E1 L1 p1 rD_any fun y s2 vy q2 x2 E2 L2 y2 p2 => ?_⟩
    unfold joinAt at p2
    split at p2
    · rename_i ds hs
      split at p2
      · rename_i xs hx
        split at p2
        · rename_i hl
          obtain ⟨a, vs, rfl, h1, r⟩ := y2.seq L2 hs
          have ev := strsOf_vals r hx
          subst ev
          refine ⟨_, a, xs.map fun l => (⟨l.toArray⟩ : Str), rfl, rfl, sqOr h1, ?_, ?_⟩
          · have e1 : ((xs.map fun l => (⟨l.toArray⟩ : Str)).map (·.length)) = xs.map List.length := by
              rw [List.map_map]
              exact List.map_congr_left fun l _ => by simp [Str.length]
            rw [e1, List.length_map]
            have e2 : xs.length * (⟨u.toArray⟩ : Str).length ≤ 10000 * 10 := Nat.mul_le_mul hl.2.1 (by simpa [Str.length] using hl.1)
            have := hl.2.2
            unfold cap at this
            omega
          · rw [join_of]
            exact p2 _ q2 (Ext.refl q2) L2 (.str _)
        · exact p2.elim
      · exact p2.elim
    · exact p2.elim
  | _ => exact p1.elim

/-! ### sums of lists, ranges -/
theorem gl_add (ha : GB X C W a ma) (hb : GB X C W b mb) : GL X C W (.BinOp a .Add b pos) (lAdd ma mb) := PE.imp (pe_op op_cat ha hb) fun σ H Q ⟨q0, q, env, s, eq, E, L, p⟩ => by
  subst eq
  refine tM.first0 (f := fun x s1 => (mb env s1).bind fun y s2 => match MP.view s2 x, MP.view s2 y with | .lst xs, .lst ys => if xs.length + ys.length ≤ cap then .ok (xs ++ ys) s2 else .stk | _, _ => .stk) E L p fun x s1 vx q1 x1 L1 y1 p1 => ?_
  refine ⟨q0, q1, env, s1, rfl, E.ext x1, L1, ?_⟩
  cases e1 : mb env s1 with
  | stk => rw [e1] at p1; exact p1.elim
  | exc z t => rw [e1] at p1; exact fun c d q' w r => p1 c d q' (x1.trans w) r
  | ok y s2 =>
    rw [e1] at p1
    intro vy q2 x2 L2 y2
    simp only [Res.bind_ok] at p1
    rcases (y1.ext x2).view L2 with ⟨ds, u, vs, ev, rfl, g, r⟩ | ⟨ev, r, nl⟩
    · rcases y2.view L2 with ⟨ds', u', vs', ev', rfl, g', r'⟩ | ⟨ev', r', nl'⟩
      · rw [ev, ev'] at p1
        simp only at p1
        by_cases hl : ds.length + ds'.length ≤ cap
        · rw [if_pos hl] at p1
          refine ⟨u, u', vs, vs', rfl, rfl, g, g', by rw [r.length, r'.length]; exact lenS hl, fun l hl' => ?_⟩
          exact p1 _ _ ((x1.trans x2).trans (Ext.newL L2.wf hl')) (L2.newL hl') (RN.newL L.wf (x1.trans x2) L2 hl' (r.append r'))
        · rw [if_neg hl] at p1; exact p1.elim
      · rw [ev, ev'] at p1
        cases y with
        | lst ds => exact absurd rfl (nl' ds)
        | _ => exact p1.elim
    · rw [ev] at p1
      cases x with
      | lst ds => exact absurd rfl (nl ds)
      | _ => exact p1.elim
theorem rgV_D {K : PySem.W.Frag} {q : Stt} (n : Int) (h : 0 ≤ n) : RDs K q (intsD 0 n.toNat) (rgV 0 n) := by
  unfold intsD rgV
  rw [Int.sub_zero]
  generalize List.range n.toNat = l
  induction l with
  | nil => exact .nil
  | cons a l ih => exact .cons (.int _) ih
theorem ge_tupRg (hc : X.calm = true) (hm : X.mg "tuple" = none) (hr : X.mg "range" = none) (ha : GE X C W a ma) (hg : Gl X "tuple" := by rfl) (hgr : Gl X "range" := by rfl) (na : starEach [a] X.env = (false, eval a X.env) :: starEach [] X.env := by rfl)
    (nb : starEach [.Call (.Name "range" p2) [a] [] apos] X.env = (false, eval (.Call (.Name "range" p2) [a] [] apos) X.env) :: starEach [] X.env := by rfl) :
    GE X C W (.Call (.Name "tuple" p) [.Call (.Name "range" p2) [a] [] apos] [] pos) (eTupRg ma) := PE.imp (pe_tupRg hc hg hm (prg_1 hgr hr ha na) nb) fun σ H Q ⟨q0, q, env, s, eq, E, L, p⟩ => by
  subst eq
  refine tM.first (f := fun x s1 => match x with | .int j => if 0 ≤ j ∧ j ≤ cap then .ok (.tup (intsD 0 j.toNat)) s1 else .stk | _ => .stk) E L p rD_any fun x s1 vx q1 x1 E1 L1 y1 p1 => ?_
  cases y1 with
  | int j =>
    simp only at p1
    by_cases hj : 0 ≤ j ∧ j ≤ cap
    · rw [if_pos hj] at p1
      have hc : (cap : Int) = 1000000 := rfl
      refine ⟨j, rfl, RgOk.of_le (Int.le_refl 0) (by omega) (by omega) hj.1, fun u hu => ?_⟩
      have x2 := Ext.new1 (o := .tup (rgV 0 j)) L1.wf hu
      exact p1 _ _ x2 (L1.new1 hu) (.tup (.inl ⟨upd_same, L1.wf.no hu⟩) (rgV_D j hj.1))
    · rw [if_neg hj] at p1; exact p1.elim
  | _ => exact p1.elim

/-! ### never; two names at once -/
theorem gs_never : GS X C W st sNever := ⟨fun pins s σ H D I ⟨q0, q, env, t, eq, X0, E, L, p⟩ => p.elim⟩
theorem gss_never {sts : List Stmt} : GSs X C W sts sNever := ⟨fun pins s σ H D I ⟨q0, q, env, t, eq, X0, E, L, p⟩ => p.elim⟩
theorem gs_par (i j : Nat) {x y : Str} {ml : MA} {px py pt pt2 : Pos} {kt k2} (hc : X.calm = true) (hN : X.N.Nodup) (ha : GA X C W [a, b] ml) (hi : X.N[i]? = some x := by rfl) (hj : X.N[j]? = some y := by rfl) (hij : i ≠ j := by decide)
    (hx : X.env.scope.names.lookup x = some .local := by rfl) (hy : X.env.scope.names.lookup y = some .local := by rfl)
    (hw : swappedStores [.Tuple [.Name x px, .Name y py] kt pt] (.Tuple [a, b] k2 pt2) X.env = pure (some [x, y]) := by rfl) (hs : swapsWithSole [.Tuple [.Name x px, .Name y py] kt pt] (.Tuple [a, b] k2 pt2) pos.line X.env = pure false := by rfl) :
    GS X C W (.Assign [.Tuple [.Name x px, .Name y py] kt pt] (.Tuple [a, b] k2 pt2) pos) (sPar i j ml) := PS.imp (ps_par hc hN hi hj hij hx hy ha hw hs) fun D σ H ⟨q0, q, env, s, eq, X0, E, L, p⟩ => by
  subst eq
  refine tS.first X0 E L p fun ds s1 vs q1 x1 X1 E1 L1 y1 p1 => ?_
  cases y1 with
  | nil => exact p1.elim
  | cons r1 rr =>
    cases rr with
    | nil => exact p1.elim
    | cons r2 rr =>
      cases rr with
      | nil => exact ⟨_, _, rfl, p1 _ q1 X1 (Kp.refl q1) L1 ((E1.set i r1).set j r2)⟩
      | cons r3 rr => exact p1.elim
end
end MP

/-! Written values of the module, written dicts, dicts of one's own, instances made with keywords. Own text. -/
namespace MP
open PySem L2 TL

/-! ### a written value is a tree -/
def all2 (f : Value → D → Bool) : List Value → List D → Bool
  | [], [] => true
  | u :: us, d :: ds => f u d && all2 f us ds
  | _, _ => false
def KFlat : Value → D → Bool
  | .none, .non => true
  | .bool a, .bl b => a == b
  | .int i _, .int j => i == j
  | .str x _, .str cs => decide (x.cps.toList = cs)
  | _, _ => false
def KVal (K : PySem.W.Frag) : Nat → Value → D → Bool
  | 0, u, d => KFlat u d
  | n + 1, u, d => match u, d with
    | .ref a, .tup ds => (match K.lookup a with
      | some o => decide (o.cls = .type "tuple") && (match o.data with | .seq its _ => decide (its.size ≤ 1000) && all2 (KVal K n) its.toList ds | _ => false)
      | none => false)
    | u, d => KFlat u d
theorem kflat {K : PySem.W.Frag} {u : Value} {d : D} (h : KFlat u d = true) : ∃ v, RelV v u ∧ ∀ q : Stt, RD K q d v := by
  unfold KFlat at h
  split at h
  · exact ⟨.non, rfl, fun _ => .non⟩
  · rename_i a b
    have : a = b := by simpa using h
    subst this
    exact ⟨.bl a, rfl, fun _ => .bl a⟩
  · rename_i i t j
    have : i = j := by simpa using h
    subst this
    exact ⟨.int i, ⟨t, rfl⟩, fun _ => .int i⟩
  · rename_i x t cs
    have : x.cps.toList = cs := by simpa using h
    subst this
    refine ⟨.str ⟨x.cps.toList.toArray⟩, ⟨t, ?_⟩, fun _ => .str _⟩
    obtain ⟨l⟩ := x
    rfl
  · cases h
theorem kall {K : PySem.W.Frag} {f : Value → D → Bool} (hf : ∀ u d, f u d = true → ∃ v, RelV v u ∧ ∀ q : Stt, RD K q d v) : ∀ (us : List Value) (ds : List D), all2 f us ds = true → ∃ vs, Vals vs us ∧ ∀ q : Stt, RDs K q ds vs
  | [], [], _ => ⟨[], .nil, fun _ => .nil⟩
  | u :: us, d :: ds, h => by
    unfold all2 at h
    rw [Bool.and_eq_true] at h
    obtain ⟨v, h1, h2⟩ := hf u d h.1
    obtain ⟨vs, h3, h4⟩ := kall hf us ds h.2
    exact ⟨v :: vs, .cons h1 h3, fun q => .cons (h2 q) (h4 q)⟩
  | [], _ :: _, h => by cases h
  | _ :: _, [], h => by cases h
theorem kval {K : PySem.W.Frag} : ∀ (n : Nat) (u : Value) (d : D), KVal K n u d = true → ∃ v, RelV v u ∧ ∀ q : Stt, RD K q d v
  | 0, u, d, h => kflat h
  | n + 1, u, d, h => by
    unfold KVal at h
    split at h
    · rename_i a ds
      split at h
      · rename_i o ho
        rw [Bool.and_eq_true] at h
        obtain ⟨h1, h2⟩ := h
        split at h2
        · rename_i its c hd
          rw [Bool.and_eq_true] at h2
          obtain ⟨vs, h3, h4⟩ := kall (kval n) _ _ h2.2
          refine ⟨.ref a, rfl, fun q => .tup (.inr (.inr ⟨o, its, c, ho, by simpa using h1, hd, ?_, h3⟩)) (h4 q)⟩
          have := of_decide_eq_true h2.1
          exact lenS (by unfold cap; omega)
        · cases h2
      · cases h
    · exact kflat h
def KEnts (K : PySem.W.Frag) (n : Nat) : List DictEntry → List (List Nat × D) → Bool
  | [], [] => true
  | e :: es, (cs, d) :: tab => (match e.key with | .str x _ => decide (x.cps.toList = cs) | _ => false) && (KVal K n e.val d && KEnts K n es tab)
  | _, _ => false
/-- at d a written dict with text keys -/
def KDic (K : PySem.W.Frag) (w : World) (d : Addr) (tab : List (List Nat × D)) : Prop := ∃ es n, K.lookup d = some ⟨.type "dict", none, .dict es n, #[]⟩ ∧ PySem.W.KeysLit w.params es.toList ∧ (d == sysModules) = false ∧ KEnts K 6 es.toList tab = true
theorem kents {K : PySem.W.Frag} (n : Nat) (cs : List Nat) : ∀ (es : List DictEntry) (tab : List (List Nat × D)), KEnts K n es tab = true →
    es.any (·.refKey) = false ∧ ((tab.lookup cs = none ∧ es.find? (·.key.isStr ⟨cs.toArray⟩) = none) ∨ ∃ d e v, tab.lookup cs = some d ∧ es.find? (·.key.isStr ⟨cs.toArray⟩) = some e ∧ RelV v e.val ∧ ∀ q : Stt, RD K q d v)
  | [], [], _ => ⟨rfl, .inl ⟨rfl, rfl⟩⟩
  | e :: es, (c, d) :: tab, h => by
    unfold KEnts at h
    rw [Bool.and_eq_true, Bool.and_eq_true] at h
    obtain ⟨h1, h2, h3⟩ := h
    obtain ⟨r, ih⟩ := kents n cs es tab h3
    obtain ⟨hash, key, val⟩ := e
    cases key with
    | str x t =>
      have hx : x.cps.toList = c := by simpa using h1
      refine ⟨by rw [List.any_cons, r]; rfl, ?_⟩
      have ek : (Value.str x t).isStr ⟨cs.toArray⟩ = decide (cs = c) := by
        rw [← hx]
        obtain ⟨⟨l⟩⟩ := x
        show ((⟨⟨l⟩⟩ : Str) == ⟨cs.toArray⟩) = decide (cs = l)
        by_cases e : cs = l
        · subst e; simp
        · have : ¬ ((⟨⟨l⟩⟩ : Str) = ⟨cs.toArray⟩) := fun z => e (by injection z with z; exact (Array.mk.inj z).symm)
          simp [e, this]
      by_cases e : cs = c
      · obtain ⟨v, h4, h5⟩ := kval n val d h2
        refine .inr ⟨d, ⟨hash, .str x t, val⟩, v, ?_, ?_, h4, h5⟩
        · rw [List.lookup_cons, e]; simp
        · rw [List.find?_cons]
          simp only [ek, e, decide_true]
          rw [e] at ek
          rw [ek]
          simp
      · have e1 : (cs == c) = false := by simpa using e
        rw [List.lookup_cons, e1, List.find?_cons]
        simp only [ek, e, decide_false]
        exact ih
    | _ => cases h1
  | [], _ :: _, h => by cases h
  | _ :: _, [], h => by cases h
theorem kdic {K : PySem.W.Frag} {w : World} {d : Addr} {tab : List (List Nat × D)} (D : KDic K w d tab) (cs : List Nat) :
    (tab.lookup cs = none ∧ PySem.W.nsIn K d ⟨cs.toArray⟩ = some none) ∨ ∃ dd u v, tab.lookup cs = some dd ∧ PySem.W.nsIn K d ⟨cs.toArray⟩ = some (some u) ∧ RelV v u ∧ ∀ q : Stt, RD K q dd v := by
  obtain ⟨es, n, h1, h2, h3, h4⟩ := D
  obtain ⟨r, h⟩ := kents 6 cs es.toList tab h4
  unfold PySem.W.nsIn
  rw [h1]
  dsimp only
  rcases h with ⟨a, b⟩ | ⟨dd, e, v, a, b, c, f⟩
  · rw [b]
    exact .inl ⟨a, by simp [r]⟩
  · rw [b]
    exact .inr ⟨dd, e.val, v, a, rfl, c, f⟩
section
variable {X : Cx} {C : Tab} {W : Wx} {pos p p2 apos tpos cpos : Pos} {tg e a b c o f : Expr} {es elts : List Expr} {m ma mb mc mo mf : ME} {st : Stmt} {x : Str} {d : Addr} {tab : List (List Nat × D)}
theorem ge_kglob {u : Value} (n : Nat) (dd : D) (hm : X.mg x = some u) (k : KVal X.K n u dd = true) (hg : Gl X x := by rfl) (hd : (x == ("__debug__" : Str)) = false := by decide) : GE X C W (.Name x pos) (eC dd) := by
  obtain ⟨v, h1, h2⟩ := kval n u dd k
  exact ge_glob dd hg hm h1 h2 hd
theorem kd_of (D : KDic X.K X.w d tab) : ∃ es n, KDict X.K X.w d es n := by
  obtain ⟨es, n, h1, h2, h3, h4⟩ := D
  exact ⟨es, n, h1, h2, h3⟩
theorem ge_kix (hm : X.mg x = some (.ref d)) (D : KDic X.K X.w d tab) (hb : GE X C W b mb) (hp : PlainIx b := by exact fun _ _ => rfl) (hg : Gl X x := by rfl) (hd : (x == ("__debug__" : Str)) = false := by decide) : GE X C W (.Subscript (.Name x p) b pos) (eOp1 (kGet tab) mb) :=
  PE.imp (pe_ix ix_kdict (pe_glob (v := .ref d) hg hm rfl hd) hb hp) fun σ H Q ⟨q0, q, env, s, eq, E, L, p⟩ => by
    subst eq
    refine tM.first (f := fun x s1 => .ofO (kGet tab s1 x) s1) E L p rD_any fun x s1 vx q1 x1 E1 L1 y1 p1 => ?_
    cases y1 with
    | str cs =>
      unfold kGet at p1; dsimp only at p1
      obtain ⟨es, n, h1, h2, h3, h4⟩ := id D
      rcases kdic D cs with ⟨k1, k2⟩ | ⟨dd, u, v, k1, k2, k3, k4⟩
      · rw [k1] at p1; exact p1.elim
      · rw [k1] at p1
        exact ⟨d, _, v, rfl, rfl, ⟨es, n, u, h1, h2, k2, k3⟩, p1 v q1 (Ext.refl q1) L1 (k4 q1)⟩
    | _ => exact p1.elim
theorem ge_kin (hm : X.mg x = some (.ref d)) (D : KDic X.K X.w d tab) (ha : GE X C W a ma) (hk : behindInMarks .In (.Name x p) = false := by with_unfolding_all rfl) (hg : Gl X x := by rfl) (hd : (x == ("__debug__" : Str)) = false := by decide) : GE X C W (.Compare a [.In] [.Name x p] pos) (eOp1 (kIn tab) ma) := by
  obtain ⟨es, n, D'⟩ := kd_of D
  refine PE.imp (pe_cmpR (op_in_kd D') ha (pe_glob (v := .ref d) hg hm rfl hd) hk) fun σ H Q ⟨q0, q, env, s, eq, E, L, p⟩ => ?_
  subst eq
  refine tM.first (f := fun x s1 => .ofO (kIn tab s1 x) s1) E L p rD_any fun x s1 vx q1 x1 E1 L1 y1 p1 => ?_
  cases y1 with
  | str cs =>
    unfold kIn at p1; dsimp only at p1
    rcases kdic D cs with ⟨k1, k2⟩ | ⟨dd, u, v, k1, k2, k3, k4⟩
    · rw [k1] at p1; exact ⟨_, _, rfl, rfl, k2, p1 _ q1 (Ext.refl q1) L1 (.bl _)⟩
    · rw [k1] at p1; exact ⟨_, _, rfl, rfl, k2, p1 _ q1 (Ext.refl q1) L1 (.bl _)⟩
  | _ => exact p1.elim
theorem ge_knotin (hm : X.mg x = some (.ref d)) (D : KDic X.K X.w d tab) (ha : GE X C W a ma) (hk : behindInMarks .NotIn (.Name x p) = false := by with_unfolding_all rfl) (hg : Gl X x := by rfl) (hd : (x == ("__debug__" : Str)) = false := by decide) : GE X C W (.Compare a [.NotIn] [.Name x p] pos) (eOp1 (kNotIn tab) ma) := by
  obtain ⟨es, n, D'⟩ := kd_of D
  refine PE.imp (pe_cmpR (op_notIn_kd D') ha (pe_glob (v := .ref d) hg hm rfl hd) hk) fun σ H Q ⟨q0, q, env, s, eq, E, L, p⟩ => ?_
  subst eq
  refine tM.first (f := fun x s1 => .ofO (kNotIn tab s1 x) s1) E L p rD_any fun x s1 vx q1 x1 E1 L1 y1 p1 => ?_
  cases y1 with
  | str cs =>
    unfold kNotIn at p1; dsimp only at p1
    rcases kdic D cs with ⟨k1, k2⟩ | ⟨dd, u, v, k1, k2, k3, k4⟩
    · rw [k1] at p1; exact ⟨_, _, rfl, rfl, k2, p1 _ q1 (Ext.refl q1) L1 (.bl _)⟩
    · rw [k1] at p1; exact ⟨_, _, rfl, rfl, k2, p1 _ q1 (Ext.refl q1) L1 (.bl _)⟩
  | _ => exact p1.elim
theorem gt_kin (hm : X.mg x = some (.ref d)) (D : KDic X.K X.w d tab) (ha : GE X C W a ma) (hk : behindInMarks .In (.Name x p) = false := by with_unfolding_all rfl) (hg : Gl X x := by rfl) (hd : (x == ("__debug__" : Str)) = false := by decide) : GT X C W (.Compare a [.In] [.Name x p] pos) (tVal (eOp1 (kIn tab) ma)) := by
  obtain ⟨es, n, D'⟩ := kd_of D
  refine PT.imp (pt_cmpR (op_in_kd D') ha (pe_glob (v := .ref d) hg hm rfl hd) hk) (test_imp fun σ H Q ⟨q0, q, env, s, eq, E, L, p⟩ => ?_)
  subst eq
  refine tM.first (f := fun x s1 => .ofO (kIn tab s1 x) s1) E L p rD_any fun x s1 vx q1 x1 E1 L1 y1 p1 => ?_
  cases y1 with
  | str cs =>
    unfold kIn at p1; dsimp only at p1
    rcases kdic D cs with ⟨k1, k2⟩ | ⟨dd, u, v, k1, k2, k3, k4⟩
    · rw [k1] at p1; exact ⟨_, _, rfl, rfl, k2, p1 _ q1 (Ext.refl q1) L1 (.bl _)⟩
    · rw [k1] at p1; exact ⟨_, _, rfl, rfl, k2, p1 _ q1 (Ext.refl q1) L1 (.bl _)⟩
  | _ => exact p1.elim
theorem gt_knotin (hm : X.mg x = some (.ref d)) (D : KDic X.K X.w d tab) (ha : GE X C W a ma) (hk : behindInMarks .NotIn (.Name x p) = false := by with_unfolding_all rfl) (hg : Gl X x := by rfl) (hd : (x == ("__debug__" : Str)) = false := by decide) : GT X C W (.Compare a [.NotIn] [.Name x p] pos) (tVal (eOp1 (kNotIn tab) ma)) := by
  obtain ⟨es, n, D'⟩ := kd_of D
  refine PT.imp (pt_cmpR (op_notIn_kd D') ha (pe_glob (v := .ref d) hg hm rfl hd) hk) (test_imp fun σ H Q ⟨q0, q, env, s, eq, E, L, p⟩ => ?_)
  subst eq
  refine tM.first (f := fun x s1 => .ofO (kNotIn tab s1 x) s1) E L p rD_any fun x s1 vx q1 x1 E1 L1 y1 p1 => ?_
  cases y1 with
  | str cs =>
    unfold kNotIn at p1; dsimp only at p1
    rcases kdic D cs with ⟨k1, k2⟩ | ⟨dd, u, v, k1, k2, k3, k4⟩
    · rw [k1] at p1; exact ⟨_, _, rfl, rfl, k2, p1 _ q1 (Ext.refl q1) L1 (.bl _)⟩
    · rw [k1] at p1; exact ⟨_, _, rfl, rfl, k2, p1 _ q1 (Ext.refl q1) L1 (.bl _)⟩
  | _ => exact p1.elim
/-- D.get(k, e), D a written dict -/
theorem ge_kget2 (hm : X.mg x = some (.ref d)) (D : KDic X.K X.w d tab) (ha : GE X C W a ma) (hf : GE X C W f mf) (hg : Gl X x := by rfl) (hdb : (x == ("__debug__" : Str)) = false := by decide)
    (hM : M2 X (.Name x p) "get" apos a f cpos := by exact ⟨rfl, rfl, rfl, rfl⟩) : GE X C W (.Call (.Attribute (.Name x p) "get" apos) [a, f] [] cpos) (eOp2 (kGetD tab) ma mf) := by
  refine PE.imp (t := fun σ H Q => tM X.K C W (rD X.K) ma σ H fun y H1 => tM X.K C W (rD X.K) mf σ H1 fun z H2 => ∃ (cs : Str) (r : Option Value) (v : V), y = .str cs ∧ PySem.W.nsIn X.K d cs = some r ∧ (∀ u, RelV z u → RelV v (r.getD u)) ∧ Q v H2) ⟨fun pins s σ H Q I h => ?_⟩ fun σ H Q ⟨q0, q, env, s, eq, E, L, p⟩ => ?_
  · obtain ⟨es, n, h1, h2, h3, h4⟩ := D
    refine wpAny_Call_method hM.base hM.few hM.line PySem.F.plainAttrs_dict PySem.F.slot_dict_get PySem.F.type_dict_get (thn ((pe_glob (v := .ref d) hg hm rfl hdb).run pins s σ H (fun x H1 => x = .ref d ∧ H1 = H) I ⟨rfl, rfl⟩) fun u s1 ⟨x, H1, I1, rx, ex, eh⟩ => ?_)
    subst ex eh
    obtain rfl : u = Value.ref d := rx; have hmap := PySem.W.mapOf_K (prog := X.prog) (w := X.w) I1.kIn h1 h2
    refine ⟨hmap.typeIs, fun b z => by cases z; exact ⟨_, I1.kIn _ _ h1, rfl⟩, ?_⟩
    rw [hM.trees]
    refine Calls.callWith_builtin rfl (Calls.evalArgs_plain (Calls.spliced_cons (thn (ha.run pins s1 σ _ _ I1 h) fun iv s2 ⟨y, H2, I2, ry, q2⟩ => Calls.spliced_cons (thn (hf.run pins s2 σ H2 _ I2 q2) fun fv s3 ⟨z, H3, I3, rz, cs, r, v, ey, hn, hv, q3⟩ => Calls.spliced_nil ?_))))
    subst ey
    obtain ⟨t, rfl⟩ := (show ∃ t, iv = Value.str cs t from ry)
    have hmap3 := PySem.W.mapOf_K (prog := X.prog) (w := X.w) I3.kIn h1 h2
    refine call_meetsIn PySem.F.slot_dict_get hmap3.typeIs PySem.F.entry_dict_get (PySem.F.args_dict_get_3 _ _ _) (meets_dict_get_default (strKind X.prog X.w) d (PySem.strKind_is X.prog X.w cs t) h3 fv) ⟨_, hmap3, v, H3, I3.tok _, ?_, q3⟩
    rw [PySem.W.find_K h1 hn]
    exact hv fv rz
  · subst eq
    refine tM.first (f := fun x s1 => (mf env s1).bind fun y s2 => .ofO (kGetD tab s2 x y) s2) E L p rD_any fun y s1 vy q1 x1 E1 L1 y1 p1 => ?_
    refine tM.first (f := fun z s2 => .ofO (kGetD tab s2 y z) s2) E1 L1 p1 rD_any fun z s2 vz q2 x2 E2 L2 y2 p2 => ?_
    cases y1 with
    | str cs =>
      unfold kGetD at p2; dsimp only at p2
      rcases kdic D cs with ⟨k1, k2⟩ | ⟨dd, u, v, k1, k2, k3, k4⟩
      · rw [k1] at p2
        exact ⟨_, none, vz, rfl, k2, fun u r => r, p2 vz q2 (Ext.refl q2) L2 y2⟩
      · rw [k1] at p2
        exact ⟨_, some u, v, rfl, k2, fun _ _ => k3, p2 v q2 (Ext.refl q2) L2 (k4 q2)⟩
    | _ => exact p2.elim
end
end MP

/-! Dicts of one's own; new instances. Own text. -/
namespace MP
open PySem L2 TL

theorem keyEq_iff {a b : D} {y : Key} (h : keyOf b = some y) {z : Key} (g : keyOf a = some z) : keyEq a b = decide (z = y) := by
  unfold keyOf at h g
  split at h <;> split at g <;> first | (cases h; done) | (cases g; done) | skip
  all_goals cases h
  all_goals cases g
  · simp [keyEq]
  · simp [keyEq]
  · simp [keyEq]
  · simp [keyEq]
theorem isKey_of {d : D} (h : isKey d = true) : ∃ k, keyOf d = some k := by
  cases d <;> first | exact ⟨_, rfl⟩ | cases h
theorem kV_of {K : PySem.W.Frag} {q : Stt} {d : D} {v : V} {k : Key} (r : RD K q d v) (h : keyOf d = some k) : v = kV k := by
  cases r <;> first | (cases h; done) | skip
  · cases h; rfl
  · cases h; rfl
section
variable {K : PySem.W.Frag} {q : Stt}
theorem RK.look {x : D} {k : Key} (hk : keyOf x = some k) : ∀ {kvs : List (D × D)} {ks : List (Key × V)}, RK K q kvs ks → (∀ d, dLook kvs x = some d → ∃ v, valV ks k = some v ∧ RD K q d v) ∧ (dLook kvs x = none → valV ks k = none)
  | _, _, .nil => ⟨fun d h => by simp [dLook] at h, fun _ => rfl⟩
  | _, _, .cons (k := a) (d := d) (y := y) (v := v) e r t => by
    have ih := RK.look hk t
    have he := keyEq_iff hk e
    by_cases z : y = k
    · rw [valV_pos z]
      refine ⟨fun d' h => ⟨v, rfl, ?_⟩, fun h => ?_⟩
      · simp only [dLook, List.find?_cons, he, z, decide_true, Option.map_some] at h
        cases h
        exact r
      · simp only [dLook, List.find?_cons, he, z, decide_true, Option.map_some] at h
        cases h
    · rw [valV_neg z]
      have e2 : ∀ r, dLook ((a, d) :: r) x = dLook r x := fun r => by simp [dLook, List.find?_cons, he, z]
      rw [e2]
      exact ih
theorem RK.any {x : D} {k : Key} (hk : keyOf x = some k) : ∀ {kvs : List (D × D)} {ks : List (Key × V)}, RK K q kvs ks → (kvs.any fun kv => keyEq kv.1 x) = ks.any fun kv => decide (kv.1 = k)
  | _, _, .nil => rfl
  | _, _, .cons e r t => by rw [List.any_cons, List.any_cons, RK.any hk t, keyEq_iff hk e]
theorem RK.repl {x y : D} {k : Key} {v : V} (hk : keyOf x = some k) (ry : RD K q y v) : ∀ {kvs : List (D × D)} {ks : List (Key × V)}, RK K q kvs ks → RK K q (kvs.map fun kv => if keyEq kv.1 x then (kv.1, y) else kv) (ks.map fun kv => if kv.1 = k then (kv.1, v) else kv)
  | _, _, .nil => .nil
  | _, _, .cons (y := z) e r t => by
    have he := keyEq_iff hk e
    rw [List.map_cons, List.map_cons]; by_cases w : z = k
    · simp only [he, w, decide_true, if_true]
      exact .cons (by rw [← w]; exact e) ry (RK.repl hk ry t)
    · simp only [he, w, decide_false, if_false]
      exact .cons e r (RK.repl hk ry t)
theorem RK.snoc {x y : D} {k : Key} {v : V} (hk : keyOf x = some k) (ry : RD K q y v) : ∀ {kvs : List (D × D)} {ks : List (Key × V)}, RK K q kvs ks → RK K q (kvs ++ [(x, y)]) (ks ++ [(k, v)])
  | _, _, .nil => .cons hk ry .nil
  | _, _, .cons e r t => .cons e r (RK.snoc hk ry t)
theorem RK.put {x y : D} {k : Key} {v : V} (hk : keyOf x = some k) (ry : RD K q y v) {kvs : List (D × D)} {ks : List (Key × V)} (r : RK K q kvs ks) : RK K q (dPut kvs x y) (putK ks k v) := by
  unfold dPut putK
  rw [r.any hk]
  split
  · exact r.repl hk ry
  · exact r.snoc hk ry
theorem RK.merge : ∀ {more : List (D × D)} {ms : List (Key × V)} {kvs : List (D × D)} {ks : List (Key × V)}, RK K q more ms → RK K q kvs ks → RK K q (dMerge kvs more) (mergeK ks ms)
  | _, _, _, _, .nil, r => r
  | _, _, _, _, .cons (fs := fs) (gs := gs) e a t, r => RK.merge (more := fs) (ms := gs) t (r.put e a)
theorem RK.length : ∀ {kvs : List (D × D)} {ks : List (Key × V)}, RK K q kvs ks → ks.length = kvs.length
  | _, _, .nil => rfl
  | _, _, .cons e a t => by simp [RK.length t]
theorem dic_at {C : Tab} {s : Sto} {d : D} {v : V} {kvs : List (D × D)} (R : Rel K C s q) (h : RD K q d v) (f : dicOf s d = some kvs) : ∃ n a ks, d = .ref n ∧ v = .ref a ∧ s[n]? = some (.dic kvs) ∧ q.r[n]? = some a ∧ q.H a = some (.dK ks) ∧ RK K q kvs ks := by
  unfold dicOf at f
  split at f
  · rename_i n
    split at f
    · rename_i kvs' e
      cases f
      cases h with
      | ref g =>
        obtain ⟨ks, h1, h2⟩ := R.obs n _ _ e g
        exact ⟨n, _, ks, rfl, rfl, e, g, h1, h2⟩
    · cases f
  · cases f
end
section
variable {X : Cx} {C : Tab} {W : Wx} {pos p p2 apos tpos cpos : Pos} {tg e a b c o f i : Expr} {es elts : List Expr} {m ma mb mc mo mf mi : ME} {st : Stmt} {x : Str}
/-- d[k], d a dict of one's own -/
theorem ge_dget (hu : X.A.units + 1 < cLine) (ho : GE X C W o mo) (hi : GE X C W i mi) (hs : NoSl i := by exact fun _ _ => rfl) : GE X C W (.Subscript o i pos) (eOp2 opDGet mo mi) := PE.imp (pe_dget hu ho hi hs) fun σ H Q ⟨q0, q, env, s, eq, E, L, p⟩ => by
  subst eq
  refine tM.first (f := fun x s1 => (mi env s1).bind fun y s2 => .ofO (opDGet s2 x y) s2) E L p rD_any fun x s1 vx q1 x1 E1 L1 y1 p1 => ?_
  refine tM.first (f := fun y s2 => .ofO (opDGet s2 x y) s2) E1 L1 p1 rD_any fun y s2 vy q2 x2 E2 L2 y2 p2 => ?_
  unfold opDGet at p2
  split at p2
  · rename_i hk
    obtain ⟨k, hk⟩ := isKey_of hk
    cases e1 : dicOf s2 x with
    | none => rw [e1] at p2; exact p2.elim
    | some kvs =>
      rw [e1] at p2
      obtain ⟨n, u, ks, rfl, rfl, h1, h2, h3, h4⟩ := dic_at L2 (RD.mono x2.kp x y1) e1
      simp only [Option.bind_some] at p2
      cases e2 : dLook kvs y with
      | none => rw [e2] at p2; exact p2.elim
      | some d =>
        rw [e2] at p2
        obtain ⟨v, h5, h6⟩ := (h4.look hk).1 d e2
        obtain rfl := kV_of y2 hk
        refine ⟨u, v, rfl, ?_, p2 v q2 (Ext.refl q2) L2 h6⟩
        rw [← h5]
        exact DGet.k h3
  · exact p2.elim
theorem din_imp (σ : St) (H : Hp) (Q : VK) (z : tM X.K C W (rD X.K) (eOp2 opDIn mi mo) σ H Q) : tDIn (tM X.K C W (rD X.K) mi) (tM X.K C W (rD X.K) mo) σ H Q := by
  obtain ⟨q0, q, env, s, eq, E, L, p⟩ := z
  subst eq
  refine tM.first (f := fun x s1 => (mo env s1).bind fun y s2 => .ofO (opDIn s2 x y) s2) E L p rD_any fun y s1 vy q1 x1 E1 L1 y1 p1 => ?_
  refine tM.first (f := fun x s2 => .ofO (opDIn s2 y x) s2) E1 L1 p1 rD_any fun x s2 vx q2 x2 E2 L2 y2 p2 => ?_
  unfold opDIn at p2
  split at p2
  · rename_i hk
    obtain ⟨k, hk⟩ := isKey_of hk
    cases e1 : dicOf s2 x with
    | none => rw [e1] at p2; exact p2.elim
    | some kvs =>
      rw [e1] at p2
      obtain ⟨n, u, ks, rfl, rfl, h1, h2, h3, h4⟩ := dic_at L2 y2 e1
      obtain rfl := kV_of y1 hk
      have e3 : (dLook kvs y).isSome = (valV ks k).isSome := by
        cases e2 : dLook kvs y with
        | none => rw [(h4.look hk).2 e2]; rfl
        | some d => obtain ⟨v, h5, _⟩ := (h4.look hk).1 d e2; rw [h5]; rfl
      simp only [Option.map_some, e3] at p2
      exact ⟨u, _, rfl, DGet.k h3, p2 _ q2 (Ext.refl q2) L2 (.bl _)⟩
  · exact p2.elim
theorem ge_din (hu : X.A.units + 1 < cLine) (hi : GE X C W i mi) (ho : GE X C W o mo) (hk : behindInMarks .In o = false := by with_unfolding_all rfl) : GE X C W (.Compare i [.In] [o] pos) (eOp2 opDIn mi mo) := PE.imp (pe_cmp (pc_din hu hi ho) hk) din_imp
theorem gt_din (hu : X.A.units + 1 < cLine) (hi : GE X C W i mi) (ho : GE X C W o mo) (hk : behindInMarks .In o = false := by with_unfolding_all rfl) : GT X C W (.Compare i [.In] [o] pos) (tVal (eOp2 opDIn mi mo)) := PT.imp (pt_cmp (pc_din hu hi ho) hk) (test_imp din_imp)
theorem dnotin_imp (σ : St) (H : Hp) (Q : VK) (z : tM X.K C W (rD X.K) (eOp2 opDNotIn mi mo) σ H Q) : tDNotIn (tM X.K C W (rD X.K) mi) (tM X.K C W (rD X.K) mo) σ H Q := by
  obtain ⟨q0, q, env, s, eq, E, L, p⟩ := z
  subst eq
  refine tM.first (f := fun x s1 => (mo env s1).bind fun y s2 => .ofO (opDNotIn s2 x y) s2) E L p rD_any fun y s1 vy q1 x1 E1 L1 y1 p1 => ?_
  refine tM.first (f := fun x s2 => .ofO (opDNotIn s2 y x) s2) E1 L1 p1 rD_any fun x s2 vx q2 x2 E2 L2 y2 p2 => ?_
  unfold opDNotIn at p2
  split at p2
  · rename_i hk
    obtain ⟨k, hk⟩ := isKey_of hk
    cases e1 : dicOf s2 x with
    | none => rw [e1] at p2; exact p2.elim
    | some kvs =>
      rw [e1] at p2
      obtain ⟨n, u, ks, rfl, rfl, h1, h2, h3, h4⟩ := dic_at L2 y2 e1
      obtain rfl := kV_of y1 hk
      have e3 : (dLook kvs y).isSome = (valV ks k).isSome := by
        cases e2 : dLook kvs y with
        | none => rw [(h4.look hk).2 e2]; rfl
        | some d => obtain ⟨v, h5, _⟩ := (h4.look hk).1 d e2; rw [h5]; rfl
      simp only [Option.map_some, e3] at p2
      exact ⟨u, _, rfl, DGet.k h3, p2 _ q2 (Ext.refl q2) L2 (.bl _)⟩
  · exact p2.elim
theorem ge_dnotin (hu : X.A.units + 1 < cLine) (hi : GE X C W i mi) (ho : GE X C W o mo) (hk : behindInMarks .NotIn o = false := by with_unfolding_all rfl) : GE X C W (.Compare i [.NotIn] [o] pos) (eOp2 opDNotIn mi mo) := PE.imp (pe_cmp (pc_dnotin hu hi ho) hk) dnotin_imp
theorem gt_dnotin (hu : X.A.units + 1 < cLine) (hi : GE X C W i mi) (ho : GE X C W o mo) (hk : behindInMarks .NotIn o = false := by with_unfolding_all rfl) : GT X C W (.Compare i [.NotIn] [o] pos) (tVal (eOp2 opDNotIn mi mo)) := PT.imp (pt_cmp (pc_dnotin hu hi ho) hk) (test_imp dnotin_imp)

/-! ### a dict display -/
/-- a new object, placed at once -/
theorem Ext.newP {q : Stt} (w : WF q) {p : Addr} {o : HO} (h : q.H p = none) : Ext q ⟨upd q.H p o, fun a => q.L a ∨ a = p, q.r ++ [p]⟩ :=
  ⟨fun a u e _ _ => by show upd q.H p o a = _; rw [upd_ne (ne_of_none e h)]; exact e, fun _ x => .inl x,
   fun a u e n _ => ⟨by show upd q.H p o a = _; rw [upd_ne (ne_of_none e h)]; exact e, fun z => z.elim n (ne_of_none e h)⟩, ⟨[p], rfl⟩, fun a ha => (List.mem_append.mp ha).imp id fun z => by
      obtain rfl : a = p := by simpa using z
      exact Fr.of h, fun a u e t => ⟨u, by show upd q.H p o a = _; rw [upd_ne (ne_of_none e h)]; exact e, t⟩⟩
/-- what is protected and of nobody else is placed -/
theorem place_own {K : PySem.W.Frag} {q0 q : Stt} {s : Sto} {p : Addr} {ho : HO} {ob : Ob} (x : Ext q0 q) (R : Rel K C s q) (h0 : Fr q0 p) (hl : q.L p) (hr : p ∉ q.r) (hk : ∃ u, q.H p = some u ∧ NT u ∧ ∀ f, u ≠ .ext f) (nt : NT ho) (h : RO K C ⟨upd q.H p ho, q.L, q.r ++ [p]⟩ p ob) :
    Ext q0 ⟨upd q.H p ho, q.L, q.r ++ [p]⟩ ∧ Kp q ⟨upd q.H p ho, q.L, q.r ++ [p]⟩ ∧ Rel K C (s ++ [ob]) ⟨upd q.H p ho, q.L, q.r ++ [p]⟩ ∧ RD K ⟨upd q.H p ho, q.L, q.r ++ [p]⟩ (.ref s.length) (.ref p) := by
  have k : Kp q ⟨upd q.H p ho, q.L, q.r ++ [p]⟩ := ⟨(Kp.wr hl).u, ⟨[p], rfl⟩⟩
  have xo := Ext.own (o := ho) x h0
  refine ⟨⟨xo.keep, xo.mono, xo.u, pre_trans x.pre ⟨[p], rfl⟩, fun a ha => ?_, xo.th⟩, k, ⟨⟨?_, fun a ha => ?_, fun a l => ?_⟩, by simp [R.len], fun n o a e1 e2 => ?_, let ⟨_, h1, h2, h3⟩ := hk; tabs_upd R.tb h1 h2 h3 nt⟩, .ref ?_⟩
  · rcases List.mem_append.mp ha with z | z
    · exact x.new a z
    · obtain rfl : a = p := by simpa using z
      exact .inr h0
  · exact List.nodup_append.mpr ⟨R.wf.nd, by simp, fun a ha b hb => by
      obtain rfl : b = p := by simpa using hb
      exact fun z => hr (z ▸ ha)⟩
  · rcases List.mem_append.mp ha with z | z
    · exact R.wf.live a z
    · obtain rfl : a = p := by simpa using z
      exact hl
  · by_cases e : a = p
    · exact ⟨ho, by show upd q.H p ho a = _; rw [e]; exact upd_same, nt⟩
    · obtain ⟨u, hu, t⟩ := R.wf.trk a l
      exact ⟨u, by show upd q.H p ho a = _; rw [upd_ne e]; exact hu, t⟩
  · by_cases hn : n < s.length
    · rw [List.getElem?_append_left hn] at e1
      have e3 : (q.r ++ [p])[n]? = some a := e2
      rw [List.getElem?_append_left (by rw [R.len]; exact hn)] at e3
      have hm := List.mem_of_getElem? e3
      have ne : a ≠ p := fun z => hr (z ▸ hm)
      refine (R.obs n o a e1 e3).mono k ?_
      show upd q.H p ho a = _
      rw [upd_ne ne]
    · have hz : n = s.length := by
        have := (List.getElem?_eq_some_iff.mp e1).1
        simp at this; omega
      subst hz
      simp at e1
      have e2 : (q.r ++ [p])[s.length]? = some a := e2
      rw [← R.len] at e2
      simp at e2
      subst e1 e2
      exact h
  · show (q.r ++ [p])[s.length]? = some p
    rw [← R.len]; simp
/-- pairs read follow a function -/
inductive RPs (K : PySem.W.Frag) (q : Stt) : List (D × D) → List (V × V) → Prop
  | nil : RPs K q [] []
  | cons {k d : D} {x y : V} {ps : List (D × D)} {vs : List (V × V)} : RD K q k x → RD K q d y → RPs K q ps vs → RPs K q ((k, d) :: ps) ((x, y) :: vs)
theorem RPs.rk {K : PySem.W.Frag} {q : Stt} : ∀ {ps : List (D × D)} {vs : List (V × V)}, RPs K q ps vs → ps.all (fun kv => isKey kv.1) = true → ∃ ks : List (Key × V), vs = ks.map (fun kv => (kV kv.1, kv.2)) ∧ RK K q ps ks
  | _, _, .nil, _ => ⟨[], rfl, .nil⟩
  | _, _, .cons (y := y) a b t, h => by
    rw [List.all_cons, Bool.and_eq_true] at h; obtain ⟨k, hk⟩ := isKey_of h.1
    obtain ⟨ks, e, r⟩ := RPs.rk t h.2
    exact ⟨(k, y) :: ks, by rw [kV_of a hk, e]; rfl, .cons hk b r⟩
abbrev rP (K : PySem.W.Frag) : Stt → Stt → List (D × D) → List (V × V) → Prop := fun _ q' d v => RPs K q' d v
/-- the trees of a display and their function -/
def GPs (X : Cx) (C : Tab) (W : Wx) (pos : Pos) (keys : List (Option Expr)) (values : List Expr) (m : MP.Env → Sto → Res (List (D × D))) : Prop := ∃ trs, PPs X pos keys values trs ∧ ∀ σ H Q, tM X.K C W (rP X.K) m σ H Q → tPairs trs σ H Q
theorem gps_nil : GPs X C W pos [] [] pNil := ⟨[], pps_nil, fun σ H Q ⟨q0, q, env, s, eq, E, L, p⟩ => by subst eq; exact p [] q (Ext.refl q) L .nil⟩
theorem gps_cons {k v : Expr} {ks : List (Option Expr)} {vs : List Expr} {mk mv : ME} {mr : MP.Env → Sto → Res (List (D × D))} (hk : GE X C W k mk) (hv : GE X C W v mv) (hr : GPs X C W pos ks vs mr) : GPs X C W pos (some k :: ks) (v :: vs) (pCons mk mv mr) := by
  obtain ⟨trs, h1, h2⟩ := hr
  refine ⟨_, pps_cons hk hv h1, fun σ H Q ⟨q0, q, env, s, eq, E, L, p⟩ => ?_⟩
  subst eq
  refine tM.first (f := fun x s1 => (mv env s1).bind fun y s2 => (mr env s2).bind fun ps s3 => .ok ((x, y) :: ps) s3) E L p (fun _ _ _ _ _ h => h) fun x s1 vx q1 x1 E1 L1 y1 p1 => ?_
  refine tM.first (f := fun y s2 => (mr env s2).bind fun ps s3 => .ok ((x, y) :: ps) s3) E1 L1 p1 (fun _ _ _ _ _ h => h) fun y s2 vy q2 x2 E2 L2 y2 p2 => ?_
  refine h2 σ q2.H _ (tM.first (f := fun ps s3 => .ok ((x, y) :: ps) s3) E2 L2 p2 (fun _ _ _ _ _ h => h) fun ps s3 vs q3 x3 E3 L3 y3 p3 => ?_)
  exact p3 _ q3 (Ext.refl q3) L3 (.cons (RD.mono (x2.trans x3).kp _ y1) (RD.mono x3.kp _ y2) y3)
theorem ge_dic {keys : List (Option Expr)} {values : List Expr} {mp : MP.Env → Sto → Res (List (D × D))} (h : GPs X C W pos keys values mp) (hall : keys.all (·.isSome) = true := by rfl) (hl : keys.length = values.length := by rfl) (h0 : keys ≠ [] := by exact List.cons_ne_nil _ _) (h15 : keys.length ≤ 15 := by decide) :
    GE X C W (.Dict keys values pos) (eDic mp) := by
  obtain ⟨trs, h1, h2⟩ := h
  refine PE.imp (pe_disp h1 hall hl h0 h15) fun σ H Q ⟨q0, q, env, s, eq, E, L, p⟩ pa hpa => ?_
  subst eq
  have x0 := Ext.newL (o := .dK []) L.wf hpa
  refine h2 σ _ _ ⟨q0, ⟨upd q.H pa (.dK []), fun a => q.L a ∨ a = pa, q.r⟩, env, s, rfl, E.ext x0, L.newL hpa, ?_⟩
  unfold eDic at p
  cases e1 : mp env s with
  | stk => rw [e1] at p; exact p.elim
  | exc z t => rw [e1] at p; exact fun c d q' w r => p c d q' (x0.trans w) r
  | ok ps s1 =>
    rw [e1] at p
    intro vs q1 x1 L1 r1
    simp only [Res.bind_ok] at p
    split at p
    · rename_i hc
      rw [Bool.and_eq_true] at hc
      obtain ⟨ks, ev, rk⟩ := r1.rk hc.1
      have nr : pa ∉ q.r := L.wf.nor hpa
      have hk : q1.H pa = some (.dK []) := x1.keep pa _ upd_same nr (fun _ z => nomatch z)
      have hL : q1.L pa := x1.mono pa (.inr rfl)
      have hr : pa ∉ q1.r := fun z => (x1.new pa z).elim nr fun n => n _ upd_same fun _ z => nomatch z
      have kp : Kp q1 ⟨upd q1.H pa (.dK (mergeK [] ks)), q1.L, q1.r ++ [pa]⟩ := ⟨(Kp.wr hL).u, ⟨[pa], rfl⟩⟩
      obtain ⟨z1, z2, z3, z4⟩ := place_own (ho := .dK (mergeK [] ks)) (ob := .dic (dMerge [] ps)) (x0.trans x1) L1 (Fr.of hpa) hL hr ⟨_, hk, (fun _ z => nomatch z), fun _ z => nomatch z⟩ (fun _ z => nomatch z) ⟨_, upd_same, (rk.mono kp).merge .nil⟩
      refine ⟨hk, ks, ev, ?_, p _ _ z1 z3 z4⟩
      rw [rk.length]
      exact of_decide_eq_true hc.2
    · exact p.elim

/-! ### d.update(e) -/
theorem d_update {pins : List (Addr × Obj)} {σ : St} {H : Hp} {s : Shared} {a b : Addr} {kvs more : List (Key × V)} {A : Around} {E : Value → Shared → Prop} {Q : Value → Shared → Prop} (I : Inv X pins σ H s) (e : H a = some (.dK kvs)) (e2 : H b = some (.dK more)) (hab : a ≠ b)
    (hl : kvs.length + more.length ≤ sizeLine) (h : ∀ s', Inv X pins σ (upd H a (.dK (mergeK kvs more))) s' → Q .none s') : wpAny (model X.prog X.w) A (call (.builtin "dict.update") [.ref a, .ref b]) Q E s := by
  obtain ⟨z, hd, vs, rel, dd⟩ := dk_of I.hok e; obtain ⟨z2, hd2, vs2, rel2, dd2⟩ := dk_of I.hok e2
  refine call_meetsIn PySem.F.slot_dict_update dd.typeIs PySem.F.entry_dict_update (PySem.F.args_dict_update_2 _ _) (meets_dict_update (mixKind X.prog X.w) a b hab hd2) ⟨vs, vs2, dd, dd2, by rw [← rel.length, ← rel2.length]; exact hl, fun h' dd' _ sb => ?_⟩
  have hz : (mergeK kvs more).length ≤ sizeLine := Nat.le_trans (length_mergeK more kvs) hl
  have he : ∃ q, h'.get? a = some q := let ⟨q, _, _, hq, _⟩ := dd'; ⟨q, hq⟩; exact h _ (d_write (t' := s.toks) I (by rw [e]; exact True.intro) sb he (dk_new hz hd (rel2.merge rel) dd'))
def tUpd (td te : TE) : TE := fun σ H Q => td σ H fun x H1 => ∃ a, x = .ref a ∧ IsD H1 a ∧ te σ H1 fun y H2 => ∃ b kvs more, y = .ref b ∧ a ≠ b ∧ H2 a = some (.dK kvs) ∧ H2 b = some (.dK more) ∧ kvs.length + more.length ≤ sizeLine ∧ Q .non (upd H2 a (.dK (mergeK kvs more)))
theorem pe_dupd {td te : TE} (ho : PE X o td) (he : PE X e te) (hM : M1 X o "update" apos e cpos) : PE X (.Call (.Attribute o "update" apos) [e] [] cpos) (tUpd td te) := by
  refine ⟨fun pins s σ H Q I h => ?_⟩; refine wpAny_Call_method hM.base hM.few hM.line PySem.F.plainAttrs_dict PySem.F.slot_dict_update PySem.F.type_dict_update (thn (ho.run pins s σ H _ I h) fun u s1 ⟨x, H1, I1, rx, a, ex, d, q1⟩ => ?_)
  subst ex
  obtain rfl : u = Value.ref a := rx; obtain ⟨t1, t2, _⟩ := isD_at I1 d
  refine ⟨t1, t2, ?_⟩
  rw [hM.trees]
  refine Calls.callWith_builtin rfl (Calls.evalArgs_plain (Calls.spliced_cons (thn (he.run pins s1 σ H1 _ I1 q1) fun iv s2 ⟨y, H2, I2, ry, b, kvs, more, ey, hab, e1, e2, hl, q2⟩ => Calls.spliced_nil ?_)))
  subst ey
  obtain rfl : iv = Value.ref b := ry
  exact d_update I2 e1 e2 hab hl fun s3 I3 => ⟨.non, _, I3, rfl, q2⟩
theorem ge_upd (ho : GE X C W o mo) (he : GE X C W e m) (hM : M1 X o "update" apos e cpos := by exact ⟨rfl, rfl, rfl, rfl⟩) : GE X C W (.Call (.Attribute o "update" apos) [e] [] cpos) (eUpd mo m) := PE.imp (pe_dupd ho he hM) fun σ H Q ⟨q0, q, env, s, eq, E, L, p⟩ => by
  subst eq
  refine tM.first (f := fun x s1 => if (dicOf s1 x).isSome then (m env s1).bind fun y s2 => match refN x, refN y, dicOf s2 x, dicOf s2 y with | some n, some m, some p, some r => if n ≠ m ∧ p.length + r.length ≤ 1000 then .ok .non (s2.set n (.dic (dMerge p r))) else .stk | _, _, _, _ => .stk else .stk) E L p rD_any fun x s1 vx q1 x1 E1 L1 y1 p1 => ?_
  split at p1
  · rename_i hs
    obtain ⟨kv0, hs⟩ := Option.isSome_iff_exists.mp hs
    obtain ⟨n, u, ks0, rfl, rfl, a1, a2, a3, a4⟩ := dic_at L1 y1 hs
    refine ⟨u, rfl, .inl ⟨ks0, .inl a3⟩, ?_⟩
    refine tM.first (f := fun y s2 => match refN (.ref n), refN y, dicOf s2 (.ref n), dicOf s2 y with | some n, some m, some p, some r => if n ≠ m ∧ p.length + r.length ≤ 1000 then .ok .non (s2.set n (.dic (dMerge p r))) else .stk | _, _, _, _ => .stk) E1 L1 p1 rD_any fun y s2 vy q2 x2 E2 L2 y2 p2 => ?_
    split at p2
    · rename_i n' m' kv1 kv2 g1 g2 g3 g4
      cases g1
      split at p2
      · rename_i hc
        obtain ⟨n1, u1, ks1, z1, z2, b1, b2, b3, b4⟩ := dic_at L2 (RD.mono x2.kp _ y1) g3
        cases z1
        cases z2
        obtain ⟨n2, u2, ks2, rfl, rfl, c1, c2, c3, c4⟩ := dic_at L2 y2 g4
        cases g2
        have hab : u ≠ u2 := fun z => by
          subst z
          have h4 := (List.getElem?_eq_some_iff.mp b2)
          have h5 := (List.getElem?_eq_some_iff.mp c2)
          exact hc.1 ((List.getElem_inj L2.wf.nd).mp (h4.2.trans h5.2.symm))
        have lu : q2.L u := L2.wf.live u (List.mem_of_getElem? b2)
        obtain ⟨w1, w2⟩ := wr_placed (ho := .dK (mergeK ks1 ks2)) (o' := .dic (dMerge kv1 kv2)) L2 b1 b2 ⟨_, upd_same, (c4.merge b4).mono (Kp.wr lu)⟩
        refine ⟨u2, ks1, ks2, rfl, hab, b3, c3, ?_, p2 .non _ w1 w2 .non⟩
        rw [b4.length, c4.length]
        exact lenS (by unfold cap; omega)
      · exact p2.elim
    · exact p2.elim
  · exact p1.elim
end
end MP

/-! Instances made; calls with keywords; bodies of defs with defaults. Own text. -/
namespace MP
open PySem L2 TL

/-- a fresh instance, placed -/
theorem new_ins {K : PySem.W.Frag} {C : Tab} {q : Stt} {s : Sto} {x dx : Addr} (c : Nat) (R : Rel K C s q) (hx : q.H x = none) (hd : q.H dx = none) (ne : dx ≠ x) :
    ∃ q' : Stt, q'.H = upd (upd q.H dx (.own x)) x (.ins (C c) dx []) ∧ Ext q q' ∧ Rel K C (s ++ [.ins c []]) q' ∧ RD K q' (.ref s.length) (.ref x) := by
  have x1 := Ext.new1 (o := .own x) R.wf hd
  have R1 := R.new1 (o := .own x) hd
  have hx1 : (upd q.H dx (.own x)) x = none := by rw [upd_ne (Ne.symm ne)]; exact hx
  have x2 := Ext.newL (q := ⟨upd q.H dx (.own x), q.L, q.r⟩) (o := .ins (C c) dx []) R1.wf hx1
  have R2 := R1.newL (o := .ins (C c) dx []) hx1
  obtain ⟨z1, z2, z3, z4⟩ := place_own (ho := .ins (C c) dx []) (ob := .ins c []) x2 R2 (Fr.of hx1) (.inr rfl) (R1.wf.nor hx1) ⟨_, upd_same, (fun _ z => nomatch z), fun _ z => nomatch z⟩ (fun _ z => nomatch z) ⟨dx, [], upd_same, .nil⟩
  refine ⟨_, ?_, x1.trans z1, z3, z4⟩
  show upd (upd (upd q.H dx (.own x)) x (.ins (C c) dx [])) x (.ins (C c) dx []) = _
  rw [L2.upd_upd]
/-- what a maker asks -/
theorem asked_made {K : PySem.W.Frag} {C : Tab} {W : Wx} {q1 q2 : Stt} {σ : St} {Q : VK} {n : Nat} {x : Addr} {r : Res D} (x2 : Ext q1 q2) (hn : RD K q2 (.ref n) (.ref x)) (p : Post K C W (rD K) q1 σ Q (madeR n r)) :
    Post K C W (rD K) q2 σ (fun v H2 => v = .non ∧ Q (.ref x) H2) r := by
  cases r with
  | ok d s3 =>
    intro v q3 x3 R3 rd
    unfold madeR at p
    simp only [Res.bind_ok] at p
    cases rd with
    | non => exact ⟨rfl, p (.ref x) q3 (x2.trans x3) R3 (RD.mono x3.kp _ hn)⟩
    | _ => exact p.elim
  | exc y s3 => exact fun cls d q' w R r => p cls d q' (x2.trans w) R r
  | stk => exact p.elim
/-- a def at f with keywords: n values by place, those named ks -/
def CalK (P : Program) (w : World) (K : PySem.W.Frag) (mg : Str → Option Value) (base : Heap) (C : Tab) (k : Nat) (f : Addr) (n : Nat) (ks : List Str) (g : FnK) : Prop :=
  ∃ (fd : FuncData) (ps : List Str) (gu : List Value → List Value → List Value) (gV : List V → List V → List V) (g' : Fn) (arr : List D → List D → List D), FnOk P w K mg base (L2.CX P w) k f fd ps (spM K C g') ∧ KBn K fd ps n ks gu gV ∧
    (∀ (q : Stt) (as es : List D) (vs zs : List V), RDs K q as vs → RDs K q es zs → as.length = n → es.length = ks.length → RDs K q (arr as es) (gV vs zs)) ∧ g = fun as es => g' (arr as es)
def AskedK (K : PySem.W.Frag) (C : Tab) (W : Wx) (n m : Nat) (g : FnK) (σ : St) (vs zs : List V) (H : Hp) (Q : VK) : Prop := ∃ (q : Stt) (s : Sto) (ds es : List D), q.H = H ∧ Rel K C s q ∧ RDs K q ds vs ∧ RDs K q es zs ∧ ds.length = n ∧ es.length = m ∧ Post K C W (rD K) q σ Q (g ds es s)
section
variable {X : Cx} {C : Tab} {W : Wx} {k n c : Nat} {f Ca : Addr} {g : Fn} {gk : FnK} {pos p apos : Pos} {x : Str} {e a b o : Expr} {es : List Expr} {kws : List Keyword} {ks : List Str} {m ma mb mo : ME} {ml mk : MA}
theorem run_new {pins : List (Addr × Obj)} {σ : St} {H : Hp} {s : Shared} {Q : VK} {us : List Value} {vs : List V} (M : Mk X.K Ca f) (F : Cal X.prog X.w X.K X.mg X.base C k f g) (hr : Room (k + 1) X.A) (tk : Takes X W) (I : Inv X pins σ H s) (r : Vals vs us)
    (h : ∀ x dx, H x = none → H dx = none → dx ≠ x → Asked X.K C W g σ (.ref x :: vs) (upd (upd H dx (.own x)) x (.ins Ca dx [])) (fun v H2 => v = .non ∧ Q (.ref x) H2)) :
    wpAny (model X.prog X.w) X.A (call (.ref Ca) us) (EP X pins σ Q) X.xe s := by
  obtain ⟨fd, ps, ds, dvs, dD, g', F, hb, hd, rd, rfl⟩ := F
  have hq := h (s.heap.objs.size + 1) s.heap.objs.size (I.hok.fresh (Nat.le_succ _)) (I.hok.fresh (Nat.le_refl _)) (Nat.ne_of_lt (Nat.lt_succ_self _)); have I2 := Inv.made (C := Ca) I
  obtain ⟨q, st, as, e, L, ra, pz⟩ := hq
  have hs : spM X.K C g' (.ref (s.heap.objs.size + 1) :: vs ++ dvs) _ _ (WE W σ) := ⟨q, st, as ++ dD, e, L, ra.append (rd q), post_sig pz⟩
  have r1 : Vals (V.ref (s.heap.objs.size + 1) :: vs) (Value.ref (s.heap.objs.size + 1) :: us) := .cons rfl r; have r2 := r1.append hd
  have hl : (Value.ref (s.heap.objs.size + 1) :: us ++ ds).length = ps.length := r2.length.symm.trans (F.len _ _ _ _ hs)
  have hbd := hb { s with heap := (s.heap.push PySem.W.emptyDict).push (PySem.W.instObj Ca s.heap.objs.size) } (Value.ref (s.heap.objs.size + 1) :: us) I2.kIn hl
  have hrun := F.run _ X.stack _ _ ⟨Value.ref (s.heap.objs.size + 1) :: us, []⟩ _ _ _ _ (hr.make Ca us []) (I2.env0.make Ca us []) hbd r2 hs
  refine wpAny_call (make_map (f := f) I.kIn M.makes M.init (beq_iff_eq.mp M.fn) (codeAny_mono hrun fun r s' hq' => ?_))
  cases r with
  | error e => exact passAt tk σ pins _ _ e s' I2 hq'
  | ok fl =>
    cases fl with
    | ret u =>
      obtain ⟨v, H', I3, rv, ev, q3⟩ := I2.after hq'; subst ev; exact ⟨rv, ⟨V.ref (s.heap.objs.size + 1), H', I3, rfl, q3⟩⟩
    | _ => exact hq'.elim
theorem ge_new (M : Mk X.K (C c) f) (F : Cal X.prog X.w X.K X.mg X.base C k f g) (hr : Room (k + 1) X.A) (tk : Takes X W) (hm : X.mg x = some (.ref (C c))) (ha : GA X C W (e :: es) ml) (hg : Gl X x := by rfl) (hdb : (x == ("__debug__" : Str)) = false := by decide)
    (he : starEach (e :: es) X.env = (false, eval e X.env) :: starEach es X.env := by rfl) (hpl : (backTo pos (starEach es X.env)).any (·.1) = false := by rfl) : GE X C W (.Call (.Name x p) (e :: es) [] pos) (eNew c g ml) := by
  refine PE.imp (t := fun σ H Q => tM X.K C W (rA X.K) ml σ H fun vs H1 => ∀ x dx, H1 x = none → H1 dx = none → dx ≠ x → Asked X.K C W g σ (.ref x :: vs) (upd (upd H1 dx (.own x)) x (.ins (C c) dx [])) (fun v H2 => v = .non ∧ Q (.ref x) H2)) ⟨fun pins s σ H Q I h => ?_⟩ fun σ H Q ⟨q0, q, env, s, eq, E, L, p⟩ => ?_
  · refine wpAny_Call_Name_kw (ld_glob I hg hm ?_ hdb)
    exact PySem.W.callWith_K (h₀ := X.base) I.ok.mod.kin M.kp (thn (ha.run pos pins s σ H _ I h) fun us s1 ⟨vs, H1, I1, r, q⟩ => ⟨I1.kIn, run_new M F hr tk I1 r q⟩) he hpl
  · subst eq
    refine tM.first (f := fun ds s1 => madeR s1.length (g (.ref s1.length :: ds) (s1 ++ [.ins c []]))) E L p rD_any fun ds s1 vs q1 x1 E1 L1 y1 p1 x dx hx hd ne => ?_
    obtain ⟨q2, e2, x2, L2, n2⟩ := new_ins c L1 hx hd ne
    exact ⟨q2, _, _, e2, L2, .cons n2 (RDs.mono x2.kp _ y1), asked_made x2 n2 p1⟩
theorem ge_new0 (M : Mk X.K (C c) f) (F : Cal X.prog X.w X.K X.mg X.base C k f g) (hr : Room (k + 1) X.A) (tk : Takes X W) (hm : X.mg x = some (.ref (C c))) (hg : Gl X x := by rfl) (hdb : (x == ("__debug__" : Str)) = false := by decide) : GE X C W (.Call (.Name x p) [] [] pos) (eNew c g aNil) := by
  refine PE.imp (t := fun σ H Q => ∀ x dx, H x = none → H dx = none → dx ≠ x → Asked X.K C W g σ [.ref x] (upd (upd H dx (.own x)) x (.ins (C c) dx [])) (fun v H2 => v = .non ∧ Q (.ref x) H2)) ⟨fun pins s σ H Q I h => ?_⟩ fun σ H Q ⟨q0, q, env, s, eq, E, L, p⟩ => ?_
  · refine wpAny_Call_Name_kw (ld_glob I hg hm ?_ hdb)
    exact PySem.W.callWith_K0 I.kIn M.kp (run_new (us := []) M F hr tk I .nil h)
  · subst eq
    intro x dx hx hd ne
    obtain ⟨q2, e2, x2, L2, n2⟩ := new_ins c L hx hd ne
    exact ⟨q2, _, _, e2, L2, .cons n2 .nil, asked_made x2 n2 p⟩

/-! ### keywords -/
def GK (X : Cx) (C : Tab) (W : Wx) (kws : List Keyword) (m : MA) : Prop := PK X kws (tM X.K C W (rA X.K) m)
theorem gk_nil : GK X C W [] aNil := ⟨fun pos pins s σ H Q I ⟨q0, q, env, t, eq, E, L, p⟩ => pk_nil.run pos pins s σ H Q I (by subst eq; exact p [] q (Ext.refl q) L .nil)⟩
theorem gk_cons {nm : Option Str} {kpos : Pos} {mr : MA} (ha : GE X C W e m) (hr : GK X C W kws mr) : GK X C W (⟨nm, e, kpos⟩ :: kws) (aCons m mr) := ⟨fun pos pins s σ H Q I ⟨q0, q, env, t, eq, E, L, p⟩ => (pk_cons ha hr).run pos pins s σ H Q I (by
  subst eq
  refine tM.first (f := fun x s1 => (mr env s1).bind fun xs s2 => .ok (x :: xs) s2) E L p rA_any fun x s1 vx q1 x1 E1 L1 y1 p1 => ?_
  refine tM.first (f := fun xs s2 => .ok (x :: xs) s2) E1 L1 p1 rA_any fun xs s2 vs q2 x2 E2 L2 y2 p2 => ?_
  exact p2 _ q2 (Ext.refl q2) L2 (.cons (RD.mono x2.kp x y1) y2))⟩
theorem run_calK {pins : List (Addr × Obj)} {σ : St} {H : Hp} {s : Shared} {Q : VK} {us ws : List Value} {vs zs : List V} (F : CalK X.prog X.w X.K X.mg X.base C k f n ks gk) (hr : Room k X.A) (tk : Takes X W) (I : Inv X pins σ H s) (r : Vals vs us) (rz : Vals zs ws)
    (h : AskedK X.K C W n ks.length gk σ vs zs H Q) : wpAny (model X.prog X.w) X.A (call (.ref f) us (ks.zip ws)) (EP X pins σ Q) X.xe s := by
  obtain ⟨fd, ps, gu, gV, g', arr, F, hb, hA, rfl⟩ := F
  obtain ⟨q, st, ds, es, e, L, r1, r2, l1, l2, pz⟩ := h
  have hs : spM X.K C g' (gV vs zs) H Q (WE W σ) := ⟨q, st, _, e, L, hA q ds es vs zs r1 r2 l1 l2, post_sig pz⟩
  refine wpAny_call (codeAny_mono (F.run X.A X.stack s H ⟨us, ks.zip ws⟩ (gu us ws) (gV vs zs) Q (WE W σ) hr I.env0 (hb.to s us ws I.kIn (r.length.symm.trans (r1.length.trans l1)) (rz.length.symm.trans (r2.length.trans l2))) (hb.rel r rz) hs) fun r s' hq => ?_)
  cases r with
  | error e => exact passAt tk σ pins H s e s' I hq
  | ok fl =>
    cases fl with
    | ret u => exact I.after hq
    | _ => exact hq.elim
theorem run_newK {pins : List (Addr × Obj)} {σ : St} {H : Hp} {s : Shared} {Q : VK} {us ws : List Value} {vs zs : List V} (M : Mk X.K Ca f) (F : CalK X.prog X.w X.K X.mg X.base C k f (n + 1) ks gk) (hr : Room (k + 1) X.A) (tk : Takes X W) (I : Inv X pins σ H s) (r : Vals vs us) (rz : Vals zs ws)
    (h : ∀ x dx, H x = none → H dx = none → dx ≠ x → AskedK X.K C W (n + 1) ks.length gk σ (.ref x :: vs) zs (upd (upd H dx (.own x)) x (.ins Ca dx [])) (fun v H2 => v = .non ∧ Q (.ref x) H2)) :
    wpAny (model X.prog X.w) X.A (call (.ref Ca) us (ks.zip ws)) (EP X pins σ Q) X.xe s := by
  obtain ⟨fd, ps, gu, gV, g', arr, F, hb, hA, rfl⟩ := F
  have hq := h (s.heap.objs.size + 1) s.heap.objs.size (I.hok.fresh (Nat.le_succ _)) (I.hok.fresh (Nat.le_refl _)) (Nat.ne_of_lt (Nat.lt_succ_self _)); have I2 := Inv.made (C := Ca) I
  obtain ⟨q, st, ds, es, e, L, ra, rb, l1, l2, pz⟩ := hq
  have hs : spM X.K C g' (gV (.ref (s.heap.objs.size + 1) :: vs) zs) _ _ (WE W σ) := ⟨q, st, _, e, L, hA q ds es _ zs ra rb l1 l2, post_sig pz⟩
  have r1 : Vals (V.ref (s.heap.objs.size + 1) :: vs) (Value.ref (s.heap.objs.size + 1) :: us) := .cons rfl r; have n1 : (Value.ref (s.heap.objs.size + 1) :: us).length = n + 1 := by rw [← r1.length, ra.length, l1]
  have hrun := F.run _ X.stack _ _ ⟨Value.ref (s.heap.objs.size + 1) :: us, ks.zip ws⟩ _ _ _ _ (hr.make Ca us (ks.zip ws)) (I2.env0.make Ca us (ks.zip ws)) (hb.to _ _ ws I2.kIn n1 (rz.length.symm.trans (rb.length.trans l2))) (hb.rel r1 rz) hs
  refine wpAny_call (make_map (f := f) I.kIn M.makes M.init (beq_iff_eq.mp M.fn) (codeAny_mono hrun fun r s' hq' => ?_))
  cases r with
  | error e => exact passAt tk σ pins _ _ e s' I2 hq'
  | ok fl =>
    cases fl with
    | ret u =>
      obtain ⟨v, H', I3, rv, ev, q3⟩ := I2.after hq'; subst ev; exact ⟨rv, ⟨V.ref (s.heap.objs.size + 1), H', I3, rfl, q3⟩⟩
    | _ => exact hq'.elim
theorem ge_newK (n : Nat) (M : Mk X.K (C c) f) (F : CalK X.prog X.w X.K X.mg X.base C k f (n + 1) ks gk) (hr : Room (k + 1) X.A) (tk : Takes X W) (hm : X.mg x = some (.ref (C c))) (ha : GA X C W (e :: es) ml) (hkw : GK X C W kws mk) (hg : Gl X x := by rfl) (hdb : (x == ("__debug__" : Str)) = false := by decide)
    (hall : (backToKw pos (keywordEach kws X.env)).all (·.1.isSome) = true := by rfl) (hks : (backToKw pos (keywordEach kws X.env)).filterMap (·.1) = ks := by rfl) (he : starEach (e :: es) X.env = (false, eval e X.env) :: starEach es X.env := by rfl)
    (hpl : ((backTo pos (starEach (e :: es) X.env)).any (·.1) || (backToKw pos (keywordEach kws X.env)).any (·.1.isNone)) = false := by rfl) : GE X C W (.Call (.Name x p) (e :: es) kws pos) (eNewK c gk n ks.length ml mk) := by
  refine PE.imp (t := fun σ H Q => tM X.K C W (rA X.K) ml σ H fun vs H1 => tM X.K C W (rA X.K) mk σ H1 fun zs H2 => ∀ x dx, H2 x = none → H2 dx = none → dx ≠ x → AskedK X.K C W (n + 1) ks.length gk σ (.ref x :: vs) zs (upd (upd H2 dx (.own x)) x (.ins (C c) dx [])) (fun v H3 => v = .non ∧ Q (.ref x) H3)) ⟨fun pins s σ H Q I h => ?_⟩ fun σ H Q ⟨q0, q, env, s, eq, E, L, p⟩ => ?_
  · refine wpAny_Call_Name_kw (ld_glob I hg hm ?_ hdb)
    refine PySem.W.callWith_KW (h₀ := X.base) I.ok.mod.kin M.kp hall (thn (ha.run pos pins s σ H _ I h) fun us s1 ⟨vs, H1, I1, r, q⟩ => ?_) hpl he; refine thn (hkw.run pos pins s1 σ H1 _ I1 q) fun ws s2 ⟨zs, H2, I2, rz, q2⟩ => ⟨I2.kIn, ?_⟩
    rw [hks]
    exact run_newK M F hr tk I2 r rz q2
  · subst eq
    refine tM.first (f := fun ds s1 => (mk env s1).bind fun es s2 => if ds.length = n ∧ es.length = ks.length then madeR s2.length (gk (.ref s2.length :: ds) es (s2 ++ [.ins c []])) else .stk) E L p rD_any fun ds s1 vs q1 x1 E1 L1 y1 p1 => ?_
    refine tM.first (f := fun es s2 => if ds.length = n ∧ es.length = ks.length then madeR s2.length (gk (.ref s2.length :: ds) es (s2 ++ [.ins c []])) else .stk) E1 L1 p1 rD_any fun es s2 zs q2 x2 E2 L2 y2 p2 x dx hx hd ne => ?_
    split at p2
    · rename_i hl
      obtain ⟨q3, e3, x3, L3, n3⟩ := new_ins c L2 hx hd ne
      exact ⟨q3, _, _, _, e3, L3, .cons n3 (RDs.mono (x2.trans x3).kp _ y1), RDs.mono x3.kp _ y2, by rw [List.length_cons, hl.1], hl.2, asked_made x3 n3 p2⟩
    · exact p2.elim
theorem ge_callK (n : Nat) (F : CalK X.prog X.w X.K X.mg X.base C k f n ks gk) (hr : Room k X.A) (tk : Takes X W) (hm : X.mg x = some (.ref f)) (hk : PySem.W.keepIn X.K (.ref f) = true) (ha : GA X C W (e :: es) ml) (hkw : GK X C W kws mk) (hg : Gl X x := by rfl) (hdb : (x == ("__debug__" : Str)) = false := by decide)
    (hall : (backToKw pos (keywordEach kws X.env)).all (·.1.isSome) = true := by rfl) (hks : (backToKw pos (keywordEach kws X.env)).filterMap (·.1) = ks := by rfl) (he : starEach (e :: es) X.env = (false, eval e X.env) :: starEach es X.env := by rfl)
    (hpl : ((backTo pos (starEach (e :: es) X.env)).any (·.1) || (backToKw pos (keywordEach kws X.env)).any (·.1.isNone)) = false := by rfl) : GE X C W (.Call (.Name x p) (e :: es) kws pos) (eCallK gk n ks.length ml mk) := by
  refine PE.imp (t := fun σ H Q => tM X.K C W (rA X.K) ml σ H fun vs H1 => tM X.K C W (rA X.K) mk σ H1 fun zs H2 => AskedK X.K C W n ks.length gk σ vs zs H2 Q) ⟨fun pins s σ H Q I h => ?_⟩ fun σ H Q ⟨q0, q, env, s, eq, E, L, p⟩ => ?_
  · refine wpAny_Call_Name_kw (ld_glob I hg hm ?_ hdb)
    refine PySem.W.callWith_KW (h₀ := X.base) I.ok.mod.kin hk hall (thn (ha.run pos pins s σ H _ I h) fun us s1 ⟨vs, H1, I1, r, q⟩ => ?_) hpl he; refine thn (hkw.run pos pins s1 σ H1 _ I1 q) fun ws s2 ⟨zs, H2, I2, rz, q2⟩ => ⟨I2.kIn, ?_⟩
    rw [hks]
    exact run_calK F hr tk I2 r rz q2
  · subst eq
    refine tM.first (f := fun ds s1 => (mk env s1).bind fun es s2 => if ds.length = n ∧ es.length = ks.length then gk ds es s2 else .stk) E L p rD_any fun ds s1 vs q1 x1 E1 L1 y1 p1 => ?_
    refine tM.first (f := fun es s2 => if ds.length = n ∧ es.length = ks.length then gk ds es s2 else .stk) E1 L1 p1 rD_any fun es s2 zs q2 x2 E2 L2 y2 p2 => ?_
    split at p2
    · rename_i hl
      exact ⟨q2, _, _, _, rfl, L2, RDs.mono x2.kp _ y1, y2, hl.1, hl.2, p2⟩
    · exact p2.elim
end

/-! ### bodies of defs with defaults -/
section
variable {P : Program} {w : World} {K : PySem.W.Frag} {mg : Str → Option Value} {base : Heap} {C : Tab}
theorem body_sim {X : Cx} {N : List Str} {n : Nat} {ms : MS} {g : Fn} {body : List Stmt} {H : Hp} {vs : List V} {Q : VK} {E : XK} (hN : n ≤ N.length) (hg : g = runB n N.length ms) (hb : GSs X C (fun cls d _ H' => E cls d H') body ms) (h : spM X.K C g vs H Q E) :
    ∃ t, PSs X body t ∧ t { nx := fun _ H' => Q .non H', rt := Q } (start N vs) H := by
  subst hg
  refine ⟨_, hb, ?_⟩
  obtain ⟨q, s, ds, e, L, r, p⟩ := h
  subst e
  unfold runB at p
  split at p
  · rename_i hk
    refine ⟨q, q, _, s, rfl, Ext.refl q, RE.start (N.length - n) L r (by rw [hk]), L, ?_⟩
    cases z : ms (ds.map .val ++ List.replicate (N.length - n) .emp) s with
    | nx e s' => rw [z] at p; exact fun σ' q' x1 k1 L1 E1 => p .non q' x1 L1 .non
    | rt d s' => rw [z] at p; exact fun v q' x1 k1 L1 r1 => p v q' x1 L1 r1
    | ex y e s' => rw [z] at p; exact fun cls d σ' q' x1 k1 L1 E1 r1 => p cls d q' x1 L1 r1
    | bk e s' => rw [z] at p; exact p.elim
    | ct e s' => rw [z] at p; exact p.elim
    | stk => rw [z] at p; exact p.elim
  · exact p.elim
theorem spM_len {n m : Nat} {ms : MS} {vs : List V} {H : Hp} {Q : VK} {E : XK} (h : spM K C (runB n m ms) vs H Q E) : vs.length = n := by
  obtain ⟨q, s, ds, e, L, r, p⟩ := h
  rw [r.length]
  unfold runB at p
  split at p
  · rename_i h; exact h
  · exact p.elim
theorem fn_calD {x qual : Str} {params : Arguments} {body : List Stmt} {scope : Scope} {dvs : List V} {kws : List (Str × V)} {f : Addr} {fd : FuncData} {N ps : List Str} {k : Nat} {ms : MS} (F : FunD K x qual params body scope dvs kws f fd) (S : FnScope N ps scope) (hN : ps.length ≤ N.length)
    (hb : ∀ (cdv : Value) (A : Around) (outer : List PySem.Env) (s : Shared) (H : Hp) (E : XK), Room k (A.deeper (PyProof.Rows.envOfC qual scope s.heap.objs.size f cdv)) →
      GSs (cxOf (L2.CX P w) P w K mg base N qual scope f cdv A outer s H E) C (fun cls d _ H' => E cls d H') body ms) : FnOk P w K mg base (L2.CX P w) (k + 1) f fd ps (spM K C (runB ps.length N.length ms)) :=
  F.ok S (fun vs H Q E h => spM_len h) fun cdv A outer s H vs Q E hr h => body_sim hN rfl (hb cdv A outer s H E hr) h
end
end MP

/-! zip of a tuple and a list (the library has it of two lists, of two tuples): the same walk with the other iterator in the second place. Own text. -/
namespace MP
open PySem.Spec PySem PyProof.Rows L2
open PySem.Sem (wp)
section
variable {prog : Program} {w : World} {A : Around} {Er : Value → Shared → Prop} {s : Shared}
theorem zipM_next_item {zo tA tB ia ib la lb : Addr} {na nb : Nat} {us ws : Array Value} {x0 y0 pa pb : Value} {R : Value → Shared → Prop} (dA : ZipApart zo tA tB ia ib la lb)
    (gz : IsZip s.heap zo tA tB .none) (gA : IsPair s.heap tA (.ref ia) (.ref ib)) (gB : IsPair s.heap tB pa pb)
    (j1 : s.heap.IsTupleIter ia la na) (j2 : s.heap.IsListIter ib lb nb) (t1 : s.heap.IsTuple la us) (t2 : s.heap.IsList lb ws) (ex : us[na]? = some x0) (ey : ws[nb]? = some y0)
    (kQ : ∀ h', IsZip h' zo tA tB (rawInt s.heap.objs.size) → IsPair h' tB x0 y0 → h'.IsTupleIter ia la (na + 1) → h'.IsListIter ib lb (nb + 1) → IsPair h' s.heap.objs.size x0 y0 → h'.objs.size = s.heap.objs.size + 1 →
      (∀ cc ob, cc ≠ zo → cc ≠ tB → cc ≠ ia → cc ≠ ib → s.heap.get? cc = some ob → h'.get? cc = some ob) → R (.ref s.heap.objs.size) { s with heap := h' }) :
    wpAny (model prog w) A (Builtin.«zip.__next__» ⟨[.ref zo], []⟩) (fun fin s' => ∃ v, fin = .done (.ret v) ∧ R v s') Er s := by
  show wpAny _ _ (field (.ref zo) 2 >>= _) _ _ _
  refine wpAny_bind (wpAny_field gz rfl (x := .bool false) rfl ?_)
  show wpAny _ _ (field (.ref zo) 3 >>= _) _ _ _
  refine wpAny_bind (wpAny_field gz rfl (x := .ref tA) rfl ?_)
  refine wpAny_bind (wpAny_seqItems gA rfl ?_)
  show wpAny _ _ (Builtin.SmallTypes.ownedTupleIsFree (.ref zo) >>= _) _ _ _
  refine wpAny_bind ?_
  unfold Builtin.SmallTypes.ownedTupleIsFree; refine wpAny_bind (wpAny_field gz rfl (x := .none) rfl (wpAny_pure ?_))
  simp only [if_true]
  refine wpAny_bind (wpAny_rule ?_); refine wpAny_bind (wpAny_field gz rfl (x := .ref tB) rfl ?_)
  refine wpAny_bind (wpAny_setField_rec gz (by simp) fun m₁ gz₁ s₁ => ?_)
  replace gz₁ : IsZip m₁ zo tA tB .ellipsis := gz₁
  refine wpAny_bind ?_; simp only [List.zipIdx_cons, List.zipIdx_nil, List.forIn_cons, List.forIn_nil]

  refine wpAny_bind (wpAny_bind (wpAny_onRaise ?_)); show wpAny _ _ (Builtin.SmallTypes.nextOf (.ref ia) >>= _) _ _ _
  refine wpAny_bind (RZ.nextOf_tuple_item (j1.extBut s₁.extBut dA.i1z) (t1.extBut s₁.extBut dA.l1z) ex fun m₂ j1₂ s₂ => wpAny_pure ?_)
  have gB₂ : IsPair m₂ tB pa pb := s₂.extBut _ _ dA.TOi1 (s₁.extBut _ _ dA.TOz gB)
  refine wpAny_bind (wpAny_seqItems gB₂ rfl ?_)
  refine wpAny_bind (wpAny_updateSeq_pair gB₂ fun m₃ gB₃ s₃ => ?_)
  replace gB₃ : IsPair m₃ tB x0 pb := gB₃; refine wpAny_bind (wpAny_letGo (wpAny_pure ?_))

  refine wpAny_bind (wpAny_bind (wpAny_onRaise ?_)); show wpAny _ _ (Builtin.SmallTypes.nextOf (.ref ib) >>= _) _ _ _
  refine wpAny_bind (wpAny_nextOf_list_item (((j2.extBut s₁.extBut dA.i2z).extBut s₂.extBut dA.i12.symm).extBut s₃.extBut dA.TOi2.symm)
    (((t2.extBut s₁.extBut dA.l2z).extBut s₂.extBut dA.l2i1).extBut s₃.extBut dA.l2TO) ey fun m₄ j2₄ s₄ => wpAny_pure ?_)
  have gB₄ : IsPair m₄ tB x0 pb := s₄.extBut _ _ dA.TOi2 gB₃
  refine wpAny_bind (wpAny_seqItems gB₄ rfl ?_)
  refine wpAny_bind (wpAny_updateSeq_pair gB₄ fun m₅ gB₅ s₅ => ?_)
  replace gB₅ : IsPair m₅ tB x0 y0 := gB₅; refine wpAny_bind (wpAny_letGo (wpAny_pure (wpAny_pure ?_)))

  refine wpAny_bind (wpAny_seqItems gB₅ rfl ?_)
  refine wpAny_bind (wpAny_newTuple ?_); have gs : m₅.objs.size = s.heap.objs.size := by rw [s₅.1, s₄.1, s₃.1, s₂.1, s₁.1]
  have gz₅ : IsZip m₅ zo tA tB .ellipsis := s₅.extBut _ _ dA.TOz.symm (s₄.extBut _ _ dA.i2z.symm (s₃.extBut _ _ dA.TOz.symm (s₂.extBut _ _ dA.i1z.symm gz₁)))
  have hk₅ : ∀ cc ob, cc ≠ zo → cc ≠ tB → cc ≠ ia → cc ≠ ib → s.heap.get? cc = some ob → m₅.get? cc = some ob := fun cc ob c1 c2 c3 c4 er =>
    s₅.extBut _ _ c2 (s₄.extBut _ _ c4 (s₃.extBut _ _ c2 (s₂.extBut _ _ c3 (s₁.extBut _ _ c1 er))))
  have j1₅ : m₅.IsTupleIter ia la (na + 1) := ((j1₂.extBut s₃.extBut dA.TOi1.symm).extBut s₄.extBut dA.i12).extBut s₅.extBut dA.TOi1.symm
  have j2₅ : m₅.IsListIter ib lb (nb + 1) := j2₄.extBut s₅.extBut dA.TOi2.symm
  have gl : zo < m₅.objs.size := Heap.lt_size gz₅
  have glB : tB < m₅.objs.size := Heap.lt_size gB₅
  have gl1 : ia < m₅.objs.size := by obtain ⟨_, er, _⟩ := j1₅; exact Heap.lt_size er
  have gl2 : ib < m₅.objs.size := by obtain ⟨_, er, _⟩ := j2₅; exact Heap.lt_size er
  show wpAny _ _ (Builtin.SmallTypes.ownedTupleHandOut (.ref zo) (.ref m₅.objs.size) >>= _) _ _ _
  refine wpAny_bind ?_
  unfold Builtin.SmallTypes.ownedTupleHandOut; have gz₆ : IsZip (m₅.push { cls := .type "tuple", data := .seq #[x0, y0] }) zo tA tB .ellipsis := Heap.get?_push_of_some _ gz₅
  refine wpAny_bind (wpAny_setField_rec gz₆ (by simp) fun m₇ gz₇ s₇ => ?_)
  replace gz₇ : IsZip m₇ zo tA tB (rawInt m₅.objs.size) := gz₇
  refine wpAny_setField_rec gz₇ (by simp) fun m₈ gz₈ s₈ => ?_
  replace gz₈ : IsZip m₈ zo tA tB (rawInt m₅.objs.size) := gz₈
  have kp : ∀ cc ob, cc ≠ zo → m₅.get? cc = some ob → m₈.get? cc = some ob := fun cc ob c1 er => s₈.extBut _ _ c1 (s₇.extBut _ _ c1 (Heap.get?_push_of_some _ er))
  have gT₈ : IsPair m₈ m₅.objs.size x0 y0 := s₈.extBut _ _ (Nat.ne_of_gt gl) (s₇.extBut _ _ (Nat.ne_of_gt gl) (Heap.get?_push_size _ rfl))
  have gz8 : m₈.objs.size = m₅.objs.size + 1 := by rw [s₈.1, s₇.1, Heap.size_push]
  rw [gs] at gz₈ gT₈ gz8
  refine wpAny_pure ⟨_, rfl, ?_⟩; show R (.ref m₅.objs.size) _
  rw [gs]
  exact kQ m₈ gz₈ (kp _ _ dA.TOz gB₅) (j1₅.at fun ob er => kp _ ob dA.i1z er) (j2₅.at fun ob er => kp _ ob dA.i2z er) gT₈ gz8 fun cc ob c1 c2 c3 c4 er => kp cc ob c1 (hk₅ cc ob c1 c2 c3 c4 er)

theorem zipM_next_end {zo tA tB ia ib la lb : Addr} {na nb : Nat} {us ws : Array Value} {pa pb : Value} {R : Fin → Shared → Prop} (hn : A.handled = none) (dA : ZipApart zo tA tB ia ib la lb)
    (gz : IsZip s.heap zo tA tB .none) (gA : IsPair s.heap tA (.ref ia) (.ref ib)) (gB : IsPair s.heap tB pa pb)
    (j1 : s.heap.IsTupleIter ia la na) (j2 : s.heap.IsListIter ib lb nb) (t1 : s.heap.IsTuple la us) (t2 : s.heap.IsList lb ws) (fe : us[na]? = none ∨ ws[nb]? = none)
    (kE : ∀ h' er, (∀ cc ob, cc ≠ zo → cc ≠ tB → cc ≠ ia → cc ≠ ib → s.heap.get? cc = some ob → h'.get? cc = some ob) → (∃ ob, h'.get? er = some ob ∧ ob.cls = .type "StopIteration") → Er (.ref er) { s with heap := h' }) :
    wpAny (model prog w) A (Builtin.«zip.__next__» ⟨[.ref zo], []⟩) R Er s := by
  show wpAny _ _ (field (.ref zo) 2 >>= _) _ _ _
  refine wpAny_bind (wpAny_field gz rfl (x := .bool false) rfl ?_)
  show wpAny _ _ (field (.ref zo) 3 >>= _) _ _ _
  refine wpAny_bind (wpAny_field gz rfl (x := .ref tA) rfl ?_)
  refine wpAny_bind (wpAny_seqItems gA rfl ?_)
  show wpAny _ _ (Builtin.SmallTypes.ownedTupleIsFree (.ref zo) >>= _) _ _ _
  refine wpAny_bind ?_
  unfold Builtin.SmallTypes.ownedTupleIsFree; refine wpAny_bind (wpAny_field gz rfl (x := .none) rfl (wpAny_pure ?_))
  simp only [if_true]
  refine wpAny_bind (wpAny_rule ?_); refine wpAny_bind (wpAny_field gz rfl (x := .ref tB) rfl ?_)
  refine wpAny_bind (wpAny_setField_rec gz (by simp) fun m₁ gz₁ s₁ => ?_)
  replace gz₁ : IsZip m₁ zo tA tB .ellipsis := gz₁
  refine wpAny_bind ?_
  simp only [List.zipIdx_cons, List.zipIdx_nil, List.forIn_cons, List.forIn_nil]; refine wpAny_bind (wpAny_bind (wpAny_onRaise ?_))
  show wpAny _ _ (Builtin.SmallTypes.nextOf (.ref ia) >>= _) _ _ _
  cases ex : us[na]? with
  | none =>
    refine wpAny_bind (RZ.nextOf_tuple_end hn (j1.extBut s₁.extBut dA.i1z) (t1.extBut s₁.extBut dA.l1z) ex fun m₂ er s₂ hr => ?_)
    obtain ⟨ob1, oe1, ce1⟩ := hr
    have gz₂ : IsZip m₂ zo tA tB .ellipsis := s₂ _ _ dA.i1z.symm gz₁
    have ez : er ≠ zo := fun x0 => by subst x0; rw [gz₂] at oe1; cases oe1; simp at ce1
    refine wpAny_setField_rec gz₂ (by simp) fun m₃ _ s₃ => kE m₃ er (fun cc ob c1 _ c3 _ x0 => s₃.extBut _ _ c1 (s₂ _ _ c3 (s₁.extBut _ _ c1 x0))) ⟨ob1, s₃.extBut _ _ ez oe1, ce1⟩
  | some x0 =>
    have ey : ws[nb]? = none := by rcases fe with h | h; rw [ex] at h; cases h; exact h
    refine wpAny_bind (RZ.nextOf_tuple_item (j1.extBut s₁.extBut dA.i1z) (t1.extBut s₁.extBut dA.l1z) ex fun m₂ j1₂ s₂ => wpAny_pure ?_)
    have gB₂ : IsPair m₂ tB pa pb := s₂.extBut _ _ dA.TOi1 (s₁.extBut _ _ dA.TOz gB)
    refine wpAny_bind (wpAny_seqItems gB₂ rfl ?_)
    refine wpAny_bind (wpAny_updateSeq_pair gB₂ fun m₃ gB₃ s₃ => ?_)
    refine wpAny_bind (wpAny_letGo (wpAny_pure ?_)); refine wpAny_bind (wpAny_bind (wpAny_onRaise ?_))
    show wpAny _ _ (Builtin.SmallTypes.nextOf (.ref ib) >>= _) _ _ _
    refine wpAny_bind (wpAny_nextOf_list_end hn (((j2.extBut s₁.extBut dA.i2z).extBut s₂.extBut dA.i12.symm).extBut s₃.extBut dA.TOi2.symm)
      (((t2.extBut s₁.extBut dA.l2z).extBut s₂.extBut dA.l2i1).extBut s₃.extBut dA.l2TO) ey fun m₄ er s₄ hr => ?_)
    obtain ⟨ob1, oe1, ce1⟩ := hr
    have gz₄ : IsZip m₄ zo tA tB .ellipsis := s₄ _ _ dA.i2z.symm (s₃.extBut _ _ dA.TOz.symm (s₂.extBut _ _ dA.i1z.symm gz₁))
    have ez : er ≠ zo := fun x0 => by subst x0; rw [gz₄] at oe1; cases oe1; simp at ce1
    refine wpAny_setField_rec gz₄ (by simp) fun m₅ _ s₅ => kE m₅ er (fun cc ob c1 c2 c3 c4 x0 => s₅.extBut _ _ c1 (s₄ _ _ c4 (s₃.extBut _ _ c2 (s₂.extBut _ _ c3 (s₁.extBut _ _ c1 x0))))) ⟨ob1, s₅.extBut _ _ ez oe1, ce1⟩

theorem pyNext_zipM_item {zo tA tB ia ib la lb : Addr} {na nb : Nat} {us ws : Array Value} {x0 y0 pa pb : Value} {R : Option Value → Shared → Prop} (dA : ZipApart zo tA tB ia ib la lb)
    (gz : IsZip s.heap zo tA tB .none) (gA : IsPair s.heap tA (.ref ia) (.ref ib)) (gB : IsPair s.heap tB pa pb)
    (j1 : s.heap.IsTupleIter ia la na) (j2 : s.heap.IsListIter ib lb nb) (t1 : s.heap.IsTuple la us) (t2 : s.heap.IsList lb ws) (ex : us[na]? = some x0) (ey : ws[nb]? = some y0)
    (kQ : ∀ h', IsZip h' zo tA tB (rawInt s.heap.objs.size) → IsPair h' tB x0 y0 → h'.IsTupleIter ia la (na + 1) → h'.IsListIter ib lb (nb + 1) → IsPair h' s.heap.objs.size x0 y0 → h'.objs.size = s.heap.objs.size + 1 →
      (∀ cc ob, cc ≠ zo → cc ≠ tB → cc ≠ ia → cc ≠ ib → s.heap.get? cc = some ob → h'.get? cc = some ob) → R (some (.ref s.heap.objs.size)) { s with heap := h' }) :
    wpAny (model prog w) A (pyNext (.ref zo)) R Er s := by
  have gT : s.TypeIs (.ref zo) "zip" := ⟨_, gz, rfl⟩
  unfold pyNext
  exact wpAny_bind (wpAny_attempt (wpAny_callSpecial?_slot (name := Str.ofString "__next__") gT F.slot_zip_next
    (wpAny_call_entry F.slot_zip_next gT F.entry_zip_next
      (zipM_next_item dA gz gA gB j1 j2 t1 t2 ex ey fun h' a1 a2 a3 a4 a5 a6 a7 => wpAny_pure (kQ h' a1 a2 a3 a4 a5 a6 a7)) (F.args_zip_next_1 _))))

theorem pyNext_zipM_end {zo tA tB ia ib la lb : Addr} {na nb : Nat} {us ws : Array Value} {pa pb : Value} {R : Option Value → Shared → Prop} (hn : A.handled = none) (dA : ZipApart zo tA tB ia ib la lb)
    (gz : IsZip s.heap zo tA tB .none) (gA : IsPair s.heap tA (.ref ia) (.ref ib)) (gB : IsPair s.heap tB pa pb)
    (j1 : s.heap.IsTupleIter ia la na) (j2 : s.heap.IsListIter ib lb nb) (t1 : s.heap.IsTuple la us) (t2 : s.heap.IsList lb ws) (fe : us[na]? = none ∨ ws[nb]? = none)
    (kQ : ∀ h', (∀ cc ob, cc ≠ zo → cc ≠ tB → cc ≠ ia → cc ≠ ib → s.heap.get? cc = some ob → h'.get? cc = some ob) → R none { s with heap := h' }) : wpAny (model prog w) A (pyNext (.ref zo)) R Er s := by
  have gT : s.TypeIs (.ref zo) "zip" := ⟨_, gz, rfl⟩
  unfold pyNext
  refine wpAny_bind (wpAny_attempt (wpAny_callSpecial?_slot (name := Str.ofString "__next__") gT F.slot_zip_next
    (wpAny_call_entry F.slot_zip_next gT F.entry_zip_next (zipM_next_end hn dA gz gA gB j1 j2 t1 t2 fe fun h' er hk1 hr => ?_) (F.args_zip_next_1 _))))
  obtain ⟨ob, ho, hc⟩ := hr
  refine wpAny_bind (wpAny_isInstance (T := "StopIteration") (b := true) ⟨ob, ho, hc⟩ isSubtype_stop ?_)
  exact wpAny_pure (kQ _ hk1)
end
abbrev zmH1 (h : Heap) (la : Addr) : Heap := h.push { cls := .type "tuple_iterator", data := .fields #[.ref la, .int 0 0] }
abbrev zmH2 (h : Heap) (la lb : Addr) : Heap := (zmH1 h la).push { cls := .type "list_iterator", data := .fields #[.ref lb, .int 0 0] }
abbrev zmH3 (h : Heap) (la lb : Addr) : Heap := (zmH2 h la lb).push { cls := .type "tuple", data := .seq #[.ref h.objs.size, .ref (zmH1 h la).objs.size] }
abbrev zmH4 (h : Heap) (la lb : Addr) : Heap := (zmH3 h la lb).push { cls := .type "tuple", data := .seq #[.none, .none] }
abbrev zmH5 (h : Heap) (la lb : Addr) : Heap := (zmH4 h la lb).push { cls := .type "zip", data := .fields #[.none, .bool false, .bool false, .ref (zmH2 h la lb).objs.size, .ref (zmH3 h la lb).objs.size] }

theorem meets_zipM_new (la lb : Addr) (us ws : Array Value) :
    Meets (Builtin.«zip.__new__» ⟨[.type "zip", .ref la, .ref lb], []⟩) (fun _ R s => s.heap.IsTuple la us ∧ s.heap.IsList lb ws ∧
      R (.ok (.ret (.ref (zmH4 s.heap la lb).objs.size))) { s with heap := zmH5 s.heap la lb }) :=
  .of_wp fun pg w A R s h => by
    obtain ⟨hw, g, d, tk, os⟩ := s; obtain ⟨t1, t2, h⟩ := h
    have gsub := sub_zip
    have gL1 : Heap.IsTuple (Shared.heap ⟨hw, g, d, tk, os⟩) la us := t1
    have gL2 : Heap.IsList (Shared.heap ⟨hw.push { cls := .type "tuple_iterator", data := .fields #[.ref la, .int 0 0] }, g, d, tk, os⟩) lb ws := Heap.IsList.push t2 _
    wp_walk using wpAny_pyIter_tuple gL1, wpAny_pyIter_list gL2
    exact ⟨_, rfl, h⟩

section
variable {prog : Program} {w : World} {A : Around} {Er : Value → Shared → Prop}  {s : Shared}

theorem call_zipM {la lb : Addr} {us ws : Array Value} {R : Value → Shared → Prop} (t1 : s.heap.IsTuple la us) (t2 : s.heap.IsList lb ws) (h : ∀ h', IsZip h' (s.heap.objs.size + 4) (s.heap.objs.size + 2) (s.heap.objs.size + 3) .none → IsPair h' (s.heap.objs.size + 2) (.ref s.heap.objs.size) (.ref (s.heap.objs.size + 1)) →
      IsPair h' (s.heap.objs.size + 3) .none .none → h'.IsTupleIter s.heap.objs.size la 0 → h'.IsListIter (s.heap.objs.size + 1) lb 0 → h'.objs.size = s.heap.objs.size + 5 →
      (∀ cc ob, s.heap.get? cc = some ob → h'.get? cc = some ob) → R (.ref (s.heap.objs.size + 4)) { s with heap := h' }) :
    wpAny (model prog w) A (call (.type "zip") [.ref la, .ref lb]) R Er s := by
  refine callType_new F.called_zip (by decide) (F.typeCall_zip_2 _ _) (F.newCall_zip_2 _ _) (fun it => F.args_object_init_3 it _ _) F.entry_zip_new
    (meets_zipM_new la lb us ws) ⟨t1, t2, ?_⟩
  have z1 : (zmH1 s.heap la).objs.size = s.heap.objs.size + 1 := Heap.size_push ..
  have z2 : (zmH2 s.heap la lb).objs.size = s.heap.objs.size + 2 := by rw [Heap.size_push, z1]
  have z3 : (zmH3 s.heap la lb).objs.size = s.heap.objs.size + 3 := by rw [Heap.size_push, z2]
  have z4 : (zmH4 s.heap la lb).objs.size = s.heap.objs.size + 4 := by rw [Heap.size_push, z3]
  have z5 : (zmH5 s.heap la lb).objs.size = s.heap.objs.size + 5 := by rw [Heap.size_push, z4]
  have g5 : (zmH5 s.heap la lb).get? (zmH4 s.heap la lb).objs.size = some _ := Heap.get?_push_size _ rfl
  have g4 : (zmH5 s.heap la lb).get? (zmH3 s.heap la lb).objs.size = some _ := Heap.get?_push_of_some _ (Heap.get?_push_size _ rfl)
  have g3 : (zmH5 s.heap la lb).get? (zmH2 s.heap la lb).objs.size = some _ := Heap.get?_push_of_some _ (Heap.get?_push_of_some _ (Heap.get?_push_size _ rfl))
  have g2 : (zmH5 s.heap la lb).get? (zmH1 s.heap la).objs.size = some _ := Heap.get?_push_of_some _ (Heap.get?_push_of_some _ (Heap.get?_push_of_some _ (Heap.get?_push_size _ rfl)))
  have g1 : (zmH5 s.heap la lb).get? s.heap.objs.size = some _ := Heap.get?_push_of_some _ (Heap.get?_push_of_some _ (Heap.get?_push_of_some _ (Heap.get?_push_of_some _ (Heap.get?_push_size _ rfl))))
  show _ ∧ _
  rw [z2, z3, z4] at g5
  rw [z1, z2] at g3
  rw [z3] at g4
  rw [z1] at g2
  rw [z4]
  exact ⟨⟨_, g5, rfl⟩, h _ g5 g3 g4 ⟨_, g1, rfl, rfl⟩ ⟨_, g2, rfl, rfl⟩ z5 fun cc ob x0 =>
    Heap.get?_push_of_some _ (Heap.get?_push_of_some _ (Heap.get?_push_of_some _ (Heap.get?_push_of_some _ (Heap.get?_push_of_some _ x0))))⟩
end

/-- the tuple at pa and the list at pb as they stand at each turn, the items in new pairs -/
def ItzM (K : PySem.W.Frag) (pa pb : Addr) : It :=
  ⟨fun i H => ∃ (us ws : List V) (x0 y0 : V), SqT K H pa us ∧ SqL K H pb ws ∧ us[i]? = some x0 ∧ ws[i]? = some y0,
    fun i H v H' => ∃ T x0 y0, v = .ref T ∧ H T = none ∧ H' = upd H T (.tup [x0, y0]) ∧ (∀ us, SqT K H pa us → us[i]? = some x0) ∧ ∀ ws, SqL K H pb ws → ws[i]? = some y0,
    fun i H => ∃ us ws : List V, SqT K H pa us ∧ SqL K H pb ws ∧ (us.length ≤ i ∨ ws.length ≤ i)⟩
theorem turn_zipM {P : Program} {w : World} {K : PySem.W.Frag} {elts : List Expr} {kk : Nat} {tpos : Pos} {pa pb zo tA tB ia ib : Addr} (dA : ZipApart zo tA tB ia ib pa pb) :
    Turn P w K (.Tuple elts kk tpos) (ItzM K pa pb) [zo, tA, tB, ia, ib] zo (fun i h => IsZip h zo tA tB .none ∧ IsPair h tA (.ref ia) (.ref ib) ∧ (∃ x0 y0, IsPair h tB x0 y0) ∧ h.IsTupleIter ia pa i ∧ h.IsListIter ib pb i) where
  mem := by simp
  obj := fun i h st cc hc => by
    obtain ⟨gz, gA, ⟨x0, y0, gB⟩, ⟨o1, e1, _, d1⟩, ⟨o2, e2, _, d2⟩⟩ := st
    have e' : cc = zo ∨ cc = tA ∨ cc = tB ∨ cc = ia ∨ cc = ib := by simpa using hc
    rcases e' with (q | q | q | q | q)
    · rw [q]; exact ⟨_, gz, fun v q => nomatch q⟩
    · rw [q]; exact ⟨_, gA, fun v q => nomatch q⟩
    · rw [q]; exact ⟨_, gB, fun v q => nomatch q⟩
    · rw [q]; exact ⟨o1, e1, fun v y => by rw [d1] at y; cases y⟩
    · rw [q]; exact ⟨o2, e2, fun v y => by rw [d2] at y; cases y⟩
  keep := fun i h h' st k => by
    obtain ⟨gz, gA, ⟨x0, y0, gB⟩, j1, j2⟩ := st
    exact ⟨k zo (by simp) _ gz, k tA (by simp) _ gA, ⟨x0, y0, k tB (by simp) _ gB⟩, j1.at fun ob q => k ia (by simp) ob q, j2.at fun ob q => k ib (by simp) ob q⟩
  item := by
    intro X hP hw hK hc i pins s σ H Er I hf st hg
    subst hP hw hK
    obtain ⟨gz, gA, ⟨x0, y0, gB⟩, j1, j2⟩ := st
    obtain ⟨us, ws, x0, y0, hqx, hqy, ex, ey⟩ := hg
    obtain ⟨its, rv, p, _⟩ := I.tuple hqx; obtain ⟨its2, rv2, p2, _⟩ := I.list hqy
    obtain ⟨u, hu, ru⟩ := rv.get ex
    obtain ⟨u2, hu2, ru2⟩ := rv2.get ey
    have hzl : zo < s.heap.objs.size := Heap.lt_size gz
    refine pyNext_zipM_item dA gz gA gB j1 j2 p p2.isList (x0 := u) (y0 := u2) (by simpa using hu) (by simpa using hu2) fun h' z' TO' h1' h2' gT gs hk1 => ?_
    refine ⟨_, rfl, wpAny_letOwnedTupleGo_zip (s := { s with heap := h' }) z' fun h'' z'' sb => ?_⟩; have hT2 : h''.get? s.heap.objs.size = some { cls := .type "tuple", data := .seq #[u, u2] } := (sb.2 _ (Nat.ne_of_gt hzl)).trans gT
    have new : ObjOk X.prog X.w (upd H s.heap.objs.size (.tup [x0, y0])) h'' s.heap.objs.size (.tup [x0, y0]) :=
      ⟨(show 2 ≤ sizeLine by decide), [u, u2], .cons ru (.cons ru2 .nil), ⟨_, hT2, rfl, _, rfl⟩⟩
    have I1 : Inv X pins σ (upd H s.heap.objs.size (.tup [x0, y0])) { s with heap := h'' } :=
      I.turnedNew (t' := s.toks) (ch := [zo, tA, tB, ia, ib]) (fun cc ob hb q => (sb.2 cc (fun q' => hb (by simp [q']))).trans (hk1 cc ob (fun q' => hb (by simp [q'])) (fun q' => hb (by simp [q'])) (fun q' => hb (by simp [q'])) (fun q' => hb (by simp [q'])) q)) hf (Nat.le_refl _) new
    refine ⟨.ref s.heap.objs.size, _, I1, rfl, ⟨_, x0, y0, rfl, I.hok.fresh (Nat.le_refl _), rfl, fun l hl => by rw [I.tuple_inj hl hqx]; exact ex, fun l hl => by rw [I.list_inj hl hqy]; exact ey⟩, ⟨z'', ?_, ⟨u, u2, ?_⟩, ?_, ?_⟩, fun cc hcm => ?_⟩
    · exact (sb.2 _ dA.TIz).trans (hk1 _ _ dA.TIz dA.TITO dA.TIi1 dA.TIi2 gA)
    · exact (sb.2 _ dA.TOz).trans TO'
    · exact h1'.at fun ob q => (sb.2 _ dA.i1z).trans q
    · exact h2'.at fun ob q => (sb.2 _ dA.i2z).trans q
    · have hlt : cc < s.heap.objs.size := by
        have e' : cc = zo ∨ cc = tA ∨ cc = tB ∨ cc = ia ∨ cc = ib := by simpa using hcm
        rcases e' with (q | q | q | q | q)
        · rw [q]; exact hzl
        · rw [q]; exact Heap.lt_size gA
        · rw [q]; exact Heap.lt_size gB
        · rw [q]; obtain ⟨_, e1, _⟩ := j1; exact Heap.lt_size e1
        · rw [q]; obtain ⟨_, e2, _⟩ := j2; exact Heap.lt_size e2
      rw [upd_ne (Nat.ne_of_lt hlt)]; exact (hf cc hcm).1
  done := by
    intro X hP hw hK hc i pins s σ H Er I hf st hg
    subst hP hw hK
    obtain ⟨gz, gA, ⟨x0, y0, gB⟩, j1, j2⟩ := st
    obtain ⟨us, ws, hqx, hqy, fe⟩ := hg
    obtain ⟨its, rv, p, _⟩ := I.tuple hqx; obtain ⟨its2, rv2, p2, _⟩ := I.list hqy
    have la := rv.length
    have lb := rv2.length
    have hr : its.toArray[i]? = none ∨ its2.toArray[i]? = none := by
      rcases fe with q | q
      · exact .inl (by simp; omega)
      · exact .inr (by simp; omega)
    exact pyNext_zipM_end (I.ok.hd hc) dA gz gA gB j1 j2 p p2.isList hr fun h' hk1 => ⟨rfl, I.turnedL (t' := s.toks) (ch := [zo, tA, tB, ia, ib]) (fun cc ob hb q =>
      hk1 cc ob (fun q' => hb (by simp [q'])) (fun q' => hb (by simp [q'])) (fun q' => hb (by simp [q'])) (fun q' => hb (by simp [q'])) q) hf⟩
  self := fun A i s R Er st h => wpAny_pyIter_zip st.1 h


def iZipM (K : PySem.W.Frag) (ta : TA) : TI := fun σ H R => ta σ H fun vs H1 => ∃ a b xs ys, vs = [.ref a, .ref b] ∧ SqT K H1 a xs ∧ SqL K H1 b ys ∧ R (ItzM K a b) H1
theorem pi_zipM {X : Cx} {e e2 : Expr} {ta : TA} {p pos tpos : Pos} {elts : List Expr} {kk : Nat} (hg : Gl X "zip") (hm : X.mg "zip" = none) (ha : PA X [e, e2] ta) (hs : starEach [e, e2] X.env = (false, eval e X.env) :: starEach [e2] X.env := by rfl)
    (hpl : (backTo pos (starEach [e2] X.env)).any (·.1) = false := by rfl) : PI X (.Tuple elts kk tpos) (.Call (.Name "zip" p) [e, e2] [] pos) (iZipM X.K ta) := by
  refine ⟨fun pins s σ H R I h => Call_ (ld_blt I hg hm PyProof.Rows.boot_zip (PyProof.Rows.callWith_type1 (thn (ha.run pos pins s σ H _ I h) fun us s1 ⟨vs, H1, I1, r1, a, b, xs, ys, ex, hqx, hqy, q⟩ => ?_) hs hpl))⟩
  subst ex
  obtain ⟨u1, u2, rfl, r, r'⟩ : ∃ u1 u2, us = [u1, u2] ∧ RelV (.ref a) u1 ∧ RelV (.ref b) u2 := by
    cases r1 with
    | cons r rr =>
      cases rr with
      | cons r' rr => cases rr; exact ⟨_, _, rfl, r, r'⟩
  obtain rfl : u1 = Value.ref a := r
  obtain rfl : u2 = Value.ref b := r'
  obtain ⟨its, rv, p1, _⟩ := I1.tuple hqx
  obtain ⟨its2, rv2, p2, _⟩ := I1.list hqy; obtain ⟨o1, ho1, _⟩ := id p1
  refine call_zipM (show s1.heap.IsTuple a its.toArray from p1) p2.isList fun h' hz hTI hTO h1 h2 hsz hk => wpAny_pyIter_zip hz ?_
  have I2 : Inv X pins σ H1 { s1 with heap := h' } := I1.kept (t' := s1.toks) hk; refine ⟨s1.heap.objs.size + 4, [s1.heap.objs.size + 4, s1.heap.objs.size + 2, s1.heap.objs.size + 3, s1.heap.objs.size, s1.heap.objs.size + 1], _, _, H1, rfl, I2, turn_zipM (PySem.W.ktu_apart s1.heap.objs.size a b (Heap.lt_size ho1) p2.lt), ⟨hz, hTI, ⟨_, _, hTO⟩, h1, h2⟩, fun c hc => ?_, q⟩
  have hge : s1.heap.objs.size ≤ c := by
    simp only [List.mem_cons, List.not_mem_nil, or_false] at hc
    rcases hc with z | z | z | z | z <;> rw [z] <;> first | exact Nat.le_refl _ | exact Nat.le_add_right _ _
  exact I1.fpOk hge (I1.hok.fresh hge)
/-- zip of any two of lists and tuples but list and tuple -/
def iZipB (K : PySem.W.Frag) (ta : TA) : TI := fun σ H R => ta σ H fun vs H1 => ∃ a b xs ys, vs = [.ref a, .ref b] ∧ ((SqL K H1 a xs ∧ SqL K H1 b ys ∧ R (Itz K a b) H1) ∨ (SqT K H1 a xs ∧ SqT K H1 b ys ∧ R (RZ.ItzT K a b) H1))
section
variable {X : Cx} {C : Tab} {W : Wx} {pos p tpos : Pos} {a b : Expr} {elts : List Expr} {ma mb : ME} {kk : Nat}
/-- zip(tuple, list) -/
theorem gi_zipM (hm : X.mg "zip" = none) (ha : GE X C W a ma) (hb : GE X C W b mb) (hg : Gl X "zip" := by rfl) (hs : starEach [a, b] X.env = (false, eval a X.env) :: starEach [b] X.env := by rfl) (h1 : starEach [b] X.env = (false, eval b X.env) :: starEach [] X.env := by rfl)
    (hpl : (backTo pos (starEach [b] X.env)).any (·.1) = false := by rfl) : GI X C W (.Tuple elts kk tpos) (.Call (.Name "zip" p) [a, b] [] pos) (iZipTL ma mb) := PI.imp (pi_zipM hg hm (pa_cons ha (pa_cons hb pa_nil h1) hs) hs hpl) fun σ H R ⟨q0, q, env, s, eq, E, L, pz⟩ => by
  subst eq
  refine tM.first (f := fun x s1 => (mb env s1).bind fun y s2 => zipTL x y s2) E L pz (fun q1 x1 q2 a b w => w) fun x s1 vx q1 x1 E1 L1 y1 p1 => ?_
  refine tM.first (f := fun y s2 => zipTL x y s2) E1 L1 p1 (fun q1 x1 q2 a b w => w) fun y s2 vy q2 x2 E2 L2 y2 p2 => ?_
  have y1 := RD.mono x2.kp x y1
  cases y1 with
    | @tup u us ds g r =>
      cases y2 with
      | @lst v vs es g' r' =>
        refine ⟨u, v, us, vs, rfl, g.sq, SqL.of g'.1, p2 _ q2 (Ext.refl q2) L2 fun q3 s3 i k R3 => ⟨fun d d' h1 h2 => ?_, fun hi _ => ?_⟩⟩
        · cases h2
          have gT := (g.mono k).sq
          have gL : SqL X.K q3.H v vs := SqL.of (g'.mono k).1
          rw [List.getElem?_zipWith] at h1
          cases e1 : ds[i]? with
          | none => rw [e1] at h1; simp at h1
          | some d1 =>
            cases e2 : es[i]? with
            | none => rw [e1, e2] at h1; simp at h1
            | some d2 =>
              rw [e1, e2] at h1
              simp only [Option.some.injEq] at h1
              subst h1
              obtain ⟨w1, h3, h4⟩ := RDs.get (RDs.mono k _ r) e1
              obtain ⟨w2, h5, h6⟩ := RDs.get (RDs.mono k _ r') e2
              refine ⟨⟨us, vs, w1, w2, gT, gL, h3, h5⟩, fun z H3 ⟨T, x', y', z1, z2, z3, z4, z5⟩ => ?_⟩
              have e3 := z4 us gT
              have e4 := z5 vs gL
              rw [h3] at e3
              rw [h5] at e4
              cases e3
              cases e4
              subst z1 z3
              have x2 := Ext.new1 (o := .tup [w1, w2]) R3.wf z2
              exact ⟨⟨upd q3.H T (.tup [w1, w2]), q3.L, q3.r⟩, rfl, x2, R3.new1 z2, .tup (.inl ⟨upd_same, R3.wf.no z2⟩) (.cons (RD.mono x2.kp _ h4) (.cons (RD.mono x2.kp _ h6) .nil))⟩
        · have hi : i = min ds.length es.length := by simpa using hi
          refine ⟨us, vs, (g.mono k).sq, SqL.of (g'.mono k).1, ?_⟩
          rw [r.length, r'.length]
          omega
      | _ => exact p2.elim
    | _ => exact p2.elim
end

end MP

/-! From bodies to callees. Own text. -/
namespace MP
open PySem L2 TL
theorem rds1 {K : PySem.W.Frag} {q : Stt} {x0 : D} {vs : List V} (r : RDs K q [x0] vs) : ∃ v0, vs = [v0] ∧ RD K q x0 v0 := by
  cases r with
  | cons a r => cases r; exact ⟨_, rfl, a⟩
theorem rds2 {K : PySem.W.Frag} {q : Stt} {x0 x1 : D} {vs : List V} (r : RDs K q [x0, x1] vs) : ∃ v0 v1, vs = [v0, v1] ∧ RD K q x0 v0 ∧ RD K q x1 v1 := by
  cases r with
  | cons a r => obtain ⟨v1, rfl, b⟩ := rds1 r; exact ⟨_, v1, rfl, a, b⟩
theorem rds3 {K : PySem.W.Frag} {q : Stt} {x0 x1 x2 : D} {vs : List V} (r : RDs K q [x0, x1, x2] vs) : ∃ v0 v1 v2, vs = [v0, v1, v2] ∧ RD K q x0 v0 ∧ RD K q x1 v1 ∧ RD K q x2 v2 := by
  cases r with
  | cons a r => obtain ⟨v1, v2, rfl, b, c⟩ := rds2 r; exact ⟨_, v1, v2, rfl, a, b, c⟩
section
variable {P : Program} {w : World} {K : PySem.W.Frag} {mg : Str → Option Value} {base : Heap} {C : Tab}
theorem cal_of {k : Nat} {f : Addr} {fd : FuncData} {ps : List Str} {g : Fn} (F : FnOk P w K mg base (L2.CX P w) k f fd ps (spM K C g)) (b : Binds K fd ps []) : Cal P w K mg base C k f g :=
  ⟨fd, ps, [], [], [], g, F, b, .nil, fun _ => .nil, funext fun as => by rw [List.append_nil]⟩
end
end MP

/-! The law's call from the plain law. Own text. -/
namespace MP
open PySem L2 TL
/-- what the law's def promises -/
def spLaw (K : PySem.W.Frag) : Sp := fun vs H Q _ => ∃ (a : Addr) (ns : List Int), vs = [.ref a] ∧ SqL K H a (ns.map V.int) ∧ Only H ∧ ns.length ≤ 63 ∧ ∀ H', Q (.bl true) H'
theorem law_sp {K : PySem.W.Frag} {C : Tab} {g : Fn} (hT : C.t = []) (hg : ∀ ns : List Int, ns.length ≤ 63 → ∃ s, g [.scr ns] [] = .ok (.bl true) s) (vs : List V) (H : Hp) (Q : VK) (E : XK) (h : spLaw K vs H Q E) : spM K C g vs H Q E := by
  obtain ⟨a, ns, rfl, hS, hO, hl, hQ⟩ := h
  obtain ⟨s, e⟩ := hg ns hl
  refine ⟨⟨H, fun _ => False, []⟩, [], [.scr ns], rfl, ⟨⟨List.nodup_nil, fun a ha => (nomatch ha), fun a ha => ha.elim⟩, rfl, fun n o a e => by simp at e, fun p hp => by rw [hT] at hp; exact absurd hp (by simp)⟩, .cons (.scr ?_) .nil, ?_⟩
  · rcases hS with (h | ⟨o, h⟩) | h
    · rcases hO a with z | ⟨o, xs, z⟩
      · rw [h] at z; cases z
      · rw [h] at z; cases z
    · exact .inl ⟨o, h, fun z => z⟩
    · exact .inr (.inr (.inr h))
  · rw [e]
    intro b q' x r rd
    cases rd with
    | bl => exact hQ _
theorem walk63 {l : PySem.W.OpenLaw} {q : Program} {loose : List Str} {XP : (Str → Option Value) → Heap → Prop} {YP : World → Heap → Prop} {d : DefRec} {K : Params → PySem.W.Frag} (hn : l.most = some 63) (hdf : d.params.defaults = []) (hY : ∀ (w : World) (h : Heap), YP w h → (K w.params).In h) (F : ∀ (w : World) (mg : Str → Option Value) (fa : Addr) (h : Heap), (K w.params).In h → h.Ns mainGlobals mg → mg d.name = some (.ref fa) →
      ∃ fd : FuncData, (∀ (s : Shared) (u : Value), BindsTo s fd ⟨[u], []⟩ [("_law_script", u)]) ∧ ∀ base : Heap, (K w.params).In base → base.Ns mainGlobals mg → FnOk l.prog w (K w.params) mg base (L2.CX l.prog w) 60 fa fd ["_law_script"] (spLaw (K w.params))) : PySem.W.WalkO q loose XP YP l.row.toRowW d [] (fun f vs => PySem.call f vs) :=
  L2.walk_of (n := 63) (k := 60) (x := "_law_script") (CX := fun w => L2.CX l.prog w) (sp := fun w => spLaw (K w.params)) hn (by decide) hdf ⟨rfl, by decide, by decide⟩ hY F (fun _ _ a ns hl hO hS => ⟨a, ns, rfl, hS, hO, hl, fun _ => rfl⟩) fun _ _ _ _ _ h => by
    obtain ⟨_, _, _, _, _, _, _, _, _, _, _, _, z⟩ := h; exact z.elim
/-! ### laws with tables of code objects -/
/-- what the law's def promises, its tables empty -/
def spLawT (K : PySem.W.Frag) (T : List (Addr × Str)) (n : Nat) : Sp := fun vs H Q _ => ∃ (a : Addr) (ns : List Int), vs = [.ref a] ∧ SqL K H a (ns.map V.int) ∧ (∀ p ∈ T, H p.1 = some (.tbl #[])) ∧ ns.length ≤ n ∧ (∀ z ∈ ns, Builtin.Int.intBits z ≤ 1048576) ∧ ∀ H', Q (.bl true) H'
theorem law_spT {K : PySem.W.Frag} {C : Tab} {g : Fn} {n : Nat} (hg : ∀ ns : List Int, ns.length ≤ n → ∃ s, g [.scr ns] [] = .ok (.bl true) s) (vs : List V) (H : Hp) (Q : VK) (E : XK) (h : spLawT K C.t n vs H Q E) : spM K C g vs H Q E := by
  obtain ⟨a, ns, rfl, hS, hT, hl, _, hQ⟩ := h
  obtain ⟨s, e⟩ := hg ns hl
  refine ⟨⟨H, fun _ => False, []⟩, [], [.scr ns], rfl, ⟨⟨List.nodup_nil, fun a ha => (nomatch ha), fun a ha => ha.elim⟩, rfl, fun n o a e => by simp at e, fun p hp => LamX.TabS.nil (hT p hp)⟩, .cons (.scr ?_) .nil, ?_⟩
  · rcases hS with (h | ⟨o, h⟩) | h
    · exact .inr (.inl ⟨h, fun z => z⟩)
    · exact .inl ⟨o, h, fun z => z⟩
    · exact .inr (.inr (.inr h))
  · rw [e]
    intro b q' x r rd
    cases rd with
    | bl => exact hQ _
/-- the facts of a def, of a class, of written values -/
theorem gl_mk {K : PySem.W.Frag} {h : Heap} {mg : Str → Option Value} {x : Str} {u : Value} {d : D} (X : K.In h) (G : h.Ns mainGlobals mg) (a : PySem.W.nsIn K mainGlobals x = some (some u)) (b : KVal K 6 u d = true) : ∃ u, mg x = some u ∧ KVal K 6 u d = true := ⟨u, PySem.W.mg_of X G a, b⟩
theorem kd_mk {K : PySem.W.Frag} {w : World} {h : Heap} {mg : Str → Option Value} {x : Str} {d : Addr} {es : Array DictEntry} {n : Nat} {tab : List (List Nat × D)} (X : K.In h) (G : h.Ns mainGlobals mg) (a : PySem.W.nsIn K mainGlobals x = some (some (.ref d))) (l : K.lookup d = some ⟨.type "dict", none, .dict es n, #[]⟩)
    (k : PySem.W.KeysLit w.params es.toList) (lo : (d == sysModules) = false) (e : KEnts K 6 es.toList tab = true) : ∃ a, mg x = some (.ref a) ∧ KDic K w a tab := ⟨d, PySem.W.mg_of X G a, es, n, l, k, lo, e⟩
end MP

/-! The machine read by simp; walks over plain lists. Own text. -/
namespace MP
@[simp] theorem s_eVar (i : Nat) (env : Env) (s : Sto) : eVar i env s = match env[i]? with | some (.val d) => .ok d s | _ => .stk := rfl
@[simp] theorem s_eBor (i : Nat) (env : Env) (s : Sto) : eBor i env s = match env[i]? with | some (.val d) => .ok d s | some (.own ds) => .ok (.lst ds) s | _ => .stk := rfl
@[simp] theorem s_eC (d : D) (env : Env) (s : Sto) : eC d env s = .ok d s := rfl
@[simp] theorem s_eOp2 (g : Op2) (a b : ME) (env : Env) (s : Sto) : eOp2 g a b env s = (a env s).bind fun x s1 => (b env s1).bind fun y s2 => .ofO (g s2 x y) s2 := rfl
@[simp] theorem s_eOp1 (g : Op1) (a : ME) (env : Env) (s : Sto) : eOp1 g a env s = (a env s).bind fun x s1 => .ofO (g s1 x) s1 := rfl
@[simp] theorem s_aNil (env : Env) (s : Sto) : aNil env s = .ok [] s := rfl
@[simp] theorem s_aCons (a : ME) (r : MA) (env : Env) (s : Sto) : aCons a r env s = (a env s).bind fun x s1 => (r env s1).bind fun xs s2 => .ok (x :: xs) s2 := rfl
@[simp] theorem s_oNone (env : Env) (s : Sto) : oNone env s = .ok none s := rfl
@[simp] theorem s_oSome (a : ME) (env : Env) (s : Sto) : oSome a env s = (a env s).bind fun x s1 => match x with | .int i => .ok (some i) s1 | _ => .stk := rfl
@[simp] theorem s_lSl (a : ME) (lo hi : MO) (env : Env) (s : Sto) : lSl a lo hi env s = (a env s).bind fun x s1 => (lo env s1).bind fun l s2 => (hi env s2).bind fun h s3 => match view s3 x with | .lst ds => .ok (cutD ds l h) s3 | _ => .stk := rfl
@[simp] theorem s_eSlT (a : ME) (lo hi : MO) (env : Env) (s : Sto) : eSlT a lo hi env s = (a env s).bind fun x s1 => (lo env s1).bind fun l s2 => (hi env s2).bind fun h s3 => match x with | .tup ds => .ok (.tup (cutD ds l h)) s3 | _ => .stk := rfl
@[simp] theorem s_lOf (a : ME) (env : Env) (s : Sto) : lOf a env s = (a env s).bind fun x s1 => .ofO (seqOf s1 x) s1 := rfl
@[simp] theorem s_eTup (a : MA) (env : Env) (s : Sto) : eTup a env s = (a env s).bind fun ds s1 => if ds.length ≤ 1000 then .ok (.tup ds) s1 else .stk := rfl
@[simp] theorem s_lLst (a : MA) (env : Env) (s : Sto) : lLst a env s = (a env s).bind fun ds s1 => if ds.length ≤ 1000 then .ok ds s1 else .stk := rfl
@[simp] theorem s_eFrz (l : MA) (env : Env) (s : Sto) : eFrz l env s = (l env s).bind fun ds s1 => .ok (.lst ds) s1 := rfl
@[simp] theorem s_ePlc (l : MA) (env : Env) (s : Sto) : ePlc l env s = (l env s).bind fun ds s1 => .ok (.ref s1.length) (s1 ++ [.lst ds]) := rfl
@[simp] theorem s_tVal (a : ME) (env : Env) (s : Sto) : tVal a env s = (a env s).bind asB := rfl
@[simp] theorem s_tNot (t : MT) (env : Env) (s : Sto) : tNot t env s = (t env s).bind fun b s1 => .ok (!b) s1 := rfl
@[simp] theorem s_tAnd (t u : MT) (env : Env) (s : Sto) : tAnd t u env s = (t env s).bind fun b s1 => if b then u env s1 else .ok false s1 := rfl
@[simp] theorem s_tOr (t u : MT) (env : Env) (s : Sto) : tOr t u env s = (t env s).bind fun b s1 => if b then .ok true s1 else u env s1 := rfl
@[simp] theorem s_eAnd (a b : ME) (env : Env) (s : Sto) : eAnd a b env s = ((a env s).bind asB).bind fun c s1 => if c then b env s1 else .ok (.bl false) s1 := rfl
@[simp] theorem s_eOr (a b : ME) (env : Env) (s : Sto) : eOr a b env s = ((a env s).bind asB).bind fun c s1 => if c then .ok (.bl true) s1 else b env s1 := rfl
@[simp] theorem s_eNot (a : ME) (env : Env) (s : Sto) : eNot a env s = ((a env s).bind asB).bind fun c s1 => .ok (.bl (!c)) s1 := rfl
@[simp] theorem s_eIf (t : MT) (a b : ME) (env : Env) (s : Sto) : eIf t a b env s = (t env s).bind fun c s1 => if c then a env s1 else b env s1 := rfl
@[simp] theorem s_eChain (g h : Op2) (a b c : ME) (env : Env) (s : Sto) : eChain g h a b c env s = (a env s).bind fun x s1 => (b env s1).bind fun y s2 => (Res.ofO (g s2 x y) s2).bind fun z s3 => (asB z s3).bind fun k s4 => if k then (c env s4).bind fun w s5 => .ofO (h s5 y w) s5 else .ok (.bl false) s4 := rfl
@[simp] theorem s_eCall (g : Fn) (a : MA) (env : Env) (s : Sto) : eCall g a env s = (a env s).bind g := rfl
@[simp] theorem s_eFld (c : Nat) (o : ME) (f : String) (env : Env) (s : Sto) : eFld c o f env s = (o env s).bind fun x s1 => .ofO (fieldOf s1 c f x) s1 := rfl
@[simp] theorem s_eMeth (c : Nat) (m : String) (g : Fn) (o : ME) (a : MA) (env : Env) (s : Sto) : eMeth c m g o a env s = (o env s).bind fun x s1 => if isOf s1 c m x then (a env s1).bind fun ds s2 => g (x :: ds) s2 else .stk := rfl
@[simp] theorem s_iSeq (a : ME) (env : Env) (s : Sto) : iSeq a env s = (a env s).bind fun x s1 => .ofO (srcOf s1 x) s1 := rfl
@[simp] theorem s_iRng (a : ME) (env : Env) (s : Sto) : iRng a env s = (a env s).bind fun x s1 => match x with | .int j => if -(cap : Int) ≤ j ∧ j ≤ cap then .ok ⟨intsD 0 j.toNat, none⟩ s1 else .stk | _ => .stk := rfl
@[simp] theorem s_iEnum (a : ME) (env : Env) (s : Sto) : iEnum a env s = (a env s).bind fun x s1 => match x with | .lst ds => .ok ⟨ds.mapIdx fun i d => .tup [.int i, d], none⟩ s1 | _ => .stk := rfl
@[simp] theorem s_iStrI (a : ME) (env : Env) (s : Sto) : iStrI a env s = (a env s).bind fun x s1 => match x with | .str cs => .ok ⟨cs.map fun c => .str [c], none⟩ s1 | _ => .stk := rfl
@[simp] theorem s_iZipTL (a b : ME) (env : Env) (s : Sto) : iZipTL a b env s = (a env s).bind fun x s1 => (b env s1).bind fun y s2 => zipTL x y s2 := rfl
@[simp] theorem s_eTupRg (a : ME) (env : Env) (s : Sto) : eTupRg a env s = (a env s).bind fun x s1 => match x with | .int j => if 0 ≤ j ∧ j ≤ cap then .ok (.tup (intsD 0 j.toNat)) s1 else .stk | _ => .stk := rfl
@[simp] theorem s_lAdd (a b : ME) (env : Env) (s : Sto) : lAdd a b env s = (a env s).bind fun x s1 => (b env s1).bind fun y s2 => match view s2 x, view s2 y with | .lst xs, .lst ys => if xs.length + ys.length ≤ cap then .ok (xs ++ ys) s2 else .stk | _, _ => .stk := rfl
@[simp] theorem s_eJoin (a b : ME) (env : Env) (s : Sto) : eJoin a b env s = (a env s).bind fun x s1 => match x with | .str u => (b env s1).bind fun y s2 => joinAt u y s2 | _ => .stk := rfl
@[simp] theorem s_lSplit (a b : ME) (env : Env) (s : Sto) : lSplit a b env s = (a env s).bind fun x s1 => match x with | .str u => (b env s1).bind fun y s2 => cutAt u y s2 | _ => .stk := rfl
@[simp] theorem s_tYesM (env : Env) (s : Sto) : tYesM env s = .ok true s := rfl
@[simp] theorem s_sNext (e : Env) (s : Sto) : sNext e s = .nx e s := rfl
@[simp] theorem s_sSeq (a b : MS) (e : Env) (s : Sto) : sSeq a b e s = (a e s).andThen b := rfl
@[simp] theorem s_putE (g : MG) (d : D) (e : Env) (s : Sto) : putE g d e s = match g d e with | some e' => .nx e' s | none => .stk := rfl
@[simp] theorem s_sAsg (m : ME) (g : MG) (e : Env) (s : Sto) : sAsg m g e s = (m e s).go e fun d s1 => putE g d e s1 := rfl
@[simp] theorem s_gNm (i : Nat) (d : D) (env : Env) : gNm i d env = some (env.set i (.val d)) := rfl
@[simp] theorem s_sOwn (l : MA) (i : Nat) (e : Env) (s : Sto) : sOwn l i e s = (l e s).go e fun ds s1 => .nx (e.set i (.own ds)) s1 := rfl
@[simp] theorem s_sFrz (i : Nat) (e : Env) (s : Sto) : sFrz i e s = match e[i]? with | some (.own ds) => .nx (e.set i (.val (.lst ds))) s | _ => .stk := rfl
@[simp] theorem s_sApp (i : Nat) (m : ME) (e : Env) (s : Sto) : sApp i m e s = match e[i]? with | some (.own ds) => (m e s).go e fun d s1 => if ds.length < cap then .nx (e.set i (.own (ds ++ [d]))) s1 else .stk | _ => .stk := rfl
@[simp] theorem s_sExt (i : Nat) (l : ME) (e : Env) (s : Sto) : sExt i l e s = match e[i]? with | some (.own ds) => (l e s).go e fun x s1 => (match view s1 x with | .lst es => if ds.length + es.length < cap then .nx (e.set i (.own (ds ++ es))) s1 else .stk | _ => .stk) | _ => .stk := rfl
@[simp] theorem s_sDrop (m : ME) (e : Env) (s : Sto) : sDrop m e s = (m e s).go e fun _ s1 => .nx e s1 := rfl
@[simp] theorem s_sRet (m : ME) (e : Env) (s : Sto) : sRet m e s = (m e s).go e fun d s1 => .rt d s1 := rfl
@[simp] theorem s_sIf (t : MT) (a b : MS) (e : Env) (s : Sto) : sIf t a b e s = (t e s).go e fun c s1 => if c then a e s1 else b e s1 := rfl
@[simp] theorem s_sPar (i j : Nat) (a : MA) (e : Env) (s : Sto) : sPar i j a e s = (a e s).go e fun ds s1 => match ds with | [d, b] => .nx ((e.set i (.val d)).set j (.val b)) s1 | _ => .stk := rfl
@[simp] theorem s_sSet (o i m : ME) (e : Env) (s : Sto) : sSet o i m e s = (m e s).go e fun d s1 => (o e s1).go e fun x s2 => (i e s2).go e fun k s3 => match x, k with
  | .ref n, .int k => (match s3[n]? with
    | some (.lst ds) => (match place ds.length k with
      | some j => .nx e (s3.set n (.lst (ds.set j d)))
      | none => .stk)
    | _ => .stk)
  | _, _ => .stk := rfl
@[simp] theorem s_sFld (c : Nat) (o m : ME) (f : String) (e : Env) (s : Sto) : sFld c o m f e s = (m e s).go e fun d s1 => (o e s1).go e fun x s2 => match x with
  | .ref n => (match s2[n]? with
    | some (.ins c' fs) => if c' = c ∧ fs.length < 100 then .nx e (s2.set n (.ins c (putF' f d fs))) else .stk
    | _ => .stk)
  | _ => .stk := rfl
@[simp] theorem s_gTp (gs : List MG) (ds : List D) (env : Env) : gTp gs (.tup ds) env = gAll gs ds env := rfl
@[simp] theorem s_gAll0 (env : Env) : gAll [] [] env = some env := rfl
@[simp] theorem s_gAll1 (g : MG) (gs : List MG) (d : D) (ds : List D) (env : Env) : gAll (g :: gs) (d :: ds) env = (g d env).bind fun e => gAll gs ds e := rfl
@[simp] theorem s_runB (k n : Nat) (body : MS) (ds : List D) (s : Sto) : runB k n body ds s = if ds.length = k then (match body (ds.map .val ++ List.replicate (n - k) .emp) s with
  | .nx _ s => .ok .non s
  | .rt d s => .ok d s
  | .ex x _ s => .exc x s
  | _ => .stk) else .stk := rfl
/-- a, *b = a list or tuple not empty -/
theorem star1 (i j : Nat) (d : D) (ds : List D) (env : Env) (h : ds.length + 1 ≤ 16000) : gSt [gNm i] [] j (.tup (d :: ds)) env = some ((env.set i (.val d)).set j (.val (.lst ds))) := by
  simp [gSt, h]
theorem star1L (i j : Nat) (d : D) (ds : List D) (env : Env) (h : ds.length + 1 ≤ 16000) : gSt [gNm i] [] j (.lst (d :: ds)) env = some ((env.set i (.val d)).set j (.val (.lst ds))) := by
  simp [gSt, h]
/-! ### walks over lists that nothing changes -/
def forP (g : MG) (body : MS) : List D → Env → Sto → SRes
  | [], e, s => .nx e s
  | d :: ds, e, s => match g d e with
    | none => .stk
    | some e1 => match body e1 s with
      | .nx e2 s2 => forP g body ds e2 s2
      | .ct e2 s2 => forP g body ds e2 s2
      | .bk e2 s2 => .nx e2 s2
      | r => r
theorem forL_none (g : MG) (body : MS) (d0 : List D) : ∀ (ds : List D) (i : Nat) (e : Env) (s : Sto), forL ⟨d0, none⟩ g body i ds e s = forP g body ds e s
  | [], i, e, s => by simp [forL, forP, fin]
  | d :: ds, i, e, s => by
    simp only [forL, forP, cur, Option.bind_some]
    cases g d e with
    | none => rfl
    | some e1 =>
      simp only
      cases body e1 s <;> simp only [forL_none g body d0 ds]
def lcP (g : MG) (t : MT) (e : ME) (env : Env) : List D → Sto → Res (List D)
  | [], s => .ok [] s
  | d :: ds, s => (Res.ofO (g d env) s).bind fun env1 s => (calm (t env1 s)).bind fun b s1 =>
    if b then (calm (e env1 s1)).bind fun y s2 => (lcP g t e env ds s2).bind fun ys s3 => .ok (y :: ys) s3
    else lcP g t e env ds s1
theorem lcL_none (g : MG) (t : MT) (m : ME) (env : Env) (d0 : List D) : ∀ (ds : List D) (i : Nat) (s : Sto), lcL ⟨d0, none⟩ g t m env i ds s = lcP g t m env ds s
  | [], i, s => by simp [lcL, lcP, fin]
  | d :: ds, i, s => by
    simp only [lcL, lcP, cur, Option.bind_some]
    simp only [lcL_none g t m env d0 ds]
theorem s_sFor (mi : MI) (g : MG) (body : MS) (e : Env) (s s1 : Sto) (ds : List D) (h : mi e s = .ok ⟨ds, none⟩ s1) : sFor mi g body e s = forP g body ds e s1 := by
  show (mi e s).go e _ = _
  rw [h]
  exact forL_none g body ds ds 0 e s1
theorem s_lLc (mi : MI) (g : MG) (t : MT) (m : ME) (vs : List Nat) (env : Env) (s s1 : Sto) (ds : List D) (h : mi env s = .ok ⟨ds, none⟩ s1) (hl : ds.length ≤ cap) : lLc mi g t m vs env s = lcP g t m (wipeE env vs) ds s1 := by
  show (mi env s).bind _ = _
  rw [h]
  show (if ds.length ≤ cap then _ else _) = _
  rw [if_pos hl]
  exact lcL_none g t m _ ds ds 0 s1
@[simp] theorem Res.ok_match {α β : Type} (a : α) (s : Sto) (f : α → Sto → β) (g : Exn → Sto → β) (h : β) : (match (Res.ok a s : Res α) with | .ok a s => f a s | .exc x s => g x s | .stk => h) = f a s := rfl
end MP

/-! More of the machine read by simp. Own text. -/
namespace MP
@[simp] theorem s_sParO (i j : Nat) (l : MA) (m : ME) (e : Env) (s : Sto) : sParO i j l m e s = (l e s).go e fun ds s1 => (m e s1).go e fun b s2 => .nx ((e.set i (.own ds)).set j (.val b)) s2 := rfl
@[simp] theorem s_lMul (a b : ME) (env : Env) (s : Sto) : lMul a b env s = (a env s).bind fun x s1 => (b env s1).bind fun y s2 => mulAt x y s2 := rfl
@[simp] theorem s_eSlS (a : ME) (lo hi : MO) (env : Env) (s : Sto) : eSlS a lo hi env s = (a env s).bind fun x s1 => (lo env s1).bind fun l s2 => (hi env s2).bind fun h s3 => cutSAt x l h s3 := rfl
@[simp] theorem s_sSetD (o i m : ME) (e : Env) (s : Sto) : sSetD o i m e s = (m e s).go e fun d s1 => (o e s1).go e fun x s2 => (i e s2).go e fun k s3 => putAt e x k d s3 := rfl
@[simp] theorem s_eCnt (a b : ME) (env : Env) (s : Sto) : eCnt a b env s = (a env s).bind fun x s1 => match x with | .lst ds => (b env s1).bind fun y s2 => cntAt ds y s2 | _ => .stk := rfl
@[simp] theorem s_eIdx (a b : ME) (env : Env) (s : Sto) : eIdx a b env s = (a env s).bind fun x s1 => match x with | .lst ds => (b env s1).bind fun y s2 => idxAt ds y s2 | _ => .stk := rfl
@[simp] theorem s_eIsX (i : Nat) (tab : List (Nat × Bool)) (env : Env) (s : Sto) : eIsX i tab env s = match env[i]? with | some (.exn x) => (match tab.lookup x.cls with | some b => .ok (.bl b) s | none => .stk) | _ => .stk := rfl
@[simp] theorem s_eXf (i : Nat) (f : String) (cs : List Nat) (env : Env) (s : Sto) : eXf i f cs env s = match env[i]? with | some (.exn x) => if x.cls ∈ cs then (match x.fs.lookup f with | some d => .ok d s | none => .stk) else .stk | _ => .stk := rfl
@[simp] theorem s_sRs (c : Nat) (fs : List String) (ma : MA) (e : Env) (s : Sto) : sRs c fs ma e s = (ma e s).go e fun ds s1 => if ds.length = fs.length then .ex ⟨c, (fs.zip ds).reverse⟩ e s1 else .stk := rfl
@[simp] theorem s_sRz (c : Nat) (e : Env) (s : Sto) : sRz c e s = .ex ⟨c, []⟩ e s := rfl
end MP

/-! Refusals: raised, caught, asked. Own text. -/
namespace MP
open PySem L2 TL
section
open PyProof.Rows PySem.Calls PySem.W
variable {ox : Obj} {x D : Addr} {prog : Program} {w : World} {A : Around} {E : Value → Shared → Prop} {s : Shared} {K : Frag}
theorem find_cls (od : Option Obj) (h : ExcC K D) : findObj K D od "__class__" = some (.bind (.builtin "getset_descriptor.__get__") (.builtin "object.__class__")) := by
  obtain ⟨cd, hc, _⟩ := any_some h.hd
  have hn := h.hn
  have ht := h.ht
  unfold findObj
  rw [hc, Option.bind_some, h.ha, Option.bind_some]
  simp [hn, ht]
/-- the class of an exception that may have fields -/
theorem cls_told {Q : Option Value → Shared → Prop} {od : Option Obj} (F : ExcC K D) (X : K.In s.heap) (I : InstAt s.heap x ox D od) (h : Q (some (.ref D)) { s with toks := s.toks + 1 }) : wpAny (model prog w) A (getAttr? (.ref x) "__class__") Q E s := by
  have G := looks_findIn (M := model prog w) X F.hg
  have N := looks_findIn (M := model prog w) X F.hk
  have V := looks_find (M := model prog w) X I (find_cls od F)
  obtain ⟨hp, g, dr, t, os⟩ := s
  have T := I.type (M := model prog w)
  have B : Looks (model prog w) hp (isInstance (.ref x) (.type "BaseException")) true := T.andThen (looks_subIn X F.hs)
  have n2 : (Value.builtin "BaseException.__getattribute__" == Value.builtin "object.__getattribute__") = false := by decide +kernel
  have n1 : (onTheHeap (Value.ref D) && Value.builtin "BaseException.__getattribute__" == Value.builtin "object.__getattribute__") = false := by rw [n2]; rfl
  unfold getAttr? getAttrBy? getAttrBy; refine wpAny_bind (wpAny_mkText (wpAny_bind (wpAny_attempt (wpAny_holding (wpAny_bind (T.at (wpAny_bind (G.at ?_))))))))
  show wpAny _ _ (if (onTheHeap (Value.ref D) && Value.builtin "BaseException.__getattribute__" == Value.builtin "object.__getattribute__") = true then _ else _) _ _ _; rw [n1, if_neg Bool.false_ne_true]
  unfold getAttrByItsOwn hookBefore; refine wpAny_bind ?_
  rw [if_pos (show onTheHeap (Value.ref D) = true from rfl)]; refine N.at (wpAny_bind (wpAny_attempt (wpAny_holding ?_)))
  unfold callGetattribute
  rw [show (false && onTheHeap (Value.builtin "BaseException.__getattribute__")) = false from rfl, if_neg Bool.false_ne_true]
  unfold boundAndCalled
  rw [PySem.F.excAttr_ValueError.ga.bind (.ref x)]; refine wpAny_bind (wpAny_pure ?_)
  show wpAny _ _ (call (.builtin "BaseException.__getattribute__") [.ref x, .str "__class__" t]) _ _ _; refine wpAny_call (codeAny_call_builtin PySem.F.excAttr_ValueError.ga.plain PySem.F.entry_bexc_ga (@check_slot (model prog w) _ _ ⟨hp, g, dr, t + 1, os⟩ "BaseException.__getattribute__" "BaseException" "__getattribute__" (.ref x) [.str "__class__" t] [] _ (by decide +kernel) (by decide +kernel) B (PySem.F.args_bexc_ga (.ref x) (.str "__class__" t)) ?_))
  unfold Builtin.«object.__getattribute__»; refine wpAny_bind (wpAny_of_eq (a := ((Value.ref x : Value), [Value.str "__class__" t])) (by first | rfl | (simp only [slotArgs]; rfl)) ?_)
  refine wpAny_bind (wpAny_pure (wpAny_bind (T.at (wpAny_bind (V.at ?_)))))
  show wpAny _ _ (holding [Value.builtin "object.__class__"] (call (.builtin "getset_descriptor.__get__") [.builtin "object.__class__", .ref x, .ref D]) >>= ret) _ _ _; refine wpAny_bind (wpAny_holding (wpAny_call (class_get (s := ⟨hp, g, dr, t + 1, os⟩) (ox := ox) (od := od) X I F.hm (wpAny_pure ?_))))
  show wpAny _ _ (handedOut (.ref D)) _ _ _; rw [handedOut_of (v := .ref D) rfl]
  first | exact wpAny_pure (wpAny_pure h) | exact wpAny_pure h | exact wpAny_pure (wpAny_bind (wpAny_pure (wpAny_pure h)))
theorem kitE {od : Option Obj} (F : ExcC K D) : KitX K (.ref x) (.ref D) (fun h => InstAt h x ox D od) := by
  have Z := handS_kitx_exc (x := x) (ox := ox) F.hg F.hk F.hs F.hd F.ha F.hn F.ht F.hm
  refine ⟨fun _ _ _ I => I.type, fun M h X I => ?_, Z.ne, fun X I k => cls_told F X I k⟩
  obtain ⟨cd, hc, _⟩ := any_some F.hd
  unfold clsIn at hc
  split at hc
  · rename_i c' d' cd' sl' ho
    intro A' Q' E' s' k q
    unfold isType loadHead; exact wpAny_bind (wpAny_loadPart (k _ _ (X _ _ ho)) (wpAny_pure q))
  · cases hc
end
/-- isinstance(e, c), e the refusal that the suite holds -/
def rIsX (K : PySem.W.Frag) (a : Addr) (cls : Value) (d : Option Addr) : List V → Hp → VK → Prop := fun xs H Q => ∃ (D : Addr) (c : V) (cv : Value) (b : Bool), cls = .ref D ∧ ExcC K D ∧ xs = [.ref a, c] ∧ (∀ u, L2.RelV c u → u = cv) ∧ PySem.W.kitOne K (.ref D) cv = some b ∧
  (d = none ∨ ∃ dd fs, d = some dd ∧ H dd = some (.xd fs)) ∧ Q (.bl b) H
theorem call_isX {X : Cx} {a : Addr} {oe : Obj} {pn : List (Addr × Obj)} {cls : Value} {d : Option Addr} (hz : Zc cls d oe) (hf : ∃ vs, oe.data = .fields vs) : CallR (X.suite a ((a, oe) :: pn)) (.builtin "isinstance") (rIsX X.K a cls d) := by
  intro pins s σ H xs us Q I r h; obtain ⟨D, c, cv, b, rfl, F, rfl, hcv, e, hd, q⟩ := h
  cases r with
  | cons rx rr =>
    cases rr with
    | cons rt rr =>
      cases rr
      cases rx
      have ec := hcv _ rt
      subst ec
      obtain ⟨hget, _⟩ := I.pin (a, oe) (List.mem_append.mpr (.inl List.mem_cons_self)); obtain ⟨vs, hv⟩ := hf
      have nc : PySem.W.notCls oe := by unfold PySem.W.notCls; rw [hv] <;> rfl
      have J : ∃ od, PySem.W.InstAt s.heap a oe D od := by
        rcases hd with rfl | ⟨dd, fs, rfl, hx⟩
        · exact ⟨none, hget, hz.1, nc, by rw [hz.2]; trivial⟩
        · have ho : ObjOk X.prog X.w H s.heap dd (.xd fs) := I.hok dd _ hx
          obtain ⟨mA, hns, _⟩ := ho
          obtain ⟨o', h1, _⟩ := lookIn_ns hns
          exact ⟨some o', hget, hz.1, nc, by rw [hz.2]; exact h1⟩
      obtain ⟨od, J⟩ := J
      exact PySem.W.kia_one (kitE F) I.kIn J e (fun z => nomatch z) fun tk => ⟨.bl b, H, I.kept (t' := tk) fun _ _ z => z, rfl, q⟩
theorem RX.dict {q : Stt} {C : Tab} {K : PySem.W.Frag} {x : Exn} {cls : Value} {d : Option Addr} (h : RX q C K x cls d) : d = none ∨ ∃ dd gs, d = some dd ∧ q.H dd = some (.xd gs) := by
  have h2 := h.2
  split at h2
  · exact .inl h2
  · obtain ⟨a, gs, e, h1, _⟩ := h2
    exact .inr ⟨a, gs, e, h1⟩
section
variable {X : Cx} {C : Tab} {W : Wx} {i : Nat} {a : Addr} {oe : Obj} {pn : List (Addr × Obj)} {cls : Value} {d : Option Addr} {x x1 : Str} {p p1 p2 pos : Pos} {tab : List (Nat × Bool)}
/-- the reading of the refusal's name -/
theorem pe_exn (i : Nat) {Y : Cx} (hN : Y.N[i]? = some x) (hv : Vis Y.env.scope x) (hd : (x == ("__debug__" : Str)) = false) (hc : (x == ("__classdict__" : Str)) = false) (hz : C.z i = some (a, cls, d)) : PE Y (.Name x p) (fun σ H Q => ∃ (q0 q : Stt) (env : MP.Env) (s : Sto) (y : Exn), q.H = H ∧ RE Y.K C q0 q env σ ∧ Rel Y.K C s q ∧ env[i]? = some (.exn y) ∧ (RX q C Y.K y cls d → Q (.ref a) H)) := PE.imp (pe_var (i := i) hN hv hd hc) fun σ H Q ⟨q0, q, env, s, y, eq, E, L, e, p⟩ => by
  subst eq
  obtain ⟨a', cls', d', h1, h2, h3⟩ := E.exn i y e
  rw [hz] at h1
  cases h1
  exact ⟨.ref a, h2, p h3⟩
theorem ge_isX (i : Nat) {v : V} {cv : Value} (tab : List (Nat × Bool)) (hzo : Zc cls d oe) (hf : ∃ vs, oe.data = .fields vs) (hz : C.z i = some (a, cls, d)) (hm : X.mg "isinstance" = none) (hv : ∀ u, L2.RelV v u → u = cv) (he : PE (X.suite a ((a, oe) :: pn)) (.Name x1 p1) (tC v))
    (hK : ∀ c b, tab.lookup c = some b → ExcC X.K (C c) ∧ PySem.W.kitOne X.K (.ref (C c)) cv = some b)
    (hN : X.N[i]? = some x := by rfl) (hvis : Vis X.env.scope x := by first | exact Or.inl rfl | exact Or.inr (Or.inl rfl) | exact Or.inr (Or.inr rfl)) (hd : (x == ("__debug__" : Str)) = false := by decide) (hc : (x == ("__classdict__" : Str)) = false := by decide)
    (hg : Gl X "isinstance" := by rfl) (hvb : bootBuiltins "isinstance" = some (.builtin "isinstance") := by decide +kernel)
    (h1 : starEach [.Name x p2, .Name x1 p1] X.env = (false, eval (.Name x p2) X.env) :: starEach [.Name x1 p1] X.env := by rfl) (h2 : starEach [.Name x1 p1] X.env = (false, eval (.Name x1 p1) X.env) :: starEach [] X.env := by rfl)
    (hpl : (backTo pos (starEach [.Name x1 p1] X.env)).any (·.1) = false := by rfl) :
    GE (X.suite a ((a, oe) :: pn)) C W (.Call (.Name "isinstance" p) [.Name x p2, .Name x1 p1] [] pos) (eIsX i tab) :=
  PE.imp (pe_callB (X := X.suite a ((a, oe) :: pn)) (call_isX hzo hf) hg hm hvb (pa_cons (pe_exn (Y := X.suite a ((a, oe) :: pn)) (C := C) i hN hvis hd hc hz) (pa_cons he pa_nil h2) h1) (he := h1) (hpl := hpl)) fun σ H Q ⟨q0, q, env, s, eq, E, L, p⟩ => by
    subst eq
    unfold eIsX at p
    cases e : env[i]? with
    | none => rw [e] at p; exact p.elim
    | some sl =>
      rw [e] at p
      cases sl with
      | exn y =>
        simp only at p
        cases l : tab.lookup y.cls with
        | none => rw [l] at p; exact p.elim
        | some b =>
          rw [l] at p
          obtain ⟨k1, k2⟩ := hK _ _ l
          exact ⟨q0, q, env, s, y, rfl, E, L, e, fun rx => ⟨C y.cls, v, cv, b, rx.1, k1, rfl, hv, k2, rx.dict, p _ q (Ext.refl q) L (.bl b)⟩⟩
      | _ => exact p.elim
/-- e.f, e the refusal that the suite holds -/
theorem ge_xf (i : Nat) (f : String) (cs : List Nat) {n : Str} (hn : n = Str.ofString f) (hzo : Zc cls d oe) (hf : ∃ vs, oe.data = .fields vs) (hz : C.z i = some (a, cls, d)) (hK : ∀ c ∈ cs, XfC X.K (C c) ∧ PySem.W.findIn X.K (.ref (C c)) n = some none)
    (hN : X.N[i]? = some x := by rfl) (hvis : Vis X.env.scope x := by first | exact Or.inl rfl | exact Or.inr (Or.inl rfl) | exact Or.inr (Or.inr rfl)) (hd : (x == ("__debug__" : Str)) = false := by decide) (hc : (x == ("__classdict__" : Str)) = false := by decide)
    (hb : attributeBase (.Name x p) n X.env (eval (.Name x p) X.env) = eval (.Name x p) X.env := by rfl) :
    GE (X.suite a ((a, oe) :: pn)) C W (.Attribute (.Name x p) n pos) (eXf i f cs) := by
  refine ⟨fun pins s σ H Q I h => ?_⟩; obtain ⟨q0, q, env, s1, eq, E, L, p⟩ := h
  subst eq
  unfold eXf at p
  cases e : env[i]? with
  | none => rw [e] at p; exact p.elim
  | some sl =>
    rw [e] at p
    cases sl with
    | exn y =>
      simp only at p
      split at p
      · rename_i hm
        obtain ⟨k1, k2⟩ := hK _ hm
        refine (pe_xf (pos := pos) k1 k2 hzo hf (pe_exn (Y := X.suite a ((a, oe) :: pn)) (C := C) i hN hvis hd hc hz) hb).run pins s σ q.H Q I ⟨q0, q, env, s1, y, rfl, E, L, e, fun rx => ⟨rfl, rx.1, ?_⟩⟩
        have h2 := rx.2
        split at h2
        · rename_i z; rw [z] at p; exact p.elim
        · obtain ⟨dd, gs, e1, e2, _, rf⟩ := h2
          cases l : y.fs.lookup f with
          | none => rw [l] at p; exact p.elim
          | some b =>
            rw [l] at p
            obtain ⟨v, l2, r⟩ := (rf.look f).1 b l
            exact ⟨dd, gs, v, e1, e2, by rw [hn]; exact l2, p v q (Ext.refl q) L r⟩
      · exact p.elim
    | _ => exact p.elim
end
end MP

/-! A lambda's answer, or what is told of its refusal. Own text. -/
namespace MP
open PySem L2 TL LamX
/-- the table within the suite of a clause whose name has the slot j -/
def suiteC (C : Tab) (j : Nat) (a : Addr) (cls : Value) (d : Option Addr) : Tab := { C with z := fun i => if i = j then some (a, cls, d) else none }
theorem suiteC_z {C : Tab} {j : Nat} {a : Addr} {cls : Value} {d : Option Addr} : (suiteC C j a cls d).z j = some (a, cls, d) := if_pos rfl
/-- what is asked of the suite -/
def PostH (K : PySem.W.Frag) (C : Tab) (q : Stt) (Q : VK) : SRes → Prop
  | .rt d s => ∀ v q', Ext q q' → Rel K C s q' → RD K q' d v → Q v q'.H
  | _ => False
def EH (K : PySem.W.Frag) (C : Tab) (CS : Addr) (mh : MS) (N j : Nat) (Q : VK) : XK := fun cls d H => ∃ (q : Stt) (s : Sto) (x : Exn), q.H = H ∧ Rel K C s q ∧ RX q C K x cls d ∧ PySem.W.exmOne K cls (.ref CS) = some true ∧ PostH K C q Q (mh ((List.replicate N .emp).set j (.exn x)) s)
def TTm (K : PySem.W.Frag) (C : Tab) (CS : Addr) (mh : MS) (N j : Nat) : (XK → Hp → VK → Prop) → Hp → VK → Prop := fun tl H Q => tl (EH K C CS mh N j Q) H Q
theorem RE.caught {K : PySem.W.Frag} {C : Tab} {q : Stt} {N j : Nat} {σ : St} {x : Exn} {a : Addr} {cls : Value} {d : Option Addr} (w : WF q) (hl : σ.length = N) (hj : j < N) (rx : RX q C K x cls d) :
    RE K (suiteC C j a cls d) q q ((List.replicate N .emp).set j (.exn x)) (σ.set j (some (.ref a))) := by
  have at_ : ∀ (i : Nat) (sl : Slot), ((List.replicate N Slot.emp).set j (.exn x))[i]? = some sl → (i = j ∧ sl = .exn x) ∨ sl = .emp := fun i sl h => by
    by_cases e : j = i
    · subst e
      rw [List.getElem?_set_self (by simpa using hj)] at h
      exact .inl ⟨rfl, (Option.some.inj h).symm⟩
    · rw [List.getElem?_set_ne e] at h
      exact .inr (List.eq_of_mem_replicate (List.mem_of_getElem? h))
  refine ⟨by simp [hl], fun i d h => ?_, fun i ds h => ?_, fun i k ds es b h => ?_, w, fun i y h => ?_⟩
  · rcases at_ i _ h with ⟨_, e⟩ | e <;> cases e
  · rcases at_ i _ h with ⟨_, e⟩ | e <;> cases e
  · rcases at_ i _ h with ⟨_, e⟩ | e <;> cases e
  · rcases at_ i _ h with ⟨e1, e⟩ | e
    · cases e
      subst e1
      exact ⟨a, cls, d, suiteC_z, by rw [List.getElem?_set_self (by rw [hl]; exact hj)], rx⟩
    · cases e
theorem told_gives {X : Cx} {C : Tab} {Ng : List Str} {x a e n q : Str} {sg : Scope} {g CS : Addr} {cdg : Value} {j : Nat} {b₀ : Stmt} {suite : List Stmt} {mh : MS} {p1 p2 p3 p4 p7 p8 : Pos}
    (hge : sg.names.lookup e = some .globalImplicit) (hme : X.mg e = some (.ref CS)) (hde : (e == ("__debug__" : Str)) = false) (hN : Ng.Nodup) (hj : Ng[j]? = some n) (hln : sg.names.lookup n = some .local)
    (hsu : ∀ (s : Shared) (H : Hp) (a : Addr) (oe : Obj) (cls : Value) (d : Option Addr) (pn : List (Addr × Obj)), Zc cls d oe → (∃ vs, oe.data = .fields vs) →
      GSs ((cxOf C8.CX0 X.prog X.w X.K X.mg X.base Ng x sg g cdg X.A X.stack s H C8.E0).nox.suite a ((a, oe) :: pn)) (suiteC C j a cls d) W0 (b₀ :: suite) mh) :
    GivesTo X Ng x sg g cdg [.Try [.Return (some (.Call (.Name a p1) [] [] p2)) p3] [.ExceptHandler (some (.Name e p4)) (some n) (b₀ :: suite) p7] [] [] p8] a q (TTm X.K C CS mh Ng.length j) := by
  intro f c' s H Q tl act hc h
  have hgl : Gl (cxOf C8.CX0 X.prog X.w X.K X.mg X.base Ng x sg g cdg X.A X.stack s H C8.E0).nox e := hge; have hjl : j < Ng.length := (List.getElem?_eq_some_iff.mp hj).1
  refine ⟨_, pss_one (ps_try_as (X := (cxOf C8.CX0 X.prog X.w X.K X.mg X.base Ng x sg g cdg X.A X.stack s H C8.E0).nox) (c := .ref CS) (i := j) (Wout := fun _ _ _ _ => False)
      (ts := fun a cls d => tS X.K (suiteC C j a cls d) W0 mh)
      (tb := fun W D σ H => ∃ Ech : XK, (∀ cls d σ' H', Ech cls d H' → σ'.length = Ng.length → W cls d σ' H') ∧ σ[0]? = some (some (.ref f)) ∧ H c' = some (CodeO c' q) ∧ tl Ech H D.rt)
      rfl rfl hN hj hln ⟨hgl, hde, .inl hme⟩ LamX.takes0 (fun W pn xe tk _ => ?_) (fun a oe cls d pn hz hf => hsu s H a oe cls d pn hz hf)), ?_⟩
  · refine ⟨fun pins s' σ H' D I hh => ?_⟩
    obtain ⟨Ech, hW, h1, h2, h3⟩ := hh
    have tk' : Takes ((cxOf C8.CX0 X.prog X.w X.K X.mg X.base Ng x sg g cdg X.A X.stack s H C8.E0).tr pn xe) (fun cls d σ H => σ.length = Ng.length → W cls d σ H) := fun u s' ⟨a, B, sI, pins, σ, H, cls, d, e, I, nb, up, sky, na, os, ag, w⟩ =>
      tk u s' ⟨a, B, sI, pins, σ, H, cls, d, e, I, nb, up, sky, na, os, ag, w I.len⟩
    have hp := act (fun cls d σ H => σ.length = Ng.length → W cls d σ H) pn xe Ech p1 p2 tk' hW
    exact (pss_one (ps_ret (pos := p3) hp)).run pins s' σ H' D I ⟨h1, h2, h3⟩
  · refine ⟨EH X.K C CS mh Ng.length j Q, fun cls d σ' H' ⟨q', s', y, e1, e2, e3, e4, e5⟩ hl => ⟨true, e4, fun _ a na => ?_, fun z => nomatch z⟩, ?_, hc, h⟩
    · subst e1
      refine ⟨q', q', _, s', rfl, Ext.refl q', RE.caught e2.wf hl hjl e3, e2, ?_⟩
      cases z : mh ((List.replicate Ng.length .emp).set j (.exn y)) s' with
      | rt d s2 => rw [z] at e5; exact fun v q2 x2 k r rd => e5 v q2 x2 r rd
      | _ => rw [z] at e5; exact e5.elim
    · cases Ng with
      | nil => simp at hjl
      | cons _ _ => rfl
/-- x(lambda: body) -/
theorem ge_told {X : Cx} {C : Tab} {W : Wx} {x a : Str} {g c P CS : Addr} {k j : Nat} {pg : Arguments} {bg : List Stmt} {sg : Scope} {dV kV doc pm cdv ct oc : Value} {an od : Option Addr} {osl : Array (Option Value)} {Ng : List Str}
    {params : Arguments} {body : Expr} {scope : Scope} {me : ME} {mh : MS} (cs : List Nat) {p lpos pos : Pos} (hG : GivesTo X Ng x sg g cdv bg a (X.env.qual ++ "<lambda>") (TTm X.K C CS mh Ng.length j)) (hm : X.mg x = some (.ref g)) (hk : PySem.W.keepIn X.K (.ref g) = true) (lk : X.K.lookup g = some ⟨oc, od, .func (PySem.W.fnOf x x pg bg sg dV kV doc pm an cdv ct), osl⟩) (hcg : PySem.W.codeIn X.K cdv x = true) (hb : L2.Binds X.K (PySem.W.fnOf x x pg bg sg dV kV doc pm an cdv ct) [a] []) (Sg : FnScope Ng [a] sg) (hNg : Ng[0]? = some a) (hva : Vis sg a)
    (TBx : TabB X.base X.mg c P) (hcode : X.env.code = .ref c) (hmT : (P, X.env.qual ++ "<lambda>") ∈ C.t) (hu : ∀ p ∈ C.t, p.1 = P → p.2 = X.env.qual ++ "<lambda>") (hr : Room (k + 2) X.A) (L : LamS X.env.scope scope)
    (hcs : ∀ c ∈ cs, PySem.W.exmOne X.K (.ref (C c)) (.ref CS) = some true)
    (hbody : ∀ (A : Around) (outer : List PySem.Env) (s : Shared) (H : Hp) (E : XK) (f c' : Addr), Room k (A.deeper (lamEnv X scope s.heap.objs.size f c')) → GE (lamCx X A outer s H E scope f c') C (fun cls d _ H' => E cls d H') body me)
    (hg : Gl X x := by rfl) (hdef : defaultsOf params X.env = ([], []) := by rfl) (hbind : ∀ (q : Str) (cl : List (Str × Addr)) (pm cv ctv : Value), bindArgs (PySem.W.kla_fn "<lambda>" q params body scope cl pm cv ctv) ⟨[], []⟩ = pure [] := by intros; rfl) (hdb : (x == ("__debug__" : Str)) = false := by decide) (hd : (a == ("__debug__" : Str)) = false := by decide) (hcd : (a == ("__classdict__" : Str)) = false := by decide) :
    GE X C W (.Call (.Name x p) [.Lambda params body scope lpos] [] pos) (eTold me mh Ng.length j cs) :=
  PE.imp (pe_lamcall (T := C.t) (TT := TTm X.K C CS mh Ng.length j) (t := fun E => tM X.K C (fun cls d _ H' => E cls d H') (rD X.K) me) hg hm hk lk hcg hb Sg hNg hva hG TBx hcode hmT hu hr L hdef hbind hbody hdb hd hcd) fun σ H Q ⟨q0, q, env, s, eq, E, L, p⟩ => by
    subst eq
    refine ⟨L.tb, fun H1 eN T1 => ?_⟩
    have x1 : Ext q ⟨H1, q.L, q.r⟩ := ⟨fun a o e _ t => eN a o e t, fun _ z => z, fun a o e n t => ⟨eN a o e t, n⟩, ⟨[], by simp⟩, fun _ z => .inl z, fun a o e t => ⟨o, eN a o e t, t⟩⟩
    have L1 : Rel X.K C s ⟨H1, q.L, q.r⟩ := ⟨⟨L.wf.nd, L.wf.live, fun a l => let ⟨o, e, t⟩ := L.wf.trk a l; ⟨o, eN a o e t, t⟩⟩, L.len, fun n ob a e f => (L.obs n ob a e f).mono x1.kp (by
      obtain ⟨u, h1, h2, _⟩ := (L.obs n ob a e f).kind
      exact (eN a u h1 h2).trans h1.symm), T1⟩
    refine ⟨q0, ⟨H1, q.L, q.r⟩, env, s, rfl, E.ext x1, L1, ?_⟩
    unfold eTold at p
    cases z : me env s with
    | ok d s1 => rw [z] at p; exact fun v q' x r y => p v q' (x1.trans x) r y
    | stk => rw [z] at p; exact p
    | exc y s1 =>
      rw [z] at p
      intro cls d q' x r rx
      simp only at p
      split at p
      · rename_i hm
        refine ⟨q', s1, y, rfl, r, rx, by rw [rx.1]; exact hcs _ hm, ?_⟩
        cases z2 : mh ((List.replicate Ng.length .emp).set j (.exn y)) s1 with
        | rt d s2 => rw [z2] at p; exact fun v q2 x2 r2 y2 => p v q2 ((x1.trans x).trans x2) r2 y2
        | _ => rw [z2] at p; exact p.elim
      · exact p.elim
end MP

/-! Refusals raised. Own text. -/
namespace MP
open PySem L2 TL
section
variable {X : Cx} {C : Tab} {W : Wx} {x m : Str} {c : Nat} {j : Int} {p p1 p2 pos pos' : Pos} {e : Expr} {es : List Expr} {ta : TA}
theorem gs_rz {bmB : List Value} {B newId initId : String} {j : Nat} (c : Nat) (F : ExcBaseFacts B newId initId bmB) (q : PySem.W.excIn X.K (C c) bmB newId = true) (gC : X.mg x = some (.ref (C c))) (kC : PySem.W.keepIn X.K (.ref (C c)) = true) (r : Raises X (.ref (C c))) (hc : X.calm = true) (tk : Takes X W) (hg : Gl X x := by rfl)
    (hdb : (x == ("__debug__" : Str)) = false := by decide) : GS X C W (.Raise (some (.Call (.Name x p) [.Constant (.str m) j p2] [] pos)) none pos') (sRz c) :=
  PS.imp (ps_raise hc tk (pmk_own F q gC kC r hg hdb)) fun D σ H ⟨q0, q, env, s, eq, X0, E, L, p⟩ => by
    subst eq
    exact p (.ref (C c)) none σ q X0 (Kp.refl q) L E ⟨rfl, rfl⟩
/-- B.__init__(self, ..), B an own class over ValueError without an own __init__ -/
theorem pe_basei {CM : Addr} {pl : Sem Bool} (hg : Gl X x) (hm : X.mg x = some (.ref CM)) (hr : ClX.CRead X.K CM (.type "type")) (vV : PySem.W.findCls X.K (.ref CM) (.type "type") "__init__" = some (.val (.builtin "ValueError.__init__"))) (ha : PA X (e :: es) ta)
    (hdb : (x == ("__debug__" : Str)) = false := by decide)
    (hc : eval (.Call (.Attribute (.Name x p1) "__init__" p2) (e :: es) [] pos) X.env = (do
      let ov ← eval (.Name x p1) X.env
      standAt p2.atName
      let (f, first) ← holding [ov] (getMethod ov "__init__" pl); callWith pos f first (backTo pos (starEach (e :: es) X.env)) (backToKw pos (keywordEach [] X.env))) := by rfl) (he : starEach (e :: es) X.env = (false, eval e X.env) :: starEach es X.env := by rfl) (hpl : (backTo pos (starEach es X.env)).any (·.1) = false := by rfl) :
    PE X (.Call (.Attribute (.Name x p1) "__init__" p2) (e :: es) [] pos) (tVeI X.K ta) := by
  refine ⟨fun pins s σ H Q I h => ?_⟩; refine PySem.W.methodCall_KW (ld_glob I hg hm ?_ hdb) hc
  refine PySem.W.method_cls I.kIn hr.ga (PySem.W.cls_value I.kIn hr.rd vV (by decide +kernel) ?_)
  show wpAny _ _ (callWith pos (Value.builtin "ValueError.__init__") [] (backTo pos (starEach (e :: es) X.env)) []) _ _ _; refine PyProof.Rows.callWith_method1 (thn (ha.run pos pins _ σ H _ (I.tok _) h) fun us s1 ⟨vs, H1, I1, r1, a, D, ws, ev, hl, T, ea, q⟩ => ?_) he hpl
  subst ev
  cases r1 with
  | @cons _ u0 _ ur ra rw' =>
    obtain rfl : u0 = Value.ref a := ra; have hlen : ur.length ≤ sizeLine := by
      rw [← Paired.length rw', sizeLine_eq]; omega
    exact oinit_ok T I1 ea hlen fun s2 J2 => ⟨.non, H1, J2, rfl, q⟩
end
end MP

/-! Refusals with fields: their makers, raised. Own text. -/
namespace MP
open PySem L2 TL
/-- what the maker of a refusal promises: its fields by the values handed -/
def spI (K : PySem.W.Frag) (Ca : Addr) (fs : List Str) : Sp := fun vs H Q _ => ∃ (a : Addr) (ws : List V), vs = .ref a :: ws ∧ ws.length = fs.length ∧ H a = some (exo a Ca none) ∧
  ∀ dx H', H dx = none → dx ≠ a → H' a = some (exo a Ca (some dx)) → H' dx = some (exd dx (fs.zip ws).reverse) → (∀ b, b ≠ a → b ≠ dx → H' b = H b) → Q .non H'
/-- a class of refusals with fields -/
structure ExO (K : PySem.W.Frag) (Ca : Addr) (fs : List Str) : Prop where
  ox : OexC K Ca
  nf : ∀ f ∈ fs, PySem.W.findIn K (.ref Ca) f = some none
/-- the class that the makers call by its name -/
structure BaseI (K : PySem.W.Frag) (CM : Addr) : Prop where
  rd : ClX.CRead K CM (.type "type")
  vV : PySem.W.findCls K (.ref CM) (.type "type") "__init__" = some (.val (.builtin "ValueError.__init__"))
section
variable {P : Program} {w : World} {K : PySem.W.Frag} {mg : Str → Option Value} {base : Heap} {CX : CXT} {bn f g x y qual m : Str} {params : Arguments} {scope : Scope} {fI CM Ca : Addr} {fd : FuncData} {kws : List (Str × V)} {pl : PySem.Env → Sem Bool} {j : Nat} {p1 p2 p3 p4 p5 p6 p7 p8 p9 p10 p11 p12 p13 p14 : Pos}
theorem init1 (F : FunD K "__init__" qual params [.Expr (.Call (.Attribute (.Name bn p1) "__init__" p2) [.Name "self" p3, .Constant (.str m) j p4] [] p5) p6, .Assign [.Attribute (.Name "self" p7) f p8] (.Name x p9) p10] scope [] kws fI fd)
    (S : FnScope ["self", x] ["self", x] scope) (hg : scope.names.lookup bn = some .globalImplicit) (hm : mg bn = some (.ref CM)) (B : BaseI K CM) (T : ExO K Ca [f])
    (v0 : Vis scope "self") (v1 : Vis scope x) (d1 : (x == ("__debug__" : Str)) = false) (c1 : (x == ("__classdict__" : Str)) = false) (db : (bn == ("__debug__" : Str)) = false)
    (hc : ∀ env : PySem.Env, eval (.Call (.Attribute (.Name bn p1) "__init__" p2) [.Name "self" p3, .Constant (.str m) j p4] [] p5) env = (do
      let ov ← eval (.Name bn p1) env
      standAt p2.atName
      let (f, first) ← holding [ov] (getMethod ov "__init__" (pl env))
      callWith p5 f first (backTo p5 (starEach [.Name "self" p3, .Constant (.str m) j p4] env)) (backToKw p5 (keywordEach [] env)))) : FnOk P w K mg base CX 1 fI fd ["self", x] (spI K Ca [f]) := by
  refine F.ok S (fun vs H Q E h => ?_) fun cdv A outer s H vs Q E hr h => ?_
  · obtain ⟨a, ws, rfl, e, _⟩ := h
    simp [e]
  · obtain ⟨a, ws, rfl, e, ha, q⟩ := h
    match ws, e with
    | [u], _ =>
      refine ⟨_, pss_cons (ps_expr (pe_basei hg hm B.rd B.vV (pa_cons (pe_var (i := 0) rfl v0) (pa_cons pe_str pa_nil)) db (hc _))) (pss_one (ps_ost (pe_var (i := 0) rfl v0) (pe_var (i := 1) rfl v1 d1 c1))), ?_⟩
      refine ⟨.ref a, rfl, a, Ca, [.str m], rfl, by simp, T.ox, ha, u, rfl, .ref a, rfl, a, Ca, rfl, T.ox, T.nf f (by simp), .inl ⟨ha, fun dx n ne => q dx _ n ne upd_same ?_ fun b b1 b2 => ?_⟩⟩
      · rw [upd_ne ne]; exact upd_same
      · rw [upd_ne b1, upd_ne b2]
theorem init2 (F : FunD K "__init__" qual params [.Expr (.Call (.Attribute (.Name bn p1) "__init__" p2) [.Name "self" p3, .Constant (.str m) j p4] [] p5) p6, .Assign [.Attribute (.Name "self" p7) f p8] (.Name x p9) p10, .Assign [.Attribute (.Name "self" p11) g p12] (.Name y p13) p14] scope [] kws fI fd)
    (S : FnScope ["self", x, y] ["self", x, y] scope) (hg : scope.names.lookup bn = some .globalImplicit) (hm : mg bn = some (.ref CM)) (B : BaseI K CM) (T : ExO K Ca [f, g])
    (v0 : Vis scope "self") (v1 : Vis scope x) (v2 : Vis scope y) (d1 : (x == ("__debug__" : Str)) = false) (c1 : (x == ("__classdict__" : Str)) = false) (d2 : (y == ("__debug__" : Str)) = false) (c2 : (y == ("__classdict__" : Str)) = false) (db : (bn == ("__debug__" : Str)) = false)
    (hc : ∀ env : PySem.Env, eval (.Call (.Attribute (.Name bn p1) "__init__" p2) [.Name "self" p3, .Constant (.str m) j p4] [] p5) env = (do
      let ov ← eval (.Name bn p1) env
      standAt p2.atName
      let (f, first) ← holding [ov] (getMethod ov "__init__" (pl env))
      callWith p5 f first (backTo p5 (starEach [.Name "self" p3, .Constant (.str m) j p4] env)) (backToKw p5 (keywordEach [] env)))) : FnOk P w K mg base CX 1 fI fd ["self", x, y] (spI K Ca [f, g]) := by
  refine F.ok S (fun vs H Q E h => ?_) fun cdv A outer s H vs Q E hr h => ?_
  · obtain ⟨a, ws, rfl, e, _⟩ := h
    simp [e]
  · obtain ⟨a, ws, rfl, e, ha, q⟩ := h
    match ws, e with
    | [u, z], _ =>
      refine ⟨_, pss_cons (ps_expr (pe_basei hg hm B.rd B.vV (pa_cons (pe_var (i := 0) rfl v0) (pa_cons pe_str pa_nil)) db (hc _))) (pss_cons (ps_ost (pe_var (i := 0) rfl v0) (pe_var (i := 1) rfl v1 d1 c1)) (pss_one (ps_ost (pe_var (i := 0) rfl v0) (pe_var (i := 2) rfl v2 d2 c2)))), ?_⟩
      refine ⟨.ref a, rfl, a, Ca, [.str m], rfl, by simp, T.ox, ha, u, rfl, .ref a, rfl, a, Ca, rfl, T.ox, T.nf f (by simp), .inl ⟨ha, fun dx n ne => ⟨z, rfl, .ref a, rfl, a, Ca, rfl, T.ox, T.nf g (by simp), .inr ⟨dx, [(f, u)], upd_same, ?_, by simp, q dx _ n ne ?_ upd_same fun b b1 b2 => ?_⟩⟩⟩⟩
      · rw [upd_ne ne]; exact upd_same
      · rw [upd_ne (Ne.symm ne)]; exact upd_same
      · rw [upd_ne b2, upd_ne b1, upd_ne b2]
end
theorem passes_false {P : Program} {w : World} {X : Cx} : Passes (L2.CX P w) X (fun _ _ _ => False) := fun _ _ _ _ _ _ _ h => by
  obtain ⟨_, _, _, _, _, _, _, _, _, _, _, _, z⟩ := h; exact z.elim
theorem RF.append {K : PySem.W.Frag} {q : Stt} : ∀ {fs fs' : List (String × D)} {gs gs' : List (Str × V)}, RF K q fs gs → RF K q fs' gs' → RF K q (fs ++ fs') (gs ++ gs')
  | _, _, _, _, .nil, h => h
  | _, _, _, _, .cons a b, h => .cons a (RF.append b h)
theorem RF.rev {K : PySem.W.Frag} {q : Stt} : ∀ {fs : List (String × D)} {gs : List (Str × V)}, RF K q fs gs → RF K q fs.reverse gs.reverse
  | _, _, .nil => .nil
  | _, _, .cons a b => by rw [List.reverse_cons, List.reverse_cons]; exact RF.append (RF.rev b) (.cons a .nil)
theorem RF.zip {K : PySem.W.Frag} {q : Stt} : ∀ (fs : List String) {ds : List D} {vs : List V}, RDs K q ds vs → RF K q (fs.zip ds) ((fs.map Str.ofString).zip vs)
  | [], _, _, _ => by simp; exact .nil
  | f :: fs, _, _, .nil => by simp; exact .nil
  | f :: fs, _, _, .cons a b => .cons a (RF.zip fs b)
section
variable {X : Cx} {C : Tab} {W : Wx} {x : Str} {c k : Nat} {p pos pos' : Pos} {e : Expr} {es : List Expr} {ma : MA} {fI : Addr} {fd : FuncData} {ps : List Str}
theorem gs_rs (c : Nat) (f : String) (fs : List String) (T : ExO X.K (C c) ((f :: fs).map Str.ofString)) (iC : PySem.W.findIn X.K (.ref (C c)) "__init__" = some (some (.ref fI))) (tI : PySem.W.typeIn X.K (.ref fI) = some (.type "function"))
    (F : FnOk X.prog X.w X.K X.mg X.base (L2.CX X.prog X.w) k fI fd ps (spI X.K (C c) ((f :: fs).map Str.ofString))) (hr : Room (k + 1) X.A) (hb : Binds X.K fd ps []) (hl : (f :: fs).length ≤ 900) (hm : X.mg x = some (.ref (C c))) (hc : X.calm = true) (tk : Takes X W) (ha : GA X C W (e :: es) ma) (hg : Gl X x := by rfl) (hdb : (x == ("__debug__" : Str)) = false := by decide) (he : starEach (e :: es) X.env = (false, eval e X.env) :: starEach es X.env := by rfl) (hpl : (backTo pos (starEach es X.env)).any (·.1) = false := by rfl) :
    GS X C W (.Raise (some (.Call (.Name x p) (e :: es) [] pos)) none pos') (sRs c (f :: fs) ma) :=
  PS.imp (ps_raise hc tk (pmk_oex (dvs := []) T.ox iC tI F hr hb .nil passes_false hg hm ha hdb he hpl)) fun D σ H ⟨q0, q, env, s, eq, X0, E, L, p⟩ => by
    subst eq
    refine tS.first (f := fun ds s1 => if ds.length = (f :: fs).length then SRes.ex ⟨c, ((f :: fs).zip ds).reverse⟩ env s1 else .stk) X0 E L p fun ds s1 vs q1 x1 X1 E1 L1 y1 p1 => ?_
    split at p1
    · rename_i hlen
      have hlv : vs.length = ((f :: fs).map Str.ofString).length := by rw [y1.length, hlen]; simp
      refine ⟨by rw [hlv]; simp at hl ⊢; omega, fun a na => ⟨a, vs, by rw [List.append_nil], hlv, upd_same, fun dx H' n ne h1 h2 h3 => ⟨rfl, dx, _, h1, h2, ?_, ?_⟩⟩⟩
      · rw [upd_ne ne] at n; exact n
      · have n' : q1.H dx = none := by rw [upd_ne ne] at n; exact n
        have eH : upd (del H' a) dx (.xd (((f :: fs).map Str.ofString).zip vs).reverse) = upd q1.H dx (.xd (((f :: fs).map Str.ofString).zip vs).reverse) := by
          funext b
          by_cases b1 : b = dx
          · subst b1; rw [upd_same, upd_same]
          · rw [upd_ne b1, upd_ne b1]
            by_cases b2 : b = a
            · subst b2; rw [del_same, na]
            · rw [del_ne b2, h3 b b2 b1, upd_ne b2]
        rw [eH]
        have x2 := Ext.new1 (o := .xd (((f :: fs).map Str.ofString).zip vs).reverse) L1.wf n'
        have L2 := L1.new1 (o := .xd (((f :: fs).map Str.ofString).zip vs).reverse) n'
        refine p1 (.ref (C c)) (some dx) σ ⟨_, q1.L, q1.r⟩ (X1.trans x2) x2.kp L2 (E1.ext x2) ⟨rfl, ?_⟩
        have rf := ((RF.zip (f :: fs) y1).rev).mono x2.kp
        have hne : ((f :: fs).zip ds).reverse ≠ [] := by
          intro z
          have := congrArg List.length z
          rw [List.length_reverse, List.length_zip, hlen] at this
          simp at this
        show match ((f :: fs).zip ds).reverse with
          | [] => some dx = none
          | fs => ∃ a gs, some dx = some a ∧ _ ∧ _ ∧ _
        split
        · rename_i z; exact absurd z hne
        · exact ⟨dx, _, rfl, upd_same, L1.wf.no n', rf⟩
    · exact p1.elim
end
end MP

/-! Counts, places, greatest ones, pieces of texts, items put. Own text. -/
namespace MP
open PySem L2 TL PyProof.Rows
section
variable {X : Cx} {C : Tab} {W : Wx} {pos apos p2 p' : Pos} {e a b o i : Expr} {m ma mb mo mi : ME} {l h : MO} {lo hi : Option Expr}
/-! ### count, index -/
def rCntD (K : PySem.W.Frag) : V → List V → Hp → VK → Prop := fun x xs H Q => ∃ (a : Addr) (ys : List V) (y : V) (d : PyData) (ds : List PyData), x = .ref a ∧ xs = [y] ∧ SqL K H a ys ∧ DpAll K H ys ds ∧ Dp K H y d ∧ SeqAt.shaped (.list ds) = true ∧ SeqAt.shaped d = true ∧
  Q (.int ((ds.countP fun z => PyData.eqv z d : Nat) : Int)) H
theorem mt_countD (hu : X.A.units + 65 < cLine) : MtR X "list.count" (rCntD X.K) := by
  intro pins s σ H x xs v us Q I rx rxs h; obtain ⟨a, ys, y, d, ds, rfl, rfl, hs, ha, hy, sl, sd, q⟩ := h
  cases rx
  obtain ⟨uy, rfl, ry⟩ := rxs.one
  obtain ⟨bs, r1⟩ := Dp.reads I d y uy hy ry; have hxs : PyData.canLayAll0 ds = true := SeqAt.canLay_of_shaped sl
  have hroom : X.A.units + 1 + min (PyData.depthAll ds) d.depth < cLine := PyProof.Rows.room_in_shaped sd hu
  obtain ⟨its, rv, ⟨⟨cls, dd, data, sls⟩, n, ho, hc, hdn, hdt⟩, hlen⟩ := I.list hs; simp only at hc hdt
  subst hc hdt
  obtain ⟨as, h4⟩ := Dp.readsAll I ds _ its ha rv; have hmap : its.map (SeqAt.readOf s.heap) = ds := SeqAt.readsAll_map ds its as hxs h4; refine call_meets PySem.F.slot_list_count ⟨_, ho, rfl⟩ PySem.F.entry_list_count (PySem.F.args_list_count_2 _ _)
    (SeqAt.list_countAt a its.toArray n dd sls uy (fun u => PyData.eqv (SeqAt.readOf s.heap u) d)) ⟨ho, SeqAt.items_eqAt (vs := its.toArray) (show ReadsAll s.heap its.toArray.toList ds as from h4) r1 hxs (SeqAt.canLay_of_shaped sd) hroom, ?_⟩
  have ec : its.toArray.toList.countP (fun u => PyData.eqv (SeqAt.readOf s.heap u) d) = ds.countP fun z => PyData.eqv z d := by
    rw [← hmap, List.countP_map]; rfl
  rw [ec]
  exact ⟨.int _, H, I.tok _, ⟨_, rfl⟩, q⟩
theorem toPs_map : ∀ ds : List D, toPs ds = ds.map toP
  | [] => rfl
  | d :: ds => by simp [toPs, toPs_map ds]
theorem fits_all {n : Nat} : ∀ {ds : List D}, D.fits n ds = true → ∀ d ∈ ds, d.fit n = true
  | d :: ds, h, x, hx => by
    simp only [D.fits, Bool.and_eq_true] at h; rcases List.mem_cons.mp hx with e | hx
    · subst e; exact h.1
    · exact fits_all h.2 x hx
theorem fit_up : ∀ (n : Nat) (d : D), d.fit n = true → d.fit (n + 1) = true := by
  intro n
  induction n with
  | zero => intro d h; cases d <;> simp_all [D.fit]
  | succ n ih =>
    have ihs : ∀ ds : List D, D.fits n ds = true → D.fits (n + 1) ds = true := by
      intro ds
      induction ds with
      | nil => intro _; rfl
      | cons d ds ih2 =>
        intro h
        simp only [D.fits, Bool.and_eq_true] at h ⊢
        exact ⟨ih d h.1, ih2 h.2⟩
    intro d h
    cases d <;> simp_all [D.fit]
theorem fit_le {n k : Nat} {d : D} (h : d.fit n = true) (l : n ≤ k) : d.fit k = true := by
  induction l with
  | refl => exact h
  | step _ ih => exact fit_up _ _ ih
theorem ge_cnt (hu : X.A.units + 65 < cLine) (ho : GB X C W o mo) (he : GE X C W e m)
    (hbase : attributeBase o "count" X.env (eval o X.env) = eval o X.env := by rfl)
    (hfew : ((backTo pos (starEach [e] X.env)).all (fun x => !x.1) && (backToKw pos (keywordEach [] X.env)).all (fun x => x.1.isSome)
      && decide ([e].length + ([] : List Keyword).length + (if ([] : List Keyword).isEmpty then 0 else 1) < 30)) = true := by rfl)
    (hline : (apos.endLine == pos.line) = true := by rfl) (hs : starEach [e] X.env = (false, eval e X.env) :: starEach [] X.env := by rfl) (hplain : (backTo pos (starEach [] X.env)).any (·.1) = false := by rfl) :
    GE X C W (.Call (.Attribute o "count" apos) [e] [] pos) (eCnt mo m) := PE.imp (pe_bm PySem.F.plainAttrs_list PySem.F.slot_list_count PySem.F.type_list_count (mt_countD hu) ho (pa_cons he pa_nil hs) hbase hfew hline hs hplain) fun σ H Q ⟨q0, q, env, s, eq, E, L, p⟩ => by
  subst eq
  refine tM.first (f := fun x s1 => match x with | .lst ds => (m env s1).bind fun y s2 => cntAt ds y s2 | _ => .stk) E L p rD_any fun x s1 vx q1 x1 E1 L1 y1 p1 => ?_
  cases x with
  | lst ds =>
    obtain ⟨a, vs, rfl, g, r⟩ := y1.lst
    simp only at p1
    have y1' : RB X.K q1 (.lst ds) (.ref a) := y1
    refine ⟨.inl ⟨rfl, _, SqL.of g⟩, ?_⟩
    refine tM.first (f := fun y s2 => cntAt ds y s2) E1 L1 p1 rD_any fun y s2 vy q2 x2 E2 L2 y2 p2 => ?_
    unfold cntAt at p2
    split at p2
    · rename_i hf
      simp only [Bool.and_eq_true] at hf
      obtain ⟨a', vs', e', g', r'⟩ := (y1'.ext x2).lst
      cases e'
      refine ⟨a, vs', vy, toP y, toPs ds, rfl, rfl, SqL.of g', RDs.dp 50 ds r' hf.2, RD.dp 50 y y2 hf.1, shaped_toP (d := .lst ds) (fit_le (n := 51) (k := 60) (d := .lst ds) (by simpa [D.fit] using hf.2) (by omega)), shaped_toP (fit_le hf.1 (by omega)), ?_⟩
      · have ec : (toPs ds).countP (fun z => PyData.eqv z (toP y)) = ds.countP fun z => z.eqv y := by
          rw [toPs_map, List.countP_map]
          exact List.countP_congr fun z hz => by
            rw [Function.comp, eqv_toP 50 50 z y (fits_all hf.2 z hz) hf.1]
        rw [ec]
        exact p2 _ q2 (Ext.refl q2) L2 (.int _)
    · exact p2.elim
  | _ => exact p1.elim
theorem ge_idx (hu : X.A.units + 65 < cLine) (ho : GB X C W o mo) (he : GE X C W e m)
    (hbase : attributeBase o "index" X.env (eval o X.env) = eval o X.env := by rfl)
    (hfew : ((backTo pos (starEach [e] X.env)).all (fun x => !x.1) && (backToKw pos (keywordEach [] X.env)).all (fun x => x.1.isSome)
      && decide ([e].length + ([] : List Keyword).length + (if ([] : List Keyword).isEmpty then 0 else 1) < 30)) = true := by rfl)
    (hline : (apos.endLine == pos.line) = true := by rfl) (hs : starEach [e] X.env = (false, eval e X.env) :: starEach [] X.env := by rfl) (hplain : (backTo pos (starEach [] X.env)).any (·.1) = false := by rfl) :
    GE X C W (.Call (.Attribute o "index" apos) [e] [] pos) (eIdx mo m) := PE.imp (pe_bm PySem.F.plainAttrs_list PySem.F.slot_list_index PySem.F.type_list_index (mt_indexD hu) ho (pa_cons he pa_nil hs) hbase hfew hline hs hplain) fun σ H Q ⟨q0, q, env, s, eq, E, L, p⟩ => by
  subst eq
  refine tM.first (f := fun x s1 => match x with | .lst ds => (m env s1).bind fun y s2 => idxAt ds y s2 | _ => .stk) E L p rD_any fun x s1 vx q1 x1 E1 L1 y1 p1 => ?_
  cases x with
  | lst ds =>
    obtain ⟨a, vs, rfl, g, r⟩ := y1.lst
    simp only at p1
    have y1' : RB X.K q1 (.lst ds) (.ref a) := y1
    refine ⟨.inl ⟨rfl, _, SqL.of g⟩, ?_⟩
    refine tM.first (f := fun y s2 => idxAt ds y s2) E1 L1 p1 rD_any fun y s2 vy q2 x2 E2 L2 y2 p2 => ?_
    unfold idxAt at p2
    split at p2
    · rename_i hf
      simp only [Bool.and_eq_true] at hf
      obtain ⟨a', vs', e', g', r'⟩ := (y1'.ext x2).lst
      cases e'
      cases hj : ds.findIdx? (fun z => z.eqv y) with
      | none => rw [hj] at p2; exact p2.elim
      | some j =>
        rw [hj] at p2
        obtain ⟨h1, h2, h3⟩ := List.findIdx?_eq_some_iff_getElem.mp hj
        have at_ : ∀ (k : Nat) (hk : k < ds.length), (toPs ds)[k]? = some (toP ds[k]) ∧ PyData.eqv (toP ds[k]) (toP y) = ds[k].eqv y := fun k hk => by
          refine ⟨by rw [toPs_map, List.getElem?_map, List.getElem?_eq_getElem hk]; rfl, eqv_toP 50 50 _ _ (fits_all hf.2 _ (List.getElem_mem hk)) hf.1⟩
        refine ⟨a, vy, toP y, toPs ds, j, toP ds[j], rfl, rfl, .lst (SqL.of g') (RDs.dp 50 ds r' hf.2), RD.dp 50 y y2 hf.1, shaped_toP (d := .lst ds) ?_, shaped_toP (fit_le hf.1 (by omega)), (at_ j h1).1, (at_ j h1).2.trans h2, fun k z hk hz => ?_, p2 _ q2 (Ext.refl q2) L2 (.int _)⟩
        · exact (fit_le (n := 51) (k := 60) (d := .lst ds) (by simpa [D.fit] using hf.2) (by omega))
        · have hkl : k < ds.length := by omega
          rw [(at_ k hkl).1] at hz
          cases hz
          rw [(at_ k hkl).2]
          simpa using h3 k hk
    · exact p2.elim
  | _ => exact p1.elim
/-! ### max of a list of numbers -/
theorem intsOf_vals {K : PySem.W.Frag} {q : Stt} : ∀ {ds : List D} {vs : List V} {ns : List Int}, RDs K q ds vs → intsOf ds = some ns → vs = ns.map V.int
  | [], _, _, h, e => by cases h; cases e; rfl
  | d :: ds, _, ns, h, e => by
    cases h with
    | cons a b =>
      cases a with
      | int i =>
        simp only [intsOf] at e
        cases e2 : intsOf ds with
        | none => rw [e2] at e; cases e
        | some is =>
          rw [e2] at e
          cases e
          rw [intsOf_vals b e2]
          rfl
      | _ => cases e
theorem foldl_max_ge : ∀ (ns : List Int) (n : Int), n ≤ ns.foldl max n ∧ ∀ m ∈ ns, m ≤ ns.foldl max n
  | [], n => ⟨Int.le_refl _, fun _ h => nomatch h⟩
  | k :: ns, n => by
    obtain ⟨h1, h2⟩ := foldl_max_ge ns (max n k)
    simp only [List.foldl_cons]
    refine ⟨by omega, fun m hm => ?_⟩; rcases List.mem_cons.mp hm with e | hm
    · subst e; omega
    · exact h2 m hm
theorem foldl_max_mem : ∀ (ns : List Int) (n : Int), ns.foldl max n ∈ n :: ns
  | [], n => by simp
  | k :: ns, n => by
    have h := foldl_max_mem ns (max n k)
    simp only [List.foldl_cons]; rcases List.mem_cons.mp h with e | h
    · rw [e]
      rcases Int.le_total n k with l | l
      · rw [Int.max_eq_right l]; simp
      · rw [Int.max_eq_left l]; simp
    · simp [h]
theorem ge_max {x : Str} (hc : X.calm = true) (hm : X.mg x = none) (ha : GE X C W e m) (hg : Gl X x := by rfl) (hv : bootBuiltins x = some (.builtin "max") := by decide +kernel) (hn : x ≠ "__name__" := by decide) (hd : (x == ("__debug__" : Str)) = false := by decide)
    (h1 : starEach [e] X.env = (false, eval e X.env) :: starEach [] X.env := by rfl) : GE X C W (.Call (.Name x p2) [e] [] pos) (eOp1 opMax m) := PE.imp (pe_callB (cr_max hc) hg hm hv (pa_cons ha pa_nil h1) hn hd (he := h1)) fun σ H Q ⟨q0, q, env, s, eq, E, L, p⟩ => by
  subst eq
  refine tM.first (f := fun x s1 => .ofO (opMax s1 x) s1) E L p rD_any fun x s1 vx q1 x1 E1 L1 y1 p1 => ?_
  cases x with
  | lst ds =>
    cases y1 with
    | @lst a vs _ g r =>
      simp only [opMax] at p1
      split at p1
      · rename_i n ns hi
        have ev := intsOf_vals r hi
        subst ev
        refine ⟨a, n :: ns, rfl, SqL.of g.1, by simp, fun k hk hle => ?_⟩
        have e1 : k = ns.foldl max n := by
          have h1 := foldl_max_ge ns n
          have h2 := hle _ (foldl_max_mem ns n)
          rcases List.mem_cons.mp hk with e | h
          · subst e; omega
          · have := h1.2 k h; omega
        subst e1
        exact p1 _ q1 (Ext.refl q1) L1 (.int _)
      · exact p1.elim
  | _ => exact p1.elim
/-! ### a list so many times -/
theorem RDs.flat {K : PySem.W.Frag} {q : Stt} {ds : List D} {vs : List V} (r : RDs K q ds vs) : ∀ n : Nat, RDs K q (List.replicate n ds).flatten (List.replicate n vs).flatten
  | 0 => .nil
  | n + 1 => by
    rw [List.replicate_succ, List.replicate_succ, List.flatten_cons, List.flatten_cons]; exact r.append (RDs.flat r n)
theorem gl_mul (ha : GB X C W a ma) (hb : GE X C W b mb) : GL X C W (.BinOp a .Mult b pos) (lMul ma mb) := PE.imp (pe_op op_rep ha hb) fun σ H Q ⟨q0, q, env, s, eq, E, L, p⟩ => by
  subst eq
  refine tM.first0 (f := fun x s1 => (mb env s1).bind fun y s2 => mulAt x y s2) E L p fun x s1 vx q1 x1 L1 y1 p1 => ?_
  refine ⟨q0, q1, env, s1, rfl, E.ext x1, L1, ?_⟩
  cases e1 : mb env s1 with
  | stk => rw [e1] at p1; exact p1.elim
  | exc z t => rw [e1] at p1; exact fun c d q' w r => p1 c d q' (x1.trans w) r
  | ok y s2 =>
    rw [e1] at p1
    intro vy q2 x2 L2 y2
    simp only [Res.bind_ok] at p1
    unfold mulAt at p1
    rcases (y1.ext x2).view L2 with ⟨ds, u, vs, ev, rfl, g, r⟩ | ⟨ev, r, nl⟩
    · rw [ev] at p1
      cases y2 with
      | int k =>
        simp only at p1
        split at p1
        · rename_i hl
          refine ⟨u, k, vs, rfl, rfl, g, by omega, by omega, by rw [r.length]; exact lenS hl.1, fun l hl' => ?_⟩
          exact p1 _ _ ((x1.trans x2).trans (Ext.newL L2.wf hl')) (L2.newL hl') (RN.newL L.wf (x1.trans x2) L2 hl' (r.flat _))
        · exact p1.elim
      | _ => exact p1.elim
    · rw [ev] at p1
      cases x with
      | lst ds => exact absurd rfl (nl ds)
      | _ => exact p1.elim
/-! ### a piece of a text -/
theorem partIx_sIx0 (n d : Nat) (i : Option Int) : partIx n d i = HT.sIx n d i := by
  cases i <;> rfl
theorem ge_slS {p2 : Pos} {lo hi : Option Expr} {l h : MO} (ha : GE X C W a ma) (hl : GO X C W lo l) (hh : GO X C W hi h) : GE X C W (.Subscript a (.Slice lo hi none p2) pos) (eSlS ma l h) := PE.imp (pe_slice sl_str ha hl hh) fun σ H Q ⟨q0, q, env, s, eq, E, L, p⟩ => by
  subst eq
  refine tM.first (f := fun x s1 => (l env s1).bind fun l s2 => (h env s2).bind fun h s3 => cutSAt x l h s3) E L p rD_any fun x s1 vx q1 x1 E1 L1 y1 p1 => ?_
  refine tM.first (f := fun l s2 => (h env s2).bind fun h s3 => cutSAt x l h s3) E1 L1 p1 rD_any fun lo' s2 lo'' q2 x2 E2 L2 y2 p2 => ?_
  refine tM.first (f := fun h s3 => cutSAt x lo' h s3) E2 L2 p2 rD_any fun hi' s3 hi'' q3 x3 E3 L3 y3 p3 => ?_
  subst y2 y3
  unfold cutSAt at p3
  cases y1 with
  | str cs =>
    simp only at p3
    split at p3
    · rename_i hl
      refine ⟨_, rfl, by simp only [Str.length, List.size_toArray]; exact lenS hl, ?_⟩
      have ec : cutS ⟨cs.toArray⟩ lo' hi' = ⟨(cutS0 cs lo' hi').toArray⟩ := by
        unfold cutS cutS0
        simp only [Str.length, List.size_toArray, partIx_sIx0]
      rw [ec]
      exact p3 _ q3 (Ext.refl q3) L3 (.str _)
    · exact p3.elim
  | _ => exact p3.elim
/-! ### an item put in a dict -/
theorem gs_subD (hu : X.A.units + 1 < cLine) (ho : GE X C W o mo) (hi : GE X C W a mi) (hv : GE X C W e m) (hs : swapsWith e (some (.Subscript o a p')) pos.line X.env = pure false := by rfl) :
    GS X C W (.Assign [.Subscript o a p'] e pos) (sSetD mo mi m) := PS.imp (ps_dput hu ho hi hv hs) fun D σ H ⟨q0, q, env, s, eq, X0, E, L, p⟩ => by
  subst eq
  refine tS.first X0 E L p fun d s1 v q1 x1 X1 E1 L1 y p1 => ?_
  refine tS.first X1 E1 L1 p1 fun ob s2 u q2 x2 X2 E2 L2 z p2 => ?_
  refine tS.first X2 E2 L2 p2 fun ix s3 iv q3 x3 X3 E3 L3 w p3 => ?_
  have z' := RD.mono x3.kp _ z
  have y' := RD.mono (x2.trans x3).kp _ y
  unfold putAt at p3
  cases z' with
  | @ref n b h2 =>
    simp only at p3
    split at p3
    · rename_i kvs hn
      split at p3
      · rename_i hk
        obtain ⟨k, hkk⟩ := isKey_of hk.1
        obtain ⟨ks, e1, r1⟩ := L3.obs n _ b hn h2
        have ev := kV_of w hkk
        subst ev
        have lu : q3.L b := L3.wf.live b (List.mem_of_getElem? h2)
        obtain ⟨w1, w2⟩ := wr_placed (ho := .dK (putK ks k v)) (o' := .dic (dPut kvs ix d)) L3 hn h2 ⟨_, upd_same, (r1.put hkk y').mono (Kp.wr lu)⟩
        refine ⟨b, _, rfl, DPut.k e1 (by rw [r1.length]; exact Nat.lt_of_lt_of_le hk.2 (lenS (by unfold cap; omega))), ?_⟩
        exact p3 σ _ (X3.trans w1) w1.kp w2 (E3.ext w1)
      · exact p3.elim
    · exact p3.elim
  | _ => exact p3.elim
theorem gs_parO (i j : Nat) {x y : Str} {ml : MA} {px py pt pt2 : Pos} {kt k2} (hc : X.calm = true) (hN : X.N.Nodup) (ha : GL X C W a ml) (hb : GE X C W b mb) (hi : X.N[i]? = some x := by rfl) (hj : X.N[j]? = some y := by rfl) (hij : i ≠ j := by decide)
    (hx : X.env.scope.names.lookup x = some .local := by rfl) (hy : X.env.scope.names.lookup y = some .local := by rfl)
    (hw : swappedStores [.Tuple [.Name x px, .Name y py] kt pt] (.Tuple [a, b] k2 pt2) X.env = pure (some [x, y]) := by rfl)
    (hs : swapsWithSole [.Tuple [.Name x px, .Name y py] kt pt] (.Tuple [a, b] k2 pt2) pos.line X.env = pure false := by rfl)
    (h1 : starEach [a, b] X.env = (false, eval a X.env) :: starEach [b] X.env := by rfl) (h2 : starEach [b] X.env = (false, eval b X.env) :: starEach [] X.env := by rfl) :
    GS X C W (.Assign [.Tuple [.Name x px, .Name y py] kt pt] (.Tuple [a, b] k2 pt2) pos) (sParO i j ml mb) := PS.imp (ps_par hc hN hi hj hij hx hy (pa_cons ha (pa_cons hb pa_nil h2) h1) hw hs) fun D σ H ⟨q0, q, env, s, eq, X0, E, L, p⟩ => by
  subst eq
  refine tS.first (f := fun ds s1 => (mb env s1).go env fun b s2 => SRes.nx ((env.set i (.own ds)).set j (.val b)) s2) X0 E L p fun ds s1 v q1 x1 X1 E1 L1 y1 p1 => ?_
  obtain ⟨pp, vs, rfl, g1, g2, g3, g4, g5⟩ := y1
  refine tS.first (f := fun b s2 => SRes.nx ((env.set i (.own ds)).set j (.val b)) s2) X1 E1 L1 p1 fun d s2 w q2 x2 X2 E2 L2 y2 p2 => ?_
  refine ⟨_, _, rfl, p2 _ q2 X2 (Kp.refl q2) L2 ((RE.setOwn E2 X0 L i E g1 (x2.keep _ _ g2 g4 fun _ z => nomatch z) (x2.mono _ g3) (fun z => (x2.new _ z).elim g4 fun n => n _ g2 fun _ z => nomatch z) (RDs.mono x2.kp _ g5)).set j y2)⟩
end
end MP

/-! What the head tells, as Bools. Own text. -/
namespace MP
open PySem L2 TL He
section
variable {K : PySem.W.Frag}
/-! ### refusals -/
def oexB (K : PySem.W.Frag) (Ca : Addr) : Bool := (match K.lookup Ca with
  | some ⟨.type "type", _, .cls cd, sl0⟩ => (match cd.mro, sl0.toList with
    | .ref C' :: bm, [_, _, _, _, some (.builtin n), _] => decide (C' = Ca) && (decide (n = "ValueError.__new__") && (!cd.hasDel && (cd.hasDict && PySem.HandSPX.refsVE bm)))
    | _, _ => false)
  | _ => false) && (eqO (PySem.W.findIn K (.ref Ca) "__setattr__") (some (some (.builtin "object.__setattr__"))) && (decide (PySem.W.subIn K (.ref Ca) (.type "BaseException") = some true) &&
    (decide (PySem.W.typeIn K (.ref Ca) = some (.type "type")) && PySem.W.keepIn K (.ref Ca))))
theorem oexB_ok {Ca : Addr} (h : oexB K Ca = true) : OexC K Ca := by
  obtain ⟨h1, h⟩ := ba h
  obtain ⟨h2, h⟩ := ba h
  obtain ⟨h3, h⟩ := ba h
  obtain ⟨h4, h5⟩ := ba h
  refine ⟨?_, eqO_ok h2, of_decide_eq_true h3, of_decide_eq_true h4, h5⟩
  split at h1
  · rename_i dd cd sl ho
    split at h1
    · rename_i C' bm q0 q1 q2 q3 n q5 hm hs
      obtain ⟨a1, h1⟩ := ba h1
      obtain ⟨a2, h1⟩ := ba h1
      obtain ⟨a3, h1⟩ := ba h1
      obtain ⟨a4, a5⟩ := ba h1
      have e1 : C' = Ca := of_decide_eq_true a1
      have e2 : n = "ValueError.__new__" := of_decide_eq_true a2
      obtain ⟨nm, bs, mro, ns, qn, hd, sn, sub, ab, col, del⟩ := cd; dsimp only at hm a3 a4
      have e3 : del = false := by simpa using a3
      subst hm e1 e2 e3 a4
      have hsl : sl = #[q0, q1, q2, q3, some (.builtin "ValueError.__new__"), q5] := by
        obtain ⟨l⟩ := sl
        simp only at hs
        rw [hs]
      subst hsl
      exact ⟨_, _, _, _, _, _, _, _, _, _, _, _, _, _, _, ho, a5⟩
    · cases h1
  · cases h1
def exoB (K : PySem.W.Frag) (Ca : Addr) (fs : List Str) : Bool := oexB K Ca && fs.all fun f => eqO (PySem.W.findIn K (.ref Ca) f) (some none)
theorem exoB_ok {Ca : Addr} {fs : List Str} (h : exoB K Ca fs = true) : ExO K Ca fs := by
  obtain ⟨h1, h2⟩ := ba h
  exact ⟨oexB_ok h1, fun f hf => eqO_ok (List.all_eq_true.mp h2 f hf)⟩
def baseB (K : PySem.W.Frag) (CM : Addr) : Bool := PySem.W.readsIn K CM (.type "type") && (decide (PySem.W.specialIn K (.ref CM) "__getattribute__" = some (some (.builtin "type.__getattribute__"))) &&
  (match PySem.W.findCls K (.ref CM) (.type "type") "__init__" with
    | some (.val v) => decide (v = .builtin "ValueError.__init__")
    | _ => false))
theorem baseB_ok {CM : Addr} (h : baseB K CM = true) : BaseI K CM := by
  obtain ⟨h1, h⟩ := ba h
  obtain ⟨h2, h3⟩ := ba h
  refine ⟨⟨h1, of_decide_eq_true h2⟩, ?_⟩
  split at h3
  · rename_i v q
    rw [q, of_decide_eq_true h3]
  · cases h3
def excCB (K : PySem.W.Frag) (D : Addr) : Bool := eqO (PySem.W.findIn K (.ref D) "__getattribute__") (some (some (.builtin "BaseException.__getattribute__"))) && (eqO (PySem.W.findIn K (.ref D) "__getattr__") (some none) && (decide (PySem.W.subIn K (.ref D) (.type "BaseException") = some true) &&
  (PySem.W.hasDictIn K D && (eqO (PySem.W.findIn K (.ref D) "__class__") (some (some (.builtin "object.__class__"))) && (eqO (PySem.W.specialIn K (.builtin "object.__class__") "__get__") (some (some (.builtin "getset_descriptor.__get__"))) &&
  (decide (PySem.W.takesIn K (.builtin "object.__class__") = some true) && decide (PySem.W.mroIn K D (.type "object") = some true)))))))
theorem excCB_ok {D : Addr} (h : excCB K D = true) : ExcC K D := by
  obtain ⟨h1, h⟩ := ba h
  obtain ⟨h2, h⟩ := ba h
  obtain ⟨h3, h⟩ := ba h
  obtain ⟨h4, h⟩ := ba h
  obtain ⟨h5, h⟩ := ba h
  obtain ⟨h6, h⟩ := ba h
  obtain ⟨h7, h8⟩ := ba h
  exact ⟨eqO_ok h1, eqO_ok h2, of_decide_eq_true h3, h4, eqO_ok h5, eqO_ok h6, of_decide_eq_true h7, of_decide_eq_true h8⟩
/-- isinstance of refusals of the classes told, by one class -/
def isXB (K : PySem.W.Frag) (C : Nat → Addr) (tab : List (Nat × Bool)) (cv : Value) : Bool := tab.all fun p => excCB K (C p.1) && decide (PySem.W.kitOne K (.ref (C p.1)) cv = some p.2)
theorem lookup_mem' {α : Type} {c : Nat} {b : α} : ∀ {tab : List (Nat × α)}, tab.lookup c = some b → (c, b) ∈ tab
  | [], h => by cases h
  | (d, e) :: r, h => by
    rw [List.lookup_cons] at h
    split at h
    · rename_i q
      cases h
      rw [beq_iff_eq.mp q]
      exact List.mem_cons_self
    · exact List.mem_cons_of_mem _ (lookup_mem' h)
theorem isXB_ok {C : Nat → Addr} {tab : List (Nat × Bool)} {cv : Value} (h : isXB K C tab cv = true) : ∀ c b, tab.lookup c = some b → ExcC K (C c) ∧ PySem.W.kitOne K (.ref (C c)) cv = some b := fun c b hl => by
  obtain ⟨h1, h2⟩ := ba (List.all_eq_true.mp h _ (lookup_mem' hl))
  exact ⟨excCB_ok h1, of_decide_eq_true h2⟩
def xfsB (K : PySem.W.Frag) (C : Nat → Addr) (cs : List Nat) (f : Str) : Bool := cs.all fun c => xfB K (C c) && eqO (PySem.W.findIn K (.ref (C c)) f) (some none)
theorem xfsB_ok {C : Nat → Addr} {cs : List Nat} {f : Str} (h : xfsB K C cs f = true) : ∀ c ∈ cs, XfC K (C c) ∧ PySem.W.findIn K (.ref (C c)) f = some none := fun c hc => by
  obtain ⟨h1, h2⟩ := ba (List.all_eq_true.mp h c hc)
  exact ⟨xfB_ok h1, eqO_ok h2⟩
def exmsB (K : PySem.W.Frag) (C : Nat → Addr) (cs : List Nat) (CS : Addr) : Bool := cs.all fun c => decide (PySem.W.exmOne K (.ref (C c)) (.ref CS) = some true)
theorem exmsB_ok {C : Nat → Addr} {cs : List Nat} {CS : Addr} (h : exmsB K C cs CS = true) : ∀ c ∈ cs, PySem.W.exmOne K (.ref (C c)) (.ref CS) = some true := fun c hc => of_decide_eq_true (List.all_eq_true.mp h c hc)
/-- a maker of refusals is a function -/
def initB (K : PySem.W.Frag) (Ca f : Addr) : Bool := eqO (PySem.W.findIn K (.ref Ca) "__init__") (some (some (.ref f))) && decide (PySem.W.typeIn K (.ref f) = some (.type "function"))
theorem initB_ok {Ca f : Addr} (h : initB K Ca f = true) : PySem.W.findIn K (.ref Ca) "__init__" = some (some (.ref f)) ∧ PySem.W.typeIn K (.ref f) = some (.type "function") := by
  obtain ⟨h1, h2⟩ := ba h
  exact ⟨eqO_ok h1, of_decide_eq_true h2⟩
def rzB (K : PySem.W.Frag) (Ca : Addr) : Bool := PySem.W.excIn K Ca veBase "ValueError.__new__" && (PySem.W.keepIn K (.ref Ca) && (decide (PySem.W.subIn K (.ref Ca) (.type "BaseException") = some true) && decide (PySem.W.typeIn K (.ref Ca) = some (.type "type"))))
structure Rz (K : PySem.W.Frag) (Ca : Addr) : Prop where
  q : PySem.W.excIn K Ca veBase "ValueError.__new__" = true
  kC : PySem.W.keepIn K (.ref Ca) = true
  sub : PySem.W.subIn K (.ref Ca) (.type "BaseException") = some true
  ty : PySem.W.typeIn K (.ref Ca) = some (.type "type")
theorem rzB_ok {Ca : Addr} (h : rzB K Ca = true) : Rz K Ca := by
  obtain ⟨h1, h⟩ := ba h
  obtain ⟨h2, h⟩ := ba h
  obtain ⟨h3, h4⟩ := ba h
  exact ⟨h1, h2, of_decide_eq_true h3, of_decide_eq_true h4⟩
/-! ### written values -/
def glB (K : PySem.W.Frag) (x : Str) (d : D) : Bool := match PySem.W.nsIn K mainGlobals x with
  | some (some u) => KVal K 6 u d
  | _ => false
theorem glB_ok {h : Heap} {mg : Str → Option Value} {x : Str} {d : D} (X : K.In h) (G : h.Ns mainGlobals mg) (e : glB K x d = true) : ∃ u, mg x = some u ∧ KVal K 6 u d = true := by
  unfold glB at e
  split at e
  · rename_i u q; exact ⟨u, PySem.W.mg_of X G q, e⟩
  · cases e
def kdB (K : PySem.W.Frag) (x : Str) (tab : List (List Nat × D)) : Bool := match K.lookup (ga K x) with
  | some ⟨.type "dict", none, .dict es _, _⟩ => KEnts K 6 es.toList tab
  | _ => false
theorem kdB_ok {w : World} {h : Heap} {mg : Str → Option Value} {x : Str} {tab : List (List Nat × D)} (X : K.In h) (G : h.Ns mainGlobals mg) (g : (Fa.glo x).ok K = true) (kd : ∃ es n, KDict K w (ga K x) es n) (e : kdB K x tab = true) : ∃ a, mg x = some (.ref a) ∧ KDic K w a tab := by
  obtain ⟨es, n, l, k, lo⟩ := kd
  unfold kdB at e
  rw [l] at e
  exact ⟨_, glo_ok X G g, es, n, l, k, lo, e⟩
/-! ### the hook: what the module's names reach, and the statics -/
def asY (g : Addr → Option Obj) (n : Nat) : List Addr := asD g n ++ [PySem.cStatics]
def obsY (n : Nat) (fa : List Fa) (fn : List DefD) (ts : List He.Tab) (tf : List Defn) (ex : PySem.W.Frag → Bool) (g : Addr → Option Obj) : AlX := (fun K => (obsT fa fn ts K, ex K && tabsB g tf K)) (frT g (asY g n))
theorem saysY_of {as : List Addr} {fa : List Fa} {fn : List DefD} {ts : List He.Tab} {tf : List Defn} {ex : PySem.W.Frag → Bool} {w : World} {h : Heap} (e : (fun K => ((obsT fa fn ts K, ex K && tabsB h.get? tf K) : AlX)) (frT h.get? as) = valX fn ts w) : SaysX fa fn ts tf ex w h (frT h.get? as) := by
  have e1 : obsT fa fn ts (frT h.get? as) = valT fn ts w := congrArg (fun z : AlX => z.1) e
  obtain ⟨h1, h2⟩ := ba (show (ex (frT h.get? as) && tabsB h.get? tf (frT h.get? as)) = true from congrArg (fun z : AlX => z.2) e)
  have k : ∀ p ∈ tf, PySem.W.codeHdIn (frT h.get? as) (cT (frT h.get? as) p).1 (cT (frT h.get? as) p).2 = true ∧ ∃ o, h.get? (cT (frT h.get? as) p).2 = some o ∧ emptyTab o = true := fun p hp => by
    obtain ⟨h3, h4⟩ := ba (List.all_eq_true.mp h2 p hp); refine ⟨h3, ?_⟩
    split at h4
    · rename_i o q; exact ⟨o, q, h4⟩
    · cases h4
  refine ⟨e1, h1, fun p hp => (k p hp).1, fun p hp => ?_, fun p hp => ?_⟩
  · obtain ⟨_, o, q, z⟩ := k p hp; exact frT_none q z
  · obtain ⟨_, o, q, z⟩ := k p hp; rw [q, emptyTab_eq z]
def hookY (n : Nat) (fa : List Fa) (fn : List DefD) (ts : List He.Tab) (tf : List Defn) (ex : PySem.W.Frag → Bool) : PySem.W.Hook where
  α := AlX
  obs := fun s => obsY n fa fn ts tf ex s.heap.get?
  val := fun w => valX fn ts w
  says := fun w h => ∃ K : PySem.W.Frag, K.In h ∧ SaysX fa fn ts tf ex w h K; of := fun _ _ e => ⟨_, frT_in, saysY_of e⟩
  keeps := fun _ _ _ ⟨K, hK, c⟩ k => ⟨K, PySem.W.Frag.In.keeps hK k, c.t, c.more, c.hd, c.out, fun p hp => k _ _ (c.empty p hp)⟩
/-! ### a def's code object -/
section
variable {P : Program} {w : World} {mg : Str → Option Value} {base : Heap} {C : MP.Tab} {x qual : Str} {params : Arguments} {body : List Stmt} {scope : Scope} {kws : List (Str × V)} {fd : FuncData} {N ps : List Str} {k : Nat} {ms : MS} {p : Defn}
theorem fn_calC {f : Addr} (F : FunD K x qual params body scope [] kws f fd) (hf : f = fAd K p) (S : FnScope N ps scope) (hN : ps.length ≤ N.length)
    (hb : ∀ (A : Around) (outer : List PySem.Env) (s : Shared) (H : Hp) (E : XK), Room k (A.deeper (PyProof.Rows.envOfC qual scope s.heap.objs.size f (.ref (codeOf K p)))) →
      GSs (cxOf (L2.CX P w) P w K mg base N qual scope f (.ref (codeOf K p)) A outer s H E) C (fun cls d _ H' => E cls d H') body ms) : FnOk P w K mg base (L2.CX P w) (k + 1) f fd ps (spM K C (runB ps.length N.length ms)) := by
  subst hf
  obtain ⟨oc, od, dV, kV, doc, pm, an, cdv, ct, osl, rfl, lk, hcd, _, _⟩ := F.ex; obtain ⟨c, rfl⟩ := codeIn_ref hcd
  have e : codeOf K p = c := codeOf_eq lk rfl
  subst e
  exact fn_of lk hcd S (fun vs H Q E h => spM_len h) fun A outer s H vs Q E hr h => body_sim hN rfl (hb A outer s H E hr) h
end
theorem Room65 {k : Nat} {A : Around} (r : Room k A) : A.units + 65 < cLine := by have := r.un; omega
/-- the suite of the clause that a body begins with -/
def hdBody : List Stmt → List Stmt
  | .Try _ [.ExceptHandler _ _ b _] _ _ _ :: _ => b
  | _ => []
/-- what one of several facts says -/
theorem ex_at {exs : List (PySem.W.Frag → Bool)} (h : (exs.all fun f => f K) = true) (i : Nat) {f : PySem.W.Frag → Bool} (e : exs[i]? = some f := by rfl) : f K = true := List.all_eq_true.mp h f (List.mem_of_getElem? e)
/-- the head's answer -/
theorem lawAt {l : PySem.W.OpenLaw} {w : World} {n k : Nat} {mg : Str → Option Value} {fa : Addr} {h : Heap} {x : Str} {fa0 : List Fa} {fn : List DefD} {ts : List He.Tab} {tf : List Defn} {ex : PySem.W.Frag → Bool} {T : List (Addr × Str)} {fd : FuncData} (KX : K.In h) (c : SaysX fa0 fn ts tf ex w h K) (nm : List Str) (hnm : nm.length = tf.length)
    (hT : T = List.zipWith (fun p y => ((cT K p).2, y)) tf nm) (hb : ∀ (s : Shared) (u : Value), BindsTo s fd ⟨[u], []⟩ [(x, u)])
    (hF : ∀ base : Heap, K.In base → base.Ns mainGlobals mg → (∀ p ∈ tf, LamX.TabB base mg (cT K p).1 (cT K p).2) → FnOk l.prog w K mg base (L2.CX l.prog w) k fa fd [x] (spLawT K T n)) : LamX.LawAtS l w K (L2.CX l.prog w) k n x mg fa h := by
  refine ⟨fd, tf.map (cT K), spLawT K T n, fun p hp => ?_, fun p hp => ?_, fun p hp => ?_, hb, fun H a ns l1 l2 h1 hS => ⟨a, ns, rfl, hS, fun p hp => ?_, l1, l2, fun _ => rfl⟩, fun base b1 b2 b3 => hF base b1 b2 fun p hp => b3 _ (List.mem_map.mpr ⟨p, hp, rfl⟩)⟩
  · obtain ⟨u, hu, rfl⟩ := List.mem_map.mp hp; exact c.empty u hu
  · obtain ⟨u, hu, rfl⟩ := List.mem_map.mp hp; exact c.out u hu
  · obtain ⟨u, hu, rfl⟩ := List.mem_map.mp hp; exact PySem.W.codeHd_of_K KX (c.hd u hu)
  · subst hT
    rw [List.zipWith_eq_zipWith_take_min] at hp
    obtain ⟨i, hi, e⟩ := List.mem_iff_getElem.mp hp
    rw [List.getElem_zipWith] at e
    subst e
    have hi' : i < tf.length := by simp at hi; omega
    refine h1 _ (List.mem_map.mpr ⟨tf[i], List.getElem_mem hi', ?_⟩)
    simp
theorem cx_none {P : Program} {w : World} {H : Hp} {s : Shared} {e : Value} {s' : Shared} (h : L2.CX P w [] H s (fun _ _ _ => False) e s') : False := by
  obtain ⟨_, _, _, _, _, _, _, _, _, _, _, _, z⟩ := h; exact z.elim
end
end MP

/-! enumerate of a tuple. Own text. -/
namespace MP
open L2 PySem PySem.Spec PyProof.Rows
section
variable {s : Shared} {prog : Program} {w : World} {A : Around} {E : Value → Shared → Prop}
theorem meets_enum1 {v : Value} {o : Obj} {Hh : Heap → Prop} (B : Begins v o Hh) : Meets (Builtin.«enumerate.__new__» ⟨[.type "enumerate", v], []⟩) (fun _ R s => Hh s.heap ∧ R (.ok (.ret (.ref (s.heap.push o).objs.size)))
    { s with heap := (s.heap.push o).push { cls := .type "enumerate", data := .fields #[.none, .bool false, .ref s.heap.objs.size, rawInt 0, .none, .none] } }) :=
  .of_wp fun pg w A R s h => by
    obtain ⟨hp, g, d, tk, os⟩ := s; obtain ⟨h1, h⟩ := h; have hsub := sub_enumerate
    have q1 : ∀ {A' : Around} {E : Value → Shared → Prop} {Q : Value → Shared → Prop}, Q (.ref hp.objs.size) ⟨hp.push o, g, d, tk, os⟩ → wpAny (model pg w) A' (pyIter v) Q E ⟨hp, g, d, tk, os⟩ := fun q => B.iter pg w _ _ ⟨hp, g, d, tk, os⟩ _ h1 q
    wp_walk using q1
    refine wpAny_stack_any fun st => wpAny_pure ?_; split
    · rename_i c _ _ _ _ _
      cases hcz : (c == Value.type "enumerate")
      · wp_walk using q1
        exact ⟨_, rfl, h⟩
      · wp_walk using q1
        exact ⟨_, rfl, h⟩
    · wp_walk using q1
      exact ⟨_, rfl, h⟩
theorem call_enum1 {v : Value} {o : Obj} {Hh : Heap → Prop} {Q : Value → Shared → Prop} (B : Begins v o Hh) (h1 : Hh s.heap)
    (h : ∀ h', IsEnum h' (s.heap.objs.size + 1) s.heap.objs.size 0 .none → h'.get? s.heap.objs.size = some o → (∀ b u, s.heap.get? b = some u → h'.get? b = some u) → Q (.ref (s.heap.objs.size + 1)) { s with heap := h' }) : wpAny (model prog w) A (call (.type "enumerate") [v]) Q E s := by
  refine callType_new F.called_enumerate (by decide) (F.typeCall_enumerate_1 _) (F.newCall_enumerate_1 _) (fun obj => F.args_object_init_2 obj _) F.entry_enumerate_new (meets_enum1 B) ⟨h1, ?_⟩
  have hz : (s.heap.push o).objs.size = s.heap.objs.size + 1 := Heap.size_push ..; show _ ∧ _
  rw [hz]
  have he : IsEnum ((s.heap.push o).push { cls := .type "enumerate", data := .fields #[.none, .bool false, .ref s.heap.objs.size, rawInt 0, .none, .none] }) (s.heap.objs.size + 1) s.heap.objs.size 0 .none := by
    have := Heap.get?_push_size (s.heap.push o) (o := { cls := .type "enumerate", data := .fields #[.none, .bool false, .ref s.heap.objs.size, rawInt 0, .none, .none] }) rfl
    rw [hz] at this
    exact this
  exact ⟨⟨_, he, rfl⟩, h _ he (Heap.get?_push_of_some _ (Heap.get?_push_size _ B.free)) fun b u x => Heap.get?_push_of_some _ (Heap.get?_push_of_some _ x)⟩
end
/-- the tuple at a, each item in a nw pair -/
def Itet (K : PySem.W.Frag) (a : Addr) : It :=
  ⟨fun i H => ∃ (xs : List V) (x : V), SqT K H a xs ∧ xs[i]? = some x, fun i H v H' => ∃ T x, v = .ref T ∧ H T = none ∧ H' = upd H T (.tup [.int (i : Nat), x]) ∧ ∀ xs, SqT K H a xs → xs[i]? = some x, fun i H => ∃ xs : List V, SqT K H a xs ∧ xs.length = i⟩
theorem turn_enumT {P : Program} {w : World} {K : PySem.W.Frag} {elts : List Expr} {kk : Nat} {tpos : Pos} (a e it : Addr) :
    Turn P w K (.Tuple elts kk tpos) (Itet K a) [e, it] e (fun i h => (∃ old, IsEnum h e it ((i : Nat) : Int) old) ∧ h.IsTupleIter it a i ∧ e ≠ it ∧ it ≠ a ∧ e ≠ a) where
  mem := by simp
  obj := fun i h st b hb => by
    obtain ⟨⟨old, he⟩, ⟨o, ho, hc, hd⟩, _⟩ := st; have eb : b = e ∨ b = it := by simpa using hb
    rcases eb with z | z
    · subst z; exact ⟨_, he, fun v q => nomatch q⟩
    · subst z; exact ⟨o, ho, fun v q => by rw [hd] at q; cases q⟩
  keep := fun i h h' st k => let ⟨⟨old, he⟩, hi, hne⟩ := st; ⟨⟨old, k e (by simp) _ he⟩, hi.at fun o q => k it (by simp) o q, hne⟩; item := by
    intro X hP hw hK hc i pins s σ H E I hf st hg; subst hP hw hK
    obtain ⟨⟨old, he⟩, hit, hne, hia, hea⟩ := st
    obtain ⟨xs, x, hq, hx⟩ := hg
    obtain ⟨its, rv, p, hz⟩ := I.tuple hq; obtain ⟨u, hu, ru⟩ := rv.get hx
    have hel : e < s.heap.objs.size := Heap.lt_size he; have hil : it < s.heap.objs.size := by obtain ⟨_, q, _⟩ := hit; exact Heap.lt_size q
    have hlt : i < its.toArray.size := by obtain ⟨q, _⟩ := List.getElem?_eq_some_iff.mp hu; simpa using q
    refine wpAny_pyNext_enum_itemD (Draws.tuple (show X.A.in1.handled = none from I.ok.hd hc) it a (Ne.symm hia) its.toArray) he ⟨hit, p⟩ hlt hne (by simp [hne, hea]) fun u' h' tk hP ho hst hT hsz hk => ?_
    have eu : u' = u := by
      have : its.toArray[i]? = some u := by simpa using hu
      rw [this] at hP
      exact (Option.some.inj hP).symm
    subst eu
    refine ⟨_, rfl, wpAny_letOwnedTupleGo_enum (s := { s with heap := h', toks := tk + 1 }) ho fun h'' he' sb => ?_⟩
    have hT2 : h''.get? s.heap.objs.size = some { cls := .type "tuple", data := .seq #[.int i tk, u'] } := (sb.2 _ (Nat.ne_of_gt hel)).trans hT
    have nw : ObjOk X.prog X.w (upd H s.heap.objs.size (.tup [.int (i : Nat), x])) h'' s.heap.objs.size (.tup [.int (i : Nat), x]) :=
      ⟨by show 2 ≤ sizeLine; decide, [.int i tk, u'], .cons ⟨_, rfl⟩ (.cons ru .nil), ⟨_, hT2, rfl, _, rfl⟩⟩
    have I1 : Inv X pins σ (upd H s.heap.objs.size (.tup [.int (i : Nat), x])) { s with heap := h'', toks := tk + 1 } :=
      I.turnedNew (ch := [e, it]) (fun b oo hb q => (sb.2 b (fun z => hb (by simp [z]))).trans (hk b oo (fun z => hb (by simp [z])) (fun z => hb (by simp [z])) q)) hf (Nat.le_refl _) nw
    refine ⟨.ref s.heap.objs.size, _, I1, rfl, ⟨_, x, rfl, I.hok.fresh (Nat.le_refl _), rfl, fun ys hy => by rw [I.tuple_inj hy hq]; exact hx⟩, ⟨⟨u', ?_⟩, hst.1.at fun o q => (sb.2 it (Ne.symm hne)).trans q, hne, hia, hea⟩, fun b hb => ?_⟩
    · have en1 : ((i + 1 : Nat) : Int) = (i : Int) + 1 := by omega
      rw [en1]
      exact he'
    · have hbq : b < s.heap.objs.size := by
        have eb : b = e ∨ b = it := by simpa using hb
        rcases eb with z | z
        · rw [z]; exact hel
        · rw [z]; exact hil
      rw [upd_ne (Nat.ne_of_lt hbq)]
      exact (hf b hb).1
  done := by
    intro X hP hw hK hc i pins s σ H E I hf st hg; subst hP hw hK
    obtain ⟨⟨old, he⟩, hit, hne, hia, hea⟩ := st
    obtain ⟨xs, hq, hx⟩ := hg
    obtain ⟨its, rv, p, hz⟩ := I.tuple hq; obtain ⟨f0, f1, f2, f3, f4, f5⟩ := hf it (by simp)
    have hl := rv.length
    have D := Draws.tuple (prog := X.prog) (w := X.w) (show X.A.in1.handled = none from I.ok.hd hc) it a (Ne.symm hia) its.toArray
    have en : its.toArray.size = i := by simp; omega
    exact wpAny_pyNext_enum_endD D he ⟨by rw [en]; exact hit, p⟩ fun h' eb => ⟨rfl, I.turned (t' := s.toks) (fun b o hb q => eb b o hb q) f0 f1 f3 f4 f5⟩
  self := fun A i s Q E st hQ => let ⟨⟨_, hz⟩, _⟩ := st; wpAny_pyIter_enum hz hQ
def iEnT (K : PySem.W.Frag) (ta : TA) : TI := fun σ H R => ta σ H fun vs H1 => ∃ a xs, vs = [.ref a] ∧ SqT K H1 a xs ∧ R (Itet K a) H1
theorem pi_enumT {X : Cx} {e : Expr} {ta : TA} {p pos tpos : Pos} {elts : List Expr} {kk : Nat} (hg : Gl X "enumerate") (hm : X.mg "enumerate" = none) (ha : PA X [e] ta) (hs : starEach [e] X.env = [(false, eval e X.env)] := by rfl) :
    PI X (.Tuple elts kk tpos) (.Call (.Name "enumerate" p) [e] [] pos) (iEnT X.K ta) := by
  refine ⟨fun pins s σ H R I h => ?_⟩; refine Call_ (ld_blt I hg hm boot_enumerate (PyProof.Rows.callWith_type1 (thn (ha.run pos pins s σ H _ I h) fun us s1 ⟨vs, H1, I1, r1, q1⟩ => ?_) hs rfl))
  obtain ⟨a, xs, ex, hq, q⟩ := q1; subst ex
  cases r1 with
  | cons r rr =>
    cases rr
    cases r
    obtain ⟨its, rv, p', hz⟩ := I1.tuple hq
    have hal : a < s1.heap.objs.size := by obtain ⟨_, e, _⟩ := p'; exact Heap.lt_size e
    refine call_enum1 (begins_tuple a its.toArray) p' fun h' he hit hk => wpAny_pyIter_enum he ?_
    have I2 : Inv X pins σ H1 { s1 with heap := h' } := I1.kept (t' := s1.toks) hk; refine ⟨s1.heap.objs.size + 1, [s1.heap.objs.size + 1, s1.heap.objs.size], _, _, H1, rfl, I2, turn_enumT a (s1.heap.objs.size + 1) s1.heap.objs.size, ⟨⟨.none, he⟩, ⟨_, hit, rfl, rfl⟩, Nat.succ_ne_self _, Nat.ne_of_gt hal, Nat.ne_of_gt (Nat.lt_succ_of_lt hal)⟩, fun b hb => ?_, q⟩
    have eb : b = s1.heap.objs.size + 1 ∨ b = s1.heap.objs.size := by simpa using hb
    have hge : s1.heap.objs.size ≤ b := by
      rcases eb with z | z
      · rw [z]; exact Nat.le_succ _
      · rw [z]; exact Nat.le_refl _
    exact I1.fpOk hge (I1.hok.fresh hge)
theorem gi_enumT {X : Cx} {C : MP.Tab} {W : Wx} {e : Expr} {m : ME} {p pos tpos : Pos} {elts : List Expr} {kk : Nat} (hm : X.mg "enumerate" = none) (h : GE X C W e m) (hg : Gl X "enumerate" := by rfl) (h1 : starEach [e] X.env = (false, eval e X.env) :: starEach [] X.env := by rfl) (hs : starEach [e] X.env = [(false, eval e X.env)] := by rfl) :
    GI X C W (.Tuple elts kk tpos) (.Call (.Name "enumerate" p) [e] [] pos) (iEnumT m) := PI.imp (pi_enumT hg hm (pa_cons h pa_nil h1) hs) fun σ H R ⟨q0, q, env, s, eq, E, L, p⟩ => by
  subst eq
  refine tM.first (f := fun x s1 => (match x with | .tup ds => Res.ok (⟨ds.mapIdx fun i d => .tup [.int i, d], none⟩ : Src) s1 | _ => .stk : Res Src)) E L p (fun q1 x1 q2 a b w => w) fun x s1 vx q1 x1 E1 L1 y1 p1 => ?_
  cases y1 with
  | @tup a vs ds g r =>
    refine ⟨a, vs, rfl, g.sq, p1 _ q1 (Ext.refl q1) L1 fun q2 s2 i k R2 => ⟨fun d d' h1 h2 => ?_, fun hi _ => ?_⟩⟩
    · cases h2
      obtain ⟨d0, h3, rfl⟩ := mapIdx_get h1
      have g2 : SqT X.K q2.H a vs := (g.mono k).sq
      obtain ⟨v, h4, h5⟩ := RDs.get (RDs.mono k _ r) h3
      refine ⟨⟨vs, v, g2, h4⟩, fun u H3 ⟨T, x, e1, e2, e3, e4⟩ => ?_⟩
      have := e4 vs g2
      rw [h4] at this
      cases this
      subst e1 e3
      have x2 := Ext.new1 (o := .tup [.int (i : Nat), v]) R2.wf e2
      exact ⟨⟨upd q2.H T (.tup [.int (i : Nat), v]), q2.L, q2.r⟩, rfl, x2, R2.new1 e2, .tup (.inl ⟨upd_same, R2.wf.no e2⟩) (.cons (.int _) (.cons (RD.mono x2.kp _ h5) .nil))⟩
    · have hi : i = ds.length := by simpa using hi
      exact ⟨vs, (g.mono k).sq, by rw [r.length]; exact hi.symm⟩
  | _ => exact p1.elim
end MP

/-! Two walks in one comprehension; placed lists written. Own text. -/
namespace MP
open PySem L2 TL
section
variable {K : PySem.W.Frag} {C : Tab} {W : Wx}
/-- a target that makes no list of the frame's own -/
def NoOwn (g : MG) : Prop := ∀ (d : D) (env env' : MP.Env), g d env = some env' → ∀ (j : Nat) (ds : List D), env'[j]? = some (Slot.own ds) → env[j]? = some (Slot.own ds)
theorem no_nm (i : Nat) : NoOwn (gNm i) := fun d env env' h j ds e => by
  cases h
  by_cases z : i = j
  · subst z
    have hi : i < env.length := by
      have := (List.getElem?_eq_some_iff.mp e).1
      simpa using this
    rw [List.getElem?_set_self hi] at e
    cases e
  · rwa [List.getElem?_set_ne z] at e
theorem no_all : ∀ {gs : List MG}, (∀ g ∈ gs, NoOwn g) → ∀ (ds : List D) (env env' : MP.Env), gAll gs ds env = some env' → ∀ (j : Nat) (xs : List D), env'[j]? = some (Slot.own xs) → env[j]? = some (Slot.own xs)
  | [], _, [], env, env', h => by cases h; exact fun _ _ e => e
  | [], _, _ :: _, env, env', h => by cases h
  | _ :: _, _, [], env, env', h => by cases h
  | g :: gs, hg, d :: ds, env, env', h => by
    simp only [gAll] at h
    cases e : g d env with
    | none => rw [e] at h; exact nomatch h
    | some e1 =>
      rw [e] at h
      intro j xs q
      exact hg g List.mem_cons_self d env e1 e j xs (no_all (fun g' m => hg g' (List.mem_cons_of_mem _ m)) ds e1 env' h j xs q)
theorem no_tp {gs : List MG} (h : ∀ g ∈ gs, NoOwn g) : NoOwn (gTp gs) := fun d env env' e => by
  unfold gTp at e
  split at e
  · exact no_all h _ env env' e
  · cases e
theorem wipeE_get {env : MP.Env} {j : Nat} {ds : List D} : ∀ {vs : List Nat}, (wipeE env vs)[j]? = some (.own ds) → j ∉ vs
  | [], _ => fun z => nomatch z
  | v :: vs, h => fun z => by
    unfold wipeE at h
    by_cases e : v = j
    · subst e
      have hi : v < (wipeE env vs).length := by
        have := (List.getElem?_eq_some_iff.mp h).1
        simpa using this
      rw [List.getElem?_set_self hi] at h
      cases h
    · rw [List.getElem?_set_ne e] at h
      rcases List.mem_cons.mp z with q | q
      · exact e q.symm
      · exact wipeE_get h q
theorem wipeE_out {env : MP.Env} {j : Nat} : ∀ {vs : List Nat}, j ∉ vs → (wipeE env vs)[j]? = env[j]?
  | [], _ => rfl
  | v :: vs, h => by
    unfold wipeE
    rw [List.getElem?_set_ne (fun e => h (by simp [e]))]
    exact wipeE_out fun z => h (List.mem_cons_of_mem _ z)
theorem RE.ownW {q0 q : Stt} {env : MP.Env} {σ : St} {p : Addr} {o : HO} (E : RE K C q0 q env σ) (hl : q.L p) (hn : ∀ (j : Nat) (ds : List D), env[j]? = some (Slot.own ds) → σ[j]? ≠ some (some (V.ref p))) : RE K C q0 ⟨upd q.H p o, q.L, q.r⟩ env σ where
  len := E.len
  val := fun i d e => by
    obtain ⟨v, h, r⟩ := E.val i d e
    exact ⟨v, h, RD.mono (Kp.wr hl) d r⟩
  own := fun i ds e => by
    obtain ⟨a, vs, h1, h2, h3, h4, h5, h6⟩ := E.own i ds e
    have ne : a ≠ p := fun z => by subst z; exact hn i ds e h1
    exact ⟨a, vs, h1, by show upd q.H p o a = _; rw [upd_ne ne]; exact h2, h3, h4, RDs.mono (Kp.wr hl) ds h5, h6⟩
  inj := E.inj
  w0 := E.w0
  exn := fun i y e => let ⟨a, cl, d, h1, h2, h3⟩ := E.exn i y e; ⟨a, cl, d, h1, h2, h3.mono (Kp.wr hl)⟩
theorem lc2_imp {mi mi1 : MI} {g g1 : MG} {mt mt1 : MT} {me : ME} {gvs gvs1 vs vs1 : List Nat} (hsub : ∀ j ∈ gvs, j ∈ vs) (hsub1 : ∀ j ∈ gvs1, j ∈ vs1) (hno : NoOwn g) (σ : St) (H : Hp) (Q : VK) (h : tM K C W (RN K) (lLc2 mi g mt mi1 g1 mt1 me vs vs1) σ H Q) :
    tLc2 (tM K C W (rI' K C) mi) (tG K C g gvs) (tM K C W0 rT mt) (tM K C W0 (rI' K C) mi1) (tG K C g1 gvs1) (tM K C W0 rT mt1) (tM K C W0 (rD K) me) vs vs1 σ H Q := by
  obtain ⟨q0, q, env, s, eq, E, L, p⟩ := h
  subst eq
  refine tM.first0 (f := fun x s1 => if x.ds.length ≤ 1000 then lcL2 x g mt mi1 g1 mt1 me vs1 (wipeE env vs) 0 x.ds s1 else .stk) E L p fun x s1 J q1 x1 L1 ok p1 => ?_
  by_cases hsz : x.ds.length ≤ 1000
  · rw [if_pos hsz] at p1
    intro Dl hD
    have hq : Fr q Dl := x1.free L.wf hD fun z => by
      obtain ⟨t, e⟩ := x1.pre
      exact L1.wf.nor hD (by rw [e]; exact List.mem_append_left _ z)
    refine ⟨fun i m H => ∃ (q' : Stt) (s' : Sto) (acc : List D) (av : List V), H = q'.H ∧ i ≤ x.ds.length ∧ m = x.ds.length - i ∧ acc.length ≤ i * 1000 ∧ Ext q q' ∧ Kp q1 q' ∧ Rel K C s' q' ∧ q'.H Dl = some (.lst av) ∧ q'.L Dl ∧ Dl ∉ q'.r ∧ RDs K q' acc av ∧
      Post K C W (RN K) q σ Q ((lcL2 x g mt mi1 g1 mt1 me vs1 (wipeE env vs) i (x.ds.drop i) s').bind fun ys s3 => .ok (acc ++ ys) s3),
      ⟨x.ds.length, ⟨upd q1.H Dl (.lst []), fun a => q1.L a ∨ a = Dl, q1.r⟩, s1, [], [], rfl, Nat.zero_le _, rfl, Nat.zero_le _, x1.trans (Ext.newL L1.wf hD), (Ext.newL L1.wf hD).kp, L1.newL hD, upd_same, .inr rfl, L1.wf.nor hD, .nil, by
        rw [List.drop_zero]
        cases e : lcL2 x g mt mi1 g1 mt1 me vs1 (wipeE env vs) 0 x.ds s1 with
        | ok a s => rw [e] at p1; exact p1
        | exc a s => rw [e] at p1; exact p1
        | stk => rw [e] at p1; exact p1⟩, ?_⟩
    rintro i m H ⟨q', s', acc, av, rfl, hi, rfl, hacc, X1, K1, R1, hDl, hL, hr, racc, P⟩
    obtain ⟨okI, okE⟩ := ok q' s' i K1 R1
    rcases Nat.lt_or_ge i x.ds.length with hlt | hge
    · obtain ⟨d, hd⟩ : ∃ d, x.ds[i]? = some d := ⟨_, List.getElem?_eq_getElem hlt⟩
      have hdrop : x.ds.drop i = d :: x.ds.drop (i + 1) := by
        rw [List.drop_eq_getElem_cons hlt]; have := List.getElem?_eq_getElem hlt
        rw [hd] at this
        cases this
        rfl
      rw [hdrop] at P
      simp only [lcL2] at P
      cases hcur : cur x s' i d with
      | none => rw [hcur] at P; exact P.elim
      | some d' =>
        rw [hcur] at P
        simp only [Option.bind_some] at P
        cases hg : g d' (wipeE env vs) with
        | none => rw [hg] at P; exact P.elim
        | some env1 =>
          rw [hg] at P
          simp only [Res.ofO_some, Res.bind_ok] at P
          obtain ⟨go, yl⟩ := okI d d' hd hcur
          refine .inr ⟨go, fun H' => ∃ (q' : Stt) (s' : Sto) (acc : List D) (av : List V), H' = q'.H ∧ i + 1 ≤ x.ds.length ∧ acc.length ≤ (i + 1) * 1000 ∧ Ext q q' ∧ Kp q1 q' ∧ Rel K C s' q' ∧ q'.H Dl = some (.lst av) ∧ q'.L Dl ∧ Dl ∉ q'.r ∧ RDs K q' acc av ∧
            Post K C W (RN K) q σ Q ((lcL2 x g mt mi1 g1 mt1 me vs1 (wipeE env vs) (i + 1) (x.ds.drop (i + 1)) s').bind fun ys s3 => .ok (acc ++ ys) s3),
            fun H' ⟨q', s', acc, av, h1, h2, h3, h4, h5, h6, h7, h8, h9, h10, h11⟩ => ⟨x.ds.length - (i + 1), by omega, q', s', acc, av, h1, h2, rfl, h3, h4, h5, h6, h7, h8, h9, h10, h11⟩, fun v H3 hy => ?_⟩
          obtain ⟨q3, rfl, X3, R3, rd⟩ := yl v H3 hy
          refine ⟨q0, q3, wipeE env vs, env1, s', d', rfl, (E.wipe vs).ext (X1.trans X3), R3, rd, hg, fun σ2 q4 X4 R4 E4 n4 w4 => ⟨wipe_eq (by rw [n4, wipe_length]) fun j hj => w4 j fun z => hj (hsub j z), ?_⟩⟩
          refine ⟨q0, q4, env1, s', rfl, E4, R4, ?_⟩
          rw [Res.bind_assoc] at P
          refine Post.calm P fun b s5 _ b' q5 X5 R5 e5 P5 => ?_
          subst e5
          have X15 := ((X1.trans X3).trans X4).trans X5
          have X35 := (X3.trans X4).trans X5
          have hD5 := X35.keep Dl _ hDl hr (fun _ z => nomatch z)
          have hL5 := X35.mono Dl hL
          have hr5 : Dl ∉ q5.r := fun z => (X35.new Dl z).elim hr fun n => by exact n _ hDl fun _ z => nomatch z
          have hmul : (i + 1) * 1000 = i * 1000 + 1000 := by omega
          cases b with
          | false =>
            refine iteF ⟨q5, s5, acc, av, rfl, hlt, by omega, X15, K1.trans X35.kp, R5, hD5, hL5, hr5, RDs.mono X35.kp _ racc, ?_⟩
            simpa using P5
          | true =>
            refine iteT ⟨q0, q5, env1, s5, rfl, E4.ext X5, R5, ?_⟩
            simp only [if_true] at P5
            rw [Res.bind_assoc] at P5
            refine Post.calm P5 fun y s6 _ J1 q6 X6 R6 ok1 P6 => ?_
            by_cases hsz1 : y.ds.length ≤ 1000
            · rw [if_pos hsz1] at P6
              have X16 := X15.trans X6
              have X36 := X35.trans X6
              have E6 : RE K C q0 q6 env1 σ2 := (E4.ext X5).ext X6
              have nown : ∀ (j : Nat) (ds : List D), env1[j]? = some (Slot.own ds) → σ2[j]? ≠ some (some (V.ref Dl)) := fun j ds e z => by
                have e2 := hno _ _ _ hg j ds e
                have nj := wipeE_get e2
                obtain ⟨a, us, a1, a2, _⟩ := (E.wipe vs).own j ds e2
                rw [w4 j fun y => nj (hsub j y), a1] at z
                cases z
                exact hq _ a2 fun _ z => nomatch z
              have nown1 : ∀ (j : Nat) (ds : List D), (wipeE env1 vs1)[j]? = some (Slot.own ds) → (wipe σ2 vs1)[j]? ≠ some (some (V.ref Dl)) := fun j ds e z => by
                have nj := wipeE_get e
                rw [L2.wipe_out nj] at z
                rw [wipeE_out nj] at e
                exact nown j ds e z
              refine ⟨fun j k H => ∃ (q' : Stt) (s' : Sto) (ac : List D) (av : List V), H = q'.H ∧ j ≤ y.ds.length ∧ k = y.ds.length - j ∧ ac.length ≤ i * 1000 + j ∧ Ext q q' ∧ (Kp q6 q' ∧ RE K C q0 q' (wipeE env1 vs1) (wipe σ2 vs1)) ∧ Kp q1 q' ∧ Rel K C s' q' ∧ q'.H Dl = some (.lst av) ∧ q'.L Dl ∧ Dl ∉ q'.r ∧ RDs K q' ac av ∧
                Post K C W (RN K) q σ Q ((lcL y g1 mt1 me (wipeE env1 vs1) j (y.ds.drop j) s').bind fun ys s3 => (lcL2 x g mt mi1 g1 mt1 me vs1 (wipeE env vs) (i + 1) (x.ds.drop (i + 1)) s3).bind fun zs s4 => .ok (ac ++ (ys ++ zs)) s4),
                ⟨y.ds.length, q6, s6, acc, av, rfl, Nat.zero_le _, rfl, by omega, X16, ⟨Kp.refl q6, E6.wipe vs1⟩, K1.trans X36.kp, R6, X6.keep Dl _ hD5 hr5 (fun _ z => nomatch z), X6.mono Dl hL5, (fun z => (X6.new Dl z).elim hr5 fun n => by exact n _ hD5 fun _ z => nomatch z), RDs.mono X36.kp _ racc, by
                  rw [List.drop_zero]
                  rw [Res.bind_assoc] at P6
                  simp only [Res.bind_assoc, Res.bind_ok] at P6
                  exact P6⟩, ?_⟩
              rintro j k H ⟨q7, s7, ac, av7, rfl, hj, rfl, hac, X7, ⟨X67, E7⟩, K7, R7, hD7, hL7, hr7, rac, P7⟩
              obtain ⟨okJ, okF⟩ := ok1 q7 s7 j X67 R7
              rcases Nat.lt_or_ge j y.ds.length with jlt | jge
              · obtain ⟨e, he⟩ : ∃ e, y.ds[j]? = some e := ⟨_, List.getElem?_eq_getElem jlt⟩
                have hdrop1 : y.ds.drop j = e :: y.ds.drop (j + 1) := by
                  rw [List.drop_eq_getElem_cons jlt]
                  have := List.getElem?_eq_getElem jlt
                  rw [he] at this
                  cases this
                  rfl
                rw [hdrop1] at P7
                simp only [lcL] at P7
                cases hcur1 : cur y s7 j e with
                | none => rw [hcur1] at P7; exact P7.elim
                | some e' =>
                  rw [hcur1] at P7
                  simp only [Option.bind_some] at P7
                  cases hg1 : g1 e' (wipeE env1 vs1) with
                  | none => rw [hg1] at P7; exact P7.elim
                  | some env2 =>
                    rw [hg1] at P7
                    simp only [Res.ofO_some, Res.bind_ok] at P7
                    obtain ⟨go1, yl1⟩ := okJ e e' he hcur1
                    refine .inr ⟨go1, fun H' => ∃ (q' : Stt) (s' : Sto) (ac : List D) (av : List V), H' = q'.H ∧ j + 1 ≤ y.ds.length ∧ ac.length ≤ i * 1000 + (j + 1) ∧ Ext q q' ∧ (Kp q6 q' ∧ RE K C q0 q' (wipeE env1 vs1) (wipe σ2 vs1)) ∧ Kp q1 q' ∧ Rel K C s' q' ∧ q'.H Dl = some (.lst av) ∧ q'.L Dl ∧ Dl ∉ q'.r ∧ RDs K q' ac av ∧
                      Post K C W (RN K) q σ Q ((lcL y g1 mt1 me (wipeE env1 vs1) (j + 1) (y.ds.drop (j + 1)) s').bind fun ys s3 => (lcL2 x g mt mi1 g1 mt1 me vs1 (wipeE env vs) (i + 1) (x.ds.drop (i + 1)) s3).bind fun zs s4 => .ok (ac ++ (ys ++ zs)) s4),
                      fun H' ⟨q', s', ac, av, h1, h2, h3, h4, h5, h6, h7, h8, h9, h10, h11, h12⟩ => ⟨y.ds.length - (j + 1), by omega, q', s', ac, av, h1, h2, rfl, h3, h4, h5, h6, h7, h8, h9, h10, h11, h12⟩, fun v H8 hy8 => ?_⟩
                    obtain ⟨q8, rfl, X8, R8, rd8⟩ := yl1 v H8 hy8
                    refine ⟨q0, q8, wipeE env1 vs1, env2, s7, e', rfl, E7.ext X8, R8, rd8, hg1, fun σ3 q9 X9 R9 E9 n9 w9 => ⟨wipe_eq (by rw [n9, wipe_length]) fun l hl => w9 l fun z => hl (hsub1 l z), ?_⟩⟩
                    refine ⟨q0, q9, env2, s7, rfl, E9, R9, ?_⟩
                    rw [Res.bind_assoc] at P7
                    refine Post.calm P7 fun c s10 _ c' q10 X10 R10 e10 P10 => ?_
                    subst e10
                    have X70 := (X8.trans X9).trans X10
                    cases c with
                    | false =>
                      refine iteF ⟨q10, s10, ac, av7, rfl, jlt, by omega, X7.trans X70, ⟨X67.trans X70.kp, E7.ext X70⟩, K7.trans X70.kp, R10, X70.keep Dl _ hD7 hr7 (fun _ z => nomatch z), X70.mono Dl hL7, (fun z => (X70.new Dl z).elim hr7 fun n => by exact n _ hD7 fun _ z => nomatch z), RDs.mono X70.kp _ rac, ?_⟩
                      simpa using P10
                    | true =>
                      refine iteT ⟨q0, q10, env2, s10, rfl, E9.ext X10, R10, ?_⟩
                      simp only [if_true] at P10
                      rw [Res.bind_assoc] at P10
                      refine Post.calm P10 fun w s11 _ wv q11 X11 R11 e11 P11 => ?_
                      have X71 := X70.trans X11
                      have hD11 := X71.keep Dl _ hD7 hr7 (fun _ z => nomatch z)
                      have hL11 := X71.mono Dl hL7
                      have hr11 : Dl ∉ q11.r := fun z => (X71.new Dl z).elim hr7 fun n => by exact n _ hD7 fun _ z => nomatch z
                      refine ⟨av7, hD11, ?_, ?_⟩
                      · rw [rac.length]
                        exact Nat.lt_of_lt_of_le (show ac.length < cap by unfold cap; omega) (lenS (Nat.le_refl _))
                      · have kw : Kp q11 ⟨upd q11.H Dl (.lst (av7 ++ [wv])), q11.L, q11.r⟩ := Kp.wr hL11
                        refine ⟨⟨upd q11.H Dl (.lst (av7 ++ [wv])), q11.L, q11.r⟩, s11, ac ++ [w], av7 ++ [wv], rfl, jlt, by simp; omega, (X7.trans X71).own hq, ?_, (K7.trans X71.kp).own (Fr.of hD), R11.wr hL11 hr11 hD11 (fun _ z => nomatch z) (fun _ z => nomatch z), upd_same, hL11, hr11, RDs.mono kw _ ((RDs.mono X71.kp _ rac).append (.cons e11 .nil)), ?_⟩
                        · exact ⟨(X67.trans X71.kp).trans kw, (E7.ext X71).ownW hL11 nown1⟩
                        · simp only [Res.bind_assoc, Res.bind_ok] at P11
                          simpa using P11
              · have hz : j = y.ds.length := by omega
                subst hz
                rw [List.drop_length] at P7
                simp only [lcL] at P7
                cases hf : MP.fin y s7 with
                | false => rw [hf] at P7; exact P7.elim
                | true =>
                  rw [hf] at P7
                  simp only [if_true, Res.bind_ok, List.nil_append] at P7
                  exact .inl ⟨okF rfl hf, q7, s7, ac, av7, rfl, hlt, by omega, X7, K7, R7, hD7, hL7, hr7, rac, P7⟩
            · rw [if_neg hsz1] at P6
              exact P6.elim
    · have hz : i = x.ds.length := by omega
      subst hz
      rw [List.drop_length] at P
      simp only [lcL2] at P
      cases hf : MP.fin x s' with
      | false => rw [hf] at P; exact P.elim
      | true =>
        rw [hf] at P
        simp only [if_true, Res.bind_ok, List.append_nil] at P
        exact .inl ⟨okE rfl hf, P (.ref Dl) q' X1 R1 ⟨Dl, av, rfl, hq, hDl, hL, hr, racc⟩⟩
  · rw [if_neg hsz] at p1
    exact p1.elim
end
end MP

/-! More rules: two walks in one comprehension, placed lists, min, sorted sets. Own text. -/
namespace MP
open PySem L2 TL
section
variable {X : Cx} {C : Tab} {W : Wx} {pos p p2 p3 apos tpos cpos : Pos} {tg e a b c o f i : Expr} {es elts : List Expr} {m ma mb mc mo mf mi : ME} {st : Stmt} {x : Str}
theorem gl_lc2 {elt tg iter tg1 iter1 : Expr} {ifs ifs1 : List Expr} {scope : Scope} {own : List (Str × Nat)} {mi mi1 : MI} {g g1 : MG} {mt mt1 : MT} {me : ME} {gvs gvs1 vs1 : List Nat} (hc : X.calm = true) (hN : X.N.Nodup) (hi : GI X C W tg iter mi) (ok : BlkOk X.N X.env.scope scope own)
    (hg : ∀ (s : Shared) (H : Hp) (Ca : Addr) (cl : List (Str × Addr)) (fp : List Addr), GG (X.blk s H scope (compEnvC scope cl Ca X.env) fp) C tg g gvs) (ht : ∀ (s : Shared) (H : Hp) (Ca : Addr) (cl : List (Str × Addr)) (fp : List Addr), GTs (X.blk s H scope (compEnvC scope cl Ca X.env) fp) C W0 ifs mt)
    (hi1 : ∀ (s : Shared) (H : Hp) (Ca : Addr) (cl : List (Str × Addr)) (fp : List Addr), GI (X.blk s H scope (compEnvC scope cl Ca X.env) fp) C W0 tg1 iter1 mi1)
    (hg1 : ∀ (s : Shared) (H : Hp) (Ca : Addr) (cl : List (Str × Addr)) (fp : List Addr), GG (X.blk s H scope (compEnvC scope cl Ca X.env) fp) C tg1 g1 gvs1) (ht1 : ∀ (s : Shared) (H : Hp) (Ca : Addr) (cl : List (Str × Addr)) (fp : List Addr), GTs (X.blk s H scope (compEnvC scope cl Ca X.env) fp) C W0 ifs1 mt1)
    (he : ∀ (s : Shared) (H : Hp) (Ca : Addr) (cl : List (Str × Addr)) (fp : List Addr), GE (X.blk s H scope (compEnvC scope cl Ca X.env) fp) C W0 elt me) (hno : NoOwn g) (hv : ∀ i ∈ vs1, i ∈ own.map (·.2) := by decide) (hsub : ∀ j ∈ gvs, j ∈ own.map (·.2) := by decide) (hsub1 : ∀ j ∈ gvs1, j ∈ vs1 := by decide)
    (hs : ∀ x, foldedSetIterable iter X.env x = pure x := by intro _; rfl) (hs1 : ∀ env x, foldedSetIterable iter1 env x = pure x := by intro _ _; rfl) :
    GL X C W (.ListComp elt [⟨tg, iter, ifs, 0⟩, ⟨tg1, iter1, ifs1, 0⟩] scope pos) (lLc2 mi g mt mi1 g1 mt1 me (own.map (·.2)) vs1) :=
  PE.imp (pe_lc2 (g := tG X.K C g gvs) (tt := tM X.K C W0 rT mt) (wi1 := tM X.K C W0 (rI' X.K C) mi1) (g1 := tG X.K C g1 gvs1) (tt1 := tM X.K C W0 rT mt1) (te := tM X.K C W0 (rD X.K) me) hc hN hi ok hv hg ht hi1 hg1 ht1 he hs hs1) (lc2_imp hsub hsub1 hno)
/-! ### placed lists written -/
theorem pl_at {K : PySem.W.Frag} {q : Stt} {s : Sto} {d : D} {v : V} {ds : List D} (R : Rel K C s q) (h : RD K q d v) (f : plOf s d = some ds) : ∃ n a vs, d = .ref n ∧ v = .ref a ∧ s[n]? = some (.lst ds) ∧ q.r[n]? = some a ∧ q.H a = some (.lst vs) ∧ RDs K q ds vs := by
  unfold plOf at f
  split at f
  · rename_i n
    split at f
    · rename_i ds' e
      cases f
      cases h with
      | ref g =>
        obtain ⟨vs, h1, h2⟩ := R.obs n _ _ e g
        exact ⟨n, _, vs, rfl, rfl, e, g, h1, h2⟩
    · cases f
  · cases f
theorem wr_pl {K : PySem.W.Frag} {q : Stt} {s : Sto} {n : Nat} {a : Addr} {ds ds' : List D} {vs' : List V} (L : Rel K C s q) (h1 : s[n]? = some (.lst ds)) (h2 : q.r[n]? = some a) (r : RDs K q ds' vs') :
    Ext q ⟨upd q.H a (.lst vs'), q.L, q.r⟩ ∧ Rel K C (s.set n (.lst ds')) ⟨upd q.H a (.lst vs'), q.L, q.r⟩ :=
  wr_placed L h1 h2 ⟨vs', upd_same, RDs.mono (Kp.wr (L.wf.live a (List.mem_of_getElem? h2))) _ r⟩
theorem ge_appL (ho : GE X C W o mo) (he : GE X C W e m)
    (hbase : attributeBase o "append" X.env (eval o X.env) = eval o X.env := by rfl)
    (hfew : ((backTo pos (starEach [e] X.env)).all (fun x => !x.1) && (backToKw pos (keywordEach [] X.env)).all (fun x => x.1.isSome)
      && decide ([e].length + ([] : List Keyword).length + (if ([] : List Keyword).isEmpty then 0 else 1) < 30)) = true := by rfl)
    (hline : (apos.endLine == pos.line) = true := by rfl) (hs : starEach [e] X.env = (false, eval e X.env) :: starEach [] X.env := by rfl) (hplain : (backTo pos (starEach [] X.env)).any (·.1) = false := by rfl) :
    GE X C W (.Call (.Attribute o "append" apos) [e] [] pos) (eAppL mo m) := PE.imp (pe_bm PySem.F.plainAttrs_list PySem.F.slot_list_append PySem.F.type_list_append mt_append ho (pa_cons he pa_nil hs) hbase hfew hline hs hplain) fun σ H Q ⟨q0, q, env, s, eq, E, L, p⟩ => by
  subst eq
  refine tM.first (f := fun x s1 => if (plOf s1 x).isSome then (m env s1).bind fun d s2 => appAt x d s2 else .stk) E L p rD_any fun x s1 vx q1 x1 E1 L1 y1 p1 => ?_
  cases e1 : plOf s1 x with
  | none => rw [e1] at p1; exact p1.elim
  | some ds =>
    rw [e1] at p1
    simp only [Option.isSome_some, if_true] at p1
    obtain ⟨n, u, vs, rfl, rfl, h1, h2, h3, h4⟩ := pl_at L1 y1 e1
    refine ⟨tyL h3, ?_⟩
    refine tM.first (f := fun d s2 => appAt (.ref n) d s2) E1 L1 p1 rD_any fun d s2 vd q2 x2 E2 L2 y2 p2 => ?_
    unfold appAt at p2
    cases e2 : plOf s2 (.ref n) with
    | none => rw [e2] at p2; exact p2.elim
    | some ds2 =>
      rw [e2] at p2
      obtain ⟨n', u', vs', e', e'', g1, g2, g3, g4⟩ := pl_at L2 (RD.mono x2.kp _ y1) e2
      cases e'
      cases e''
      simp only at p2
      by_cases hl : ds2.length < cap
      · rw [if_pos hl] at p2
        refine ⟨u, vs', vd, rfl, rfl, g3, by rw [g4.length]; exact Nat.lt_of_lt_of_le hl (lenS (Nat.le_refl _)), ?_⟩
        obtain ⟨w1, w2⟩ := wr_pl L2 g1 g2 (g4.append (.cons y2 .nil))
        exact p2 .non _ w1 w2 .non
      · rw [if_neg hl] at p2; exact p2.elim
theorem ge_extL (ho : GE X C W o mo) (he : GE X C W e m)
    (hbase : attributeBase o "extend" X.env (eval o X.env) = eval o X.env := by rfl)
    (hfew : ((backTo pos (starEach [e] X.env)).all (fun x => !x.1) && (backToKw pos (keywordEach [] X.env)).all (fun x => x.1.isSome)
      && decide ([e].length + ([] : List Keyword).length + (if ([] : List Keyword).isEmpty then 0 else 1) < 30)) = true := by rfl)
    (hline : (apos.endLine == pos.line) = true := by rfl) (hs : starEach [e] X.env = (false, eval e X.env) :: starEach [] X.env := by rfl) (hplain : (backTo pos (starEach [] X.env)).any (·.1) = false := by rfl) :
    GE X C W (.Call (.Attribute o "extend" apos) [e] [] pos) (eExtL mo m) := PE.imp (pe_bm PySem.F.plainAttrs_list PySem.F.slot_list_extend PySem.F.type_list_extend mt_extend ho (pa_cons he pa_nil hs) hbase hfew hline hs hplain) fun σ H Q ⟨q0, q, env, s, eq, E, L, p⟩ => by
  subst eq
  refine tM.first (f := fun x s1 => if (plOf s1 x).isSome then (m env s1).bind fun d s2 => extAt x d s2 else .stk) E L p rD_any fun x s1 vx q1 x1 E1 L1 y1 p1 => ?_
  cases e1 : plOf s1 x with
  | none => rw [e1] at p1; exact p1.elim
  | some ds =>
    rw [e1] at p1
    simp only [Option.isSome_some, if_true] at p1
    obtain ⟨n, u, vs, rfl, rfl, h1, h2, h3, h4⟩ := pl_at L1 y1 e1
    refine ⟨tyL h3, ?_⟩
    refine tM.first (f := fun d s2 => extAt (.ref n) d s2) E1 L1 p1 rD_any fun d s2 vd q2 x2 E2 L2 y2 p2 => ?_
    unfold extAt at p2
    cases e2 : plOf s2 (.ref n) with
    | none => rw [e2] at p2; exact p2.elim
    | some ds2 =>
      rw [e2] at p2
      obtain ⟨n', u', vs', e', e'', g1, g2, g3, g4⟩ := pl_at L2 (RD.mono x2.kp _ y1) e2
      cases e'
      cases e''
      rcases RB.view L2 (.inl y2) with ⟨es, b, us, ev, rfl, g, r⟩ | ⟨ev, r, nl⟩
      · rw [ev] at p2
        simp only at p2
        by_cases hl : ds2.length + es.length < cap
        · rw [if_pos hl] at p2
          refine ⟨u, b, vs', us, rfl, rfl, g3, g, by rw [g4.length, r.length]; exact lenS (Nat.le_of_lt hl), ?_⟩
          obtain ⟨w1, w2⟩ := wr_pl L2 g1 g2 (g4.append r)
          exact p2 .non _ w1 w2 .non
        · rw [if_neg hl] at p2; exact p2.elim
      · rw [ev] at p2
        cases d with
        | lst ds => exact absurd rfl (nl ds)
        | _ => exact p2.elim
theorem ge_popL (ho : GE X C W o mo) (hbase : attributeBase o "pop" X.env (eval o X.env) = eval o X.env := by rfl) (hline : (apos.endLine == pos.line) = true := by rfl) :
    GE X C W (.Call (.Attribute o "pop" apos) [] [] pos) (ePopL mo) := PE.imp (pe_bm0 PySem.F.plainAttrs_list PySem.F.slot_list_pop PySem.F.type_list_pop mt_pop ho hbase hline) fun σ H Q ⟨q0, q, env, s, eq, E, L, p⟩ => by
  subst eq
  refine tM.first (f := fun x s1 => if (plOf s1 x).isSome then popAt x s1 else .stk) E L p rD_any fun x s1 vx q1 x1 E1 L1 y1 p1 => ?_
  cases e1 : plOf s1 x with
  | none => rw [e1] at p1; exact p1.elim
  | some ds =>
    rw [e1] at p1
    simp only [Option.isSome_some, if_true] at p1
    obtain ⟨n, u, vs, rfl, rfl, h1, h2, h3, h4⟩ := pl_at L1 y1 e1
    refine ⟨tyL h3, ?_⟩
    unfold popAt at p1
    rw [e1] at p1
    simp only at p1
    cases e2 : ds[ds.length - 1]? with
    | none => rw [e2] at p1; exact p1.elim
    | some d =>
      rw [e2] at p1
      obtain ⟨v, g1, g2⟩ := RDs.get h4 e2
      refine ⟨u, vs, v, rfl, rfl, h3, by rw [h4.length]; exact g1, ?_⟩
      have hd : RDs X.K q1 ds.dropLast vs.dropLast := by
        rw [List.dropLast_eq_take, List.dropLast_eq_take, h4.length]
        exact h4.take _
      obtain ⟨w1, w2⟩ := wr_pl L1 h1 h2 hd
      exact p1 v _ w1 w2 (RD.mono w1.kp _ g2)
theorem ge_clrL (ho : GE X C W o mo) (hbase : attributeBase o "clear" X.env (eval o X.env) = eval o X.env := by rfl) (hline : (apos.endLine == pos.line) = true := by rfl) :
    GE X C W (.Call (.Attribute o "clear" apos) [] [] pos) (eClrL mo) := PE.imp (pe_bm0 PySem.F.plainAttrs_list PySem.F.slot_list_clear PySem.F.type_list_clear mt_clear ho hbase hline) fun σ H Q ⟨q0, q, env, s, eq, E, L, p⟩ => by
  subst eq
  refine tM.first (f := fun x s1 => if (plOf s1 x).isSome then clrAt x s1 else .stk) E L p rD_any fun x s1 vx q1 x1 E1 L1 y1 p1 => ?_
  cases e1 : plOf s1 x with
  | none => rw [e1] at p1; exact p1.elim
  | some ds =>
    rw [e1] at p1
    simp only [Option.isSome_some, if_true] at p1
    obtain ⟨n, u, vs, rfl, rfl, h1, h2, h3, h4⟩ := pl_at L1 y1 e1
    refine ⟨tyL h3, ?_⟩
    unfold clrAt at p1
    rw [e1] at p1
    refine ⟨u, vs, rfl, rfl, h3, ?_⟩
    obtain ⟨w1, w2⟩ := wr_pl (ds' := []) (vs' := []) L1 h1 h2 .nil
    exact p1 .non _ w1 w2 .non
/-! ### min of two -/
theorem ge_min2 {x : Str} (hc : X.calm = true) (hm : X.mg x = none) (ha : GE X C W a ma) (hb : GE X C W b mb) (hg : Gl X x := by rfl) (hv : bootBuiltins x = some (.builtin "min") := by decide +kernel) (hn : x ≠ "__name__" := by decide) (hd : (x == ("__debug__" : Str)) = false := by decide)
    (h1 : starEach [a, b] X.env = (false, eval a X.env) :: starEach [b] X.env := by rfl) (h2 : starEach [b] X.env = (false, eval b X.env) :: starEach [] X.env := by rfl) (hpl : (backTo pos (starEach [b] X.env)).any (·.1) = false := by rfl) :
    GE X C W (.Call (.Name x p2) [a, b] [] pos) (eOp2 opMin ma mb) := PE.imp (pe_callB (call_min2 hc) hg hm hv (pa_cons ha (pa_cons hb pa_nil h2) h1) hn hd (he := h1) (hpl := hpl)) fun σ H Q ⟨q0, q, env, s, eq, E, L, p⟩ => by
  subst eq
  refine tM.first (f := fun x s1 => (mb env s1).bind fun y s2 => .ofO (opMin s2 x y) s2) E L p rD_any fun x s1 vx q1 x1 E1 L1 y1 p1 => ?_
  refine tM.first (f := fun y s2 => .ofO (opMin s2 x y) s2) E1 L1 p1 rD_any fun y s2 vy q2 x2 E2 L2 y2 p2 => ?_
  cases y1 with
  | int i =>
    cases y2 with
    | int j => exact ⟨i, j, rfl, p2 _ q2 (Ext.refl q2) L2 (.int _)⟩
    | _ => exact p2.elim
  | _ => exact p2.elim
/-! ### sorted(set(t)) -/
theorem insU_mem {n k : Int} : ∀ {l : List Int}, k ∈ insU n l ↔ k = n ∨ k ∈ l
  | [] => by simp [insU]
  | m :: r => by
    unfold insU
    split
    · simp
    · split
      · rename_i e
        subst e
        simp
      · simp only [List.mem_cons, insU_mem (l := r)]
        constructor <;> (rintro (h | h | h) <;> simp [h])
theorem insU_inc {n : Int} : ∀ {l : List Int}, l.Pairwise (· < ·) → (insU n l).Pairwise (· < ·)
  | [], _ => by simp [insU]
  | m :: r, h => by
    rw [List.pairwise_cons] at h
    unfold insU
    split
    · rename_i hl
      refine List.pairwise_cons.mpr ⟨fun k hk => ?_, List.pairwise_cons.mpr h⟩
      rcases List.mem_cons.mp hk with e | hk
      · omega
      · have := h.1 k hk; omega
    · split
      · exact List.pairwise_cons.mpr h
      · refine List.pairwise_cons.mpr ⟨fun k hk => ?_, insU_inc h.2⟩
        rcases insU_mem.mp hk with e | hk
        · omega
        · exact h.1 k hk
theorem sortU_mem {k : Int} : ∀ {l : List Int}, k ∈ sortU l ↔ k ∈ l
  | [] => Iff.rfl
  | n :: l => by
    show k ∈ insU n (sortU l) ↔ _
    rw [insU_mem, sortU_mem, List.mem_cons]
theorem sortU_inc : ∀ {l : List Int}, (sortU l).Pairwise (· < ·)
  | [] => .nil
  | n :: l => insU_inc sortU_inc
theorem inc_ext : ∀ {a b : List Int}, a.Pairwise (· < ·) → b.Pairwise (· < ·) → (∀ k, k ∈ a ↔ k ∈ b) → a = b
  | [], [], _, _, _ => rfl
  | [], y :: b, _, _, h => by have := (h y).mpr List.mem_cons_self; cases this
  | x :: a, [], _, _, h => by have := (h x).mp List.mem_cons_self; cases this
  | x :: a, y :: b, ha, hb, h => by
    rw [List.pairwise_cons] at ha hb
    have e : x = y := by
      rcases List.mem_cons.mp ((h x).mp List.mem_cons_self) with e | m
      · exact e
      · rcases List.mem_cons.mp ((h y).mpr List.mem_cons_self) with e | m2
        · exact e.symm
        · have := ha.1 y m2; have := hb.1 x m; omega
    subst e
    rw [inc_ext ha.2 hb.2 fun k => ?_]
    constructor
    · intro m
      rcases List.mem_cons.mp ((h k).mp (List.mem_cons_of_mem _ m)) with e | z
      · have := ha.1 k m; omega
      · exact z
    · intro m
      rcases List.mem_cons.mp ((h k).mpr (List.mem_cons_of_mem _ m)) with e | z
      · have := hb.1 k m; omega
      · exact z
def rSetT (K : PySem.W.Frag) (w : World) : List V → Hp → VK → Prop := fun xs H Q => ∃ (a : Addr) (ns : List Int), xs = [.ref a] ∧ SqT K H a (ns.map V.int) ∧ ns.length + 1 < scanBound ∧
  ∀ p c, H p = none → c ≤ ns.length → Q (.ref p) (upd H p (SetO w p (fun j => decide (j ∈ ns)) c))
theorem call_setT (hc : X.calm = true) : CallR X (.type "set") (rSetT X.K X.w) := by
  intro pins s σ H xs us Q I r h; obtain ⟨a, ns, rfl, hs, hb, q⟩ := h
  obtain rfl := Vals.ref1 r
  obtain ⟨its, rv, p', hz⟩ := I.tuple hs
  refine call_set_tupI ns (I.ok.hd hc) p' (Vals.ints rv) hb fun h' tk c R hcl kp => ?_
  exact ⟨.ref s.heap.objs.size, _, I.laid (t' := tk) kp (Nat.le_refl _) (setO_new R), rfl, q _ c (I.hok.fresh (Nat.le_refl _)) hcl⟩
theorem gl_srtS (hc : X.calm = true) (hm : X.mg "sorted" = none) (hm2 : X.mg "set" = none) (h : GE X C W e m) (hg : Gl X "sorted" := by rfl) (hg2 : Gl X "set" := by rfl)
    (hs1 : starEach [e] X.env = (false, eval e X.env) :: starEach [] X.env := by rfl) (hs2 : starEach [.Call (.Name "set" p2) [e] [] p3] X.env = (false, eval (.Call (.Name "set" p2) [e] [] p3) X.env) :: starEach [] X.env := by rfl) :
    GL X C W (.Call (.Name "sorted" p) [.Call (.Name "set" p2) [e] [] p3] [] pos) (lSrtS m) := PE.imp (pe_callB (cr_sortedSet hc) hg hm (by decide +kernel) (pa_cons (pe_callTy (call_setT hc) hg2 hm2 (by decide +kernel) (pa_cons h pa_nil hs1) (he := hs1)) pa_nil hs2) (he := hs2)) fun σ H Q ⟨q0, q, env, s, eq, E, L, p⟩ => by
  subst eq
  refine tM.first0 (f := fun x s1 => setAt x s1) E L p fun x s1 vx q1 x1 L1 y1 p1 => ?_
  unfold setAt at p1
  cases y1 with
  | @tup a vs ds g r =>
    simp only at p1
    cases e1 : intsOf ds with
    | none => rw [e1] at p1; exact p1.elim
    | some ns =>
      rw [e1] at p1
      simp only at p1
      by_cases hl : ns.length < 64
      · rw [if_pos hl] at p1
        obtain rfl := intsOf_vals r e1
        refine ⟨a, ns, rfl, g.sq, by show ns.length + 1 < 4096; omega, fun p c hp hcl => ⟨p, _, c, rfl, upd_same, by omega, fun ms p2 hpw hmem hlen hp2 => ?_⟩⟩
        have em : ms = sortU ns := inc_ext hpw sortU_inc fun k => by rw [hmem, sortU_mem]; simp
        subst em
        have R2 := L1.new1 (o := SetO X.w p (fun j => decide (j ∈ ns)) c) hp (fun _ z => nomatch z)
        have X2 := x1.trans (Ext.new1 (o := SetO X.w p (fun j => decide (j ∈ ns)) c) L1.wf hp)
        have ei : (sortU ns).map V.int = (sortU ns).map V.int := rfl
        exact p1 _ _ (X2.trans (Ext.newL R2.wf hp2)) (R2.newL hp2) (RN.newL L.wf X2 R2 hp2 (RDs.ints _))
      · rw [if_neg hl] at p1; exact p1.elim
  | _ => exact p1.elim
end
end MP

/-! list(enumerate(x)), x a list. Own text. -/
namespace MP
open PySem PySem.Spec PyProof.Rows L2 TL
/-- behind the first item: the first tuple is still held -/
def EnO (h : Heap) (e it : Addr) (i : Int) : Prop := ∃ (T : Nat) (b : Bool) (f5 : Value), h.get? e = some { cls := .type "enumerate", dict := none, data := .fields #[rawInt T, .bool b, .ref it, rawInt i, .none, f5], slots := #[] } ∧ (∃ o, h.get? T = some o) ∧ T ≠ e ∧ T ≠ it
def EnS (h : Heap) (e it : Addr) (i : Int) : Prop := (∃ old, IsEnum h e it i old) ∨ EnO h e it i
theorem en_no_len : typeLookup (.type "enumerate") "__len__" = pure none := by rw [typeLookup_type, builtinLookup_eq_fast]; kernel_rfl
theorem en_no_hint : typeLookup (.type "enumerate") "__length_hint__" = pure none := by rw [typeLookup_type, builtinLookup_eq_fast]; kernel_rfl
section
variable {s : Shared} {prog : Program} {w : World} {A : Around} {E : Value → Shared → Prop}
theorem EnS.keep {h h' : Heap} {e it : Addr} {i : Int} (x : EnS h e it i) (k : ∀ o, h.get? e = some o → h'.get? e = some o) (k2 : ∀ b o, h.get? b = some o → ∃ o', h'.get? b = some o') : EnS h' e it i := by
  rcases x with ⟨old, he⟩ | ⟨T, b, f5, he, ⟨o, ho⟩, n1, n2⟩
  · exact .inl ⟨old, k _ he⟩
  · exact .inr ⟨T, b, f5, k _ he, k2 _ _ ho, n1, n2⟩
theorem alive0 {a : Addr} {o : Obj} {Q : Option Obj → Shared → Prop} (ho : s.heap.get? a = some o) (h : Q (some o) s) : wpAny (model prog w) A (loadIfAlive a) Q E s := fun Γ p _ => by
  unfold loadIfAlive
  rw [Sem.wp_loadIfAlive, ho, Sem.wp_pure]
  exact h
theorem enO_next {e it : Addr} {fp : List Addr} {n i : Nat} {P : Nat → Value → Prop} {St : Nat → Heap → Prop} {Q : Value → Shared → Prop}
    (D : Draws prog w A it fp n P St) (ho : EnO s.heap e it i) (hst : St i s.heap) (hlt : i < n) (hne : e ≠ it) (hef : e ∉ fp)
    (hQ : ∀ x h' tk, P i x → EnS h' e it ((i : Int) + 1) → St (i + 1) h' → h'.get? s.heap.objs.size = some { cls := .type "tuple", data := .seq #[.int i tk, x] } → h'.objs.size = s.heap.objs.size + 1 →
      (∀ b o, b ≠ e → b ≠ it → s.heap.get? b = some o → h'.get? b = some o) → Q (.ref s.heap.objs.size) { s with heap := h', toks := tk + 1 }) : wpAny (model prog w) A (Builtin.«enumerate.__next__» ⟨[.ref e], []⟩) (fun fin s' => ∃ v, fin = .done (.ret v) ∧ Q v s') E s := by
  obtain ⟨hp, g, d, tk₀, os⟩ := s; obtain ⟨T, fb, f5, he, ⟨oT, hoT⟩, hTe, hTi⟩ := ho
  show wpAny _ _ (field (.ref e) 2 >>= _) _ _ _; refine wpAny_bind (wpAny_field he rfl (x := .ref it) rfl ?_)
  refine wpAny_bind (D.item i _ _ _ hlt hst fun x h₁ tk hPx hit₁ hs₁ => ?_); replace hs₁ : Heap.SameBut it hp h₁ := hs₁
  have he₁ := (hs₁.2 e hne).trans he
  show wpAny _ _ (field (.ref e) 3 >>= _) _ _ ⟨h₁, g, d, tk, os⟩; refine wpAny_bind (wpAny_field he₁ rfl (x := rawInt i) rfl ?_)
  show wpAny _ _ (field (.ref e) 4 >>= _) _ _ ⟨h₁, g, d, tk, os⟩; refine wpAny_bind (wpAny_field he₁ rfl (x := .none) rfl ?_)
  show wpAny _ _ (mkInt i >>= _) _ _ ⟨h₁, g, d, tk, os⟩; refine wpAny_bind (wpAny_mkInt ?_)
  show wpAny _ _ (setField (.ref e) 3 (rawInt ((i : Int) + 1)) >>= _) _ _ ⟨h₁, g, d, tk + 1, os⟩; refine wpAny_bind (wpAny_setField_rec he₁ (by simp) fun h₂ he₂ hs₂ => ?_)
  replace hs₂ : Heap.SameBut e h₁ h₂ := hs₂; replace he₂ : h₂.get? e = some { cls := .type "enumerate", dict := none, data := .fields #[rawInt T, .bool fb, .ref it, rawInt ((i : Int) + 1), .none, f5], slots := #[] } := he₂
  show wpAny _ _ (setField (.ref e) 4 .none >>= _) _ _ ⟨h₂, g, d, tk + 1, os⟩; refine wpAny_bind (wpAny_setField_rec he₂ (by simp) fun h₃ he₃ hs₃ => ?_)
  replace hs₃ : Heap.SameBut e h₂ h₃ := hs₃; replace he₃ : h₃.get? e = some { cls := .type "enumerate", dict := none, data := .fields #[rawInt T, .bool fb, .ref it, rawInt ((i : Int) + 1), .none, f5], slots := #[] } := he₃
  show wpAny _ _ (newTuple [.int i tk, x] >>= _) _ _ ⟨h₃, g, d, tk + 1, os⟩; refine wpAny_bind (wpAny_newTuple ?_)
  have he₄ : (h₃.push { cls := .type "tuple", data := .seq #[.int i tk, x] }).get? e = some { cls := .type "enumerate", dict := none, data := .fields #[rawInt T, .bool fb, .ref it, rawInt ((i : Int) + 1), .none, f5], slots := #[] } := Heap.get?_push_of_some _ he₃
  generalize hh₄ : h₃.push { cls := .type "tuple", data := .seq #[.int i tk, x] } = h₄ at he₄; have hsz : h₃.objs.size = hp.objs.size := by rw [hs₃.1, hs₂.1, hs₁.1]
  have hel : e < hp.objs.size := Heap.lt_size he; have ht₄ : h₄.get? hp.objs.size = some { cls := .type "tuple", data := .seq #[.int i tk, x] } := by rw [← hh₄, ← hsz]; exact Heap.get?_push_size _ rfl
  have hzz₄ : h₄.objs.size = hp.objs.size + 1 := by rw [← hh₄, Heap.size_push, hsz]
  have hkk₄ : ∀ b o, b ≠ e → b ≠ it → hp.get? b = some o → h₄.get? b = some o := fun b o hbe hbi hb => by
    rw [← hh₄]; exact Heap.get?_push_of_some _ (hs₃.extBut _ o hbe (hs₂.extBut _ o hbe (hs₁.extBut _ o hbi hb)))
  have hitt₄ : St (i + 1) h₄ := D.frame _ _ _ hit₁ fun b hb o y => by
    have hbe : b ≠ e := fun q => hef (q ▸ hb); rw [← hh₄]; exact Heap.get?_push_of_some _ (hs₃.extBut b o hbe (hs₂.extBut b o hbe y))
  show wpAny _ _ (Builtin.SmallTypes.ownedTupleIsFree (.ref e) >>= _) _ _ ⟨h₄, g, d, tk + 1, os⟩; rw [hsz]
  clear hh₄ he₃ hs₃ he₂ hs₂ he₁ hs₁ hit₁ hsz h₃ h₂ h₁; have hT4 : h₄.get? T = some oT := hkk₄ T oT hTe hTi hoT
  have fin : ∀ (h₅ : Heap) (b : Bool), h₅.get? e = some { cls := .type "enumerate", dict := none, data := .fields #[rawInt T, .bool b, .ref it, rawInt ((i : Int) + 1), .none, f5], slots := #[] } → Heap.SameBut e h₄ h₅ → Q (.ref hp.objs.size) ⟨h₅, g, d, tk + 1, os⟩ := fun h₅ b he₅ hs₅ =>
    hQ x h₅ tk hPx (.inr ⟨T, b, f5, he₅, ⟨oT, hs₅.extBut _ _ hTe hT4⟩, hTe, hTi⟩) (D.frame _ _ _ hitt₄ fun b hb o y => hs₅.extBut b o (fun q => hef (q ▸ hb)) y) (hs₅.extBut _ _ (Nat.ne_of_gt hel) ht₄) (by show h₅.objs.size = hp.objs.size + 1; rw [hs₅.1, hzz₄]) fun b o hbe hbi hb => hs₅.extBut b o hbe (hkk₄ b o hbe hbi hb)
  refine wpAny_bind ?_
  unfold Builtin.SmallTypes.ownedTupleIsFree; refine wpAny_bind (wpAny_field he₄ rfl (x := rawInt T) rfl ?_)
  show wpAny _ _ (loadIfAlive ((T : Int).toNat) >>= _) _ _ _; rw [Int.toNat_natCast]
  refine wpAny_bind (alive0 hT4 ?_)
  simp only [Option.isNone_some, Bool.false_eq_true, if_false]; refine wpAny_bind (wpAny_field he₄ rfl (x := .bool fb) rfl ?_)
  cases fb with
  | true =>
    rw [if_neg (show ¬ ((Value.bool true != Value.bool true) = true) from Bool.false_ne_true)]; refine wpAny_pure ?_
    simp only [Bool.false_eq_true, if_false]; exact wpAny_pure ⟨_, rfl, fin h₄ true he₄ (Heap.SameBut.refl _ _)⟩
  | false =>
    rw [if_pos (show (Value.bool false != Value.bool true) = true from rfl)]; refine wpAny_bind (wpAny_setField_rec he₄ (by simp) fun h₅ he₅ hs₅ => ?_)
    replace hs₅ : Heap.SameBut e h₄ h₅ := hs₅; replace he₅ : h₅.get? e = some { cls := .type "enumerate", dict := none, data := .fields #[rawInt T, .bool true, .ref it, rawInt ((i : Int) + 1), .none, f5], slots := #[] } := he₅
    refine wpAny_pure ?_
    simp only [Bool.false_eq_true, if_false]; exact wpAny_pure ⟨_, rfl, fin h₅ true he₅ hs₅⟩
theorem en_step {e it : Addr} {fp : List Addr} {n i : Nat} {P : Nat → Value → Prop} {St : Nat → Heap → Prop} {Q : Option Value → Shared → Prop}
    (D : Draws prog w A.in1 it fp n P St) (he : EnS s.heap e it i) (hil : it < s.heap.objs.size) (hst : St i s.heap) (hlt : i < n) (hne : e ≠ it) (hef : e ∉ fp)
    (hQ : ∀ x h' tk, P i x → EnS h' e it ((i : Int) + 1) → St (i + 1) h' → h'.get? s.heap.objs.size = some { cls := .type "tuple", data := .seq #[.int i tk, x] } → h'.objs.size = s.heap.objs.size + 1 →
      (∀ b o, b ≠ e → b ≠ it → s.heap.get? b = some o → h'.get? b = some o) → Q (some (.ref s.heap.objs.size)) { s with heap := h', toks := tk + 1 }) : wpAny (model prog w) A (pyNext (.ref e)) Q E s := by
  rcases he with ⟨old, he⟩ | he
  · refine wpAny_pyNext_enum_itemD D he hst hlt hne hef fun x h' tk a b c d k q => hQ x h' tk a (.inr ⟨s.heap.objs.size, false, x, b, ⟨_, d⟩, Nat.ne_of_gt (Heap.lt_size he), Nat.ne_of_gt hil⟩) c d k q
  · obtain ⟨T, b, f5, hg, r⟩ := id he
    have hT : s.TypeIs (.ref e) "enumerate" := ⟨_, hg, rfl⟩
    unfold pyNext; exact wpAny_bind (wpAny_attempt (wpAny_callSpecial?_slot (name := Str.ofString "__next__") hT F.slot_enumerate_next (wpAny_call_entry F.slot_enumerate_next hT F.entry_enumerate_next
        (enO_next D he hst hlt hne hef fun x h' tk a b c d k q => wpAny_pure (hQ x h' tk a b c d k q)) (F.args_enumerate_next_1 _))))
theorem en_end {e it : Addr} {fp : List Addr} {n : Nat} {P : Nat → Value → Prop} {St : Nat → Heap → Prop} {i : Int} {Q : Option Value → Shared → Prop}
    (D : Draws prog w A.in1 it fp n P St) (he : EnS s.heap e it i) (hst : St n s.heap) (hQ : ∀ h', Heap.ExtBut it s.heap h' → Q none { s with heap := h' }) : wpAny (model prog w) A (pyNext (.ref e)) Q E s := by
  rcases he with ⟨old, he⟩ | ⟨T, b, f5, he, _⟩
  · exact wpAny_pyNext_enum_endD D he hst hQ
  · have hT : s.TypeIs (.ref e) "enumerate" := ⟨_, he, rfl⟩
    unfold pyNext; refine wpAny_bind (wpAny_attempt (wpAny_callSpecial?_slot (name := Str.ofString "__next__") hT F.slot_enumerate_next (wpAny_call_entry F.slot_enumerate_next hT F.entry_enumerate_next ?_ (F.args_enumerate_next_1 _))))
    show wpAny _ _ (field (.ref e) 2 >>= _) _ _ _; refine wpAny_bind (wpAny_field he rfl (x := .ref it) rfl ?_)
    refine wpAny_bind (D.done _ _ _ hst fun h' x he' hx' => ?_); obtain ⟨o, ho, hc⟩ := hx'
    refine wpAny_bind (wpAny_isInstance (T := "StopIteration") (b := true) ⟨o, ho, hc⟩ isSubtype_stop ?_); exact wpAny_pure (hQ _ he')
end
end MP

/-! list(enumerate(x)), x a list: the walk. Own text. -/
namespace MP
open PySem PySem.Spec L2 TL
section
variable {X : Cx} {pins : List (Addr × Obj)} {σ : L2.St}
/-- the steps of the list that fills -/
def EnP (K : PySem.W.Frag) (a q : Addr) (xs : List V) (P : Nat → List V → Hp → Prop) : Prop :=
  ∀ i acc H x, P i acc H → xs[i]? = some x → H q = some (.lst acc) ∧ acc.length < sizeLine ∧ ∀ T, H T = none → P (i + 1) (acc ++ [.ref T]) (upd (upd H T (.tup [.int (i : Nat), x])) q (.lst (acc ++ [.ref T])))
theorem en_loop {a e it q : Addr} {items : List Value} {xs : List V} {A1 : Around} {P : Nat → List V → Hp → Prop} {R : Result → Shared → Prop} (hh : A1.in1.in1.handled = none) (hv : Vals xs items) (hne : e ≠ it) (hqe : q ≠ e) (hqi : q ≠ it) (hqa : q ≠ a) (hae : a ≠ e) (hai : a ≠ it)
    (hP : EnP X.K a q xs P) (hq : ∀ acc H, P xs.length acc H → H q = some (.lst acc))
    (hdone : ∀ acc H s, L2.Inv X pins σ H s → P xs.length acc H → R (.ok (.ret .none)) s) :
    ∀ (k i : Nat) (acc : List V) (H : Hp) (s : Shared), xs.length - i = k → i ≤ xs.length → L2.Inv X pins σ H s → P i acc H → EnS s.heap e it i → s.heap.IsListIter it a i → s.heap.IsList a items.toArray → (∀ b ∈ [e, it], FpOk X pins H b) →
      codeAny (model X.prog X.w) A1 (.builtin "list.extend.loop" ⟨[.ref q, .ref e, .none], []⟩) R s := by
  have hlen : items.toArray.size = xs.length := by rw [List.size_toArray, hv.length]
  intro k
  induction k with
  | zero =>
    intro i acc H s hk hi I hp he hit hl hf
    have hiz : i = xs.length := by omega
    subst hiz
    refine codeAny_builtin PySem.F.entry_extend_loop ?_; rw [Around.under_plainId PySem.F.plain_extend_loop _]
    show wpAny _ A1.in1 (pyNext (.ref e) >>= _) _ _ s
    obtain ⟨f0, f1, f2, f3, f4, f5⟩ := hf it (by simp); refine wpAny_bind (en_end (Draws.list (prog := X.prog) (w := X.w) hh it a hai items.toArray) he ⟨by rw [hlen]; exact hit, hl⟩ fun h' eb => ?_)
    exact wpAny_pure (hdone acc H _ (I.turned (t' := s.toks) (fun b o hb z => eb b o hb z) f0 f1 f3 f4 f5) hp)
  | succ k ih =>
    intro i acc H s hk hi I hp he hit hl hf
    have hlx : i < xs.length := by omega
    obtain ⟨x, hx⟩ : ∃ x, xs[i]? = some x := ⟨_, List.getElem?_eq_getElem hlx⟩
    obtain ⟨u, hu, ru⟩ := hv.get hx
    obtain ⟨g1, g2, g3⟩ := hP i acc H x hp hx
    refine codeAny_builtin PySem.F.entry_extend_loop ?_; rw [Around.under_plainId PySem.F.plain_extend_loop _]
    show wpAny _ A1.in1 (pyNext (.ref e) >>= _) _ _ s
    have hel : e < s.heap.objs.size := by
      rcases he with ⟨old, z⟩ | ⟨T, b, f5, z, _⟩
      · exact Heap.lt_size z
      · exact Heap.lt_size z
    have hil : it < s.heap.objs.size := by obtain ⟨_, z, _⟩ := hit; exact Heap.lt_size z
    have hal : a < s.heap.objs.size := by obtain ⟨_, z, _⟩ := hl; exact Heap.lt_size z
    refine wpAny_bind (en_step (Draws.list (prog := X.prog) (w := X.w) hh it a hai items.toArray) he hil ⟨hit, hl⟩ (by omega) hne (by simp [hne, Ne.symm hae]) fun u' h' tk hPu he' hst hT hsz hkp => ?_)
    have eu : u' = u := by
      have : items.toArray[i]? = some u := by simpa using hu
      rw [this] at hPu
      exact (Option.some.inj hPu).symm
    subst eu
    have hTn : H s.heap.objs.size = none := I.hok.fresh (Nat.le_refl _)
    have new : ObjOk X.prog X.w (upd H s.heap.objs.size (.tup [.int (i : Nat), x])) h' s.heap.objs.size (.tup [.int (i : Nat), x]) :=
      ⟨by show 2 ≤ sizeLine; decide, [.int i tk, u'], .cons ⟨_, rfl⟩ (.cons ru .nil), ⟨_, hT, rfl, _, rfl⟩⟩
    have I1 : L2.Inv X pins σ (upd H s.heap.objs.size (.tup [.int (i : Nat), x])) { s with heap := h', toks := tk + 1 } :=
      I.turnedNew (ch := [e, it]) (fun b oo hb z => hkp b oo (fun y => hb (by simp [y])) (fun y => hb (by simp [y])) z) hf (Nat.le_refl _) new
    have hTq : q ≠ s.heap.objs.size := fun z => by rw [z, hTn] at g1; cases g1
    have g1' : upd H s.heap.objs.size (.tup [.int (i : Nat), x]) q = some (.lst acc) := by rw [upd_ne hTq]; exact g1
    obtain ⟨z, its, n, r2, hl2, e2⟩ := I1.lstM g1'
    show wpAny _ A1.in1 (updateSeq q (·.push (.ref s.heap.objs.size)) >>= _) _ _ _
    have e2' : h'.get? q = some { cls := .type "list", data := .seq its.toArray n } := e2
    refine wpAny_bind (wpAny_updateSeq (s := { s with heap := h', toks := tk + 1 }) e2' rfl (wpAny_pure ⟨plainId_quiet PySem.F.plain_extend_loop _, ?_⟩) (by rw [List.size_toArray]; omega) (by show (its.toArray.push (.ref s.heap.objs.size)).size ≤ sizeLine + 1; rw [Array.size_push, List.size_toArray]; omega))
    have oth : ∀ b o, b ≠ q → h'.get? b = some o → (h'.update q (Obj.mapSeq (·.push (.ref s.heap.objs.size)))).get? b = some o := fun b o hb y => (Heap.get?_update_other _ _ (Ne.symm hb)).trans y
    have I2 := I1.lset (its' := its ++ [.ref s.heap.objs.size]) (ys := acc ++ [.ref s.heap.objs.size]) (f := (·.push (.ref s.heap.objs.size))) (t' := tk + 1) g1' e2' (by simp) (r2.append (.cons (show RelV (V.ref _) (Value.ref _) from rfl) .nil)) (by rw [List.length_append, List.length_singleton]; omega)
    have e1 : ((i + 1 : Nat) : Int) = (i : Int) + 1 := by omega
    refine ih (i + 1) (acc ++ [.ref s.heap.objs.size]) _ _ (by omega) hlx I2 (g3 _ hTn) ?_ ?_ ?_ fun b hb => ?_
    · rw [e1]
      refine he'.keep (fun o y => oth e o (Ne.symm hqe) y) fun b o y => ?_
      by_cases hb : b = q
      · subst hb; exact ⟨_, Heap.get?_update_self _ e2' rfl⟩
      · exact ⟨o, oth b o hb y⟩
    · exact hst.1.at fun o y => oth it o (Ne.symm hqi) y
    · exact hst.2.at fun o y => oth a o (Ne.symm hqa) y
    · have hb' : b < s.heap.objs.size ∧ b ≠ q := by
        have eb : b = e ∨ b = it := by simpa using hb
        rcases eb with z | z
        · rw [z]; exact ⟨hel, Ne.symm hqe⟩
        · rw [z]; exact ⟨hil, Ne.symm hqi⟩
      obtain ⟨f0, f1⟩ := hf b hb
      exact ⟨by rw [upd_ne hb'.2, upd_ne (Nat.ne_of_lt hb'.1)]; exact f0, f1⟩
def tLstEn (K : PySem.W.Frag) (te : TE) : TE := fun σ H Q => te σ H fun x H1 => ∃ a xs, x = .ref a ∧ SqL K H1 a xs ∧ ∀ q, H1 q = none → ∃ P : Nat → List V → Hp → Prop, P 0 [] (upd H1 q (.lst [])) ∧ EnP K a q xs P ∧ ∀ acc H, P xs.length acc H → H q = some (.lst acc) ∧ Q (.ref q) H
theorem call_listEn {a e0 i0 : Addr} {its : List Value} {xs : List V} {s1 : Shared} {H1 : Hp} {Q : VK} (hc : X.calm = true) (I2 : L2.Inv X pins σ H1 s1) (rv : Vals xs its) (he : IsEnum s1.heap e0 i0 0 .none) (hit : s1.heap.IsListIter i0 a 0) (hl' : s1.heap.IsList a its.toArray)
    (hne : e0 ≠ i0) (hae : a ≠ e0) (hai : a ≠ i0) (hfp : ∀ b ∈ [e0, i0], FpOk X pins H1 b)
    (w : ∀ q, H1 q = none → ∃ P : Nat → List V → Hp → Prop, P 0 [] (upd H1 q (.lst [])) ∧ EnP X.K a q xs P ∧ ∀ acc H, P xs.length acc H → H q = some (.lst acc) ∧ Q (.ref q) H) :
    wpAny (model X.prog X.w) X.A (call (.type "list") [.ref e0]) (EP X pins σ Q) X.xe s1 := by
  have hel : e0 < s1.heap.objs.size := Heap.lt_size he
  have hil : i0 < s1.heap.objs.size := by obtain ⟨_, z, _⟩ := hit; exact Heap.lt_size z
  have hal : a < s1.heap.objs.size := by obtain ⟨_, z, _⟩ := hl'; exact Heap.lt_size z
  refine callType_codes (Q₁ := fun obj s₁ => obj = .ref s1.heap.objs.size ∧ s₁ = { s1 with heap := s1.heap.push { cls := .type "list", data := .seq #[] } }) PySem.F.called_list (PySem.F.typeCall_list_1 _) PySem.F.entry_list_init (code_list_new _ ⟨rfl, rfl⟩) fun obj s₁ h₁ => ?_
  obtain ⟨rfl, rfl⟩ := h₁
  have hS : (s1.heap.push { cls := .type "list", data := .seq #[] }).get? s1.heap.objs.size = some { cls := .type "list", data := .seq #[] } := Heap.get?_push_size _ rfl
  refine ⟨⟨_, hS, rfl⟩, PySem.F.args_list_init_2 _ _, ?_⟩; have fr : H1 s1.heap.objs.size = none := I2.hok.fresh (Nat.le_refl _)
  obtain ⟨P, hP0, hP, hPe⟩ := w _ fr
  have I3 : L2.Inv X pins σ (upd H1 s1.heap.objs.size (.lst [])) { s1 with heap := s1.heap.push { cls := .type "list", data := .seq #[] } } := I2.lnew (its := []) (t' := s1.toks) .nil (Nat.zero_le _)
  obtain ⟨q0, hq0⟩ : ∃ q0, q0 = s1.heap.objs.size := ⟨_, rfl⟩
  rw [← hq0] at hS fr hP0 hP hPe I3 ⊢
  have hqe : q0 ≠ e0 := Nat.ne_of_gt (by rw [hq0]; exact hel)
  have hqi : q0 ≠ i0 := Nat.ne_of_gt (by rw [hq0]; exact hil)
  have hqa : q0 ≠ a := Nat.ne_of_gt (by rw [hq0]; exact hal)
  show wpAny _ _ (do let old ← Builtin.List.listItems (.ref q0); Builtin.List.listUpdate (.ref q0) (fun _ => #[]); letGo old.toList.reverse; Builtin.List.listExtendWith (.ref q0) (.ref e0) .none) _ _ _
  refine wpAny_bind ?_
  unfold Builtin.List.listItems
  refine wpAny_bind (wpAny_seqItems hS rfl (wpAny_pure ?_)); show wpAny _ _ (updateSeq q0 (fun _ => #[]) >>= fun _ => letGo (#[] : Array Value).toList.reverse >>= fun _ => Builtin.List.listExtendWith (.ref q0) (.ref e0) .none) _ _ _
  refine wpAny_bind (wpAny_updateSeq hS rfl ?_); have I4 := I3.lset (f := fun _ => #[]) (its := []) (its' := []) (ys := []) (t' := s1.toks) upd_same hS rfl .nil (Nat.zero_le _)
  rw [upd_upd] at I4
  refine wpAny_bind (wpAny_letGo ?_); have k1 : ∀ b o, b ≠ q0 → s1.heap.get? b = some o → ((s1.heap.push { cls := .type "list", data := .seq #[] }).update q0 (Obj.mapSeq fun _ => #[])).get? b = some o := fun b o hb y => (Heap.get?_update_other _ _ (Ne.symm hb)).trans (Heap.get?_push_of_some _ y)
  have he1 : IsEnum ((s1.heap.push { cls := .type "list", data := .seq #[] }).update q0 (Obj.mapSeq fun _ => #[])) e0 i0 0 .none := k1 e0 _ (Ne.symm hqe) he
  have hT : Shared.TypeIs { s1 with heap := (s1.heap.push { cls := .type "list", data := .seq #[] }).update q0 (Obj.mapSeq fun _ => #[]) } (.ref e0) "enumerate" := ⟨_, he1, rfl⟩
  unfold Builtin.List.listExtendWith; refine wpAny_bind (wpAny_typeOf hT ?_)
  have b1 : Builtin.List.listSameRef (.ref q0) (.ref e0) = false := by simp [Builtin.List.listSameRef, hqe]
  have b2 : (Value.type "enumerate" == Value.type "list") = false := by decide
  have b3 : (Value.type "enumerate" == Value.type "tuple") = false := by decide
  simp only [b1, b2, b3, Bool.or_false, Bool.false_eq_true, if_false]
  refine wpAny_bind (wpAny_pyIter_enum he1 ?_)
  refine wpAny_bind (wpAny_holding ?_); unfold Builtin.List.listLengthHint
  refine wpAny_bind (wpAny_specialOf hT en_no_len ?_)
  show wpAny _ _ (specialOf (Value.ref e0) (Str.ofString "__length_hint__") >>= _) _ _ _
  refine wpAny_bind (wpAny_specialOf hT en_no_hint ?_)
  refine wpAny_pure ?_
  show wpAny _ _ (rule "list.extend.makes-room" >>= fun _ => Builtin.List.listTouch (.ref q0) >>= fun _ => again (.builtin "list.extend.loop" ⟨[.ref q0, .ref e0, .none], []⟩)) _ _ _
  refine wpAny_bind (wpAny_rule ?_); refine wpAny_bind ?_
  show wpAny _ _ (updateSeq q0 (·.push .none) >>= fun _ => updateSeq q0 (·.pop)) _ _ _
  obtain ⟨z4, its4, k4, r4, hl4, e4⟩ := I4.lstM upd_same
  cases r4
  refine wpAny_bind (wpAny_updateSeq e4 rfl ?_)
  have I5 := I4.lset (f := (·.push Value.none)) (its' := [Value.none]) (ys := [.non]) (t' := s1.toks) upd_same e4 (by simp) (.cons rfl .nil) (by rw [List.length_singleton, sizeLine_eq]; decide)
  obtain ⟨z6, its6, k6, r6, hl6, e6⟩ := I5.lstM upd_same
  obtain ⟨u6, rfl, ru6⟩ := r6.one
  refine wpAny_updateSeq e6 rfl ?_ (by show 1 ≤ sizeLine; rw [sizeLine_eq]; decide) (by show 0 ≤ sizeLine + 1; exact Nat.zero_le _)
  have I6 := I5.lset (f := (·.pop)) (its := [u6]) (its' := []) (ys := []) (t' := s1.toks) upd_same e6 (by rfl) .nil (Nat.zero_le _)
  rw [upd_upd, upd_upd] at I6
  refine wpAny_pure ⟨plainId_quiet PySem.F.plain_extend_loop _, ?_⟩
  have k2 : ∀ b o, b ≠ q0 → s1.heap.get? b = some o → ((((s1.heap.push { cls := .type "list", data := .seq #[] }).update q0 (Obj.mapSeq fun _ => #[])).update q0 (Obj.mapSeq (·.push Value.none))).update q0 (Obj.mapSeq (·.pop))).get? b = some o := fun b o hb y =>
    (Heap.get?_update_other _ _ (Ne.symm hb)).trans ((Heap.get?_update_other _ _ (Ne.symm hb)).trans (k1 b o hb y))
  refine en_loop (A1 := X.A.in1) (pins := pins) (σ := σ) (X := X) (a := a) (it := i0) (show X.A.in1.in1.in1.handled = none from I2.ok.hd hc) rv hne hqe hqi hqa hae hai hP (fun acc H y => (hPe acc H y).1)
    (fun acc H s2 J y => ⟨rfl, .ref q0, H, J, rfl, (hPe acc H y).2⟩) xs.length 0 [] _ _ rfl (Nat.zero_le _) I6 hP0 (.inl ⟨.none, k2 e0 _ (Ne.symm hqe) he⟩) (hit.at fun o y => k2 i0 o (Ne.symm hqi) y) (hl'.at fun o y => k2 a o (Ne.symm hqa) y) fun b hb => ?_
  obtain ⟨f0, f1⟩ := hfp b hb
  have hbq : b ≠ q0 := by
    have eb : b = e0 ∨ b = i0 := by simpa using hb
    rcases eb with z | z
    · rw [z]; exact Ne.symm hqe
    · rw [z]; exact Ne.symm hqi
  exact ⟨by rw [upd_ne hbq]; exact f0, f1⟩
theorem pe_listEn {e : Expr} {te : TE} {p p2 pos pos2 : Pos} (hc : X.calm = true) (hg : Gl X "list") (hm : X.mg "list" = none) (hg2 : Gl X "enumerate") (hm2 : X.mg "enumerate" = none) (ha : PE X e te)
    (na : starEach [e] X.env = (false, eval e X.env) :: starEach [] X.env := by rfl) (nb : starEach [.Call (.Name "enumerate" p2) [e] [] pos2] X.env = (false, eval (.Call (.Name "enumerate" p2) [e] [] pos2) X.env) :: starEach [] X.env := by rfl) :
    PE X (.Call (.Name "list" p) [.Call (.Name "enumerate" p2) [e] [] pos2] [] pos) (tLstEn X.K te) := by
  refine ⟨fun pins s σ H Q I h => ?_⟩; refine PyProof.Rows.Call_ (ld_blt I hg hm PyProof.Rows.boot_list (PyProof.Rows.callWith_type1 (PyProof.Rows.args_cons (PyProof.Rows.Call_ (ld_blt I hg2 hm2 PyProof.Rows.boot_enumerate (PyProof.Rows.callWith_type1 (one_arg ha I h (fun v s1 x H1 I1 r q => ?_) na) na))) nb) nb))
  obtain ⟨a, xs, rfl, hq, w⟩ := q
  obtain rfl : v = Value.ref a := r
  obtain ⟨its, rv, p', hz⟩ := I1.list hq; have hal : a < s1.heap.objs.size := by obtain ⟨_, z, _⟩ := p'.isList; exact Heap.lt_size z
  refine call_enumerate_list p'.isList fun h' he hit hsz hk => PyProof.Rows.args_nil ?_
  have I2 : L2.Inv X pins σ H1 { s1 with heap := h' } := I1.kept (t' := s1.toks) hk
  exact call_listEn hc I2 rv he hit (p'.isList.at fun o z => hk a o z) (Nat.succ_ne_self _) (Nat.ne_of_lt (Nat.lt_succ_of_lt hal)) (Nat.ne_of_lt hal) (fun b hb => by
    have eb : b = s1.heap.objs.size + 1 ∨ b = s1.heap.objs.size := by simpa using hb
    have hge : s1.heap.objs.size ≤ b := by
      rcases eb with z | z
      · rw [z]; exact Nat.le_succ _
      · rw [z]; exact Nat.le_refl _
    exact I1.fpOk hge (I1.hok.fresh hge)) w
end
section
variable {X : Cx} {C : MP.Tab} {W : Wx} {e : Expr} {m : ME} {p p2 pos pos2 : Pos}
theorem gl_enum (hc : X.calm = true) (hm : X.mg "list" = none) (hm2 : X.mg "enumerate" = none) (h : GE X C W e m) (hg : Gl X "list" := by rfl) (hg2 : Gl X "enumerate" := by rfl) (na : starEach [e] X.env = (false, eval e X.env) :: starEach [] X.env := by rfl)
    (nb : starEach [.Call (.Name "enumerate" p2) [e] [] pos2] X.env = (false, eval (.Call (.Name "enumerate" p2) [e] [] pos2) X.env) :: starEach [] X.env := by rfl) :
    GL X C W (.Call (.Name "list" p) [.Call (.Name "enumerate" p2) [e] [] pos2] [] pos) (lEnum m) := PE.imp (pe_listEn hc hg hm hg2 hm2 h na nb) fun σ H Q ⟨q0, q, env, s, eq, E, L, p⟩ => by
  subst eq
  refine tM.first0 (f := fun x s1 => enumAt x s1) E L p fun x s1 vx q1 x1 L1 y1 p1 => ?_
  unfold enumAt at p1
  cases y1 with
  | @lst a vs ds g r =>
    simp only at p1
    by_cases hl : ds.length ≤ cap
    · rw [if_pos hl] at p1
      refine ⟨a, vs, rfl, SqL.of g.1, fun l hn => ?_⟩
      have hfr : Fr q l := x1.free L.wf hn fun z => by
        obtain ⟨t, e⟩ := x1.pre
        exact L1.wf.nor hn (by rw [e]; exact List.mem_append_left _ z)
      refine ⟨fun i acc H => ∃ q', H = q'.H ∧ Ext q q' ∧ Kp q1 q' ∧ Rel X.K C s1 q' ∧ q'.H l = some (.lst acc) ∧ q'.L l ∧ l ∉ q'.r ∧ acc.length = i ∧ RDs X.K q' ((ds.mapIdx fun i d => D.tup [.int i, d]).take i) acc,
        ⟨_, rfl, x1.trans (Ext.newL L1.wf hn), (Ext.newL L1.wf hn).kp, L1.newL hn, upd_same, .inr rfl, L1.wf.nor hn, rfl, by simp; exact .nil⟩, fun i acc H x ⟨q', e1, X1, K1, R1, h1, h2, h3, h4, h5⟩ hx => ?_, fun acc H ⟨q', e1, X1, K1, R1, h1, h2, h3, h4, h5⟩ => ?_⟩
      · subst e1
        have hi : i < ds.length := by
          have := (List.getElem?_eq_some_iff.mp hx).1
          rw [r.length] at this
          exact this
        refine ⟨h1, by rw [h4]; exact Nat.lt_of_lt_of_le (show i < cap by omega) (lenS (Nat.le_refl _)), fun T hT => ?_⟩
        have X2 := Ext.new1 (o := .tup [.int (i : Nat), x]) R1.wf hT
        have R2 := R1.new1 (o := .tup [.int (i : Nat), x]) hT
        have h1' : (upd q'.H T (.tup [.int (i : Nat), x])) l = some (.lst acc) := by rw [upd_ne (ne_of_none h1 hT)]; exact h1
        have kw : Kp ⟨upd q'.H T (.tup [.int (i : Nat), x]), q'.L, q'.r⟩ ⟨upd (upd q'.H T (.tup [.int (i : Nat), x])) l (.lst (acc ++ [.ref T])), q'.L, q'.r⟩ := Kp.wr h2
        have hd : ds[i]? = some ds[i] := List.getElem?_eq_getElem hi
        obtain ⟨v, g1, g2⟩ := RDs.get (RDs.mono K1 _ r) hd
        rw [hx] at g1
        cases g1
        refine ⟨_, rfl, (X1.trans X2).own hfr, ((K1.trans X2.kp).own (Fr.of hn)), R2.wr h2 h3 h1' (fun _ z => nomatch z) (fun _ z => nomatch z), upd_same, h2, h3, by simp [h4], ?_⟩
        rw [List.take_add_one, List.getElem?_mapIdx, hd]
        refine (RDs.mono (X2.kp.trans kw) _ h5).append (.cons (RD.mono kw _ (.tup (.inl ⟨upd_same, R1.wf.no hT⟩) (.cons (.int _) (.cons (RD.mono X2.kp _ g2) .nil)))) .nil)
      · subst e1
        refine ⟨h1, p1 _ q' X1 R1 ⟨l, acc, rfl, hfr, h1, h2, h3, ?_⟩⟩
        have e : (ds.mapIdx fun i d => D.tup [.int i, d]).take vs.length = ds.mapIdx fun i d => D.tup [.int i, d] := by
          rw [r.length]; exact List.take_of_length_le (by simp)
        rw [← e]
        exact h5
    · rw [if_neg hl] at p1; exact p1.elim
  | _ => exact p1.elim
end
end MP

/-! Defaults that are objects; lists of related values by places. Own text. -/
namespace MP
open PySem L2 TL
/-- where a keyword's default lies, if it is an object -/
def kdAt (f : Str × Option Str) (x : Str) (K : PySem.W.Frag) : Addr := match K.lookup (He.fAd K f) with
  | some ⟨_, _, .func fd, _⟩ => (match fd.kwdefaults with
    | .ref D => (match PySem.W.nsIn K D x with
      | some (some (.ref a)) => a
      | _ => 0)
    | _ => 0)
  | _ => 0
theorem kdq_ok {K : PySem.W.Frag} {a : Addr} {n : Nat} {d : D} (h : KVal K n (.ref a) d = true) (q : Stt) : RD K q d (V.ref a) := by
  obtain ⟨v, r, hq⟩ := kval n _ _ h
  cases v with
  | ref b => cases r; exact hq q
  | _ => first | (cases r; done) | (obtain ⟨t, r⟩ := r; cases r; done)
theorem rds4 {K : PySem.W.Frag} {q : Stt} {x0 x1 x2 x3 : D} {vs : List V} (r : RDs K q [x0, x1, x2, x3] vs) : ∃ v0 v1 v2 v3, vs = [v0, v1, v2, v3] ∧ RD K q x0 v0 ∧ RD K q x1 v1 ∧ RD K q x2 v2 ∧ RD K q x3 v3 := by
  cases r with
  | cons a r => obtain ⟨v1, v2, v3, rfl, b, c, d⟩ := rds3 r; exact ⟨_, v1, v2, v3, rfl, a, b, c, d⟩
theorem rds5 {K : PySem.W.Frag} {q : Stt} {x0 x1 x2 x3 x4 : D} {vs : List V} (r : RDs K q [x0, x1, x2, x3, x4] vs) : ∃ v0 v1 v2 v3 v4, vs = [v0, v1, v2, v3, v4] ∧ RD K q x0 v0 ∧ RD K q x1 v1 ∧ RD K q x2 v2 ∧ RD K q x3 v3 ∧ RD K q x4 v4 := by
  cases r with
  | cons a r => obtain ⟨v1, v2, v3, v4, rfl, b, c, d, e⟩ := rds4 r; exact ⟨_, v1, v2, v3, v4, rfl, a, b, c, d, e⟩
end MP

/-! set(x) of a list of numbers or of truth values. Own text. -/
namespace MP
open PySem L2 TL
/-- what sets of a sort of members must bring along -/
structure SetSort (P : Program) (w : World) {α : Type} [DecidableEq α] (SR : Heap → Addr → (α → Bool) → Nat → Prop) (isV : α → Value → Prop) : Prop where
  keep : ∀ {h h' : Heap} {a : Addr} {S : α → Bool} {n : Nat}, SR h a S n → (∀ o, h.get? a = some o → h'.get? a = some o) → SR h' a S n
  congr : ∀ {h : Heap} {a : Addr} {S S' : α → Bool} {n : Nat}, SR h a S n → (∀ k, S' k = S k) → SR h a S' n
  fresh : ∀ {h : Heap} {a : Addr}, h.get? a = some { cls := .type "set", dict := none, data := .set #[] 0 (.fresh 0 0 (!w.params.followText "set-order")) } → SR h a (fun _ => false) 0
  add : ∀ {A : Around} {E : Value → Shared → Prop} {s : Shared} {D : Addr} {S : α → Bool} {n : Nat} {z : α} {v : Value} {Q : Bool → Shared → Prop}, isV z v → SR s.heap D S n → n + 1 < scanBound →
    (∀ (b : Bool) (h' : Heap) (tk : Nat), Heap.SameBut D s.heap h' → s.toks ≤ tk → SR h' D (fun j => S j || decide (j = z)) (if S z = true then n else n + 1) → Q b { s with heap := h', toks := tk }) →
    wpAny (model P w) A (setAdd D v) Q E s
section
variable {P : Program} {w : World} {α : Type} [DecidableEq α] {SR : Heap → Addr → (α → Bool) → Nat → Prop} {isV : α → Value → Prop}
theorem set_update_g (Z : SetSort P w SR isV) {A : Around} {I : Addr} {fp wr : List Addr} {G : Array GenState → Array GenState → Prop} {n : Nat} {Pv : Nat → Value → Prop} {St : Nat → Shared → Prop} {R : Result → Shared → Prop}
    (W : WalksS P w A.in1 I fp wr G n Pv St) (D : Addr) (hSf : D ∉ fp) (ns : List α) (hn : n = ns.length) (hb : ns.length + 1 < scanBound) (hval : ∀ i v, Pv i v → ∃ k, ns[i]? = some k ∧ isV k v) :
    ∀ (k i : Nat) (s : Shared), n - i = k → i ≤ n → St i s → (∃ l : List α, l.length ≤ i ∧ l.Nodup ∧ (∀ z, z ∈ l ↔ z ∈ ns.take i) ∧ SR s.heap D (fun j => decide (j ∈ ns.take i)) l.length) →
      (∀ s' (l : List α), Moved (D :: wr) G s s' → l.length ≤ n → l.Nodup → (∀ z, z ∈ l ↔ z ∈ ns) → SR s'.heap D (fun j => decide (j ∈ ns)) l.length → R (.ok (.ret .none)) s') →
      codeAny (model P w) A (.builtin "set.update.loop" ⟨[.ref D, .ref I], []⟩) R s := by
  have hDw : D ∉ wr := fun h => hSf (W.sub _ h)
  have hin : ∀ b ∈ wr, b ∈ D :: wr := fun b hb => List.mem_cons_of_mem _ hb
  intro k
  induction k with
  | zero =>
    intro i s hk hi hst ⟨l, hc, hnd, hmm, hS⟩ hR
    have hie : i = n := by omega
    subst hie
    refine codeAny_builtin PyProof.Rows.F.entry_set_update_loop ?_; rw [Around.under_plainId PyProof.Rows.F.plain_set_update_loop _]
    show wpAny _ A.in1 (pyNext (.ref I) >>= _) _ _ s; refine wpAny_bind (W.done s _ _ hst fun s' hm => ?_)
    show wpAny _ A.in1 (ret Value.none) _ _ s'; have e : ns.take i = ns := List.take_of_length_le (by omega)
    rw [e] at hS hmm
    exact wpAny_pure (hR s' l (hm.mono hin) hc hnd hmm (Z.keep hS fun o e => hm.heap D o hDw e))
  | succ k ih =>
    intro i s hk hi hst ⟨l, hc, hnd, hmm, hS⟩ hR
    have hlt : i < n := by omega
    refine codeAny_builtin PyProof.Rows.F.entry_set_update_loop ?_; rw [Around.under_plainId PyProof.Rows.F.plain_set_update_loop _]
    show wpAny _ A.in1 (pyNext (.ref I) >>= _) _ _ s; refine wpAny_bind (W.item i s _ _ hlt hst fun v s' hP hst' hm => ?_)
    obtain ⟨z, hz, hv⟩ := hval i v hP
    have hS1 : SR s'.heap D (fun j => decide (j ∈ ns.take i)) l.length := Z.keep hS fun o e => hm.heap D o hDw e
    show wpAny _ A.in1 (holding [v] (setAdd D v) >>= _) _ _ s'
    refine wpAny_bind (wpAny_holding (Z.add hv hS1 (by omega) fun b h' tk hsb htk hS2 => ?_))
    have hS3 : SR h' D (fun j => decide (j ∈ ns.take (i + 1))) (if decide (z ∈ ns.take i) = true then l.length else l.length + 1) := Z.congr hS2 fun j => by
      rw [List.take_add_one, hz]
      simp [List.mem_append]
    have ht : ns.take (i + 1) = ns.take i ++ [z] := by rw [List.take_add_one, hz]; rfl
    have hl3 : ∃ l' : List α, l'.length = (if decide (z ∈ ns.take i) = true then l.length else l.length + 1) ∧ l'.length ≤ i + 1 ∧ l'.Nodup ∧ ∀ y, y ∈ l' ↔ y ∈ ns.take (i + 1) := by
      rw [ht]
      by_cases hq : z ∈ ns.take i
      · refine ⟨l, by simp [hq], by omega, hnd, fun y => ?_⟩
        rw [List.mem_append, hmm, List.mem_singleton]
        exact ⟨.inl, fun h => h.elim id fun e => e ▸ hq⟩
      · refine ⟨z :: l, by simp [hq], by simp only [List.length_cons]; omega, List.nodup_cons.mpr ⟨fun h => hq ((hmm z).mp h), hnd⟩, fun y => ?_⟩
        rw [List.mem_append, List.mem_cons, hmm, List.mem_singleton]
        exact Or.comm
    obtain ⟨l', hl', hc3, hnd', hmm'⟩ := hl3
    rw [← hl'] at hS3
    refine wpAny_pure ⟨plainId_quiet PyProof.Rows.F.plain_set_update_loop _, ih (i + 1) _ (by omega) hlt (W.frame _ s' _ _ hst' htk fun b hb o e => ?_) ⟨l', hc3, hnd', hmm', hS3⟩ fun s'' l2 hm2 hc2 hd2 hmm2 hS4 => ?_⟩
    · rw [hsb.2 b (fun h : b = D => hSf (by rw [← h]; exact hb))]; exact e
    · refine hR s'' l2 (Moved.trans W.gtrans ((hm.mono hin).then_heap htk fun b o hb e => ?_) hm2) hc2 hd2 hmm2 hS4
      rw [hsb.2 b (fun h : b = D => hb (by rw [h]; exact List.mem_cons_self))]; exact e
set_option maxHeartbeats 9000000 in
theorem call_set_g (Z : SetSort P w SR isV) {A : Around} {E : Value → Shared → Prop} {s : Shared} {l : Addr} {items : Array Value} (ns : List α) {Q : Value → Shared → Prop} (hh : A.handled = none) (hl : s.heap.IsList l items) (hz0 : items.size = ns.length)
    (hit : ∀ (i : Nat) (v : Value), items[i]? = some v → ∃ k, ns[i]? = some k ∧ isV k v) (hb : ns.length + 1 < scanBound)
    (h : ∀ (h' : Heap) (tk : Nat) (u : List α), u.Nodup → (∀ z, z ∈ u ↔ z ∈ ns) → u.length ≤ ns.length → SR h' s.heap.objs.size (fun j => decide (j ∈ ns)) u.length → (∀ b o, s.heap.get? b = some o → h'.get? b = some o) → Q (.ref s.heap.objs.size) { s with heap := h', toks := tk }) : wpAny (model P w) A (call (.type "set") [.ref l]) Q E s := by
  obtain ⟨c, tl, hmro⟩ := PySem.F.called_set.mro; have hmade := PySem.F.called_set.made
  have hsub := PySem.F.called_set.sub; refine wpAny_call (codeAny_of_tree ?_)
  show wpAny _ _ (callAny (.type "set") _) _ _ _; refine wpAny_pure ⟨Code.quiet_builtin _ (by decide +kernel), codeAny_builtin PySem.F.entry_type_call ?_⟩
  rw [Around.under_plain (weight_type_call_type "set" [.ref l] []) rfl]; have h1 := PySem.F.called_set.notType
  have h2 := PySem.F.called_set.canCreate; have hct := PySem.F.typeCall_set_1 (.ref l); repeat (any_goals (first | assumption | wp_step))

  refine codeAny_mono (code_set_led1 (.ref l) (E := E) (Q₁ := fun obj s₁ => obj = .ref s.heap.objs.size ∧ s₁ = { s with heap := s.heap.push { cls := .type "set", dict := none, data := .set #[] 0 (.fresh 0 0 (!w.params.followText "set-order")) } }) ⟨rfl, rfl⟩) fun r s₁ hr => ?_; cases r with
  | error e => exact hr
  | ok fl =>
    cases fl with
    | ret obj =>
      obtain ⟨rfl, rfl⟩ := hr
      have hSz : (s.heap.push { cls := .type "set", dict := none, data := .set #[] 0 (.fresh 0 0 (!w.params.followText "set-order")) }).get? s.heap.objs.size = some { cls := .type "set", dict := none, data := .set #[] 0 (.fresh 0 0 (!w.params.followText "set-order")) } := Heap.get?_push_size _ rfl
      have hT : Shared.TypeIs { s with heap := s.heap.push { cls := .type "set", dict := none, data := .set #[] 0 (.fresh 0 0 (!w.params.followText "set-order")) } } (.ref s.heap.objs.size) "set" := ⟨_, hSz, rfl⟩
      have hli := PySem.F.called_set.init.lookup; have hbi := PySem.F.called_set.init.bind (.ref s.heap.objs.size); repeat (any_goals (first | assumption | wp_step))

      refine codeAny_mono (codeAny_call_builtin (R := wants (fun r s₂ => r = .none ∧ ∃ (h' : Heap) (tk : Nat) (u : List α), s₂ = { s with heap := h', toks := tk } ∧ u.Nodup ∧ (∀ z, z ∈ u ↔ z ∈ ns) ∧ u.length ≤ ns.length ∧ SR h' s.heap.objs.size (fun j => decide (j ∈ ns)) u.length ∧
          (∀ b o, s.heap.get? b = some o → h'.get? b = some o)) E) PySem.F.called_set.init.plain PySem.F.entry_set_init (check_set_init_1 hT ?_)) fun r₂ s₂ hr₂ => ?_
      · obtain ⟨ol, hobj, hcls, nl, hdat⟩ := hl
        obtain ⟨ocls, odict, odata, oslots⟩ := ol; simp only at hcls hdat
        subst hcls; subst hdat
        have hobj' : (s.heap.push { cls := .type "set", dict := none, data := .set #[] 0 (.fresh 0 0 (!w.params.followText "set-order")) }).get? l = some { cls := .type "list", dict := odict, data := .seq items nl, slots := oslots } := Heap.get?_push_of_some _ hobj
        have hsls := PySem.F.sub_list_set; have hslf := PySem.F.sub_list_frozenset
        have hnd : (Value.type "list" == Value.type "dict") = false := by decide
        have hl2 : (s.heap.push { cls := .type "set", dict := none, data := .set #[] 0 (.fresh 0 0 (!w.params.followText "set-order")) }).IsList l items := ⟨_, hobj', rfl, nl, rfl⟩
        unfold Builtin.«set.__init__» noKeywords Builtin.Frozenset.updateFrom; generalize hPI : pyIter = PI
        wp_walk
        subst hPI

        refine wpAny_pyIter_list hl2 ?_
        refine wpAny_bind (wpAny_runValue ?_); have hlT : l < s.heap.objs.size := Heap.lt_size hobj
        have hh4 : A.in1.in1.in1.handled = none := by simp [hh]
        have hneJ : l ≠ (s.heap.push { cls := .type "set", dict := none, data := .set #[] 0 (.fresh 0 0 (!w.params.followText "set-order")) }).objs.size := by
          rw [Heap.size_push]; exact Nat.ne_of_lt (Nat.lt_succ_of_lt hlT)
        have hSn : s.heap.objs.size ∉ [(s.heap.push { cls := .type "set", dict := none, data := .set #[] 0 (.fresh 0 0 (!w.params.followText "set-order")) }).objs.size, l] := by
          rw [Heap.size_push]; simp only [List.mem_cons, List.mem_singleton, List.not_mem_nil, or_false, not_or]; exact ⟨Nat.ne_of_lt (Nat.lt_succ_self _), Nat.ne_of_gt hlT⟩
        refine set_update_g Z ((Walks.list hh4 _ l hneJ items).toS) s.heap.objs.size
          hSn ns hz0 hb hit (items.size - 0) 0 _ (by omega) (Nat.zero_le _)
          ⟨⟨_, Heap.get?_push_size _ rfl, rfl, rfl⟩, (hl2.push _)⟩ ?hZ0 ?hR
        case hZ0 =>
          have hgt : ((s.heap.push { cls := .type "set", dict := none, data := .set #[] 0 (.fresh 0 0 (!w.params.followText "set-order")) }).push { cls := .type "list_iterator", data := .fields #[.ref l, .int 0 0] }).get? s.heap.objs.size
              = some { cls := .type "set", dict := none, data := .set #[] 0 (.fresh 0 0 (!w.params.followText "set-order")) } := Heap.get?_push_of_some _ hSz
          exact ⟨[], Nat.le_refl 0, List.nodup_nil, by simp, Z.congr (Z.fresh hgt) fun k => by simp⟩
        case hR =>
          intro s' u' hm hc' hd' hmm' hSz'
          obtain ⟨h', g2, d', tk', os'⟩ := s'; have eg : g2 = s.gens := hm.gens
          have ed : d' = s.drawn := hm.drawn; have eo : os' = s.os := hm.os
          subst eg; subst ed; subst eo
          show wpAny _ _ _ _ _ _
          refine wpAny_pure ?_
          show wpAny _ _ (ret Value.none) _ _ _; rw [hz0] at hc'
          refine wpAny_pure ⟨rfl, h', tk', u', rfl, hd', hmm', hc', hSz', fun b o e => ?_⟩
          have hba : b < s.heap.objs.size := Heap.lt_size e
          have hbc : b ≠ s.heap.objs.size := Nat.ne_of_lt hba
          have hbb : b ≠ (s.heap.push { cls := .type "set", dict := none, data := .set #[] 0 (.fresh 0 0 (!w.params.followText "set-order")) }).objs.size := by
            rw [Heap.size_push]; exact Nat.ne_of_lt (Nat.lt_succ_of_lt hba)
          exact hm.heap b o (by simp only [List.mem_cons, List.mem_singleton, List.not_mem_nil, or_false, not_or]; exact ⟨hbc, hbb⟩) (Heap.get?_push_of_some _ (Heap.get?_push_of_some _ e))

      · cases r₂ with
        | error e => exact hr₂
        | ok fl₂ =>
          cases fl₂ with
          | ret r =>
            obtain ⟨rfl, h', tk, u', rfl, hd', hmm', hc', hSz', hk'⟩ := hr₂
            (repeat (any_goals (first | assumption | wp_step)))
            exact h _ _ _ hd' hmm' hc' hSz' hk'
          | _ => exact hr₂.elim
    | _ => exact hr.elim
end
end MP

/-! Rules for books: sets of lists, dicts written, three names at once, dicts compared. Own text. -/
namespace MP
open PySem L2 TL
/-! ### sets of numbers, of truth values -/
def isIV (k : Int) (v : Value) : Prop := ∃ t, v = .int k t
def isBV (k : Bool) (v : Value) : Prop := v = .bool k
theorem fresh_led (w : World) : w.params.followText "set-order" = true ∨ (SetTable.fresh 0 0 (!w.params.followText "set-order")).led = true := by
  cases w.params.followText "set-order" <;> first | exact .inr rfl | exact .inl rfl
theorem sortI (P : Program) (w : World) : SetSort P w (SetR w) isIV where
  keep := fun R k => R.at k
  congr := fun R e => R.congr e
  fresh := fun hg => ⟨_, #[], 0, _, hg, ⟨rfl, rfl, rfl⟩, rfl, (fun e he => by simp at he), (by simp), (fun k => by simp), (by decide), (by rfl), rfl, List.Pairwise.nil, fresh_led w⟩
  add := fun hv R room hQ => by
    obtain ⟨t, rfl⟩ := hv
    unfold setAdd
    refine wpAny_holding ?_
    refine wpAny_bind ((intKind P w).pyHash (intKind_is P w _ t) ?_)
    exact setR_add_hashed R room fun h' sb r => hQ _ h' _ sb (Nat.le_succ _) r
theorem sortB (P : Program) (w : World) : SetSort P w (PpSet.SetB w) isBV where
  keep := fun R k => R.at k
  congr := fun R e => R.congr e
  fresh := fun hg => ⟨_, #[], 0, _, hg, ⟨rfl, rfl, rfl⟩, rfl, (fun e he => by simp at he), (by simp), (fun k => by simp), (by decide), (by rfl), rfl, List.Pairwise.nil, fresh_led w⟩
  add := fun hv R room hQ => by
    cases hv
    unfold setAdd
    refine wpAny_holding ?_
    refine wpAny_bind ((PpSet.boolK P w).pyHash (PpSet.boolK_is P w _) ?_)
    exact PpSet.setB_add_hashed R room fun h' sb r => hQ _ h' _ sb (Nat.le_succ _) r
theorem vals_getU : ∀ {vs : List V} {us : List Value} {i : Nat} {u : Value}, Vals vs us → us[i]? = some u → ∃ v, vs[i]? = some v ∧ RelV v u
  | _, _, _, _, .nil, z => by simp at z
  | _, _, 0, _, .cons a b, e => ⟨_, rfl, by
    rw [List.getElem?_cons_zero] at e
    cases e
    exact a⟩
  | _, _, i + 1, _, .cons a b, e => by
    rw [List.getElem?_cons_succ] at e
    obtain ⟨v, h1, h2⟩ := vals_getU b e
    exact ⟨v, by rw [List.getElem?_cons_succ]; exact h1, h2⟩
section
variable {X : Cx}
def rSetL (K : PySem.W.Frag) (w : World) : List V → Hp → VK → Prop := fun xs H Q => ∃ (a : Addr) (ns : List Int), xs = [.ref a] ∧ SqL K H a (ns.map V.int) ∧ ns.length + 1 < scanBound ∧
  ∀ (p : Addr) (u : List Int), H p = none → u.Nodup → (∀ z, z ∈ u ↔ z ∈ ns) → Q (.ref p) (upd H p (SetO w p (fun j => decide (j ∈ ns)) u.length))
theorem call_setL (hc : X.calm = true) : CallR X (.type "set") (rSetL X.K X.w) := by
  intro pins s σ H xs us Q I r h; obtain ⟨a, ns, rfl, hs, hb, q⟩ := h
  obtain rfl := Vals.ref1 r
  obtain ⟨its, rv, p', hz⟩ := I.list hs
  refine call_set_g (sortI X.prog X.w) ns (I.ok.hd hc) p'.isList (by rw [vals_size rv, List.length_map]) (fun i v e => ?_) hb fun h' tk u u1 u2 u3 R kp => ?_
  · obtain ⟨x, h1, h2⟩ := vals_getU rv (show its[i]? = some v by simpa using e)
    rw [List.getElem?_map] at h1
    cases h3 : ns[i]? with
    | none => rw [h3] at h1; cases h1
    | some k =>
      rw [h3] at h1
      cases h1
      exact ⟨k, rfl, h2⟩
  · exact ⟨.ref s.heap.objs.size, _, I.laid (t' := tk) kp (Nat.le_refl _) (setO_new R), rfl, q _ u (I.hok.fresh (Nat.le_refl _)) u1 u2⟩
def rSetB (K : PySem.W.Frag) (w : World) : List V → Hp → VK → Prop := fun xs H Q => ∃ (a : Addr) (ns : List Bool), xs = [.ref a] ∧ SqL K H a (ns.map V.bl) ∧ ns.length + 1 < scanBound ∧
  ∀ (p : Addr) (u : List Bool), H p = none → u.Nodup → (∀ z, z ∈ u ↔ z ∈ ns) → Q (.ref p) (upd H p (PpSet.SetBO w p (fun j => decide (j ∈ ns)) u.length))
theorem call_setB (hc : X.calm = true) : CallR X (.type "set") (rSetB X.K X.w) := by
  intro pins s σ H xs us Q I r h; obtain ⟨a, ns, rfl, hs, hb, q⟩ := h
  obtain rfl := Vals.ref1 r
  obtain ⟨its, rv, p', hz⟩ := I.list hs
  refine call_set_g (sortB X.prog X.w) ns (I.ok.hd hc) p'.isList (by rw [vals_size rv, List.length_map]) (fun i v e => ?_) hb fun h' tk u u1 u2 u3 R kp => ?_
  · obtain ⟨x, h1, h2⟩ := vals_getU rv (show its[i]? = some v by simpa using e)
    rw [List.getElem?_map] at h1
    cases h3 : ns[i]? with
    | none => rw [h3] at h1; cases h1
    | some k =>
      rw [h3] at h1
      cases h1
      exact ⟨k, rfl, h2⟩
  · exact ⟨.ref s.heap.objs.size, _, I.laid (t' := tk) kp (Nat.le_refl _) (PpSet.setBO_new R), rfl, q _ u (I.hok.fresh (Nat.le_refl _)) u1 u2⟩
theorem call_lenB : CallR X (.builtin "len") (fun xs H Q => ∃ (a : Addr) (S : Bool → Bool) (n : Nat), xs = [.ref a] ∧ H a = some (PpSet.SetBO X.w a S n) ∧ Q (.int n) H) := by
  intro pins s σ H xs us Q I r h; obtain ⟨a, S, n, rfl, ha, q⟩ := h
  obtain rfl := Vals.ref1 r
  obtain ⟨o, es, ep, t, ho, hex, hd, g, nd, hm, hb, hf, hn, hr, hl⟩ := PpSet.setBO_get I ha
  subst hn
  have hb' : es.size < 4096 := hb
  exact call_len_set ho hex hd hf (by omega) ⟨.int es.size, H, I.tok _, ⟨_, rfl⟩, q⟩
end
/-- as many as are told apart -/
theorem nodup_len {α : Type} [DecidableEq α] : ∀ {a b : List α}, a.Nodup → b.Nodup → (∀ z, z ∈ a ↔ z ∈ b) → a.length = b.length := by
  intro a b ha hb h
  exact ((List.perm_ext_iff_of_nodup ha hb).mpr h).length_eq
theorem inc_nodup {a : List Int} (h : a.Pairwise (· < ·)) : a.Nodup := h.imp fun z e => by omega
theorem intsOf_keys {K : PySem.W.Frag} {q : Stt} : ∀ {kvs : List (D × D)} {ks : List (Key × V)} {ns : List Int}, RK K q kvs ks → intsOf (kvs.map (·.1)) = some ns → ks.map (·.1) = ns.map Sum.inl
  | _, _, _, .nil, e => by cases e; rfl
  | _, _, _, .cons (k := k) (fs := fs) hk r t, e => by
    rw [List.map_cons] at e
    cases k with
    | int i =>
      cases hk
      simp only [intsOf] at e
      cases h : intsOf (fs.map (·.1)) with
      | none => rw [h] at e; cases e
      | some ms =>
        rw [h] at e
        cases e
        rw [List.map_cons, List.map_cons, intsOf_keys t h]
    | _ => simp [intsOf] at e
theorem boolsOf_vals {K : PySem.W.Frag} {q : Stt} : ∀ {ds : List D} {vs : List V} {ns : List Bool}, RDs K q ds vs → boolsOf ds = some ns → vs = ns.map V.bl
  | [], _, _, h, e => by cases e; cases h; rfl
  | d :: ds, _, _, h, e => by
    cases h with
    | cons a b =>
      cases d with
      | bl i =>
        cases a
        simp only [boolsOf] at e
        cases g : boolsOf ds with
        | none => rw [g] at e; cases e
        | some ms =>
          rw [g] at e
          cases e
          rw [List.map_cons, boolsOf_vals b g]
      | _ => simp [boolsOf] at e
section
variable {X : Cx} {C : Tab} {W : Wx} {pos p p2 p3 apos tpos cpos : Pos} {tg e a b c o f i : Expr} {es elts : List Expr} {m ma mb mc mo mf mi mz : ME} {st : Stmt} {x : Str}
theorem gl_srtL (hc : X.calm = true) (hm : X.mg "sorted" = none) (hm2 : X.mg "set" = none) (h : GE X C W e m) (hg : Gl X "sorted" := by rfl) (hg2 : Gl X "set" := by rfl)
    (hs1 : starEach [e] X.env = (false, eval e X.env) :: starEach [] X.env := by rfl) (hs2 : starEach [.Call (.Name "set" p2) [e] [] p3] X.env = (false, eval (.Call (.Name "set" p2) [e] [] p3) X.env) :: starEach [] X.env := by rfl) :
    GL X C W (.Call (.Name "sorted" p) [.Call (.Name "set" p2) [e] [] p3] [] pos) (lSrtL m) := PE.imp (pe_callB (cr_sortedSet hc) hg hm (by decide +kernel) (pa_cons (pe_callTy (call_setL hc) hg2 hm2 (by decide +kernel) (pa_cons h pa_nil hs1) (he := hs1)) pa_nil hs2) (he := hs2)) fun σ H Q ⟨q0, q, env, s, eq, E, L, p⟩ => by
  subst eq
  refine tM.first0 (f := fun x s1 => setLAt x s1) E L p fun x s1 vx q1 x1 L1 y1 p1 => ?_
  unfold setLAt at p1
  cases y1 with
  | @lst a vs ds g r =>
    simp only at p1
    cases e1 : intsOf ds with
    | none => rw [e1] at p1; exact p1.elim
    | some ns =>
      rw [e1] at p1
      simp only at p1
      by_cases hl : ns.length < 1000 ∧ (sortU ns).length < 64
      · rw [if_pos hl] at p1
        obtain rfl := intsOf_vals r e1
        refine ⟨a, ns, rfl, SqL.of g.1, by show ns.length + 1 < 4096; omega, fun p u hp u1 u2 => ?_⟩
        have eu : u.length = (sortU ns).length := nodup_len u1 (inc_nodup sortU_inc) fun z => by rw [u2, sortU_mem]
        refine ⟨p, _, u.length, rfl, upd_same, by rw [eu]; exact hl.2, fun ms p2 hpw hmem hlen hp2 => ?_⟩
        have em : ms = sortU ns := inc_ext hpw sortU_inc fun k => by rw [hmem, sortU_mem]; simp
        subst em
        have R2 := L1.new1 (o := SetO X.w p (fun j => decide (j ∈ ns)) u.length) hp (fun _ z => nomatch z)
        have X2 := x1.trans (Ext.new1 (o := SetO X.w p (fun j => decide (j ∈ ns)) u.length) L1.wf hp)
        exact p1 _ _ (X2.trans (Ext.newL R2.wf hp2)) (R2.newL hp2) (RN.newL L.wf X2 R2 hp2 (RDs.ints _))
      · rw [if_neg hl] at p1; exact p1.elim
  | _ => exact p1.elim
theorem gl_srtD (hc : X.calm = true) (hm : X.mg "sorted" = none) (h : GE X C W e m) (hg : Gl X "sorted" := by rfl) (hs1 : starEach [e] X.env = (false, eval e X.env) :: starEach [] X.env := by rfl) :
    GL X C W (.Call (.Name "sorted" p) [e] [] pos) (lSrtD m) := PE.imp (pe_callB (call_sortedDI hc) hg hm (by decide +kernel) (pa_cons h pa_nil hs1) (he := hs1)) fun σ H Q ⟨q0, q, env, s, eq, E, L, p⟩ => by
  subst eq
  refine tM.first0 (f := fun x s1 => srtdAt x s1) E L p fun x s1 vx q1 x1 L1 y1 p1 => ?_
  unfold srtdAt at p1
  cases e0 : dicOf s1 x with
  | none => rw [e0] at p1; exact p1.elim
  | some kvs =>
    rw [e0] at p1
    simp only at p1
    cases e1 : intsOf (kvs.map (·.1)) with
    | none => rw [e1] at p1; exact p1.elim
    | some ns =>
      rw [e1] at p1
      simp only at p1
      by_cases hl : ns.length < 64 ∧ ns.Nodup
      · rw [if_pos hl] at p1
        obtain ⟨n, u, ks, rfl, rfl, h1, h2, h3, h4⟩ := dic_at L1 y1 e0
        refine ⟨u, ks, ns, rfl, .inl h3, intsOf_keys h4 e1, hl.1, fun ys p hp hpw hp0 => ?_⟩
        have hnd : ys.Nodup := hp.nodup_iff.mpr hl.2
        have hlt : ys.Pairwise (· < ·) := (hpw.and hnd).imp fun ⟨z1, z2⟩ => by omega
        have em : ys = sortU ns := inc_ext hlt sortU_inc fun k => by rw [sortU_mem, hp.mem_iff]
        subst em
        exact p1 _ _ (x1.trans (Ext.newL L1.wf hp0)) (L1.newL hp0) (RN.newL L.wf x1 L1 hp0 (RDs.ints _))
      · rw [if_neg hl] at p1; exact p1.elim
theorem cntB_len {u ns : List Bool} (h1 : u.Nodup) (h2 : ∀ z, z ∈ u ↔ z ∈ ns) : u.length = cntB ns := by
  have key : ∀ v : List Bool, v.Nodup → v.length = cntB v := by
    intro v hv
    match v, hv with
    | [], _ => rfl
    | [a], _ => cases a <;> rfl
    | [a, b], hv => cases a <;> cases b <;> simp_all [cntB]
    | a :: b :: c :: r, hv => cases a <;> cases b <;> cases c <;> simp_all
  rw [key u h1]
  unfold cntB
  simp only [h2]
theorem ge_lenset (hc : X.calm = true) (hm : X.mg "len" = none) (hm2 : X.mg "set" = none) (h : GE X C W e m) (hg : Gl X "len" := by rfl) (hg2 : Gl X "set" := by rfl)
    (hs1 : starEach [e] X.env = (false, eval e X.env) :: starEach [] X.env := by rfl) (hs2 : starEach [.Call (.Name "set" p2) [e] [] p3] X.env = (false, eval (.Call (.Name "set" p2) [e] [] p3) X.env) :: starEach [] X.env := by rfl) :
    GE X C W (.Call (.Name "len" p) [.Call (.Name "set" p2) [e] [] p3] [] pos) (eLenSet m) := PE.imp (pe_callB call_lenB hg hm (by decide +kernel) (pa_cons (pe_callTy (call_setB hc) hg2 hm2 (by decide +kernel) (pa_cons h pa_nil hs1) (he := hs1)) pa_nil hs2) (he := hs2)) fun σ H Q ⟨q0, q, env, s, eq, E, L, p⟩ => by
  subst eq
  refine tM.first0 (f := fun x s1 => lenSetAt x s1) E L p fun x s1 vx q1 x1 L1 y1 p1 => ?_
  unfold lenSetAt at p1
  cases y1 with
  | @lst a vs ds g r =>
    simp only at p1
    cases e1 : boolsOf ds with
    | none => rw [e1] at p1; exact p1.elim
    | some ns =>
      rw [e1] at p1
      simp only at p1
      by_cases hl : ns.length < 1000
      · rw [if_pos hl] at p1
        obtain rfl := boolsOf_vals r e1
        refine ⟨a, ns, rfl, SqL.of g.1, by show ns.length + 1 < 4096; omega, fun p u hp u1 u2 => ⟨p, _, u.length, rfl, upd_same, ?_⟩⟩
        have R2 := L1.new1 (o := PpSet.SetBO X.w p (fun j => decide (j ∈ ns)) u.length) hp (fun _ z => nomatch z)
        have X2 := x1.trans (Ext.new1 (o := PpSet.SetBO X.w p (fun j => decide (j ∈ ns)) u.length) L1.wf hp)
        rw [cntB_len u1 u2] at R2 X2 ⊢
        exact p1 _ _ X2 R2 (.int _)
      · rw [if_neg hl] at p1; exact p1.elim
  | _ => exact p1.elim
/-! ### dicts -/
theorem new_dic {K : PySem.W.Frag} {q : Stt} {s : Sto} {p : Addr} {kvs : List (D × D)} {ks : List (Key × V)} (L : Rel K C s q) (hp : q.H p = none) (r : RK K q kvs ks) :
    ∃ q', q'.H = upd q.H p (.dK ks) ∧ Ext q q' ∧ Rel K C (s ++ [.dic kvs]) q' ∧ RD K q' (.ref s.length) (.ref p) := by
  have x0 := Ext.newL (o := .dK ks) L.wf hp
  have L0 := L.newL (o := .dK ks) hp
  have kp : Kp (Stt.mk (upd q.H p (.dK ks)) (fun a => q.L a ∨ a = p) q.r) ⟨upd (upd q.H p (.dK ks)) p (.dK ks), fun a => q.L a ∨ a = p, q.r ++ [p]⟩ := ⟨(Kp.wr (q := Stt.mk (upd q.H p (.dK ks)) (fun a => q.L a ∨ a = p) q.r) (show q.L p ∨ p = p from .inr rfl)).u, ⟨[p], rfl⟩⟩
  obtain ⟨z1, z2, z3, z4⟩ := place_own (ho := .dK ks) (ob := .dic kvs) x0 L0 (Fr.of hp) (.inr rfl) (L.wf.nor hp) ⟨_, upd_same, (fun _ z => nomatch z), fun _ z => nomatch z⟩ (fun _ z => nomatch z) ⟨_, upd_same, (r.mono x0.kp).mono kp⟩
  exact ⟨_, upd_upd, z1, z3, z4⟩
theorem ge_dic0 : GE X C W (.Dict [] [] pos) eDic0 := PE.imp pe_dnewK fun σ H Q ⟨q0, q, env, s, eq, E, L, p⟩ pa hpa => by
  subst eq
  obtain ⟨q', e', x', L', r'⟩ := new_dic L hpa .nil
  have z := p (.ref pa) q' x' L' r'
  rw [e'] at z
  exact z
theorem ge_dcopy (hm : X.mg "dict" = none) (h : GE X C W e m) (hg : Gl X "dict" := by rfl) (hs1 : starEach [e] X.env = (false, eval e X.env) :: starEach [] X.env := by rfl) :
    GE X C W (.Call (.Name "dict" p) [e] [] pos) (eDCopy m) := PE.imp (pe_callTy call_dictD hg hm (by decide +kernel) (pa_cons h pa_nil hs1) (he := hs1)) fun σ H Q ⟨q0, q, env, s, eq, E, L, p⟩ => by
  subst eq
  refine tM.first (f := fun x s1 => dcopyAt x s1) E L p rD_any fun x s1 vx q1 x1 E1 L1 y1 p1 => ?_
  unfold dcopyAt at p1
  cases e0 : dicOf s1 x with
  | none => rw [e0] at p1; exact p1.elim
  | some kvs =>
    rw [e0] at p1
    obtain ⟨n, u, ks, rfl, rfl, h1, h2, h3, h4⟩ := dic_at L1 y1 e0
    refine ⟨u, ks, rfl, .inl h3, fun p hp => ?_⟩
    obtain ⟨q', e', x', L', r'⟩ := new_dic L1 hp h4
    have z := p1 (.ref p) q' x' L' r'
    rw [e'] at z
    exact z
theorem RK.drop {K : PySem.W.Frag} {q : Stt} {x : D} {k : Key} (hk : MP.keyOf x = some k) : ∀ {kvs : List (D × D)} {ks : List (Key × V)}, RK K q kvs ks → RK K q (dDrop kvs x) (dropK ks k)
  | _, _, .nil => .nil
  | _, _, .cons (k := a) (d := d) (y := y) (v := v) e r t => by
    have he := keyEq_iff hk e
    have ih := RK.drop hk t
    unfold dDrop dropK at ih ⊢
    rw [List.filter_cons, List.filter_cons]; by_cases z : y = k
    · simp only [he, z, decide_true, Bool.not_true, ne_eq, not_true_eq_false, decide_false, Bool.false_eq_true, if_false]
      exact ih
    · simp only [he, z, decide_false, Bool.not_false, ne_eq, not_false_eq_true, decide_true, if_true]
      exact .cons e r ih
theorem wr_dic {K : PySem.W.Frag} {q : Stt} {s : Sto} {n : Nat} {a : Addr} {ob : Ob} {kvs : List (D × D)} {ks : List (Key × V)} (L : Rel K C s q) (h1 : s[n]? = some ob) (h2 : q.r[n]? = some a) (r : RK K q kvs ks) :
    Ext q ⟨upd q.H a (.dK ks), q.L, q.r⟩ ∧ Rel K C (s.set n (.dic kvs)) ⟨upd q.H a (.dK ks), q.L, q.r⟩ :=
  wr_placed (ho := .dK ks) (o' := .dic kvs) L h1 h2 ⟨_, upd_same, r.mono (Kp.wr (L.wf.live a (List.mem_of_getElem? h2)))⟩
theorem ge_dpop (ho : GE X C W o mo) (he : GE X C W e m) (hf : GE X C W f mz) (hM : M2 X o "pop" apos e f cpos := by exact ⟨rfl, rfl, rfl, rfl⟩) : GE X C W (.Call (.Attribute o "pop" apos) [e, f] [] cpos) (eDPop mo m mz) := PE.imp (pe_dpop2 ho he hf hM) fun σ H Q ⟨q0, q, env, s, eq, E, L, p⟩ => by
  subst eq
  refine tM.first (f := fun x s1 => if (dicOf s1 x).isSome then (m env s1).bind fun y s2 => (mz env s2).bind fun w s3 => dpopAt x y w s3 else .stk) E L p rD_any fun x s1 vx q1 x1 E1 L1 y1 p1 => ?_
  split at p1
  · rename_i hs
    obtain ⟨kv0, hs⟩ := Option.isSome_iff_exists.mp hs
    obtain ⟨n, u, ks0, rfl, rfl, a1, a2, a3, a4⟩ := dic_at L1 y1 hs
    refine ⟨u, rfl, .inl ⟨ks0, .inl a3⟩, ?_⟩
    refine tM.first (f := fun y s2 => (mz env s2).bind fun w s3 => dpopAt (.ref n) y w s3) E1 L1 p1 rD_any fun y s2 vy q2 x2 E2 L2 y2 p2 => ?_
    refine tM.first (f := fun w s3 => dpopAt (.ref n) y w s3) E2 L2 p2 rD_any fun w s3 vw q3 x3 E3 L3 y3 p3 => ?_
    unfold dpopAt at p3
    cases e1 : dicOf s3 (.ref n) with
    | none => rw [e1] at p3; exact p3.elim
    | some kvs =>
      rw [e1] at p3
      simp only at p3
      split at p3
      · rename_i hk
        obtain ⟨k, hk⟩ := isKey_of hk
        obtain ⟨n1, u1, ks, z1, z2, b1, b2, b3, b4⟩ := dic_at L3 (RD.mono (x2.trans x3).kp _ y1) e1
        cases z1
        cases z2
        obtain rfl := kV_of (RD.mono x3.kp _ y2) hk
        refine ⟨ks, k, b3, rfl, fun v hv => ?_, fun hv => ?_⟩
        · cases e2 : dLook kvs y with
          | none => rw [(b4.look hk).2 e2] at hv; cases hv
          | some d =>
            rw [e2] at p3
            obtain ⟨v', h5, h6⟩ := (b4.look hk).1 d e2
            rw [h5] at hv
            cases hv
            obtain ⟨w1, w2⟩ := wr_dic L3 b1 b2 (b4.drop hk)
            exact p3 _ _ w1 w2 (RD.mono w1.kp _ h6)
        · cases e2 : dLook kvs y with
          | some d =>
            obtain ⟨v', h5, h6⟩ := (b4.look hk).1 d e2
            rw [h5] at hv
            cases hv
          | none =>
            rw [e2] at p3
            exact p3 _ q3 (Ext.refl q3) L3 y3
      · exact p3.elim
  · exact p1.elim
theorem ge_dsetd (ho : GE X C W o mo) (he : GE X C W e m) (hf : GE X C W f mz) (hM : M2 X o "setdefault" apos e f cpos := by exact ⟨rfl, rfl, rfl, rfl⟩) : GE X C W (.Call (.Attribute o "setdefault" apos) [e, f] [] cpos) (eDSetd mo m mz) := PE.imp (pe_dsetd ho he hf hM) fun σ H Q ⟨q0, q, env, s, eq, E, L, p⟩ => by
  subst eq
  refine tM.first (f := fun x s1 => if (dicOf s1 x).isSome then (m env s1).bind fun y s2 => (mz env s2).bind fun w s3 => dsetAt x y w s3 else .stk) E L p rD_any fun x s1 vx q1 x1 E1 L1 y1 p1 => ?_
  split at p1
  · rename_i hs
    obtain ⟨kv0, hs⟩ := Option.isSome_iff_exists.mp hs
    obtain ⟨n, u, ks0, rfl, rfl, a1, a2, a3, a4⟩ := dic_at L1 y1 hs
    refine ⟨u, rfl, .inl ⟨ks0, .inl a3⟩, ?_⟩
    refine tM.first (f := fun y s2 => (mz env s2).bind fun w s3 => dsetAt (.ref n) y w s3) E1 L1 p1 rD_any fun y s2 vy q2 x2 E2 L2 y2 p2 => ?_
    refine tM.first (f := fun w s3 => dsetAt (.ref n) y w s3) E2 L2 p2 rD_any fun w s3 vw q3 x3 E3 L3 y3 p3 => ?_
    unfold dsetAt at p3
    cases e1 : dicOf s3 (.ref n) with
    | none => rw [e1] at p3; exact p3.elim
    | some kvs =>
      rw [e1] at p3
      simp only at p3
      split at p3
      · rename_i hk
        rw [Bool.and_eq_true] at hk
        obtain ⟨k, hkk⟩ := isKey_of hk.1
        obtain ⟨n1, u1, ks, z1, z2, b1, b2, b3, b4⟩ := dic_at L3 (RD.mono (x2.trans x3).kp _ y1) e1
        cases z1
        cases z2
        obtain rfl := kV_of (RD.mono x3.kp _ y2) hkk
        have hl := of_decide_eq_true hk.2
        refine ⟨ks, k, b3, rfl, by rw [b4.length]; exact Nat.lt_of_lt_of_le hl (lenS (by unfold cap; omega)), fun v hv => ?_, fun hv => ?_⟩
        · cases e2 : dLook kvs y with
          | none => rw [(b4.look hkk).2 e2] at hv; cases hv
          | some d =>
            rw [e2] at p3
            obtain ⟨v', h5, h6⟩ := (b4.look hkk).1 d e2
            rw [h5] at hv
            cases hv
            exact p3 _ q3 (Ext.refl q3) L3 h6
        · cases e2 : dLook kvs y with
          | some d =>
            obtain ⟨v', h5, h6⟩ := (b4.look hkk).1 d e2
            rw [h5] at hv
            cases hv
          | none =>
            rw [e2] at p3
            obtain ⟨w1, w2⟩ := wr_dic L3 b1 b2 (b4.put hkk y3)
            exact p3 _ _ w1 w2 (RD.mono w1.kp _ y3)
      · exact p3.elim
  · exact p1.elim
/-! ### three names at once -/
theorem gs_par3 (i j k : Nat) {x y z : Str} {d : Expr} {ml : MA} {px py pz pt pt2 : Pos} {kt k2} (hc : X.calm = true) (hN : X.N.Nodup) (ha : GA X C W [a, b, d] ml) (hi : X.N[i]? = some x := by rfl) (hj : X.N[j]? = some y := by rfl) (hk : X.N[k]? = some z := by rfl)
    (hij : i ≠ j := by decide) (hik : i ≠ k := by decide) (hjk : j ≠ k := by decide)
    (hx : X.env.scope.names.lookup x = some .local := by rfl) (hy : X.env.scope.names.lookup y = some .local := by rfl) (hz : X.env.scope.names.lookup z = some .local := by rfl)
    (hw : swappedStores [.Tuple [.Name x px, .Name y py, .Name z pz] kt pt] (.Tuple [a, b, d] k2 pt2) X.env = pure (some [x, y, z]) := by rfl)
    (hs : swapsWithSole [.Tuple [.Name x px, .Name y py, .Name z pz] kt pt] (.Tuple [a, b, d] k2 pt2) pos.line X.env = pure false := by rfl) :
    GS X C W (.Assign [.Tuple [.Name x px, .Name y py, .Name z pz] kt pt] (.Tuple [a, b, d] k2 pt2) pos) (sPar3 i j k ml) := PS.imp (ps_par3 hc hN hi hj hk hij hik hjk hx hy hz ha hw hs) fun D σ H ⟨q0, q, env, s, eq, X0, E, L, p⟩ => by
  subst eq
  refine tS.first X0 E L p fun ds s1 vs q1 x1 X1 E1 L1 y1 p1 => ?_
  cases y1 with
  | nil => exact p1.elim
  | cons r1 rr =>
    cases rr with
    | nil => exact p1.elim
    | cons r2 rr =>
      cases rr with
      | nil => exact p1.elim
      | cons r3 rr =>
        cases rr with
        | nil => exact ⟨_, _, _, rfl, p1 _ q1 X1 (Kp.refl q1) L1 (((E1.set i r1).set j r2).set k r3)⟩
        | cons _ _ => exact p1.elim
end
end MP

/-! A star over a placed list; lists with dicts in them compared. Own text. -/
namespace MP
open PySem L2 TL
section
variable {X : Cx} {C : Tab} {W : Wx} {pos p p2 p3 apos tpos cpos : Pos} {tg e a b c o f i : Expr} {es elts : List Expr} {m ma mb mc mo mf mi mz : ME} {st : Stmt} {x : Str}
def tGP (K : PySem.W.Frag) (C : Tab) (g : MG) (vs : List Nat) : TG := fun v σ H Q => ∃ (q0 q : Stt) (env env' : MP.Env) (s : Sto) (x : D) (ds : List D), q.H = H ∧ RE K C q0 q env σ ∧ Rel K C s q ∧ RD K q x v ∧ plOf s x = some ds ∧ g (.lst ds) env = some env' ∧
  ∀ (σ' : St) (q' : Stt), Ext q q' → Rel K C s q' → RE K C q0 q' env' σ' → Q σ' q'.H
theorem gg_starP {es : List Expr} {kk : Nat} {gs hs : List MG} {j : Nat} {vs : List Nat} (hc : X.calm = true) (h : GGs X C es (gs ++ gNm j :: hs) vs) (hn : (assignEach es X.env).length = gs.length + hs.length + 1 := by rfl) (hst : (assignEach es X.env).findIdx? (·.1) = some gs.length := by rfl) :
    PG X (.Tuple es kk pos) (tGP X.K C (gSt gs hs j) vs) := PG.imp (pg_star hc h hn hst) fun v σ H Q ⟨q0, q, env, env', s, x, ds, e0, E, L, r, ep, g, k⟩ => by
  subst e0
  obtain ⟨n, a, us, rfl, rfl, g1, g2, g3, rs⟩ := pl_at L r ep
  simp only [gSt] at g
  split at g
  · rename_i hh
    have hl := rs.length
    refine ⟨a, us, rfl, .inl (SqL.of g3), by omega, by omega, by omega, fun p hp => ?_⟩
    have em : us.length + 1 - (gs.length + hs.length + 1) = ds.length - gs.length - hs.length := by omega
    rw [em]
    have L2 := L.new1 (o := .lst ((us.drop gs.length).take (ds.length - gs.length - hs.length))) hp
    have x2 := Ext.new1 (o := .lst ((us.drop gs.length).take (ds.length - gs.length - hs.length))) L.wf hp
    have r2 := RDs.mono x2.kp _ rs
    refine ⟨q0, _, env, env', s, ds.take gs.length ++ [D.lst ((ds.drop gs.length).take (ds.length - gs.length - hs.length))] ++ (ds.drop gs.length).drop (ds.length - gs.length - hs.length), rfl, E.ext x2, L2, ?_, ?_, fun σ' q' x' L' E' _ _ => k σ' q' (x2.trans x') L' E'⟩
    · exact ((r2.take _).append (.cons (.lst ⟨upd_same, L.wf.no hp⟩ ((r2.drop _).take _)) .nil)).append ((r2.drop _).drop _)
    · rw [List.append_assoc, gAll_append gs (gNm j :: hs) _ _ env (by rw [List.length_take]; omega), ← g]
      rfl
  · cases g
theorem gs_stP {tg : Expr} {g : MG} {vs : List Nat} (h : GE X C W e m) (hg : PG X tg (tGP X.K C g vs)) (hs : swapsWithSole [tg] e pos.line X.env = pure false := by rfl) (hw : swappedStores [tg] e X.env = pure none := by rfl) (h1 : (assignEach [tg] X.env).map (·.2) = [assign tg X.env] := by rfl) :
    GS X C W (.Assign [tg] e pos) (sStP m g) := PS.imp (ps_asg h hg hs hw h1) fun D σ H ⟨q0, q, env, s, eq, X0, E, L, p⟩ => by
  subst eq
  refine tS.first X0 E L p fun d s1 v q1 x1 X1 E1 L1 y1 p1 => ?_
  unfold starAt at p1
  cases z : plOf s1 d with
  | none => rw [z] at p1; exact p1.elim
  | some ds =>
    rw [z] at p1
    simp only at p1
    unfold putE at p1
    cases w : g (.lst ds) env with
    | none => rw [w] at p1; exact p1.elim
    | some env' => rw [w] at p1; exact ⟨q0, q1, env, env', s1, d, ds, rfl, E1, L1, y1, z, w, fun σ' q' x2 L2 E2 => p1 σ' q' (X1.trans x2) x2.kp L2 E2⟩
end
/-! ### != of lists, their items compared within one program -/
section
open PySem.SeqAt (EqIn EqAt)
open PySem.MeetsSeq PySem.MeetsSeq2 PySem.MeetsSeq3 PySem.SeqRoads2
variable {w : World} {prog : Program}
theorem ne_loopIn (l b : Addr) (us vs : Array Value) (n n2 : Nat) (dd dd2 : Option Addr) (sl sl2 : Array (Option Value)) (hsz : us.size = vs.size) (k : Nat) :
    ∀ i : Nat, us.size - i = k → MeetsIn prog w (Builtin.«list.__eq__.loop» ⟨[.ref l, .ref b, rawInt i, rawInt 3], []⟩)
      (fun A R s => s.heap.get? l = some { cls := .type "list", dict := dd, data := .seq us n, slots := sl } ∧ s.heap.get? b = some { cls := .type "list", dict := dd2, data := .seq vs n2, slots := sl2 } ∧
        (∀ j (h1 : j < us.size) (h2 : j < vs.size), EqIn prog w A.in1 s us[j] vs[j] true) ∧ R (.ok (.ret (.bool false))) s) := by
  induction k with
  | zero =>
    intro i hk A R s h
    obtain ⟨hp, g, d, tk, os⟩ := s; obtain ⟨hl, hb, he, h⟩ := h; wp_walk using AutoSeq1.wpAny_loadPart' hl, AutoSeq1.wpAny_loadPart' hb
    have hi1 : us[((i : Nat) : Int).toNat]? = none := by simp; omega
    have hi2 : vs[((i : Nat) : Int).toNat]? = none := by simp; omega
    rw [hi1, hi2]
    wp_walk using AutoSeq1.wpAny_loadPart' hl, AutoSeq1.wpAny_loadPart' hb
    show R (.ok (.ret (.bool (us.size != vs.size)))) _
    rw [hsz]
    simpa using h
  | succ k ih =>
    intro i hk A R s h
    obtain ⟨hp, g, d, tk, os⟩ := s; obtain ⟨hl, hb, he, h⟩ := h; wp_walk using AutoSeq1.wpAny_loadPart' hl, AutoSeq1.wpAny_loadPart' hb
    have hlt : i < us.size := by omega
    have hlt2 : i < vs.size := by omega
    have hi1 : us[((i : Nat) : Int).toNat]? = some us[i] := by simp [hlt]
    have hi2 : vs[((i : Nat) : Int).toNat]? = some vs[i] := by simp [hlt2]
    have hci : ((i : Int) + 1) = ((i + 1 : Nat) : Int) := by push_cast; rfl
    rw [hi1, hi2]
    refine wpAny_bind (he i hlt hlt2 _ _ ?_); wp_walk
    rw [hci]
    refine ⟨plainId_quiet plain_eq_loop _, codeAny_builtin entry_eq_loop ?_⟩
    rw [Around.under_plainId plain_eq_loop _]; exact ih (i + 1) (by omega) A R _ ⟨hl, hb, he, h⟩
theorem list_neIn (l b : Addr) (us vs : Array Value) (n n2 : Nat) (dd dd2 : Option Addr) (sl sl2 : Array (Option Value)) (hsz : us.size = vs.size) :
    MeetsIn prog w (Builtin.«list.__ne__» ⟨[.ref l, .ref b], []⟩)
      (fun A R s => s.heap.get? l = some { cls := .type "list", dict := dd, data := .seq us n, slots := sl } ∧ s.heap.get? b = some { cls := .type "list", dict := dd2, data := .seq vs n2, slots := sl2 } ∧
        (∀ j (h1 : j < us.size) (h2 : j < vs.size), EqIn prog w A.in1 s us[j] vs[j] true) ∧ R (.ok (.ret (.bool false))) s) := by
  intro A R s h
  obtain ⟨hp, g, d, tk, os⟩ := s; obtain ⟨hl, hb, he, h⟩ := h; have f3 := AutoSeq1.sub_list_list
  have hne : ¬ (us.size != vs.size) = true := by simp [hsz]
  wp_walk using AutoSeq1.wpAny_loadPart' hl, AutoSeq1.wpAny_loadPart' hb
  refine ⟨plainId_quiet plain_eq_loop _, codeAny_builtin entry_eq_loop ?_⟩
  rw [Around.under_plainId plain_eq_loop _]; exact ne_loopIn l b us vs n n2 dd dd2 sl sl2 hsz _ 0 rfl A R _ ⟨hl, hb, he, h⟩
theorem ne_listsIn {A : Around} {s : Shared} {E : Value → Shared → Prop} {l b : Addr} {us vs : Array Value} {Q : Value → Shared → Prop} (hl : s.heap.IsList l us) (hb : s.heap.IsList b vs) (hsz : us.size = vs.size) (hu : A.units < cLine)
    (he : ∀ j (h1 : j < us.size) (h2 : j < vs.size), EqIn prog w A.in1 s us[j] vs[j] true) (h : Q (.bool false) s) : wpAny (model prog w) A (richCompare .NotEq (.ref l) (.ref b)) Q E s := by
  obtain ⟨⟨cls, dd, data, sl⟩, ho, hc, n, hd⟩ := id hl; obtain ⟨⟨cls2, dd2, data2, sl2⟩, ho2, hc2, n2, hd2⟩ := id hb
  simp only at hc hd hc2 hd2
  subst hc hd hc2 hd2
  exact wpAny_richCompare_same_room (T := "list") (op := .NotEq) ⟨_, ho, rfl⟩ ⟨_, ho2, rfl⟩ PySem.F.slot_list_ne (call_meetsIn PySem.F.slot_list_ne ⟨_, ho, rfl⟩ PySem.F.entry_list_ne (PySem.F.args_list_ne_2 _ _) (list_neIn l b us vs n n2 dd dd2 sl sl2 hsz)
    ⟨ho, ho2, he, show Value.bool false ≠ Value.notImplemented ∧ Q (.bool false) s from ⟨(fun x => nomatch x), h⟩⟩) hu
end
/-! ### the rule -/
def alikeD (K : PySem.W.Frag) (H : Hp) (v u : V) : Prop := ∃ d e, Dp K H v d ∧ Dp K H u e ∧ d.canLay0 = true ∧ e.canLay0 = true ∧ d.depth ≤ 31 ∧ PyData.eqv d e = true
def alikeN (K : PySem.W.Frag) (H : Hp) (v u : V) : Prop := alikeD K H v u ∨ ∃ a c ks ls, v = .ref a ∧ u = .ref c ∧ a ≠ c ∧ H a = some (.dK ks) ∧ H c = some (.dK ls) ∧ ks.length = ls.length ∧ ∀ (k : Key) (x : V), (k, x) ∈ ks → ∃ y, valV ls k = some y ∧ alikeD K H x y
def rNeX (K : PySem.W.Frag) : R2 := fun x y H Q => ∃ a b xs ys, x = .ref a ∧ y = .ref b ∧ H a = some (.lst xs) ∧ H b = some (.lst ys) ∧ xs.length = ys.length ∧ (∀ (j : Nat) (v u : V), xs[j]? = some v → ys[j]? = some u → alikeN K H v u) ∧ Q (.bl false) H
theorem KV.mem' {ks : List (Key × V)} {vs : List (Key × Value)} (r : KV ks vs) {k : Key} {u : Value} (h : (k, u) ∈ vs) : ∃ x, (k, x) ∈ ks ∧ RelV x u := by
  unfold KV at r
  induction r with
  | nil => cases h
  | @cons p q ps qs h1 t ih =>
    rcases List.mem_cons.mp h with e | hm
    · subst e
      obtain ⟨e1, e2⟩ := h1
      exact ⟨p.2, List.mem_cons.mpr (.inl (by rw [← show p.1 = k from e1])), e2⟩
    · obtain ⟨x, h2, h3⟩ := ih hm
      exact ⟨x, List.mem_cons_of_mem _ h2, h3⟩
section
variable {pins : List (Addr × Obj)} {X : Cx} {s : Shared} {σ : St} {H : Hp}
theorem tree_flat (I : Inv X pins σ H s) {v u : V} {v' u' : Value} (h : alikeD X.K H v u) (r1 : RelV v v') (r2 : RelV u u') {n : Nat} (hn : 40 ≤ n) : PySem.W.EqTree X.prog X.w s n v' u' true := by
  obtain ⟨d, e, h1, h2, c1, c2, dl, q⟩ := h
  obtain ⟨as, g1⟩ := Dp.reads I d v v' h1 r1
  obtain ⟨bs, g2⟩ := Dp.reads I e u u' h2 r2
  rw [← q]
  exact .leaf fun A hu => SeqAt.eqAt_reads d e A s v' u' as bs g1 g2 c1 c2 (by have := Nat.min_le_left d.depth e.depth; omega)
theorem tree_any (I : Inv X pins σ H s) {v u : V} {v' u' : Value} (h : alikeN X.K H v u) (r1 : RelV v v') (r2 : RelV u u') : PySem.W.EqTree X.prog X.w s 41 v' u' true := by
  rcases h with h | ⟨a, c, ks, ls, rfl, rfl, hne, ha, hc, hl, hk⟩
  · exact tree_flat I h r1 r2 (by decide)
  · cases r1
    cases r2
    obtain ⟨z, hd, vs, rel, dd⟩ := dk_of I.hok ha
    obtain ⟨z2, hd2, ws, rel2, dd2⟩ := dk_of I.hok hc
    have t := PySem.W.EqTree.dicts (n := 40) (e := fun _ => true) hne hd hd2 dd dd2 fun k v y hm hv => by
      obtain ⟨x, m1, m2⟩ := KV.mem' rel hm
      obtain ⟨y0, m3, m4⟩ := hk k x m1
      have q := rel2.val k
      rw [m3, hv] at q
      exact tree_flat I m4 m2 q (Nat.le_refl 40)
    have e1 : (vs.length == ws.length && vs.all fun p => (valueAt ws p.1).isSome && true) = true := by
      rw [← rel.length, ← rel2.length, hl]
      simp only [beq_self_eq_true, Bool.true_and, Bool.and_true, List.all_eq_true]
      intro p hp
      obtain ⟨x, m1, m2⟩ := KV.mem' (k := p.1) (u := p.2) rel hp
      obtain ⟨y0, m3, m4⟩ := hk p.1 x m1
      have q := rel2.val p.1
      rw [m3] at q
      rw [← q.isSome_eq]
      rfl
    rw [e1] at t
    exact t
theorem op_neX (hu : X.A.units + 64 < cLine) : OpR X (compareOp .NotEq) (rNeX X.K) := by
  intro pins s σ H x y v u Q I rx ry h; obtain ⟨a, b, xs, ys, rfl, rfl, ha, hb, hn, hi, q⟩ := h
  cases rx
  cases ry
  obtain ⟨its, r, p, _⟩ := I.list (SqL.of ha)
  obtain ⟨its2, r2, p2, _⟩ := I.list (SqL.of hb)
  refine ne_listsIn p.isList p2.isList (by rw [vals_size r, vals_size r2]; exact hn) (by omega) (fun j h1 h2 => ?_) ⟨.bl false, H, I, rfl, q⟩
  obtain ⟨v1, g1, g2⟩ := vals_getU r (i := j) (u := its.toArray[j]) (by simp)
  obtain ⟨v2, g3, g4⟩ := vals_getU r2 (i := j) (u := its2.toArray[j]) (by simp)
  exact (tree_any I (hi j v1 v2 g1 g3) g2 g4).at _ (by show X.A.units + 1 + 41 < cLine; omega)
end
theorem RB.dp30 {K : PySem.W.Frag} {C : Tab} {q : Stt} {s : Sto} {d : D} {v : V} (R : Rel K C s q) (h : RB K q d v) (f : (MP.view s d).fit 30 = true) : Dp K q.H v (toP (MP.view s d)) := by
  rcases h.view R with ⟨ds, a, vs, e, rfl, g, r⟩ | ⟨e, r, _⟩
  · rw [e] at f ⊢
    exact .lst (SqL.of g) (RDs.dp 29 ds r (by simpa [D.fit] using f))
  · rw [e] at f ⊢
    exact RD.dp 30 d r f
theorem alikeD_of {K : PySem.W.Frag} {q : Stt} {d e : D} {v u : V} (h1 : Dp K q.H v (toP d)) (h2 : Dp K q.H u (toP e)) (f1 : d.fit 30 = true) (f2 : e.fit 30 = true) (g : d.eqv e = true) : alikeD K q.H v u :=
  ⟨_, _, h1, h2, (lay_toP 30 d f1).1, (lay_toP 30 e f2).1, (lay_toP 30 d f1).2, by rw [eqv_toP 30 30 _ _ f1 f2]; exact g⟩
theorem RK.memK {K : PySem.W.Frag} {q : Stt} : ∀ {kvs : List (D × D)} {ks : List (Key × V)} {k : Key} {x : V}, RK K q kvs ks → (k, x) ∈ ks → ∃ kd d, (kd, d) ∈ kvs ∧ MP.keyOf kd = some k ∧ RD K q d x
  | _, _, _, _, .nil, h => by cases h
  | _, _, _, _, .cons e r t, h => by
    rcases (List.mem_cons.mp h) with z | z
    · cases z
      exact ⟨_, _, List.mem_cons_self, e, r⟩
    · obtain ⟨kd, d, h1, h2, h3⟩ := RK.memK t z
      exact ⟨kd, d, List.mem_cons_of_mem _ h1, h2, h3⟩
theorem alikeN_of {K : PySem.W.Frag} {C : Tab} {q : Stt} {s : Sto} {x y : D} {v u : V} (R : Rel K C s q) (h1 : RD K q x v) (h2 : RD K q y u) (e : likeAt s x y = true) : alikeN K q.H v u := by
  unfold likeAt at e
  rw [Bool.or_eq_true] at e
  rcases e with e | e
  · rw [Bool.and_eq_true, Bool.and_eq_true] at e
    exact .inl (alikeD_of (RB.dp30 R (.inl h1) e.1.1) (RB.dp30 R (.inl h2) e.1.2) e.1.1 e.1.2 e.2)
  · unfold likeDic at e
    split at e
    · rename_i n m p r g1 g2 g3 g4
      rw [Bool.and_eq_true, Bool.and_eq_true] at e
      obtain ⟨⟨e1, e2⟩, e3⟩ := e
      have e1 := of_decide_eq_true e1
      have e2 := of_decide_eq_true e2
      obtain ⟨n1, u1, ks1, rfl, rfl, b1, b2, b3, b4⟩ := dic_at R h1 g3
      obtain ⟨n2, u2, ks2, rfl, rfl, c1, c2, c3, c4⟩ := dic_at R h2 g4
      cases g1
      cases g2
      refine .inr ⟨u1, u2, ks1, ks2, rfl, rfl, fun z => ?_, b3, c3, by rw [b4.length, c4.length]; exact e2, fun k x hm => ?_⟩
      · subst z
        have h4 := (List.getElem?_eq_some_iff.mp b2)
        have h5 := (List.getElem?_eq_some_iff.mp c2)
        exact e1 ((List.getElem_inj R.wf.nd).mp (h4.2.trans h5.2.symm))
      · obtain ⟨kd, d, m1, m2, m3⟩ := RK.memK b4 hm
        have z := List.all_eq_true.mp e3 _ m1
        unfold likeV at z
        rw [Bool.and_eq_true] at z
        obtain ⟨z1, z2⟩ := z
        cases e4 : dLook r kd with
        | none => simp only [e4] at z2; cases z2
        | some d2 =>
          simp only [e4, Bool.and_eq_true] at z2
          obtain ⟨v2, w1, w2⟩ := (c4.look m2).1 d2 e4
          exact ⟨v2, w1, alikeD_of (RD.dp 30 d m3 z1) (RD.dp 30 d2 w2 z2.1) z1 z2.1 z2.2⟩
    · cases e
theorem alikeAll_of {K : PySem.W.Frag} {C : Tab} {q : Stt} {s : Sto} (R : Rel K C s q) : ∀ {xs ys : List D} {vs us : List V}, RDs K q xs vs → RDs K q ys us → likeAll s xs ys = true → vs.length = us.length ∧ ∀ (j : Nat) (v u : V), vs[j]? = some v → us[j]? = some u → alikeN K q.H v u
  | [], [], _, _, h1, h2, _ => by
    cases h1
    cases h2
    exact ⟨rfl, fun j v u h => by simp at h⟩
  | [], _ :: _, _, _, _, _, e => by cases e
  | _ :: _, [], _, _, _, _, e => by cases e
  | x :: xs, y :: ys, _, _, h1, h2, e => by
    cases h1 with
    | cons a1 b1 =>
      cases h2 with
      | cons a2 b2 =>
        simp only [likeAll, Bool.and_eq_true] at e
        obtain ⟨l, k⟩ := alikeAll_of R b1 b2 e.2
        refine ⟨by simp [l], fun j v u g1 g2 => ?_⟩
        cases j with
        | zero =>
          rw [List.getElem?_cons_zero] at g1 g2
          cases g1
          cases g2
          exact alikeN_of R a1 a2 e.1
        | succ j =>
          rw [List.getElem?_cons_succ] at g1 g2
          exact k j v u g1 g2
theorem simNeX {K : PySem.W.Frag} {C : Tab} : SimOp K C (rNeX K) opNeX := by
  intro q s x y vx vy z Q R bx bY e k
  unfold opNeX at e
  split at e
  · rename_i xs ys
    split at e
    · rename_i hl
      cases e
      obtain ⟨a, us, rfl, g1, r1⟩ := bx.lst
      obtain ⟨b, vs, rfl, g2, r2⟩ := bY.lst
      obtain ⟨l, hh⟩ := alikeAll_of R r1 r2 hl
      exact ⟨a, b, us, vs, rfl, rfl, g1, g2, l, hh, k (.bl false) q (Ext.refl q) R (.bl false)⟩
    · cases e
  · cases e
end MP

/-! The functions of the law, printed by gen2.py. Own text. -/
namespace K15
open MP
def d_MOST_PILE : D := (.int 8)
def h_law_told : MS := (sSeq (sAsg (eFrz (lLst (aCons (eIsX 1 [(1, false)]) (aCons (eIsX 1 [(1, false)]) (aCons (eIsX 1 [(1, false)]) (aCons (eIsX 1 [(1, false)]) aNil)))))) (gNm 2)) (sSeq (sAsg (eFrz (lAdd (eBor 2) (eFrz (lLst (aCons (eIsX 1 [(1, false)]) (aCons (eIsX 1 [(1, false)]) (aCons (eIsX 1 [(1, false)]) aNil))))))) (gNm 2)) (sSeq (sAsg (eFrz (lAdd (eBor 2) (eFrz (lLst (aCons (eIsX 1 [(1, false)]) (aCons (eIsX 1 [(1, false)]) (aCons (eIsX 1 [(1, false)]) aNil))))))) (gNm 2)) (sSeq (sAsg (eFrz (lAdd (eBor 2) (eFrz (lLst (aCons (eIsX 1 [(1, false)]) (aCons (eIsX 1 [(1, false)]) (aCons (eIsX 1 [(1, false)]) aNil))))))) (gNm 2)) (sSeq (sAsg (eFrz (lAdd (eBor 2) (eFrz (lLst (aCons (eIsX 1 [(1, true)]) (aCons (eIsX 1 [(1, false)]) aNil)))))) (gNm 2)) (sSeq (sIf (tOr (tVal (eOp2 opNe (eCnt (eBor 2) (eC (.bl true))) (eC (.int 1)))) (tNot (tVal (eIsX 1 [(1, true)])))) (sRet (eTup (aCons (eC (.str [114, 101, 102, 117, 115, 101, 100])) (aCons (eC (.str [111, 116, 104, 101, 114])) aNil)))) sNext) (sSeq (sAsg (eFrz (lLst (aCons (eC (.str [109, 105, 108, 108])) (aCons (eC (.str [116, 101, 120, 116, 115])) (aCons (eC (.str [114, 111, 111, 109])) (aCons (eC (.str [104, 97, 110, 100])) (aCons (eC (.str [119, 105, 116, 104, 105, 110])) (aCons (eC (.str [100, 101, 101, 100])) (aCons (eC (.str [110, 117, 109, 98, 101, 114])) (aCons (eC (.str [117, 110, 100, 101, 114, 119, 97, 121])) (aCons (eC (.str [102, 117, 108, 108])) (aCons (eC (.str [99, 104, 97, 110, 103, 101])) (aCons (eC (.str [117, 110, 109, 101, 116])) aNil))))))))))))) (gNm 3)) (sSeq (sAsg (eOp2 opIx (eFrz (lAdd (eBor 3) (eFrz (lLst (aCons (eC (.str [110, 111, 99, 104, 97, 110, 103, 101])) (aCons (eC (.str [99, 101, 108, 108])) (aCons (eC (.str [98, 111, 111, 107])) (aCons (eC (.str [116, 101, 120, 116])) aNil)))))))) (eIdx (eBor 2) (eC (.bl true)))) (gNm 4)) (sSeq (sIf (tVal (eOp2 opIn (eBor 4) (eTup (aCons (eC (.str [109, 105, 108, 108])) (aCons (eC (.str [99, 104, 97, 110, 103, 101])) aNil))))) (sRet (eTup (aCons (eC (.str [114, 101, 102, 117, 115, 101, 100])) (aCons (eVar 4) (aCons (eXf 1 "word" []) aNil))))) sNext) (sSeq (sIf (tVal (eOp2 opEq (eBor 4) (eC (.str [116, 101, 120, 116, 115])))) (sRet (eTup (aCons (eC (.str [114, 101, 102, 117, 115, 101, 100])) (aCons (eVar 4) (aCons (eXf 1 "deed" []) (aCons (eXf 1 "row" []) aNil)))))) sNext) (sSeq (sIf (tVal (eOp2 opEq (eBor 4) (eC (.str [98, 111, 111, 107])))) (sRet (eTup (aCons (eC (.str [114, 101, 102, 117, 115, 101, 100])) (aCons (eVar 4) (aCons (eXf 1 "event" [1]) aNil))))) sNext) (sRet (eIf (tVal (eOp2 opIn (eBor 4) (eTup (aCons (eC (.str [117, 110, 109, 101, 116])) (aCons (eC (.str [116, 101, 120, 116])) aNil))))) (eTup (aCons (eC (.str [114, 101, 102, 117, 115, 101, 100])) (aCons (eVar 4) (aCons (eXf 1 "row" []) aNil)))) (eTup (aCons (eC (.str [114, 101, 102, 117, 115, 101, 100])) (aCons (eVar 4) aNil))))))))))))))))
def f_law_dice : Fn := runB 1 3 (sSeq (sAsg (eC (.int 0)) (gNm 1)) (sSeq (sFor (iSeq (eVar 0)) (gNm 2) (sAsg (eOp2 opMod (eOp2 opAdd (eOp2 opAdd (eOp2 opMul (eBor 1) (eC (.int 48271))) (eOp2 opMul (eOp2 opMod (eBor 2) (eC (.int 2147483647))) (eC (.int 69621)))) (eC (.int 11))) (eC (.int 2147483647))) (gNm 1))) (sRet (ePlc (lLst (aCons (eVar 0) (aCons (eC (.int 0)) (aCons (eOp2 opMul (eBor 1) (eOp1 opIntOf (eOp2 opGt (eOp1 opLen (eBor 0)) (eC (.int 2))))) (aCons (eC (.int 0)) aNil)))))))))
def f_law_next : Fn := runB 2 4 (sSeq (sIf (tVal (eOp2 opGt (eOp2 opIx (eBor 0) (eC (.int 3))) (eC (.int 0)))) (sSeq (sAsg (eOp2 opMod (eOp2 opIx (eBor 0) (eC (.int 3))) (eBor 1)) (gNm 2)) (sSeq (sSet (eVar 0) (eC (.int 3)) (eOp2 opDiv (eOp2 opIx (eBor 0) (eC (.int 3))) (eBor 1))) (sRet (eVar 2)))) sNext) (sSeq (sSet (eVar 0) (eC (.int 1)) (eOp2 opAdd (eOp2 opIx (eBor 0) (eC (.int 1))) (eC (.int 1)))) (sSeq (sIf (tVal (eOp2 opLe (eOp2 opIx (eBor 0) (eC (.int 1))) (eOp1 opLen (eOp2 opIx (eBor 0) (eC (.int 0)))))) (sSeq (sAsg (eOp2 opIx (eOp2 opIx (eBor 0) (eC (.int 0))) (eOp2 opSub (eOp2 opIx (eBor 0) (eC (.int 1))) (eC (.int 1)))) (gNm 3)) (sSeq (sSet (eVar 0) (eC (.int 3)) (eIf (tVal (eOp2 opGe (eBor 3) (eOp2 opPow (eC (.int 10)) (eC (.int 18))))) (eOp2 opDiv (eBor 3) (eBor 1)) (eC (.int 0)))) (sRet (eOp2 opMod (eBor 3) (eBor 1))))) sNext) (sSeq (sSet (eVar 0) (eC (.int 2)) (eOp2 opMod (eOp2 opMul (eOp2 opIx (eBor 0) (eC (.int 2))) (eC (.int 48271))) (eC (.int 2147483647)))) (sRet (eOp2 opMod (eOp2 opDiv (eOp2 opIx (eBor 0) (eC (.int 2))) (eC (.int 7))) (eBor 1)))))))
def f_Reading___init__ : Fn := runB 2 2 (sSeq (MP.sFld 16 (eVar 0) (eVar 1) "sets") (sSeq (MP.sFld 16 (eVar 0) eDic0 "now") (MP.sFld 16 (eVar 0) eDic0 "piles")))
def f_side : Fn := runB 2 2 (sRet (eAnd (eOp1 opNotN (eVar 0)) (eOp2 opGe (eBor 0) (eBor 1))))
def f_mixing : Fn := runB 2 10 (sSeq (sStP (eVar 0) (gSt [] [(gNm 3)] 2)) (sSeq (sAsg (eVar 3) (gTp [(gNm 4), (gNm 5)])) (sSeq (sOwn (lLst aNil) 6) (sSeq (sFor (iSeq (eFrz (lSrtD (eVar 1)))) (gNm 7) (sSeq (sAsg (eFrz (lLc (iSeq (eVar 2)) (gNm 9) (tAnd (tVal (eOp2 opIn (eOp2 opIx (eBor 9) (eC (.int 0))) (eOp2 opDGet (eVar 1) (eVar 7)))) (tVal (eOp2 opIn (eBor 4) (eOp2 opDGet (eVar 1) (eVar 7))))) (eVar 9) [9])) (gNm 8)) (sIf (tVal (eOp2 opNe (eFrz (lLc (iSeq (eVar 8)) (gNm 9) (tVal (eOp2 opNe (eCall f_side (aCons (eOp2 opIx (eBor 9) (eC (.int 1))) (aCons (eVar 7) aNil))) (eCall f_side (aCons (eVar 5) (aCons (eVar 7) aNil))))) (eVar 9) [9])) (eFrz (lLst aNil)))) (sApp 6 (eVar 7)) sNext))) (sRet (eIf (tVal (eOp2 opNe (eBor 6) (eFrz (lLst aNil)))) (eOp2 opIx (eBor 6) (eC (.int 0))) (eC .non)))))))
def f_Reading_reads : Fn := runB 4 7 (sSeq (sIf (tAnd (tVal (eOp2 opEq (eBor 2) (eC (.str [98, 101, 103, 105, 110])))) (tVal (eOp2 opDIn (eOp2 opIx (eBor 3) (eC (.int 0))) (eFld 16 (eVar 0) "sets")))) (sSetD (eFld 16 (eVar 0) "now") (eOp2 opIx (eBor 3) (eC (.int 0))) (eOp2 opDGet (eFld 16 (eVar 0) "sets") (eOp2 opIx (eBor 3) (eC (.int 0))))) sNext) (sSeq (sIf (tVal (eOp2 opEq (eBor 2) (eC (.str [103, 111, 110, 101])))) (sDrop (eDPop (eFld 16 (eVar 0) "now") (eOp2 opIx (eBor 3) (eC (.int 0))) (eC .non))) sNext) (sSeq (sIf (tVal (eOp2 opNotIn (eBor 2) (eTup (aCons (eC (.str [105, 110])) (aCons (eC (.str [111, 117, 116])) aNil))))) (sRet (eC .non)) sNext) (sSeq (sAsg (eVar 3) (gSt [(gNm 4)] [] 5)) (sSeq (sAsg (eDSetd (eFld 16 (eVar 0) "piles") (eVar 4) (ePlc (lLst aNil))) (gNm 6)) (sSeq (sIf (tVal (eOp2 opEq (eBor 2) (eC (.str [111, 117, 116])))) (sSeq (sIf (tOr (tVal (eOp2 opEq (eBor 6) (eFrz (lLst aNil)))) (tVal (eOp2 opNe (eOp2 opIx (eBor 6) (eOp1 opNeg (eC (.int 1)))) (eOp1 opTuple (eBor 5))))) (sRs 1 ["event"] (aCons (eVar 1) aNil)) sNext) (sSeq (sDrop (ePopL (eVar 6))) (sRet (eC .non)))) sNext) (sSeq (sIf (tVal (eOp2 opEq (eOp1 opLen (eBor 6)) (eC d_MOST_PILE))) (sRs 1 ["event"] (aCons (eVar 1) aNil)) sNext) (sSeq (sDrop (eAppL (eVar 6) (eOp1 opTuple (eBor 5)))) (sRet (eCall f_mixing (aCons (eVar 6) (aCons (eFld 16 (eVar 0) "now") aNil))))))))))))
def f_mixture : Fn := runB 2 8 (sSeq (sAsg (eNew 16 f_Reading___init__ (aCons (eVar 1) aNil)) (gNm 2)) (sSeq (sAsg (eC .non) (gNm 3)) (sSeq (sFor (iEnum (eVar 0)) (gTp [(gNm 4), (gSt [(gNm 5)] [] 6)]) (sSeq (sAsg (eMeth 16 "reads" f_Reading_reads (eVar 2) (aCons (eVar 4) (aCons (eVar 5) (aCons (eVar 6) aNil)))) (gNm 7)) (sIf (tAnd (tVal (eOp1 opIsN (eVar 3))) (tVal (eOp1 opNotN (eVar 7)))) (sAsg (eTup (aCons (eVar 4) (aCons (eVar 7) aNil))) (gNm 3)) sNext))) (sRet (eVar 3)))))
def f_law_like : Nat → Fn
  | 0 => runB 2 3 sNever
  | n + 1 => runB 2 3 (sSeq (sIf (tOr (tVal (eOp1 (opKind .tuple) (eVar 1))) (tVal (eOp1 (opKind .list) (eVar 1)))) (sSeq (sIf (tVal (eOp2 opNe (eOp1 (opKind .tuple) (eVar 0)) (eOp1 (opKind .tuple) (eVar 1)))) (sRet (eC (.bl false))) sNext) (sSeq (sIf (tOr (tVal (eOp2 opNe (eOp1 (opKind .list) (eVar 0)) (eOp1 (opKind .list) (eVar 1)))) (tVal (eOp2 opNe (eOp1 opLen (eBor 0)) (eOp1 opLen (eBor 1))))) (sRet (eC (.bl false))) sNext) (sRet (eOp2 opEq (eFrz (lLc (iRng (eOp1 opLen (eBor 1))) (gNm 2) (tNot (tVal (eCall (f_law_like n) (aCons (eOp2 opIx (eBor 0) (eBor 2)) (aCons (eOp2 opIx (eBor 1) (eBor 2)) aNil))))) (eVar 2) [2])) (eFrz (lLst aNil)))))) sNext) (sSeq (sIf (tVal (eOp2 opNe (eOp1 (opKind .bool) (eVar 0)) (eOp1 (opKind .bool) (eVar 1)))) (sRet (eC (.bl false))) sNext) (sSeq (sIf (tOr (tVal (eOp2 opNe (eOp1 (opKind .int) (eVar 0)) (eOp1 (opKind .int) (eVar 1)))) (tVal (eOp2 opNe (eOp1 (opKind .str) (eVar 0)) (eOp1 (opKind .str) (eVar 1))))) (sRet (eC (.bl false))) sNext) (sRet (eOp2 opEq (eBor 0) (eBor 1))))))
def f_law_new : Fn := runB 2 2 (sRet (eAnd (eOp1 opNotN (eVar 0)) (eOp2 opGe (eBor 0) (eBor 1))))
def f_law_reading : Fn := runB 2 11 (sSeq (sPar3 2 3 4 (aCons eDic0 (aCons (ePlc (lLst aNil)) (aCons (eC .non) aNil)))) (sSeq (sFor (iRng (eOp1 opLen (eBor 0))) (gNm 5) (sSeq (sAsg (eOp2 opIx (eBor 0) (eBor 5)) (gNm 6)) (sSeq (sIf (tVal (eOp2 opEq (eOp2 opIx (eBor 6) (eC (.int 0))) (eC (.str [98, 101, 103, 105, 110])))) (sDrop (eAppL (eVar 3) (eOp2 opIx (eBor 6) (eC (.int 1))))) sNext) (sSeq (sIf (tVal (eOp2 opEq (eOp2 opIx (eBor 6) (eC (.int 0))) (eC (.str [103, 111, 110, 101])))) (sAsg (ePlc (lLc (iSeq (eVar 3)) (gNm 8) (tVal (eOp2 opNe (eBor 8) (eOp2 opIx (eBor 6) (eC (.int 1))))) (eVar 8) [8])) (gNm 3)) sNext) (sSeq (sAsg (eIf (tVal (eOp2 opIn (eOp2 opIx (eBor 6) (eC (.int 0))) (eTup (aCons (eC (.str [105, 110])) (aCons (eC (.str [111, 117, 116])) aNil))))) (eDSetd (eVar 2) (eOp2 opIx (eBor 6) (eC (.int 1))) (ePlc (lLst aNil))) (ePlc (lLst aNil))) (gNm 7)) (sSeq (sIf (tVal (eOp2 opEq (eOp2 opIx (eBor 6) (eC (.int 0))) (eC (.str [111, 117, 116])))) (sSeq (sIf (tOr (tVal (eOp2 opEq (eBor 7) (eFrz (lLst aNil)))) (tVal (eOp2 opNe (eOp2 opIx (eBor 7) (eOp1 opNeg (eC (.int 1)))) (eSlT (eVar 6) (oSome (eC (.int 2))) oNone)))) (sRet (eTup (aCons (eC (.str [114, 101, 102, 117, 115, 101, 100])) (aCons (eC (.str [98, 111, 111, 107])) (aCons (eVar 5) aNil))))) sNext) (sDrop (ePopL (eVar 7)))) sNext) (sIf (tVal (eOp2 opEq (eOp2 opIx (eBor 6) (eC (.int 0))) (eC (.str [105, 110])))) (sSeq (sIf (tVal (eOp2 opEq (eOp1 opLen (eBor 7)) (eC (.int 8)))) (sRet (eTup (aCons (eC (.str [114, 101, 102, 117, 115, 101, 100])) (aCons (eC (.str [98, 111, 111, 107])) (aCons (eVar 5) aNil))))) sNext) (sSeq (sDrop (eAppL (eVar 7) (eSlT (eVar 6) (oSome (eC (.int 2))) oNone))) (sFor (iSeq (eFrz (lSrtL (eFrz (lLc (iSeq (eVar 3)) (gNm 8) (tVal (eOp2 opDIn (eVar 8) (eVar 1))) (eVar 8) [8]))))) (gNm 8) (sSeq (sAsg (eFrz (lLc (iSeq (eVar 7)) (gNm 10) (tVal (eOp2 opIn (eOp2 opIx (eBor 10) (eC (.int 0))) (eOp2 opDGet (eVar 1) (eVar 8)))) (eCall f_law_new (aCons (eOp2 opIx (eBor 10) (eC (.int 1))) (aCons (eVar 8) aNil))) [10])) (gNm 9)) (sIf (tAnd (tVal (eOp2 opIn (eOp2 opIx (eBor 6) (eC (.int 2))) (eOp2 opDGet (eVar 1) (eVar 8)))) (tAnd (tVal (eOp2 opGt (eLenSet (eVar 9)) (eC (.int 1)))) (tVal (eOp1 opIsN (eVar 4))))) (sAsg (eTup (aCons (eVar 5) (aCons (eVar 8) aNil))) (gNm 4)) sNext))))) sNext))))))) (sRet (eVar 4))))
def f_law : Fn := runB 1 20 (sSeq (sAsg (eCall f_law_dice (aCons (eVar 0) aNil)) (gNm 1)) (sSeq (sFor (iRng (eC (.int 3))) (gNm 2) (sSeq (sPar3 3 4 5 (aCons (eOp2 opAdd (eC (.int 1)) (eCall f_law_next (aCons (eVar 1) (aCons (eC (.int 4)) aNil)))) (aCons (eOp2 opAdd (eC (.int 1)) (eCall f_law_next (aCons (eVar 1) (aCons (eC (.int 8)) aNil)))) (aCons (eOp2 opAdd (eC (.int 2)) (eCall f_law_next (aCons (eVar 1) (aCons (eC (.int 6)) aNil)))) aNil)))) (sSeq (sPar3 6 7 8 (aCons eDic0 (aCons (ePlc (lLst aNil)) (aCons (eFrz (lLc (iRng (eC (.int 4))) (gNm 12) tYesM (ePlc (lLst aNil)) [12])) aNil)))) (sSeq (sFor (iRng (eCall f_law_next (aCons (eVar 1) (aCons (eC (.int 5)) aNil)))) (gNm 9) (sSetD (eVar 6) (eVar 9) (eOp1 opTuple (eFrz (lLc (iRng (eVar 4)) (gNm 19) (tVal (eOp2 opEq (eCall f_law_next (aCons (eVar 1) (aCons (eC (.int 2)) aNil))) (eC (.int 0)))) (eVar 19) [19]))))) (sSeq (sIf (tVal (eOp2 opEq (eCall f_law_next (aCons (eVar 1) (aCons (eC (.int 2)) aNil))) (eC (.int 0)))) (sAsg (ePlc (lLc (iRng (eC (.int 5))) (gNm 9) (tVal (eOp2 opGt (eCall f_law_next (aCons (eVar 1) (aCons (eC (.int 4)) aNil))) (eC (.int 0)))) (eTup (aCons (eC (.str [98, 101, 103, 105, 110])) (aCons (eVar 9) aNil))) [9])) (gNm 7)) sNext) (sSeq (sFor (iRng (eCall f_law_next (aCons (eVar 1) (aCons (eC (.int 61)) aNil)))) (gNm 10) (sSeq (sPar3 11 12 9 (aCons (eCall f_law_next (aCons (eVar 1) (aCons (eC (.int 8)) aNil))) (aCons (eCall f_law_next (aCons (eVar 1) (aCons (eVar 3) aNil))) (aCons (eCall f_law_next (aCons (eVar 1) (aCons (eC (.int 5)) aNil))) aNil)))) (sSeq (sAsg (eTup (aCons (eCall f_law_next (aCons (eVar 1) (aCons (eVar 4) aNil))) (aCons (eOp2 opIx (eFrz (lLst (aCons (eC .non) (aCons (eCall f_law_next (aCons (eVar 1) (aCons (eC (.int 5)) aNil))) aNil)))) (eOp1 opIntOf (eOp2 opEq (eCall f_law_next (aCons (eVar 1) (aCons (eVar 5) aNil))) (eC (.int 0))))) aNil))) (gNm 13)) (sSeq (sAsg (eOp2 opAdd (eTup (aCons (eC (.str [105, 110])) (aCons (eVar 12) aNil))) (eBor 13)) (gNm 14)) (sSeq (sIf (tAnd (tVal (eOp2 opGt (eBor 11) (eC (.int 4)))) (tVal (eOp2 opNe (eOp2 opIx (eBor 8) (eBor 12)) (eFrz (lLst aNil))))) (sSeq (sAsg (eIf (tVal (eOp2 opGt (eCall f_law_next (aCons (eVar 1) (aCons (eC (.int 30)) aNil))) (eC (.int 0)))) (eOp2 opIx (eOp2 opIx (eBor 8) (eBor 12)) (eOp1 opNeg (eC (.int 1)))) (eVar 13)) (gNm 13)) (sSeq (sAsg (eOp2 opAdd (eTup (aCons (eC (.str [111, 117, 116])) (aCons (eVar 12) aNil))) (eBor 13)) (gNm 14)) (sDrop (ePopL (eOp2 opIx (eBor 8) (eBor 12)))))) (sIf (tVal (eOp2 opLt (eBor 11) (eC (.int 2)))) (sSeq (sAsg (eFrz (lLst (aCons (eTup (aCons (eC (.str [98, 101, 103, 105, 110])) (aCons (eVar 9) aNil))) (aCons (eTup (aCons (eC (.str [103, 111, 110, 101])) (aCons (eVar 9) aNil))) (aCons (eTup (aCons (eC (.str [111, 102, 102])) (aCons (eVar 9) aNil))) (aCons (eTup (aCons (eC (.str [116, 117, 114, 110])) (aCons (eVar 9) aNil))) (aCons (eTup (aCons (eC (.str [115, 116, 97, 110, 100, 115])) (aCons (eVar 9) aNil))) aNil))))))) (gNm 15)) (sAsg (eOp2 opIx (eFrz (lAdd (eBor 15) (eFrz (lLst (aCons (eTup (aCons (eC (.str [111, 118, 101, 114])) (aCons (eVar 12) (aCons (eVar 9) aNil)))) aNil))))) (eCall f_law_next (aCons (eVar 1) (aCons (eC (.int 6)) aNil)))) (gNm 14))) (sDrop (eAppL (eOp2 opIx (eBor 8) (eBor 12)) (eVar 13))))) (sDrop (eAppL (eVar 7) (eVar 14)))))))) (sSeq (sAsg (eFrz (lLst (aCons (eFrz (lOf (eBor 7))) (aCons (eDCopy (eVar 6)) aNil)))) (gNm 16)) (sFor (iRng (eC (.int 2))) (gNm 17) (sSeq (sAsg (eTold (eCall f_mixture (aCons (eOp2 opIx (eBor 16) (eC (.int 0))) (aCons (eOp2 opIx (eBor 16) (eC (.int 1))) aNil))) h_law_told 5 1 [1]) (gNm 18)) (sIf (tOr (tNot (tVal (eCall (f_law_like 6) (aCons (eVar 18) (aCons (eCall f_law_reading (aCons (eVar 7) (aCons (eVar 6) aNil))) aNil))))) (tVal (eOp2 opNeX (eBor 16) (eFrz (lLst (aCons (eVar 7) (aCons (eVar 6) aNil))))))) (sRet (eC (.bl false))) sNext)))))))))) (sRet (eC (.bl true)))))
end K15

/-! The plain law of k15, part 1: the dice. Own text. -/
namespace K15
open MP
/-- a dice in its place -/
def Dice (s : Sto) (n : Nat) : Prop := ∃ (ns : List Int) (i c a : Int), 0 ≤ i ∧ s[n]? = some (.lst [.scr ns, .int i, .int c, .int a])
theorem next_ok {s : Sto} {n : Nat} {m : Int} (hd : Dice s n) (h0 : 0 < m) (h1 : m < 1073741824) : ∃ r s', f_law_next [.ref n, .int m] s = .ok (.int r) s' ∧ 0 ≤ r ∧ r < m ∧ Dice s' n ∧ s'.length = s.length ∧ ∀ j, j ≠ n → s'[j]? = s[j]? := by
  obtain ⟨ns, i, c, a, hi, e⟩ := hd
  have hn : n < s.length := (List.getElem?_eq_some_iff.mp e).1
  by_cases ha : 0 < a
  · refine ⟨a % m, s.set n (.lst [.scr ns, .int i, .int c, .int (a / m)]), ?_, Int.emod_nonneg _ (by omega), Int.emod_lt_of_pos _ h0, ⟨ns, i, c, a / m, hi, by simp [hn]⟩, by simp, fun j hj => by simp [Ne.symm hj]⟩
    simp [f_law_next, e, ha, h0, h1, opIx, opGt, opCmp, opMod, opDiv, seqOf, ixD, place]
  · by_cases hl : i + 1 ≤ ns.length
    · have hk : i.toNat < ns.length := by omega
      obtain ⟨z, hz⟩ : ∃ z, ns[i.toNat]? = some z := ⟨_, List.getElem?_eq_getElem hk⟩
      refine ⟨z % m, s.set n (.lst [.scr ns, .int (i + 1), .int c, .int (if 1000000000000000000 ≤ z then z / m else 0)]), ?_, Int.emod_nonneg _ (by omega), Int.emod_lt_of_pos _ h0, ⟨ns, i + 1, c, if 1000000000000000000 ≤ z then z / m else 0, by omega, by simp [hn]⟩, by simp, fun j hj => by simp [Ne.symm hj]⟩
      have hlt : i < (ns.length : Int) := by omega
      have hz2 : ns[i.toNat] = z := (List.getElem?_eq_some_iff.mp hz).2
      by_cases hb : 1000000000000000000 ≤ z <;> simp [hlt, hz2, f_law_next, e, List.getElem?_set_self', ha, h0, h1, hl, hz, hb, opIx, opGt, opLe, opGe, opCmp, opMod, opDiv, opAdd, opSub, opLen, opPow, seqOf, ixD, place, hi]
    · refine ⟨c * 48271 % 2147483647 / 7 % m, s.set n (.lst [.scr ns, .int (i + 1), .int (c * 48271 % 2147483647), .int a]), ?_, Int.emod_nonneg _ (by omega), Int.emod_lt_of_pos _ h0, ⟨ns, i + 1, c * 48271 % 2147483647, a, by omega, by simp [hn]⟩, by simp, fun j hj => by simp [Ne.symm hj]⟩
      simp [f_law_next, e, List.getElem?_set_self', ha, h0, h1, hl, opIx, opGt, opLe, opGe, opCmp, opMod, opDiv, opAdd, opSub, opMul, opLen, opPow, seqOf, ixD, place, smallI]
theorem dice_loop (ns : List Int) (a0 : D) : ∀ (l : List Int) (c : Int) (z : Slot) (s : Sto), ∃ c' z', forP (gNm 2) (sAsg (eOp2 opMod (eOp2 opAdd (eOp2 opAdd (eOp2 opMul (eBor 1) (eC (.int 48271))) (eOp2 opMul (eOp2 opMod (eBor 2) (eC (.int 2147483647))) (eC (.int 69621)))) (eC (.int 11))) (eC (.int 2147483647))) (gNm 1)) (l.map D.int) [.val a0, .val (.int c), z] s = .nx [.val a0, .val (.int c'), z'] s
  | [], c, z, s => ⟨c, z, rfl⟩
  | x :: l, c, z, s => by
    obtain ⟨c', z', h⟩ := dice_loop ns a0 l ((c * 48271 + x % 2147483647 * 69621 + 11) % 2147483647) (.val (.int x)) s
    refine ⟨c', z', ?_⟩
    rw [← h]
    simp [forP, opMod, opAdd, opMul, smallI]
theorem dice_ok (ns : List Int) (s : Sto) : ∃ s', f_law_dice [.scr ns] s = .ok (.ref s.length) s' ∧ Dice s' s.length ∧ s'.length = s.length + 1 ∧ ∀ j, j < s.length → s'[j]? = s[j]? := by
  obtain ⟨c, z, h⟩ := dice_loop ns (.scr ns) ns 0 .emp s
  refine ⟨s ++ [.lst [.scr ns, .int 0, .int (c * (if 2 < (ns.length : Int) then 1 else 0)), .int 0]], ?_, ⟨ns, 0, c * (if 2 < (ns.length : Int) then 1 else 0), 0, by omega, by simp⟩, by simp, fun j hj => by rw [List.getElem?_append_left hj]⟩
  unfold f_law_dice
  rw [s_runB]
  simp only [List.length_cons, List.length_nil, if_true]
  rw [s_sSeq]
  simp only [s_sAsg, s_eC, Res.go_ok, s_putE, s_gNm, SRes.andThen_nx, List.map_cons, List.map_nil, List.replicate, List.cons_append, List.nil_append, List.set_cons_succ, List.set_cons_zero]
  rw [s_sSeq, s_sFor _ _ _ _ _ s (ns.map D.int) (by simp [srcOf])]
  erw [h]
  by_cases hk : 2 < (ns.length : Int) <;> simp [opMul, opIntOf, opGt, opCmp, opLen, smallI, hk]
def Fr (n : Nat) (s s' : Sto) : Prop := Dice s' n ∧ s'.length = s.length ∧ ∀ j, j ≠ n → s'[j]? = s[j]?
theorem Fr.trans {n : Nat} {a b c : Sto} (x : Fr n a b) (y : Fr n b c) : Fr n a c := ⟨y.1, y.2.1.trans x.2.1, fun j hj => (y.2.2 j hj).trans (x.2.2 j hj)⟩
theorem nx {s : Sto} {n : Nat} {m : Int} (hd : Dice s n) (h0 : 0 < m := by omega) (h1 : m < 1073741824 := by omega) : ∃ r s', f_law_next [.ref n, .int m] s = .ok (.int r) s' ∧ 0 ≤ r ∧ r < m ∧ Fr n s s' := by
  obtain ⟨r, s', h, a, b, c, d, e⟩ := next_ok hd h0 h1
  exact ⟨r, s', h, a, b, c, d, e⟩
theorem eqD_int (i j : Int) : eqD (.int i) (.int j) = some (i == j) := rfl
theorem Fr.refl {n : Nat} {s : Sto} (h : Dice s n) : Fr n s s := ⟨h, rfl, fun _ _ => rfl⟩
theorem lc_all {Q P : D → Prop} {n : Nat} {g : MG} {e : ME} {env : Env} (h : ∀ d s, Q d → Dice s n → ∃ env1 y s', g d env = some env1 ∧ e env1 s = .ok y s' ∧ P y ∧ Fr n s s') : ∀ (l : List D) (s : Sto), (∀ d ∈ l, Q d) → Dice s n →
    ∃ ys s', lcP g tYesM e env l s = .ok ys s' ∧ ys.length = l.length ∧ (∀ y ∈ ys, P y) ∧ Fr n s s'
  | [], s, _, hd => ⟨[], s, rfl, rfl, fun _ h => (nomatch h), Fr.refl hd⟩
  | d :: l, s, hq, hd => by
    obtain ⟨env1, y, s1, e1, e2, p, f⟩ := h d s (hq d List.mem_cons_self) hd
    obtain ⟨ys, s2, e3, hl, ps, f2⟩ := lc_all h l s1 (fun d m => hq d (List.mem_cons_of_mem _ m)) f.1
    refine ⟨y :: ys, s2, by simp [lcP, e1, e2, e3], by simp [hl], fun z m => ?_, f.trans f2⟩
    rcases List.mem_cons.mp m with m | m
    · subst m; exact p
    · exact ps z m
theorem lc_pick {Q : D → Prop} {n : Nat} {g : MG} {t : MT} {e : ME} {env : Env} (h : ∀ d s, Q d → Dice s n → ∃ env1 b s', g d env = some env1 ∧ t env1 s = .ok b s' ∧ e env1 s' = .ok d s' ∧ Fr n s s') : ∀ (l : List D) (s : Sto), (∀ d ∈ l, Q d) → Dice s n →
    ∃ ys s', lcP g t e env l s = .ok ys s' ∧ ys.length ≤ l.length ∧ (∀ y ∈ ys, y ∈ l) ∧ Fr n s s'
  | [], s, _, hd => ⟨[], s, rfl, Nat.le_refl _, fun _ h => (nomatch h), Fr.refl hd⟩
  | d :: l, s, hq, hd => by
    obtain ⟨env1, b, s1, e1, e2, e3, f⟩ := h d s (hq d List.mem_cons_self) hd
    obtain ⟨ys, s2, e4, hl, ps, f2⟩ := lc_pick h l s1 (fun d m => hq d (List.mem_cons_of_mem _ m)) f.1
    cases b with
    | true =>
      refine ⟨d :: ys, s2, by simp [lcP, e1, e2, e3, e4], by simp [hl], fun z m => ?_, f.trans f2⟩
      rcases List.mem_cons.mp m with m | m
      · subst m; exact List.mem_cons_self
      · exact List.mem_cons_of_mem _ (ps z m)
    | false => exact ⟨ys, s2, by simp [lcP, e1, e2, e4], by simp; omega, fun z m => List.mem_cons_of_mem _ (ps z m), f.trans f2⟩
theorem ints_len (n : Nat) : (intsD 0 n).length = n := by simp [intsD]
theorem ints_mem {n : Nat} {d : D} (h : d ∈ intsD 0 n) : ∃ k : Int, d = .int k ∧ 0 ≤ k ∧ k < n := by
  unfold intsD at h
  obtain ⟨k, hk, rfl⟩ := List.mem_map.mp h
  have := List.mem_range.mp hk
  exact ⟨_, rfl, by omega, by omega⟩
theorem rng {env : Env} {s : Sto} {m : ME} {k : Int} {s1 : Sto} (e : m env s = .ok (.int k) s1) (h0 : 0 ≤ k) (h1 : k ≤ 1000) : iRng m env s = .ok ⟨intsD 0 k.toNat, none⟩ s1 := by
  have hc : -(cap : Int) ≤ k ∧ k ≤ cap := by unfold cap; omega
  simp [e, hc]
theorem len_cap {n : Nat} (h : n ≤ 1000) : n ≤ cap := by unfold cap; omega
theorem ints_list {b : Int} : ∀ {l : List D}, (∀ d ∈ l, ∃ k : Int, d = .int k ∧ 0 ≤ k ∧ k < b) → ∃ ns : List Int, l = ns.map D.int ∧ ∀ k ∈ ns, 0 ≤ k ∧ k < b
  | [], _ => ⟨[], rfl, fun _ h => (nomatch h)⟩
  | d :: l, h => by
    obtain ⟨k, rfl, hk⟩ := h d List.mem_cons_self
    obtain ⟨ns, rfl, hn⟩ := ints_list fun d m => h d (List.mem_cons_of_mem _ m)
    refine ⟨k :: ns, rfl, fun j hj => ?_⟩
    rcases List.mem_cons.mp hj with e | hj
    · subst e; exact hk
    · exact hn j hj
def Gr (s s' : Sto) : Prop := s.length ≤ s'.length ∧ ∀ j, j < s.length → s'[j]? = s[j]?
theorem Gr.refl (s : Sto) : Gr s s := ⟨Nat.le_refl _, fun _ _ => rfl⟩
theorem Gr.trans {a b c : Sto} (x : Gr a b) (y : Gr b c) : Gr a c := ⟨Nat.le_trans x.1 y.1, fun j hj => (y.2 j (Nat.lt_of_lt_of_le hj x.1)).trans (x.2 j hj)⟩
theorem Gr.app (s t : Sto) : Gr s (s ++ t) := ⟨by simp, fun j hj => by rw [List.getElem?_append_left hj]⟩
/-! ### the words of books by simp -/
@[simp] theorem s_sPar3 (i j k : Nat) (a : MA) (e : Env) (s : Sto) : sPar3 i j k a e s = (a e s).go e fun ds s1 => match ds with | [x, y, z] => .nx (((e.set i (.val x)).set j (.val y)).set k (.val z)) s1 | _ => .stk := rfl
@[simp] theorem s_sStP (m : ME) (g : MG) (e : Env) (s : Sto) : sStP m g e s = (m e s).go e fun x s1 => starAt g x e s1 := rfl
@[simp] theorem s_dicAt (o : ME) (f : D → Env → Sto → Res D) (env : Env) (s : Sto) : dicAt o f env s = (o env s).bind fun x s1 => if (dicOf s1 x).isSome then f x env s1 else .stk := rfl
@[simp] theorem s_plAt (o : ME) (f : D → Env → Sto → Res D) (env : Env) (s : Sto) : plAt o f env s = (o env s).bind fun x s1 => if (plOf s1 x).isSome then f x env s1 else .stk := rfl
@[simp] theorem s_lSrtD (a : ME) (env : Env) (s : Sto) : lSrtD a env s = (a env s).bind fun x s1 => srtdAt x s1 := rfl
@[simp] theorem s_lSrtL (a : ME) (env : Env) (s : Sto) : lSrtL a env s = (a env s).bind fun x s1 => setLAt x s1 := rfl
@[simp] theorem s_eLenSet (a : ME) (env : Env) (s : Sto) : eLenSet a env s = (a env s).bind fun x s1 => lenSetAt x s1 := rfl
@[simp] theorem s_eDCopy (a : ME) (env : Env) (s : Sto) : eDCopy a env s = (a env s).bind fun x s1 => dcopyAt x s1 := rfl
@[simp] theorem s_eDic0 (env : Env) (s : Sto) : eDic0 env s = .ok (.ref s.length) (s ++ [.dic []]) := rfl
/-! ### walks that change nothing -/
section
variable {α : Type} {emb : α → D} {P : α → Bool} {F : α → D} {g : MG} {t : MT} {e : ME} {env : Env} {s : Sto}
def Walks (emb : α → D) (P : α → Bool) (F : α → D) (g : MG) (t : MT) (e : ME) (env : Env) (s : Sto) (l : List α) : Prop := ∀ x ∈ l, ∃ env1, g (emb x) env = some env1 ∧ t env1 s = .ok (P x) s ∧ (P x = true → e env1 s = .ok (F x) s)
theorem lc_typed : ∀ l : List α, Walks emb P F g t e env s l → lcP g t e env (l.map emb) s = .ok ((l.filter P).map F) s
  | [], _ => rfl
  | x :: l, h => by
    obtain ⟨env1, h1, h2, h3⟩ := h x List.mem_cons_self
    have ih := lc_typed l fun y m => h y (List.mem_cons_of_mem _ m)
    rw [List.map_cons]
    cases hp : P x with
    | true =>
      rw [hp] at h2
      simp [lcP, h1, h2, h3 hp, ih, hp]
    | false =>
      rw [hp] at h2
      simp [lcP, h1, h2, ih, hp]
theorem lc_pinned {n : Nat} {ds : List D} (hn : s[n]? = some (.lst ds)) : ∀ (l : List α) (i : Nat), ds.drop i = l.map emb → Walks emb P F g t e env s l → lcL ⟨ds, some n⟩ g t e env i (l.map emb) s = .ok ((l.filter P).map F) s
  | [], i, _, _ => by simp [lcL, fin, hn]
  | x :: l, i, hd, h => by
    obtain ⟨env1, h1, h2, h3⟩ := h x List.mem_cons_self
    have hi : ds[i]? = some (emb x) := by
      rw [← List.head?_drop, hd]
      rfl
    have hl : ds.drop (i + 1) = l.map emb := by
      rw [← List.tail_drop, hd]
      rfl
    have ih := lc_pinned hn l (i + 1) hl fun y m => h y (List.mem_cons_of_mem _ m)
    have hc : cur ⟨ds, some n⟩ s i (emb x) = some (emb x) := by simp [cur, hn, hi]
    rw [List.map_cons]
    cases hp : P x with
    | true =>
      rw [hp] at h2
      simp [lcL, hc, h1, h2, h3 hp, ih, hp]
    | false =>
      rw [hp] at h2
      simp [lcL, hc, h1, h2, ih, hp]
theorem lLc_val {mi : MI} {vs : List Nat} {l : List α} (hm : mi env s = .ok ⟨l.map emb, none⟩ s) (hl : l.length ≤ cap) (h : Walks emb P F g t e (wipeE env vs) s l) : lLc mi g t e vs env s = .ok ((l.filter P).map F) s := by
  rw [s_lLc mi g t e vs env s s (l.map emb) hm (by simpa using hl)]
  exact lc_typed l h
theorem lLc_pin {m : ME} {vs : List Nat} {n : Nat} {l : List α} (hm : m env s = .ok (.ref n) s) (hn : s[n]? = some (.lst (l.map emb))) (hl : l.length ≤ cap) (h : Walks emb P F g t e (wipeE env vs) s l) : lLc (iSeq m) g t e vs env s = .ok ((l.filter P).map F) s := by
  have e1 : iSeq m env s = .ok ⟨l.map emb, some n⟩ s := by simp [hm, srcOf, hn]
  show (iSeq m env s).bind _ = _
  rw [e1]
  simp only [Res.bind_ok, List.length_map]
  rw [if_pos hl]
  exact lc_pinned hn l 0 rfl h
end
end K15

/-! The plain law of k15, part 2: piles, sets, what mixes. Own text. -/
namespace K15
open MP
abbrev Pr := Int × Option Int
abbrev SM := List (Int × List Int)
def chD : Option Int → D
  | none => .non
  | some c => .int c
def prD (p : Pr) : D := .tup [.int p.1, chD p.2]
def sd (c : Option Int) (n : Int) : Bool := match c with | none => false | some c => decide (n ≤ c)
theorem side_ok (c : Option Int) (n : Int) (s : Sto) : f_side [chD c, .int n] s = .ok (.bl (sd c n)) s := by
  cases c <;> simp [f_side, chD, opNotN, isNon, opGe, opCmp, sd]
theorem new_ok (c : Option Int) (n : Int) (s : Sto) : f_law_new [chD c, .int n] s = .ok (.bl (sd c n)) s := by
  cases c <;> simp [f_law_new, chD, opNotN, isNon, opGe, opCmp, sd]
def kvD (p : Int × List Int) : D × D := (.int p.1, .tup (p.2.map D.int))
def setsD (M : SM) : List (D × D) := M.map kvD
theorem look_sets (n : Int) : ∀ M : SM, dLook (setsD M) (.int n) = (M.lookup n).map fun l => D.tup (l.map D.int)
  | [] => rfl
  | (m, l) :: M => by
    have ih := look_sets n M
    by_cases h : m = n
    · subst h
      simp [setsD, kvD, dLook, keyEq, List.lookup]
    · have h' : (n == m) = false := by
        rw [beq_eq_false_iff_ne]
        exact fun z => h z.symm
      unfold dLook setsD at ih ⊢
      simp only [List.map_cons, kvD, List.find?_cons, keyEq, h, decide_false, List.lookup, h']
      exact ih
theorem flat_ints : ∀ l : List Int, (l.map D.int).all isFlat = true
  | [] => rfl
  | a :: l => by simp [isFlat, flat_ints l]
theorem any_ints (d : Int) : ∀ l : List Int, ((l.map D.int).any fun x => x.eqv (.int d)) = decide (d ∈ l)
  | [] => by simp
  | a :: l => by
    rw [List.map_cons, List.any_cons, any_ints d l]
    by_cases h : a = d
    · subst h; simp [D.eqv]
    · have h' : ¬ d = a := fun z => h z.symm
      simp [D.eqv, h, h']
theorem in_ints (s : Sto) (d : Int) (l : List Int) : opIn s (.int d) (.tup (l.map D.int)) = some (.bl (decide (d ∈ l))) := by
  have h1 := flat_ints l
  have h2 := any_ints d l
  show (inD s (.int d) (.tup (l.map D.int))).map D.bl = _
  unfold inD
  simp only [seqOf, h1, isFlat, Bool.and_self, if_true, h2, Option.map_some]
/-- whether a deed is of a change -/
def hasS (M : SM) (n d : Int) : Bool := match M.lookup n with | some l => decide (d ∈ l) | none => false
theorem get_sets {s : Sto} {N : Nat} {M : SM} {n : Int} {l : List Int} (hN : s[N]? = some (.dic (setsD M))) (h : M.lookup n = some l) : opDGet s (.ref N) (.int n) = some (.tup (l.map D.int)) := by
  simp [opDGet, isKey, dicOf, hN, look_sets, h]
theorem has_at {M : SM} {n d : Int} {l : List Int} (h : M.lookup n = some l) : hasS M n d = decide (d ∈ l) := by
  unfold hasS
  rw [h]
def mixes (M : SM) (n : Int) (bs : List Pr) (last : Pr) : Bool := !((bs.filter fun one => hasS M n one.1 && hasS M n last.1).filter fun one => sd one.2 n != sd last.2 n).isEmpty
theorem ne_nil (s : Sto) (xs : List D) : opNe s (.lst xs) (.lst []) = some (.bl (!xs.isEmpty)) := by
  cases xs <;> rfl
theorem ne_bl (s : Sto) (a b : Bool) : opNe s (.bl a) (.bl b) = some (.bl (a != b)) := by
  cases a <;> cases b <;> rfl
theorem ix0 (a : D) (r : List D) (s : Sto) : opIx s (.tup (a :: r)) (.int 0) = some a := by simp [opIx, seqOf, ixD, place]
theorem ix1 (a b : D) (r : List D) (s : Sto) : opIx s (.tup (a :: b :: r)) (.int 1) = some b := by
  have h : (1 : Int) < (r.length : Int) + 1 + 1 := by omega
  simp [opIx, seqOf, ixD, place, h]
theorem ix2 (a b c : D) (r : List D) (s : Sto) : opIx s (.tup (a :: b :: c :: r)) (.int 2) = some c := by
  have h : (2 : Int) < (r.length : Int) + 1 + 1 + 1 := by omega
  simp [opIx, seqOf, ixD, place, h]
def c1T : MT := (tAnd (tVal (eOp2 opIn (eOp2 opIx (eBor 9) (eC (.int 0))) (eOp2 opDGet (eVar 1) (eVar 7)))) (tVal (eOp2 opIn (eBor 4) (eOp2 opDGet (eVar 1) (eVar 7)))))
def c2T : MT := (tVal (eOp2 opNe (eCall f_side (aCons (eOp2 opIx (eBor 9) (eC (.int 1))) (aCons (eVar 7) aNil))) (eCall f_side (aCons (eVar 5) (aCons (eVar 7) aNil)))))
def mb : MS := (sSeq (sAsg (eFrz (lLc (iSeq (eVar 2)) (gNm 9) c1T (eVar 9) [9])) (gNm 8)) (sIf (tVal (eOp2 opNe (eFrz (lLc (iSeq (eVar 8)) (gNm 9) c2T (eVar 9) [9])) (eFrz (lLst aNil)))) (sApp 6 (eVar 7)) sNext))
abbrev mE (a0 : Slot) (N : Nat) (bs : List Pr) (last : Pr) (acc : List D) (z7 z8 : Slot) : Env := [a0, .val (.ref N), .val (.lst (bs.map prD)), .val (prD last), .val (.int last.1), .val (chD last.2), .own acc, z7, z8, .emp]
theorem c1_ok {s : Sto} {N : Nat} {M : SM} {n : Int} {l : List Int} (hN : s[N]? = some (.dic (setsD M))) (h : M.lookup n = some l) (a0 : Slot) (bs : List Pr) (hb : bs.length ≤ 1000) (last : Pr) (acc : List D) (z8 : Slot) :
    lLc (iSeq (eVar 2)) (gNm 9) c1T (eVar 9) [9] (mE a0 N bs last acc (.val (.int n)) z8) s = .ok ((bs.filter fun one => hasS M n one.1 && hasS M n last.1).map prD) s := by
  refine lLc_val (emb := prD) (l := bs) (by simp [srcOf]) (len_cap hb) fun x _ => ⟨mE a0 N bs last acc (.val (.int n)) z8 |>.set 9 (.val (prD x)), rfl, ?_, fun _ => by simp⟩
  have e1 : opIx s (prD x) (.int 0) = some (.int x.1) := ix0 _ _ s
  have g := get_sets hN h
  simp only [has_at h]
  by_cases hx : x.1 ∈ l
  · simp [c1T, e1, g, in_ints, hx]
  · simp [c1T, e1, g, in_ints, hx]
theorem c2_ok {s : Sto} {N : Nat} {n : Int} (a0 : Slot) (bs : List Pr) (last : Pr) (acc : List D) (cs : List Pr) (hb : cs.length ≤ 1000) :
    lLc (iSeq (eVar 8)) (gNm 9) c2T (eVar 9) [9] (mE a0 N bs last acc (.val (.int n)) (.val (.lst (cs.map prD)))) s = .ok ((cs.filter fun one => sd one.2 n != sd last.2 n).map prD) s := by
  refine lLc_val (emb := prD) (l := cs) (by simp [srcOf]) (len_cap hb) fun x _ => ⟨mE a0 N bs last acc (.val (.int n)) (.val (.lst (cs.map prD))) |>.set 9 (.val (prD x)), rfl, ?_, fun _ => by simp⟩
  have e1 : opIx s (prD x) (.int 1) = some (chD x.2) := ix1 _ _ _ s
  simp [c2T, e1, side_ok, ne_bl]
theorem mb_ok {s : Sto} {N : Nat} {M : SM} {n : Int} {l : List Int} (hN : s[N]? = some (.dic (setsD M))) (h : M.lookup n = some l) (a0 : Slot) (bs : List Pr) (hb : bs.length ≤ 1000) (last : Pr) (acc : List D) (ha : acc.length < 1000) (z8 : Slot) :
    ∃ z8', mb (mE a0 N bs last acc (.val (.int n)) z8) s = .nx (mE a0 N bs last (if mixes M n bs last then acc ++ [.int n] else acc) (.val (.int n)) z8') s := by
  have e1 := c1_ok hN h a0 bs hb last acc z8
  have hf : (bs.filter fun one => hasS M n one.1 && hasS M n last.1).length ≤ 1000 := Nat.le_trans (List.length_filter_le _ _) hb
  have e2 := c2_ok (s := s) (N := N) (n := n) a0 bs last acc (bs.filter fun one => hasS M n one.1 && hasS M n last.1) hf
  have hc : acc.length < cap := by unfold cap; omega
  refine ⟨.val (.lst ((bs.filter fun one => hasS M n one.1 && hasS M n last.1).map prD)), ?_⟩
  unfold mb
  simp only [s_sSeq, s_sAsg, s_eFrz, e1, Res.bind_ok, Res.go_ok, s_putE, s_gNm, List.set_cons_succ, List.set_cons_zero, SRes.andThen_nx, s_sIf, s_tVal, s_eOp2, e2, s_lLst, s_aNil, List.length_nil, Nat.zero_le, if_true, ne_nil, Res.ofO_some, asB_bl]
  have em : mixes M n bs last = !(((bs.filter fun one => hasS M n one.1 && hasS M n last.1).filter fun one => sd one.2 n != sd last.2 n).map prD).isEmpty := by
    unfold mixes
    rw [List.isEmpty_map]
  rw [← em]
  cases mixes M n bs last with
  | true => simp [hc]
  | false => simp
theorem mix_loop {s : Sto} {N : Nat} {M : SM} (hN : s[N]? = some (.dic (setsD M))) (a0 : Slot) (bs : List Pr) (hb : bs.length ≤ 1000) (last : Pr) : ∀ (l : List Int) (acc : List D) (z7 z8 : Slot), (∀ n ∈ l, ∃ ds, M.lookup n = some ds) → acc.length + l.length < 1000 →
    ∃ z7' z8', forP (gNm 7) mb (l.map D.int) (mE a0 N bs last acc z7 z8) s = .nx (mE a0 N bs last (acc ++ (l.filter fun n => mixes M n bs last).map D.int) z7' z8') s
  | [], acc, z7, z8, _, _ => ⟨z7, z8, by simp [forP]⟩
  | n :: l, acc, z7, z8, hl, hc => by
    obtain ⟨ds, hd⟩ := hl n List.mem_cons_self
    rw [List.length_cons] at hc
    obtain ⟨y8, e1⟩ := mb_ok hN hd a0 bs hb last acc (by omega) z8
    obtain ⟨w7, w8, e2⟩ := mix_loop hN a0 bs hb last l (if mixes M n bs last then acc ++ [.int n] else acc) (.val (.int n)) y8 (fun m hm => hl m (List.mem_cons_of_mem _ hm)) (by
      split
      · rw [List.length_append]; rw [List.length_singleton]; omega
      · omega)
    refine ⟨w7, w8, ?_⟩
    rw [List.map_cons]
    simp only [forP, s_gNm, List.set_cons_succ, List.set_cons_zero, e1]
    rw [e2]
    cases hm : mixes M n bs last <;> simp [hm]
def optI : Option Int → D
  | none => .non
  | some n => .int n
theorem intsOf_map : ∀ l : List Int, intsOf (l.map D.int) = some l
  | [] => rfl
  | a :: l => by simp [intsOf, intsOf_map l]
theorem keys_sets (M : SM) : (setsD M).map (·.1) = (M.map (·.1)).map D.int := by
  unfold setsD
  rw [List.map_map, List.map_map]; rfl
theorem look_some : ∀ {M : SM} {n : Int}, n ∈ M.map (·.1) → ∃ l, M.lookup n = some l
  | (m, l) :: M, n, h => by
    by_cases e : n = m
    · subst e; exact ⟨l, by simp [List.lookup]⟩
    · rw [List.map_cons, List.mem_cons] at h
      obtain ⟨l', h'⟩ := look_some (h.resolve_left e)
      exact ⟨l', by simp only [List.lookup, beq_eq_false_iff_ne.mpr e]; exact h'⟩
theorem insU_mem {n k : Int} : ∀ {l : List Int}, k ∈ insU n l ↔ k = n ∨ k ∈ l
  | [] => by simp [insU]
  | m :: r => by
    unfold insU
    split
    · simp
    · split
      · rename_i e
        subst e
        simp
      · simp only [List.mem_cons, insU_mem (l := r)]
        constructor <;> (rintro (h | h | h) <;> simp [h])
theorem insU_len {n : Int} : ∀ {l : List Int}, (insU n l).length ≤ l.length + 1
  | [] => by simp [insU]
  | m :: r => by
    unfold insU
    split
    · simp
    · split
      · simp
      · simp only [List.length_cons]; exact Nat.succ_le_succ insU_len
theorem sortU_mem {k : Int} : ∀ {l : List Int}, k ∈ sortU l ↔ k ∈ l
  | [] => Iff.rfl
  | n :: l => by
    show k ∈ insU n (sortU l) ↔ _
    rw [insU_mem, sortU_mem, List.mem_cons]
theorem sortU_len : ∀ {l : List Int}, (sortU l).length ≤ l.length
  | [] => Nat.le_refl _
  | n :: l => Nat.le_trans insU_len (Nat.succ_le_succ sortU_len)
def fin1 : MS := (sRet (eIf (tVal (eOp2 opNe (eBor 6) (eFrz (lLst aNil)))) (eOp2 opIx (eBor 6) (eC (.int 0))) (eC .non)))
theorem mixing_eq : f_mixing = runB 2 10 (sSeq (sStP (eVar 0) (gSt [] [(gNm 3)] 2)) (sSeq (sAsg (eVar 3) (gTp [(gNm 4), (gNm 5)])) (sSeq (sOwn (lLst aNil) 6) (sSeq (sFor (iSeq (eFrz (lSrtD (eVar 1)))) (gNm 7) mb) fin1)))) := rfl
theorem fin1_ok (a0 : Slot) (N : Nat) (bs : List Pr) (last : Pr) (l : List Int) (z7 z8 : Slot) (s : Sto) : fin1 (mE a0 N bs last (l.map D.int) z7 z8) s = .rt (optI l.head?) s := by
  cases l with
  | nil => simp [fin1, ne_nil, optI]
  | cons a l => simp [fin1, ne_nil, optI, opIx, seqOf, ixD, place]
theorem mixing_ok {s : Sto} {q N : Nat} {bs : List Pr} {last : Pr} {M : SM} (hq : s[q]? = some (.lst ((bs ++ [last]).map prD))) (hN : s[N]? = some (.dic (setsD M))) (hl : M.length < 64) (hn : (M.map (·.1)).Nodup) (hb : bs.length ≤ 1000) :
    f_mixing [.ref q, .ref N] s = .ok (optI ((sortU (M.map (·.1))).find? fun n => mixes M n bs last)) s := by
  have hg : gSt [] [(gNm 3)] 2 (.lst ((bs ++ [last]).map prD)) [.val (.ref q), .val (.ref N), .emp, .emp, .emp, .emp, .emp, .emp, .emp, .emp] = some [.val (.ref q), .val (.ref N), .val (.lst (bs.map prD)), .val (prD last), .emp, .emp, .emp, .emp, .emp, .emp] := by
    have hb1 : bs.length + 1 ≤ 16000 := by omega
    have ht : (bs.map prD ++ [prD last]).take bs.length = bs.map prD := by
      rw [List.take_append_of_le_length (by simp)]; exact List.take_of_length_le (by simp)
    have hd : (bs.map prD ++ [prD last]).drop bs.length = [prD last] := by
      rw [List.drop_append_of_le_length (by simp)]
      simp [List.drop_eq_nil_of_le]
    simp [gSt, hb1, ht, hd]
  have hs : srtdAt (.ref N) s = .ok ((sortU (M.map (·.1))).map D.int) s := by
    have h1 : dicOf s (.ref N) = some (setsD M) := by simp [dicOf, hN]
    unfold srtdAt
    rw [h1]
    simp only [keys_sets, intsOf_map]
    rw [if_pos ⟨by simpa using hl, hn⟩]
  obtain ⟨z7, z8, e⟩ := mix_loop hN (.val (.ref q)) bs hb last (sortU (M.map (·.1))) [] .emp .emp (fun n hm => look_some (sortU_mem.mp hm)) (by
    have := sortU_len (l := M.map (·.1))
    simp at this
    simp; omega)
  have hf := s_sFor (iSeq (eFrz (lSrtD (eVar 1)))) (gNm 7) mb (mE (.val (.ref q)) N bs last [] .emp .emp) s s ((sortU (M.map (·.1))).map D.int) (by simp [hs, srcOf])
  rw [e] at hf
  rw [mixing_eq]
  have hp : plOf s (.ref q) = some ((bs ++ [last]).map prD) := by simp [plOf, hq]
  simp only [s_runB, List.length_cons, List.length_nil, if_true, List.map_cons, List.map_nil, s_sSeq, s_sStP, s_eVar, List.getElem?_cons_zero, List.cons_append, List.nil_append, Res.go_ok, starAt, hp, s_putE, List.replicate, hg, SRes.andThen_nx, s_sAsg, List.getElem?_cons_succ, prD, s_gTp, s_gAll1, s_gNm, Option.bind_some, s_gAll0, List.set_cons_succ, List.set_cons_zero, s_sOwn, s_lLst, s_aNil, Res.bind_ok, Nat.zero_le]
  have hf2 : sFor (iSeq (eFrz (lSrtD (eVar 1)))) (gNm 7) mb [.val (.ref q), .val (.ref N), .val (.lst (bs.map prD)), .val (.tup [.int last.1, chD last.2]), .val (.int last.1), .val (chD last.2), .own [], .emp, .emp, .emp] s = _ := hf
  erw [hf2]
  simp only [SRes.andThen_nx, List.nil_append]
  have hr := fin1_ok (.val (.ref q)) N bs last ((sortU (M.map (·.1))).filter fun n => mixes M n bs last) z7 z8 s
  rw [List.head?_filter] at hr
  rw [hr]
end K15

/-! The plain law of k15, part 3: events, what a reading is to do, piles in the store. Own text. -/
namespace K15
open MP
inductive EV where
  | io (inn : Bool) (h : Int) (p : Pr) | bg (n : Int) | gn (n : Int) | ot (w : List Nat) (ns : List Int)
def wIn : List Nat := [105, 110]
def wOut : List Nat := [111, 117, 116]
def wBegin : List Nat := [98, 101, 103, 105, 110]
def wGone : List Nat := [103, 111, 110, 101]
def wOff : List Nat := [111, 102, 102]
def wTurn : List Nat := [116, 117, 114, 110]
def wStands : List Nat := [115, 116, 97, 110, 100, 115]
def wOver : List Nat := [111, 118, 101, 114]
def EV.word : EV → List Nat
  | .io true _ _ => wIn
  | .io false _ _ => wOut
  | .bg _ => wBegin
  | .gn _ => wGone
  | .ot w _ => w
def EV.things : EV → List D
  | .io _ h p => [.int h, .int p.1, chD p.2]
  | .bg n | .gn n => [.int n]
  | .ot _ ns => ns.map D.int
def evD (e : EV) : D := .tup (.str e.word :: e.things)
def EV.ok : EV → Prop
  | .ot w ns => (w = wOff ∨ w = wTurn ∨ w = wStands ∨ w = wOver) ∧ ns.length ≤ 2 ∧ 1 ≤ ns.length
  | _ => True
structure T where
  now : List Int
  pl : Int → List Pr
def putP (f : Int → List Pr) (h : Int) (l : List Pr) : Int → List Pr := fun k => if k = h then l else f k
def act (M : SM) (now : List Int) : List Int := sortU (now.filter fun n => (M.lookup n).isSome)
def stepR (M : SM) : EV → T → Option (T × Option Int)
  | .bg n, t => some (⟨t.now ++ [n], t.pl⟩, none)
  | .gn n, t => some (⟨t.now.filter fun k => decide (k ≠ n), t.pl⟩, none)
  | .ot _ _, t => some (t, none)
  | .io false h p, t => if (t.pl h).getLast? = some p then some (⟨t.now, putP t.pl h (t.pl h).dropLast⟩, none) else none
  | .io true h p, t => if (t.pl h).length = 8 then none else some (⟨t.now, putP t.pl h (t.pl h ++ [p])⟩, (act M t.now).find? fun n => mixes M n (t.pl h) p)
/-! ### piles -/
def hD (x : Int × Nat) : D × D := (.int x.1, .ref x.2)
structure PR (s : Sto) (P : Nat) (hs : List (Int × Nat)) (pl : Int → List Pr) : Prop where
  dic : s[P]? = some (.dic (hs.map hD))
  kn : (hs.map (·.1)).Nodup
  rn : (hs.map (·.2)).Nodup
  at_ : ∀ x ∈ hs, s[x.2]? = some (.lst ((pl x.1).map prD))
  no : ∀ h, h ∉ hs.map (·.1) → pl h = []
theorem look_hs (h : Int) : ∀ hs : List (Int × Nat), dLook (hs.map hD) (.int h) = (hs.lookup h).map D.ref
  | [] => rfl
  | (m, l) :: M => by
    have ih := look_hs h M
    by_cases e : m = h
    · subst e
      simp [hD, dLook, keyEq, List.lookup]
    · have e' : (h == m) = false := by
        rw [beq_eq_false_iff_ne]
        exact fun z => e z.symm
      unfold dLook at ih ⊢
      simp only [List.map_cons, hD, List.find?_cons, keyEq, e, decide_false, List.lookup, e']
      exact ih
theorem look_mem {β : Type} {h : Int} {q : β} : ∀ {hs : List (Int × β)}, hs.lookup h = some q → (h, q) ∈ hs
  | (m, l) :: M, e => by
    simp only [List.lookup] at e
    split at e
    · rename_i z
      cases e
      rw [eq_of_beq z]
      exact List.mem_cons_self
    · exact List.mem_cons_of_mem _ (look_mem e)
theorem look_none {β : Type} {h : Int} : ∀ {hs : List (Int × β)}, hs.lookup h = none → h ∉ hs.map (·.1)
  | [], _ => by simp
  | (m, l) :: M, e => by
    simp only [List.lookup] at e
    split at e
    · cases e
    · rename_i z
      rw [List.map_cons, List.mem_cons]
      exact fun w => w.elim (fun w => by rw [w] at z; simp at z) (look_none e)
theorem any_key {β : Type} (f : β → D) (h : Int) : ∀ {hs : List (Int × β)}, h ∉ hs.map (·.1) → ((hs.map fun x => (D.int x.1, f x.2)).any fun kv => keyEq kv.1 (.int h)) = false
  | [], _ => rfl
  | (m, l) :: M, e => by
    rw [List.map_cons, List.mem_cons] at e
    have e1 : ¬ m = h := fun z => e (.inl z.symm)
    have ih := any_key f h (hs := M) fun z => e (.inr z)
    rw [List.map_cons, List.any_cons, ih]
    simp [keyEq, e1]
/-- the store grows; what lies below a place stays -/
def GrB (b : Nat) (s s' : Sto) : Prop := s.length ≤ s'.length ∧ ∀ j, j < b → s'[j]? = s[j]?
theorem GrB.refl (b : Nat) (s : Sto) : GrB b s s := ⟨Nat.le_refl _, fun _ _ => rfl⟩
theorem GrB.trans {c : Nat} {x y z : Sto} (a : GrB c x y) (b : GrB c y z) : GrB c x z := ⟨Nat.le_trans a.1 b.1, fun j hj => (b.2 j hj).trans (a.2 j hj)⟩
/-- d.setdefault(h, []) -/
theorem setd_ok {s : Sto} {P : Nat} {hs : List (Int × Nat)} {pl : Int → List Pr} (pr : PR s P hs pl) (hl : hs.length < 1000) (h : Int) {o k : ME} {env : Env} (ho : o env s = .ok (.ref P) s) (hk : k env s = .ok (.int h) s) :
    ∃ hs' q s', eDSetd o k (ePlc (lLst aNil)) env s = .ok (.ref q) s' ∧ PR s' P hs' pl ∧ (h, q) ∈ hs' ∧ hs'.length ≤ hs.length + 1 ∧ s.length ≤ s'.length ∧ (∀ n, n < s.length → n ≠ P → s'[n]? = s[n]?) ∧ (∀ x ∈ hs', x ∈ hs ∨ s.length ≤ x.2) := by
  have hP : P < s.length := (List.getElem?_eq_some_iff.mp pr.dic).1
  have hd : dicOf s (.ref P) = some (hs.map hD) := by simp [dicOf, pr.dic]
  have app : ∀ n, n < s.length → (s ++ [Ob.lst []])[n]? = s[n]? := fun n hn => List.getElem?_append_left hn
  have hd2 : dicOf (s ++ [Ob.lst []]) (.ref P) = some (hs.map hD) := by simp [dicOf, app P hP, pr.dic]
  have hq : ∀ x ∈ hs, x.2 < s.length := fun x hx => (List.getElem?_eq_some_iff.mp (pr.at_ x hx)).1
  cases e : hs.lookup h with
  | some q =>
    have m := look_mem e
    refine ⟨hs, q, s ++ [Ob.lst []], ?_, ⟨(app P hP).trans pr.dic, pr.kn, pr.rn, fun x hx => (app _ (hq x hx)).trans (pr.at_ x hx), pr.no⟩, m, by omega, by simp, fun n hn _ => app n hn, fun x hx => .inl hx⟩
    simp [eDSetd, ho, hd, hk, dsetAt, hd2, isKey, hl, look_hs, e]
  | none =>
    have nk := look_none e
    have hnP : P ≠ s.length := Nat.ne_of_lt hP
    have get : ∀ n, n < s.length → n ≠ P → ((s ++ [Ob.lst []]).set P (.dic (hs.map hD ++ [(D.int h, D.ref s.length)])))[n]? = s[n]? := fun n hn hne => by
      rw [List.getElem?_set_ne (Ne.symm hne)]
      exact app n hn
    have atq : ∀ x ∈ hs, x.2 ≠ P := fun x hx z => by
      have h1 := pr.at_ x hx
      rw [z, pr.dic] at h1
      cases h1
    refine ⟨hs ++ [(h, s.length)], s.length, (s ++ [Ob.lst []]).set P (.dic (hs.map hD ++ [(D.int h, D.ref s.length)])), ?_, ⟨?_, ?_, ?_, fun x hx => ?_, fun k hk => ?_⟩, by simp, by simp, by simp, get, fun x hx => ?_⟩
    · have ha := any_key D.ref h nk
      have ha' : ((hs.map hD).any fun kv => keyEq kv.1 (.int h)) = false := ha
      simp [eDSetd, ho, hd, hk, dsetAt, hd2, isKey, hl, look_hs, e, putDic, dPut, ha']
    · rw [List.getElem?_set_self (by simp; omega)]
      simp [hD]
    · rw [List.map_append]; rw [List.nodup_append]
      exact ⟨pr.kn, by simp, fun a ha b hb => by
        simp at hb
        subst hb
        exact fun z => nk (z ▸ ha)⟩
    · rw [List.map_append]; rw [List.nodup_append]
      exact ⟨pr.rn, by simp, fun a ha b hb => by
        simp at hb
        subst hb
        obtain ⟨x, hx, rfl⟩ := List.mem_map.mp ha
        exact Nat.ne_of_lt (hq x hx)⟩
    · rcases (List.mem_append.mp hx) with hx | hx
      · rw [get _ (hq x hx) (atq x hx)]
        exact pr.at_ x hx
      · obtain rfl : x = (h, s.length) := by simpa using hx
        rw [List.getElem?_set_ne hnP]
        simp [pr.no h nk]
    · refine pr.no k fun z => hk ?_
      rw [List.map_append]
      exact List.mem_append_left _ z
    · rcases (List.mem_append.mp hx) with hx | hx
      · exact .inl hx
      · obtain rfl : x = (h, s.length) := by simpa using hx
        exact .inr (Nat.le_refl _)
theorem nodup_snd {hs : List (Int × Nat)} (n : (hs.map (·.2)).Nodup) : ∀ {x y : Int × Nat}, x ∈ hs → y ∈ hs → x.2 = y.2 → x = y := by
  induction hs with
  | nil => intro x y h; cases h
  | cons a l ih =>
    intro x y hx hy e
    rw [List.map_cons, List.nodup_cons] at n
    rcases List.mem_cons.mp hx with hx1 | hx1
    · rcases List.mem_cons.mp hy with hy1 | hy1
      · rw [hx1, hy1]
      · exact absurd (List.mem_map.mpr ⟨y, hy1, by rw [← e, hx1]⟩) n.1
    · rcases List.mem_cons.mp hy with hy1 | hy1
      · exact absurd (List.mem_map.mpr ⟨x, hx1, by rw [e, hy1]⟩) n.1
      · exact ih n.2 hx1 hy1 e
theorem nodup_fst {β : Type} {hs : List (Int × β)} (n : (hs.map (·.1)).Nodup) : ∀ {x y : Int × β}, x ∈ hs → y ∈ hs → x.1 = y.1 → x = y := by
  induction hs with
  | nil => intro x y h; cases h
  | cons a l ih =>
    intro x y hx hy e
    rw [List.map_cons, List.nodup_cons] at n
    rcases List.mem_cons.mp hx with hx1 | hx1
    · rcases List.mem_cons.mp hy with hy1 | hy1
      · rw [hx1, hy1]
      · exact absurd (List.mem_map.mpr ⟨y, hy1, by rw [← e, hx1]⟩) n.1
    · rcases List.mem_cons.mp hy with hy1 | hy1
      · exact absurd (List.mem_map.mpr ⟨x, hx1, by rw [e, hy1]⟩) n.1
      · exact ih n.2 hx1 hy1 e
/-- a pile is another -/
theorem PR.put {s : Sto} {P : Nat} {hs : List (Int × Nat)} {pl : Int → List Pr} (pr : PR s P hs pl) {h : Int} {q : Nat} (m : (h, q) ∈ hs) (l : List Pr) : PR (s.set q (.lst (l.map prD))) P hs (putP pl h l) := by
  have hqs := pr.at_ _ m
  have hq : q < s.length := (List.getElem?_eq_some_iff.mp hqs).1
  have hP : q ≠ P := fun z => by
    subst z
    have := hqs.symm.trans pr.dic
    cases this
  refine ⟨by rw [List.getElem?_set_ne hP]; exact pr.dic, pr.kn, pr.rn, fun x hx => ?_, fun k hk => ?_⟩
  · by_cases e : q = x.2
    · have : (h, q) = x := nodup_snd pr.rn m hx e
      subst this
      rw [List.getElem?_set_self hq]
      simp [putP]
    · rw [List.getElem?_set_ne e, pr.at_ x hx]
      have : x.1 ≠ h := fun z => by
        have := nodup_fst pr.kn m hx z.symm
        exact e (by rw [← this])
      simp [putP, this]
  · have : k ≠ h := fun z => hk (by rw [z]; exact List.mem_map.mpr ⟨_, m, rfl⟩)
    simp only [putP, this, if_false]
    exact pr.no k hk
theorem PR.frame {s s' : Sto} {P : Nat} {hs : List (Int × Nat)} {pl : Int → List Pr} (pr : PR s P hs pl) (h1 : s'[P]? = s[P]?) (h2 : ∀ x ∈ hs, s'[x.2]? = s[x.2]?) : PR s' P hs pl :=
  ⟨h1.trans pr.dic, pr.kn, pr.rn, fun x hx => (h2 x hx).trans (pr.at_ x hx), pr.no⟩
/-! ### numbers in order -/
theorem insU_inc {n : Int} : ∀ {l : List Int}, l.Pairwise (· < ·) → (insU n l).Pairwise (· < ·)
  | [], _ => by simp [insU]
  | m :: r, h => by
    rw [List.pairwise_cons] at h
    unfold insU
    split
    · rename_i hl
      refine List.pairwise_cons.mpr ⟨fun k hk => ?_, List.pairwise_cons.mpr h⟩
      rcases List.mem_cons.mp hk with e | hk
      · omega
      · have := h.1 k hk; omega
    · split
      · exact List.pairwise_cons.mpr h
      · refine List.pairwise_cons.mpr ⟨fun k hk => ?_, insU_inc h.2⟩
        rcases insU_mem.mp hk with e | hk
        · omega
        · exact h.1 k hk
theorem sortU_inc : ∀ {l : List Int}, (sortU l).Pairwise (· < ·)
  | [] => .nil
  | n :: l => insU_inc sortU_inc
theorem inc_ext : ∀ {a b : List Int}, a.Pairwise (· < ·) → b.Pairwise (· < ·) → (∀ k, k ∈ a ↔ k ∈ b) → a = b
  | [], [], _, _, _ => rfl
  | [], y :: b, _, _, h => by have := (h y).mpr List.mem_cons_self; cases this
  | x :: a, [], _, _, h => by have := (h x).mp List.mem_cons_self; cases this
  | x :: a, y :: b, ha, hb, h => by
    rw [List.pairwise_cons] at ha hb
    have e : x = y := by
      rcases List.mem_cons.mp ((h x).mp List.mem_cons_self) with e | m
      · exact e
      · rcases List.mem_cons.mp ((h y).mpr List.mem_cons_self) with e | m2
        · exact e.symm
        · have := ha.1 y m2; have := hb.1 x m; omega
    subst e
    rw [inc_ext ha.2 hb.2 fun k => ?_]
    constructor
    · intro m
      rcases List.mem_cons.mp ((h k).mp (List.mem_cons_of_mem _ m)) with e | z
      · have := ha.1 k m; omega
      · exact z
    · intro m
      rcases List.mem_cons.mp ((h k).mpr (List.mem_cons_of_mem _ m)) with e | z
      · have := hb.1 k m; omega
      · exact z
theorem sortU_ext {a b : List Int} (h : ∀ k, k ∈ a ↔ k ∈ b) : sortU a = sortU b := inc_ext sortU_inc sortU_inc fun k => by rw [sortU_mem, sortU_mem, h]
theorem sub_len : ∀ {a b : List Int}, a.Nodup → (∀ x ∈ a, x ∈ b) → a.length ≤ b.length
  | [], b, _, _ => Nat.zero_le _
  | x :: a, b, n, h => by
    rw [List.nodup_cons] at n
    have hx := h x List.mem_cons_self
    have ih := sub_len (b := b.erase x) n.2 fun y hy => (List.mem_erase_of_ne (fun z : y = x => n.1 (by rw [← z]; exact hy))).mpr (h y (List.mem_cons_of_mem _ hy))
    rw [List.length_erase_of_mem hx] at ih
    have : 0 < b.length := List.length_pos_of_mem hx
    rw [List.length_cons]; omega
theorem find_ext {p q : Int → Bool} : ∀ {l : List Int}, (∀ n ∈ l, p n = q n) → l.find? p = l.find? q
  | [], _ => rfl
  | a :: l, h => by
    rw [List.find?_cons, List.find?_cons, h a List.mem_cons_self, find_ext fun n m => h n (List.mem_cons_of_mem _ m)]
end K15

/-! The plain law of k15, part 4: the program's reading of one event. Own text. -/
namespace K15
open MP
def EV.isB : EV → Bool | .bg _ => true | _ => false
def EV.isG : EV → Bool | .gn _ => true | _ => false
def EV.isIO : EV → Bool | .io _ _ _ => true | _ => false
def EV.isO : EV → Bool | .io false _ _ => true | _ => false
def EV.isI : EV → Bool | .io true _ _ => true | _ => false
theorem eq_begin {e : EV} (ok : e.ok) (s : Sto) : opEq s (.str e.word) (.str [98, 101, 103, 105, 110]) = some (.bl e.isB) := by
  cases e with
  | io b h p => cases b <;> rfl
  | bg n => rfl
  | gn n => rfl
  | ot w ns =>
    obtain ⟨h, _⟩ := ok
    rcases h with h | h | h | h <;> subst h <;> rfl
theorem eq_gone {e : EV} (ok : e.ok) (s : Sto) : opEq s (.str e.word) (.str [103, 111, 110, 101]) = some (.bl e.isG) := by
  cases e with
  | io b h p => cases b <;> rfl
  | bg n => rfl
  | gn n => rfl
  | ot w ns =>
    obtain ⟨h, _⟩ := ok
    rcases h with h | h | h | h <;> subst h <;> rfl
theorem eq_out {e : EV} (ok : e.ok) (s : Sto) : opEq s (.str e.word) (.str [111, 117, 116]) = some (.bl e.isO) := by
  cases e with
  | io b h p => cases b <;> rfl
  | bg n => rfl
  | gn n => rfl
  | ot w ns =>
    obtain ⟨h, _⟩ := ok
    rcases h with h | h | h | h <;> subst h <;> rfl
theorem eq_in {e : EV} (ok : e.ok) (s : Sto) : opEq s (.str e.word) (.str [105, 110]) = some (.bl e.isI) := by
  cases e with
  | io b h p => cases b <;> rfl
  | bg n => rfl
  | gn n => rfl
  | ot w ns =>
    obtain ⟨h, _⟩ := ok
    rcases h with h | h | h | h <;> subst h <;> rfl
theorem in_io {e : EV} (ok : e.ok) (s : Sto) : inD s (.str e.word) (.tup [.str [105, 110], .str [111, 117, 116]]) = some e.isIO := by
  cases e with
  | io b h p => cases b <;> rfl
  | bg n => rfl
  | gn n => rfl
  | ot w ns =>
    obtain ⟨h, _⟩ := ok
    rcases h with h | h | h | h <;> subst h <;> rfl
structure PS (s : Sto) (R S N P : Nat) (M NW : SM) (hs : List (Int × Nat)) (t : T) (b : Nat) : Prop where
  hR : s[R]? = some (.ins 16 [("sets", .ref S), ("now", .ref N), ("piles", .ref P)])
  hS : s[S]? = some (.dic (setsD M))
  hN : s[N]? = some (.dic (setsD NW))
  nk : (NW.map (·.1)).Nodup
  sub : ∀ x ∈ NW, M.lookup x.1 = some x.2
  iff : ∀ k, k ∈ NW.map (·.1) ↔ k ∈ t.now ∧ (M.lookup k).isSome = true
  pr : PR s P hs t.pl
  l8 : ∀ h, (t.pl h).length ≤ 8
  np : N ≠ P
  sb : S < b
  bR : b ≤ R
  bN : b ≤ N
  bP : b ≤ P
  bq : ∀ x ∈ hs, b ≤ x.2
def rd0 : MS := (sIf (tAnd (tVal (eOp2 opEq (eBor 2) (eC (.str [98, 101, 103, 105, 110])))) (tVal (eOp2 opDIn (eOp2 opIx (eBor 3) (eC (.int 0))) (eFld 16 (eVar 0) "sets")))) (sSetD (eFld 16 (eVar 0) "now") (eOp2 opIx (eBor 3) (eC (.int 0))) (eOp2 opDGet (eFld 16 (eVar 0) "sets") (eOp2 opIx (eBor 3) (eC (.int 0))))) sNext)
def rd1 : MS := (sIf (tVal (eOp2 opEq (eBor 2) (eC (.str [103, 111, 110, 101])))) (sDrop (eDPop (eFld 16 (eVar 0) "now") (eOp2 opIx (eBor 3) (eC (.int 0))) (eC .non))) sNext)
def rd2 : MS := (sIf (tVal (eOp2 opNotIn (eBor 2) (eTup (aCons (eC (.str [105, 110])) (aCons (eC (.str [111, 117, 116])) aNil))))) (sRet (eC .non)) sNext)
def rd3 : MS := (sAsg (eVar 3) (gSt [(gNm 4)] [] 5))
def rd4 : MS := (sAsg (eDSetd (eFld 16 (eVar 0) "piles") (eVar 4) (ePlc (lLst aNil))) (gNm 6))
def rd5 : MS := (sIf (tVal (eOp2 opEq (eBor 2) (eC (.str [111, 117, 116])))) (sSeq (sIf (tOr (tVal (eOp2 opEq (eBor 6) (eFrz (lLst aNil)))) (tVal (eOp2 opNe (eOp2 opIx (eBor 6) (eOp1 opNeg (eC (.int 1)))) (eOp1 opTuple (eBor 5))))) (sRs 1 ["event"] (aCons (eVar 1) aNil)) sNext) (sSeq (sDrop (ePopL (eVar 6))) (sRet (eC .non)))) sNext)
def rd6 : MS := (sIf (tVal (eOp2 opEq (eOp1 opLen (eBor 6)) (eC d_MOST_PILE))) (sRs 1 ["event"] (aCons (eVar 1) aNil)) sNext)
def rd7 : MS := (sSeq (sDrop (eAppL (eVar 6) (eOp1 opTuple (eBor 5)))) (sRet (eCall f_mixing (aCons (eVar 6) (aCons (eFld 16 (eVar 0) "now") aNil)))))
theorem reads_eq : f_Reading_reads = runB 4 7 (sSeq rd0 (sSeq rd1 (sSeq rd2 (sSeq rd3 (sSeq rd4 (sSeq rd5 (sSeq rd6 rd7))))))) := rfl
abbrev rE (R : Nat) (i : Int) (w : List Nat) (th : List D) (z4 z5 z6 : Slot) : Env := [.val (.ref R), .val (.int i), .val (.str w), .val (.lst th), z4, z5, z6]
theorem seq_nx {a b : MS} {e e1 : Env} {s s1 : Sto} {r : SRes} (h : a e s = .nx e1 s1) (k : b e1 s1 = r) : sSeq a b e s = r := by rw [s_sSeq, h]; exact k
theorem seq_rt {a b : MS} {e : Env} {s s1 : Sto} {d : D} (h : a e s = .rt d s1) : sSeq a b e s = .rt d s1 := by rw [s_sSeq, h]; rfl
theorem seq_ex {a b : MS} {e e1 : Env} {s s1 : Sto} {x : Exn} (h : a e s = .ex x e1 s1) : sSeq a b e s = .ex x e1 s1 := by rw [s_sSeq, h]; rfl
section
variable {s : Sto} {R S N P : Nat} {M NW : SM} {hs : List (Int × Nat)} {t : T} {b : Nat}
theorem rd0_skip {e : EV} (ok : e.ok) (h : e.isB = false) (R : Nat) (i : Int) (th : List D) (z4 z5 z6 : Slot) (s : Sto) : rd0 (rE R i e.word th z4 z5 z6) s = .nx (rE R i e.word th z4 z5 z6) s := by
  simp [rd0, eq_begin ok, h]
theorem rd1_skip {e : EV} (ok : e.ok) (h : e.isG = false) (R : Nat) (i : Int) (th : List D) (z4 z5 z6 : Slot) (s : Sto) : rd1 (rE R i e.word th z4 z5 z6) s = .nx (rE R i e.word th z4 z5 z6) s := by
  simp [rd1, eq_gone ok, h]
theorem rd2_ret {e : EV} (ok : e.ok) (h : e.isIO = false) (R : Nat) (i : Int) (th : List D) (z4 z5 z6 : Slot) (s : Sto) : rd2 (rE R i e.word th z4 z5 z6) s = .rt .non s := by
  simp [rd2, opNotIn, in_io ok, h]
theorem rd2_skip {e : EV} (ok : e.ok) (h : e.isIO = true) (R : Nat) (i : Int) (th : List D) (z4 z5 z6 : Slot) (s : Sto) : rd2 (rE R i e.word th z4 z5 z6) s = .nx (rE R i e.word th z4 z5 z6) s := by
  simp [rd2, opNotIn, in_io ok, h]
theorem mem_look {β : Type} {hs : List (Int × β)} (n : (hs.map (·.1)).Nodup) {h : Int} {q : β} (m : (h, q) ∈ hs) : hs.lookup h = some q := by
  cases e : hs.lookup h with
  | none => exact absurd (List.mem_map.mpr ⟨_, m, rfl⟩) (look_none e)
  | some q' =>
    have := nodup_fst n (look_mem e) m rfl
    cases this
    rfl
theorem dput_same {n : Int} {l : List Int} (nk : (NW.map (·.1)).Nodup) (h : NW.lookup n = some l) : dPut (setsD NW) (.int n) (.tup (l.map D.int)) = setsD NW := by
  unfold dPut
  split
  · unfold setsD
    rw [List.map_map]
    refine List.map_congr_left fun x hx => ?_
    show (if keyEq (kvD x).1 (.int n) = true then ((kvD x).1, D.tup (l.map D.int)) else kvD x) = kvD x
    by_cases e : x.1 = n
    · have : x = (n, l) := nodup_fst nk hx (look_mem h) e
      subst this
      simp [kvD, keyEq]
    · simp [kvD, keyEq, e]
  · rename_i hk
    exfalso
    refine hk (List.any_eq_true.mpr ⟨kvD (n, l), List.mem_map.mpr ⟨_, look_mem h, rfl⟩, by simp [kvD, keyEq]⟩)
theorem dput_new {n : Int} {l : List Int} (h : NW.lookup n = none) : dPut (setsD NW) (.int n) (.tup (l.map D.int)) = setsD (NW ++ [(n, l)]) := by
  have ha : ((setsD NW).any fun kv => keyEq kv.1 (.int n)) = false := any_key (fun l : List Int => D.tup (l.map D.int)) n (look_none h)
  unfold dPut
  rw [ha]
  simp [setsD, kvD]
theorem ddrop_ok (n : Int) : ∀ NW : SM, dDrop (setsD NW) (.int n) = setsD (NW.filter fun x => decide (x.1 ≠ n))
  | [] => rfl
  | x :: NW => by
    have ih := ddrop_ok n NW
    unfold dDrop setsD at ih ⊢
    rw [List.map_cons, List.filter_cons, List.filter_cons]
    by_cases e : x.1 = n
    · simp only [kvD, keyEq, e, decide_true, Bool.not_true, ne_eq, not_true_eq_false, decide_false, Bool.false_eq_true, if_false]
      exact ih
    · simp only [kvD, keyEq, e, decide_false, Bool.not_false, ne_eq, not_false_eq_true, decide_true, if_true, List.map_cons]
      rw [← ih]
      rfl
/-- another dict of what stands -/
theorem PS.setN (ps : PS s R S N P M NW hs t b) {NW' : SM} {now' : List Int} (nk : (NW'.map (·.1)).Nodup) (sub : ∀ x ∈ NW', M.lookup x.1 = some x.2) (iff : ∀ k, k ∈ NW'.map (·.1) ↔ k ∈ now' ∧ (M.lookup k).isSome = true) :
    PS (s.set N (.dic (setsD NW'))) R S N P M NW' hs ⟨now', t.pl⟩ b ∧ GrB b s (s.set N (.dic (setsD NW'))) := by
  have hN : N < s.length := (List.getElem?_eq_some_iff.mp ps.hN).1
  have nR : N ≠ R := fun z => by
    have h1 := ps.hN
    rw [z, ps.hR] at h1
    cases h1
  have nS : N ≠ S := fun z => by
    have := ps.sb
    have := ps.bN
    omega
  refine ⟨⟨by rw [List.getElem?_set_ne nR]; exact ps.hR, by rw [List.getElem?_set_ne nS]; exact ps.hS, List.getElem?_set_self hN, nk, sub, iff, ps.pr.frame (List.getElem?_set_ne ps.np) (fun x hx => List.getElem?_set_ne fun z => ?_), ps.l8, ps.np, ps.sb, ps.bR, ps.bN, ps.bP, ps.bq⟩, by simp, fun j hj => List.getElem?_set_ne (by have := ps.bN; omega)⟩
  have h1 := ps.pr.at_ x hx
  rw [← z, ps.hN] at h1
  cases h1
theorem PS.now (ps : PS s R S N P M NW hs t b) {now' : List Int} (iff : ∀ k, k ∈ NW.map (·.1) ↔ k ∈ now' ∧ (M.lookup k).isSome = true) : PS s R S N P M NW hs ⟨now', t.pl⟩ b :=
  ⟨ps.hR, ps.hS, ps.hN, ps.nk, ps.sub, iff, ps.pr, ps.l8, ps.np, ps.sb, ps.bR, ps.bN, ps.bP, ps.bq⟩
theorem fld_now (ps : PS s R S N P M NW hs t b) : fieldOf s 16 "now" (.ref R) = some (.ref N) := by simp [fieldOf, ps.hR, List.lookup]
theorem fld_sets (ps : PS s R S N P M NW hs t b) : fieldOf s 16 "sets" (.ref R) = some (.ref S) := by simp [fieldOf, ps.hR, List.lookup]
theorem fld_piles (ps : PS s R S N P M NW hs t b) : fieldOf s 16 "piles" (.ref R) = some (.ref P) := by simp [fieldOf, ps.hR, List.lookup]
theorem PS.nlen (ps : PS s R S N P M NW hs t b) : NW.length ≤ M.length := by
  have := sub_len (b := M.map (·.1)) ps.nk fun x hx => by
    obtain ⟨y, hy, rfl⟩ := List.mem_map.mp hx; exact List.mem_map.mpr ⟨_, look_mem (ps.sub y hy), rfl⟩
  simpa using this
theorem ixl0 (a : D) (r : List D) (s : Sto) : opIx s (.lst (a :: r)) (.int 0) = some a := by simp [opIx, seqOf, ixD, place]
/-- a change begins -/
theorem reads_bg (ps : PS s R S N P M NW hs t b) (hM : M.length < 64) (n i : Int) : ∃ s' NW', f_Reading_reads [.ref R, .int i, .str wBegin, .lst [.int n]] s = .ok .non s' ∧ PS s' R S N P M NW' hs ⟨t.now ++ [n], t.pl⟩ b ∧ GrB b s s' := by
  have ok : (EV.bg n).ok := trivial
  have fin : ∀ s', rd0 (rE R i wBegin [.int n] .emp .emp .emp) s = .nx (rE R i wBegin [.int n] .emp .emp .emp) s' → f_Reading_reads [.ref R, .int i, .str wBegin, .lst [.int n]] s = .ok .non s' := fun s' h => by
    rw [reads_eq]
    have h1 := rd1_skip (e := .bg n) ok rfl R i [.int n] .emp .emp .emp s'
    have h2 := rd2_ret (e := .bg n) ok rfl R i [.int n] .emp .emp .emp s'
    have h3 := seq_nx h (seq_nx h1 (seq_rt (b := (sSeq rd3 (sSeq rd4 (sSeq rd5 (sSeq rd6 rd7))))) h2))
    simp only [s_runB, List.length_cons, List.length_nil, if_true, List.map_cons, List.map_nil, List.cons_append, List.nil_append, List.replicate]
    have h4 : (sSeq rd0 (sSeq rd1 (sSeq rd2 (sSeq rd3 (sSeq rd4 (sSeq rd5 (sSeq rd6 rd7))))))) [.val (.ref R), .val (.int i), .val (.str wBegin), .val (.lst [.int n]), .emp, .emp, .emp] s = .rt .non s' := h3
    rw [h4]
  have e1 := eq_begin (e := .bg n) ok s
  have e1' : opEq s (.str wBegin) (.str [98, 101, 103, 105, 110]) = some (.bl true) := e1
  have hd : ∀ n, opDIn s (.int n) (.ref S) = some (.bl (M.lookup n).isSome) := fun n => by
    have : dicOf s (.ref S) = some (setsD M) := by simp [dicOf, ps.hS]
    simp [opDIn, isKey, this, look_sets]
  cases hl : M.lookup n with
  | none =>
    refine ⟨s, NW, fin s ?_, ps.now fun k => ?_, GrB.refl b s⟩
    · simp [rd0, e1', ixl0, fld_sets ps, hd, hl]
    · rw [ps.iff, List.mem_append, List.mem_singleton]
      constructor
      · exact fun h => ⟨.inl h.1, h.2⟩
      · rintro ⟨h | h, h2⟩
        · exact ⟨h, h2⟩
        · subst h
          rw [hl] at h2
          cases h2
  | some l =>
    have hg := get_sets (n := n) ps.hS hl
    have hlen := ps.nlen
    have hn : s[N]? = some (.dic (setsD NW)) := ps.hN
    have hsl : (setsD NW).length < 1000 := by simp [setsD]; omega
    have run : rd0 (rE R i wBegin [.int n] .emp .emp .emp) s = .nx (rE R i wBegin [.int n] .emp .emp .emp) (s.set N (.dic (dPut (setsD NW) (.int n) (.tup (l.map D.int))))) := by
      simp [rd0, e1', ixl0, fld_sets ps, hd, hl, hg, fld_now ps, putAt, hn, isKey, hsl]
    cases hw : NW.lookup n with
    | some l' =>
      have : l' = l := by
        have := ps.sub _ (look_mem hw)
        rw [hl] at this
        cases this
        rfl
      subst this
      rw [dput_same ps.nk hw] at run
      obtain ⟨p2, g2⟩ := ps.setN (NW' := NW) (now' := t.now ++ [n]) ps.nk ps.sub fun k => by
        rw [ps.iff, List.mem_append, List.mem_singleton]
        constructor
        · exact fun h => ⟨.inl h.1, h.2⟩
        · rintro ⟨h | h, h2⟩
          · exact ⟨h, h2⟩
          · subst h
            exact (ps.iff k).mp (List.mem_map.mpr ⟨_, look_mem hw, rfl⟩)
      exact ⟨_, NW, fin _ run, p2, g2⟩
    | none =>
      rw [dput_new hw] at run
      have hnk := look_none hw
      obtain ⟨p2, g2⟩ := ps.setN (NW' := NW ++ [(n, l)]) (now' := t.now ++ [n]) (by
        rw [List.map_append, List.nodup_append]; exact ⟨ps.nk, by simp, fun a ha c hc => by
          simp at hc
          subst hc
          exact fun z => hnk (z ▸ ha)⟩) (fun x hx => by
        rcases (List.mem_append.mp hx) with hx | hx
        · exact ps.sub x hx
        · obtain rfl : x = (n, l) := by simpa using hx
          exact hl) fun k => by
        rw [List.map_append, List.mem_append, ps.iff, List.mem_append, List.mem_singleton, List.map_cons, List.map_nil, List.mem_singleton]
        constructor
        · rintro (h | h)
          · exact ⟨.inl h.1, h.2⟩
          · subst h
            exact ⟨.inr rfl, by rw [hl]; rfl⟩
        · rintro ⟨h | h, h2⟩
          · exact .inl ⟨h, h2⟩
          · exact .inr h
      exact ⟨_, NW ++ [(n, l)], fin _ run, p2, g2⟩
/-- a change is gone -/
theorem reads_gn (ps : PS s R S N P M NW hs t b) (n i : Int) : ∃ s' NW', f_Reading_reads [.ref R, .int i, .str wGone, .lst [.int n]] s = .ok .non s' ∧ PS s' R S N P M NW' hs ⟨t.now.filter fun k => decide (k ≠ n), t.pl⟩ b ∧ GrB b s s' := by
  have ok : (EV.gn n).ok := trivial
  have fin : ∀ s', rd1 (rE R i wGone [.int n] .emp .emp .emp) s = .nx (rE R i wGone [.int n] .emp .emp .emp) s' → f_Reading_reads [.ref R, .int i, .str wGone, .lst [.int n]] s = .ok .non s' := fun s' h => by
    rw [reads_eq]
    have h1 := rd0_skip (e := .gn n) ok rfl R i [.int n] .emp .emp .emp s
    have h2 := rd2_ret (e := .gn n) ok rfl R i [.int n] .emp .emp .emp s'
    have h3 := seq_nx h1 (seq_nx h (seq_rt (b := (sSeq rd3 (sSeq rd4 (sSeq rd5 (sSeq rd6 rd7))))) h2))
    simp only [s_runB, List.length_cons, List.length_nil, if_true, List.map_cons, List.map_nil, List.cons_append, List.nil_append, List.replicate]
    have h4 : (sSeq rd0 (sSeq rd1 (sSeq rd2 (sSeq rd3 (sSeq rd4 (sSeq rd5 (sSeq rd6 rd7))))))) [.val (.ref R), .val (.int i), .val (.str wGone), .val (.lst [.int n]), .emp, .emp, .emp] s = .rt .non s' := h3
    rw [h4]
  have e1' : opEq s (.str wGone) (.str [103, 111, 110, 101]) = some (.bl true) := eq_gone (e := .gn n) ok s
  have hdn : dicOf s (.ref N) = some (setsD NW) := by simp [dicOf, ps.hN]
  have hdl : dLook (setsD NW) (.int n) = (NW.lookup n).map fun l => D.tup (l.map D.int) := look_sets n NW
  cases hw : NW.lookup n with
  | none =>
    refine ⟨s, NW, fin s ?_, ps.now fun k => ?_, GrB.refl b s⟩
    · simp [rd1, e1', ixl0, fld_now ps, eDPop, hdn, dpopAt, isKey, hdl, hw]
    · rw [ps.iff, List.mem_filter]
      constructor
      · intro h
        refine ⟨⟨h.1, decide_eq_true fun z => ?_⟩, h.2⟩
        subst z
        exact look_none hw ((ps.iff k).mpr h)
      · exact fun h => ⟨h.1.1, h.2⟩
  | some l =>
    have run : rd1 (rE R i wGone [.int n] .emp .emp .emp) s = .nx (rE R i wGone [.int n] .emp .emp .emp) (s.set N (.dic (setsD (NW.filter fun x => decide (x.1 ≠ n))))) := by
      rw [← ddrop_ok]
      simp [rd1, e1', ixl0, fld_now ps, eDPop, hdn, dpopAt, isKey, hdl, hw, putDic]
    obtain ⟨p2, g2⟩ := ps.setN (NW' := NW.filter fun x => decide (x.1 ≠ n)) (now' := t.now.filter fun k => decide (k ≠ n)) (ps.nk.sublist (List.filter_sublist.map _)) (fun x hx => ps.sub x (List.mem_filter.mp hx).1) fun k => by
      constructor
      · intro h
        obtain ⟨x, hx, rfl⟩ := List.mem_map.mp h
        obtain ⟨h1, h2⟩ := List.mem_filter.mp hx
        obtain ⟨h3, h4⟩ := (ps.iff x.1).mp (List.mem_map.mpr ⟨x, h1, rfl⟩)
        exact ⟨List.mem_filter.mpr ⟨h3, h2⟩, h4⟩
      · rintro ⟨h1, h2⟩
        obtain ⟨h3, h4⟩ := List.mem_filter.mp h1
        obtain ⟨x, hx, rfl⟩ := List.mem_map.mp ((ps.iff k).mpr ⟨h3, h2⟩)
        exact List.mem_map.mpr ⟨x, List.mem_filter.mpr ⟨hx, h4⟩, rfl⟩
    exact ⟨_, _, fin _ run, p2, g2⟩
theorem reads_ot (ps : PS s R S N P M NW hs t b) {w : List Nat} {ns : List Int} (ok : (EV.ot w ns).ok) (i : Int) : f_Reading_reads [.ref R, .int i, .str w, .lst (ns.map D.int)] s = .ok .non s := by
  rw [reads_eq]
  have h1 := rd0_skip ok rfl R i (ns.map D.int) .emp .emp .emp s
  have h2 := rd1_skip ok rfl R i (ns.map D.int) .emp .emp .emp s
  have h3 := rd2_ret ok rfl R i (ns.map D.int) .emp .emp .emp s
  have h4 : (sSeq rd0 (sSeq rd1 (sSeq rd2 (sSeq rd3 (sSeq rd4 (sSeq rd5 (sSeq rd6 rd7))))))) [.val (.ref R), .val (.int i), .val (.str w), .val (.lst (ns.map D.int)), .emp, .emp, .emp] s = .rt .non s := seq_nx h1 (seq_nx h2 (seq_rt h3))
  simp only [s_runB, List.length_cons, List.length_nil, if_true, List.map_cons, List.map_nil, List.cons_append, List.nil_append, List.replicate]
  rw [h4]
end
end K15

/-! The plain law of k15, part 5: the program's reading of an event that goes in or out. Own text. -/
namespace K15
open MP
theorem fit_pr (x : Pr) (n : Nat) : (prD x).fit (n + 1) = true := by
  obtain ⟨a, c⟩ := x
  cases c <;> simp [prD, chD, D.fit, D.fits]
theorem eqv_pr (x p : Pr) : (prD x).eqv (prD p) = decide (x = p) := by
  obtain ⟨a, c⟩ := x
  obtain ⟨a', c'⟩ := p
  rw [Bool.eq_iff_iff]
  cases c <;> cases c' <;> simp [prD, chD, D.eqv, D.eqvs]
theorem ne_pr (x p : Pr) (s : Sto) : opNe s (prD x) (prD p) = some (.bl (decide (x ≠ p))) := by
  have h1 : eqD (prD x) (prD p) = some (decide (x = p)) := by
    have f1 := fit_pr x 59
    have f2 := fit_pr p 59
    have e := eqv_pr x p
    unfold prD at f1 f2 e ⊢
    simp only [eqD, f1, f2, Bool.and_self, if_true, e]
  have h2 : opNe s (prD x) (prD p) = (eqD (prD x) (prD p)).map fun b => D.bl (!b) := rfl
  rw [h2, h1]
  by_cases h : x = p <;> simp [h]
theorem last_ix {s : Sto} {q : Nat} {bs : List Pr} {x : Pr} (h : s[q]? = some (.lst ((bs ++ [x]).map prD))) : opIx s (.ref q) (.int (-1)) = some (prD x) := by
  have h1 : -((bs.length : Int) + 1) ≤ -1 := by omega
  have h2 : (-1 + ((bs.length : Int) + 1)).toNat = bs.length := by omega
  have h3 : (1 : Int) ≤ (bs.length : Int) + 1 := by omega
  simp [opIx, seqOf, h, ixD, place, h1, h2, h3]
theorem eq_nil_ref {s : Sto} {q : Nat} {xs : List D} (h : s[q]? = some (.lst xs)) : opEq s (.ref q) (.lst []) = some (.bl xs.isEmpty) := by
  have : opEq s (.ref q) (.lst []) = (eqD (.lst xs) (.lst [])).map D.bl := by simp [opEq, view, h]
  rw [this]
  cases xs <;> rfl
theorem tup_pr (p : Pr) (s : Sto) : opTuple s (.lst [.int p.1, chD p.2]) = some (prD p) := rfl
section
variable {s : Sto} {R S N P : Nat} {M NW : SM} {hs : List (Int × Nat)} {t : T} {b : Nat}
/-- another pile -/
theorem PS.putQ (ps : PS s R S N P M NW hs t b) {h : Int} {q : Nat} (m : (h, q) ∈ hs) {l : List Pr} (l8 : l.length ≤ 8) : PS (s.set q (.lst (l.map prD))) R S N P M NW hs ⟨t.now, putP t.pl h l⟩ b ∧ GrB b s (s.set q (.lst (l.map prD))) := by
  have hq := ps.pr.at_ _ m
  have ne : ∀ {n : Nat} {o : Ob}, s[n]? = some o → (∀ ds, o ≠ .lst ds) → q ≠ n := fun {n o} h1 h2 z => by
    rw [← z] at h1
    exact h2 _ (Option.some.inj (h1.symm.trans hq))
  have bq := ps.bq _ m
  refine ⟨⟨by rw [List.getElem?_set_ne (ne ps.hR fun _ z => nomatch z)]; exact ps.hR, by rw [List.getElem?_set_ne (ne ps.hS fun _ z => nomatch z)]; exact ps.hS, by rw [List.getElem?_set_ne (ne ps.hN fun _ z => nomatch z)]; exact ps.hN, ps.nk, ps.sub, ps.iff, ps.pr.put m l, fun k => ?_, ps.np, ps.sb, ps.bR, ps.bN, ps.bP, ps.bq⟩, by simp, fun j hj => List.getElem?_set_ne (by simp only at bq; omega)⟩
  show (putP t.pl h l k).length ≤ 8
  unfold putP
  split
  · exact l8
  · exact ps.l8 k
/-- the piles' dict is asked -/
theorem PS.setd (ps : PS s R S N P M NW hs t b) (hh : hs.length < 1000) (h : Int) {o k : ME} {env : Env} (ho : o env s = .ok (.ref P) s) (hk : k env s = .ok (.int h) s) :
    ∃ hs' q s', eDSetd o k (ePlc (lLst aNil)) env s = .ok (.ref q) s' ∧ PS s' R S N P M NW hs' t b ∧ (h, q) ∈ hs' ∧ hs'.length ≤ hs.length + 1 ∧ GrB b s s' := by
  obtain ⟨hs', q, s', e, p', m, hl, hg, fr, nw⟩ := setd_ok ps.pr hh h ho hk
  have lt : ∀ {n : Nat} {o : Ob}, s[n]? = some o → n < s.length := fun h => (List.getElem?_eq_some_iff.mp h).1
  have hP := lt ps.pr.dic
  have nR : R ≠ P := fun z => by
    have h1 := ps.hR
    rw [z, ps.pr.dic] at h1
    cases h1
  have nS : S ≠ P := fun z => by
    have := ps.sb
    have := ps.bP
    omega
  have bP := ps.bP
  refine ⟨hs', q, s', e, ⟨(fr _ (lt ps.hR) nR).trans ps.hR, (fr _ (lt ps.hS) nS).trans ps.hS, (fr _ (lt ps.hN) ps.np).trans ps.hN, ps.nk, ps.sub, ps.iff, p', ps.l8, ps.np, ps.sb, ps.bR, ps.bN, ps.bP, fun x hx => ?_⟩, m, hl, hg, fun j hj => fr j (by omega) (by omega)⟩
  rcases nw x hx with h1 | h1
  · exact ps.bq x h1
  · omega
theorem pre_io (ps : PS s R S N P M NW hs t b) (hh : hs.length < 1000) (inn : Bool) (h : Int) (p : Pr) (i : Int) : ∃ hs' q s', PS s' R S N P M NW hs' t b ∧ (h, q) ∈ hs' ∧ hs'.length ≤ hs.length + 1 ∧ GrB b s s' ∧
    ∀ (r : SRes), sSeq rd5 (sSeq rd6 rd7) (rE R i (EV.io inn h p).word (EV.io inn h p).things (.val (.int h)) (.val (.lst [.int p.1, chD p.2])) (.val (.ref q))) s' = r →
      f_Reading_reads [.ref R, .int i, .str (EV.io inn h p).word, .lst (EV.io inn h p).things] s = match r with | .nx _ s => .ok .non s | .rt d s => .ok d s | .ex x _ s => .exc x s | _ => .stk := by
  have ok : (EV.io inn h p).ok := trivial
  obtain ⟨hs', q, s', e, p', m, hl, g⟩ := ps.setd hh h (o := eFld 16 (eVar 0) "piles") (k := eVar 4) (env := rE R i (EV.io inn h p).word (EV.io inn h p).things (.val (.int h)) (.val (.lst [.int p.1, chD p.2])) .emp) (by simp [fld_piles ps]) (by simp)
  refine ⟨hs', q, s', p', m, hl, g, fun r hr => ?_⟩
  have h0 := rd0_skip ok (by cases inn <;> rfl) R i (EV.io inn h p).things .emp .emp .emp s
  have h1 := rd1_skip ok (by cases inn <;> rfl) R i (EV.io inn h p).things .emp .emp .emp s
  have h2 := rd2_skip ok rfl R i (EV.io inn h p).things .emp .emp .emp s
  have h3 : rd3 (rE R i (EV.io inn h p).word (EV.io inn h p).things .emp .emp .emp) s = .nx (rE R i (EV.io inn h p).word (EV.io inn h p).things (.val (.int h)) (.val (.lst [.int p.1, chD p.2])) .emp) s := by
    have := star1L 4 5 (.int h) [.int p.1, chD p.2] (rE R i (EV.io inn h p).word (EV.io inn h p).things .emp .emp .emp) (by simp)
    simp [rd3, EV.things] at this ⊢
    simp [this]
  have h4 : rd4 (rE R i (EV.io inn h p).word (EV.io inn h p).things (.val (.int h)) (.val (.lst [.int p.1, chD p.2])) .emp) s = .nx (rE R i (EV.io inn h p).word (EV.io inn h p).things (.val (.int h)) (.val (.lst [.int p.1, chD p.2])) (.val (.ref q))) s' := by
    unfold rd4
    rw [s_sAsg, e]
    rfl
  have h5 : (sSeq rd0 (sSeq rd1 (sSeq rd2 (sSeq rd3 (sSeq rd4 (sSeq rd5 (sSeq rd6 rd7))))))) [.val (.ref R), .val (.int i), .val (.str (EV.io inn h p).word), .val (.lst (EV.io inn h p).things), .emp, .emp, .emp] s = r :=
    seq_nx h0 (seq_nx h1 (seq_nx h2 (seq_nx h3 (seq_nx h4 hr))))
  rw [reads_eq]
  simp only [s_runB, List.length_cons, List.length_nil, if_true, List.map_cons, List.map_nil, List.cons_append, List.nil_append, List.replicate]
  rw [h5]
  all_goals (cases r <;> rfl)
theorem snoc_cases (l : List Pr) : l = [] ∨ ∃ bs x, l = bs ++ [x] := by
  rcases List.eq_nil_or_concat l with h | ⟨bs, x, h⟩
  · exact .inl h
  · exact .inr ⟨bs, x, by rw [h, List.concat_eq_append]⟩
theorem reads_out (ps : PS s R S N P M NW hs t b) (hh : hs.length < 1000) (h : Int) (p : Pr) (i : Int) :
    ((t.pl h).getLast? ≠ some p ∧ ∃ s', f_Reading_reads [.ref R, .int i, .str wOut, .lst [.int h, .int p.1, chD p.2]] s = .exc ⟨1, [("event", .int i)]⟩ s' ∧ GrB b s s') ∨
    ((t.pl h).getLast? = some p ∧ ∃ s' hs', f_Reading_reads [.ref R, .int i, .str wOut, .lst [.int h, .int p.1, chD p.2]] s = .ok .non s' ∧ PS s' R S N P M NW hs' ⟨t.now, putP t.pl h (t.pl h).dropLast⟩ b ∧ GrB b s s' ∧ hs'.length ≤ hs.length + 1) := by
  obtain ⟨hs', q, s', p', m, hl, g, run⟩ := pre_io ps hh false h p i
  have ew : opEq s' (.str wOut) (.str [111, 117, 116]) = some (.bl true) := eq_out (e := .io false h p) trivial s'
  have hq := p'.pr.at_ _ m
  simp only at hq
  have hpl : plOf s' (.ref q) = some ((t.pl h).map prD) := by simp [plOf, hq]
  have en := eq_nil_ref hq
  rcases snoc_cases (t.pl h) with hb | ⟨bs, x, hb⟩
  · left
    refine ⟨by rw [hb]; simp, s', ?_, g⟩
    rw [hb] at en
    have hr : rd5 (rE R i wOut [.int h, .int p.1, chD p.2] (.val (.int h)) (.val (.lst [.int p.1, chD p.2])) (.val (.ref q))) s' = .ex ⟨1, [("event", .int i)]⟩ (rE R i wOut [.int h, .int p.1, chD p.2] (.val (.int h)) (.val (.lst [.int p.1, chD p.2])) (.val (.ref q))) s' := by
      simp [rd5, ew, en]
    exact run _ (seq_ex hr)
  · have hli : opIx s' (.ref q) (.int (-1)) = some (prD x) := last_ix (bs := bs) (by rw [hq, hb])
    have en' : opEq s' (.ref q) (.lst []) = some (.bl false) := by rw [en, hb]; simp
    have hgl : (t.pl h).getLast? = some x := by rw [hb]; simp
    by_cases hx : x = p
    · right
      subst hx
      have hdl : ((t.pl h).map prD).dropLast = (t.pl h).dropLast.map prD := by simp
      have hat : ((t.pl h).map prD)[((t.pl h).map prD).length - 1]? = some (prD x) := by
        rw [hb]
        simp
      have hd8 : (t.pl h).dropLast.length ≤ 8 := by
        have := p'.l8 h
        simp
        omega
      obtain ⟨p2, g2⟩ := p'.putQ m hd8
      refine ⟨hgl, _, hs', ?_, p2, g.trans g2, hl⟩
      have hr : rd5 (rE R i wOut [.int h, .int x.1, chD x.2] (.val (.int h)) (.val (.lst [.int x.1, chD x.2])) (.val (.ref q))) s' = .rt .non (s'.set q (.lst ((t.pl h).dropLast.map prD))) := by
        have hne := ne_pr x x s'
        simp only [ne_eq, not_true_eq_false, decide_false] at hne
        rw [← hdl]
        have hpop : popAt (.ref q) s' = .ok (prD x) (s'.set q (.lst ((t.pl h).map prD).dropLast)) := by
          unfold popAt
          rw [hpl]
          simp only [hat]
          rfl
        simp only [rd5, s_sIf, s_tVal, s_eOp2, s_eBor, List.getElem?_cons_succ, List.getElem?_cons_zero, s_eC, Res.bind_ok, ew, Res.ofO_some, asB_bl, Res.go_ok, if_true, s_sSeq, s_tOr, s_eFrz, s_lLst, s_aNil, List.length_nil, Nat.zero_le, en', Bool.false_eq_true, if_false, s_eOp1, opNeg, hli, tup_pr, hne, s_sNext, SRes.andThen_nx, s_sDrop, ePopL, s_plAt, s_eVar, hpl, Option.isSome_some, hpop, s_sRet]
      exact run _ (seq_rt hr)
    · left
      refine ⟨by rw [hgl]; exact fun z => hx (Option.some.inj z), s', ?_, g⟩
      have hr : rd5 (rE R i wOut [.int h, .int p.1, chD p.2] (.val (.int h)) (.val (.lst [.int p.1, chD p.2])) (.val (.ref q))) s' = .ex ⟨1, [("event", .int i)]⟩ (rE R i wOut [.int h, .int p.1, chD p.2] (.val (.int h)) (.val (.lst [.int p.1, chD p.2])) (.val (.ref q))) s' := by
        have hne := ne_pr x p s'
        simp only [ne_eq, hx, not_false_eq_true, decide_true] at hne
        simp only [rd5, s_sIf, s_tVal, s_eOp2, s_eBor, List.getElem?_cons_succ, List.getElem?_cons_zero, s_eC, Res.bind_ok, ew, Res.ofO_some, asB_bl, Res.go_ok, if_true, s_sSeq, s_tOr, s_eFrz, s_lLst, s_aNil, List.length_nil, Nat.zero_le, en', Bool.false_eq_true, if_false, s_eOp1, opNeg, hli, tup_pr, hne, s_sRs, s_aCons, s_eVar, List.length_cons]
        rfl
      exact run _ (seq_ex hr)
theorem mixes_ext {M M' : SM} {n : Int} (h : M.lookup n = M'.lookup n) (bs : List Pr) (p : Pr) : mixes M n bs p = mixes M' n bs p := by
  have : hasS M n = hasS M' n := by
    funext d
    unfold hasS
    rw [h]
  unfold mixes
  rw [this]
theorem reads_in (ps : PS s R S N P M NW hs t b) (hM : M.length < 64) (hh : hs.length < 1000) (h : Int) (p : Pr) (i : Int) :
    ((t.pl h).length = 8 ∧ ∃ s', f_Reading_reads [.ref R, .int i, .str wIn, .lst [.int h, .int p.1, chD p.2]] s = .exc ⟨1, [("event", .int i)]⟩ s' ∧ GrB b s s') ∨
    ((t.pl h).length ≠ 8 ∧ ∃ s' hs', f_Reading_reads [.ref R, .int i, .str wIn, .lst [.int h, .int p.1, chD p.2]] s = .ok (optI ((act M t.now).find? fun n => mixes M n (t.pl h) p)) s' ∧ PS s' R S N P M NW hs' ⟨t.now, putP t.pl h (t.pl h ++ [p])⟩ b ∧ GrB b s s' ∧ hs'.length ≤ hs.length + 1) := by
  obtain ⟨hs', q, s', p', m, hl, g, run⟩ := pre_io ps hh true h p i
  have ew : opEq s' (.str wIn) (.str [111, 117, 116]) = some (.bl false) := eq_out (e := .io true h p) trivial s'
  have hq := p'.pr.at_ _ m
  simp only at hq
  have hpl : plOf s' (.ref q) = some ((t.pl h).map prD) := by simp [plOf, hq]
  have hlen : opLen s' (.ref q) = some (.int (t.pl h).length) := by simp [opLen, seqOf, hq]
  have h5 : rd5 (rE R i wIn [.int h, .int p.1, chD p.2] (.val (.int h)) (.val (.lst [.int p.1, chD p.2])) (.val (.ref q))) s' = .nx (rE R i wIn [.int h, .int p.1, chD p.2] (.val (.int h)) (.val (.lst [.int p.1, chD p.2])) (.val (.ref q))) s' := by
    simp [rd5, ew]
  have e8 : opEq s' (.int (t.pl h).length) (.int 8) = some (.bl (decide ((t.pl h).length = 8))) := by
    have : opEq s' (.int (t.pl h).length) (.int 8) = some (.bl (((t.pl h).length : Int) == 8)) := rfl
    rw [this]
    congr 2
    rw [Bool.eq_iff_iff]
    simp
    omega
  by_cases h8 : (t.pl h).length = 8
  · left
    refine ⟨h8, s', ?_, g⟩
    rw [decide_eq_true h8] at e8
    have h6 : rd6 (rE R i wIn [.int h, .int p.1, chD p.2] (.val (.int h)) (.val (.lst [.int p.1, chD p.2])) (.val (.ref q))) s' = .ex ⟨1, [("event", .int i)]⟩ (rE R i wIn [.int h, .int p.1, chD p.2] (.val (.int h)) (.val (.lst [.int p.1, chD p.2])) (.val (.ref q))) s' := by
      simp only [rd6, s_sIf, s_tVal, s_eOp2, s_eOp1, s_eBor, List.getElem?_cons_succ, List.getElem?_cons_zero, Res.bind_ok, hlen, Res.ofO_some, s_eC, d_MOST_PILE, e8, asB_bl, Res.go_ok, if_true, s_sRs, s_aCons, s_eVar, s_aNil, List.length_cons, List.length_nil]
      rfl
    exact run _ (seq_nx h5 (seq_ex h6))
  · right
    rw [decide_eq_false h8] at e8
    have h6 : rd6 (rE R i wIn [.int h, .int p.1, chD p.2] (.val (.int h)) (.val (.lst [.int p.1, chD p.2])) (.val (.ref q))) s' = .nx (rE R i wIn [.int h, .int p.1, chD p.2] (.val (.int h)) (.val (.lst [.int p.1, chD p.2])) (.val (.ref q))) s' := by
      simp only [rd6, s_sIf, s_tVal, s_eOp2, s_eOp1, s_eBor, List.getElem?_cons_succ, List.getElem?_cons_zero, Res.bind_ok, hlen, Res.ofO_some, s_eC, d_MOST_PILE, e8, asB_bl, Res.go_ok, Bool.false_eq_true, if_false, s_sNext]
    have l8 := p'.l8 h
    have hl8 : (t.pl h ++ [p]).length ≤ 8 := by simp; omega
    obtain ⟨p2, g2⟩ := p'.putQ m hl8
    have hqs : q < s'.length := (List.getElem?_eq_some_iff.mp hq).1
    have hq2 : (s'.set q (.lst ((t.pl h ++ [p]).map prD)))[q]? = some (.lst ((t.pl h ++ [p]).map prD)) := List.getElem?_set_self hqs
    have mx := mixing_ok hq2 p2.hN (by have := p2.nlen; omega) p2.nk (by omega)
    have ea : (sortU (NW.map (·.1))).find? (fun n => mixes NW n (t.pl h) p) = (act M t.now).find? fun n => mixes M n (t.pl h) p := by
      have e1 : sortU (NW.map (·.1)) = act M t.now := sortU_ext fun k => by rw [ps.iff, List.mem_filter]
      rw [← e1]
      refine find_ext fun n hn => mixes_ext ?_ _ _
      obtain ⟨x, hx, rfl⟩ := List.mem_map.mp (sortU_mem.mp hn)
      rw [ps.sub x hx]
      exact mem_look ps.nk hx
    rw [ea] at mx
    refine ⟨h8, _, hs', ?_, p2, g.trans g2, hl⟩
    have hcap : (t.pl h).length < cap := by unfold cap; omega
    have happ : appAt (.ref q) (prD p) s' = .ok .non (s'.set q (.lst ((t.pl h ++ [p]).map prD))) := by
      unfold appAt
      rw [hpl]
      simp [hcap, putL]
    have h7 : rd7 (rE R i wIn [.int h, .int p.1, chD p.2] (.val (.int h)) (.val (.lst [.int p.1, chD p.2])) (.val (.ref q))) s' = .rt (optI ((act M t.now).find? fun n => mixes M n (t.pl h) p)) (s'.set q (.lst ((t.pl h ++ [p]).map prD))) := by
      simp only [rd7, s_sSeq, s_sDrop, eAppL, s_plAt, s_eVar, List.getElem?_cons_succ, List.getElem?_cons_zero, Res.bind_ok, hpl, Option.isSome_some, if_true, s_eOp1, s_eBor, tup_pr, Res.ofO_some, happ, Res.go_ok, SRes.andThen_nx, s_sRet, s_eCall, s_aCons, s_eFld, fld_now p2, s_aNil, mx]
    exact run _ (seq_nx h5 (seq_nx h6 h7))
end
end K15

/-! The plain law of k15, part 6: mixture. Own text. -/
namespace K15
open MP
def nxt (f : Option (Nat × Int)) (k : Nat) (m : Option Int) : Option (Nat × Int) := match f with | some x => some x | none => m.map fun n => (k, n)
def runR (M : SM) : List EV → Nat → T → Option (Nat × Int) → Sum Nat (Option (Nat × Int))
  | [], _, _, f => .inr f
  | e :: r, k, t, f => match stepR M e t with
    | none => .inl k
    | some (t', m) => runR M r (k + 1) t' (nxt f k m)
def foundD : Option (Nat × Int) → D
  | none => .non
  | some (k, n) => .tup [.int k, .int n]
def enD : Nat → List EV → List D
  | _, [] => []
  | k, e :: r => .tup [.int (k : Nat), evD e] :: enD (k + 1) r
theorem mapIdx_en : ∀ (evs : List EV) (k : Nat), ((evs.map evD).mapIdx fun i d => D.tup [.int ((k + i : Nat) : Int), d]) = enD k evs
  | [], _ => rfl
  | e :: r, k => by
    have ih := mapIdx_en r (k + 1)
    rw [List.map_cons, List.mapIdx_cons]
    simp only [Nat.add_zero, enD]
    rw [← ih]
    congr 2
    funext i d
    congr 4
    omega
section
variable {s : Sto} {R S N P : Nat} {M NW : SM} {hs : List (Int × Nat)} {t : T} {b : Nat}
theorem reads_step (ps : PS s R S N P M NW hs t b) (hM : M.length < 64) (hh : hs.length < 1000) (e : EV) (ok : e.ok) (i : Int) :
    (stepR M e t = none ∧ ∃ s', f_Reading_reads [.ref R, .int i, .str e.word, .lst e.things] s = .exc ⟨1, [("event", .int i)]⟩ s' ∧ GrB b s s') ∨
    (∃ t' m s' NW' hs', stepR M e t = some (t', m) ∧ f_Reading_reads [.ref R, .int i, .str e.word, .lst e.things] s = .ok (optI m) s' ∧ PS s' R S N P M NW' hs' t' b ∧ GrB b s s' ∧ hs'.length ≤ hs.length + 1) := by
  cases e with
  | bg n =>
    obtain ⟨s', NW', e1, p', g⟩ := reads_bg ps hM n i
    exact .inr ⟨_, none, s', NW', hs, rfl, e1, p', g, by omega⟩
  | gn n =>
    obtain ⟨s', NW', e1, p', g⟩ := reads_gn ps n i
    exact .inr ⟨_, none, s', NW', hs, rfl, e1, p', g, by omega⟩
  | ot w ns => exact .inr ⟨t, none, s, NW, hs, rfl, reads_ot ps ok i, ps, GrB.refl b s, by omega⟩
  | io inn h p =>
    cases inn with
    | true =>
      rcases reads_in ps hM hh h p i with ⟨h8, s', e1, g⟩ | ⟨h8, s', hs', e1, p', g, l⟩
      · exact .inl ⟨by simp [stepR, h8], s', e1, g⟩
      · exact .inr ⟨_, _, s', NW, hs', by simp only [stepR, h8, if_false], e1, p', g, l⟩
    | false =>
      rcases reads_out ps hh h p i with ⟨h8, s', e1, g⟩ | ⟨h8, s', hs', e1, p', g, l⟩
      · exact .inl ⟨by simp [stepR, h8], s', e1, g⟩
      · exact .inr ⟨_, none, s', NW, hs', by simp only [stepR, h8, if_true], e1, p', g, l⟩
def xb : MS := (sSeq (sAsg (eMeth 16 "reads" f_Reading_reads (eVar 2) (aCons (eVar 4) (aCons (eVar 5) (aCons (eVar 6) aNil)))) (gNm 7)) (sIf (tAnd (tVal (eOp1 opIsN (eVar 3))) (tVal (eOp1 opNotN (eVar 7)))) (sAsg (eTup (aCons (eVar 4) (aCons (eVar 7) aNil))) (gNm 3)) sNext))
theorem mixture_eq : f_mixture = runB 2 8 (sSeq (sAsg (eNew 16 f_Reading___init__ (aCons (eVar 1) aNil)) (gNm 2)) (sSeq (sAsg (eC .non) (gNm 3)) (sSeq (sFor (iEnum (eVar 0)) (gTp [(gNm 4), (gSt [(gNm 5)] [] 6)]) xb) (sRet (eVar 3))))) := rfl
abbrev xE (bk : List D) (S R : Nat) (f : D) (z4 z5 z6 z7 : Slot) : Env := [.val (.lst bk), .val (.ref S), .val (.ref R), .val f, z4, z5, z6, z7]
theorem is_reads (ps : PS s R S N P M NW hs t b) : isOf s 16 "reads" (.ref R) = true := by simp [isOf, ps.hR, List.lookup]
theorem tgt (bk : List D) (S R : Nat) (f : D) (z4 z5 z6 z7 : Slot) (k : Int) (e : EV) (ok : e.ok) : gTp [(gNm 4), (gSt [(gNm 5)] [] 6)] (.tup [.int k, evD e]) (xE bk S R f z4 z5 z6 z7) = some (xE bk S R f (.val (.int k)) (.val (.str e.word)) (.val (.lst e.things)) z7) := by
  have hl : e.things.length + 1 ≤ 16000 := by
    cases e with
    | io b h p => simp [EV.things]
    | bg n => simp [EV.things]
    | gn n => simp [EV.things]
    | ot w ns =>
      have := ok.2.1
      simp [EV.things]
      omega
  have := star1 5 6 (.str e.word) e.things (xE bk S R f (.val (.int k)) z5 z6 z7) hl
  simp only [s_gTp, s_gAll1, s_gNm, Option.bind_some, s_gAll0, List.set_cons_succ, List.set_cons_zero, evD] at this ⊢
  rw [this]
  rfl
theorem run_ok : ∀ (evs : List EV) (k : Nat) (t : T) (f : Option (Nat × Int)) (bk : List D) (s : Sto) (NW : SM) (hs : List (Int × Nat)) (z4 z5 z6 z7 : Slot), PS s R S N P M NW hs t b → M.length < 64 → hs.length + evs.length < 1000 → (∀ e ∈ evs, e.ok) →
    (∃ j e' s', runR M evs k t f = .inl j ∧ forP (gTp [(gNm 4), (gSt [(gNm 5)] [] 6)]) xb (enD k evs) (xE bk S R (foundD f) z4 z5 z6 z7) s = .ex ⟨1, [("event", .int (j : Nat))]⟩ e' s' ∧ GrB b s s') ∨
    (∃ f' y4 y5 y6 y7 s', runR M evs k t f = .inr f' ∧ forP (gTp [(gNm 4), (gSt [(gNm 5)] [] 6)]) xb (enD k evs) (xE bk S R (foundD f) z4 z5 z6 z7) s = .nx (xE bk S R (foundD f') y4 y5 y6 y7) s' ∧ GrB b s s')
  | [], k, t, f, bk, s, NW, hs, z4, z5, z6, z7, _, _, _, _ => .inr ⟨f, z4, z5, z6, z7, s, rfl, rfl, GrB.refl b s⟩
  | e :: r, k, t, f, bk, s, NW, hs, z4, z5, z6, z7, ps, hM, hl, ho => by
    have ok := ho e List.mem_cons_self
    rw [List.length_cons] at hl
    have tg := tgt bk S R (foundD f) z4 z5 z6 z7 (k : Nat) e ok
    have io := is_reads ps
    rcases reads_step ps hM (by omega) e ok (k : Nat) with ⟨h1, s', e1, g⟩ | ⟨t', m, s', NW', hs', h1, e1, p', g, l⟩
    · left
      refine ⟨k, xE bk S R (foundD f) (.val (.int k)) (.val (.str e.word)) (.val (.lst e.things)) z7, s', by simp only [runR, h1], ?_, g⟩
      have hx : xb (xE bk S R (foundD f) (.val (.int k)) (.val (.str e.word)) (.val (.lst e.things)) z7) s = .ex ⟨1, [("event", .int (k : Nat))]⟩ (xE bk S R (foundD f) (.val (.int k)) (.val (.str e.word)) (.val (.lst e.things)) z7) s' := by
        simp only [xb, s_sSeq, s_sAsg, s_eMeth, s_eVar, List.getElem?_cons_succ, List.getElem?_cons_zero, Res.bind_ok, io, if_true, s_aCons, s_aNil, e1, Res.go_exc, SRes.andThen_ex]
      simp only [forP, enD, tg, hx]
    · have hx : xb (xE bk S R (foundD f) (.val (.int k)) (.val (.str e.word)) (.val (.lst e.things)) z7) s = .nx (xE bk S R (foundD (nxt f k m)) (.val (.int k)) (.val (.str e.word)) (.val (.lst e.things)) (.val (optI m))) s' := by
        simp only [xb, s_sSeq, s_sAsg, s_eMeth, s_eVar, List.getElem?_cons_succ, List.getElem?_cons_zero, Res.bind_ok, io, if_true, s_aCons, s_aNil, e1, Res.go_ok, s_putE, s_gNm, List.set_cons_succ, List.set_cons_zero, SRes.andThen_nx, s_sIf, s_tAnd, s_tVal, s_eOp1, opIsN, Res.ofO_some, asB_bl]
        cases f with
        | some x => simp [foundD, isNon, nxt]
        | none =>
          cases m with
          | none => simp [foundD, isNon, opNotN, optI, nxt]
          | some n => simp [foundD, isNon, opNotN, optI, nxt]
      rcases run_ok r (k + 1) t' (nxt f k m) bk s' NW' hs' (.val (.int k)) (.val (.str e.word)) (.val (.lst e.things)) (.val (optI m)) p' hM (by omega) fun x hx => ho x (List.mem_cons_of_mem _ hx) with ⟨j, e', s2, w1, w2, w3⟩ | ⟨f', y4, y5, y6, y7, s2, w1, w2, w3⟩
      · exact .inl ⟨j, e', s2, by simp only [runR, h1]; exact w1, by simp only [forP, enD, tg, hx]; exact w2, g.trans w3⟩
      · exact .inr ⟨f', y4, y5, y6, y7, s2, by simp only [runR, h1]; exact w1, by simp only [forP, enD, tg, hx]; exact w2, g.trans w3⟩
end
def T0 : T := ⟨[], fun _ => []⟩
theorem mixture_ok {s : Sto} {S : Nat} {M : SM} (hS : s[S]? = some (.dic (setsD M))) (hM : M.length < 64) (evs : List EV) (hl : evs.length < 1000) (ho : ∀ e ∈ evs, e.ok) :
    (∃ j s', runR M evs 0 T0 none = .inl j ∧ f_mixture [.lst (evs.map evD), .ref S] s = .exc ⟨1, [("event", .int (j : Nat))]⟩ s' ∧ GrB s.length s s') ∨
    (∃ f s', runR M evs 0 T0 none = .inr f ∧ f_mixture [.lst (evs.map evD), .ref S] s = .ok (foundD f) s' ∧ GrB s.length s s') := by
  have hSl : S < s.length := (List.getElem?_eq_some_iff.mp hS).1
  have nw : eNew 16 f_Reading___init__ (aCons (eVar 1) aNil) [.val (.lst (evs.map evD)), .val (.ref S), .emp, .emp, .emp, .emp, .emp, .emp] s = .ok (.ref s.length) (s ++ [.ins 16 [("sets", .ref S), ("now", .ref (s.length + 1)), ("piles", .ref (s.length + 2))], .dic [], .dic []]) := by
    simp [eNew, f_Reading___init__, putF']
  have ps : PS (s ++ [.ins 16 [("sets", .ref S), ("now", .ref (s.length + 1)), ("piles", .ref (s.length + 2))], .dic [], .dic []]) s.length S (s.length + 1) (s.length + 2) M [] [] T0 s.length := by
    refine ⟨by simp, by rw [List.getElem?_append_left hSl]; exact hS, by simp [setsD], by simp, by simp, fun k => by simp [T0], ⟨by simp, by simp, by simp, by simp, fun _ _ => rfl⟩, fun _ => by simp [T0], by omega, hSl, by omega, by omega, by omega, by simp⟩
  have g0 : GrB s.length s (s ++ [.ins 16 [("sets", .ref S), ("now", .ref (s.length + 1)), ("piles", .ref (s.length + 2))], .dic [], .dic []]) := ⟨by simp, fun j hj => List.getElem?_append_left hj⟩
  have hen : iEnum (eVar 0) (xE (evs.map evD) S s.length .non .emp .emp .emp .emp) (s ++ [.ins 16 [("sets", .ref S), ("now", .ref (s.length + 1)), ("piles", .ref (s.length + 2))], .dic [], .dic []]) = .ok ⟨enD 0 evs, none⟩ (s ++ [.ins 16 [("sets", .ref S), ("now", .ref (s.length + 1)), ("piles", .ref (s.length + 2))], .dic [], .dic []]) := by
    have := mapIdx_en evs 0
    simp only [Nat.zero_add] at this
    simp [this]
  have hf := s_sFor (iEnum (eVar 0)) (gTp [(gNm 4), (gSt [(gNm 5)] [] 6)]) xb _ _ _ _ hen
  have main : ∀ r, sSeq (sFor (iEnum (eVar 0)) (gTp [(gNm 4), (gSt [(gNm 5)] [] 6)]) xb) (sRet (eVar 3)) (xE (evs.map evD) S s.length .non .emp .emp .emp .emp) (s ++ [.ins 16 [("sets", .ref S), ("now", .ref (s.length + 1)), ("piles", .ref (s.length + 2))], .dic [], .dic []]) = r →
      f_mixture [.lst (evs.map evD), .ref S] s = match r with | .nx _ s => .ok .non s | .rt d s => .ok d s | .ex x _ s => .exc x s | _ => .stk := fun r hr => by
    have h1 : sAsg (eNew 16 f_Reading___init__ (aCons (eVar 1) aNil)) (gNm 2) [.val (.lst (evs.map evD)), .val (.ref S), .emp, .emp, .emp, .emp, .emp, .emp] s = .nx [.val (.lst (evs.map evD)), .val (.ref S), .val (.ref s.length), .emp, .emp, .emp, .emp, .emp] (s ++ [.ins 16 [("sets", .ref S), ("now", .ref (s.length + 1)), ("piles", .ref (s.length + 2))], .dic [], .dic []]) := by
      rw [s_sAsg, nw]
      rfl
    have h2 : (sSeq (sAsg (eNew 16 f_Reading___init__ (aCons (eVar 1) aNil)) (gNm 2)) (sSeq (sAsg (eC .non) (gNm 3)) (sSeq (sFor (iEnum (eVar 0)) (gTp [(gNm 4), (gSt [(gNm 5)] [] 6)]) xb) (sRet (eVar 3))))) [.val (.lst (evs.map evD)), .val (.ref S), .emp, .emp, .emp, .emp, .emp, .emp] s = r := seq_nx h1 (seq_nx rfl hr)
    rw [mixture_eq]
    simp only [s_runB, List.length_cons, List.length_nil, if_true, List.map_cons, List.map_nil, List.cons_append, List.nil_append, List.replicate]
    rw [h2]
    all_goals (cases r <;> rfl)
  rcases run_ok (R := s.length) (N := s.length + 1) (P := s.length + 2) (b := s.length) evs 0 T0 none (evs.map evD) _ [] [] .emp .emp .emp .emp ps hM (by simp; omega) ho with ⟨j, e', s2, w1, w2, w3⟩ | ⟨f', y4, y5, y6, y7, s2, w1, w2, w3⟩
  · left
    exact ⟨j, s2, w1, main _ (seq_ex (hf.trans w2)), g0.trans w3⟩
  · right
    exact ⟨f', s2, w1, main _ (seq_nx (hf.trans w2) rfl), g0.trans w3⟩
end K15

/-! The plain law of k15, part 7: the law's own reading, its words; what mixes. Own text. -/
namespace K15
open MP
def l0 : MS := (sAsg (eOp2 opIx (eBor 0) (eBor 5)) (gNm 6))
def l1 : MS := (sIf (tVal (eOp2 opEq (eOp2 opIx (eBor 6) (eC (.int 0))) (eC (.str [98, 101, 103, 105, 110])))) (sDrop (eAppL (eVar 3) (eOp2 opIx (eBor 6) (eC (.int 1))))) sNext)
def l2 : MS := (sIf (tVal (eOp2 opEq (eOp2 opIx (eBor 6) (eC (.int 0))) (eC (.str [103, 111, 110, 101])))) (sAsg (ePlc (lLc (iSeq (eVar 3)) (gNm 8) (tVal (eOp2 opNe (eBor 8) (eOp2 opIx (eBor 6) (eC (.int 1))))) (eVar 8) [8])) (gNm 3)) sNext)
def l3 : MS := (sAsg (eIf (tVal (eOp2 opIn (eOp2 opIx (eBor 6) (eC (.int 0))) (eTup (aCons (eC (.str [105, 110])) (aCons (eC (.str [111, 117, 116])) aNil))))) (eDSetd (eVar 2) (eOp2 opIx (eBor 6) (eC (.int 1))) (ePlc (lLst aNil))) (ePlc (lLst aNil))) (gNm 7))
def l4 : MS := (sIf (tVal (eOp2 opEq (eOp2 opIx (eBor 6) (eC (.int 0))) (eC (.str [111, 117, 116])))) (sSeq (sIf (tOr (tVal (eOp2 opEq (eBor 7) (eFrz (lLst aNil)))) (tVal (eOp2 opNe (eOp2 opIx (eBor 7) (eOp1 opNeg (eC (.int 1)))) (eSlT (eVar 6) (oSome (eC (.int 2))) oNone)))) (sRet (eTup (aCons (eC (.str [114, 101, 102, 117, 115, 101, 100])) (aCons (eC (.str [98, 111, 111, 107])) (aCons (eVar 5) aNil))))) sNext) (sDrop (ePopL (eVar 7)))) sNext)
def lct : MT := (tVal (eOp2 opIn (eOp2 opIx (eBor 10) (eC (.int 0))) (eOp2 opDGet (eVar 1) (eVar 8))))
def lce : ME := (eCall f_law_new (aCons (eOp2 opIx (eBor 10) (eC (.int 1))) (aCons (eVar 8) aNil)))
def lm : MS := (sSeq (sAsg (eFrz (lLc (iSeq (eVar 7)) (gNm 10) lct lce [10])) (gNm 9)) (sIf (tAnd (tVal (eOp2 opIn (eOp2 opIx (eBor 6) (eC (.int 2))) (eOp2 opDGet (eVar 1) (eVar 8)))) (tAnd (tVal (eOp2 opGt (eLenSet (eVar 9)) (eC (.int 1)))) (tVal (eOp1 opIsN (eVar 4))))) (sAsg (eTup (aCons (eVar 5) (aCons (eVar 8) aNil))) (gNm 4)) sNext))
def l5a : MS := (sIf (tVal (eOp2 opEq (eOp1 opLen (eBor 7)) (eC (.int 8)))) (sRet (eTup (aCons (eC (.str [114, 101, 102, 117, 115, 101, 100])) (aCons (eC (.str [98, 111, 111, 107])) (aCons (eVar 5) aNil))))) sNext)
def l5b : MS := (sDrop (eAppL (eVar 7) (eSlT (eVar 6) (oSome (eC (.int 2))) oNone)))
def l5c : MS := (sFor (iSeq (eFrz (lSrtL (eFrz (lLc (iSeq (eVar 3)) (gNm 8) (tVal (eOp2 opDIn (eVar 8) (eVar 1))) (eVar 8) [8]))))) (gNm 8) lm)
def l5 : MS := (sIf (tVal (eOp2 opEq (eOp2 opIx (eBor 6) (eC (.int 0))) (eC (.str [105, 110])))) (sSeq l5a (sSeq l5b l5c)) sNext)
def lb : MS := (sSeq l0 (sSeq l1 (sSeq l2 (sSeq l3 (sSeq l4 l5)))))
theorem reading_eq : f_law_reading = runB 2 11 (sSeq (sPar3 2 3 4 (aCons eDic0 (aCons (ePlc (lLst aNil)) (aCons (eC .non) aNil)))) (sSeq (sFor (iRng (eOp1 opLen (eBor 0))) (gNm 5) lb) (sRet (eVar 4)))) := rfl
abbrev lE (B S P N : Nat) (f : D) (z5 z6 z7 z8 z9 : Slot) : Env := [.val (.ref B), .val (.ref S), .val (.ref P), .val (.ref N), .val f, z5, z6, z7, z8, z9, .emp]
theorem boolsOf_map : ∀ l : List Bool, boolsOf (l.map D.bl) = some l
  | [] => rfl
  | a :: l => by simp [boolsOf, boolsOf_map l]
/-- the sides of a pile's deeds of a change -/
def sides (M : SM) (n : Int) (l : List Pr) : List Bool := (l.filter fun x => hasS M n x.1).map fun x => sd x.2 n
theorem sides_mixes (M : SM) (n : Int) (bs : List Pr) (p : Pr) : (hasS M n p.1 && decide (1 < cntB (sides M n (bs ++ [p])))) = mixes M n bs p := by
  cases hp : hasS M n p.1 with
  | false =>
    unfold mixes
    simp [hp]
  | true =>
    have e1 : sides M n (bs ++ [p]) = sides M n bs ++ [sd p.2 n] := by
      unfold sides
      rw [List.filter_append, List.map_append]
      simp [hp]
    have e2 : mixes M n bs p = (sides M n bs).any fun x => x != sd p.2 n := by
      unfold mixes sides
      rw [Bool.eq_iff_iff]
      simp only [hp, Bool.and_true, List.any_eq_true, List.mem_map, Bool.not_eq_true', List.isEmpty_eq_false_iff_exists_mem, List.mem_filter]
      constructor
      · rintro ⟨x, ⟨h1, h2⟩, h3⟩
        exact ⟨_, ⟨x, ⟨h1, h2⟩, rfl⟩, h3⟩
      · rintro ⟨_, ⟨x, ⟨h1, h2⟩, rfl⟩, h3⟩
        exact ⟨x, ⟨h1, h2⟩, h3⟩
    rw [e1, e2, Bool.true_and, Bool.eq_iff_iff, decide_eq_true_eq, List.any_eq_true]
    unfold cntB
    generalize sides M n bs = L
    generalize sd p.2 n = c
    constructor
    · intro h
      cases c with
      | true =>
        by_cases hf : false ∈ L
        · exact ⟨false, hf, rfl⟩
        · simp [hf] at h
      | false =>
        by_cases hf : true ∈ L
        · exact ⟨true, hf, rfl⟩
        · simp [hf] at h
    · rintro ⟨x, hx, h⟩
      cases c <;> cases x <;> simp_all
theorem ix1e (a b : D) (r : List D) (s : Sto) : opIx s (.tup (a :: b :: r)) (.int 1) = some b := ix1 a b r s
section
variable {s : Sto} {S q : Nat} {M : SM}
theorem lm_ok (hS : s[S]? = some (.dic (setsD M))) {bs : List Pr} {p : Pr} (hq : s[q]? = some (.lst ((bs ++ [p]).map prD))) (hb : bs.length ≤ 500) {n : Int} {l : List Int} (h : M.lookup n = some l) (B P N k : Nat) (hh : Int) (f : Option (Nat × Int)) (z9 : Slot) :
    ∃ z9', lm (lE B S P N (foundD f) (.val (.int k)) (.val (evD (.io true hh p))) (.val (.ref q)) (.val (.int n)) z9) s = .nx (lE B S P N (foundD (nxt f k (if mixes M n bs p then some n else none))) (.val (.int k)) (.val (evD (.io true hh p))) (.val (.ref q)) (.val (.int n)) z9') s := by
  have g := get_sets hS h
  have comp : lLc (iSeq (eVar 7)) (gNm 10) lct lce [10] (lE B S P N (foundD f) (.val (.int k)) (.val (evD (.io true hh p))) (.val (.ref q)) (.val (.int n)) z9) s = .ok ((sides M n (bs ++ [p])).map D.bl) s := by
    have := lLc_pin (emb := prD) (P := fun x => hasS M n x.1) (F := fun x => D.bl (sd x.2 n)) (g := gNm 10) (t := lct) (e := lce) (m := eVar 7) (vs := [10]) (env := lE B S P N (foundD f) (.val (.int k)) (.val (evD (.io true hh p))) (.val (.ref q)) (.val (.int n)) z9) (l := bs ++ [p]) (s := s) (by simp) hq (len_cap (by simp; omega)) fun x _ =>
      ⟨(lE B S P N (foundD f) (.val (.int k)) (.val (evD (.io true hh p))) (.val (.ref q)) (.val (.int n)) z9).set 10 (.val (prD x)), rfl, by
        have e1 : opIx s (prD x) (.int 0) = some (.int x.1) := ix0 _ _ s
        simp [lct, e1, g, in_ints, has_at h], fun _ => by
        have e1 : opIx s (prD x) (.int 1) = some (chD x.2) := ix1 _ _ _ s
        simp [lce, e1, new_ok]⟩
    rw [this]
    unfold sides
    rw [List.map_map]
    rfl
  refine ⟨.val (.lst ((sides M n (bs ++ [p])).map D.bl)), ?_⟩
  have e2 : opIx s (evD (.io true hh p)) (.int 2) = some (.int p.1) := ix2 _ _ _ _ s
  have e3 : opIn s (.int p.1) (.tup (l.map D.int)) = some (.bl (hasS M n p.1)) := by rw [in_ints, has_at h]
  have hl : (sides M n (bs ++ [p])).length < 1000 := by
    unfold sides
    rw [List.length_map]
    refine Nat.lt_of_le_of_lt (List.length_filter_le _ _) ?_; rw [List.length_append, List.length_singleton]; omega
  have e4 : lenSetAt (.lst ((sides M n (bs ++ [p])).map D.bl)) s = .ok (.int (cntB (sides M n (bs ++ [p])) : Nat)) s := by
    unfold lenSetAt
    simp only [boolsOf_map]
    rw [if_pos hl]
  have e5 : opGt s (.int (cntB (sides M n (bs ++ [p])) : Nat)) (.int 1) = some (.bl (decide (1 < cntB (sides M n (bs ++ [p]))))) := by
    show some (D.bl (decide ((1 : Int) < ((cntB (sides M n (bs ++ [p])) : Nat) : Int)))) = _
    congr 2
    rw [Bool.eq_iff_iff, decide_eq_true_eq, decide_eq_true_eq]; omega
  have em := sides_mixes M n bs p
  have st : ∀ r, sIf (tAnd (tVal (eOp2 opIn (eOp2 opIx (eBor 6) (eC (.int 2))) (eOp2 opDGet (eVar 1) (eVar 8)))) (tAnd (tVal (eOp2 opGt (eLenSet (eVar 9)) (eC (.int 1)))) (tVal (eOp1 opIsN (eVar 4))))) (sAsg (eTup (aCons (eVar 5) (aCons (eVar 8) aNil))) (gNm 4)) sNext (lE B S P N (foundD f) (.val (.int k)) (.val (evD (.io true hh p))) (.val (.ref q)) (.val (.int n)) (.val (.lst ((sides M n (bs ++ [p])).map D.bl)))) s = r →
      lm (lE B S P N (foundD f) (.val (.int k)) (.val (evD (.io true hh p))) (.val (.ref q)) (.val (.int n)) z9) s = r := fun r hr => by
    refine seq_nx ?_ hr
    rw [s_sAsg, s_eFrz, comp]
    rfl
  refine st _ ?_
  simp only [s_sIf, s_tAnd, s_tVal, s_eOp2, s_eBor, List.getElem?_cons_succ, List.getElem?_cons_zero, s_eC, Res.bind_ok, e2, Res.ofO_some, s_eVar, g, e3, asB_bl]
  cases hp : hasS M n p.1 with
  | false =>
    rw [hp, Bool.false_and] at em
    rw [← em]
    cases f with
    | none => simp [nxt]
    | some x => simp [nxt]
  | true =>
    rw [hp, Bool.true_and] at em
    simp only [if_true, s_eLenSet, s_eVar, List.getElem?_cons_succ, List.getElem?_cons_zero, Res.bind_ok, e4, e5, Res.ofO_some, asB_bl, em]
    cases mixes M n bs p with
    | false =>
      cases f with
      | none => simp [nxt]
      | some x => simp [nxt]
    | true =>
      cases f with
      | none => simp [nxt, foundD, opIsN, isNon]
      | some x => simp [nxt, foundD, opIsN, isNon]
theorem lm_loop (hS : s[S]? = some (.dic (setsD M))) {bs : List Pr} {p : Pr} (hq : s[q]? = some (.lst ((bs ++ [p]).map prD))) (hb : bs.length ≤ 500) (B P N k : Nat) (hh : Int) : ∀ (l : List Int) (f : Option (Nat × Int)) (z8 z9 : Slot), (∀ n ∈ l, ∃ ds, M.lookup n = some ds) →
    ∃ z8' z9', forP (gNm 8) lm (l.map D.int) (lE B S P N (foundD f) (.val (.int k)) (.val (evD (.io true hh p))) (.val (.ref q)) z8 z9) s = .nx (lE B S P N (foundD (nxt f k (l.find? fun n => mixes M n bs p))) (.val (.int k)) (.val (evD (.io true hh p))) (.val (.ref q)) z8' z9') s
  | [], f, z8, z9, _ => ⟨z8, z9, by cases f <;> rfl⟩
  | n :: l, f, z8, z9, hl => by
    obtain ⟨ds, hd⟩ := hl n List.mem_cons_self
    obtain ⟨y9, e1⟩ := lm_ok hS hq hb hd B P N k hh f z9
    obtain ⟨w8, w9, e2⟩ := lm_loop hS hq hb B P N k hh l (nxt f k (if mixes M n bs p then some n else none)) (.val (.int n)) y9 fun m hm => hl m (List.mem_cons_of_mem _ hm)
    refine ⟨w8, w9, ?_⟩
    rw [List.map_cons]
    simp only [forP, s_gNm, List.set_cons_succ, List.set_cons_zero, e1]
    rw [e2]
    have ef : nxt (nxt f k (if mixes M n bs p then some n else none)) k (l.find? fun n => mixes M n bs p) = nxt f k ((n :: l).find? fun n => mixes M n bs p) := by
      cases f with
      | some x => simp [nxt]
      | none => cases hm : mixes M n bs p <;> simp [nxt, List.find?_cons, hm]
    rw [ef]
end
end K15

/-! The plain law of k15, part 8: the law's own reading. Own text. -/
namespace K15
open MP
theorem intsD_cons (i n : Nat) : intsD (i : Int) (n + 1) = .int (i : Int) :: intsD ((i + 1 : Nat) : Int) n := by
  unfold intsD
  rw [List.range_succ_eq_map, List.map_cons, List.map_map]; have h0 : (i : Int) + ((0 : Nat) : Int) = (i : Int) := by omega
  rw [h0]
  congr 1
  refine List.map_congr_left fun k _ => ?_; show D.int ((i : Int) + ((k + 1 : Nat) : Int)) = D.int (((i + 1 : Nat) : Int) + (k : Int))
  congr 1
  omega
def refD (k : Nat) : D := .tup [.str [114, 101, 102, 117, 115, 101, 100], .str [98, 111, 111, 107], .int k]
structure LS (s : Sto) (B S P N : Nat) (M : SM) (bk : List D) (hs : List (Int × Nat)) (t : T) (b : Nat) : Prop where
  hB : s[B]? = some (.lst bk)
  hS : s[S]? = some (.dic (setsD M))
  hN : s[N]? = some (.lst (t.now.map D.int))
  nq : N ∉ hs.map (·.2)
  pr : PR s P hs t.pl
  l8 : ∀ h, (t.pl h).length ≤ 8
  bb : B < b
  sb : S < b
  bN : b ≤ N
  bP : b ≤ P
  bq : ∀ x ∈ hs, b ≤ x.2
section
variable {s : Sto} {B S P N : Nat} {M : SM} {bk : List D} {hs : List (Int × Nat)} {t : T} {b : Nat}
theorem LS.nP (ls : LS s B S P N M bk hs t b) : N ≠ P := fun z => by
  have h1 := ls.hN
  rw [z, ls.pr.dic] at h1
  cases h1
/-- something new behind -/
theorem LS.app (ls : LS s B S P N M bk hs t b) (o : Ob) : LS (s ++ [o]) B S P N M bk hs t b ∧ GrB b s (s ++ [o]) := by
  have lt : ∀ {n : Nat} {o : Ob}, s[n]? = some o → n < s.length := fun h => (List.getElem?_eq_some_iff.mp h).1
  have a : ∀ n, n < s.length → (s ++ [o])[n]? = s[n]? := fun n h => List.getElem?_append_left h
  have hb : b ≤ s.length := Nat.le_trans ls.bN (Nat.le_of_lt (lt ls.hN))
  exact ⟨⟨(a _ (lt ls.hB)).trans ls.hB, (a _ (lt ls.hS)).trans ls.hS, (a _ (lt ls.hN)).trans ls.hN, ls.nq, ls.pr.frame (a _ (lt ls.pr.dic)) (fun x hx => a _ (lt (ls.pr.at_ x hx))), ls.l8, ls.bb, ls.sb, ls.bN, ls.bP, ls.bq⟩, by simp, fun j hj => a j (by omega)⟩
/-- another list of what stands, in its place -/
theorem LS.setN (ls : LS s B S P N M bk hs t b) (now' : List Int) : LS (s.set N (.lst (now'.map D.int))) B S P N M bk hs ⟨now', t.pl⟩ b ∧ GrB b s (s.set N (.lst (now'.map D.int))) := by
  have hN : N < s.length := (List.getElem?_eq_some_iff.mp ls.hN).1
  have bb := ls.bb
  have sb := ls.sb
  have bN := ls.bN
  exact ⟨⟨by rw [List.getElem?_set_ne (by omega)]; exact ls.hB, by rw [List.getElem?_set_ne (by omega)]; exact ls.hS, List.getElem?_set_self hN, ls.nq, ls.pr.frame (List.getElem?_set_ne ls.nP) (fun x hx => List.getElem?_set_ne fun z => ls.nq (List.mem_map.mpr ⟨x, hx, z.symm⟩)), ls.l8, ls.bb, ls.sb, ls.bN, ls.bP, ls.bq⟩, by simp, fun j hj => List.getElem?_set_ne (by omega)⟩
/-- another list of what stands, new -/
theorem LS.newN (ls : LS s B S P N M bk hs t b) (now' : List Int) : LS (s ++ [.lst (now'.map D.int)]) B S P s.length M bk hs ⟨now', t.pl⟩ b ∧ GrB b s (s ++ [.lst (now'.map D.int)]) := by
  obtain ⟨l2, g⟩ := ls.app (.lst (now'.map D.int))
  have hN : N < s.length := (List.getElem?_eq_some_iff.mp ls.hN).1
  have bN := ls.bN
  refine ⟨⟨l2.hB, l2.hS, by simp, fun z => ?_, l2.pr, l2.l8, l2.bb, l2.sb, by omega, l2.bP, l2.bq⟩, g⟩
  obtain ⟨x, hx, e⟩ := List.mem_map.mp z
  have := (List.getElem?_eq_some_iff.mp (ls.pr.at_ x hx)).1
  omega
theorem LS.putQ (ls : LS s B S P N M bk hs t b) {h : Int} {q : Nat} (m : (h, q) ∈ hs) {l : List Pr} (l8 : l.length ≤ 8) : LS (s.set q (.lst (l.map prD))) B S P N M bk hs ⟨t.now, putP t.pl h l⟩ b ∧ GrB b s (s.set q (.lst (l.map prD))) := by
  have bq : b ≤ q := ls.bq _ m
  have bb := ls.bb
  have sb := ls.sb
  have nq : q ≠ N := fun z => ls.nq (List.mem_map.mpr ⟨_, m, z⟩)
  refine ⟨⟨by rw [List.getElem?_set_ne (by omega)]; exact ls.hB, by rw [List.getElem?_set_ne (by omega)]; exact ls.hS, by rw [List.getElem?_set_ne nq]; exact ls.hN, ls.nq, ls.pr.put m l, fun k => ?_, ls.bb, ls.sb, ls.bN, ls.bP, ls.bq⟩, by simp, fun j hj => List.getElem?_set_ne (by omega)⟩
  show (putP t.pl h l k).length ≤ 8
  unfold putP
  split
  · exact l8
  · exact ls.l8 k
theorem LS.setd (ls : LS s B S P N M bk hs t b) (hh : hs.length < 1000) (h : Int) {o k : ME} {env : Env} (ho : o env s = .ok (.ref P) s) (hk : k env s = .ok (.int h) s) :
    ∃ hs' q s', eDSetd o k (ePlc (lLst aNil)) env s = .ok (.ref q) s' ∧ LS s' B S P N M bk hs' t b ∧ (h, q) ∈ hs' ∧ hs'.length ≤ hs.length + 1 ∧ GrB b s s' := by
  obtain ⟨hs', q, s', e, p', m, hl, hg, fr, nw⟩ := setd_ok ls.pr hh h ho hk
  have lt : ∀ {n : Nat} {o : Ob}, s[n]? = some o → n < s.length := fun h => (List.getElem?_eq_some_iff.mp h).1
  have hP := lt ls.pr.dic
  have hNl := lt ls.hN
  have bb := ls.bb
  have sb := ls.sb
  have bP := ls.bP
  have bN := ls.bN
  refine ⟨hs', q, s', e, ⟨(fr _ (lt ls.hB) (by omega)).trans ls.hB, (fr _ (lt ls.hS) (by omega)).trans ls.hS, (fr _ hNl ls.nP).trans ls.hN, fun z => ?_, p', ls.l8, ls.bb, ls.sb, ls.bN, ls.bP, fun x hx => ?_⟩, m, hl, hg, fun j hj => fr j (by omega) (by omega)⟩
  · obtain ⟨x, hx, e⟩ := List.mem_map.mp z
    rcases nw x hx with h1 | h1
    · exact ls.nq (List.mem_map.mpr ⟨x, h1, e⟩)
    · omega
  · rcases nw x hx with h1 | h1
    · exact ls.bq x h1
    · omega
theorem one0 (e : EV) (s : Sto) : opIx s (evD e) (.int 0) = some (.str e.word) := ix0 _ _ s
theorem l1_skip {e : EV} (ok : e.ok) (h : e.isB = false) (f : D) (z5 z7 z8 z9 : Slot) (s : Sto) : l1 (lE B S P N f z5 (.val (evD e)) z7 z8 z9) s = .nx (lE B S P N f z5 (.val (evD e)) z7 z8 z9) s := by
  simp [l1, one0, eq_begin ok, h]
theorem l2_skip {e : EV} (ok : e.ok) (h : e.isG = false) (f : D) (z5 z7 z8 z9 : Slot) (s : Sto) : l2 (lE B S P N f z5 (.val (evD e)) z7 z8 z9) s = .nx (lE B S P N f z5 (.val (evD e)) z7 z8 z9) s := by
  simp [l2, one0, eq_gone ok, h]
theorem l3_non {e : EV} (ok : e.ok) (h : e.isIO = false) (f : D) (z5 z7 z8 z9 : Slot) (s : Sto) : l3 (lE B S P N f z5 (.val (evD e)) z7 z8 z9) s = .nx (lE B S P N f z5 (.val (evD e)) (.val (.ref s.length)) z8 z9) (s ++ [.lst []]) := by
  simp [l3, one0, opIn, in_io ok, h]
theorem l4_skip {e : EV} (ok : e.ok) (h : e.isO = false) (f : D) (z5 z7 z8 z9 : Slot) (s : Sto) : l4 (lE B S P N f z5 (.val (evD e)) z7 z8 z9) s = .nx (lE B S P N f z5 (.val (evD e)) z7 z8 z9) s := by
  simp [l4, one0, eq_out ok, h]
theorem l5_skip {e : EV} (ok : e.ok) (h : e.isI = false) (f : D) (z5 z7 z8 z9 : Slot) (s : Sto) : l5 (lE B S P N f z5 (.val (evD e)) z7 z8 z9) s = .nx (lE B S P N f z5 (.val (evD e)) z7 z8 z9) s := by
  simp [l5, one0, eq_in ok, h]
theorem l0_ok {k : Nat} {e : EV} (hB : s[B]? = some (.lst bk)) (hk : bk[k]? = some (evD e)) (f : D) (z6 z7 z8 z9 : Slot) : l0 (lE B S P N f (.val (.int k)) z6 z7 z8 z9) s = .nx (lE B S P N f (.val (.int k)) (.val (evD e)) z7 z8 z9) s := by
  have hlt := (List.getElem?_eq_some_iff.mp hk).1
  have h1 : (k : Int) < (bk.length : Int) := by omega
  have e1 : opIx s (.ref B) (.int (k : Nat)) = some (evD e) := by
    simp [opIx, seqOf, hB, ixD, place, hlt]
    exact (List.getElem?_eq_some_iff.mp hk).2
  simp [l0, e1]
/-- an event of another kind -/
theorem step_non (ls : LS s B S P N M bk hs t b) {e : EV} (ok : e.ok) (h : e.isIO = false) (f : D) (z5 z7 z8 z9 : Slot) : ∃ z7', sSeq l3 (sSeq l4 l5) (lE B S P N f z5 (.val (evD e)) z7 z8 z9) s = .nx (lE B S P N f z5 (.val (evD e)) z7' z8 z9) (s ++ [.lst []]) ∧ LS (s ++ [.lst []]) B S P N M bk hs t b ∧ GrB b s (s ++ [.lst []]) := by
  have ho : e.isO = false := by
    cases e with
    | io => cases h
    | _ => rfl
  have hi : e.isI = false := by
    cases e with
    | io => cases h
    | _ => rfl
  exact ⟨_, seq_nx (l3_non ok h f z5 z7 z8 z9 s) (seq_nx (l4_skip ok ho f z5 _ z8 z9 _) (l5_skip ok hi f z5 _ z8 z9 _)), ls.app _⟩
theorem ne_int (a c : Int) (s : Sto) : opNe s (.int a) (.int c) = some (.bl (decide (a ≠ c))) := by
  have : opNe s (.int a) (.int c) = some (.bl (!(a == c))) := rfl
  rw [this]
  congr 2
  rw [Bool.eq_iff_iff]
  simp
end
end K15

/-! The plain law of k15, part 9: the law's own reading, one event and all. Own text. -/
namespace K15
open MP
theorem nxt_none (f : Option (Nat × Int)) (k : Nat) : nxt f k none = f := by cases f <;> rfl
theorem cut2 (a b c d : D) : cutD [a, b, c, d] (some 2) none = [c, d] := rfl
section
variable {s : Sto} {B S P N : Nat} {M : SM} {bk : List D} {hs : List (Int × Nat)} {t : T} {b : Nat}
theorem one1 (n : Int) (s : Sto) : opIx s (evD (.bg n)) (.int 1) = some (.int n) := ix1 _ _ _ s
theorem one1g (n : Int) (s : Sto) : opIx s (evD (.gn n)) (.int 1) = some (.int n) := ix1 _ _ _ s
theorem one1i (inn : Bool) (h : Int) (p : Pr) (s : Sto) : opIx s (evD (.io inn h p)) (.int 1) = some (.int h) := ix1 _ _ _ s
theorem step_bg (ls : LS s B S P N M bk hs t b) (hn : t.now.length < 900) (n : Int) (f : D) (z5 z7 z8 z9 : Slot) : ∃ z7' s', sSeq l1 (sSeq l2 (sSeq l3 (sSeq l4 l5))) (lE B S P N f z5 (.val (evD (.bg n))) z7 z8 z9) s = .nx (lE B S P N f z5 (.val (evD (.bg n))) z7' z8 z9) s' ∧ LS s' B S P N M bk hs ⟨t.now ++ [n], t.pl⟩ b ∧ GrB b s s' := by
  have ok : (EV.bg n).ok := trivial
  have ew := eq_begin ok s
  have hp : plOf s (.ref N) = some (t.now.map D.int) := by simp [plOf, ls.hN]
  have hc : t.now.length < cap := by unfold cap; omega
  obtain ⟨l2', g2⟩ := ls.setN (t.now ++ [n])
  have h1 : l1 (lE B S P N f z5 (.val (evD (.bg n))) z7 z8 z9) s = .nx (lE B S P N f z5 (.val (evD (.bg n))) z7 z8 z9) (s.set N (.lst ((t.now ++ [n]).map D.int))) := by
    simp [l1, one0, ew, EV.isB, eAppL, hp, one1, appAt, hc, putL]
  obtain ⟨z7', h3, l3', g3⟩ := step_non l2' ok rfl f z5 z7 z8 z9
  exact ⟨z7', _, seq_nx h1 (seq_nx (l2_skip ok rfl f z5 z7 z8 z9 _) h3), l3', g2.trans g3⟩
theorem step_gn (ls : LS s B S P N M bk hs t b) (hn : t.now.length < 900) (n : Int) (f : D) (z5 z7 z8 z9 : Slot) : ∃ N' z7' s', sSeq l1 (sSeq l2 (sSeq l3 (sSeq l4 l5))) (lE B S P N f z5 (.val (evD (.gn n))) z7 z8 z9) s = .nx (lE B S P N' f z5 (.val (evD (.gn n))) z7' z8 z9) s' ∧ LS s' B S P N' M bk hs ⟨t.now.filter fun k => decide (k ≠ n), t.pl⟩ b ∧ GrB b s s' := by
  have ok : (EV.gn n).ok := trivial
  have ew := eq_gone ok s
  obtain ⟨l2', g2⟩ := ls.newN (t.now.filter fun k => decide (k ≠ n))
  have lc := lLc_pin (emb := D.int) (P := fun k => decide (k ≠ n)) (F := D.int) (g := gNm 8) (t := tVal (eOp2 opNe (eBor 8) (eOp2 opIx (eBor 6) (eC (.int 1))))) (e := eVar 8) (m := eVar 3) (vs := [8]) (env := lE B S P N f z5 (.val (evD (.gn n))) z7 z8 z9) (l := t.now) (s := s) (by simp) ls.hN (len_cap (by omega)) fun x _ =>
    ⟨(lE B S P N f z5 (.val (evD (.gn n))) z7 .emp z9).set 8 (.val (.int x)), rfl, by simp only [s_tVal, s_eOp2, s_eBor, List.set_cons_succ, List.set_cons_zero, List.getElem?_cons_succ, List.getElem?_cons_zero, Res.bind_ok, s_eC, one1g, Res.ofO_some, ne_int, asB_bl], fun _ => by simp⟩
  have h1 : l2 (lE B S P N f z5 (.val (evD (.gn n))) z7 z8 z9) s = .nx (lE B S P s.length f z5 (.val (evD (.gn n))) z7 z8 z9) (s ++ [.lst ((t.now.filter fun k => decide (k ≠ n)).map D.int)]) := by
    unfold l2
    simp only [s_sIf, s_tVal, s_eOp2, s_eBor, List.getElem?_cons_succ, List.getElem?_cons_zero, s_eC, Res.bind_ok, one0, Res.ofO_some, ew, EV.isG, asB_bl, Res.go_ok, if_true, s_sAsg, s_ePlc, lc, s_putE, s_gNm, List.set_cons_succ, List.set_cons_zero]
  obtain ⟨z7', h3, l3', g3⟩ := step_non l2' ok rfl f z5 z7 z8 z9
  exact ⟨_, z7', _, seq_nx (l1_skip ok rfl f z5 z7 z8 z9 s) (seq_nx h1 h3), l3', g2.trans g3⟩
theorem step_ot (ls : LS s B S P N M bk hs t b) {w : List Nat} {ns : List Int} (ok : (EV.ot w ns).ok) (f : D) (z5 z7 z8 z9 : Slot) : ∃ z7' s', sSeq l1 (sSeq l2 (sSeq l3 (sSeq l4 l5))) (lE B S P N f z5 (.val (evD (.ot w ns))) z7 z8 z9) s = .nx (lE B S P N f z5 (.val (evD (.ot w ns))) z7' z8 z9) s' ∧ LS s' B S P N M bk hs t b ∧ GrB b s s' := by
  obtain ⟨z7', h3, l3', g3⟩ := step_non ls ok rfl f z5 z7 z8 z9
  exact ⟨z7', _, seq_nx (l1_skip ok rfl f z5 z7 z8 z9 s) (seq_nx (l2_skip ok rfl f z5 z7 z8 z9 s) h3), l3', g3⟩
theorem pre_l3 (ls : LS s B S P N M bk hs t b) (hh : hs.length < 1000) (inn : Bool) (h : Int) (p : Pr) (f : D) (z5 z7 z8 z9 : Slot) : ∃ hs' q s', LS s' B S P N M bk hs' t b ∧ (h, q) ∈ hs' ∧ hs'.length ≤ hs.length + 1 ∧ GrB b s s' ∧
    ∀ r, sSeq l4 l5 (lE B S P N f z5 (.val (evD (.io inn h p))) (.val (.ref q)) z8 z9) s' = r → sSeq l1 (sSeq l2 (sSeq l3 (sSeq l4 l5))) (lE B S P N f z5 (.val (evD (.io inn h p))) z7 z8 z9) s = r := by
  have ok : (EV.io inn h p).ok := trivial
  obtain ⟨hs', q, s', e, p', m, hl, g⟩ := ls.setd hh h (o := eVar 2) (k := eOp2 opIx (eBor 6) (eC (.int 1))) (env := lE B S P N f z5 (.val (evD (.io inn h p))) z7 z8 z9) (by simp) (by simp [one1i])
  refine ⟨hs', q, s', p', m, hl, g, fun r hr => ?_⟩
  have h3 : l3 (lE B S P N f z5 (.val (evD (.io inn h p))) z7 z8 z9) s = .nx (lE B S P N f z5 (.val (evD (.io inn h p))) (.val (.ref q)) z8 z9) s' := by
    have hi := in_io ok s
    have hio : (EV.io inn h p).isIO = true := rfl
    unfold l3
    simp only [s_sAsg, s_eIf, s_tVal, s_eOp2, s_eBor, List.getElem?_cons_succ, List.getElem?_cons_zero, s_eC, Res.bind_ok, one0, Res.ofO_some, s_eTup, s_aCons, s_aNil, List.length_cons, List.length_nil, opIn, hi, hio, Option.map_some, asB_bl, if_true]
    simp only [show (0 + 1 + 1 ≤ 1000) = True from eq_true (by decide), if_true, Res.bind_ok, opIn, hi, hio, Option.map_some, Res.ofO_some, asB_bl, e, Res.go_ok, s_putE, s_gNm, List.set_cons_succ, List.set_cons_zero]
  exact seq_nx (l1_skip ok rfl f z5 z7 z8 z9 s) (seq_nx (l2_skip ok rfl f z5 z7 z8 z9 s) (seq_nx h3 hr))
theorem ref_ret (k : Nat) (e : Env) (s : Sto) (h : e[5]? = some (.val (.int k))) : sRet (eTup (aCons (eC (.str [114, 101, 102, 117, 115, 101, 100])) (aCons (eC (.str [98, 111, 111, 107])) (aCons (eVar 5) aNil)))) e s = .rt (refD k) s := by
  simp [h, refD]
theorem slt (inn : Bool) (h : Int) (p : Pr) (env : Env) (s : Sto) (h6 : env[6]? = some (.val (evD (.io inn h p)))) : eSlT (eVar 6) (oSome (eC (.int 2))) oNone env s = .ok (prD p) s := by
  simp [h6, evD, EV.things, cut2, prD]
theorem step_out (ls : LS s B S P N M bk hs t b) (hh : hs.length < 1000) (h : Int) (p : Pr) (f : D) (k : Nat) (z7 z8 z9 : Slot) :
    ((t.pl h).getLast? ≠ some p ∧ ∃ s', sSeq l1 (sSeq l2 (sSeq l3 (sSeq l4 l5))) (lE B S P N f (.val (.int k)) (.val (evD (.io false h p))) z7 z8 z9) s = .rt (refD k) s' ∧ GrB b s s') ∨
    ((t.pl h).getLast? = some p ∧ ∃ z7' s' hs', sSeq l1 (sSeq l2 (sSeq l3 (sSeq l4 l5))) (lE B S P N f (.val (.int k)) (.val (evD (.io false h p))) z7 z8 z9) s = .nx (lE B S P N f (.val (.int k)) (.val (evD (.io false h p))) z7' z8 z9) s' ∧ LS s' B S P N M bk hs' ⟨t.now, putP t.pl h (t.pl h).dropLast⟩ b ∧ GrB b s s' ∧ hs'.length ≤ hs.length + 1) := by
  have ok : (EV.io false h p).ok := trivial
  obtain ⟨hs', q, s', p', m, hl, g, run⟩ := pre_l3 ls hh false h p f (.val (.int k)) z7 z8 z9
  have ew : opEq s' (.str (EV.io false h p).word) (.str [111, 117, 116]) = some (.bl true) := eq_out (e := .io false h p) trivial s'
  have hq := p'.pr.at_ _ m
  simp only at hq
  have hpl : plOf s' (.ref q) = some ((t.pl h).map prD) := by simp [plOf, hq]
  have en := eq_nil_ref hq
  have sl := slt false h p (lE B S P N f (.val (.int k)) (.val (evD (.io false h p))) (.val (.ref q)) z8 z9) s' rfl
  have rr := ref_ret k (lE B S P N f (.val (.int k)) (.val (evD (.io false h p))) (.val (.ref q)) z8 z9) s' rfl
  rcases snoc_cases (t.pl h) with hb | ⟨bs, x, hb⟩
  · left
    refine ⟨by rw [hb]; simp, s', ?_, g⟩
    rw [hb] at en
    have hr : l4 (lE B S P N f (.val (.int k)) (.val (evD (.io false h p))) (.val (.ref q)) z8 z9) s' = .rt (refD k) s' := by
      simp only [l4, s_sIf, s_tVal, s_eOp2, s_eBor, List.getElem?_cons_succ, List.getElem?_cons_zero, s_eC, Res.bind_ok, one0, ew, Res.ofO_some, asB_bl, Res.go_ok, if_true, s_sSeq, s_tOr, s_eFrz, s_lLst, s_aNil, List.length_nil, Nat.zero_le, en, List.map_nil, List.isEmpty_nil]
      rw [rr]
      rfl
    exact run _ (seq_rt hr)
  · have hli : opIx s' (.ref q) (.int (-1)) = some (prD x) := last_ix (bs := bs) (by rw [hq, hb])
    have en' : opEq s' (.ref q) (.lst []) = some (.bl false) := by rw [en, hb]; simp
    have hgl : (t.pl h).getLast? = some x := by rw [hb]; simp
    by_cases hx : x = p
    · right
      subst hx
      have hdl : ((t.pl h).map prD).dropLast = (t.pl h).dropLast.map prD := by simp
      have hat : ((t.pl h).map prD)[((t.pl h).map prD).length - 1]? = some (prD x) := by
        rw [hb]
        simp
      have hd8 : (t.pl h).dropLast.length ≤ 8 := by
        have := p'.l8 h
        simp
        omega
      obtain ⟨p2, g2⟩ := p'.putQ m hd8
      refine ⟨hgl, .val (.ref q), _, hs', ?_, p2, g.trans g2, hl⟩
      have hr : l4 (lE B S P N f (.val (.int k)) (.val (evD (.io false h x))) (.val (.ref q)) z8 z9) s' = .nx (lE B S P N f (.val (.int k)) (.val (evD (.io false h x))) (.val (.ref q)) z8 z9) (s'.set q (.lst ((t.pl h).dropLast.map prD))) := by
        have hne := ne_pr x x s'
        simp only [ne_eq, not_true_eq_false, decide_false] at hne
        rw [← hdl]
        have hpop : popAt (.ref q) s' = .ok (prD x) (s'.set q (.lst ((t.pl h).map prD).dropLast)) := by
          unfold popAt
          rw [hpl]
          simp only [hat]
          rfl
        unfold l4
        rw [s_sIf]
        simp only [s_tVal, s_eOp2, s_eBor, List.getElem?_cons_succ, List.getElem?_cons_zero, s_eC, Res.bind_ok, one0, ew, Res.ofO_some, asB_bl, Res.go_ok, if_true]
        refine seq_nx (e1 := lE B S P N f (.val (.int k)) (.val (evD (.io false h x))) (.val (.ref q)) z8 z9) (s1 := s') ?_ ?_
        · simp only [s_sIf, s_tOr, s_tVal, s_eOp2, s_eBor, List.getElem?_cons_succ, List.getElem?_cons_zero, Res.bind_ok, s_eFrz, s_lLst, s_aNil, List.length_nil, Nat.zero_le, if_true, en', Res.ofO_some, asB_bl, Bool.false_eq_true, if_false, s_eOp1, s_eC, opNeg, hli, sl, hne, Res.go_ok, s_sNext]
        · simp only [s_sDrop, ePopL, s_plAt, s_eVar, List.getElem?_cons_succ, List.getElem?_cons_zero, Res.bind_ok, hpl, Option.isSome_some, if_true, hpop, Res.go_ok]
      exact run _ (seq_nx hr (l5_skip ok rfl f _ _ z8 z9 _))
    · left
      refine ⟨by rw [hgl]; exact fun z => hx (Option.some.inj z), s', ?_, g⟩
      have hr : l4 (lE B S P N f (.val (.int k)) (.val (evD (.io false h p))) (.val (.ref q)) z8 z9) s' = .rt (refD k) s' := by
        have hne := ne_pr x p s'
        simp only [ne_eq, hx, not_false_eq_true, decide_true] at hne
        unfold l4
        rw [s_sIf]
        simp only [s_tVal, s_eOp2, s_eBor, List.getElem?_cons_succ, List.getElem?_cons_zero, s_eC, Res.bind_ok, one0, ew, Res.ofO_some, asB_bl, Res.go_ok, if_true]
        refine seq_rt ?_
        simp only [s_sIf, s_tOr, s_tVal, s_eOp2, s_eBor, List.getElem?_cons_succ, List.getElem?_cons_zero, Res.bind_ok, s_eFrz, s_lLst, s_aNil, List.length_nil, Nat.zero_le, if_true, en', Res.ofO_some, asB_bl, Bool.false_eq_true, if_false, s_eOp1, s_eC, opNeg, hli, sl, hne, Res.go_ok]
        exact rr
      exact run _ (seq_rt hr)
theorem act_look (M : SM) (now : List Int) : ∀ n ∈ act M now, ∃ ds, M.lookup n = some ds := fun n hn => by
  have h1 := (List.mem_filter.mp (sortU_mem.mp hn)).2
  exact Option.isSome_iff_exists.mp h1
theorem act_len (M : SM) (now : List Int) : (act M now).length ≤ M.length := by
  have nd : (act M now).Nodup := (sortU_inc (l := now.filter fun n => (M.lookup n).isSome)).imp fun z e => by omega
  have := sub_len (b := M.map (·.1)) nd fun n hn => by
    obtain ⟨ds, h⟩ := act_look M now n hn
    exact List.mem_map.mpr ⟨_, look_mem h, rfl⟩
  simpa using this
theorem step_in (ls : LS s B S P N M bk hs t b) (hM : M.length < 64) (hn : t.now.length < 900) (hh : hs.length < 1000) (h : Int) (p : Pr) (f : Option (Nat × Int)) (k : Nat) (z7 z8 z9 : Slot) :
    ((t.pl h).length = 8 ∧ ∃ s', sSeq l1 (sSeq l2 (sSeq l3 (sSeq l4 l5))) (lE B S P N (foundD f) (.val (.int k)) (.val (evD (.io true h p))) z7 z8 z9) s = .rt (refD k) s' ∧ GrB b s s') ∨
    ((t.pl h).length ≠ 8 ∧ ∃ z7' z8' z9' s' hs', sSeq l1 (sSeq l2 (sSeq l3 (sSeq l4 l5))) (lE B S P N (foundD f) (.val (.int k)) (.val (evD (.io true h p))) z7 z8 z9) s = .nx (lE B S P N (foundD (nxt f k ((act M t.now).find? fun n => mixes M n (t.pl h) p))) (.val (.int k)) (.val (evD (.io true h p))) z7' z8' z9') s' ∧ LS s' B S P N M bk hs' ⟨t.now, putP t.pl h (t.pl h ++ [p])⟩ b ∧ GrB b s s' ∧ hs'.length ≤ hs.length + 1) := by
  have ok : (EV.io true h p).ok := trivial
  obtain ⟨hs', q, s', p', m, hl, g, run⟩ := pre_l3 ls hh true h p (foundD f) (.val (.int k)) z7 z8 z9
  have ew : opEq s' (.str (EV.io true h p).word) (.str [105, 110]) = some (.bl true) := eq_in (e := .io true h p) trivial s'
  have hq := p'.pr.at_ _ m
  simp only at hq
  have hpl : plOf s' (.ref q) = some ((t.pl h).map prD) := by simp [plOf, hq]
  have hlen : opLen s' (.ref q) = some (.int (t.pl h).length) := by simp [opLen, seqOf, hq]
  have h4 := l4_skip (B := B) (S := S) (P := P) (N := N) (e := .io true h p) ok rfl (foundD f) (.val (.int k)) (.val (.ref q)) z8 z9 s'
  have e8 : opEq s' (.int (t.pl h).length) (.int 8) = some (.bl (decide ((t.pl h).length = 8))) := by
    have : opEq s' (.int (t.pl h).length) (.int 8) = some (.bl (((t.pl h).length : Int) == 8)) := rfl
    rw [this]
    congr 2
    rw [Bool.eq_iff_iff]
    simp
    omega
  have hgo : ∀ r, sSeq l5a (sSeq l5b l5c) (lE B S P N (foundD f) (.val (.int k)) (.val (evD (.io true h p))) (.val (.ref q)) z8 z9) s' = r → l5 (lE B S P N (foundD f) (.val (.int k)) (.val (evD (.io true h p))) (.val (.ref q)) z8 z9) s' = r := fun r hr => by
    unfold l5
    rw [s_sIf]
    simp only [s_tVal, s_eOp2, s_eBor, List.getElem?_cons_succ, List.getElem?_cons_zero, s_eC, Res.bind_ok, one0, ew, Res.ofO_some, asB_bl, Res.go_ok, if_true]
    exact hr
  by_cases h8 : (t.pl h).length = 8
  · left
    refine ⟨h8, s', ?_, g⟩
    rw [decide_eq_true h8] at e8
    have rr := ref_ret k (lE B S P N (foundD f) (.val (.int k)) (.val (evD (.io true h p))) (.val (.ref q)) z8 z9) s' rfl
    have h6 : l5a (lE B S P N (foundD f) (.val (.int k)) (.val (evD (.io true h p))) (.val (.ref q)) z8 z9) s' = .rt (refD k) s' := by
      unfold l5a
      rw [s_sIf]
      simp only [s_tVal, s_eOp2, s_eOp1, s_eBor, List.getElem?_cons_succ, List.getElem?_cons_zero, Res.bind_ok, hlen, Res.ofO_some, s_eC, e8, asB_bl, Res.go_ok, if_true]
      exact rr
    exact run _ (seq_nx h4 (hgo _ (seq_rt h6)))
  · right
    rw [decide_eq_false h8] at e8
    have h6 : l5a (lE B S P N (foundD f) (.val (.int k)) (.val (evD (.io true h p))) (.val (.ref q)) z8 z9) s' = .nx (lE B S P N (foundD f) (.val (.int k)) (.val (evD (.io true h p))) (.val (.ref q)) z8 z9) s' := by
      unfold l5a
      rw [s_sIf]
      simp only [s_tVal, s_eOp2, s_eOp1, s_eBor, List.getElem?_cons_succ, List.getElem?_cons_zero, Res.bind_ok, hlen, Res.ofO_some, s_eC, e8, asB_bl, Res.go_ok, Bool.false_eq_true, if_false, s_sNext]
    have l8 := p'.l8 h
    have hl8 : (t.pl h ++ [p]).length ≤ 8 := by simp; omega
    obtain ⟨p2, g2⟩ := p'.putQ m hl8
    have hqs : q < s'.length := (List.getElem?_eq_some_iff.mp hq).1
    have hq2 : (s'.set q (.lst ((t.pl h ++ [p]).map prD)))[q]? = some (.lst ((t.pl h ++ [p]).map prD)) := List.getElem?_set_self hqs
    have hcap : (t.pl h).length < cap := by unfold cap; omega
    have happ : appAt (.ref q) (prD p) s' = .ok .non (s'.set q (.lst ((t.pl h ++ [p]).map prD))) := by
      unfold appAt
      rw [hpl]
      simp [hcap, putL]
    have sl := slt true h p (lE B S P N (foundD f) (.val (.int k)) (.val (evD (.io true h p))) (.val (.ref q)) z8 z9) s' rfl
    have h7 : l5b (lE B S P N (foundD f) (.val (.int k)) (.val (evD (.io true h p))) (.val (.ref q)) z8 z9) s' = .nx (lE B S P N (foundD f) (.val (.int k)) (.val (evD (.io true h p))) (.val (.ref q)) z8 z9) (s'.set q (.lst ((t.pl h ++ [p]).map prD))) := by
      simp only [l5b, s_sDrop, eAppL, s_plAt, s_eVar, List.getElem?_cons_succ, List.getElem?_cons_zero, Res.bind_ok, hpl, Option.isSome_some, if_true, sl, happ, Res.go_ok]
    generalize s'.set q (.lst ((t.pl h ++ [p]).map prD)) = s2 at p2 g2 hq2 h7 happ
    have hdin : ∀ n, opDIn s2 (.int n) (.ref S) = some (.bl (M.lookup n).isSome) := fun n => by
      have : dicOf s2 (.ref S) = some (setsD M) := by simp [dicOf, p2.hS]
      simp [opDIn, isKey, this, look_sets]
    have lc := lLc_pin (emb := D.int) (P := fun n => (M.lookup n).isSome) (F := D.int) (g := gNm 8) (t := tVal (eOp2 opDIn (eVar 8) (eVar 1))) (e := eVar 8) (m := eVar 3) (vs := [8]) (env := lE B S P N (foundD f) (.val (.int k)) (.val (evD (.io true h p))) (.val (.ref q)) z8 z9) (l := t.now) (s := s2) (by simp) p2.hN (len_cap (by omega)) fun x _ =>
      ⟨(lE B S P N (foundD f) (.val (.int k)) (.val (evD (.io true h p))) (.val (.ref q)) .emp z9).set 8 (.val (.int x)), rfl, by simp [hdin], fun _ => by simp⟩
    have hfl : (t.now.filter fun n => (M.lookup n).isSome).length < 1000 := Nat.lt_of_le_of_lt (List.length_filter_le _ _) (by omega)
    have hst : setLAt (.lst ((t.now.filter fun n => (M.lookup n).isSome).map D.int)) s2 = .ok ((act M t.now).map D.int) s2 := by
      have := act_len M t.now
      unfold setLAt
      simp only [intsOf_map]
      rw [if_pos ⟨hfl, by show (act M t.now).length < 64; omega⟩]
      rfl
    obtain ⟨z8', z9', e2⟩ := lm_loop p2.hS hq2 (by omega) B P N k h (act M t.now) f z8 z9 (act_look M t.now)
    have hf := s_sFor (iSeq (eFrz (lSrtL (eFrz (lLc (iSeq (eVar 3)) (gNm 8) (tVal (eOp2 opDIn (eVar 8) (eVar 1))) (eVar 8) [8]))))) (gNm 8) lm (lE B S P N (foundD f) (.val (.int k)) (.val (evD (.io true h p))) (.val (.ref q)) z8 z9) s2 s2 ((act M t.now).map D.int) (by
      rw [s_iSeq, s_eFrz, s_lSrtL, s_eFrz, lc]
      simp only [Res.bind_ok, hst, srcOf, Res.ofO_some])
    exact ⟨h8, .val (.ref q), z8', z9', s2, hs', run _ (seq_nx h4 (hgo _ (seq_nx h6 (seq_nx h7 (hf.trans e2))))), p2, g.trans g2, hl⟩
theorem lstep (ls : LS s B S P N M bk hs t b) (hM : M.length < 64) (hn : t.now.length < 900) (hh : hs.length < 1000) {k : Nat} {e : EV} (ok : e.ok) (hk : bk[k]? = some (evD e)) (f : Option (Nat × Int)) (z6 z7 z8 z9 : Slot) :
    (stepR M e t = none ∧ ∃ s', lb (lE B S P N (foundD f) (.val (.int k)) z6 z7 z8 z9) s = .rt (refD k) s' ∧ GrB b s s') ∨
    (∃ t' m s' N' hs' y6 y7 y8 y9, stepR M e t = some (t', m) ∧ lb (lE B S P N (foundD f) (.val (.int k)) z6 z7 z8 z9) s = .nx (lE B S P N' (foundD (nxt f k m)) (.val (.int k)) y6 y7 y8 y9) s' ∧ LS s' B S P N' M bk hs' t' b ∧ GrB b s s' ∧ hs'.length ≤ hs.length + 1 ∧ t'.now.length ≤ t.now.length + 1) := by
  have h0 := l0_ok (S := S) (P := P) (N := N) ls.hB hk (foundD f) z6 z7 z8 z9
  cases e with
  | bg n =>
    obtain ⟨y7, s', e1, l', g⟩ := step_bg ls hn n (foundD f) (.val (.int k)) z7 z8 z9
    exact .inr ⟨_, none, s', N, hs, _, y7, z8, z9, rfl, by rw [nxt_none]; exact seq_nx h0 e1, l', g, by omega, by simp⟩
  | gn n =>
    obtain ⟨N', y7, s', e1, l', g⟩ := step_gn ls hn n (foundD f) (.val (.int k)) z7 z8 z9
    exact .inr ⟨_, none, s', N', hs, _, y7, z8, z9, rfl, by rw [nxt_none]; exact seq_nx h0 e1, l', g, by omega, Nat.le_succ_of_le (List.length_filter_le _ _)⟩
  | ot w ns =>
    obtain ⟨y7, s', e1, l', g⟩ := step_ot ls ok (foundD f) (.val (.int k)) z7 z8 z9
    exact .inr ⟨t, none, s', N, hs, _, y7, z8, z9, rfl, by rw [nxt_none]; exact seq_nx h0 e1, l', g, by omega, by omega⟩
  | io inn h p =>
    cases inn with
    | true =>
      rcases step_in ls hM hn hh h p f k z7 z8 z9 with ⟨h8, s', e1, g⟩ | ⟨h8, y7, y8, y9, s', hs', e1, l', g, hl⟩
      · exact .inl ⟨by simp [stepR, h8], s', seq_nx h0 e1, g⟩
      · exact .inr ⟨_, _, s', N, hs', _, y7, y8, y9, by simp only [stepR, h8, if_false], seq_nx h0 e1, l', g, hl, by simp⟩
    | false =>
      rcases step_out ls hh h p (foundD f) k z7 z8 z9 with ⟨h8, s', e1, g⟩ | ⟨h8, y7, s', hs', e1, l', g, hl⟩
      · exact .inl ⟨by simp [stepR, h8], s', seq_nx h0 e1, g⟩
      · exact .inr ⟨_, none, s', N, hs', _, y7, z8, z9, by simp only [stepR, h8, if_true], by rw [nxt_none]; exact seq_nx h0 e1, l', g, hl, by simp⟩
theorem lrun : ∀ (r : List EV) (k : Nat) (t : T) (f : Option (Nat × Int)) (evs : List EV) (s : Sto) (N : Nat) (hs : List (Int × Nat)) (z5 z6 z7 z8 z9 : Slot), r = evs.drop k → LS s B S P N M (evs.map evD) hs t b → M.length < 64 → hs.length + r.length < 900 → t.now.length + r.length < 900 → (∀ e ∈ r, e.ok) →
    (∃ j s', runR M r k t f = .inl j ∧ forP (gNm 5) lb (intsD (k : Int) r.length) (lE B S P N (foundD f) z5 z6 z7 z8 z9) s = .rt (refD j) s' ∧ GrB b s s') ∨
    (∃ f' N' y5 y6 y7 y8 y9 s', runR M r k t f = .inr f' ∧ forP (gNm 5) lb (intsD (k : Int) r.length) (lE B S P N (foundD f) z5 z6 z7 z8 z9) s = .nx (lE B S P N' (foundD f') y5 y6 y7 y8 y9) s' ∧ GrB b s s')
  | [], k, t, f, evs, s, N, hs, z5, z6, z7, z8, z9, _, _, _, _, _, _ => .inr ⟨f, N, z5, z6, z7, z8, z9, s, rfl, rfl, GrB.refl b s⟩
  | e :: r, k, t, f, evs, s, N, hs, z5, z6, z7, z8, z9, hr, ls, hM, hl, hn, ho => by
    have ok := ho e List.mem_cons_self
    rw [List.length_cons] at hl hn
    have hk : (evs.map evD)[k]? = some (evD e) := by
      have : evs[k]? = some e := by
        rw [← List.head?_drop, ← hr]
        rfl
      rw [List.getElem?_map, this]
      rfl
    have hd : r = evs.drop (k + 1) := by
      rw [← List.tail_drop, ← hr]
      rfl
    rw [List.length_cons, intsD_cons]
    rcases lstep ls hM (by omega) (by omega) ok hk f z6 z7 z8 z9 with ⟨h1, s', e1, g⟩ | ⟨t', m, s', N', hs', y6, y7, y8, y9, h1, e1, l', g, hl', hn'⟩
    · exact .inl ⟨k, s', by simp only [runR, h1], by simp only [forP, s_gNm, List.set_cons_succ, List.set_cons_zero, e1], g⟩
    · rcases lrun r (k + 1) t' (nxt f k m) evs s' N' hs' (.val (.int k)) y6 y7 y8 y9 hd l' hM (by omega) (by omega) (fun x hx => ho x (List.mem_cons_of_mem _ hx)) with ⟨j, s2, w1, w2, w3⟩ | ⟨f', N2, x5, x6, x7, x8, x9, s2, w1, w2, w3⟩
      · exact .inl ⟨j, s2, by simp only [runR, h1]; exact w1, by simp only [forP, s_gNm, List.set_cons_succ, List.set_cons_zero, e1]; exact w2, g.trans w3⟩
      · exact .inr ⟨f', N2, x5, x6, x7, x8, x9, s2, by simp only [runR, h1]; exact w1, by simp only [forP, s_gNm, List.set_cons_succ, List.set_cons_zero, e1]; exact w2, g.trans w3⟩
end
def outD : Sum Nat (Option (Nat × Int)) → D
  | .inl j => refD j
  | .inr f => foundD f
theorem reading_ok {s : Sto} {B S : Nat} {M : SM} {evs : List EV} (hB : s[B]? = some (.lst (evs.map evD))) (hS : s[S]? = some (.dic (setsD M))) (hM : M.length < 64) (hl : evs.length < 800) (ho : ∀ e ∈ evs, e.ok) :
    ∃ s', f_law_reading [.ref B, .ref S] s = .ok (outD (runR M evs 0 T0 none)) s' ∧ GrB s.length s s' := by
  have hBl : B < s.length := (List.getElem?_eq_some_iff.mp hB).1
  have hSl : S < s.length := (List.getElem?_eq_some_iff.mp hS).1
  have g0 : GrB s.length s (s ++ [.dic [], .lst []]) := ⟨by simp, fun j hj => List.getElem?_append_left hj⟩
  have ls : LS (s ++ [.dic [], .lst []]) B S s.length (s.length + 1) M (evs.map evD) [] T0 s.length :=
    ⟨by rw [List.getElem?_append_left hBl]; exact hB, by rw [List.getElem?_append_left hSl]; exact hS, by simp [T0], by simp, ⟨by simp, by simp, by simp, by simp, fun _ _ => rfl⟩, fun _ => by simp [T0], hBl, hSl, by omega, by omega, by simp⟩
  have e0 : sPar3 2 3 4 (aCons eDic0 (aCons (ePlc (lLst aNil)) (aCons (eC .non) aNil))) [.val (.ref B), .val (.ref S), .emp, .emp, .emp, .emp, .emp, .emp, .emp, .emp, .emp] s = .nx (lE B S s.length (s.length + 1) (foundD none) .emp .emp .emp .emp .emp) (s ++ [.dic [], .lst []]) := by
    simp [foundD]
  have hlen : opLen (s ++ [Ob.dic [], Ob.lst []]) (.ref B) = some (.int evs.length) := by simp [opLen, seqOf, ls.hB]
  have hf := s_sFor (iRng (eOp1 opLen (eBor 0))) (gNm 5) lb (lE B S s.length (s.length + 1) (foundD none) .emp .emp .emp .emp .emp) (s ++ [.dic [], .lst []]) (s ++ [.dic [], .lst []]) (intsD 0 ((evs.length : Int)).toNat) (rng (by
    simp only [s_eOp1, s_eBor, List.getElem?_cons_zero, Res.bind_ok, hlen, Res.ofO_some]) (by omega) (by omega))
  have hi : intsD 0 ((evs.length : Int)).toNat = intsD ((0 : Nat) : Int) evs.length := by simp
  rw [hi] at hf
  have main : ∀ r, sSeq (sFor (iRng (eOp1 opLen (eBor 0))) (gNm 5) lb) (sRet (eVar 4)) (lE B S s.length (s.length + 1) (foundD none) .emp .emp .emp .emp .emp) (s ++ [.dic [], .lst []]) = r →
      f_law_reading [.ref B, .ref S] s = match r with | .nx _ s => .ok .non s | .rt d s => .ok d s | .ex x _ s => .exc x s | _ => .stk := fun r hr => by
    have h2 : (sSeq (sPar3 2 3 4 (aCons eDic0 (aCons (ePlc (lLst aNil)) (aCons (eC .non) aNil)))) (sSeq (sFor (iRng (eOp1 opLen (eBor 0))) (gNm 5) lb) (sRet (eVar 4)))) [.val (.ref B), .val (.ref S), .emp, .emp, .emp, .emp, .emp, .emp, .emp, .emp, .emp] s = r := seq_nx e0 hr
    rw [reading_eq]
    simp only [s_runB, List.length_cons, List.length_nil, if_true, List.map_cons, List.map_nil, List.cons_append, List.nil_append, List.replicate]
    rw [h2]
    all_goals (cases r <;> rfl)
  rcases lrun (P := s.length) (b := s.length) evs 0 T0 none evs _ (s.length + 1) [] .emp .emp .emp .emp .emp (by simp) ls hM (by simp; omega) (by simp [T0]; omega) ho with ⟨j, s2, w1, w2, w3⟩ | ⟨f', N', y5, y6, y7, y8, y9, s2, w1, w2, w3⟩
  · exact ⟨s2, by rw [w1]; exact main _ (seq_rt (hf.trans w2)), g0.trans w3⟩
  · exact ⟨s2, by rw [w1]; exact main _ (seq_nx (hf.trans w2) rfl), g0.trans w3⟩
end K15

/-! The plain law of k15, part 10: what is told, likeness, lists handed. Own text. -/
namespace K15
open MP
theorem told_book (j : Nat) (s : Sto) : h_law_told ((List.replicate 5 .emp).set 1 (.exn ⟨1, [("event", .int (j : Nat))]⟩)) s = .rt (refD j) s := rfl
theorem eqv_refl : ∀ (n : Nat) (d : D), d.fit n = true → d.eqv d = true := by
  intro n
  induction n with
  | zero =>
    intro d h
    cases d <;> first | rfl | (simp [D.fit] at h; done) | (simp [D.eqv]; done)
  | succ n ih =>
    intro d h
    have all : ∀ ds : List D, D.fits n ds = true → D.eqvs ds ds = true := fun ds => by
      induction ds with
      | nil => intro _; rfl
      | cons x xs ihx =>
        intro h
        simp only [D.fits, Bool.and_eq_true] at h
        simp only [D.eqvs, Bool.and_eq_true]
        exact ⟨ih x h.1, ihx h.2⟩
    cases d <;> first | rfl | (simp [D.fit] at h; done) | (simp only [D.fit] at h; simp only [D.eqv]; exact all _ h) | (simp [D.eqv]; done)
theorem fit_up : ∀ (n : Nat) (d : D), d.fit n = true → d.fit (n + 1) = true := by
  have go : ∀ (n : Nat), (∀ d : D, d.fit n = true → d.fit (n + 1) = true) := fun n => by
    induction n with
    | zero =>
      intro d h
      cases d <;> simp_all [D.fit]
    | succ n ih =>
      intro d h
      have all : ∀ ds : List D, D.fits n ds = true → D.fits (n + 1) ds = true := fun ds => by
        induction ds with
        | nil => intro _; rfl
        | cons x xs ihx =>
          intro h
          simp only [D.fits, Bool.and_eq_true] at h ⊢
          exact ⟨ih x h.1, ihx h.2⟩
      cases d <;> first | exact h | (simp only [D.fit] at h ⊢; exact all _ h) | (simp [D.fit] at h ⊢)
  exact go
theorem fit_le {m n : Nat} (h : m ≤ n) {d : D} (f : d.fit m = true) : d.fit n = true := by
  induction h with
  | refl => exact f
  | step _ ih => exact fit_up _ _ ih
theorem fits_of {n : Nat} : ∀ {ds : List D}, (∀ d ∈ ds, d.fit n = true) → D.fits n ds = true
  | [], _ => by cases n <;> rfl
  | d :: ds, h => by
    simp only [D.fits, Bool.and_eq_true]
    exact ⟨h d List.mem_cons_self, fits_of fun d' m => h d' (List.mem_cons_of_mem _ m)⟩
theorem like_int (k : Int) (n : Nat) (s : Sto) : f_law_like (n + 1) [.int k, .int k] s = .ok (.bl true) s := by
  have eb : ∀ b : Bool, eqD (.bl b) (.bl b) = some true := fun b => by cases b <;> rfl
  simp [f_law_like, opKind, kindOf, Ki.isA, opNe, opEq, view, eb, eqD_int]
theorem like_refused (n : Nat) (s : Sto) : f_law_like (n + 1) [.str [114, 101, 102, 117, 115, 101, 100], .str [114, 101, 102, 117, 115, 101, 100]] s = .ok (.bl true) s := rfl
theorem like_bookw (n : Nat) (s : Sto) : f_law_like (n + 1) [.str [98, 111, 111, 107], .str [98, 111, 111, 107]] s = .ok (.bl true) s := rfl
def LikeIt (d : D) : Prop := ∀ (n : Nat) (s : Sto), f_law_like (n + 1) [d, d] s = .ok (.bl true) s
theorem like_loop (n : Nat) (L : List D) (hw : ∀ d ∈ L, LikeIt d) (s : Sto) : ∀ (l : List D), (∀ d ∈ l, ∃ k : Int, d = .int k ∧ 0 ≤ k ∧ k < (L.length : Int)) →
    lcP (gNm 2) (tNot (tVal (eCall (f_law_like (n + 1)) (aCons (eOp2 opIx (eBor 0) (eBor 2)) (aCons (eOp2 opIx (eBor 1) (eBor 2)) aNil))))) (eVar 2) [.val (.tup L), .val (.tup L), .emp] l s = .ok [] s
  | [], _ => rfl
  | d :: l, h => by
    obtain ⟨k, rfl, k0, k1⟩ := h d List.mem_cons_self
    have ih := like_loop n L hw s l fun x m => h x (List.mem_cons_of_mem _ m)
    have hk : k.toNat < L.length := by omega
    have e1 : ixD L k = some L[k.toNat] := by simp [ixD, place, k0, k1, hk]
    have e2 := hw _ (List.getElem_mem hk) n s
    simp [lcP, opIx, seqOf, e1, e2, ih]
theorem like_tup (n : Nat) (L : List D) (hl : L.length ≤ 1000) (hw : ∀ d ∈ L, LikeIt d) (s : Sto) : f_law_like (n + 2) [.tup L, .tup L] s = .ok (.bl true) s := by
  have lc := s_lLc (iRng (eOp1 opLen (eBor 1))) (gNm 2) (tNot (tVal (eCall (f_law_like (n + 1)) (aCons (eOp2 opIx (eBor 0) (eBor 2)) (aCons (eOp2 opIx (eBor 1) (eBor 2)) aNil))))) (eVar 2) [2] [.val (.tup L), .val (.tup L), .emp] s s (intsD 0 (L.length : Int).toNat) (rng (by simp [opLen, seqOf]) (by omega) (by omega)) (by rw [ints_len]; exact len_cap (by omega))
  have hw1 : wipeE [.val (.tup L), .val (.tup L), .emp] [2] = [.val (.tup L), .val (.tup L), .emp] := rfl
  rw [hw1, like_loop n L hw s _ fun d hd => by
    obtain ⟨k, e, a, b⟩ := ints_mem hd
    exact ⟨k, e, a, by omega⟩] at lc
  have e0 : eqD (.lst []) (.lst []) = some true := rfl
  have eb : ∀ b : Bool, eqD (.bl b) (.bl b) = some true := fun b => by cases b <;> rfl
  rw [f_law_like]
  generalize f_law_like (n + 1) = f at lc ⊢
  simp [opKind, kindOf, Ki.isA, opNe, view, eb, opLen, seqOf, eqD_int, lc, opEq, e0]
theorem like_out (r : Sum Nat (Option (Nat × Int))) (s : Sto) : f_law_like 6 [outD r, outD r] s = .ok (.bl true) s := by
  match r with
  | .inl j =>
    refine like_tup 4 _ (by simp) (fun d hd => ?_) s
    have hd : d = .str [114, 101, 102, 117, 115, 101, 100] ∨ d = .str [98, 111, 111, 107] ∨ d = .int j := by simpa using hd
    rcases hd with e | e | e <;> subst e
    · exact like_refused
    · exact like_bookw
    · exact like_int _
  | .inr none => rfl
  | .inr (some (k, n)) =>
    refine like_tup 4 _ (by simp) (fun d hd => ?_) s
    have hd : d = .int k ∨ d = .int n := by simpa using hd
    rcases hd with e | e <;> subst e <;> exact like_int _
theorem fit_ev {e : EV} (ok : e.ok) (n : Nat) : (evD e).fit (n + 1) = true := by
  cases e with
  | io b h p =>
    obtain ⟨a, c⟩ := p
    cases b <;> cases c <;> simp [evD, EV.word, EV.things, chD, D.fit, D.fits, wIn, wOut]
  | bg m => simp [evD, EV.word, EV.things, D.fit, D.fits, wBegin]
  | gn m => simp [evD, EV.word, EV.things, D.fit, D.fits, wGone]
  | ot w ns =>
    obtain ⟨h, _⟩ := ok
    have hn : D.fits n (ns.map D.int) = true := fits_of fun d hd => by
      obtain ⟨k, _, rfl⟩ := List.mem_map.mp hd
      simp [D.fit]
    rcases h with h | h | h | h <;> subst h <;> simp [evD, EV.word, EV.things, D.fit, D.fits, wOff, wTurn, wStands, wOver, hn]
/-- what is handed in stays -/
theorem ne_handed {s : Sto} {B S S' : Nat} {M : SM} {evs : List EV} (hB : s[B]? = some (.lst (evs.map evD))) (hS : s[S]? = some (.dic (setsD M))) (hS' : s[S']? = some (.dic (setsD M))) (hne : S' ≠ S) (nk : (M.map (·.1)).Nodup) (ho : ∀ e ∈ evs, e.ok) :
    opNeX s (.lst [.lst (evs.map evD), .ref S']) (.lst [.ref B, .ref S]) = some (.bl false) := by
  have f1 : (D.lst (evs.map evD)).fit 30 = true := fits_of (n := 29) fun d hd => by
    obtain ⟨e, he, rfl⟩ := List.mem_map.mp hd
    exact fit_ev (ho e he) 28
  have e1 : likeAt s (.lst (evs.map evD)) (.ref B) = true := by
    have v : view s (.ref B) = .lst (evs.map evD) := by simp [view, hB]
    have v2 : view s (.lst (evs.map evD)) = .lst (evs.map evD) := rfl
    unfold likeAt
    rw [v, v2, f1, eqv_refl 30 _ f1]
    rfl
  have all : (setsD M).all (likeV (setsD M)) = true := by
    rw [List.all_eq_true]
    intro kv hkv
    obtain ⟨x, hx, rfl⟩ := List.mem_map.mp hkv
    have hl : M.lookup x.1 = some x.2 := mem_look nk hx
    have f2 : (D.tup (x.2.map D.int)).fit 30 = true := fits_of (n := 29) fun d hd => by
      obtain ⟨k, _, rfl⟩ := List.mem_map.mp hd
      simp [D.fit]
    unfold likeV
    simp only [kvD, look_sets, hl, Option.map_some, f2, eqv_refl 30 _ f2, Bool.and_self]
  have e2 : likeAt s (.ref S') (.ref S) = true := by
    have d1 : dicOf s (.ref S') = some (setsD M) := by simp [dicOf, hS']
    have d2 : dicOf s (.ref S) = some (setsD M) := by simp [dicOf, hS]
    have : likeDic s (.ref S') (.ref S) = true := by
      unfold likeDic
      simp only [refN, d1, d2, all]
      simp [hne]
    unfold likeAt
    rw [this, Bool.or_true]
  unfold opNeX
  simp only [likeAll, e1, e2, Bool.and_self, if_true]
end K15

/-! The plain law of k15, part 11: what a turn makes, its sets and first events. Own text. -/
namespace K15
open MP
abbrev gE (a0 : Slot) (n : Nat) (z2 z3 z4 z5 z6 z7 z8 z9 z10 z11 z12 z13 z14 z15 z16 z17 z18 : Slot) : Env := [a0, .val (.ref n), z2, z3, z4, z5, z6, z7, z8, z9, z10, z11, z12, z13, z14, z15, z16, z17, z18, .emp]
structure GS (s : Sto) (n S B : Nat) (Q : List Nat) (M : SM) (evs : List EV) (c : Nat) : Prop where
  d : Dice s n
  hS : s[S]? = some (.dic (setsD M))
  hB : s[B]? = some (.lst (evs.map evD))
  hQ : ∀ q ∈ Q, ∃ ps : List Pr, s[q]? = some (.lst (ps.map prD)) ∧ ps.length ≤ c
  nS : n < S
  nB : n < B
  nQ : ∀ q ∈ Q, n < q
  bQ : B ∉ Q
  ql : Q.length = 4
  nk : (M.map (·.1)).Nodup
  ok : ∀ e ∈ evs, e.ok
section
variable {s s' : Sto} {n S B : Nat} {Q : List Nat} {M : SM} {evs : List EV} {c : Nat}
theorem GS.fr (g : GS s n S B Q M evs c) (f : Fr n s s') : GS s' n S B Q M evs c := by
  have nS := g.nS
  have nB := g.nB
  exact ⟨f.1, (f.2.2 S (by omega)).trans g.hS, (f.2.2 B (by omega)).trans g.hB, fun q hq => by
    obtain ⟨ps, h, hc⟩ := g.hQ q hq
    exact ⟨ps, (f.2.2 q (by have := g.nQ q hq; omega)).trans h, hc⟩, g.nS, g.nB, g.nQ, g.bQ, g.ql, g.nk, g.ok⟩
section
variable {a0 z2 z3 z4 z5 z6 z7 z8 z9 z10 z11 z12 z13 z14 z15 z16 z17 z18 : Slot}
def q0 : MS := (sPar3 3 4 5 (aCons (eOp2 opAdd (eC (.int 1)) (eCall f_law_next (aCons (eVar 1) (aCons (eC (.int 4)) aNil)))) (aCons (eOp2 opAdd (eC (.int 1)) (eCall f_law_next (aCons (eVar 1) (aCons (eC (.int 8)) aNil)))) (aCons (eOp2 opAdd (eC (.int 2)) (eCall f_law_next (aCons (eVar 1) (aCons (eC (.int 6)) aNil)))) aNil))))
theorem q0_ok (hd : Dice s n) : ∃ (m d o : Int) (s' : Sto), q0 (gE a0 n z2 z3 z4 z5 z6 z7 z8 z9 z10 z11 z12 z13 z14 z15 z16 z17 z18) s = .nx (gE a0 n z2 (.val (.int m)) (.val (.int d)) (.val (.int o)) z6 z7 z8 z9 z10 z11 z12 z13 z14 z15 z16 z17 z18) s' ∧ 1 ≤ m ∧ m ≤ 4 ∧ 1 ≤ d ∧ d ≤ 8 ∧ 2 ≤ o ∧ o ≤ 7 ∧ Fr n s s' := by
  obtain ⟨r1, s1, e1, a1, b1, f1⟩ := nx (m := 4) hd
  obtain ⟨r2, s2, e2, a2, b2, f2⟩ := nx (m := 8) f1.1
  obtain ⟨r3, s3, e3, a3, b3, f3⟩ := nx (m := 6) f2.1
  exact ⟨1 + r1, 1 + r2, 2 + r3, s3, by simp [q0, e1, e2, e3, opAdd], by omega, by omega, by omega, by omega, by omega, by omega, (f1.trans f2).trans f3⟩
def q1 : MS := (sPar3 6 7 8 (aCons eDic0 (aCons (ePlc (lLst aNil)) (aCons (eFrz (lLc (iRng (eC (.int 4))) (gNm 12) tYesM (ePlc (lLst aNil)) [12])) aNil))))
theorem q1_ok (hd : Dice s n) : ∃ (S B : Nat) (Q : List Nat) (s' : Sto), q1 (gE a0 n z2 z3 z4 z5 z6 z7 z8 z9 z10 z11 z12 z13 z14 z15 z16 z17 z18) s = .nx (gE a0 n z2 z3 z4 z5 (.val (.ref S)) (.val (.ref B)) (.val (.lst (Q.map D.ref))) z9 z10 z11 z12 z13 z14 z15 z16 z17 z18) s' ∧ GS s' n S B Q [] [] c := by
  have hn : n < s.length := by
    obtain ⟨_, _, _, _, _, e⟩ := hd; exact (List.getElem?_eq_some_iff.mp e).1
  have i4 : intsD 0 (4 : Int).toNat = [.int 0, .int 1, .int 2, .int 3] := rfl
  have lc := s_lLc (iRng (eC (.int 4))) (gNm 12) tYesM (ePlc (lLst aNil)) [12] (gE a0 n z2 z3 z4 z5 z6 z7 z8 z9 z10 z11 z12 z13 z14 z15 z16 z17 z18) (s ++ [.dic [], .lst []]) (s ++ [.dic [], .lst []]) (intsD 0 (4 : Int).toNat) (rng rfl (by omega) (by omega)) (by rw [i4]; exact len_cap (by simp))
  have hw : wipeE (gE a0 n z2 z3 z4 z5 z6 z7 z8 z9 z10 z11 z12 z13 z14 z15 z16 z17 z18) [12] = gE a0 n z2 z3 z4 z5 z6 z7 z8 z9 z10 z11 .emp z13 z14 z15 z16 z17 z18 := rfl
  rw [hw, i4] at lc
  have lv : lcP (gNm 12) tYesM (ePlc (lLst aNil)) (gE a0 n z2 z3 z4 z5 z6 z7 z8 z9 z10 z11 .emp z13 z14 z15 z16 z17 z18) [.int 0, .int 1, .int 2, .int 3] (s ++ [.dic [], .lst []]) = .ok [.ref (s.length + 2), .ref (s.length + 3), .ref (s.length + 4), .ref (s.length + 5)] (s ++ [.dic [], .lst [], .lst [], .lst [], .lst [], .lst []]) := by
    simp [lcP]
  rw [lv] at lc
  obtain ⟨ns, i, cc, a, hi, e⟩ := hd
  refine ⟨s.length, s.length + 1, [s.length + 2, s.length + 3, s.length + 4, s.length + 5], s ++ [.dic [], .lst [], .lst [], .lst [], .lst [], .lst []], ?_, ⟨⟨ns, i, cc, a, hi, by rw [List.getElem?_append_left hn]; exact e⟩, by simp [setsD], by simp, fun q hq => ⟨[], ?_⟩, hn, by omega, fun q hq => ?_, by simp, rfl, by simp, by simp⟩⟩
  · simp [q1, lc]
  · have hq : q = s.length + 2 ∨ q = s.length + 3 ∨ q = s.length + 4 ∨ q = s.length + 5 := by simpa using hq
    refine ⟨?_, Nat.zero_le _⟩
    rcases hq with h | h | h | h <;> subst h <;> simp
  · have hq : q = s.length + 2 ∨ q = s.length + 3 ∨ q = s.length + 4 ∨ q = s.length + 5 := by simpa using hq
    omega
/-! ### sets -/
def q2b : MS := (sSetD (eVar 6) (eVar 9) (eOp1 opTuple (eFrz (lLc (iRng (eVar 4)) (gNm 19) (tVal (eOp2 opEq (eCall f_law_next (aCons (eVar 1) (aCons (eC (.int 2)) aNil))) (eC (.int 0)))) (eVar 19) [19]))))
def q2 : MS := (sFor (iRng (eCall f_law_next (aCons (eVar 1) (aCons (eC (.int 5)) aNil)))) (gNm 9) q2b)
theorem q2b_ok (g : GS s n S B Q M evs c) {d : Int} (d0 : 1 ≤ d) (d1 : d ≤ 8) (hM : M.length < 900) {k : Int} (hk : k ∉ M.map (·.1)) : ∃ l s', q2b (gE a0 n z2 z3 (.val (.int d)) z5 (.val (.ref S)) z7 z8 (.val (.int k)) z10 z11 z12 z13 z14 z15 z16 z17 z18) s = .nx (gE a0 n z2 z3 (.val (.int d)) z5 (.val (.ref S)) z7 z8 (.val (.int k)) z10 z11 z12 z13 z14 z15 z16 z17 z18) s' ∧ GS s' n S B Q (M ++ [(k, l)]) evs c := by
  obtain ⟨ds, s1, e1, l1, g1, f1⟩ := lc_pick (Q := fun d => ∃ k : Int, d = .int k) (n := n) (g := gNm 19) (t := tVal (eOp2 opEq (eCall f_law_next (aCons (eVar 1) (aCons (eC (.int 2)) aNil))) (eC (.int 0)))) (e := eVar 19)
    (env := gE a0 n z2 z3 (.val (.int d)) z5 (.val (.ref S)) z7 z8 (.val (.int k)) z10 z11 z12 z13 z14 z15 z16 z17 z18)
    (fun d s _ hs => by
      obtain ⟨r, s1, e1, x1, y1, f1⟩ := nx (m := 2) hs
      exact ⟨_, r == 0, s1, rfl, by simp [e1, opEq, view, eqD_int], rfl, f1⟩) (intsD 0 d.toNat) s (fun d m => let ⟨k, e, _⟩ := ints_mem m; ⟨k, e⟩) g.d
  obtain ⟨l, rfl, hs⟩ := ints_list (b := d) (l := ds) fun x m => by
    obtain ⟨k, e, x, y⟩ := ints_mem (g1 x m)
    exact ⟨k, e, x, by omega⟩
  have lc := s_lLc (iRng (eVar 4)) (gNm 19) (tVal (eOp2 opEq (eCall f_law_next (aCons (eVar 1) (aCons (eC (.int 2)) aNil))) (eC (.int 0)))) (eVar 19) [19] (gE a0 n z2 z3 (.val (.int d)) z5 (.val (.ref S)) z7 z8 (.val (.int k)) z10 z11 z12 z13 z14 z15 z16 z17 z18) s s (intsD 0 d.toNat) (rng (by simp) (by omega) (by omega)) (by rw [ints_len]; exact len_cap (by omega))
  have hw : wipeE (gE a0 n z2 z3 (.val (.int d)) z5 (.val (.ref S)) z7 z8 (.val (.int k)) z10 z11 z12 z13 z14 z15 z16 z17 z18) [19] = gE a0 n z2 z3 (.val (.int d)) z5 (.val (.ref S)) z7 z8 (.val (.int k)) z10 z11 z12 z13 z14 z15 z16 z17 z18 := rfl
  rw [hw, e1] at lc
  have g2 := g.fr f1
  have nS := g.nS
  have nB := g.nB
  have hSl : S < s1.length := (List.getElem?_eq_some_iff.mp g2.hS).1
  have hS1 : s1[S]? = some (.dic (setsD M)) := g2.hS
  have hlen : (setsD M).length < 1000 := by simp [setsD]; omega
  have lk : M.lookup k = none := by
    cases e : M.lookup k with
    | none => rfl
    | some q => exact absurd (List.mem_map.mpr ⟨_, look_mem e, rfl⟩) hk
  have bs : B ≠ S := fun z => by
    have := g2.hB
    rw [z, hS1] at this
    cases this
  refine ⟨l, s1.set S (.dic (setsD (M ++ [(k, l)]))), ?_, ⟨?_, List.getElem?_set_self hSl, by rw [List.getElem?_set_ne (Ne.symm bs)]; exact g2.hB, fun q hq => ?_, g.nS, g.nB, g.nQ, g.bQ, g.ql, ?_, g.ok⟩⟩
  · rw [← dput_new lk]
    simp [q2b, lc, opTuple, seqOf, putAt, hS1, isKey, hlen]
  · obtain ⟨ns, i, cc, a, hi, e⟩ := g2.d
    exact ⟨ns, i, cc, a, hi, by rw [List.getElem?_set_ne (by omega)]; exact e⟩
  · obtain ⟨ps, h, hcc⟩ := g2.hQ q hq
    refine ⟨ps, ?_, hcc⟩
    rw [List.getElem?_set_ne fun z => ?_]
    · exact h
    · rw [← z, hS1] at h
      cases h
  · rw [List.map_append]; rw [List.nodup_append]
    exact ⟨g.nk, by simp, fun x hx y hy => by
      simp at hy
      subst hy
      exact fun z => hk (z ▸ hx)⟩
theorem q2_loop {d : Int} (d0 : 1 ≤ d) (d1 : d ≤ 8) : ∀ (k i : Nat) (M : SM) (s : Sto) (z9 : Slot), GS s n S B Q M evs c → M.length = i → (∀ x ∈ M, x.1 < (i : Int)) → i + k < 900 →
    ∃ M' z9' s', forP (gNm 9) q2b (intsD (i : Int) k) (gE a0 n z2 z3 (.val (.int d)) z5 (.val (.ref S)) z7 z8 z9 z10 z11 z12 z13 z14 z15 z16 z17 z18) s = .nx (gE a0 n z2 z3 (.val (.int d)) z5 (.val (.ref S)) z7 z8 z9' z10 z11 z12 z13 z14 z15 z16 z17 z18) s' ∧ GS s' n S B Q M' evs c ∧ M'.length = i + k
  | 0, i, M, s, z9, g, hl, _, _ => ⟨M, z9, s, rfl, g, by omega⟩
  | k + 1, i, M, s, z9, g, hl, hx, hc => by
    have hk : (i : Int) ∉ M.map (·.1) := fun z => by
      obtain ⟨x, h1, h2⟩ := List.mem_map.mp z
      have := hx x h1
      omega
    obtain ⟨l, s1, e1, g1⟩ := q2b_ok (a0 := a0) (z2 := z2) (z3 := z3) (z5 := z5) (z7 := z7) (z8 := z8) (z10 := z10) (z11 := z11) (z12 := z12) (z13 := z13) (z14 := z14) (z15 := z15) (z16 := z16) (z17 := z17) (z18 := z18) g d0 d1 (by omega) hk
    obtain ⟨M', z9', s2, e2, g2, l2⟩ := q2_loop d0 d1 k (i + 1) (M ++ [((i : Int), l)]) s1 (.val (.int (i : Int))) g1 (by simp [hl]) (fun x h => by
      rcases (List.mem_append.mp h) with h | h
      · have := hx x h
        omega
      · obtain rfl : x = ((i : Int), l) := by simpa using h
        show (i : Int) < ((i + 1 : Nat) : Int)
        omega) (by omega)
    refine ⟨M', z9', s2, ?_, g2, by omega⟩
    rw [intsD_cons]
    simp only [forP, s_gNm, List.set_cons_succ, List.set_cons_zero, e1]
    exact e2
theorem q2_ok (g : GS s n S B Q [] [] c) {d : Int} (d0 : 1 ≤ d) (d1 : d ≤ 8) : ∃ M z9' s', q2 (gE a0 n z2 z3 (.val (.int d)) z5 (.val (.ref S)) z7 z8 z9 z10 z11 z12 z13 z14 z15 z16 z17 z18) s = .nx (gE a0 n z2 z3 (.val (.int d)) z5 (.val (.ref S)) z7 z8 z9' z10 z11 z12 z13 z14 z15 z16 z17 z18) s' ∧ GS s' n S B Q M [] c ∧ M.length ≤ 4 := by
  obtain ⟨r, s1, e1, a1, b1, f1⟩ := nx (m := 5) g.d
  obtain ⟨M, z9', s2, e2, g2, l2⟩ := q2_loop (a0 := a0) (z2 := z2) (z3 := z3) (z5 := z5) (z7 := z7) (z8 := z8) (z10 := z10) (z11 := z11) (z12 := z12) (z13 := z13) (z14 := z14) (z15 := z15) (z16 := z16) (z17 := z17) (z18 := z18) d0 d1 r.toNat 0 [] s1 z9 (g.fr f1) rfl (by simp) (by omega)
  have hf := s_sFor (iRng (eCall f_law_next (aCons (eVar 1) (aCons (eC (.int 5)) aNil)))) (gNm 9) q2b (gE a0 n z2 z3 (.val (.int d)) z5 (.val (.ref S)) z7 z8 z9 z10 z11 z12 z13 z14 z15 z16 z17 z18) s s1 (intsD 0 r.toNat) (rng (by simp [e1]) a1 (by omega))
  exact ⟨M, z9', s2, hf.trans e2, g2, by omega⟩
/-! ### the first events -/
theorem lc_sel {R P : D → Prop} {n : Nat} {g : MG} {t : MT} {e : ME} {env : Env} (h : ∀ d s, R d → Dice s n → ∃ env1 b y s', g d env = some env1 ∧ t env1 s = .ok b s' ∧ e env1 s' = .ok y s' ∧ P y ∧ Fr n s s') : ∀ (l : List D) (s : Sto), (∀ d ∈ l, R d) → Dice s n →
    ∃ ys s', lcP g t e env l s = .ok ys s' ∧ ys.length ≤ l.length ∧ (∀ y ∈ ys, P y) ∧ Fr n s s'
  | [], s, _, hd => ⟨[], s, rfl, Nat.le_refl _, fun _ h => (nomatch h), Fr.refl hd⟩
  | d :: l, s, hq, hd => by
    obtain ⟨env1, b, y, s1, e1, e2, e3, py, f⟩ := h d s (hq d List.mem_cons_self) hd
    obtain ⟨ys, s2, e4, hl, ps, f2⟩ := lc_sel h l s1 (fun d m => hq d (List.mem_cons_of_mem _ m)) f.1
    cases b with
    | true =>
      refine ⟨y :: ys, s2, by simp [lcP, e1, e2, e3, e4], by simp [hl], fun z m => ?_, f.trans f2⟩
      rcases List.mem_cons.mp m with m | m
      · subst m; exact py
      · exact ps z m
    | false => exact ⟨ys, s2, by simp [lcP, e1, e2, e4], by simp; omega, ps, f.trans f2⟩
def IsEv (d : D) : Prop := ∃ e : EV, d = evD e ∧ e.ok
theorem evs_list : ∀ {l : List D}, (∀ d ∈ l, IsEv d) → ∃ es : List EV, l = es.map evD ∧ ∀ e ∈ es, e.ok
  | [], _ => ⟨[], rfl, fun _ h => (nomatch h)⟩
  | d :: l, h => by
    obtain ⟨e, rfl, hk⟩ := h d List.mem_cons_self
    obtain ⟨es, rfl, hn⟩ := evs_list fun d m => h d (List.mem_cons_of_mem _ m)
    refine ⟨e :: es, rfl, fun j hj => ?_⟩
    rcases List.mem_cons.mp hj with z | z
    · subst z; exact hk
    · exact hn j z
def q3 : MS := (sIf (tVal (eOp2 opEq (eCall f_law_next (aCons (eVar 1) (aCons (eC (.int 2)) aNil))) (eC (.int 0)))) (sAsg (ePlc (lLc (iRng (eC (.int 5))) (gNm 9) (tVal (eOp2 opGt (eCall f_law_next (aCons (eVar 1) (aCons (eC (.int 4)) aNil))) (eC (.int 0)))) (eTup (aCons (eC (.str [98, 101, 103, 105, 110])) (aCons (eVar 9) aNil))) [9])) (gNm 7)) sNext)
theorem q3_ok (g : GS s n S B Q M [] c) : ∃ B' evs s', q3 (gE a0 n z2 z3 z4 z5 z6 (.val (.ref B)) z8 z9 z10 z11 z12 z13 z14 z15 z16 z17 z18) s = .nx (gE a0 n z2 z3 z4 z5 z6 (.val (.ref B')) z8 z9 z10 z11 z12 z13 z14 z15 z16 z17 z18) s' ∧ GS s' n S B' Q M evs c ∧ evs.length ≤ 5 := by
  obtain ⟨r, s1, e1, a1, b1, f1⟩ := nx (m := 2) g.d
  have g1 := g.fr f1
  by_cases hr : r = 0
  · subst hr
    obtain ⟨ys, s2, e2, l2, p2, f2⟩ := lc_sel (R := fun d => ∃ k : Int, d = .int k) (P := IsEv) (n := n) (g := gNm 9) (t := tVal (eOp2 opGt (eCall f_law_next (aCons (eVar 1) (aCons (eC (.int 4)) aNil))) (eC (.int 0)))) (e := eTup (aCons (eC (.str [98, 101, 103, 105, 110])) (aCons (eVar 9) aNil)))
      (env := gE a0 n z2 z3 z4 z5 z6 (.val (.ref B)) z8 .emp z10 z11 z12 z13 z14 z15 z16 z17 z18)
      (fun d s hd hs => by
        obtain ⟨k, rfl⟩ := hd
        obtain ⟨r, s1, e1, x1, y1, f1⟩ := nx (m := 4) hs
        exact ⟨_, decide (0 < r), .tup [.str [98, 101, 103, 105, 110], .int k], s1, rfl, by simp [e1, opGt, opCmp], by simp, ⟨.bg k, rfl, trivial⟩, f1⟩) (intsD 0 (5 : Int).toNat) s1 (fun d m => let ⟨k, e, _⟩ := ints_mem m; ⟨k, e⟩) f1.1
    obtain ⟨es, rfl, ho⟩ := evs_list p2
    have lc := s_lLc (iRng (eC (.int 5))) (gNm 9) (tVal (eOp2 opGt (eCall f_law_next (aCons (eVar 1) (aCons (eC (.int 4)) aNil))) (eC (.int 0)))) (eTup (aCons (eC (.str [98, 101, 103, 105, 110])) (aCons (eVar 9) aNil))) [9] (gE a0 n z2 z3 z4 z5 z6 (.val (.ref B)) z8 z9 z10 z11 z12 z13 z14 z15 z16 z17 z18) s1 s1 (intsD 0 (5 : Int).toNat) (rng rfl (by omega) (by omega)) (by rw [ints_len]; exact len_cap (by decide))
    have hw : wipeE (gE a0 n z2 z3 z4 z5 z6 (.val (.ref B)) z8 z9 z10 z11 z12 z13 z14 z15 z16 z17 z18) [9] = gE a0 n z2 z3 z4 z5 z6 (.val (.ref B)) z8 .emp z10 z11 z12 z13 z14 z15 z16 z17 z18 := rfl
    rw [hw, e2] at lc
    have g2 := g1.fr f2
    have lt : ∀ {n : Nat} {o : Ob}, s2[n]? = some o → n < s2.length := fun h => (List.getElem?_eq_some_iff.mp h).1
    have a : ∀ n, n < s2.length → (s2 ++ [Ob.lst (es.map evD)])[n]? = s2[n]? := fun n h => List.getElem?_append_left h
    obtain ⟨ns, i, cc, a', hi, e⟩ := g2.d
    have hn := lt e
    rw [ints_len, List.length_map] at l2
    refine ⟨s2.length, es, s2 ++ [.lst (es.map evD)], by simp [q3, e1, opEq, view, eqD_int, lc], ⟨⟨ns, i, cc, a', hi, (a _ hn).trans e⟩, (a _ (lt g2.hS)).trans g2.hS, by simp, fun q hq => ?_, g2.nS, hn, g2.nQ, fun hq => ?_, g2.ql, g2.nk, ho⟩, l2⟩
    · obtain ⟨ps, h, hcc⟩ := g2.hQ q hq
      exact ⟨ps, (a _ (lt h)).trans h, hcc⟩
    · obtain ⟨ps, h, _⟩ := g2.hQ _ hq
      have := lt h
      omega
  · exact ⟨B, [], s1, by simp [q3, e1, opEq, view, eqD_int, hr], g1, by simp⟩
end
end
end K15

/-! The plain law of k15, part 12: the events of a turn. Own text. -/
namespace K15
open MP
section
variable {s s' : Sto} {n S B : Nat} {Q : List Nat} {M : SM} {evs : List EV} {c : Nat}
theorem GS.mono {c' : Nat} (g : GS s n S B Q M evs c) (h : c ≤ c') : GS s n S B Q M evs c' :=
  ⟨g.d, g.hS, g.hB, fun q hq => let ⟨ps, h1, h2⟩ := g.hQ q hq; ⟨ps, h1, Nat.le_trans h2 h⟩, g.nS, g.nB, g.nQ, g.bQ, g.ql, g.nk, g.ok⟩
theorem GS.setq (g : GS s n S B Q M evs c) {q : Nat} (hq : q ∈ Q) (ps : List Pr) (hps : ps.length ≤ c) : GS (s.set q (.lst (ps.map prD))) n S B Q M evs c := by
  obtain ⟨p0, h0, _⟩ := g.hQ q hq
  have hl : q < s.length := (List.getElem?_eq_some_iff.mp h0).1
  have nq := g.nQ q hq
  have qS : q ≠ S := fun z => by
    rw [z, g.hS] at h0
    cases h0
  have qB : q ≠ B := fun z => g.bQ (z ▸ hq)
  obtain ⟨ns, i, cc, a, hi, e⟩ := g.d
  refine ⟨⟨ns, i, cc, a, hi, by rw [List.getElem?_set_ne (by omega)]; exact e⟩, by rw [List.getElem?_set_ne qS]; exact g.hS, by rw [List.getElem?_set_ne qB]; exact g.hB, fun x hx => ?_, g.nS, g.nB, g.nQ, g.bQ, g.ql, g.nk, g.ok⟩
  by_cases h : q = x
  · subst h
    exact ⟨ps, List.getElem?_set_self hl, hps⟩
  · rw [List.getElem?_set_ne h]
    exact g.hQ x hx
theorem GS.more (g : GS s n S B Q M evs c) {e : EV} (ok : e.ok) : GS (s.set B (.lst ((evs ++ [e]).map evD))) n S B Q M (evs ++ [e]) c := by
  have hl : B < s.length := (List.getElem?_eq_some_iff.mp g.hB).1
  have nB := g.nB
  have bS : B ≠ S := fun z => by
    have := g.hB
    rw [z, g.hS] at this
    cases this
  obtain ⟨ns, i, cc, a, hi, e0⟩ := g.d
  refine ⟨⟨ns, i, cc, a, hi, by rw [List.getElem?_set_ne (by omega)]; exact e0⟩, by rw [List.getElem?_set_ne bS]; exact g.hS, List.getElem?_set_self hl, fun x hx => ?_, g.nS, g.nB, g.nQ, g.bQ, g.ql, g.nk, fun x hx => ?_⟩
  · rw [List.getElem?_set_ne fun z : B = x => g.bQ (by rw [z]; exact hx)]
    exact g.hQ x hx
  · rcases List.mem_append.mp hx with h | h
    · exact g.ok x h
    · obtain rfl : x = e := by simpa using h
      exact ok
section
variable {a0 z2 z9 z10 z11 z12 z13 z14 z15 z16 z17 z18 : Slot} {m d o : Int}
abbrev vE (a0 : Slot) (n : Nat) (z2 : Slot) (m d o : Int) (S B : Nat) (Q : List Nat) (z9 z10 z11 z12 z13 z14 z15 z16 z17 z18 : Slot) : Env := gE a0 n z2 (.val (.int m)) (.val (.int d)) (.val (.int o)) (.val (.ref S)) (.val (.ref B)) (.val (.lst (Q.map D.ref))) z9 z10 z11 z12 z13 z14 z15 z16 z17 z18
def p0 : MS := (sPar3 11 12 9 (aCons (eCall f_law_next (aCons (eVar 1) (aCons (eC (.int 8)) aNil))) (aCons (eCall f_law_next (aCons (eVar 1) (aCons (eVar 3) aNil))) (aCons (eCall f_law_next (aCons (eVar 1) (aCons (eC (.int 5)) aNil))) aNil))))
theorem p0_ok (g : GS s n S B Q M evs c) (m0 : 1 ≤ m) (m1 : m ≤ 4) : ∃ (way hand num : Int) (s' : Sto), p0 (vE a0 n z2 m d o S B Q z9 z10 z11 z12 z13 z14 z15 z16 z17 z18) s = .nx (vE a0 n z2 m d o S B Q (.val (.int num)) z10 (.val (.int way)) (.val (.int hand)) z13 z14 z15 z16 z17 z18) s' ∧ 0 ≤ hand ∧ hand < 4 ∧ GS s' n S B Q M evs c := by
  obtain ⟨r1, s1, e1, a1, b1, f1⟩ := nx (m := 8) g.d
  obtain ⟨r2, s2, e2, a2, b2, f2⟩ := nx (m := m) f1.1
  obtain ⟨r3, s3, e3, a3, b3, f3⟩ := nx (m := 5) f2.1
  exact ⟨r1, r2, r3, s3, by simp [p0, e1, e2, e3], a2, by omega, g.fr ((f1.trans f2).trans f3)⟩
def p1 : MS := (sAsg (eTup (aCons (eCall f_law_next (aCons (eVar 1) (aCons (eVar 4) aNil))) (aCons (eOp2 opIx (eFrz (lLst (aCons (eC .non) (aCons (eCall f_law_next (aCons (eVar 1) (aCons (eC (.int 5)) aNil))) aNil)))) (eOp1 opIntOf (eOp2 opEq (eCall f_law_next (aCons (eVar 1) (aCons (eVar 5) aNil))) (eC (.int 0))))) aNil))) (gNm 13))
theorem p1_ok (g : GS s n S B Q M evs c) (d0 : 1 ≤ d) (d1 : d ≤ 8) (o0 : 2 ≤ o) (o1 : o ≤ 7) : ∃ (p : Pr) (s' : Sto), p1 (vE a0 n z2 m d o S B Q z9 z10 z11 z12 z13 z14 z15 z16 z17 z18) s = .nx (vE a0 n z2 m d o S B Q z9 z10 z11 z12 (.val (prD p)) z14 z15 z16 z17 z18) s' ∧ GS s' n S B Q M evs c := by
  obtain ⟨r1, s1, e1, a1, b1, f1⟩ := nx (m := d) g.d
  obtain ⟨r2, s2, e2, a2, b2, f2⟩ := nx (m := 5) f1.1
  obtain ⟨r3, s3, e3, a3, b3, f3⟩ := nx (m := o) f2.1
  by_cases h : r3 = 0
  · subst h
    exact ⟨(r1, some r2), s3, by simp [p1, e1, e2, e3, opEq, view, eqD_int, opIntOf, opIx, seqOf, ixD, place, prD, chD], g.fr ((f1.trans f2).trans f3)⟩
  · exact ⟨(r1, none), s3, by simp [p1, e1, e2, e3, opEq, view, eqD_int, opIntOf, opIx, seqOf, ixD, place, prD, chD, h], g.fr ((f1.trans f2).trans f3)⟩
theorem add_one (inn : Bool) (h : Int) (p : Pr) (s : Sto) : opAdd s (.tup [.str (EV.io inn h p).word, .int h]) (prD p) = some (evD (.io inn h p)) := by
  have hc : 2 + 2 ≤ cap := by unfold cap; omega
  simp [opAdd, prD, hc, evD, EV.things]
def p2 : MS := (sAsg (eOp2 opAdd (eTup (aCons (eC (.str [105, 110])) (aCons (eVar 12) aNil))) (eBor 13)) (gNm 14))
theorem p2_ok (hand : Int) (p : Pr) (s : Sto) : p2 (vE a0 n z2 m d o S B Q z9 z10 z11 (.val (.int hand)) (.val (prD p)) z14 z15 z16 z17 z18) s = .nx (vE a0 n z2 m d o S B Q z9 z10 z11 (.val (.int hand)) (.val (prD p)) (.val (evD (.io true hand p))) z15 z16 z17 z18) s := by
  have e : opAdd s (.tup [.str [105, 110], .int hand]) (prD p) = some (evD (.io true hand p)) := add_one true hand p s
  simp [p2, e]
theorem hand_ix (g : GS s n S B Q M evs c) {hand : Int} (h0 : 0 ≤ hand) (h4 : hand < 4) : ∃ q ∈ Q, ∀ s : Sto, opIx s (.lst (Q.map D.ref)) (.int hand) = some (.ref q) := by
  have hk : hand.toNat < Q.length := by
    have := g.ql
    omega
  refine ⟨Q[hand.toNat], List.getElem_mem hk, fun s => ?_⟩
  have h1 : hand < (Q.length : Int) := by omega
  simp [opIx, seqOf, ixD, place, h0, h1, hk]
def p3a : MS := (sSeq (sAsg (eIf (tVal (eOp2 opGt (eCall f_law_next (aCons (eVar 1) (aCons (eC (.int 30)) aNil))) (eC (.int 0)))) (eOp2 opIx (eOp2 opIx (eBor 8) (eBor 12)) (eOp1 opNeg (eC (.int 1)))) (eVar 13)) (gNm 13)) (sSeq (sAsg (eOp2 opAdd (eTup (aCons (eC (.str [111, 117, 116])) (aCons (eVar 12) aNil))) (eBor 13)) (gNm 14)) (sDrop (ePopL (eOp2 opIx (eBor 8) (eBor 12))))))
def p3b : MS := (sSeq (sAsg (eFrz (lLst (aCons (eTup (aCons (eC (.str [98, 101, 103, 105, 110])) (aCons (eVar 9) aNil))) (aCons (eTup (aCons (eC (.str [103, 111, 110, 101])) (aCons (eVar 9) aNil))) (aCons (eTup (aCons (eC (.str [111, 102, 102])) (aCons (eVar 9) aNil))) (aCons (eTup (aCons (eC (.str [116, 117, 114, 110])) (aCons (eVar 9) aNil))) (aCons (eTup (aCons (eC (.str [115, 116, 97, 110, 100, 115])) (aCons (eVar 9) aNil))) aNil))))))) (gNm 15)) (sAsg (eOp2 opIx (eFrz (lAdd (eBor 15) (eFrz (lLst (aCons (eTup (aCons (eC (.str [111, 118, 101, 114])) (aCons (eVar 12) (aCons (eVar 9) aNil)))) aNil))))) (eCall f_law_next (aCons (eVar 1) (aCons (eC (.int 6)) aNil)))) (gNm 14)))
def p3c : MS := (sDrop (eAppL (eOp2 opIx (eBor 8) (eBor 12)) (eVar 13)))
def p3 : MS := (sIf (tAnd (tVal (eOp2 opGt (eBor 11) (eC (.int 4)))) (tVal (eOp2 opNe (eOp2 opIx (eBor 8) (eBor 12)) (eFrz (lLst aNil))))) p3a (sIf (tVal (eOp2 opLt (eBor 11) (eC (.int 2)))) p3b p3c))
theorem p3a_ok (g : GS s n S B Q M evs c) {hand : Int} {q : Nat} (hq : q ∈ Q) (hx : ∀ s : Sto, opIx s (.lst (Q.map D.ref)) (.int hand) = some (.ref q)) {bs : List Pr} {x : Pr} (hs : s[q]? = some (.lst ((bs ++ [x]).map prD))) (hbs : (bs ++ [x]).length ≤ c) (p : Pr) :
    ∃ p' s', p3a (vE a0 n z2 m d o S B Q z9 z10 z11 (.val (.int hand)) (.val (prD p)) z14 z15 z16 z17 z18) s = .nx (vE a0 n z2 m d o S B Q z9 z10 z11 (.val (.int hand)) (.val (prD p')) (.val (evD (.io false hand p'))) z15 z16 z17 z18) s' ∧ GS s' n S B Q M evs c := by
  obtain ⟨r, s1, e1, a1, b1, f1⟩ := nx (m := 30) g.d
  have g1 := g.fr f1
  have nq := g.nQ q hq
  have hs1 : s1[q]? = some (.lst ((bs ++ [x]).map prD)) := (f1.2.2 q (by omega)).trans hs
  have hli := last_ix hs1
  have g2 := g1.setq hq bs (by rw [List.length_append] at hbs; omega)
  have hpl : plOf s1 (.ref q) = some ((bs ++ [x]).map prD) := by simp [plOf, hs1]
  have hpop : popAt (.ref q) s1 = .ok (prD x) (s1.set q (.lst (bs.map prD))) := by
    unfold popAt
    rw [hpl]
    simp [putL]
  have tail : ∀ p' : Pr, (sSeq (sAsg (eOp2 opAdd (eTup (aCons (eC (.str [111, 117, 116])) (aCons (eVar 12) aNil))) (eBor 13)) (gNm 14)) (sDrop (ePopL (eOp2 opIx (eBor 8) (eBor 12))))) (vE a0 n z2 m d o S B Q z9 z10 z11 (.val (.int hand)) (.val (prD p')) z14 z15 z16 z17 z18) s1 = .nx (vE a0 n z2 m d o S B Q z9 z10 z11 (.val (.int hand)) (.val (prD p')) (.val (evD (.io false hand p'))) z15 z16 z17 z18) (s1.set q (.lst (bs.map prD))) := fun p' => by
    have e : opAdd s1 (.tup [.str [111, 117, 116], .int hand]) (prD p') = some (evD (.io false hand p')) := add_one false hand p' s1
    simp [e, ePopL, hx, hpl, hpop]
  by_cases h : 0 < r
  · refine ⟨x, _, seq_nx ?_ (tail x), g2⟩
    simp [e1, opGt, opCmp, h, hx, opNeg, hli]
  · refine ⟨p, _, seq_nx ?_ (tail p), g2⟩
    simp [e1, opGt, opCmp, h]
theorem p3b_ok (g : GS s n S B Q M evs c) (hand num : Int) (z13 : Slot) : ∃ e z15' s', p3b (vE a0 n z2 m d o S B Q (.val (.int num)) z10 z11 (.val (.int hand)) z13 z14 z15 z16 z17 z18) s = .nx (vE a0 n z2 m d o S B Q (.val (.int num)) z10 z11 (.val (.int hand)) z13 (.val (evD e)) z15' z16 z17 z18) s' ∧ GS s' n S B Q M evs c ∧ e.ok := by
  obtain ⟨r, s1, e1, a1, b1, f1⟩ := nx (m := 6) g.d
  have hc : 5 + 1 ≤ cap := by unfold cap; omega
  have pick : ∃ e : EV, e.ok ∧ opIx s1 (.lst [.tup [.str [98, 101, 103, 105, 110], .int num], .tup [.str [103, 111, 110, 101], .int num], .tup [.str [111, 102, 102], .int num], .tup [.str [116, 117, 114, 110], .int num], .tup [.str [115, 116, 97, 110, 100, 115], .int num], .tup [.str [111, 118, 101, 114], .int hand, .int num]]) (.int r) = some (evD e) := by
    have : r = 0 ∨ r = 1 ∨ r = 2 ∨ r = 3 ∨ r = 4 ∨ r = 5 := by omega
    rcases this with h | h | h | h | h | h <;> subst h
    · exact ⟨.bg num, trivial, rfl⟩
    · exact ⟨.gn num, trivial, rfl⟩
    · exact ⟨.ot wOff [num], ⟨.inl rfl, by simp, by simp⟩, rfl⟩
    · exact ⟨.ot wTurn [num], ⟨.inr (.inl rfl), by simp, by simp⟩, rfl⟩
    · exact ⟨.ot wStands [num], ⟨.inr (.inr (.inl rfl)), by simp, by simp⟩, rfl⟩
    · exact ⟨.ot wOver [hand, num], ⟨.inr (.inr (.inr rfl)), by simp, by simp⟩, rfl⟩
  obtain ⟨e, ok, he⟩ := pick
  refine ⟨e, .val (.lst [.tup [.str [98, 101, 103, 105, 110], .int num], .tup [.str [103, 111, 110, 101], .int num], .tup [.str [111, 102, 102], .int num], .tup [.str [116, 117, 114, 110], .int num], .tup [.str [115, 116, 97, 110, 100, 115], .int num]]), s1, ?_, g.fr f1, ok⟩
  simp only [p3b, s_sSeq, s_sAsg, s_eFrz, s_lLst, s_aCons, s_eTup, s_eC, s_eVar, List.getElem?_cons_succ, List.getElem?_cons_zero, Res.bind_ok, s_aNil, List.length_cons, List.length_nil]
  simp [view, hc, e1, he]
theorem p3c_ok (g : GS s n S B Q M evs c) {hand : Int} {q : Nat} (hq : q ∈ Q) (hx : ∀ s : Sto, opIx s (.lst (Q.map D.ref)) (.int hand) = some (.ref q)) {ps : List Pr} (hs : s[q]? = some (.lst (ps.map prD))) (hl : ps.length ≤ c) (h9 : c < 900) (p : Pr) :
    ∃ s', p3c (vE a0 n z2 m d o S B Q z9 z10 z11 (.val (.int hand)) (.val (prD p)) z14 z15 z16 z17 z18) s = .nx (vE a0 n z2 m d o S B Q z9 z10 z11 (.val (.int hand)) (.val (prD p)) z14 z15 z16 z17 z18) s' ∧ GS s' n S B Q M evs (c + 1) := by
  have hpl : plOf s (.ref q) = some (ps.map prD) := by simp [plOf, hs]
  have hc : ps.length < cap := by unfold cap; omega
  have g2 := (g.mono (Nat.le_succ c)).setq hq (ps ++ [p]) (by simp; omega)
  exact ⟨_, by simp [p3c, eAppL, hx, hpl, appAt, hc, putL]; rfl, by simpa using g2⟩
end
end
end K15

/-! The plain law of k15, part 13: all events of a turn; asked and compared. Own text. -/
namespace K15
open MP
section
variable {s s' : Sto} {n S B : Nat} {Q : List Nat} {M : SM} {evs : List EV} {c : Nat} {a0 z2 z9 z10 z11 z12 z13 z14 z15 z16 z17 z18 : Slot} {m d o : Int}
theorem ne_nil_ref {q : Nat} {xs : List D} (h : s[q]? = some (.lst xs)) : opNe s (.ref q) (.lst []) = some (.bl (!xs.isEmpty)) := by
  have : opNe s (.ref q) (.lst []) = (eqD (.lst xs) (.lst [])).map fun b => D.bl (!b) := by simp [opNe, view, h]
  rw [this]
  cases xs <;> rfl
theorem p3_ok (g : GS s n S B Q M evs c) (h9 : c < 900) {hand num way : Int} (h0 : 0 ≤ hand) (h4 : hand < 4) (p : Pr) :
    ∃ z13' e z15' s', p3 (vE a0 n z2 m d o S B Q (.val (.int num)) z10 (.val (.int way)) (.val (.int hand)) (.val (prD p)) (.val (evD (.io true hand p))) z15 z16 z17 z18) s = .nx (vE a0 n z2 m d o S B Q (.val (.int num)) z10 (.val (.int way)) (.val (.int hand)) z13' (.val (evD e)) z15' z16 z17 z18) s' ∧ GS s' n S B Q M evs (c + 1) ∧ e.ok := by
  obtain ⟨q, hq, hx⟩ := hand_ix g h0 h4
  obtain ⟨ps, hs, hl⟩ := g.hQ q hq
  have hne := ne_nil_ref hs
  have els : ∀ {z13 z14 z15 : Slot}, ¬ way < 2 → ∃ s', sIf (tVal (eOp2 opLt (eBor 11) (eC (.int 2)))) p3b p3c (vE a0 n z2 m d o S B Q (.val (.int num)) z10 (.val (.int way)) (.val (.int hand)) (.val (prD p)) z14 z15 z16 z17 z18) s = .nx (vE a0 n z2 m d o S B Q (.val (.int num)) z10 (.val (.int way)) (.val (.int hand)) (.val (prD p)) z14 z15 z16 z17 z18) s' ∧ GS s' n S B Q M evs (c + 1) := fun {z13 z14 z15} hw => by
    obtain ⟨s', e1, g1⟩ := p3c_ok (a0 := a0) (z2 := z2) (z9 := .val (.int num)) (z10 := z10) (z11 := .val (.int way)) (z14 := z14) (z15 := z15) (z16 := z16) (z17 := z17) (z18 := z18) (m := m) (d := d) (o := o) g hq hx hs hl h9 p
    refine ⟨s', ?_, g1⟩
    rw [s_sIf]
    simp only [s_tVal, s_eOp2, s_eBor, List.getElem?_cons_succ, List.getElem?_cons_zero, s_eC, Res.bind_ok, opLt, opCmp, hw, decide_false, Res.ofO_some, asB_bl, Res.go_ok, Bool.false_eq_true, if_false]
    exact e1
  by_cases hw : 4 < way
  · rcases snoc_cases ps with hb | ⟨bs, x, hb⟩
    · obtain ⟨s', e1, g1⟩ := els (z13 := .emp) (z14 := .val (evD (.io true hand p))) (z15 := z15) (by omega)
      refine ⟨.val (prD p), .io true hand p, z15, s', ?_, g1, trivial⟩
      rw [hb] at hne
      unfold p3
      rw [s_sIf]
      simp only [s_tAnd, s_tVal, s_eOp2, s_eBor, List.getElem?_cons_succ, List.getElem?_cons_zero, s_eC, Res.bind_ok, opGt, opCmp, hw, decide_true, Res.ofO_some, asB_bl, if_true, hx, s_eFrz, s_lLst, s_aNil, List.length_nil, Nat.zero_le, hne, List.map_nil, List.isEmpty_nil, Bool.not_true, Res.go_ok, Bool.false_eq_true, if_false]
      exact e1
    · have hs' := hs
      rw [hb] at hs' hne hl
      obtain ⟨p', s', e1, g1⟩ := p3a_ok (a0 := a0) (z2 := z2) (z9 := .val (.int num)) (z10 := z10) (z11 := .val (.int way)) (z14 := .val (evD (.io true hand p))) (z15 := z15) (z16 := z16) (z17 := z17) (z18 := z18) (m := m) (d := d) (o := o) g hq hx hs' hl p
      refine ⟨.val (prD p'), .io false hand p', z15, s', ?_, g1.mono (Nat.le_succ c), trivial⟩
      unfold p3
      rw [s_sIf]
      have hnn : (!((bs ++ [x]).map prD).isEmpty) = true := by simp
      simp only [s_tAnd, s_tVal, s_eOp2, s_eBor, List.getElem?_cons_succ, List.getElem?_cons_zero, s_eC, Res.bind_ok, opGt, opCmp, hw, decide_true, Res.ofO_some, asB_bl, if_true, hx, s_eFrz, s_lLst, s_aNil, List.length_nil, Nat.zero_le, hne, hnn, Res.go_ok]
      exact e1
  · by_cases hw2 : way < 2
    · obtain ⟨e, z15', s', e1, g1, ok⟩ := p3b_ok (a0 := a0) (z2 := z2) (z10 := z10) (z11 := .val (.int way)) (z14 := .val (evD (.io true hand p))) (z15 := z15) (z16 := z16) (z17 := z17) (z18 := z18) (m := m) (d := d) (o := o) g hand num (.val (prD p))
      refine ⟨.val (prD p), e, z15', s', ?_, g1.mono (Nat.le_succ c), ok⟩
      unfold p3
      rw [s_sIf]
      simp only [s_tAnd, s_tVal, s_eOp2, s_eBor, List.getElem?_cons_succ, List.getElem?_cons_zero, s_eC, Res.bind_ok, opGt, opCmp, hw, decide_false, Res.ofO_some, asB_bl, Bool.false_eq_true, if_false, Res.go_ok]
      rw [s_sIf]
      simp only [s_tVal, s_eOp2, s_eBor, List.getElem?_cons_succ, List.getElem?_cons_zero, s_eC, Res.bind_ok, opLt, opCmp, hw2, decide_true, Res.ofO_some, asB_bl, if_true, Res.go_ok]
      exact e1
    · obtain ⟨s', e1, g1⟩ := els (z13 := .emp) (z14 := .val (evD (.io true hand p))) (z15 := z15) hw2
      refine ⟨.val (prD p), .io true hand p, z15, s', ?_, g1, trivial⟩
      unfold p3
      rw [s_sIf]
      simp only [s_tAnd, s_tVal, s_eOp2, s_eBor, List.getElem?_cons_succ, List.getElem?_cons_zero, s_eC, Res.bind_ok, opGt, opCmp, hw, decide_false, Res.ofO_some, asB_bl, Bool.false_eq_true, if_false, Res.go_ok]
      exact e1
def p4 : MS := (sDrop (eAppL (eVar 7) (eVar 14)))
theorem p4_ok (g : GS s n S B Q M evs c) (hl : evs.length < 900) {e : EV} (ok : e.ok) : ∃ s', p4 (vE a0 n z2 m d o S B Q z9 z10 z11 z12 z13 (.val (evD e)) z15 z16 z17 z18) s = .nx (vE a0 n z2 m d o S B Q z9 z10 z11 z12 z13 (.val (evD e)) z15 z16 z17 z18) s' ∧ GS s' n S B Q M (evs ++ [e]) c := by
  have hpl : plOf s (.ref B) = some (evs.map evD) := by simp [plOf, g.hB]
  have hc : evs.length < cap := by unfold cap; omega
  have g2 := g.more ok
  exact ⟨_, by simp [p4, eAppL, hpl, appAt, hc, putL]; rfl, by simpa using g2⟩
def eb : MS := (sSeq p0 (sSeq p1 (sSeq p2 (sSeq p3 p4))))
theorem eb_ok (g : GS s n S B Q M evs c) (h9 : c < 900) (hl : evs.length < 900) (m0 : 1 ≤ m) (m1 : m ≤ 4) (d0 : 1 ≤ d) (d1 : d ≤ 8) (o0 : 2 ≤ o) (o1 : o ≤ 7) :
    ∃ y9 y11 y12 y13 y14 y15 evs' s', eb (vE a0 n z2 m d o S B Q z9 z10 z11 z12 z13 z14 z15 z16 z17 z18) s = .nx (vE a0 n z2 m d o S B Q y9 z10 y11 y12 y13 y14 y15 z16 z17 z18) s' ∧ GS s' n S B Q M evs' (c + 1) ∧ evs'.length = evs.length + 1 := by
  obtain ⟨way, hand, num, s1, e1, h0, h4, g1⟩ := p0_ok (a0 := a0) (z2 := z2) (z9 := z9) (z10 := z10) (z11 := z11) (z12 := z12) (z13 := z13) (z14 := z14) (z15 := z15) (z16 := z16) (z17 := z17) (z18 := z18) (d := d) (o := o) g m0 m1
  obtain ⟨p, s2, e2, g2⟩ := p1_ok (a0 := a0) (z2 := z2) (z9 := .val (.int num)) (z10 := z10) (z11 := .val (.int way)) (z12 := .val (.int hand)) (z13 := z13) (z14 := z14) (z15 := z15) (z16 := z16) (z17 := z17) (z18 := z18) (m := m) g1 d0 d1 o0 o1
  have e3 := p2_ok (a0 := a0) (n := n) (S := S) (B := B) (Q := Q) (z2 := z2) (z9 := .val (.int num)) (z10 := z10) (z11 := .val (.int way)) (z14 := z14) (z15 := z15) (z16 := z16) (z17 := z17) (z18 := z18) (m := m) (d := d) (o := o) hand p s2
  obtain ⟨z13', e, z15', s3, e4, g3, ok⟩ := p3_ok (a0 := a0) (z2 := z2) (z10 := z10) (z15 := z15) (z16 := z16) (z17 := z17) (z18 := z18) (m := m) (d := d) (o := o) (num := num) (way := way) g2 h9 h0 h4 p
  obtain ⟨s4, e5, g4⟩ := p4_ok (a0 := a0) (z2 := z2) (z9 := .val (.int num)) (z10 := z10) (z11 := .val (.int way)) (z12 := .val (.int hand)) (z13 := z13') (z15 := z15') (z16 := z16) (z17 := z17) (z18 := z18) (m := m) (d := d) (o := o) g3 hl ok
  exact ⟨_, _, _, _, _, _, evs ++ [e], s4, seq_nx e1 (seq_nx e2 (seq_nx e3 (seq_nx e4 e5))), g4, by simp⟩
theorem eb_loop (m0 : 1 ≤ m) (m1 : m ≤ 4) (d0 : 1 ≤ d) (d1 : d ≤ 8) (o0 : 2 ≤ o) (o1 : o ≤ 7) : ∀ (l : List D) (evs : List EV) (c : Nat) (s : Sto) (z9 z10 z11 z12 z13 z14 z15 : Slot), GS s n S B Q M evs c → c + l.length < 900 → evs.length + l.length < 900 →
    ∃ y9 y10 y11 y12 y13 y14 y15 evs' c' s', forP (gNm 10) eb l (vE a0 n z2 m d o S B Q z9 z10 z11 z12 z13 z14 z15 z16 z17 z18) s = .nx (vE a0 n z2 m d o S B Q y9 y10 y11 y12 y13 y14 y15 z16 z17 z18) s' ∧ GS s' n S B Q M evs' c' ∧ evs'.length = evs.length + l.length
  | [], evs, c, s, z9, z10, z11, z12, z13, z14, z15, g, _, _ => ⟨z9, z10, z11, z12, z13, z14, z15, evs, c, s, rfl, g, rfl⟩
  | x :: l, evs, c, s, z9, z10, z11, z12, z13, z14, z15, g, hc, hl => by
    rw [List.length_cons] at hc hl
    obtain ⟨y9, y11, y12, y13, y14, y15, evs', s1, e1, g1, l1⟩ := eb_ok (a0 := a0) (z2 := z2) (z9 := z9) (z10 := .val x) (z11 := z11) (z12 := z12) (z13 := z13) (z14 := z14) (z15 := z15) (z16 := z16) (z17 := z17) (z18 := z18) g (by omega) (by omega) m0 m1 d0 d1 o0 o1
    obtain ⟨w9, w10, w11, w12, w13, w14, w15, evs2, c2, s2, e2, g2, l2⟩ := eb_loop m0 m1 d0 d1 o0 o1 l evs' (c + 1) s1 y9 (.val x) y11 y12 y13 y14 y15 g1 (by omega) (by omega)
    refine ⟨w9, w10, w11, w12, w13, w14, w15, evs2, c2, s2, ?_, g2, by rw [List.length_cons]; omega⟩
    simp only [forP, s_gNm, List.set_cons_succ, List.set_cons_zero, e1]
    exact e2
def q4 : MS := (sFor (iRng (eCall f_law_next (aCons (eVar 1) (aCons (eC (.int 61)) aNil)))) (gNm 10) eb)
theorem q4_ok (g : GS s n S B Q M evs 0) (hl : evs.length ≤ 5) (m0 : 1 ≤ m) (m1 : m ≤ 4) (d0 : 1 ≤ d) (d1 : d ≤ 8) (o0 : 2 ≤ o) (o1 : o ≤ 7) :
    ∃ y9 y10 y11 y12 y13 y14 y15 evs' c' s', q4 (vE a0 n z2 m d o S B Q z9 z10 z11 z12 z13 z14 z15 z16 z17 z18) s = .nx (vE a0 n z2 m d o S B Q y9 y10 y11 y12 y13 y14 y15 z16 z17 z18) s' ∧ GS s' n S B Q M evs' c' ∧ evs'.length ≤ 65 := by
  obtain ⟨r, s1, e1, a1, b1, f1⟩ := nx (m := 61) g.d
  have hlen := ints_len r.toNat
  obtain ⟨w9, w10, w11, w12, w13, w14, w15, evs2, c2, s2, e2, g2, l2⟩ := eb_loop (a0 := a0) (z2 := z2) (z16 := z16) (z17 := z17) (z18 := z18) m0 m1 d0 d1 o0 o1 (intsD 0 r.toNat) evs 0 s1 z9 z10 z11 z12 z13 z14 z15 (g.fr f1) (by omega) (by omega)
  have hf := s_sFor (iRng (eCall f_law_next (aCons (eVar 1) (aCons (eC (.int 61)) aNil)))) (gNm 10) eb (vE a0 n z2 m d o S B Q z9 z10 z11 z12 z13 z14 z15 z16 z17 z18) s s1 (intsD 0 r.toNat) (rng (by simp [e1]) a1 (by omega))
  exact ⟨w9, w10, w11, w12, w13, w14, w15, evs2, c2, s2, hf.trans e2, g2, by omega⟩
/-! ### asked -/
theorem GS.gr (g : GS s n S B Q M evs c) (h : GrB s.length s s') : GS s' n S B Q M evs c := by
  have lt : ∀ {n : Nat} {o : Ob}, s[n]? = some o → n < s.length := fun h => (List.getElem?_eq_some_iff.mp h).1
  obtain ⟨ns, i, cc, a, hi, e⟩ := g.d
  exact ⟨⟨ns, i, cc, a, hi, (h.2 _ (lt e)).trans e⟩, (h.2 _ (lt g.hS)).trans g.hS, (h.2 _ (lt g.hB)).trans g.hB, fun q hq => let ⟨ps, h1, h2⟩ := g.hQ q hq; ⟨ps, (h.2 _ (lt h1)).trans h1, h2⟩, g.nS, g.nB, g.nQ, g.bQ, g.ql, g.nk, g.ok⟩
def q5 : MS := (sAsg (eFrz (lLst (aCons (eFrz (lOf (eBor 7))) (aCons (eDCopy (eVar 6)) aNil)))) (gNm 16))
theorem q5_ok (g : GS s n S B Q M evs c) : q5 (vE a0 n z2 m d o S B Q z9 z10 z11 z12 z13 z14 z15 z16 z17 z18) s = .nx (vE a0 n z2 m d o S B Q z9 z10 z11 z12 z13 z14 z15 (.val (.lst [.lst (evs.map evD), .ref s.length])) z17 z18) (s ++ [.dic (setsD M)]) := by
  have h1 : seqOf s (.ref B) = some (evs.map evD) := by simp [seqOf, g.hB]
  have h2 : dicOf s (.ref S) = some (setsD M) := by simp [dicOf, g.hS]
  simp [q5, h1, dcopyAt, h2]
def cb : MS := (sSeq (sAsg (eTold (eCall f_mixture (aCons (eOp2 opIx (eBor 16) (eC (.int 0))) (aCons (eOp2 opIx (eBor 16) (eC (.int 1))) aNil))) h_law_told 5 1 [1]) (gNm 18)) (sIf (tOr (tNot (tVal (eCall (f_law_like 6) (aCons (eVar 18) (aCons (eCall f_law_reading (aCons (eVar 7) (aCons (eVar 6) aNil))) aNil))))) (tVal (eOp2 opNeX (eBor 16) (eFrz (lLst (aCons (eVar 7) (aCons (eVar 6) aNil))))))) (sRet (eC (.bl false))) sNext))
theorem told_ok {T : Nat} (hT : s[T]? = some (.dic (setsD M))) (hM : M.length ≤ 4) (hl : evs.length ≤ 65) (ho : ∀ e ∈ evs, e.ok) (env : Env) (h16 : env[16]? = some (.val (.lst [.lst (evs.map evD), .ref T]))) :
    ∃ s', eTold (eCall f_mixture (aCons (eOp2 opIx (eBor 16) (eC (.int 0))) (aCons (eOp2 opIx (eBor 16) (eC (.int 1))) aNil))) h_law_told 5 1 [1] env s = .ok (outD (runR M evs 0 T0 none)) s' ∧ GrB s.length s s' := by
  have i0 : opIx s (.lst [.lst (evs.map evD), .ref T]) (.int 0) = some (.lst (evs.map evD)) := rfl
  have i1 : opIx s (.lst [.lst (evs.map evD), .ref T]) (.int 1) = some (.ref T) := rfl
  rcases mixture_ok hT (by omega) evs (by omega) ho with ⟨j, s', e1, e2, g⟩ | ⟨f, s', e1, e2, g⟩
  · refine ⟨s', ?_, g⟩
    have : eCall f_mixture (aCons (eOp2 opIx (eBor 16) (eC (.int 0))) (aCons (eOp2 opIx (eBor 16) (eC (.int 1))) aNil)) env s = .exc ⟨1, [("event", .int (j : Nat))]⟩ s' := by
      simp only [s_eCall, s_aCons, s_eOp2, s_eBor, h16, Res.bind_ok, s_eC, i0, i1, Res.ofO_some, s_aNil, e2]
    unfold eTold
    rw [this, e1]
    simp only [List.mem_singleton, if_true, told_book]
    rfl
  · refine ⟨s', ?_, g⟩
    have : eCall f_mixture (aCons (eOp2 opIx (eBor 16) (eC (.int 0))) (aCons (eOp2 opIx (eBor 16) (eC (.int 1))) aNil)) env s = .ok (foundD f) s' := by
      simp only [s_eCall, s_aCons, s_eOp2, s_eBor, h16, Res.bind_ok, s_eC, i0, i1, Res.ofO_some, s_aNil, e2]
    unfold eTold
    rw [this, e1]
    rfl
theorem cb_ok (g : GS s n S B Q M evs c) {T : Nat} (hT : s[T]? = some (.dic (setsD M))) (hne : T ≠ S) (hM : M.length ≤ 4) (hl : evs.length ≤ 65) :
    ∃ y18 s', cb (vE a0 n z2 m d o S B Q z9 z10 z11 z12 z13 z14 z15 (.val (.lst [.lst (evs.map evD), .ref T])) z17 z18) s = .nx (vE a0 n z2 m d o S B Q z9 z10 z11 z12 z13 z14 z15 (.val (.lst [.lst (evs.map evD), .ref T])) z17 y18) s' ∧ GS s' n S B Q M evs c ∧ s'[T]? = some (.dic (setsD M)) := by
  have lt : ∀ {n : Nat} {o : Ob}, s[n]? = some o → n < s.length := fun h => (List.getElem?_eq_some_iff.mp h).1
  obtain ⟨s1, e1, f1⟩ := told_ok hT hM hl g.ok (vE a0 n z2 m d o S B Q z9 z10 z11 z12 z13 z14 z15 (.val (.lst [.lst (evs.map evD), .ref T])) z17 z18) rfl
  have g1 := g.gr f1
  have hT1 : s1[T]? = some (.dic (setsD M)) := (f1.2 _ (lt hT)).trans hT
  obtain ⟨s2, e2, f2⟩ := reading_ok g1.hB g1.hS (by omega) (by omega) g.ok
  have g2 := g1.gr f2
  have hT2 : s2[T]? = some (.dic (setsD M)) := (f2.2 _ ((List.getElem?_eq_some_iff.mp hT1).1)).trans hT1
  have e3 := like_out (runR M evs 0 T0 none) s2
  have e4 := ne_handed g2.hB g2.hS hT2 hne g.nk g.ok
  refine ⟨.val (outD (runR M evs 0 T0 none)), s2, ?_, g2, hT2⟩
  refine seq_nx (e1 := vE a0 n z2 m d o S B Q z9 z10 z11 z12 z13 z14 z15 (.val (.lst [.lst (evs.map evD), .ref T])) z17 (.val (outD (runR M evs 0 T0 none)))) (s1 := s1) ?_ ?_
  · rw [s_sAsg, e1]
    rfl
  · simp only [s_sIf, s_tOr, s_tNot, s_tVal, s_eCall, s_aCons, s_eVar, List.getElem?_cons_succ, List.getElem?_cons_zero, Res.bind_ok, s_aNil, e2, e3, asB_bl, Bool.not_true, Bool.false_eq_true, if_false, s_eOp2, s_eBor, s_eFrz, s_lLst, List.length_cons, List.length_nil, show (0 + 1 + 1 ≤ 1000) = True from eq_true (by decide), if_true, e4, Res.ofO_some, Res.go_ok, s_sNext]
theorem cb_loop {T : Nat} (hne : T ≠ S) (hM : M.length ≤ 4) (hl : evs.length ≤ 65) : ∀ (l : List D) (s : Sto) (z17 z18 : Slot), GS s n S B Q M evs c → s[T]? = some (.dic (setsD M)) →
    ∃ y17 y18 s', forP (gNm 17) cb l (vE a0 n z2 m d o S B Q z9 z10 z11 z12 z13 z14 z15 (.val (.lst [.lst (evs.map evD), .ref T])) z17 z18) s = .nx (vE a0 n z2 m d o S B Q z9 z10 z11 z12 z13 z14 z15 (.val (.lst [.lst (evs.map evD), .ref T])) y17 y18) s' ∧ GS s' n S B Q M evs c
  | [], s, z17, z18, g, _ => ⟨z17, z18, s, rfl, g⟩
  | x :: l, s, z17, z18, g, hT => by
    obtain ⟨y18, s1, e1, g1, h1⟩ := cb_ok (a0 := a0) (z2 := z2) (z9 := z9) (z10 := z10) (z11 := z11) (z12 := z12) (z13 := z13) (z14 := z14) (z15 := z15) (z17 := .val x) (z18 := z18) (m := m) (d := d) (o := o) g hT hne hM hl
    obtain ⟨w17, w18, s2, e2, g2⟩ := cb_loop hne hM hl l s1 (.val x) y18 g1 h1
    refine ⟨w17, w18, s2, ?_, g2⟩
    simp only [forP, s_gNm, List.set_cons_succ, List.set_cons_zero, e1]
    exact e2
def q6 : MS := (sFor (iRng (eC (.int 2))) (gNm 17) cb)
theorem q6_ok (g : GS s n S B Q M evs c) {T : Nat} (hT : s[T]? = some (.dic (setsD M))) (hne : T ≠ S) (hM : M.length ≤ 4) (hl : evs.length ≤ 65) :
    ∃ y17 y18 s', q6 (vE a0 n z2 m d o S B Q z9 z10 z11 z12 z13 z14 z15 (.val (.lst [.lst (evs.map evD), .ref T])) z17 z18) s = .nx (vE a0 n z2 m d o S B Q z9 z10 z11 z12 z13 z14 z15 (.val (.lst [.lst (evs.map evD), .ref T])) y17 y18) s' ∧ Dice s' n := by
  obtain ⟨y17, y18, s', e, g'⟩ := cb_loop (a0 := a0) (z2 := z2) (z9 := z9) (z10 := z10) (z11 := z11) (z12 := z12) (z13 := z13) (z14 := z14) (z15 := z15) (m := m) (d := d) (o := o) hne hM hl (intsD 0 (2 : Int).toNat) s z17 z18 g hT
  have hf := s_sFor (iRng (eC (.int 2))) (gNm 17) cb (vE a0 n z2 m d o S B Q z9 z10 z11 z12 z13 z14 z15 (.val (.lst [.lst (evs.map evD), .ref T])) z17 z18) s s (intsD 0 (2 : Int).toNat) (rng rfl (by omega) (by omega))
  exact ⟨y17, y18, s', hf.trans e, g'.d⟩
end
def tb : MS := sSeq q0 (sSeq q1 (sSeq q2 (sSeq q3 (sSeq q4 (sSeq q5 q6)))))
theorem law_eq : f_law = runB 1 20 (sSeq (sAsg (eCall f_law_dice (aCons (eVar 0) aNil)) (gNm 1)) (sSeq (sFor (iRng (eC (.int 3))) (gNm 2) tb) (sRet (eC (.bl true))))) := rfl
theorem turn_ok {n : Nat} (a0 z2 z3 z4 z5 z6 z7 z8 z9 z10 z11 z12 z13 z14 z15 z16 z17 z18 : Slot) (s : Sto) (hd : Dice s n) : ∃ y3 y4 y5 y6 y7 y8 y9 y10 y11 y12 y13 y14 y15 y16 y17 y18 s', tb (gE a0 n z2 z3 z4 z5 z6 z7 z8 z9 z10 z11 z12 z13 z14 z15 z16 z17 z18) s = .nx (gE a0 n z2 y3 y4 y5 y6 y7 y8 y9 y10 y11 y12 y13 y14 y15 y16 y17 y18) s' ∧ Dice s' n := by
  obtain ⟨m, d, o, s0, e0, m0, m1, d0, d1, o0, o1, f0⟩ := q0_ok (a0 := a0) (z2 := z2) (z3 := z3) (z4 := z4) (z5 := z5) (z6 := z6) (z7 := z7) (z8 := z8) (z9 := z9) (z10 := z10) (z11 := z11) (z12 := z12) (z13 := z13) (z14 := z14) (z15 := z15) (z16 := z16) (z17 := z17) (z18 := z18) hd
  obtain ⟨S, B, Q, s1, e1, g1⟩ := q1_ok (c := 0) (a0 := a0) (z2 := z2) (z3 := .val (.int m)) (z4 := .val (.int d)) (z5 := .val (.int o)) (z6 := z6) (z7 := z7) (z8 := z8) (z9 := z9) (z10 := z10) (z11 := z11) (z12 := z12) (z13 := z13) (z14 := z14) (z15 := z15) (z16 := z16) (z17 := z17) (z18 := z18) f0.1
  obtain ⟨M, z9', s2, e2, g2, lM⟩ := q2_ok (a0 := a0) (z2 := z2) (z3 := .val (.int m)) (z5 := .val (.int o)) (z7 := .val (.ref B)) (z8 := .val (.lst (Q.map D.ref))) (z9 := z9) (z10 := z10) (z11 := z11) (z12 := z12) (z13 := z13) (z14 := z14) (z15 := z15) (z16 := z16) (z17 := z17) (z18 := z18) g1 d0 d1
  obtain ⟨B', evs, s3, e3, g3, l3⟩ := q3_ok (a0 := a0) (z2 := z2) (z3 := .val (.int m)) (z4 := .val (.int d)) (z5 := .val (.int o)) (z6 := .val (.ref S)) (z8 := .val (.lst (Q.map D.ref))) (z9 := z9') (z10 := z10) (z11 := z11) (z12 := z12) (z13 := z13) (z14 := z14) (z15 := z15) (z16 := z16) (z17 := z17) (z18 := z18) g2
  obtain ⟨w9, w10, w11, w12, w13, w14, w15, evs', c', s4, e4, g4, l4⟩ := q4_ok (a0 := a0) (z2 := z2) (z9 := z9') (z10 := z10) (z11 := z11) (z12 := z12) (z13 := z13) (z14 := z14) (z15 := z15) (z16 := z16) (z17 := z17) (z18 := z18) g3 l3 m0 m1 d0 d1 o0 o1
  have e5 := q5_ok (a0 := a0) (z2 := z2) (z9 := w9) (z10 := w10) (z11 := w11) (z12 := w12) (z13 := w13) (z14 := w14) (z15 := w15) (z16 := z16) (z17 := z17) (z18 := z18) (m := m) (d := d) (o := o) g4
  have g5 : GS (s4 ++ [.dic (setsD M)]) n S B' Q M evs' c' := g4.gr ⟨by simp, fun j hj => List.getElem?_append_left hj⟩
  have hS : S < s4.length := (List.getElem?_eq_some_iff.mp g4.hS).1
  obtain ⟨y17, y18, s6, e6, d6⟩ := q6_ok (a0 := a0) (z2 := z2) (z9 := w9) (z10 := w10) (z11 := w11) (z12 := w12) (z13 := w13) (z14 := w14) (z15 := w15) (z17 := z17) (z18 := z18) (m := m) (d := d) (o := o) g5 (T := s4.length) (by simp) (by omega) lM l4
  exact ⟨_, _, _, _, _, _, _, _, _, _, _, _, _, _, _, _, s6, seq_nx e0 (seq_nx e1 (seq_nx e2 (seq_nx e3 (seq_nx e4 (seq_nx e5 e6))))), d6⟩
theorem turns_loop {n : Nat} (a0 : Slot) : ∀ (l : List D) (z2 z3 z4 z5 z6 z7 z8 z9 z10 z11 z12 z13 z14 z15 z16 z17 z18 : Slot) (s : Sto), Dice s n → ∃ e' s', forP (gNm 2) tb l (gE a0 n z2 z3 z4 z5 z6 z7 z8 z9 z10 z11 z12 z13 z14 z15 z16 z17 z18) s = .nx e' s'
  | [], z2, z3, z4, z5, z6, z7, z8, z9, z10, z11, z12, z13, z14, z15, z16, z17, z18, s, _ => ⟨_, s, rfl⟩
  | x :: l, z2, z3, z4, z5, z6, z7, z8, z9, z10, z11, z12, z13, z14, z15, z16, z17, z18, s, hd => by
    obtain ⟨y3, y4, y5, y6, y7, y8, y9, y10, y11, y12, y13, y14, y15, y16, y17, y18, s1, e1, d1⟩ := turn_ok a0 (.val x) z3 z4 z5 z6 z7 z8 z9 z10 z11 z12 z13 z14 z15 z16 z17 z18 s hd
    obtain ⟨e', s2, e2⟩ := turns_loop a0 l (.val x) y3 y4 y5 y6 y7 y8 y9 y10 y11 y12 y13 y14 y15 y16 y17 y18 s1 d1
    refine ⟨e', s2, ?_⟩
    simp only [forP, s_gNm, List.set_cons_succ, List.set_cons_zero, e1]
    exact e2
end K15

/-! The plain law of k15, whole. Own text. -/
namespace K15
open MP
theorem plain (ns : List Int) (_ : ns.length ≤ 63) : ∃ s, f_law [.scr ns] [] = .ok (.bl true) s := by
  obtain ⟨s0, e0, d0, _, _⟩ := dice_ok ns []
  obtain ⟨e, s', h⟩ := turns_loop (.val (.scr ns)) (intsD 0 (3 : Int).toNat) .emp .emp .emp .emp .emp .emp .emp .emp .emp .emp .emp .emp .emp .emp .emp .emp .emp s0 d0
  have f := s_sFor (iRng (eC (.int 3))) (gNm 2) tb (gE (.val (.scr ns)) 0 .emp .emp .emp .emp .emp .emp .emp .emp .emp .emp .emp .emp .emp .emp .emp .emp .emp) s0 s0 (intsD 0 (3 : Int).toNat) (rng rfl (by omega) (by omega))
  have h1 : sAsg (eCall f_law_dice (aCons (eVar 0) aNil)) (gNm 1) ([Slot.val (D.scr ns)] ++ List.replicate 19 .emp) [] = .nx (gE (.val (.scr ns)) 0 .emp .emp .emp .emp .emp .emp .emp .emp .emp .emp .emp .emp .emp .emp .emp .emp .emp) s0 := by
    have e0' : f_law_dice [.scr ns] [] = .ok (.ref 0) s0 := e0
    simp [e0']
  have h2 : (sSeq (sAsg (eCall f_law_dice (aCons (eVar 0) aNil)) (gNm 1)) (sSeq (sFor (iRng (eC (.int 3))) (gNm 2) tb) (sRet (eC (.bl true))))) ([Slot.val (D.scr ns)] ++ List.replicate 19 .emp) [] = .rt (.bl true) s' := seq_nx h1 (seq_nx (f.trans h) rfl)
  refine ⟨s', ?_⟩
  rw [law_eq]
  simp only [s_runB, List.length_cons, List.length_nil, if_true, List.map_cons, List.map_nil]
  have h3 : (sSeq (sAsg (eCall f_law_dice (aCons (eVar 0) aNil)) (gNm 1)) (sSeq (sFor (iRng (eC (.int 3))) (gNm 2) tb) (sRet (eC (.bl true))))) ([Slot.val (D.scr ns)] ++ List.replicate (20 - 1) .emp) [] = .rt (.bl true) s' := h2
  rw [h3]
end K15

/-! The walk of the law, printed by gen.py. Own text. -/
namespace K15
open PySem L2 TL MP
def top (i : Nat) : Stmt := PySem.Challenge.pw_changemill_k15_books_looked_through.main.body.getD i (.Pass ⟨0, 0, 0, 0⟩)
def st_law_dice : Stmt := top 24
def N_law_dice : List Str := ["_law_script", "_law_mixed", "_law_cell"]
theorem nd_law_dice : N_law_dice.Nodup := by decide +kernel
def st_law_next : Stmt := top 25
def N_law_next : List Str := ["_law_dice_here", "_law_many", "_law_found", "_law_cell"]
theorem nd_law_next : N_law_next.Nodup := by decide +kernel
def st_Reading___init__ : Stmt := inClass (top 21) 0
def N_Reading___init__ : List Str := ["self", "sets"]
theorem nd_Reading___init__ : N_Reading___init__.Nodup := by decide +kernel
def st_BadBook___init__ : Stmt := inClass (top 15) 0
def N_BadBook___init__ : List Str := ["self", "event"]
theorem nd_BadBook___init__ : N_BadBook___init__.Nodup := by decide +kernel
def st_side : Stmt := top 19
def N_side : List Str := ["change", "number"]
theorem nd_side : N_side.Nodup := by decide +kernel
def st_mixing : Stmt := top 20
def N_mixing : List Str := ["pile", "sets", "beneath", "last", "deed", "change", "found", "number", "some", "one"]
theorem nd_mixing : N_mixing.Nodup := by decide +kernel
def st_Reading_reads : Stmt := inClass (top 21) 1
def N_Reading_reads : List Str := ["self", "event", "word", "things", "hand", "last", "pile"]
theorem nd_Reading_reads : N_Reading_reads.Nodup := by decide +kernel
def st_mixture : Stmt := top 22
def N_mixture : List Str := ["book", "sets", "reading", "told", "event", "word", "things", "number"]
theorem nd_mixture : N_mixture.Nodup := by decide +kernel
def st_law_like : Stmt := top 26
def N_law_like : List Str := ["_law_found", "_law_due", "_law_k"]
theorem nd_law_like : N_law_like.Nodup := by decide +kernel
def st_law_new : Stmt := top 29
def N_law_new : List Str := ["_law_change", "_law_number"]
theorem nd_law_new : N_law_new.Nodup := by decide +kernel
def st_law_reading : Stmt := top 28
def N_law_reading : List Str := ["_law_book", "_law_sets", "_law_piles", "_law_now", "_law_found", "_law_event", "_law_one", "_law_pile", "_law_number", "_law_some", "_law_its"]
theorem nd_law_reading : N_law_reading.Nodup := by decide +kernel
def st_law : Stmt := top 30
def N_law : List Str := ["_law_script", "_law_d", "_law_turn", "_law_men", "_law_deeds", "_law_often", "_law_sets", "_law_book", "_law_piles", "_law_number", "_law_event", "_law_way", "_law_hand", "_law_last", "_law_one", "_law_some", "_law_handed", "_law_again", "_law_found", "_law_deed"]
theorem nd_law : N_law.Nodup := by decide +kernel
def st_law_told : Stmt := top 27
def N_law_told : List Str := ["_law_work", "e", "_law_kinds", "_law_terms", "_law_term"]
theorem nd_law_told : N_law_told.Nodup := by decide +kernel
structure Tx (K : PySem.W.Frag) (w : World) (mg : Str → Option Value) (base : Heap) (C : MP.Tab) (A : Nat → Addr) : Prop where
  g_law_dice : mg "_law_dice" = some (.ref (A 0))
  k_law_dice : PySem.W.keepIn K (.ref (A 0)) = true
  f_law_dice : ∃ fd, FunD K "_law_dice" "_law_dice" (defArgs st_law_dice) (defBody st_law_dice) (defScope st_law_dice) [] [] (A 0) fd
  g_law_next : mg "_law_next" = some (.ref (A 1))
  k_law_next : PySem.W.keepIn K (.ref (A 1)) = true
  f_law_next : ∃ fd, FunD K "_law_next" "_law_next" (defArgs st_law_next) (defBody st_law_next) (defScope st_law_next) [] [] (A 1) fd
  f_Reading___init__ : ∃ fd, FunD K "__init__" "Reading.__init__" (defArgs st_Reading___init__) (defBody st_Reading___init__) (defScope st_Reading___init__) [] [] (A 2) fd
  f_BadBook___init__ : ∃ fd, FunD K "__init__" "BadBook.__init__" (defArgs st_BadBook___init__) (defBody st_BadBook___init__) (defScope st_BadBook___init__) [] [] (A 3) fd
  g_side : mg "side" = some (.ref (A 4))
  k_side : PySem.W.keepIn K (.ref (A 4)) = true
  f_side : ∃ fd, FunD K "side" "side" (defArgs st_side) (defBody st_side) (defScope st_side) [] [] (A 4) fd
  g_mixing : mg "mixing" = some (.ref (A 5))
  k_mixing : PySem.W.keepIn K (.ref (A 5)) = true
  f_mixing : ∃ fd, FunD K "mixing" "mixing" (defArgs st_mixing) (defBody st_mixing) (defScope st_mixing) [] [] (A 5) fd
  me_Reading_reads : Meth K (C 16) (Str.ofString "reads") (A 6)
  f_Reading_reads : ∃ fd, FunD K "reads" "Reading.reads" (defArgs st_Reading_reads) (defBody st_Reading_reads) (defScope st_Reading_reads) [] [] (A 6) fd
  g_mixture : mg "mixture" = some (.ref (A 7))
  k_mixture : PySem.W.keepIn K (.ref (A 7)) = true
  f_mixture : ∃ fd, FunD K "mixture" "mixture" (defArgs st_mixture) (defBody st_mixture) (defScope st_mixture) [] [] (A 7) fd
  g_law_like : mg "_law_like" = some (.ref (A 8))
  k_law_like : PySem.W.keepIn K (.ref (A 8)) = true
  f_law_like : ∃ fd, FunD K "_law_like" "_law_like" (defArgs st_law_like) (defBody st_law_like) (defScope st_law_like) [] [] (A 8) fd
  g_law_new : mg "_law_new" = some (.ref (A 9))
  k_law_new : PySem.W.keepIn K (.ref (A 9)) = true
  f_law_new : ∃ fd, FunD K "_law_new" "_law_new" (defArgs st_law_new) (defBody st_law_new) (defScope st_law_new) [] [] (A 9) fd
  g_law_reading : mg "_law_reading" = some (.ref (A 10))
  k_law_reading : PySem.W.keepIn K (.ref (A 10)) = true
  f_law_reading : ∃ fd, FunD K "_law_reading" "_law_reading" (defArgs st_law_reading) (defBody st_law_reading) (defScope st_law_reading) [] [] (A 10) fd
  g_law : mg "law" = some (.ref (A 11))
  k_law : PySem.W.keepIn K (.ref (A 11)) = true
  f_law : ∃ fd, FunD K "law" "law" (defArgs st_law) (defBody st_law) (defScope st_law) [] [] (A 11) fd
  aa_law : A 11 = He.fAd K ("law", none)
  tb_law : LamX.TabB base mg (He.codeOf K ("law", none)) (He.tabOf K (He.codeOf K ("law", none)))
  ct_law : (He.tabOf K (He.codeOf K ("law", none)), Str.ofString "law.<locals>.<lambda>") ∈ C.t
  cu_law : ∀ p ∈ C.t, p.1 = He.tabOf K (He.codeOf K ("law", none)) → p.2 = Str.ofString "law.<locals>.<lambda>"
  g_law_told : mg "_law_told" = some (.ref (A 12))
  k_law_told : PySem.W.keepIn K (.ref (A 12)) = true
  f_law_told : ∃ fd, FunD K "_law_told" "_law_told" (defArgs st_law_told) (defBody st_law_told) (defScope st_law_told) [] [] (A 12) fd
  gc_MillError : mg "MillError" = some (.ref (C 0))
  gc_BadBook : mg "BadBook" = some (.ref (C 1))
  gc_NoHand : mg "NoHand" = some (.ref (C 2))
  gc_NoRoom : mg "NoRoom" = some (.ref (C 3))
  gc_BadTexts : mg "BadTexts" = some (.ref (C 4))
  gc_BadMill : mg "BadMill" = some (.ref (C 5))
  gc_BadNumber : mg "BadNumber" = some (.ref (C 6))
  gc_NoDeed : mg "NoDeed" = some (.ref (C 7))
  gc_Within : mg "Within" = some (.ref (C 8))
  gc_BadChange : mg "BadChange" = some (.ref (C 9))
  gc_Full : mg "Full" = some (.ref (C 10))
  gc_Underway : mg "Underway" = some (.ref (C 11))
  gc_NoCell : mg "NoCell" = some (.ref (C 12))
  gc_NoChange : mg "NoChange" = some (.ref (C 13))
  gc_Unmet : mg "Unmet" = some (.ref (C 14))
  gc_BadText : mg "BadText" = some (.ref (C 15))
  gc_Reading : mg "Reading" = some (.ref (C 16))
  cl_Reading : Cls K (C 16)
  mk_Reading : Mk K (C 16) (A 2)
  ba_MillError : BaseI K (C 0)
  xo_BadBook : ExO K (C 1) ["event"]
  ii_BadBook : PySem.W.findIn K (.ref (C 1)) "__init__" = some (some (.ref (A 3))) ∧ PySem.W.typeIn K (.ref (A 3)) = some (.type "function")
  is_NoHand : ∀ c b, ([(1, false)] : List (Nat × Bool)).lookup c = some b → ExcC K (C c) ∧ PySem.W.kitOne K (.ref (C c)) (.ref (C 2)) = some b
  is_NoRoom : ∀ c b, ([(1, false)] : List (Nat × Bool)).lookup c = some b → ExcC K (C c) ∧ PySem.W.kitOne K (.ref (C c)) (.ref (C 3)) = some b
  is_BadTexts : ∀ c b, ([(1, false)] : List (Nat × Bool)).lookup c = some b → ExcC K (C c) ∧ PySem.W.kitOne K (.ref (C c)) (.ref (C 4)) = some b
  is_BadMill : ∀ c b, ([(1, false)] : List (Nat × Bool)).lookup c = some b → ExcC K (C c) ∧ PySem.W.kitOne K (.ref (C c)) (.ref (C 5)) = some b
  is_BadNumber : ∀ c b, ([(1, false)] : List (Nat × Bool)).lookup c = some b → ExcC K (C c) ∧ PySem.W.kitOne K (.ref (C c)) (.ref (C 6)) = some b
  is_NoDeed : ∀ c b, ([(1, false)] : List (Nat × Bool)).lookup c = some b → ExcC K (C c) ∧ PySem.W.kitOne K (.ref (C c)) (.ref (C 7)) = some b
  is_Within : ∀ c b, ([(1, false)] : List (Nat × Bool)).lookup c = some b → ExcC K (C c) ∧ PySem.W.kitOne K (.ref (C c)) (.ref (C 8)) = some b
  is_BadChange : ∀ c b, ([(1, false)] : List (Nat × Bool)).lookup c = some b → ExcC K (C c) ∧ PySem.W.kitOne K (.ref (C c)) (.ref (C 9)) = some b
  is_Full : ∀ c b, ([(1, false)] : List (Nat × Bool)).lookup c = some b → ExcC K (C c) ∧ PySem.W.kitOne K (.ref (C c)) (.ref (C 10)) = some b
  is_Underway : ∀ c b, ([(1, false)] : List (Nat × Bool)).lookup c = some b → ExcC K (C c) ∧ PySem.W.kitOne K (.ref (C c)) (.ref (C 11)) = some b
  is_NoCell : ∀ c b, ([(1, false)] : List (Nat × Bool)).lookup c = some b → ExcC K (C c) ∧ PySem.W.kitOne K (.ref (C c)) (.ref (C 12)) = some b
  is_NoChange : ∀ c b, ([(1, false)] : List (Nat × Bool)).lookup c = some b → ExcC K (C c) ∧ PySem.W.kitOne K (.ref (C c)) (.ref (C 13)) = some b
  is_Unmet : ∀ c b, ([(1, false)] : List (Nat × Bool)).lookup c = some b → ExcC K (C c) ∧ PySem.W.kitOne K (.ref (C c)) (.ref (C 14)) = some b
  is_BadText : ∀ c b, ([(1, false)] : List (Nat × Bool)).lookup c = some b → ExcC K (C c) ∧ PySem.W.kitOne K (.ref (C c)) (.ref (C 15)) = some b
  is_BadBook : ∀ c b, ([(1, true)] : List (Nat × Bool)).lookup c = some b → ExcC K (C c) ∧ PySem.W.kitOne K (.ref (C c)) (.ref (C 1)) = some b
  is_ValueError : ∀ c b, ([(1, true)] : List (Nat × Bool)).lookup c = some b → ExcC K (C c) ∧ PySem.W.kitOne K (.ref (C c)) (.type "ValueError") = some b
  xf_word : ∀ c ∈ ([] : List Nat), XfC K (C c) ∧ PySem.W.findIn K (.ref (C c)) (Str.ofString "word") = some none
  xf_row : ∀ c ∈ ([] : List Nat), XfC K (C c) ∧ PySem.W.findIn K (.ref (C c)) (Str.ofString "row") = some none
  xf_deed : ∀ c ∈ ([] : List Nat), XfC K (C c) ∧ PySem.W.findIn K (.ref (C c)) (Str.ofString "deed") = some none
  xf_event : ∀ c ∈ ([1] : List Nat), XfC K (C c) ∧ PySem.W.findIn K (.ref (C c)) (Str.ofString "event") = some none
  em_law_told : ∀ c ∈ ([1] : List Nat), PySem.W.exmOne K (.ref (C c)) (.ref (C 0)) = some true
  na_Reading_sets : NoAttr K (C 16) (Str.ofString "sets")
  na_Reading_now : NoAttr K (C 16) (Str.ofString "now")
  na_Reading_piles : NoAttr K (C 16) (Str.ofString "piles")
  b_isinstance : mg "isinstance" = none
  b_ValueError : mg "ValueError" = none
  b_int : mg "int" = none
  b_len : mg "len" = none
  b_sorted : mg "sorted" = none
  b_tuple : mg "tuple" = none
  b_enumerate : mg "enumerate" = none
  b_list : mg "list" = none
  b_range : mg "range" = none
  b_bool : mg "bool" = none
  b_str : mg "str" = none
  b_set : mg "set" = none
  b_dict : mg "dict" = none
  q_MOST_PILE : ∃ u, mg "MOST_PILE" = some u ∧ KVal K 6 u d_MOST_PILE = true
section
variable {P : Program} {w : World} {K : PySem.W.Frag} {mg : Str → Option Value} {base : Heap} {C : MP.Tab} {A : Nat → Addr}
theorem s_law_told (T : Tx K w mg base C A) (cdg : Value) (Ar : Around) (outer : List PySem.Env) (s : Shared) (H : Hp) (a : Addr) (oe : Obj) (cls : Value) (d : Option Addr) (pn : List (Addr × Obj)) (hz : Zc cls d oe) (hf : ∃ vs, oe.data = .fields vs) (hr : Room 0 (Ar.deeper (PyProof.Rows.envOfC "_law_told" (defScope st_law_told) s.heap.objs.size (A 12) cdg))) :
    GSs ((cxOf C8.CX0 P w K mg base N_law_told "_law_told" (defScope st_law_told) (A 12) cdg Ar outer s H C8.E0).nox.suite a ((a, oe) :: pn)) (suiteC C 1 a cls d) W0 (hdBody (defBody st_law_told)) h_law_told := by
  have hu := hr.units
  have hv := hu_of hr
  have hu5 := Room65 hr
  exact (gss_cons (gs_frz (i := 2) (pn_set 2 (gl_lst (ga_cons (ge_isX 1 (v := .ref (C 5)) (cv := .ref (C 5)) [(1, false)] hz hf suiteC_z T.b_isinstance (fun _ h => h) (pe_glob rfl T.gc_BadMill rfl) T.is_BadMill) (ga_cons (ge_isX 1 (v := .ref (C 4)) (cv := .ref (C 4)) [(1, false)] hz hf suiteC_z T.b_isinstance (fun _ h => h) (pe_glob rfl T.gc_BadTexts rfl) T.is_BadTexts) (ga_cons (ge_isX 1 (v := .ref (C 3)) (cv := .ref (C 3)) [(1, false)] hz hf suiteC_z T.b_isinstance (fun _ h => h) (pe_glob rfl T.gc_NoRoom rfl) T.is_NoRoom) (ga_cons (ge_isX 1 (v := .ref (C 2)) (cv := .ref (C 2)) [(1, false)] hz hf suiteC_z T.b_isinstance (fun _ h => h) (pe_glob rfl T.gc_NoHand rfl) T.is_NoHand) ga_nil))))) nd_law_told)) (gss_cons (gs_frz (i := 2) (pn_set 2 (gl_add (gb_var 2) (gb_of (ge_frz (gl_lst (ga_cons (ge_isX 1 (v := .ref (C 8)) (cv := .ref (C 8)) [(1, false)] hz hf suiteC_z T.b_isinstance (fun _ h => h) (pe_glob rfl T.gc_Within rfl) T.is_Within) (ga_cons (ge_isX 1 (v := .ref (C 7)) (cv := .ref (C 7)) [(1, false)] hz hf suiteC_z T.b_isinstance (fun _ h => h) (pe_glob rfl T.gc_NoDeed rfl) T.is_NoDeed) (ga_cons (ge_isX 1 (v := .ref (C 6)) (cv := .ref (C 6)) [(1, false)] hz hf suiteC_z T.b_isinstance (fun _ h => h) (pe_glob rfl T.gc_BadNumber rfl) T.is_BadNumber) ga_nil))))))) nd_law_told)) (gss_cons (gs_frz (i := 2) (pn_set 2 (gl_add (gb_var 2) (gb_of (ge_frz (gl_lst (ga_cons (ge_isX 1 (v := .ref (C 11)) (cv := .ref (C 11)) [(1, false)] hz hf suiteC_z T.b_isinstance (fun _ h => h) (pe_glob rfl T.gc_Underway rfl) T.is_Underway) (ga_cons (ge_isX 1 (v := .ref (C 10)) (cv := .ref (C 10)) [(1, false)] hz hf suiteC_z T.b_isinstance (fun _ h => h) (pe_glob rfl T.gc_Full rfl) T.is_Full) (ga_cons (ge_isX 1 (v := .ref (C 9)) (cv := .ref (C 9)) [(1, false)] hz hf suiteC_z T.b_isinstance (fun _ h => h) (pe_glob rfl T.gc_BadChange rfl) T.is_BadChange) ga_nil))))))) nd_law_told)) (gss_cons (gs_frz (i := 2) (pn_set 2 (gl_add (gb_var 2) (gb_of (ge_frz (gl_lst (ga_cons (ge_isX 1 (v := .ref (C 14)) (cv := .ref (C 14)) [(1, false)] hz hf suiteC_z T.b_isinstance (fun _ h => h) (pe_glob rfl T.gc_Unmet rfl) T.is_Unmet) (ga_cons (ge_isX 1 (v := .ref (C 13)) (cv := .ref (C 13)) [(1, false)] hz hf suiteC_z T.b_isinstance (fun _ h => h) (pe_glob rfl T.gc_NoChange rfl) T.is_NoChange) (ga_cons (ge_isX 1 (v := .ref (C 12)) (cv := .ref (C 12)) [(1, false)] hz hf suiteC_z T.b_isinstance (fun _ h => h) (pe_glob rfl T.gc_NoCell rfl) T.is_NoCell) ga_nil))))))) nd_law_told)) (gss_cons (gs_frz (i := 2) (pn_set 2 (gl_add (gb_var 2) (gb_of (ge_frz (gl_lst (ga_cons (ge_isX 1 (v := .ref (C 1)) (cv := .ref (C 1)) [(1, true)] hz hf suiteC_z T.b_isinstance (fun _ h => h) (pe_glob rfl T.gc_BadBook rfl) T.is_BadBook) (ga_cons (ge_isX 1 (v := .ref (C 15)) (cv := .ref (C 15)) [(1, false)] hz hf suiteC_z T.b_isinstance (fun _ h => h) (pe_glob rfl T.gc_BadText rfl) T.is_BadText) ga_nil)))))) nd_law_told)) (gss_cons (gs_if (gt_w (gw_or (gt_cmp (op_neA hu) simNe rfl (gb_of (ge_cnt hu5 (gb_var 2) ge_bl)) (gb_of ge_int)) (gw_or1 (gt_not (gt_val (ge_isX 1 (v := .ty "ValueError") (cv := .type "ValueError") [(1, true)] hz hf suiteC_z T.b_isinstance (fun _ h => h) (pe_bltn rfl T.b_ValueError (by decide +kernel) rfl) T.is_ValueError)))))) (gss_one (gs_ret (ge_tup (ga_cons (ge_str [114, 101, 102, 117, 115, 101, 100]) (ga_cons (ge_str [111, 116, 104, 101, 114]) ga_nil))))) gss_nil) (gss_cons (gs_frz (i := 3) (pn_set 3 (gl_lst (ga_cons (ge_str [109, 105, 108, 108]) (ga_cons (ge_str [116, 101, 120, 116, 115]) (ga_cons (ge_str [114, 111, 111, 109]) (ga_cons (ge_str [104, 97, 110, 100]) (ga_cons (ge_str [119, 105, 116, 104, 105, 110]) (ga_cons (ge_str [100, 101, 101, 100]) (ga_cons (ge_str [110, 117, 109, 98, 101, 114]) (ga_cons (ge_str [117, 110, 100, 101, 114, 119, 97, 121]) (ga_cons (ge_str [102, 117, 108, 108]) (ga_cons (ge_str [99, 104, 97, 110, 103, 101]) (ga_cons (ge_str [117, 110, 109, 101, 116]) ga_nil)))))))))))) nd_law_told)) (gss_cons (gs_set 4 (ge_ix (gb_of (ge_frz (gl_add (gb_var 3) (gb_of (ge_frz (gl_lst (ga_cons (ge_str [110, 111, 99, 104, 97, 110, 103, 101]) (ga_cons (ge_str [99, 101, 108, 108]) (ga_cons (ge_str [98, 111, 111, 107]) (ga_cons (ge_str [116, 101, 120, 116]) ga_nil)))))))))) (gb_of (ge_idx hu5 (gb_var 2) ge_bl))) nd_law_told) (gss_cons (gs_if (gt_cmp op_inA simIn rfl (gb_var 4) (gb_of (ge_tup (ga_cons (ge_str [109, 105, 108, 108]) (ga_cons (ge_str [99, 104, 97, 110, 103, 101]) ga_nil))))) (gss_one (gs_ret (ge_tup (ga_cons (ge_str [114, 101, 102, 117, 115, 101, 100]) (ga_cons (ge_var 4) (ga_cons (ge_xf 1 "word" [] rfl hz hf suiteC_z T.xf_word) ga_nil)))))) gss_nil) (gss_cons (gs_if (gt_cmp (op_eqA hu) simEq rfl (gb_var 4) (gb_of (ge_str [116, 101, 120, 116, 115]))) (gss_one (gs_ret (ge_tup (ga_cons (ge_str [114, 101, 102, 117, 115, 101, 100]) (ga_cons (ge_var 4) (ga_cons (ge_xf 1 "deed" [] rfl hz hf suiteC_z T.xf_deed) (ga_cons (ge_xf 1 "row" [] rfl hz hf suiteC_z T.xf_row) ga_nil))))))) gss_nil) (gss_cons (gs_if (gt_cmp (op_eqA hu) simEq rfl (gb_var 4) (gb_of (ge_str [98, 111, 111, 107]))) (gss_one (gs_ret (ge_tup (ga_cons (ge_str [114, 101, 102, 117, 115, 101, 100]) (ga_cons (ge_var 4) (ga_cons (ge_xf 1 "event" [1] rfl hz hf suiteC_z T.xf_event) ga_nil)))))) gss_nil) (gss_one (gs_ret (ge_if (gt_cmp op_inA simIn rfl (gb_var 4) (gb_of (ge_tup (ga_cons (ge_str [117, 110, 109, 101, 116]) (ga_cons (ge_str [116, 101, 120, 116]) ga_nil))))) (ge_tup (ga_cons (ge_str [114, 101, 102, 117, 115, 101, 100]) (ga_cons (ge_var 4) (ga_cons (ge_xf 1 "row" [] rfl hz hf suiteC_z T.xf_row) ga_nil)))) (ge_tup (ga_cons (ge_str [114, 101, 102, 117, 115, 101, 100]) (ga_cons (ge_var 4) ga_nil)))))))))))))))))
theorem oi_BadBook (T : Tx K w mg base C A) : ∃ fd, FnOk P w K mg base (L2.CX P w) 1 (A 3) fd ["self", "event"] (spI K (C 1) ["event"]) ∧ Binds K fd ["self", "event"] [] := by
  obtain ⟨fd, F⟩ := T.f_BadBook___init__
  exact ⟨fd, init1 F (C8.fnScope_by (by decide +kernel)) rfl T.gc_MillError T.ba_MillError T.xo_BadBook (Or.inl rfl) (Or.inl rfl) (by decide) (by decide) (by decide) (fun _ => rfl), F.bindsN fun _ _ _ _ _ _ us hl => match us, hl with | [_, _], _ => rfl⟩
theorem b_law_dice (T : Tx K w mg base C A)  (cdv : Value) (Ar : Around) (outer : List PySem.Env) (s : Shared) (H : Hp) (Ex : XK) (hr : Room 0 (Ar.deeper (PyProof.Rows.envOfC "_law_dice" (defScope st_law_dice) s.heap.objs.size (A 0) cdv))) :
    GSs (cxOf (L2.CX P w) P w K mg base N_law_dice "_law_dice" (defScope st_law_dice) (A 0) cdv Ar outer s H Ex) C (fun cls d _ H' => Ex cls d H') (defBody st_law_dice) (sSeq (sAsg (eC (.int 0)) (gNm 1)) (sSeq (sFor (iSeq (eVar 0)) (gNm 2) (sAsg (eOp2 opMod (eOp2 opAdd (eOp2 opAdd (eOp2 opMul (eBor 1) (eC (.int 48271))) (eOp2 opMul (eOp2 opMod (eBor 2) (eC (.int 2147483647))) (eC (.int 69621)))) (eC (.int 11))) (eC (.int 2147483647))) (gNm 1))) (sRet (ePlc (lLst (aCons (eVar 0) (aCons (eC (.int 0)) (aCons (eOp2 opMul (eBor 1) (eOp1 opIntOf (eOp2 opGt (eOp1 opLen (eBor 0)) (eC (.int 2))))) (aCons (eC (.int 0)) aNil))))))))) := by
  have tk : Takes (cxOf (L2.CX P w) P w K mg base N_law_dice "_law_dice" (defScope st_law_dice) (A 0) cdv Ar outer s H Ex) (fun cls d _ H' => Ex cls d H') := takes_of rfl rfl rfl rfl
  have ps : PassesOwn (model P w) (cxOf (L2.CX P w) P w K mg base N_law_dice "_law_dice" (defScope st_law_dice) (A 0) cdv Ar outer s H Ex).A (cxOf (L2.CX P w) P w K mg base N_law_dice "_law_dice" (defScope st_law_dice) (A 0) cdv Ar outer s H Ex).env (cxOf (L2.CX P w) P w K mg base N_law_dice "_law_dice" (defScope st_law_dice) (A 0) cdv Ar outer s H Ex).xe := passes_of rfl
  have hu := hr.units
  have hv := hu_of hr
  have hu5 := Room65 hr
  exact (gss_cons (gs_set 1 ge_int nd_law_dice) (gss_cons (gs_for ps rfl (gi_seq (ge_var 0)) (gg_name 2 nd_law_dice) (gss_one (gs_set 1 (ge_bin op_mod simMod (gb_of (ge_bin op_addA simAdd (gb_of (ge_bin op_addA simAdd (gb_of (ge_bin op_mul simMul (gb_var 1) (gb_of ge_int))) (gb_of (ge_bin op_mul simMul (gb_of (ge_bin op_mod simMod (gb_var 2) (gb_of ge_int))) (gb_of ge_int))))) (gb_of ge_int))) (gb_of ge_int)) nd_law_dice))) (gss_one (gs_ret (ge_plc (gl_lst (ga_cons (ge_var 0) (ga_cons ge_int (ga_cons (ge_bin op_mul simMul (gb_var 1) (gb_of (ge_ty1 call_intA simInt T.b_int (gb_of (ge_cmp op_gt (simCmp _) rfl (gb_of (ge_fun1 call_lenA simLen T.b_len (gb_var 0))) (gb_of ge_int)))))) (ga_cons ge_int ga_nil))))))))))
theorem c_law_dice (T : Tx K w mg base C A) : Cal P w K mg base C 1 (A 0) f_law_dice := by
  obtain ⟨fd, F⟩ := T.f_law_dice
  exact cal_of (fn_calD (ps := ["_law_script"]) (N := N_law_dice) F  (C8.fnScope_by (by decide +kernel)) (by decide) fun cdv Ar outer s H Ex hr => b_law_dice T cdv Ar outer s H Ex hr) (F.bindsN fun _ _ _ _ _ _ us hl => match us, hl with | [_], _ => rfl)
theorem b_law_next (T : Tx K w mg base C A)  (cdv : Value) (Ar : Around) (outer : List PySem.Env) (s : Shared) (H : Hp) (Ex : XK) (hr : Room 0 (Ar.deeper (PyProof.Rows.envOfC "_law_next" (defScope st_law_next) s.heap.objs.size (A 1) cdv))) :
    GSs (cxOf (L2.CX P w) P w K mg base N_law_next "_law_next" (defScope st_law_next) (A 1) cdv Ar outer s H Ex) C (fun cls d _ H' => Ex cls d H') (defBody st_law_next) (sSeq (sIf (tVal (eOp2 opGt (eOp2 opIx (eBor 0) (eC (.int 3))) (eC (.int 0)))) (sSeq (sAsg (eOp2 opMod (eOp2 opIx (eBor 0) (eC (.int 3))) (eBor 1)) (gNm 2)) (sSeq (sSet (eVar 0) (eC (.int 3)) (eOp2 opDiv (eOp2 opIx (eBor 0) (eC (.int 3))) (eBor 1))) (sRet (eVar 2)))) sNext) (sSeq (sSet (eVar 0) (eC (.int 1)) (eOp2 opAdd (eOp2 opIx (eBor 0) (eC (.int 1))) (eC (.int 1)))) (sSeq (sIf (tVal (eOp2 opLe (eOp2 opIx (eBor 0) (eC (.int 1))) (eOp1 opLen (eOp2 opIx (eBor 0) (eC (.int 0)))))) (sSeq (sAsg (eOp2 opIx (eOp2 opIx (eBor 0) (eC (.int 0))) (eOp2 opSub (eOp2 opIx (eBor 0) (eC (.int 1))) (eC (.int 1)))) (gNm 3)) (sSeq (sSet (eVar 0) (eC (.int 3)) (eIf (tVal (eOp2 opGe (eBor 3) (eOp2 opPow (eC (.int 10)) (eC (.int 18))))) (eOp2 opDiv (eBor 3) (eBor 1)) (eC (.int 0)))) (sRet (eOp2 opMod (eBor 3) (eBor 1))))) sNext) (sSeq (sSet (eVar 0) (eC (.int 2)) (eOp2 opMod (eOp2 opMul (eOp2 opIx (eBor 0) (eC (.int 2))) (eC (.int 48271))) (eC (.int 2147483647)))) (sRet (eOp2 opMod (eOp2 opDiv (eOp2 opIx (eBor 0) (eC (.int 2))) (eC (.int 7))) (eBor 1))))))) := by
  have tk : Takes (cxOf (L2.CX P w) P w K mg base N_law_next "_law_next" (defScope st_law_next) (A 1) cdv Ar outer s H Ex) (fun cls d _ H' => Ex cls d H') := takes_of rfl rfl rfl rfl
  have ps : PassesOwn (model P w) (cxOf (L2.CX P w) P w K mg base N_law_next "_law_next" (defScope st_law_next) (A 1) cdv Ar outer s H Ex).A (cxOf (L2.CX P w) P w K mg base N_law_next "_law_next" (defScope st_law_next) (A 1) cdv Ar outer s H Ex).env (cxOf (L2.CX P w) P w K mg base N_law_next "_law_next" (defScope st_law_next) (A 1) cdv Ar outer s H Ex).xe := passes_of rfl
  have hu := hr.units
  have hv := hu_of hr
  have hu5 := Room65 hr
  exact (gss_cons (gs_if (gt_cmp op_gt (simCmp _) rfl (gb_of (ge_ix (gb_var 0) (gb_of ge_int))) (gb_of ge_int)) (gss_cons (gs_set 2 (ge_bin op_mod simMod (gb_of (ge_ix (gb_var 0) (gb_of ge_int))) (gb_var 1)) nd_law_next) (gss_cons (gs_sub (ge_var 0) ge_int (ge_bin op_fdiv simDiv (gb_of (ge_ix (gb_var 0) (gb_of ge_int))) (gb_var 1))) (gss_one (gs_ret (ge_var 2))))) gss_nil) (gss_cons (gs_sub (ge_var 0) ge_int (ge_bin op_addA simAdd (gb_of (ge_ix (gb_var 0) (gb_of ge_int))) (gb_of ge_int))) (gss_cons (gs_if (gt_cmp op_le (simCmp _) rfl (gb_of (ge_ix (gb_var 0) (gb_of ge_int))) (gb_of (ge_fun1 call_lenA simLen T.b_len (gb_of (ge_ix (gb_var 0) (gb_of ge_int)))))) (gss_cons (gs_set 3 (ge_ix (gb_of (ge_ix (gb_var 0) (gb_of ge_int))) (gb_of (ge_bin op_sub simSub (gb_of (ge_ix (gb_var 0) (gb_of ge_int))) (gb_of ge_int)))) nd_law_next) (gss_cons (gs_sub (ge_var 0) ge_int (ge_if (gt_cmp op_ge (simCmp _) rfl (gb_var 3) (gb_of (ge_bin op_pow simPow (gb_of ge_int) (gb_of ge_int)))) (ge_bin op_fdiv simDiv (gb_var 3) (gb_var 1)) ge_int)) (gss_one (gs_ret (ge_bin op_mod simMod (gb_var 3) (gb_var 1)))))) gss_nil) (gss_cons (gs_sub (ge_var 0) ge_int (ge_bin op_mod simMod (gb_of (ge_bin op_mul simMul (gb_of (ge_ix (gb_var 0) (gb_of ge_int))) (gb_of ge_int))) (gb_of ge_int))) (gss_one (gs_ret (ge_bin op_mod simMod (gb_of (ge_bin op_fdiv simDiv (gb_of (ge_ix (gb_var 0) (gb_of ge_int))) (gb_of ge_int))) (gb_var 1))))))))
theorem c_law_next (T : Tx K w mg base C A) : Cal P w K mg base C 1 (A 1) f_law_next := by
  obtain ⟨fd, F⟩ := T.f_law_next
  exact cal_of (fn_calD (ps := ["_law_dice_here", "_law_many"]) (N := N_law_next) F  (C8.fnScope_by (by decide +kernel)) (by decide) fun cdv Ar outer s H Ex hr => b_law_next T cdv Ar outer s H Ex hr) (F.bindsN fun _ _ _ _ _ _ us hl => match us, hl with | [_, _], _ => rfl)
theorem b_Reading___init__ (T : Tx K w mg base C A)  (cdv : Value) (Ar : Around) (outer : List PySem.Env) (s : Shared) (H : Hp) (Ex : XK) (hr : Room 0 (Ar.deeper (PyProof.Rows.envOfC "Reading.__init__" (defScope st_Reading___init__) s.heap.objs.size (A 2) cdv))) :
    GSs (cxOf (L2.CX P w) P w K mg base N_Reading___init__ "Reading.__init__" (defScope st_Reading___init__) (A 2) cdv Ar outer s H Ex) C (fun cls d _ H' => Ex cls d H') (defBody st_Reading___init__) (sSeq (MP.sFld 16 (eVar 0) (eVar 1) "sets") (sSeq (MP.sFld 16 (eVar 0) eDic0 "now") (MP.sFld 16 (eVar 0) eDic0 "piles"))) := by
  have tk : Takes (cxOf (L2.CX P w) P w K mg base N_Reading___init__ "Reading.__init__" (defScope st_Reading___init__) (A 2) cdv Ar outer s H Ex) (fun cls d _ H' => Ex cls d H') := takes_of rfl rfl rfl rfl
  have ps : PassesOwn (model P w) (cxOf (L2.CX P w) P w K mg base N_Reading___init__ "Reading.__init__" (defScope st_Reading___init__) (A 2) cdv Ar outer s H Ex).A (cxOf (L2.CX P w) P w K mg base N_Reading___init__ "Reading.__init__" (defScope st_Reading___init__) (A 2) cdv Ar outer s H Ex).env (cxOf (L2.CX P w) P w K mg base N_Reading___init__ "Reading.__init__" (defScope st_Reading___init__) (A 2) cdv Ar outer s H Ex).xe := passes_of rfl
  have hu := hr.units
  have hv := hu_of hr
  have hu5 := Room65 hr
  exact (gss_cons (MP.gs_fld (cn := 16) (nm := "sets") (ge_var 0) (ge_var 1) T.cl_Reading T.na_Reading_sets) (gss_cons (MP.gs_fld (cn := 16) (nm := "now") (ge_var 0) ge_dic0 T.cl_Reading T.na_Reading_now) (gss_one (MP.gs_fld (cn := 16) (nm := "piles") (ge_var 0) ge_dic0 T.cl_Reading T.na_Reading_piles))))
theorem c_Reading___init__ (T : Tx K w mg base C A) : Cal P w K mg base C 1 (A 2) f_Reading___init__ := by
  obtain ⟨fd, F⟩ := T.f_Reading___init__
  exact cal_of (fn_calD (ps := ["self", "sets"]) (N := N_Reading___init__) F  (C8.fnScope_by (by decide +kernel)) (by decide) fun cdv Ar outer s H Ex hr => b_Reading___init__ T cdv Ar outer s H Ex hr) (F.bindsN fun _ _ _ _ _ _ us hl => match us, hl with | [_, _], _ => rfl)
theorem b_side (T : Tx K w mg base C A)  (cdv : Value) (Ar : Around) (outer : List PySem.Env) (s : Shared) (H : Hp) (Ex : XK) (hr : Room 0 (Ar.deeper (PyProof.Rows.envOfC "side" (defScope st_side) s.heap.objs.size (A 4) cdv))) :
    GSs (cxOf (L2.CX P w) P w K mg base N_side "side" (defScope st_side) (A 4) cdv Ar outer s H Ex) C (fun cls d _ H' => Ex cls d H') (defBody st_side) (sRet (eAnd (eOp1 opNotN (eVar 0)) (eOp2 opGe (eBor 0) (eBor 1)))) := by
  have tk : Takes (cxOf (L2.CX P w) P w K mg base N_side "side" (defScope st_side) (A 4) cdv Ar outer s H Ex) (fun cls d _ H' => Ex cls d H') := takes_of rfl rfl rfl rfl
  have ps : PassesOwn (model P w) (cxOf (L2.CX P w) P w K mg base N_side "side" (defScope st_side) (A 4) cdv Ar outer s H Ex).A (cxOf (L2.CX P w) P w K mg base N_side "side" (defScope st_side) (A 4) cdv Ar outer s H Ex).env (cxOf (L2.CX P w) P w K mg base N_side "side" (defScope st_side) (A 4) cdv Ar outer s H Ex).xe := passes_of rfl
  have hu := hr.units
  have hv := hu_of hr
  have hu5 := Room65 hr
  exact (gss_one (gs_ret (ge_and (ge_notN (ge_var 0)) (ge_one (ge_cmp op_ge (simCmp _) rfl (gb_var 0) (gb_var 1))))))
theorem c_side (T : Tx K w mg base C A) : Cal P w K mg base C 1 (A 4) f_side := by
  obtain ⟨fd, F⟩ := T.f_side
  exact cal_of (fn_calD (ps := ["change", "number"]) (N := N_side) F  (C8.fnScope_by (by decide +kernel)) (by decide) fun cdv Ar outer s H Ex hr => b_side T cdv Ar outer s H Ex hr) (F.bindsN fun _ _ _ _ _ _ us hl => match us, hl with | [_, _], _ => rfl)
theorem b_mixing (T : Tx K w mg base C A)  (cdv : Value) (Ar : Around) (outer : List PySem.Env) (s : Shared) (H : Hp) (Ex : XK) (hr : Room 1 (Ar.deeper (PyProof.Rows.envOfC "mixing" (defScope st_mixing) s.heap.objs.size (A 5) cdv))) :
    GSs (cxOf (L2.CX P w) P w K mg base N_mixing "mixing" (defScope st_mixing) (A 5) cdv Ar outer s H Ex) C (fun cls d _ H' => Ex cls d H') (defBody st_mixing) (sSeq (sStP (eVar 0) (gSt [] [(gNm 3)] 2)) (sSeq (sAsg (eVar 3) (gTp [(gNm 4), (gNm 5)])) (sSeq (sOwn (lLst aNil) 6) (sSeq (sFor (iSeq (eFrz (lSrtD (eVar 1)))) (gNm 7) (sSeq (sAsg (eFrz (lLc (iSeq (eVar 2)) (gNm 9) (tAnd (tVal (eOp2 opIn (eOp2 opIx (eBor 9) (eC (.int 0))) (eOp2 opDGet (eVar 1) (eVar 7)))) (tVal (eOp2 opIn (eBor 4) (eOp2 opDGet (eVar 1) (eVar 7))))) (eVar 9) [9])) (gNm 8)) (sIf (tVal (eOp2 opNe (eFrz (lLc (iSeq (eVar 8)) (gNm 9) (tVal (eOp2 opNe (eCall f_side (aCons (eOp2 opIx (eBor 9) (eC (.int 1))) (aCons (eVar 7) aNil))) (eCall f_side (aCons (eVar 5) (aCons (eVar 7) aNil))))) (eVar 9) [9])) (eFrz (lLst aNil)))) (sApp 6 (eVar 7)) sNext))) (sRet (eIf (tVal (eOp2 opNe (eBor 6) (eFrz (lLst aNil)))) (eOp2 opIx (eBor 6) (eC (.int 0))) (eC .non))))))) := by
  have tk : Takes (cxOf (L2.CX P w) P w K mg base N_mixing "mixing" (defScope st_mixing) (A 5) cdv Ar outer s H Ex) (fun cls d _ H' => Ex cls d H') := takes_of rfl rfl rfl rfl
  have ps : PassesOwn (model P w) (cxOf (L2.CX P w) P w K mg base N_mixing "mixing" (defScope st_mixing) (A 5) cdv Ar outer s H Ex).A (cxOf (L2.CX P w) P w K mg base N_mixing "mixing" (defScope st_mixing) (A 5) cdv Ar outer s H Ex).env (cxOf (L2.CX P w) P w K mg base N_mixing "mixing" (defScope st_mixing) (A 5) cdv Ar outer s H Ex).xe := passes_of rfl
  have hu := hr.units
  have hv := hu_of hr
  have hu5 := Room65 hr
  exact (gss_cons (gs_stP (ge_var 0) (gg_starP (gs := []) (hs := [(gNm 3)]) (j := 2) rfl (ggs_star (gg_name 2 nd_mixing) (ggs_cons (gg_name 3 nd_mixing) ggs_nil)))) (gss_cons (gs_asg (ge_var 3) (gg_tup rfl (ggs_cons (gg_name 4 nd_mixing) (ggs_cons (gg_name 5 nd_mixing) ggs_nil)))) (gss_cons (gs_own (i := 6) (pn_set 6 (gl_lst ga_nil) nd_mixing)) (gss_cons (gs_for ps rfl (gi_seq (ge_frz (gl_srtD rfl T.b_sorted (ge_var 1)))) (gg_name 7 nd_mixing) (gss_cons (gs_frz (i := 8) (by refine pn_lc (own := [("one", 9)]) (gvs := [9]) ?_ ?_ ?_ ?_ (fun s H Ca cl fp => ?_) (fun s H Ca cl fp => ?_) (fun s H Ca cl fp => ?_); (exact rfl); (exact nd_mixing); (exact (gi_seq (ge_var 2))); (exact (blkOk_by (N := N_mixing) (sc := defScope st_mixing) (own := [("one", 9)]) (by decide +kernel))); (exact (gg_name 9 nd_mixing)); (exact (gts_one (gt_w (gw_and (gt_cmp op_inA simIn rfl (gb_of (ge_ix (gb_var 9) (gb_of ge_int))) (gb_of (ge_dget hv (ge_var 1) (ge_var 7)))) (gw_and1 (gt_cmp op_inA simIn rfl (gb_var 4) (gb_of (ge_dget hv (ge_var 1) (ge_var 7))))))))); (exact (ge_var 9)))) (gss_one (gs_if (gt_cmp (op_neA hu) simNe rfl (gb_of (ge_frz (by refine gl_lc (own := [("one", 9)]) (gvs := [9]) ?_ ?_ ?_ ?_ (fun s H Ca cl fp => ?_) (fun s H Ca cl fp => ?_) (fun s H Ca cl fp => ?_); (exact rfl); (exact nd_mixing); (exact (gi_seq (ge_var 8))); (exact (blkOk_by (N := N_mixing) (sc := defScope st_mixing) (own := [("one", 9)]) (by decide +kernel))); (exact (gg_name 9 nd_mixing)); (exact (gts_one (gt_cmp (op_neA hu) simNe rfl (gb_of (ge_call (c_side T) (hr.mono (by omega)) takes0 T.g_side T.k_side (ga_cons (ge_ix (gb_var 9) (gb_of ge_int)) (ga_cons (ge_var 7) ga_nil)))) (gb_of (ge_call (c_side T) (hr.mono (by omega)) takes0 T.g_side T.k_side (ga_cons (ge_var 5) (ga_cons (ge_var 7) ga_nil))))))); (exact (ge_var 9))))) (gb_of (ge_frz (gl_lst ga_nil)))) (gss_one (gs_app 6 (ge_var 7))) gss_nil)))) (gss_one (gs_ret (ge_if (gt_cmp (op_neA hu) simNe rfl (gb_var 6) (gb_of (ge_frz (gl_lst ga_nil)))) (ge_ix (gb_var 6) (gb_of ge_int)) ge_non)))))))
theorem c_mixing (T : Tx K w mg base C A) : Cal P w K mg base C 2 (A 5) f_mixing := by
  obtain ⟨fd, F⟩ := T.f_mixing
  exact cal_of (fn_calD (ps := ["pile", "sets"]) (N := N_mixing) F  (C8.fnScope_by (by decide +kernel)) (by decide) fun cdv Ar outer s H Ex hr => b_mixing T cdv Ar outer s H Ex hr) (F.bindsN fun _ _ _ _ _ _ us hl => match us, hl with | [_, _], _ => rfl)
theorem b_Reading_reads (T : Tx K w mg base C A)  (cdv : Value) (Ar : Around) (outer : List PySem.Env) (s : Shared) (H : Hp) (Ex : XK) (hr : Room 2 (Ar.deeper (PyProof.Rows.envOfC "Reading.reads" (defScope st_Reading_reads) s.heap.objs.size (A 6) cdv))) :
    GSs (cxOf (L2.CX P w) P w K mg base N_Reading_reads "Reading.reads" (defScope st_Reading_reads) (A 6) cdv Ar outer s H Ex) C (fun cls d _ H' => Ex cls d H') (defBody st_Reading_reads) (sSeq (sIf (tAnd (tVal (eOp2 opEq (eBor 2) (eC (.str [98, 101, 103, 105, 110])))) (tVal (eOp2 opDIn (eOp2 opIx (eBor 3) (eC (.int 0))) (eFld 16 (eVar 0) "sets")))) (sSetD (eFld 16 (eVar 0) "now") (eOp2 opIx (eBor 3) (eC (.int 0))) (eOp2 opDGet (eFld 16 (eVar 0) "sets") (eOp2 opIx (eBor 3) (eC (.int 0))))) sNext) (sSeq (sIf (tVal (eOp2 opEq (eBor 2) (eC (.str [103, 111, 110, 101])))) (sDrop (eDPop (eFld 16 (eVar 0) "now") (eOp2 opIx (eBor 3) (eC (.int 0))) (eC .non))) sNext) (sSeq (sIf (tVal (eOp2 opNotIn (eBor 2) (eTup (aCons (eC (.str [105, 110])) (aCons (eC (.str [111, 117, 116])) aNil))))) (sRet (eC .non)) sNext) (sSeq (sAsg (eVar 3) (gSt [(gNm 4)] [] 5)) (sSeq (sAsg (eDSetd (eFld 16 (eVar 0) "piles") (eVar 4) (ePlc (lLst aNil))) (gNm 6)) (sSeq (sIf (tVal (eOp2 opEq (eBor 2) (eC (.str [111, 117, 116])))) (sSeq (sIf (tOr (tVal (eOp2 opEq (eBor 6) (eFrz (lLst aNil)))) (tVal (eOp2 opNe (eOp2 opIx (eBor 6) (eOp1 opNeg (eC (.int 1)))) (eOp1 opTuple (eBor 5))))) (sRs 1 ["event"] (aCons (eVar 1) aNil)) sNext) (sSeq (sDrop (ePopL (eVar 6))) (sRet (eC .non)))) sNext) (sSeq (sIf (tVal (eOp2 opEq (eOp1 opLen (eBor 6)) (eC d_MOST_PILE))) (sRs 1 ["event"] (aCons (eVar 1) aNil)) sNext) (sSeq (sDrop (eAppL (eVar 6) (eOp1 opTuple (eBor 5)))) (sRet (eCall f_mixing (aCons (eVar 6) (aCons (eFld 16 (eVar 0) "now") aNil)))))))))))) := by
  have tk : Takes (cxOf (L2.CX P w) P w K mg base N_Reading_reads "Reading.reads" (defScope st_Reading_reads) (A 6) cdv Ar outer s H Ex) (fun cls d _ H' => Ex cls d H') := takes_of rfl rfl rfl rfl
  have ps : PassesOwn (model P w) (cxOf (L2.CX P w) P w K mg base N_Reading_reads "Reading.reads" (defScope st_Reading_reads) (A 6) cdv Ar outer s H Ex).A (cxOf (L2.CX P w) P w K mg base N_Reading_reads "Reading.reads" (defScope st_Reading_reads) (A 6) cdv Ar outer s H Ex).env (cxOf (L2.CX P w) P w K mg base N_Reading_reads "Reading.reads" (defScope st_Reading_reads) (A 6) cdv Ar outer s H Ex).xe := passes_of rfl
  have hu := hr.units
  have hv := hu_of hr
  have hu5 := Room65 hr
  have q_MOST_PILE := T.q_MOST_PILE
  obtain ⟨_, oi_BadBook, bi_BadBook⟩ := oi_BadBook (P := P) T
  exact (gss_cons (gs_if (gt_w (gw_and (gt_cmp (op_eqA hu) simEq rfl (gb_var 2) (gb_of (ge_str [98, 101, 103, 105, 110]))) (gw_and1 (gt_din hv (ge_ix (gb_var 3) (gb_of ge_int)) (ge_fld (c := 16) (nm := "sets") (ge_var 0) T.cl_Reading T.na_Reading_sets))))) (gss_one (gs_subD hv (ge_fld (c := 16) (nm := "now") (ge_var 0) T.cl_Reading T.na_Reading_now) (ge_ix (gb_var 3) (gb_of ge_int)) (ge_dget hv (ge_fld (c := 16) (nm := "sets") (ge_var 0) T.cl_Reading T.na_Reading_sets) (ge_ix (gb_var 3) (gb_of ge_int))))) gss_nil) (gss_cons (gs_if (gt_cmp (op_eqA hu) simEq rfl (gb_var 2) (gb_of (ge_str [103, 111, 110, 101]))) (gss_one (gs_expr (ge_dpop (ge_fld (c := 16) (nm := "now") (ge_var 0) T.cl_Reading T.na_Reading_now) (ge_ix (gb_var 3) (gb_of ge_int)) ge_non))) gss_nil) (gss_cons (gs_if (gt_cmp op_notInA simNotIn rfl (gb_var 2) (gb_of (ge_tup (ga_cons (ge_str [105, 110]) (ga_cons (ge_str [111, 117, 116]) ga_nil))))) (gss_one (gs_ret ge_non)) gss_nil) (gss_cons (gs_asg (ge_var 3) (gg_star (gs := [(gNm 4)]) (hs := []) (j := 5) rfl (ggs_cons (gg_name 4 nd_Reading_reads) (ggs_star (gg_name 5 nd_Reading_reads) ggs_nil)))) (gss_cons (gs_set 6 (ge_dsetd (ge_fld (c := 16) (nm := "piles") (ge_var 0) T.cl_Reading T.na_Reading_piles) (ge_var 4) (ge_plc (gl_lst ga_nil))) nd_Reading_reads) (gss_cons (gs_if (gt_cmp (op_eqA hu) simEq rfl (gb_var 2) (gb_of (ge_str [111, 117, 116]))) (gss_cons (gs_if (gt_w (gw_or (gt_cmp (op_eqA hu) simEq rfl (gb_var 6) (gb_of (ge_frz (gl_lst ga_nil)))) (gw_or1 (gt_cmp (op_neA hu) simNe rfl (gb_of (ge_ix (gb_var 6) (gb_of (ge_neg ge_int)))) (gb_of (ge_ty1 call_tuple_of simTuple T.b_tuple (gb_var 5))))))) (gss_one (gs_rs 1 "event" [] T.xo_BadBook T.ii_BadBook.1 T.ii_BadBook.2 oi_BadBook (hr.mono (by omega)) bi_BadBook (by decide) T.gc_BadBook rfl tk (ga_cons (ge_var 1) ga_nil))) gss_nil) (gss_cons (gs_expr (ge_popL (ge_var 6))) (gss_one (gs_ret ge_non)))) gss_nil) (gss_cons (gs_if (gt_cmp (op_eqA hu) simEq rfl (gb_of (ge_fun1 call_lenA simLen T.b_len (gb_var 6))) (gb_of (ge_kglob 6 d_MOST_PILE q_MOST_PILE.choose_spec.1 q_MOST_PILE.choose_spec.2))) (gss_one (gs_rs 1 "event" [] T.xo_BadBook T.ii_BadBook.1 T.ii_BadBook.2 oi_BadBook (hr.mono (by omega)) bi_BadBook (by decide) T.gc_BadBook rfl tk (ga_cons (ge_var 1) ga_nil))) gss_nil) (gss_cons (gs_expr (ge_appL (ge_var 6) (ge_ty1 call_tuple_of simTuple T.b_tuple (gb_var 5)))) (gss_one (gs_ret (ge_call (c_mixing T) (hr.mono (by omega)) tk T.g_mixing T.k_mixing (ga_cons (ge_var 6) (ga_cons (ge_fld (c := 16) (nm := "now") (ge_var 0) T.cl_Reading T.na_Reading_now) ga_nil)))))))))))))
theorem c_Reading_reads (T : Tx K w mg base C A) : Cal P w K mg base C 3 (A 6) f_Reading_reads := by
  obtain ⟨fd, F⟩ := T.f_Reading_reads
  exact cal_of (fn_calD (ps := ["self", "event", "word", "things"]) (N := N_Reading_reads) F  (C8.fnScope_by (by decide +kernel)) (by decide) fun cdv Ar outer s H Ex hr => b_Reading_reads T cdv Ar outer s H Ex hr) (F.bindsN fun _ _ _ _ _ _ us hl => match us, hl with | [_, _, _, _], _ => rfl)
theorem b_mixture (T : Tx K w mg base C A)  (cdv : Value) (Ar : Around) (outer : List PySem.Env) (s : Shared) (H : Hp) (Ex : XK) (hr : Room 3 (Ar.deeper (PyProof.Rows.envOfC "mixture" (defScope st_mixture) s.heap.objs.size (A 7) cdv))) :
    GSs (cxOf (L2.CX P w) P w K mg base N_mixture "mixture" (defScope st_mixture) (A 7) cdv Ar outer s H Ex) C (fun cls d _ H' => Ex cls d H') (defBody st_mixture) (sSeq (sAsg (eNew 16 f_Reading___init__ (aCons (eVar 1) aNil)) (gNm 2)) (sSeq (sAsg (eC .non) (gNm 3)) (sSeq (sFor (iEnum (eVar 0)) (gTp [(gNm 4), (gSt [(gNm 5)] [] 6)]) (sSeq (sAsg (eMeth 16 "reads" f_Reading_reads (eVar 2) (aCons (eVar 4) (aCons (eVar 5) (aCons (eVar 6) aNil)))) (gNm 7)) (sIf (tAnd (tVal (eOp1 opIsN (eVar 3))) (tVal (eOp1 opNotN (eVar 7)))) (sAsg (eTup (aCons (eVar 4) (aCons (eVar 7) aNil))) (gNm 3)) sNext))) (sRet (eVar 3))))) := by
  have tk : Takes (cxOf (L2.CX P w) P w K mg base N_mixture "mixture" (defScope st_mixture) (A 7) cdv Ar outer s H Ex) (fun cls d _ H' => Ex cls d H') := takes_of rfl rfl rfl rfl
  have ps : PassesOwn (model P w) (cxOf (L2.CX P w) P w K mg base N_mixture "mixture" (defScope st_mixture) (A 7) cdv Ar outer s H Ex).A (cxOf (L2.CX P w) P w K mg base N_mixture "mixture" (defScope st_mixture) (A 7) cdv Ar outer s H Ex).env (cxOf (L2.CX P w) P w K mg base N_mixture "mixture" (defScope st_mixture) (A 7) cdv Ar outer s H Ex).xe := passes_of rfl
  have hu := hr.units
  have hv := hu_of hr
  have hu5 := Room65 hr
  exact (gss_cons (gs_set 2 (ge_new T.mk_Reading (c_Reading___init__ T) (hr.mono (by omega)) tk T.gc_Reading (ga_cons (ge_var 1) ga_nil)) nd_mixture) (gss_cons (gs_set 3 ge_non nd_mixture) (gss_cons (gs_for ps rfl (gi_enum T.b_enumerate (ge_var 0)) (gg_tup rfl (ggs_cons (gg_name 4 nd_mixture) (ggs_cons (gg_star (gs := [(gNm 5)]) (hs := []) (j := 6) rfl (ggs_cons (gg_name 5 nd_mixture) (ggs_star (gg_name 6 nd_mixture) ggs_nil))) ggs_nil))) (gss_cons (gs_set 7 (ge_meth (c := 16) (nm := "reads") (ge_var 2) T.cl_Reading T.me_Reading_reads (c_Reading_reads T) (hr.mono (by omega)) tk (ga_cons (ge_var 4) (ga_cons (ge_var 5) (ga_cons (ge_var 6) ga_nil)))) nd_mixture) (gss_one (gs_if (gt_w (gw_and (gt_isN (ge_var 3)) (gw_and1 (gt_notN (ge_var 7))))) (gss_one (gs_set 3 (ge_tup (ga_cons (ge_var 4) (ga_cons (ge_var 7) ga_nil))) nd_mixture)) gss_nil)))) (gss_one (gs_ret (ge_var 3))))))
theorem c_mixture (T : Tx K w mg base C A) : Cal P w K mg base C 4 (A 7) f_mixture := by
  obtain ⟨fd, F⟩ := T.f_mixture
  exact cal_of (fn_calD (ps := ["book", "sets"]) (N := N_mixture) F  (C8.fnScope_by (by decide +kernel)) (by decide) fun cdv Ar outer s H Ex hr => b_mixture T cdv Ar outer s H Ex hr) (F.bindsN fun _ _ _ _ _ _ us hl => match us, hl with | [_, _], _ => rfl)
theorem b_law_like (T : Tx K w mg base C A) {n : Nat} (ih_law_like : Cal P w K mg base C (1 + n) (A 8) (f_law_like n)) (cdv : Value) (Ar : Around) (outer : List PySem.Env) (s : Shared) (H : Hp) (Ex : XK) (hr : Room (1 + n) (Ar.deeper (PyProof.Rows.envOfC "_law_like" (defScope st_law_like) s.heap.objs.size (A 8) cdv))) :
    GSs (cxOf (L2.CX P w) P w K mg base N_law_like "_law_like" (defScope st_law_like) (A 8) cdv Ar outer s H Ex) C (fun cls d _ H' => Ex cls d H') (defBody st_law_like) (sSeq (sIf (tOr (tVal (eOp1 (opKind .tuple) (eVar 1))) (tVal (eOp1 (opKind .list) (eVar 1)))) (sSeq (sIf (tVal (eOp2 opNe (eOp1 (opKind .tuple) (eVar 0)) (eOp1 (opKind .tuple) (eVar 1)))) (sRet (eC (.bl false))) sNext) (sSeq (sIf (tOr (tVal (eOp2 opNe (eOp1 (opKind .list) (eVar 0)) (eOp1 (opKind .list) (eVar 1)))) (tVal (eOp2 opNe (eOp1 opLen (eBor 0)) (eOp1 opLen (eBor 1))))) (sRet (eC (.bl false))) sNext) (sRet (eOp2 opEq (eFrz (lLc (iRng (eOp1 opLen (eBor 1))) (gNm 2) (tNot (tVal (eCall (f_law_like n) (aCons (eOp2 opIx (eBor 0) (eBor 2)) (aCons (eOp2 opIx (eBor 1) (eBor 2)) aNil))))) (eVar 2) [2])) (eFrz (lLst aNil)))))) sNext) (sSeq (sIf (tVal (eOp2 opNe (eOp1 (opKind .bool) (eVar 0)) (eOp1 (opKind .bool) (eVar 1)))) (sRet (eC (.bl false))) sNext) (sSeq (sIf (tOr (tVal (eOp2 opNe (eOp1 (opKind .int) (eVar 0)) (eOp1 (opKind .int) (eVar 1)))) (tVal (eOp2 opNe (eOp1 (opKind .str) (eVar 0)) (eOp1 (opKind .str) (eVar 1))))) (sRet (eC (.bl false))) sNext) (sRet (eOp2 opEq (eBor 0) (eBor 1)))))) := by
  have tk : Takes (cxOf (L2.CX P w) P w K mg base N_law_like "_law_like" (defScope st_law_like) (A 8) cdv Ar outer s H Ex) (fun cls d _ H' => Ex cls d H') := takes_of rfl rfl rfl rfl
  have ps : PassesOwn (model P w) (cxOf (L2.CX P w) P w K mg base N_law_like "_law_like" (defScope st_law_like) (A 8) cdv Ar outer s H Ex).A (cxOf (L2.CX P w) P w K mg base N_law_like "_law_like" (defScope st_law_like) (A 8) cdv Ar outer s H Ex).env (cxOf (L2.CX P w) P w K mg base N_law_like "_law_like" (defScope st_law_like) (A 8) cdv Ar outer s H Ex).xe := passes_of rfl
  have hu := hr.units
  have hv := hu_of hr
  have hu5 := Room65 hr
  exact (gss_cons (gs_if (gt_w (gw_or (gt_val (ge_isi .tuple T.b_isinstance T.b_tuple (by decide +kernel) (ge_var 1))) (gw_or1 (gt_val (ge_isi .list T.b_isinstance T.b_list (by decide +kernel) (ge_var 1)))))) (gss_cons (gs_if (gt_cmp (op_neA hu) simNe rfl (gb_of (ge_isi .tuple T.b_isinstance T.b_tuple (by decide +kernel) (ge_var 0))) (gb_of (ge_isi .tuple T.b_isinstance T.b_tuple (by decide +kernel) (ge_var 1)))) (gss_one (gs_ret ge_bl)) gss_nil) (gss_cons (gs_if (gt_w (gw_or (gt_cmp (op_neA hu) simNe rfl (gb_of (ge_isi .list T.b_isinstance T.b_list (by decide +kernel) (ge_var 0))) (gb_of (ge_isi .list T.b_isinstance T.b_list (by decide +kernel) (ge_var 1)))) (gw_or1 (gt_cmp (op_neA hu) simNe rfl (gb_of (ge_fun1 call_lenA simLen T.b_len (gb_var 0))) (gb_of (ge_fun1 call_lenA simLen T.b_len (gb_var 1))))))) (gss_one (gs_ret ge_bl)) gss_nil) (gss_one (gs_ret (ge_cmp (op_eqA hu) simEq rfl (gb_of (ge_frz (by refine gl_lc (own := [("_law_k", 2)]) (gvs := [2]) ?_ ?_ ?_ ?_ (fun s H Ca cl fp => ?_) (fun s H Ca cl fp => ?_) (fun s H Ca cl fp => ?_); (exact rfl); (exact nd_law_like); (exact (gi_range T.b_range (ge_fun1 call_lenA simLen T.b_len (gb_var 1)))); (exact (blkOk_by (N := N_law_like) (sc := defScope st_law_like) (own := [("_law_k", 2)]) (by decide +kernel))); (exact (gg_name 2 nd_law_like)); (exact (gts_one (gt_not (gt_val (ge_call ih_law_like hr takes0 T.g_law_like T.k_law_like (ga_cons (ge_ix (gb_var 0) (gb_var 2)) (ga_cons (ge_ix (gb_var 1) (gb_var 2)) ga_nil))))))); (exact (ge_var 2))))) (gb_of (ge_frz (gl_lst ga_nil)))))))) gss_nil) (gss_cons (gs_if (gt_cmp (op_neA hu) simNe rfl (gb_of (ge_isi .bool T.b_isinstance T.b_bool (by decide +kernel) (ge_var 0))) (gb_of (ge_isi .bool T.b_isinstance T.b_bool (by decide +kernel) (ge_var 1)))) (gss_one (gs_ret ge_bl)) gss_nil) (gss_cons (gs_if (gt_w (gw_or (gt_cmp (op_neA hu) simNe rfl (gb_of (ge_isi .int T.b_isinstance T.b_int (by decide +kernel) (ge_var 0))) (gb_of (ge_isi .int T.b_isinstance T.b_int (by decide +kernel) (ge_var 1)))) (gw_or1 (gt_cmp (op_neA hu) simNe rfl (gb_of (ge_isi .str T.b_isinstance T.b_str (by decide +kernel) (ge_var 0))) (gb_of (ge_isi .str T.b_isinstance T.b_str (by decide +kernel) (ge_var 1))))))) (gss_one (gs_ret ge_bl)) gss_nil) (gss_one (gs_ret (ge_cmp (op_eqA hu) simEq rfl (gb_var 0) (gb_var 1)))))))
theorem r_law_like (T : Tx K w mg base C A) : ∀ n : Nat, Cal P w K mg base C (1 + n) (A 8) (f_law_like n)
  | 0 => (by
      obtain ⟨fd, F⟩ := T.f_law_like
      exact cal_of (fn_calD (ps := ["_law_found", "_law_due"]) (N := N_law_like) F (C8.fnScope_by (by decide +kernel)) (by decide) fun cdv Ar outer s H Ex hr => gss_never) (F.bindsN fun _ _ _ _ _ _ us hl => match us, hl with | [_, _], _ => rfl))
  | n + 1 => by
    have ih := r_law_like T n
    have h8 := ih
    exact (by
      obtain ⟨fd, F⟩ := T.f_law_like
      exact cal_of (fn_calD (ps := ["_law_found", "_law_due"]) (N := N_law_like) F (C8.fnScope_by (by decide +kernel)) (by decide) fun cdv Ar outer s H Ex hr => b_law_like T h8 cdv Ar outer s H Ex hr) (F.bindsN fun _ _ _ _ _ _ us hl => match us, hl with | [_, _], _ => rfl))
theorem c_law_like (T : Tx K w mg base C A) (n : Nat) : Cal P w K mg base C (1 + n) (A 8) (f_law_like n) := (r_law_like T n)
theorem b_law_new (T : Tx K w mg base C A)  (cdv : Value) (Ar : Around) (outer : List PySem.Env) (s : Shared) (H : Hp) (Ex : XK) (hr : Room 0 (Ar.deeper (PyProof.Rows.envOfC "_law_new" (defScope st_law_new) s.heap.objs.size (A 9) cdv))) :
    GSs (cxOf (L2.CX P w) P w K mg base N_law_new "_law_new" (defScope st_law_new) (A 9) cdv Ar outer s H Ex) C (fun cls d _ H' => Ex cls d H') (defBody st_law_new) (sRet (eAnd (eOp1 opNotN (eVar 0)) (eOp2 opGe (eBor 0) (eBor 1)))) := by
  have tk : Takes (cxOf (L2.CX P w) P w K mg base N_law_new "_law_new" (defScope st_law_new) (A 9) cdv Ar outer s H Ex) (fun cls d _ H' => Ex cls d H') := takes_of rfl rfl rfl rfl
  have ps : PassesOwn (model P w) (cxOf (L2.CX P w) P w K mg base N_law_new "_law_new" (defScope st_law_new) (A 9) cdv Ar outer s H Ex).A (cxOf (L2.CX P w) P w K mg base N_law_new "_law_new" (defScope st_law_new) (A 9) cdv Ar outer s H Ex).env (cxOf (L2.CX P w) P w K mg base N_law_new "_law_new" (defScope st_law_new) (A 9) cdv Ar outer s H Ex).xe := passes_of rfl
  have hu := hr.units
  have hv := hu_of hr
  have hu5 := Room65 hr
  exact (gss_one (gs_ret (ge_and (ge_notN (ge_var 0)) (ge_one (ge_cmp op_ge (simCmp _) rfl (gb_var 0) (gb_var 1))))))
theorem c_law_new (T : Tx K w mg base C A) : Cal P w K mg base C 1 (A 9) f_law_new := by
  obtain ⟨fd, F⟩ := T.f_law_new
  exact cal_of (fn_calD (ps := ["_law_change", "_law_number"]) (N := N_law_new) F  (C8.fnScope_by (by decide +kernel)) (by decide) fun cdv Ar outer s H Ex hr => b_law_new T cdv Ar outer s H Ex hr) (F.bindsN fun _ _ _ _ _ _ us hl => match us, hl with | [_, _], _ => rfl)
theorem b_law_reading (T : Tx K w mg base C A)  (cdv : Value) (Ar : Around) (outer : List PySem.Env) (s : Shared) (H : Hp) (Ex : XK) (hr : Room 1 (Ar.deeper (PyProof.Rows.envOfC "_law_reading" (defScope st_law_reading) s.heap.objs.size (A 10) cdv))) :
    GSs (cxOf (L2.CX P w) P w K mg base N_law_reading "_law_reading" (defScope st_law_reading) (A 10) cdv Ar outer s H Ex) C (fun cls d _ H' => Ex cls d H') (defBody st_law_reading) (sSeq (sPar3 2 3 4 (aCons eDic0 (aCons (ePlc (lLst aNil)) (aCons (eC .non) aNil)))) (sSeq (sFor (iRng (eOp1 opLen (eBor 0))) (gNm 5) (sSeq (sAsg (eOp2 opIx (eBor 0) (eBor 5)) (gNm 6)) (sSeq (sIf (tVal (eOp2 opEq (eOp2 opIx (eBor 6) (eC (.int 0))) (eC (.str [98, 101, 103, 105, 110])))) (sDrop (eAppL (eVar 3) (eOp2 opIx (eBor 6) (eC (.int 1))))) sNext) (sSeq (sIf (tVal (eOp2 opEq (eOp2 opIx (eBor 6) (eC (.int 0))) (eC (.str [103, 111, 110, 101])))) (sAsg (ePlc (lLc (iSeq (eVar 3)) (gNm 8) (tVal (eOp2 opNe (eBor 8) (eOp2 opIx (eBor 6) (eC (.int 1))))) (eVar 8) [8])) (gNm 3)) sNext) (sSeq (sAsg (eIf (tVal (eOp2 opIn (eOp2 opIx (eBor 6) (eC (.int 0))) (eTup (aCons (eC (.str [105, 110])) (aCons (eC (.str [111, 117, 116])) aNil))))) (eDSetd (eVar 2) (eOp2 opIx (eBor 6) (eC (.int 1))) (ePlc (lLst aNil))) (ePlc (lLst aNil))) (gNm 7)) (sSeq (sIf (tVal (eOp2 opEq (eOp2 opIx (eBor 6) (eC (.int 0))) (eC (.str [111, 117, 116])))) (sSeq (sIf (tOr (tVal (eOp2 opEq (eBor 7) (eFrz (lLst aNil)))) (tVal (eOp2 opNe (eOp2 opIx (eBor 7) (eOp1 opNeg (eC (.int 1)))) (eSlT (eVar 6) (oSome (eC (.int 2))) oNone)))) (sRet (eTup (aCons (eC (.str [114, 101, 102, 117, 115, 101, 100])) (aCons (eC (.str [98, 111, 111, 107])) (aCons (eVar 5) aNil))))) sNext) (sDrop (ePopL (eVar 7)))) sNext) (sIf (tVal (eOp2 opEq (eOp2 opIx (eBor 6) (eC (.int 0))) (eC (.str [105, 110])))) (sSeq (sIf (tVal (eOp2 opEq (eOp1 opLen (eBor 7)) (eC (.int 8)))) (sRet (eTup (aCons (eC (.str [114, 101, 102, 117, 115, 101, 100])) (aCons (eC (.str [98, 111, 111, 107])) (aCons (eVar 5) aNil))))) sNext) (sSeq (sDrop (eAppL (eVar 7) (eSlT (eVar 6) (oSome (eC (.int 2))) oNone))) (sFor (iSeq (eFrz (lSrtL (eFrz (lLc (iSeq (eVar 3)) (gNm 8) (tVal (eOp2 opDIn (eVar 8) (eVar 1))) (eVar 8) [8]))))) (gNm 8) (sSeq (sAsg (eFrz (lLc (iSeq (eVar 7)) (gNm 10) (tVal (eOp2 opIn (eOp2 opIx (eBor 10) (eC (.int 0))) (eOp2 opDGet (eVar 1) (eVar 8)))) (eCall f_law_new (aCons (eOp2 opIx (eBor 10) (eC (.int 1))) (aCons (eVar 8) aNil))) [10])) (gNm 9)) (sIf (tAnd (tVal (eOp2 opIn (eOp2 opIx (eBor 6) (eC (.int 2))) (eOp2 opDGet (eVar 1) (eVar 8)))) (tAnd (tVal (eOp2 opGt (eLenSet (eVar 9)) (eC (.int 1)))) (tVal (eOp1 opIsN (eVar 4))))) (sAsg (eTup (aCons (eVar 5) (aCons (eVar 8) aNil))) (gNm 4)) sNext))))) sNext))))))) (sRet (eVar 4)))) := by
  have tk : Takes (cxOf (L2.CX P w) P w K mg base N_law_reading "_law_reading" (defScope st_law_reading) (A 10) cdv Ar outer s H Ex) (fun cls d _ H' => Ex cls d H') := takes_of rfl rfl rfl rfl
  have ps : PassesOwn (model P w) (cxOf (L2.CX P w) P w K mg base N_law_reading "_law_reading" (defScope st_law_reading) (A 10) cdv Ar outer s H Ex).A (cxOf (L2.CX P w) P w K mg base N_law_reading "_law_reading" (defScope st_law_reading) (A 10) cdv Ar outer s H Ex).env (cxOf (L2.CX P w) P w K mg base N_law_reading "_law_reading" (defScope st_law_reading) (A 10) cdv Ar outer s H Ex).xe := passes_of rfl
  have hu := hr.units
  have hv := hu_of hr
  have hu5 := Room65 hr
  exact (gss_cons (gs_par3 2 3 4 rfl nd_law_reading (ga_cons ge_dic0 (ga_cons (ge_plc (gl_lst ga_nil)) (ga_cons ge_non ga_nil)))) (gss_cons (gs_for ps rfl (gi_range T.b_range (ge_fun1 call_lenA simLen T.b_len (gb_var 0))) (gg_name 5 nd_law_reading) (gss_cons (gs_set 6 (ge_ix (gb_var 0) (gb_var 5)) nd_law_reading) (gss_cons (gs_if (gt_cmp (op_eqA hu) simEq rfl (gb_of (ge_ix (gb_var 6) (gb_of ge_int))) (gb_of (ge_str [98, 101, 103, 105, 110]))) (gss_one (gs_expr (ge_appL (ge_var 3) (ge_ix (gb_var 6) (gb_of ge_int))))) gss_nil) (gss_cons (gs_if (gt_cmp (op_eqA hu) simEq rfl (gb_of (ge_ix (gb_var 6) (gb_of ge_int))) (gb_of (ge_str [103, 111, 110, 101]))) (gss_one (gs_plc (i := 3) (by refine pn_lc (own := [("_law_number", 8)]) (gvs := [8]) ?_ ?_ ?_ ?_ (fun s H Ca cl fp => ?_) (fun s H Ca cl fp => ?_) (fun s H Ca cl fp => ?_); (exact rfl); (exact nd_law_reading); (exact (gi_seq (ge_var 3))); (exact (blkOk_by (N := N_law_reading) (sc := defScope st_law_reading) (own := [("_law_number", 8)]) (by decide +kernel))); (exact (gg_name 8 nd_law_reading)); (exact (gts_one (gt_cmp (op_neA hu) simNe rfl (gb_var 8) (gb_of (ge_ix (gb_var 6) (gb_of ge_int)))))); (exact (ge_var 8))))) gss_nil) (gss_cons (gs_set 7 (ge_if (gt_cmp op_inA simIn rfl (gb_of (ge_ix (gb_var 6) (gb_of ge_int))) (gb_of (ge_tup (ga_cons (ge_str [105, 110]) (ga_cons (ge_str [111, 117, 116]) ga_nil))))) (ge_dsetd (ge_var 2) (ge_ix (gb_var 6) (gb_of ge_int)) (ge_plc (gl_lst ga_nil))) (ge_plc (gl_lst ga_nil))) nd_law_reading) (gss_cons (gs_if (gt_cmp (op_eqA hu) simEq rfl (gb_of (ge_ix (gb_var 6) (gb_of ge_int))) (gb_of (ge_str [111, 117, 116]))) (gss_cons (gs_if (gt_w (gw_or (gt_cmp (op_eqA hu) simEq rfl (gb_var 7) (gb_of (ge_frz (gl_lst ga_nil)))) (gw_or1 (gt_cmp (op_neA hu) simNe rfl (gb_of (ge_ix (gb_var 7) (gb_of (ge_neg ge_int)))) (gb_of (ge_slT (ge_var 6) (go_some ge_int) go_none)))))) (gss_one (gs_ret (ge_tup (ga_cons (ge_str [114, 101, 102, 117, 115, 101, 100]) (ga_cons (ge_str [98, 111, 111, 107]) (ga_cons (ge_var 5) ga_nil)))))) gss_nil) (gss_one (gs_expr (ge_popL (ge_var 7))))) gss_nil) (gss_one (gs_if (gt_cmp (op_eqA hu) simEq rfl (gb_of (ge_ix (gb_var 6) (gb_of ge_int))) (gb_of (ge_str [105, 110]))) (gss_cons (gs_if (gt_cmp (op_eqA hu) simEq rfl (gb_of (ge_fun1 call_lenA simLen T.b_len (gb_var 7))) (gb_of ge_int)) (gss_one (gs_ret (ge_tup (ga_cons (ge_str [114, 101, 102, 117, 115, 101, 100]) (ga_cons (ge_str [98, 111, 111, 107]) (ga_cons (ge_var 5) ga_nil)))))) gss_nil) (gss_cons (gs_expr (ge_appL (ge_var 7) (ge_slT (ge_var 6) (go_some ge_int) go_none))) (gss_one (gs_for ps rfl (gi_seq (ge_frz (gl_srtL rfl T.b_sorted T.b_set (ge_frz (by refine gl_lc (own := [("_law_number", 8)]) (gvs := [8]) ?_ ?_ ?_ ?_ (fun s H Ca cl fp => ?_) (fun s H Ca cl fp => ?_) (fun s H Ca cl fp => ?_); (exact rfl); (exact nd_law_reading); (exact (gi_seq (ge_var 3))); (exact (blkOk_by (N := N_law_reading) (sc := defScope st_law_reading) (own := [("_law_number", 8)]) (by decide +kernel))); (exact (gg_name 8 nd_law_reading)); (exact (gts_one (gt_din hv (ge_var 8) (ge_var 1)))); (exact (ge_var 8))))))) (gg_name 8 nd_law_reading) (gss_cons (gs_frz (i := 9) (by refine pn_lc (own := [("_law_its", 10)]) (gvs := [10]) ?_ ?_ ?_ ?_ (fun s H Ca cl fp => ?_) (fun s H Ca cl fp => ?_) (fun s H Ca cl fp => ?_); (exact rfl); (exact nd_law_reading); (exact (gi_seq (ge_var 7))); (exact (blkOk_by (N := N_law_reading) (sc := defScope st_law_reading) (own := [("_law_its", 10)]) (by decide +kernel))); (exact (gg_name 10 nd_law_reading)); (exact (gts_one (gt_cmp op_inA simIn rfl (gb_of (ge_ix (gb_var 10) (gb_of ge_int))) (gb_of (ge_dget hv (ge_var 1) (ge_var 8)))))); (exact (ge_call (c_law_new T) (hr.mono (by omega)) takes0 T.g_law_new T.k_law_new (ga_cons (ge_ix (gb_var 10) (gb_of ge_int)) (ga_cons (ge_var 8) ga_nil)))))) (gss_one (gs_if (gt_w (gw_and (gt_cmp op_inA simIn rfl (gb_of (ge_ix (gb_var 6) (gb_of ge_int))) (gb_of (ge_dget hv (ge_var 1) (ge_var 8)))) (gw_and (gt_cmp op_gt (simCmp _) rfl (gb_of (ge_lenset rfl T.b_len T.b_set (ge_var 9))) (gb_of ge_int)) (gw_and1 (gt_isN (ge_var 4)))))) (gss_one (gs_set 4 (ge_tup (ga_cons (ge_var 5) (ga_cons (ge_var 8) ga_nil))) nd_law_reading)) gss_nil))))))) gss_nil)))))))) (gss_one (gs_ret (ge_var 4)))))
theorem c_law_reading (T : Tx K w mg base C A) : Cal P w K mg base C 2 (A 10) f_law_reading := by
  obtain ⟨fd, F⟩ := T.f_law_reading
  exact cal_of (fn_calD (ps := ["_law_book", "_law_sets"]) (N := N_law_reading) F  (C8.fnScope_by (by decide +kernel)) (by decide) fun cdv Ar outer s H Ex hr => b_law_reading T cdv Ar outer s H Ex hr) (F.bindsN fun _ _ _ _ _ _ us hl => match us, hl with | [_, _], _ => rfl)
theorem b_law (T : Tx K w mg base C A)  (Ar : Around) (outer : List PySem.Env) (s : Shared) (H : Hp) (Ex : XK) (hr : Room 7 (Ar.deeper (PyProof.Rows.envOfC "law" (defScope st_law) s.heap.objs.size (A 11) (.ref (He.codeOf K ("law", none)))))) :
    GSs (cxOf (L2.CX P w) P w K mg base N_law "law" (defScope st_law) (A 11) (.ref (He.codeOf K ("law", none))) Ar outer s H Ex) C (fun cls d _ H' => Ex cls d H') (defBody st_law) (sSeq (sAsg (eCall f_law_dice (aCons (eVar 0) aNil)) (gNm 1)) (sSeq (sFor (iRng (eC (.int 3))) (gNm 2) (sSeq (sPar3 3 4 5 (aCons (eOp2 opAdd (eC (.int 1)) (eCall f_law_next (aCons (eVar 1) (aCons (eC (.int 4)) aNil)))) (aCons (eOp2 opAdd (eC (.int 1)) (eCall f_law_next (aCons (eVar 1) (aCons (eC (.int 8)) aNil)))) (aCons (eOp2 opAdd (eC (.int 2)) (eCall f_law_next (aCons (eVar 1) (aCons (eC (.int 6)) aNil)))) aNil)))) (sSeq (sPar3 6 7 8 (aCons eDic0 (aCons (ePlc (lLst aNil)) (aCons (eFrz (lLc (iRng (eC (.int 4))) (gNm 12) tYesM (ePlc (lLst aNil)) [12])) aNil)))) (sSeq (sFor (iRng (eCall f_law_next (aCons (eVar 1) (aCons (eC (.int 5)) aNil)))) (gNm 9) (sSetD (eVar 6) (eVar 9) (eOp1 opTuple (eFrz (lLc (iRng (eVar 4)) (gNm 19) (tVal (eOp2 opEq (eCall f_law_next (aCons (eVar 1) (aCons (eC (.int 2)) aNil))) (eC (.int 0)))) (eVar 19) [19]))))) (sSeq (sIf (tVal (eOp2 opEq (eCall f_law_next (aCons (eVar 1) (aCons (eC (.int 2)) aNil))) (eC (.int 0)))) (sAsg (ePlc (lLc (iRng (eC (.int 5))) (gNm 9) (tVal (eOp2 opGt (eCall f_law_next (aCons (eVar 1) (aCons (eC (.int 4)) aNil))) (eC (.int 0)))) (eTup (aCons (eC (.str [98, 101, 103, 105, 110])) (aCons (eVar 9) aNil))) [9])) (gNm 7)) sNext) (sSeq (sFor (iRng (eCall f_law_next (aCons (eVar 1) (aCons (eC (.int 61)) aNil)))) (gNm 10) (sSeq (sPar3 11 12 9 (aCons (eCall f_law_next (aCons (eVar 1) (aCons (eC (.int 8)) aNil))) (aCons (eCall f_law_next (aCons (eVar 1) (aCons (eVar 3) aNil))) (aCons (eCall f_law_next (aCons (eVar 1) (aCons (eC (.int 5)) aNil))) aNil)))) (sSeq (sAsg (eTup (aCons (eCall f_law_next (aCons (eVar 1) (aCons (eVar 4) aNil))) (aCons (eOp2 opIx (eFrz (lLst (aCons (eC .non) (aCons (eCall f_law_next (aCons (eVar 1) (aCons (eC (.int 5)) aNil))) aNil)))) (eOp1 opIntOf (eOp2 opEq (eCall f_law_next (aCons (eVar 1) (aCons (eVar 5) aNil))) (eC (.int 0))))) aNil))) (gNm 13)) (sSeq (sAsg (eOp2 opAdd (eTup (aCons (eC (.str [105, 110])) (aCons (eVar 12) aNil))) (eBor 13)) (gNm 14)) (sSeq (sIf (tAnd (tVal (eOp2 opGt (eBor 11) (eC (.int 4)))) (tVal (eOp2 opNe (eOp2 opIx (eBor 8) (eBor 12)) (eFrz (lLst aNil))))) (sSeq (sAsg (eIf (tVal (eOp2 opGt (eCall f_law_next (aCons (eVar 1) (aCons (eC (.int 30)) aNil))) (eC (.int 0)))) (eOp2 opIx (eOp2 opIx (eBor 8) (eBor 12)) (eOp1 opNeg (eC (.int 1)))) (eVar 13)) (gNm 13)) (sSeq (sAsg (eOp2 opAdd (eTup (aCons (eC (.str [111, 117, 116])) (aCons (eVar 12) aNil))) (eBor 13)) (gNm 14)) (sDrop (ePopL (eOp2 opIx (eBor 8) (eBor 12)))))) (sIf (tVal (eOp2 opLt (eBor 11) (eC (.int 2)))) (sSeq (sAsg (eFrz (lLst (aCons (eTup (aCons (eC (.str [98, 101, 103, 105, 110])) (aCons (eVar 9) aNil))) (aCons (eTup (aCons (eC (.str [103, 111, 110, 101])) (aCons (eVar 9) aNil))) (aCons (eTup (aCons (eC (.str [111, 102, 102])) (aCons (eVar 9) aNil))) (aCons (eTup (aCons (eC (.str [116, 117, 114, 110])) (aCons (eVar 9) aNil))) (aCons (eTup (aCons (eC (.str [115, 116, 97, 110, 100, 115])) (aCons (eVar 9) aNil))) aNil))))))) (gNm 15)) (sAsg (eOp2 opIx (eFrz (lAdd (eBor 15) (eFrz (lLst (aCons (eTup (aCons (eC (.str [111, 118, 101, 114])) (aCons (eVar 12) (aCons (eVar 9) aNil)))) aNil))))) (eCall f_law_next (aCons (eVar 1) (aCons (eC (.int 6)) aNil)))) (gNm 14))) (sDrop (eAppL (eOp2 opIx (eBor 8) (eBor 12)) (eVar 13))))) (sDrop (eAppL (eVar 7) (eVar 14)))))))) (sSeq (sAsg (eFrz (lLst (aCons (eFrz (lOf (eBor 7))) (aCons (eDCopy (eVar 6)) aNil)))) (gNm 16)) (sFor (iRng (eC (.int 2))) (gNm 17) (sSeq (sAsg (eTold (eCall f_mixture (aCons (eOp2 opIx (eBor 16) (eC (.int 0))) (aCons (eOp2 opIx (eBor 16) (eC (.int 1))) aNil))) h_law_told 5 1 [1]) (gNm 18)) (sIf (tOr (tNot (tVal (eCall (f_law_like 6) (aCons (eVar 18) (aCons (eCall f_law_reading (aCons (eVar 7) (aCons (eVar 6) aNil))) aNil))))) (tVal (eOp2 opNeX (eBor 16) (eFrz (lLst (aCons (eVar 7) (aCons (eVar 6) aNil))))))) (sRet (eC (.bl false))) sNext)))))))))) (sRet (eC (.bl true))))) := by
  have tk : Takes (cxOf (L2.CX P w) P w K mg base N_law "law" (defScope st_law) (A 11) (.ref (He.codeOf K ("law", none))) Ar outer s H Ex) (fun cls d _ H' => Ex cls d H') := takes_of rfl rfl rfl rfl
  have ps : PassesOwn (model P w) (cxOf (L2.CX P w) P w K mg base N_law "law" (defScope st_law) (A 11) (.ref (He.codeOf K ("law", none))) Ar outer s H Ex).A (cxOf (L2.CX P w) P w K mg base N_law "law" (defScope st_law) (A 11) (.ref (He.codeOf K ("law", none))) Ar outer s H Ex).env (cxOf (L2.CX P w) P w K mg base N_law "law" (defScope st_law) (A 11) (.ref (He.codeOf K ("law", none))) Ar outer s H Ex).xe := passes_of rfl
  have hu := hr.units
  have hv := hu_of hr
  have hu5 := Room65 hr
  obtain ⟨fd_law_told, F_law_told⟩ := T.f_law_told
  have bn_law_told := F_law_told.bindsN (ps := ["_law_work"]) fun _ _ _ _ _ _ us hl => match us, hl with | [_], _ => rfl
  obtain ⟨_, _, _, _, _, _, _, cd_law_told, _, _, eq_law_told, lk_law_told, hc_law_told, _, _⟩ := F_law_told.ex
  subst eq_law_told
  exact (gss_cons (gs_set 1 (ge_call (c_law_dice T) (hr.mono (by omega)) tk T.g_law_dice T.k_law_dice (ga_cons (ge_var 0) ga_nil)) nd_law) (gss_cons (gs_for ps rfl (gi_range T.b_range ge_int) (gg_name 2 nd_law) (gss_cons (gs_par3 3 4 5 rfl nd_law (ga_cons (ge_bin op_addA simAdd (gb_of ge_int) (gb_of (ge_call (c_law_next T) (hr.mono (by omega)) tk T.g_law_next T.k_law_next (ga_cons (ge_var 1) (ga_cons ge_int ga_nil))))) (ga_cons (ge_bin op_addA simAdd (gb_of ge_int) (gb_of (ge_call (c_law_next T) (hr.mono (by omega)) tk T.g_law_next T.k_law_next (ga_cons (ge_var 1) (ga_cons ge_int ga_nil))))) (ga_cons (ge_bin op_addA simAdd (gb_of ge_int) (gb_of (ge_call (c_law_next T) (hr.mono (by omega)) tk T.g_law_next T.k_law_next (ga_cons (ge_var 1) (ga_cons ge_int ga_nil))))) ga_nil)))) (gss_cons (gs_par3 6 7 8 rfl nd_law (ga_cons ge_dic0 (ga_cons (ge_plc (gl_lst ga_nil)) (ga_cons (ge_frz (by refine gl_lc (own := [("_law_hand", 12)]) (gvs := [12]) ?_ ?_ ?_ ?_ (fun s H Ca cl fp => ?_) (fun s H Ca cl fp => ?_) (fun s H Ca cl fp => ?_); (exact rfl); (exact nd_law); (exact (gi_range T.b_range ge_int)); (exact (blkOk_by (N := N_law) (sc := defScope st_law) (own := [("_law_hand", 12)]) (by decide +kernel))); (exact (gg_name 12 nd_law)); (exact gts_nil); (exact (ge_plc (gl_lst ga_nil))))) ga_nil)))) (gss_cons (gs_for ps rfl (gi_range T.b_range (ge_call (c_law_next T) (hr.mono (by omega)) tk T.g_law_next T.k_law_next (ga_cons (ge_var 1) (ga_cons ge_int ga_nil)))) (gg_name 9 nd_law) (gss_one (gs_subD hv (ge_var 6) (ge_var 9) (ge_ty1 call_tuple_of simTuple T.b_tuple (gb_of (ge_frz (by refine gl_lc (own := [("_law_deed", 19)]) (gvs := [19]) ?_ ?_ ?_ ?_ (fun s H Ca cl fp => ?_) (fun s H Ca cl fp => ?_) (fun s H Ca cl fp => ?_); (exact rfl); (exact nd_law); (exact (gi_range T.b_range (ge_var 4))); (exact (blkOk_by (N := N_law) (sc := defScope st_law) (own := [("_law_deed", 19)]) (by decide +kernel))); (exact (gg_name 19 nd_law)); (exact (gts_one (gt_cmp (op_eqA hu) simEq rfl (gb_of (ge_call (c_law_next T) (hr.mono (by omega)) takes0 T.g_law_next T.k_law_next (ga_cons (ge_var 1) (ga_cons ge_int ga_nil)))) (gb_of ge_int)))); (exact (ge_var 19))))))))) (gss_cons (gs_if (gt_cmp (op_eqA hu) simEq rfl (gb_of (ge_call (c_law_next T) (hr.mono (by omega)) tk T.g_law_next T.k_law_next (ga_cons (ge_var 1) (ga_cons ge_int ga_nil)))) (gb_of ge_int)) (gss_one (gs_plc (i := 7) (by refine pn_lc (own := [("_law_number", 9)]) (gvs := [9]) ?_ ?_ ?_ ?_ (fun s H Ca cl fp => ?_) (fun s H Ca cl fp => ?_) (fun s H Ca cl fp => ?_); (exact rfl); (exact nd_law); (exact (gi_range T.b_range ge_int)); (exact (blkOk_by (N := N_law) (sc := defScope st_law) (own := [("_law_number", 9)]) (by decide +kernel))); (exact (gg_name 9 nd_law)); (exact (gts_one (gt_cmp op_gt (simCmp _) rfl (gb_of (ge_call (c_law_next T) (hr.mono (by omega)) takes0 T.g_law_next T.k_law_next (ga_cons (ge_var 1) (ga_cons ge_int ga_nil)))) (gb_of ge_int)))); (exact (ge_tup (ga_cons (ge_str [98, 101, 103, 105, 110]) (ga_cons (ge_var 9) ga_nil))))))) gss_nil) (gss_cons (gs_for ps rfl (gi_range T.b_range (ge_call (c_law_next T) (hr.mono (by omega)) tk T.g_law_next T.k_law_next (ga_cons (ge_var 1) (ga_cons ge_int ga_nil)))) (gg_name 10 nd_law) (gss_cons (gs_par3 11 12 9 rfl nd_law (ga_cons (ge_call (c_law_next T) (hr.mono (by omega)) tk T.g_law_next T.k_law_next (ga_cons (ge_var 1) (ga_cons ge_int ga_nil))) (ga_cons (ge_call (c_law_next T) (hr.mono (by omega)) tk T.g_law_next T.k_law_next (ga_cons (ge_var 1) (ga_cons (ge_var 3) ga_nil))) (ga_cons (ge_call (c_law_next T) (hr.mono (by omega)) tk T.g_law_next T.k_law_next (ga_cons (ge_var 1) (ga_cons ge_int ga_nil))) ga_nil)))) (gss_cons (gs_set 13 (ge_tup (ga_cons (ge_call (c_law_next T) (hr.mono (by omega)) tk T.g_law_next T.k_law_next (ga_cons (ge_var 1) (ga_cons (ge_var 4) ga_nil))) (ga_cons (ge_ix (gb_of (ge_frz (gl_lst (ga_cons ge_non (ga_cons (ge_call (c_law_next T) (hr.mono (by omega)) tk T.g_law_next T.k_law_next (ga_cons (ge_var 1) (ga_cons ge_int ga_nil))) ga_nil))))) (gb_of (ge_ty1 call_intA simInt T.b_int (gb_of (ge_cmp (op_eqA hu) simEq rfl (gb_of (ge_call (c_law_next T) (hr.mono (by omega)) tk T.g_law_next T.k_law_next (ga_cons (ge_var 1) (ga_cons (ge_var 5) ga_nil)))) (gb_of ge_int)))))) ga_nil))) nd_law) (gss_cons (gs_set 14 (ge_bin op_addA simAdd (gb_of (ge_tup (ga_cons (ge_str [105, 110]) (ga_cons (ge_var 12) ga_nil)))) (gb_var 13)) nd_law) (gss_cons (gs_if (gt_w (gw_and (gt_cmp op_gt (simCmp _) rfl (gb_var 11) (gb_of ge_int)) (gw_and1 (gt_cmp (op_neA hu) simNe rfl (gb_of (ge_ix (gb_var 8) (gb_var 12))) (gb_of (ge_frz (gl_lst ga_nil))))))) (gss_cons (gs_set 13 (ge_if (gt_cmp op_gt (simCmp _) rfl (gb_of (ge_call (c_law_next T) (hr.mono (by omega)) tk T.g_law_next T.k_law_next (ga_cons (ge_var 1) (ga_cons ge_int ga_nil)))) (gb_of ge_int)) (ge_ix (gb_of (ge_ix (gb_var 8) (gb_var 12))) (gb_of (ge_neg ge_int))) (ge_var 13)) nd_law) (gss_cons (gs_set 14 (ge_bin op_addA simAdd (gb_of (ge_tup (ga_cons (ge_str [111, 117, 116]) (ga_cons (ge_var 12) ga_nil)))) (gb_var 13)) nd_law) (gss_one (gs_expr (ge_popL (ge_ix (gb_var 8) (gb_var 12))))))) (gss_one (gs_if (gt_cmp op_lt (simCmp _) rfl (gb_var 11) (gb_of ge_int)) (gss_cons (gs_frz (i := 15) (pn_set 15 (gl_lst (ga_cons (ge_tup (ga_cons (ge_str [98, 101, 103, 105, 110]) (ga_cons (ge_var 9) ga_nil))) (ga_cons (ge_tup (ga_cons (ge_str [103, 111, 110, 101]) (ga_cons (ge_var 9) ga_nil))) (ga_cons (ge_tup (ga_cons (ge_str [111, 102, 102]) (ga_cons (ge_var 9) ga_nil))) (ga_cons (ge_tup (ga_cons (ge_str [116, 117, 114, 110]) (ga_cons (ge_var 9) ga_nil))) (ga_cons (ge_tup (ga_cons (ge_str [115, 116, 97, 110, 100, 115]) (ga_cons (ge_var 9) ga_nil))) ga_nil)))))) nd_law)) (gss_one (gs_set 14 (ge_ix (gb_of (ge_frz (gl_add (gb_var 15) (gb_of (ge_frz (gl_lst (ga_cons (ge_tup (ga_cons (ge_str [111, 118, 101, 114]) (ga_cons (ge_var 12) (ga_cons (ge_var 9) ga_nil)))) ga_nil))))))) (gb_of (ge_call (c_law_next T) (hr.mono (by omega)) tk T.g_law_next T.k_law_next (ga_cons (ge_var 1) (ga_cons ge_int ga_nil))))) nd_law))) (gss_one (gs_expr (ge_appL (ge_ix (gb_var 8) (gb_var 12)) (ge_var 13))))))) (gss_one (gs_expr (ge_appL (ge_var 7) (ge_var 14))))))))) (gss_cons (gs_frz (i := 16) (pn_set 16 (gl_lst (ga_cons (ge_frz (gl_of T.b_list (gb_var 7))) (ga_cons (ge_dcopy T.b_dict (ge_var 6)) ga_nil))) nd_law)) (gss_one (gs_for ps rfl (gi_range T.b_range ge_int) (gg_name 17 nd_law) (gss_cons (gs_set 18 (ge_told (k := 4) (bg := defBody st_law_told) (sg := defScope st_law_told) (Ng := N_law_told) (mh := h_law_told) (a := "_law_work") (CS := C 0) (j := 1) [1] (told_gives (e := "MillError") (n := "e") rfl T.gc_MillError (by decide) nd_law_told rfl rfl (fun s H a oe cls d pn hz hf => s_law_told T _ _ _ s H a oe cls d pn hz hf ((hr.mono (Nat.le_add_left 1 _)).deeper _))) T.g_law_told T.k_law_told lk_law_told hc_law_told bn_law_told (C8.fnScope_by (by decide +kernel)) rfl (Or.inl rfl) T.tb_law rfl T.ct_law T.cu_law (hr.mono (by omega)) (LamX.lamS_by (sc := defScope st_law) (by decide +kernel)) T.em_law_told (fun Al ol sl Hl El fl cl hr => by have hu := hr.units; have hv := hu_of hr; have hu5 := Room65 hr; exact (ge_call (c_mixture T) (hr.mono (by omega)) (takes_of rfl rfl rfl rfl) T.g_mixture T.k_mixture (ga_cons (ge_ix (gb_var 16) (gb_of ge_int)) (ga_cons (ge_ix (gb_var 16) (gb_of ge_int)) ga_nil))))) nd_law) (gss_one (gs_if (gt_w (gw_or (gt_not (gt_val (ge_call (c_law_like T 6) (hr.mono (by omega)) tk T.g_law_like T.k_law_like (ga_cons (ge_var 18) (ga_cons (ge_call (c_law_reading T) (hr.mono (by omega)) tk T.g_law_reading T.k_law_reading (ga_cons (ge_var 7) (ga_cons (ge_var 6) ga_nil))) ga_nil))))) (gw_or1 (gt_cmp (op_neX hu) simNeX rfl (gb_var 16) (gb_of (ge_frz (gl_lst (ga_cons (ge_var 7) (ga_cons (ge_var 6) ga_nil))))))))) (gss_one (gs_ret ge_bl)) gss_nil)))))))))))) (gss_one (gs_ret ge_bl))))
theorem c_law (T : Tx K w mg base C A) : Cal P w K mg base C 8 (A 11) f_law := by
  obtain ⟨fd, F⟩ := T.f_law
  exact cal_of (fn_calC (ps := ["_law_script"]) (N := N_law) F T.aa_law (C8.fnScope_by (by decide +kernel)) (by decide) fun Ar outer s H Ex hr => b_law T Ar outer s H Ex hr) (F.bindsN fun _ _ _ _ _ _ us hl => match us, hl with | [_], _ => rfl)
end
end K15

/-! Facts of the law, printed by gen2.py. Own text. -/
namespace K15
open PySem L2 TL MP
def dd_law_dice : He.DefD := ⟨("_law_dice", none), "_law_dice", "_law_dice", defArgs st_law_dice, defBody st_law_dice, defScope st_law_dice, [], []⟩
def dd_law_next : He.DefD := ⟨("_law_next", none), "_law_next", "_law_next", defArgs st_law_next, defBody st_law_next, defScope st_law_next, [], []⟩
def dd_Reading___init__ : He.DefD := ⟨("Reading", some "__init__"), "__init__", "Reading.__init__", defArgs st_Reading___init__, defBody st_Reading___init__, defScope st_Reading___init__, [], []⟩
def dd_BadBook___init__ : He.DefD := ⟨("BadBook", some "__init__"), "__init__", "BadBook.__init__", defArgs st_BadBook___init__, defBody st_BadBook___init__, defScope st_BadBook___init__, [], []⟩
def dd_side : He.DefD := ⟨("side", none), "side", "side", defArgs st_side, defBody st_side, defScope st_side, [], []⟩
def dd_mixing : He.DefD := ⟨("mixing", none), "mixing", "mixing", defArgs st_mixing, defBody st_mixing, defScope st_mixing, [], []⟩
def dd_Reading_reads : He.DefD := ⟨("Reading", some "reads"), "reads", "Reading.reads", defArgs st_Reading_reads, defBody st_Reading_reads, defScope st_Reading_reads, [], []⟩
def dd_mixture : He.DefD := ⟨("mixture", none), "mixture", "mixture", defArgs st_mixture, defBody st_mixture, defScope st_mixture, [], []⟩
def dd_law_like : He.DefD := ⟨("_law_like", none), "_law_like", "_law_like", defArgs st_law_like, defBody st_law_like, defScope st_law_like, [], []⟩
def dd_law_new : He.DefD := ⟨("_law_new", none), "_law_new", "_law_new", defArgs st_law_new, defBody st_law_new, defScope st_law_new, [], []⟩
def dd_law_reading : He.DefD := ⟨("_law_reading", none), "_law_reading", "_law_reading", defArgs st_law_reading, defBody st_law_reading, defScope st_law_reading, [], []⟩
def dd_law : He.DefD := ⟨("law", none), "law", "law", defArgs st_law, defBody st_law, defScope st_law, [], []⟩
def dd_law_told : He.DefD := ⟨("_law_told", none), "_law_told", "_law_told", defArgs st_law_told, defBody st_law_told, defScope st_law_told, [], []⟩
def fn : List He.DefD := ([dd_law_dice, dd_law_next, dd_Reading___init__, dd_BadBook___init__, dd_side, dd_mixing, dd_Reading_reads, dd_mixture, dd_law_like, dd_law_new, dd_law_reading, dd_law, dd_law_told] : List (He.DefD))
def fa : List He.Fa := ([He.Fa.glo "_law_dice", He.Fa.keep "_law_dice", He.Fa.glo "_law_next", He.Fa.keep "_law_next", He.Fa.glo "side", He.Fa.keep "side", He.Fa.glo "mixing", He.Fa.keep "mixing", He.Fa.meth "Reading" "reads", He.Fa.glo "mixture", He.Fa.keep "mixture", He.Fa.glo "_law_like", He.Fa.keep "_law_like", He.Fa.glo "_law_new", He.Fa.keep "_law_new", He.Fa.glo "_law_reading", He.Fa.keep "_law_reading", He.Fa.glo "law", He.Fa.keep "law", He.Fa.glo "_law_told"] : List (He.Fa)) ++ ([He.Fa.keep "_law_told", He.Fa.glo "MillError", He.Fa.glo "BadBook", He.Fa.glo "NoHand", He.Fa.glo "NoRoom", He.Fa.glo "BadTexts", He.Fa.glo "BadMill", He.Fa.glo "BadNumber", He.Fa.glo "NoDeed", He.Fa.glo "Within", He.Fa.glo "BadChange", He.Fa.glo "Full", He.Fa.glo "Underway", He.Fa.glo "NoCell", He.Fa.glo "NoChange", He.Fa.glo "Unmet", He.Fa.glo "BadText", He.Fa.glo "Reading", He.Fa.cls "Reading", He.Fa.mkr "Reading"] : List (He.Fa)) ++ ([He.Fa.noat "Reading" "sets", He.Fa.noat "Reading" "now", He.Fa.noat "Reading" "piles", He.Fa.free "isinstance", He.Fa.free "ValueError", He.Fa.free "int", He.Fa.free "len", He.Fa.free "sorted", He.Fa.free "tuple", He.Fa.free "enumerate", He.Fa.free "list", He.Fa.free "range", He.Fa.free "bool", He.Fa.free "str", He.Fa.free "set", He.Fa.free "dict"] : List (He.Fa))
def ts : List He.Tab := []
def tf : List He.Defn := ([("law", none)] : List (He.Defn))
def tn : List Str := [Str.ofString "law.<locals>.<lambda>"]
def cls : List Str := (["MillError", "BadBook", "NoHand", "NoRoom", "BadTexts", "BadMill", "BadNumber", "NoDeed", "Within", "BadChange", "Full", "Underway", "NoCell", "NoChange", "Unmet", "BadText", "Reading"] : List (Str))
def ats : List (Str × Option Str) := ([("_law_dice", none), ("_law_next", none), ("Reading", some "__init__"), ("BadBook", some "__init__"), ("side", none), ("mixing", none), ("Reading", some "reads"), ("mixture", none), ("_law_like", none), ("_law_new", none), ("_law_reading", none), ("law", none), ("_law_told", none)] : List (Str × Option Str))
def Cn (K : PySem.W.Frag) : MP.Tab := ⟨fun n => He.ga K (cls.getD n ""), fun _ => none, List.zipWith (fun p y => ((He.cT K p).2, y)) tf tn⟩
def An (K : PySem.W.Frag) (n : Nat) : Addr := He.fAd K (ats.getD n ("", none))
def exs : List (PySem.W.Frag → Bool) := ([fun K => baseB K (He.ga K "MillError"), fun K => exoB K (He.ga K "BadBook") ["event"], fun K => initB K (He.ga K "BadBook") (He.ma K (He.ga K "BadBook") "__init__"), fun K => isXB K (Cn K) [(1, false)] (.ref (He.ga K "NoHand")), fun K => isXB K (Cn K) [(1, false)] (.ref (He.ga K "NoRoom")), fun K => isXB K (Cn K) [(1, false)] (.ref (He.ga K "BadTexts")), fun K => isXB K (Cn K) [(1, false)] (.ref (He.ga K "BadMill")), fun K => isXB K (Cn K) [(1, false)] (.ref (He.ga K "BadNumber")), fun K => isXB K (Cn K) [(1, false)] (.ref (He.ga K "NoDeed")), fun K => isXB K (Cn K) [(1, false)] (.ref (He.ga K "Within")), fun K => isXB K (Cn K) [(1, false)] (.ref (He.ga K "BadChange")), fun K => isXB K (Cn K) [(1, false)] (.ref (He.ga K "Full")), fun K => isXB K (Cn K) [(1, false)] (.ref (He.ga K "Underway")), fun K => isXB K (Cn K) [(1, false)] (.ref (He.ga K "NoCell")), fun K => isXB K (Cn K) [(1, false)] (.ref (He.ga K "NoChange")), fun K => isXB K (Cn K) [(1, false)] (.ref (He.ga K "Unmet")), fun K => isXB K (Cn K) [(1, false)] (.ref (He.ga K "BadText")), fun K => isXB K (Cn K) [(1, true)] (.ref (He.ga K "BadBook")), fun K => isXB K (Cn K) [(1, true)] (.type "ValueError"), fun K => xfsB K (Cn K) [] "word"] : List (PySem.W.Frag → Bool)) ++ ([fun K => xfsB K (Cn K) [] "row", fun K => xfsB K (Cn K) [] "deed", fun K => xfsB K (Cn K) [1] "event", fun K => exmsB K (Cn K) [1] (He.ga K "MillError"), fun K => glB K "MOST_PILE" d_MOST_PILE] : List (PySem.W.Frag → Bool))
abbrev hk : PySem.W.Hook := hookY 5 fa fn ts tf (fun K => exs.all fun f => f K)
theorem tx {w : World} {K : PySem.W.Frag} {h : Heap} {mg : Str → Option Value} (KX : K.In h) (G : h.Ns mainGlobals mg) (c : He.SaysX fa fn ts tf (fun K => exs.all fun f => f K) w h K) {base : Heap} (tb : ∀ p ∈ tf, LamX.TabB base mg (He.cT K p).1 (He.cT K p).2) : Tx K w mg base (Cn K) (An K) := {
  g_law_dice := He.glo_ok KX G (c.t.d.fact 0 (f := He.Fa.glo "_law_dice") rfl),
  k_law_dice := He.keep_ok (c.t.d.fact 1 (f := He.Fa.keep "_law_dice") rfl),
  f_law_dice := c.t.d.def_ 0 (d := dd_law_dice) rfl,
  g_law_next := He.glo_ok KX G (c.t.d.fact 2 (f := He.Fa.glo "_law_next") rfl),
  k_law_next := He.keep_ok (c.t.d.fact 3 (f := He.Fa.keep "_law_next") rfl),
  f_law_next := c.t.d.def_ 1 (d := dd_law_next) rfl,
  f_Reading___init__ := c.t.d.def_ 2 (d := dd_Reading___init__) rfl,
  f_BadBook___init__ := c.t.d.def_ 3 (d := dd_BadBook___init__) rfl,
  g_side := He.glo_ok KX G (c.t.d.fact 4 (f := He.Fa.glo "side") rfl),
  k_side := He.keep_ok (c.t.d.fact 5 (f := He.Fa.keep "side") rfl),
  f_side := c.t.d.def_ 4 (d := dd_side) rfl,
  g_mixing := He.glo_ok KX G (c.t.d.fact 6 (f := He.Fa.glo "mixing") rfl),
  k_mixing := He.keep_ok (c.t.d.fact 7 (f := He.Fa.keep "mixing") rfl),
  f_mixing := c.t.d.def_ 5 (d := dd_mixing) rfl,
  me_Reading_reads := He.meth_ok (c.t.d.fact 8 (f := He.Fa.meth "Reading" "reads") rfl),
  f_Reading_reads := c.t.d.def_ 6 (d := dd_Reading_reads) rfl,
  g_mixture := He.glo_ok KX G (c.t.d.fact 9 (f := He.Fa.glo "mixture") rfl),
  k_mixture := He.keep_ok (c.t.d.fact 10 (f := He.Fa.keep "mixture") rfl),
  f_mixture := c.t.d.def_ 7 (d := dd_mixture) rfl,
  g_law_like := He.glo_ok KX G (c.t.d.fact 11 (f := He.Fa.glo "_law_like") rfl),
  k_law_like := He.keep_ok (c.t.d.fact 12 (f := He.Fa.keep "_law_like") rfl),
  f_law_like := c.t.d.def_ 8 (d := dd_law_like) rfl,
  g_law_new := He.glo_ok KX G (c.t.d.fact 13 (f := He.Fa.glo "_law_new") rfl),
  k_law_new := He.keep_ok (c.t.d.fact 14 (f := He.Fa.keep "_law_new") rfl),
  f_law_new := c.t.d.def_ 9 (d := dd_law_new) rfl,
  g_law_reading := He.glo_ok KX G (c.t.d.fact 15 (f := He.Fa.glo "_law_reading") rfl),
  k_law_reading := He.keep_ok (c.t.d.fact 16 (f := He.Fa.keep "_law_reading") rfl),
  f_law_reading := c.t.d.def_ 10 (d := dd_law_reading) rfl,
  g_law := He.glo_ok KX G (c.t.d.fact 17 (f := He.Fa.glo "law") rfl),
  k_law := He.keep_ok (c.t.d.fact 18 (f := He.Fa.keep "law") rfl),
  f_law := c.t.d.def_ 11 (d := dd_law) rfl,
  aa_law := rfl,
  tb_law := tb ("law", none) (by simp [tf]),
  ct_law := by simp [Cn, tf, tn, He.cT],
  cu_law := by simp [Cn, tf, tn, He.cT],
  g_law_told := He.glo_ok KX G (c.t.d.fact 19 (f := He.Fa.glo "_law_told") rfl),
  k_law_told := He.keep_ok (c.t.d.fact 20 (f := He.Fa.keep "_law_told") rfl),
  f_law_told := c.t.d.def_ 12 (d := dd_law_told) rfl,
  gc_MillError := He.glo_ok KX G (c.t.d.fact 21 (f := He.Fa.glo "MillError") rfl),
  gc_BadBook := He.glo_ok KX G (c.t.d.fact 22 (f := He.Fa.glo "BadBook") rfl),
  gc_NoHand := He.glo_ok KX G (c.t.d.fact 23 (f := He.Fa.glo "NoHand") rfl),
  gc_NoRoom := He.glo_ok KX G (c.t.d.fact 24 (f := He.Fa.glo "NoRoom") rfl),
  gc_BadTexts := He.glo_ok KX G (c.t.d.fact 25 (f := He.Fa.glo "BadTexts") rfl),
  gc_BadMill := He.glo_ok KX G (c.t.d.fact 26 (f := He.Fa.glo "BadMill") rfl),
  gc_BadNumber := He.glo_ok KX G (c.t.d.fact 27 (f := He.Fa.glo "BadNumber") rfl),
  gc_NoDeed := He.glo_ok KX G (c.t.d.fact 28 (f := He.Fa.glo "NoDeed") rfl),
  gc_Within := He.glo_ok KX G (c.t.d.fact 29 (f := He.Fa.glo "Within") rfl),
  gc_BadChange := He.glo_ok KX G (c.t.d.fact 30 (f := He.Fa.glo "BadChange") rfl),
  gc_Full := He.glo_ok KX G (c.t.d.fact 31 (f := He.Fa.glo "Full") rfl),
  gc_Underway := He.glo_ok KX G (c.t.d.fact 32 (f := He.Fa.glo "Underway") rfl),
  gc_NoCell := He.glo_ok KX G (c.t.d.fact 33 (f := He.Fa.glo "NoCell") rfl),
  gc_NoChange := He.glo_ok KX G (c.t.d.fact 34 (f := He.Fa.glo "NoChange") rfl),
  gc_Unmet := He.glo_ok KX G (c.t.d.fact 35 (f := He.Fa.glo "Unmet") rfl),
  gc_BadText := He.glo_ok KX G (c.t.d.fact 36 (f := He.Fa.glo "BadText") rfl),
  gc_Reading := He.glo_ok KX G (c.t.d.fact 37 (f := He.Fa.glo "Reading") rfl),
  cl_Reading := He.cls_ok (c.t.d.fact 38 (f := He.Fa.cls "Reading") rfl),
  mk_Reading := He.mkr_ok (c.t.d.fact 39 (f := He.Fa.mkr "Reading") rfl),
  ba_MillError := baseB_ok (ex_at c.more 0),
  xo_BadBook := exoB_ok (ex_at c.more 1),
  ii_BadBook := initB_ok (ex_at c.more 2),
  is_NoHand := isXB_ok (ex_at c.more 3),
  is_NoRoom := isXB_ok (ex_at c.more 4),
  is_BadTexts := isXB_ok (ex_at c.more 5),
  is_BadMill := isXB_ok (ex_at c.more 6),
  is_BadNumber := isXB_ok (ex_at c.more 7),
  is_NoDeed := isXB_ok (ex_at c.more 8),
  is_Within := isXB_ok (ex_at c.more 9),
  is_BadChange := isXB_ok (ex_at c.more 10),
  is_Full := isXB_ok (ex_at c.more 11),
  is_Underway := isXB_ok (ex_at c.more 12),
  is_NoCell := isXB_ok (ex_at c.more 13),
  is_NoChange := isXB_ok (ex_at c.more 14),
  is_Unmet := isXB_ok (ex_at c.more 15),
  is_BadText := isXB_ok (ex_at c.more 16),
  is_BadBook := isXB_ok (ex_at c.more 17),
  is_ValueError := isXB_ok (ex_at c.more 18),
  xf_word := xfsB_ok (ex_at c.more 19),
  xf_row := xfsB_ok (ex_at c.more 20),
  xf_deed := xfsB_ok (ex_at c.more 21),
  xf_event := xfsB_ok (ex_at c.more 22),
  em_law_told := exmsB_ok (ex_at c.more 23),
  na_Reading_sets := He.noat_ok (c.t.d.fact 40 (f := He.Fa.noat "Reading" "sets") rfl),
  na_Reading_now := He.noat_ok (c.t.d.fact 41 (f := He.Fa.noat "Reading" "now") rfl),
  na_Reading_piles := He.noat_ok (c.t.d.fact 42 (f := He.Fa.noat "Reading" "piles") rfl),
  b_isinstance := He.free_ok KX G (c.t.d.fact 43 (f := He.Fa.free "isinstance") rfl),
  b_ValueError := He.free_ok KX G (c.t.d.fact 44 (f := He.Fa.free "ValueError") rfl),
  b_int := He.free_ok KX G (c.t.d.fact 45 (f := He.Fa.free "int") rfl),
  b_len := He.free_ok KX G (c.t.d.fact 46 (f := He.Fa.free "len") rfl),
  b_sorted := He.free_ok KX G (c.t.d.fact 47 (f := He.Fa.free "sorted") rfl),
  b_tuple := He.free_ok KX G (c.t.d.fact 48 (f := He.Fa.free "tuple") rfl),
  b_enumerate := He.free_ok KX G (c.t.d.fact 49 (f := He.Fa.free "enumerate") rfl),
  b_list := He.free_ok KX G (c.t.d.fact 50 (f := He.Fa.free "list") rfl),
  b_range := He.free_ok KX G (c.t.d.fact 51 (f := He.Fa.free "range") rfl),
  b_bool := He.free_ok KX G (c.t.d.fact 52 (f := He.Fa.free "bool") rfl),
  b_str := He.free_ok KX G (c.t.d.fact 53 (f := He.Fa.free "str") rfl),
  b_set := He.free_ok KX G (c.t.d.fact 54 (f := He.Fa.free "set") rfl),
  b_dict := He.free_ok KX G (c.t.d.fact 55 (f := He.Fa.free "dict") rfl),
  q_MOST_PILE := glB_ok KX G (ex_at c.more 24) }
theorem law_at {w : World} {h : Heap} {mg : Str → Option Value} {fa0 : Addr} (Y : hk.says w h) (G : h.Ns mainGlobals mg) (hmg : mg "law" = some (.ref fa0)) : ∃ K : PySem.W.Frag, K.In h ∧ LamX.LawAtS PySem.Challenge.rw_changemill_k15_books_looked_through w K (L2.CX (PySem.Challenge.rw_changemill_k15_books_looked_through).prog w) 8 63 "_law_script" mg fa0 h := by
  obtain ⟨K, KX, c⟩ := Y
  have e := hmg.symm.trans (He.glo_ok KX G (x := "law") (c.t.d.fact 17 (f := He.Fa.glo "law") rfl))
  cases e
  obtain ⟨fd, F⟩ := c.t.d.def_ 11 (d := dd_law) rfl
  have b := FunD.bindsA (ps := ["_law_script"]) F fun _ _ _ _ _ _ us hl => match us, hl with | [_], _ => rfl
  refine ⟨K, KX, lawAt (T := (Cn K).t) KX c tn rfl rfl (fun s v => b s [v] rfl) fun base b1 b2 b3 => ?_⟩
  have T : Tx K w mg base (Cn K) (An K) := tx KX G c b3
  exact ((fn_calC (P := (PySem.Challenge.rw_changemill_k15_books_looked_through).prog) (w := w) (mg := mg) (base := base) (C := Cn K) (ps := ["_law_script"]) (N := N_law) F T.aa_law (C8.fnScope_by (by decide +kernel)) (by decide) fun Ar outer s H Ex hr => b_law T Ar outer s H Ex hr)).imp (law_spT plain)
end K15

open PySem PySem.Calls PySem.W PyProof.Rows
set_option maxRecDepth 100001 in
set_option maxHeartbeats 0 in
theorem PySem.Challenge.cw_changemill_k15_books_looked_through_holds : PySem.Challenge.rw_changemill_k15_books_looked_through.Holds := by
  w_on; o_law; o_head K15.hk; (case hw => w_witness2)
  refine LamX.walk_ofTsE (l := PySem.Challenge.rw_changemill_k15_books_looked_through) (n := 63) (k := 8) (x := "_law_script") (CX := fun w => L2.CX (PySem.Challenge.rw_changemill_k15_books_looked_through).prog w) rfl (by decide) rfl ⟨rfl, by decide, by decide⟩ (fun w mg fa h Y G hmg => ?_) (fun _ _ _ _ _ h => MP.cx_none h)
  exact K15.law_at Y G hmg
#print axioms PySem.Challenge.cw_changemill_k15_books_looked_through_holds

