import PyProof.Rows.All
import Wide.All
import OpenK.AllK
import Wide.FinOn
import HandS.ForMost
import HandS.Exc
import HandS.ExcOwn
import HandS.CallSlots
import HandS.WordsExc
import HandS.Lambda
import HandS.TupAny
import HandS.IsInst
import HandS.Deep
import PyProof.NeKinds
import KE.IntTextLaws
import KE.KUnpackStar
import HandS.More
import HandS.Text
import HandS.Conv
import HandS.Iter
import HandS.Dict
import HandS.MakeKwOnly
import HandS.Defaults
import HandS.Zip
import HandS.HeadNt
import HandS.Codes
import HandS.EndTab
import HandS.ExcIs
import HandS.ExcField
import HandS.ExcInit
import HandS.ClsMeth
import HandS.SetFor
import KE.DataFind
import HandS.Head0
import HandS.Head1
import HandS.Head2
import HandS.HeadEnd
import HandS.HeadHook4
import HandS.HeadWalk
import KE.GoesEnum
import HandS.Strs
import HandS.OwnIter
import PySem.Challenge.RW_changemill_k16_which_deeds_lead_where
set_option Elab.async false
set_option linter.all false
set_option maxRecDepth 100001
set_option maxHeartbeats 4000001
/-! Mini machine: plain data, a store, results, the words of a small language as functions. Own text. -/
namespace MP

inductive D where
  | non | bl (b : Bool) | int (i : Int) | str (cs : List Nat) | tup (ds : List D) | lst (ds : List D) | ref (n : Nat) | scr (ns : List Int)
  deriving Inhabited

inductive Ob where
  | lst (ds : List D) | ins (c : Nat) (fs : List (String × D)) | dic (kvs : List (D × D))
  deriving Inhabited

abbrev Sto := List Ob
structure Exn where
  cls : Nat
  fs : List (String × D)

inductive Res (α : Type) where
  | ok (a : α) (s : Sto) | exc (x : Exn) (s : Sto) | stk
namespace Res
def bind {α β : Type} (m : Res α) (f : α → Sto → Res β) : Res β :=
  match m with
  | .ok a s => f a s
  | .exc x s => .exc x s
  | .stk => .stk
@[simp] theorem bind_ok {α β : Type} (a : α) (s : Sto) (f : α → Sto → Res β) : (Res.ok a s).bind f = f a s := rfl
@[simp] theorem bind_exc {α β : Type} (x : Exn) (s : Sto) (f : α → Sto → Res β) : (Res.exc x s : Res α).bind f = .exc x s := rfl
@[simp] theorem bind_stk {α β : Type} (f : α → Sto → Res β) : (Res.stk : Res α).bind f = .stk := rfl
/-- an answer that may be wanting -/
def ofO {α : Type} (o : Option α) (s : Sto) : Res α :=
  match o with
  | some a => .ok a s
  | none => .stk
@[simp] theorem ofO_some {α : Type} (a : α) (s : Sto) : ofO (some a) s = .ok a s := rfl
@[simp] theorem ofO_none {α : Type} (s : Sto) : (ofO none s : Res α) = .stk := rfl
end Res

inductive Slot where
  | emp | val (d : D) | own (ds : List D) | exn (x : Exn)
  deriving Inhabited
abbrev Env := List Slot
abbrev ME := Env → Sto → Res D
abbrev MT := Env → Sto → Res Bool
abbrev MA := Env → Sto → Res (List D)

def cap : Nat := 1000000

/-! ### plain data: equality, looks -/
mutual
def D.eqv : D → D → Bool
  | .non, .non => true
  | .bl a, .bl b => a == b
  | .bl a, .int j => (if a then 1 else 0) == j
  | .int i, .bl b => i == (if b then 1 else 0)
  | .int i, .int j => i == j
  | .str x, .str y => decide (x = y)
  | .lst xs, .lst ys => D.eqvs xs ys
  | .tup xs, .tup ys => D.eqvs xs ys
  | _, _ => false
def D.eqvs : List D → List D → Bool
  | [], [] => true
  | x :: xs, y :: ys => D.eqv x y && D.eqvs xs ys
  | _, _ => false
end
mutual
/-- data without references, so deep at most, of written signs -/
def D.fit : Nat → D → Bool
  | _, .non | _, .bl _ | _, .int _ => true
  | _, .str cs => cs.all fun c => decide (c < 1114112)
  | 0, _ => false
  | n + 1, .lst ds | n + 1, .tup ds => D.fits n ds
  | _, .ref _ | _, .scr _ => false
def D.fits : Nat → List D → Bool
  | _, [] => true
  | n, d :: ds => D.fit n d && D.fits n ds
end
/-- the items of a list or tuple, by the store where it is placed -/
def seqOf (s : Sto) : D → Option (List D)
  | .tup ds => some ds
  | .lst ds => some ds
  | .ref n => match s[n]? with
    | some (.lst ds) => some ds
    | _ => none
  | _ => none
/-- a placed list as the list that it is -/
def view (s : Sto) : D → D
  | .ref n => match s[n]? with
    | some (.lst ds) => .lst ds
    | _ => .ref n
  | d => d
def isFlat : D → Bool
  | .non | .bl _ | .int _ | .str _ => true
  | _ => false
/-- the place of an index, from either end -/
def place (n : Nat) (i : Int) : Option Nat :=
  if 0 ≤ i then (if i < n then some i.toNat else none) else if -(n : Int) ≤ i then some (i + n).toNat else none

/-! ### operators -/
abbrev Op2 := Sto → D → D → Option D
abbrev Op1 := Sto → D → Option D
def eqD (a b : D) : Option Bool :=
  match a, b with
  | .lst [], .lst [] => some true
  | .lst [], .lst (_ :: _) => some false
  | .lst (_ :: _), .lst [] => some false
  | a, b => if a.fit 60 && b.fit 60 then some (a.eqv b) else none
def opEq : Op2 := fun s x y => (eqD (view s x) (view s y)).map D.bl
def opNe : Op2 := fun s x y => (eqD (view s x) (view s y)).map fun b => D.bl (!b)
def opAdd : Op2 := fun _ x y =>
  match x, y with
  | .int i, .int j => some (.int (i + j))
  | .str a, .str b => if a.length + b.length ≤ cap then some (.str (a ++ b)) else none
  | .tup a, .tup b => if a.length + b.length ≤ cap then some (.tup (a ++ b)) else none
  | _, _ => none
def opSub : Op2 := fun _ x y =>
  match x, y with
  | .int i, .int j => some (.int (i - j))
  | _, _ => none
def smallI (i : Int) : Bool := decide (-(2 ^ 64) < i) && decide (i < 2 ^ 64)
def opMul : Op2 := fun _ x y =>
  match x, y with
  | .int i, .int j => if smallI i || smallI j then some (.int (i * j)) else none
  | _, _ => none
/-- a divisor that is positive and below 2 ^ 30; the number of any size -/
def opDiv : Op2 := fun _ x y =>
  match x, y with
  | .int i, .int j => if 0 < j ∧ j < 1073741824 then some (.int (i / j)) else none
  | _, _ => none
def opMod : Op2 := fun _ x y =>
  match x, y with
  | .int i, .int j => if 0 < j then some (.int (i % j)) else none
  | _, _ => none
def opPow : Op2 := fun _ x y =>
  match x, y with
  | .int i, .int j => if 0 ≤ j ∧ j ≤ 1000 ∧ i.natAbs < 2 ^ 64 then some (.int (i ^ j.toNat)) else none
  | _, _ => none
def opCmp (p : Int → Int → Bool) : Op2 := fun _ x y =>
  match x, y with
  | .int i, .int j => some (.bl (p i j))
  | _, _ => none
abbrev opLt : Op2 := opCmp fun i j => decide (i < j)
abbrev opLe : Op2 := opCmp fun i j => decide (i ≤ j)
abbrev opGt : Op2 := opCmp fun i j => decide (j < i)
abbrev opGe : Op2 := opCmp fun i j => decide (j ≤ i)
/-- a flat thing in a list or tuple of flat things; one sign in a text -/
def inD (s : Sto) (x y : D) : Option Bool :=
  match x, y with
  | .str [c], .str z => some (decide (c ∈ z))
  | _, _ => match seqOf s y with
    | some ds => if isFlat x && ds.all isFlat then some (ds.any fun d => d.eqv x) else none
    | none => none
def opIn : Op2 := fun s x y => (inD s x y).map D.bl
def opNotIn : Op2 := fun s x y => (inD s x y).map fun b => D.bl (!b)
def isNon : D → Bool | .non => true | _ => false
def opIsN : Op1 := fun _ x => some (.bl (isNon x))
def opNotN : Op1 := fun _ x => some (.bl (!isNon x))
def ixD (ds : List D) (i : Int) : Option D := (place ds.length i).bind fun k => ds[k]?
def opIx : Op2 := fun s x y =>
  match x, y with
  | .str z, .int i => if z.length ≤ cap then (place z.length i).bind fun k => (z[k]?).map fun c => D.str [c] else none
  | .scr ns, .int i => (place ns.length i).bind fun k => (ns[k]?).map D.int
  | _, .int i => (seqOf s x).bind fun ds => ixD ds i
  | _, _ => none
def opLen : Op1 := fun s x =>
  match x with
  | .str z => if z.length ≤ cap then some (.int z.length) else none
  | .scr ns => some (.int ns.length)
  | _ => (seqOf s x).map fun ds => .int ds.length
/-- the number that written figures tell -/
def figs (cs : List Nat) : Nat := cs.foldl (fun n c => n * 10 + (c - 48)) 0
def isFig (c : Nat) : Bool := decide (48 ≤ c) && decide (c ≤ 57)
def opIntOf : Op1 := fun _ x =>
  match x with
  | .int i => some (.int i)
  | .bl b => some (.int (if b then 1 else 0))
  | .str cs => if cs ≠ [] ∧ cs.length ≤ 9 ∧ cs.all isFig = true then some (.int (figs cs : Nat)) else none
  | _ => none
/-- the signs of a number -/
def signs (i : Int) : List Nat := (toString i).toList.map Char.toNat
def opStrOf : Op1 := fun _ x =>
  match x with
  | .int i => if smallI i then some (.str (signs i)) else none
  | _ => none
def kGet (tab : List (List Nat × D)) : Op1 := fun _ x =>
  match x with
  | .str cs => tab.lookup cs
  | _ => none
def kIn (tab : List (List Nat × D)) : Op1 := fun _ x =>
  match x with
  | .str cs => some (.bl (tab.lookup cs).isSome)
  | _ => none
def joinC (sep : List Nat) : List (List Nat) → List Nat
  | [] => []
  | [x] => x
  | x :: y :: r => x ++ sep ++ joinC sep (y :: r)
def strsOf : List D → Option (List (List Nat))
  | [] => some []
  | .str x :: r => (strsOf r).map fun xs => x :: xs
  | _ :: _ => none
def opJoin : Op2 := fun s x y =>
  match x with
  | .str sep => (seqOf s y).bind fun ds => (strsOf ds).bind fun xs => if sep.length ≤ 10 ∧ xs.length ≤ 10000 ∧ (xs.map List.length).sum ≤ cap then some (.str (joinC sep xs)) else none
  | _ => none
/-- cut at each of a sign -/
def cutC (c : Nat) : List Nat → List (List Nat)
  | [] => [[]]
  | x :: r => if x = c then [] :: cutC c r else (match cutC c r with
    | [] => [[x]]
    | y :: ys => (x :: y) :: ys)
def opSplit : Op2 := fun _ x y =>
  match x, y with
  | .str a, .str [c] => if a.length ≤ cap then some (.lst ((cutC c a).map .str)) else none
  | _, _ => none
/-- x[i:], x[:-1] and the like -/
def partIx (n : Nat) (d : Nat) : Option Int → Nat
  | none => d
  | some i => if i < 0 then (i + (n : Int)).toNat else min i.toNat n
def cutD (ds : List D) (lo hi : Option Int) : List D := (ds.drop (partIx ds.length 0 lo)).take (partIx ds.length ds.length hi - partIx ds.length 0 lo)
/-- list(..), of a list or a tuple -/
def opTuple : Op1 := fun s x => (seqOf s x).map .tup
inductive Ki where
  | non | bool | int | str | tuple | list
  deriving DecidableEq
def kindOf (s : Sto) : D → Option Ki
  | .non => some .non
  | .bl _ => some .bool
  | .int _ => some .int
  | .str _ => some .str
  | .tup _ => some .tuple
  | .lst _ => some .list
  | .scr _ => some .list
  | .ref n => match s[n]? with
    | some (.lst _) => some .list
    | _ => none
def Ki.isA : Ki → Ki → Bool
  | .non, .non | .bool, .bool | .int, .int | .str, .str | .tuple, .tuple | .list, .list | .bool, .int => true
  | _, _ => false
def opKind (t : Ki) : Op1 := fun s x => (kindOf s x).map fun k => .bl (k.isA t)

/-! ### expressions -/
def eVar (i : Nat) : ME := fun env s => match env[i]? with | some (.val d) => .ok d s | _ => .stk
def eBor (i : Nat) : ME := fun env s => match env[i]? with | some (.val d) => .ok d s | some (.own ds) => .ok (.lst ds) s | _ => .stk
def eC (d : D) : ME := fun _ s => .ok d s
def eOp2 (g : Op2) (a b : ME) : ME := fun env s => (a env s).bind fun x s1 => (b env s1).bind fun y s2 => .ofO (g s2 x y) s2
def eOp1 (g : Op1) (a : ME) : ME := fun env s => (a env s).bind fun x s1 => .ofO (g s1 x) s1
def aNil : MA := fun _ s => .ok [] s
def aCons (a : ME) (r : MA) : MA := fun env s => (a env s).bind fun x s1 => (r env s1).bind fun xs s2 => .ok (x :: xs) s2
abbrev MO := Env → Sto → Res (Option Int)
def oNone : MO := fun _ s => .ok none s
def oSome (a : ME) : MO := fun env s => (a env s).bind fun x s1 => match x with | .int i => .ok (some i) s1 | _ => .stk
/-- a slice of a list, of a tuple -/
def lSl (a : ME) (lo hi : MO) : MA := fun env s => (a env s).bind fun x s1 => (lo env s1).bind fun l s2 => (hi env s2).bind fun h s3 => match view s3 x with | .lst ds => .ok (cutD ds l h) s3 | _ => .stk
def eSlT (a : ME) (lo hi : MO) : ME := fun env s => (a env s).bind fun x s1 => (lo env s1).bind fun l s2 => (hi env s2).bind fun h s3 => match x with | .tup ds => .ok (.tup (cutD ds l h)) s3 | _ => .stk
/-- list(..) of a list or a tuple -/
def lOf (a : ME) : MA := fun env s => (a env s).bind fun x s1 => .ofO (seqOf s1 x) s1
def eTup (a : MA) : ME := fun env s => (a env s).bind fun ds s1 => if ds.length ≤ 1000 then .ok (.tup ds) s1 else .stk
def lLst (a : MA) : MA := fun env s => (a env s).bind fun ds s1 => if ds.length ≤ 1000 then .ok ds s1 else .stk
def eFrz (l : MA) : ME := fun env s => (l env s).bind fun ds s1 => .ok (.lst ds) s1
def ePlc (l : MA) : ME := fun env s => (l env s).bind fun ds s1 => .ok (.ref s1.length) (s1 ++ [.lst ds])
def asB (d : D) (s : Sto) : Res Bool := match d with | .bl b => .ok b s | _ => .stk
@[simp] theorem asB_bl (b : Bool) (s : Sto) : asB (.bl b) s = .ok b s := rfl
def tVal (a : ME) : MT := fun env s => (a env s).bind asB
def tNot (t : MT) : MT := fun env s => (t env s).bind fun b s1 => .ok (!b) s1
def tAnd (t u : MT) : MT := fun env s => (t env s).bind fun b s1 => if b then u env s1 else .ok false s1
def tOr (t u : MT) : MT := fun env s => (t env s).bind fun b s1 => if b then .ok true s1 else u env s1
def eAnd (a b : ME) : ME := fun env s => ((a env s).bind asB).bind fun c s1 => if c then b env s1 else .ok (.bl false) s1
def eOr (a b : ME) : ME := fun env s => ((a env s).bind asB).bind fun c s1 => if c then .ok (.bl true) s1 else b env s1
def eNot (a : ME) : ME := fun env s => ((a env s).bind asB).bind fun c s1 => .ok (.bl (!c)) s1
def eIf (t : MT) (a b : ME) : ME := fun env s => (t env s).bind fun c s1 => if c then a env s1 else b env s1
/-- a < b < c by two operators -/
def eChain (g h : Op2) (a b c : ME) : ME := fun env s => (a env s).bind fun x s1 => (b env s1).bind fun y s2 => (Res.ofO (g s2 x y) s2).bind fun z s3 => (asB z s3).bind fun k s4 =>
  if k then (c env s4).bind fun w s5 => .ofO (h s5 y w) s5 else .ok (.bl false) s4
abbrev Fn := List D → Sto → Res D
def eCall (g : Fn) (a : MA) : ME := fun env s => (a env s).bind g
def fieldOf (s : Sto) (c : Nat) (f : String) : D → Option D
  | .ref n => match s[n]? with
    | some (.ins c' fs) => if c' = c then fs.lookup f else none
    | _ => none
  | _ => none
def eFld (c : Nat) (o : ME) (f : String) : ME := fun env s => (o env s).bind fun x s1 => .ofO (fieldOf s1 c f x) s1
/-- whether an object is of a class, without a field of a name -/
def isOf (s : Sto) (c : Nat) (m : String) : D → Bool
  | .ref n => match s[n]? with
    | some (.ins c' fs) => decide (c' = c) && (fs.lookup m).isNone
    | _ => false
  | _ => false
def eMeth (c : Nat) (m : String) (g : Fn) (o : ME) (a : MA) : ME := fun env s => (o env s).bind fun x s1 => if isOf s1 c m x then (a env s1).bind fun ds s2 => g (x :: ds) s2 else .stk
def eNew (c : Nat) (g : Fn) (a : MA) : ME := fun env s => (a env s).bind fun ds s1 => (g (.ref s1.length :: ds) (s1 ++ [.ins c []])).bind fun d s2 => match d with | .non => .ok (.ref s1.length) s2 | _ => .stk

/-! ### targets, walked things -/
abbrev MG := D → Env → Option Env
def gNm (i : Nat) : MG := fun d env => some (env.set i (.val d))
def gAll : List MG → List D → Env → Option Env
  | [], [], env => some env
  | g :: gs, d :: ds, env => (g d env).bind fun e => gAll gs ds e
  | _, _, _ => none
def gTp (gs : List MG) : MG := fun d env => match d with | .tup ds => gAll gs ds env | _ => none
/-- a, *b, c = a list or a tuple -/
def gSt (gs hs : List MG) (j : Nat) : MG := fun d env =>
  match d with
  | .tup ds | .lst ds => if gs.length + hs.length ≤ ds.length ∧ ds.length ≤ 16000 then
      (gAll gs (ds.take gs.length) env).bind fun e1 => gAll hs ((ds.drop gs.length).drop (ds.length - gs.length - hs.length)) (e1.set j (.val (.lst ((ds.drop gs.length).take (ds.length - gs.length - hs.length)))))
    else none
  | _ => none
structure Src where
  ds : List D
  pin : Option Nat
/-- the item of a turn: of a placed list the one that lies there now -/
def cur (x : Src) (s : Sto) (i : Nat) (d : D) : Option D :=
  match x.pin with
  | none => some d
  | some n => match s[n]? with
    | some (.lst es) => if es.length = x.ds.length then es[i]? else none
    | _ => none
def fin (x : Src) (s : Sto) : Bool :=
  match x.pin with
  | none => true
  | some n => match s[n]? with
    | some (.lst es) => decide (es.length = x.ds.length)
    | _ => false
abbrev MI := Env → Sto → Res Src
def srcOf (s : Sto) : D → Option Src
  | .tup ds => some ⟨ds, none⟩
  | .lst ds => some ⟨ds, none⟩
  | .scr ns => some ⟨ns.map .int, none⟩
  | .ref n => match s[n]? with
    | some (.lst ds) => some ⟨ds, some n⟩
    | _ => none
  | _ => none
def iSeq (a : ME) : MI := fun env s => (a env s).bind fun x s1 => .ofO (srcOf s1 x) s1
def intsD (lo : Int) (n : Nat) : List D := (List.range n).map fun (k : Nat) => D.int (lo + (k : Int))
def iRng (a : ME) : MI := fun env s => (a env s).bind fun x s1 => match x with | .int j => if -(cap : Int) ≤ j ∧ j ≤ cap then .ok ⟨intsD 0 j.toNat, none⟩ s1 else .stk | _ => .stk
def iEnum (a : ME) : MI := fun env s => (a env s).bind fun x s1 => match x with
  | .lst ds => .ok ⟨ds.mapIdx fun i d => .tup [.int i, d], none⟩ s1
  | _ => .stk
def iZip (a b : ME) : MI := fun env s => (a env s).bind fun x s1 => (b env s1).bind fun y s2 => match seqOf s2 x, seqOf s2 y with
  | some ds, some es => .ok ⟨List.zipWith (fun d e => .tup [d, e]) ds es, none⟩ s2
  | _, _ => .stk
/-- nothing raised within a comprehension -/
def calm {α : Type} (m : Res α) : Res α := match m with | .ok a s => .ok a s | _ => .stk
@[simp] theorem calm_ok {α : Type} (a : α) (s : Sto) : calm (.ok a s) = .ok a s := rfl
def wipeE (env : Env) : List Nat → Env
  | [] => env
  | v :: vs => (wipeE env vs).set v .emp
def lcL (x : Src) (g : MG) (t : MT) (e : ME) (env : Env) : Nat → List D → Sto → Res (List D)
  | _, [], s => if fin x s then .ok [] s else .stk
  | i, d :: ds, s => (Res.ofO ((cur x s i d).bind fun d => g d env) s).bind fun env1 s => (calm (t env1 s)).bind fun b s1 =>
    if b then (calm (e env1 s1)).bind fun y s2 => (lcL x g t e env (i + 1) ds s2).bind fun ys s3 => .ok (y :: ys) s3
    else lcL x g t e env (i + 1) ds s1
def tYesM : MT := fun _ s => .ok true s
def lLc (mi : MI) (g : MG) (t : MT) (e : ME) (vs : List Nat) : MA := fun env s => (mi env s).bind fun x s1 => if x.ds.length ≤ cap then lcL x g t e (wipeE env vs) 0 x.ds s1 else .stk

/-! ### statements -/
inductive SRes where
  | nx (e : Env) (s : Sto) | rt (d : D) (s : Sto) | bk (e : Env) (s : Sto) | ct (e : Env) (s : Sto) | ex (x : Exn) (e : Env) (s : Sto) | stk
abbrev MS := Env → Sto → SRes
/-- an expression's answer, then on -/
def Res.go {α : Type} (m : Res α) (env : Env) (f : α → Sto → SRes) : SRes :=
  match m with
  | .ok a s => f a s
  | .exc x s => .ex x env s
  | .stk => .stk
@[simp] theorem Res.go_ok {α : Type} (a : α) (s : Sto) (env : Env) (f : α → Sto → SRes) : (Res.ok a s).go env f = f a s := rfl
@[simp] theorem Res.go_exc {α : Type} (x : Exn) (s : Sto) (env : Env) (f : α → Sto → SRes) : (Res.exc x s : Res α).go env f = .ex x env s := rfl
def SRes.andThen (r : SRes) (f : Env → Sto → SRes) : SRes :=
  match r with
  | .nx e s => f e s
  | r => r
@[simp] theorem SRes.andThen_nx (e : Env) (s : Sto) (f : Env → Sto → SRes) : (SRes.nx e s).andThen f = f e s := rfl
@[simp] theorem SRes.andThen_rt (d : D) (s : Sto) (f : Env → Sto → SRes) : (SRes.rt d s).andThen f = .rt d s := rfl
@[simp] theorem SRes.andThen_ex (x : Exn) (e : Env) (s : Sto) (f : Env → Sto → SRes) : (SRes.ex x e s).andThen f = .ex x e s := rfl
@[simp] theorem SRes.andThen_bk (e : Env) (s : Sto) (f : Env → Sto → SRes) : (SRes.bk e s).andThen f = .bk e s := rfl
@[simp] theorem SRes.andThen_ct (e : Env) (s : Sto) (f : Env → Sto → SRes) : (SRes.ct e s).andThen f = .ct e s := rfl
def sNext : MS := fun e s => .nx e s
def sBrk : MS := fun e s => .bk e s
def sCnt : MS := fun e s => .ct e s
def sSeq (a b : MS) : MS := fun e s => (a e s).andThen b
def putE (g : MG) (d : D) (e : Env) (s : Sto) : SRes := match g d e with | some e' => .nx e' s | none => .stk
def sAsg (m : ME) (g : MG) : MS := fun e s => (m e s).go e fun d s1 => putE g d e s1
def sOwn (l : MA) (i : Nat) : MS := fun e s => (l e s).go e fun ds s1 => .nx (e.set i (.own ds)) s1
def sApp (i : Nat) (m : ME) : MS := fun e s => match e[i]? with
  | some (.own ds) => (m e s).go e fun d s1 => if ds.length < cap then .nx (e.set i (.own (ds ++ [d]))) s1 else .stk
  | _ => .stk
def sExt (i : Nat) (l : ME) : MS := fun e s => match e[i]? with
  | some (.own ds) => (l e s).go e fun x s1 => match view s1 x with
    | .lst es => if ds.length + es.length < cap then .nx (e.set i (.own (ds ++ es))) s1 else .stk
    | _ => .stk
  | _ => .stk
/-- a list of the frame's own becomes a value -/
def sFrz (i : Nat) : MS := fun e s => match e[i]? with
  | some (.own ds) => .nx (e.set i (.val (.lst ds))) s
  | _ => .stk
def sDrop (m : ME) : MS := fun e s => (m e s).go e fun _ s1 => .nx e s1
def sRet (m : ME) : MS := fun e s => (m e s).go e fun d s1 => .rt d s1
def sIf (t : MT) (a b : MS) : MS := fun e s => (t e s).go e fun c s1 => if c then a e s1 else b e s1
def forL (x : Src) (g : MG) (body : MS) : Nat → List D → Env → Sto → SRes
  | _, [], e, s => if fin x s then .nx e s else .stk
  | i, d :: ds, e, s => match (cur x s i d).bind fun d => g d e with
    | none => .stk
    | some e1 => match body e1 s with
      | .nx e2 s2 => forL x g body (i + 1) ds e2 s2
      | .ct e2 s2 => forL x g body (i + 1) ds e2 s2
      | .bk e2 s2 => .nx e2 s2
      | r => r
def sFor (mi : MI) (g : MG) (body : MS) : MS := fun e s => (mi e s).go e fun x s1 => forL x g body 0 x.ds e s1
def whL (t : MT) (body : MS) : Nat → Env → Sto → SRes
  | 0, _, _ => .stk
  | n + 1, e, s => (t e s).go e fun c s1 => if c then (match body e s1 with
      | .nx e2 s2 => whL t body n e2 s2
      | .ct e2 s2 => whL t body n e2 s2
      | .bk e2 s2 => .nx e2 s2
      | r => r) else .nx e s1
def sWhile (n : Nat) (t : MT) (body : MS) : MS := whL t body n
/-- o.f = e -/
def putF' (f : String) (v : D) : List (String × D) → List (String × D)
  | [] => [(f, v)]
  | (g, w) :: r => if g = f then (g, v) :: r else (g, w) :: putF' f v r
def sFld (c : Nat) (o m : ME) (f : String) : MS := fun e s => (m e s).go e fun d s1 => (o e s1).go e fun x s2 => match x with
  | .ref n => match s2[n]? with
    | some (.ins c' fs) => if c' = c ∧ fs.length < 100 then .nx e (s2.set n (.ins c (putF' f d fs))) else .stk
    | _ => .stk
  | _ => .stk
/-- placed lists: append, pop -/
def eAppP (o m : ME) : ME := fun env s => (o env s).bind fun x s1 => (m env s1).bind fun d s2 => match x with
  | .ref n => match s2[n]? with
    | some (.lst ds) => if ds.length < cap then .ok .non (s2.set n (.lst (ds ++ [d]))) else .stk
    | _ => .stk
  | _ => .stk
def ePopP (o : ME) : ME := fun env s => (o env s).bind fun x s1 => match x with
  | .ref n => match s1[n]? with
    | some (.lst ds) => match ds[ds.length - 1]? with
      | some d => .ok d (s1.set n (.lst ds.dropLast))
      | none => .stk
    | _ => .stk
  | _ => .stk
/-- o[i] = e, of a placed list -/
def sSet (o i m : ME) : MS := fun e s => (m e s).go e fun d s1 => (o e s1).go e fun x s2 => (i e s2).go e fun k s3 => match x, k with
  | .ref n, .int k => match s3[n]? with
    | some (.lst ds) => match place ds.length k with
      | some j => .nx e (s3.set n (.lst (ds.set j d)))
      | none => .stk
    | _ => .stk
  | _, _ => .stk
/-- a def's body run: what it hands back -/
def runB (k n : Nat) (body : MS) : Fn := fun ds s => if ds.length = k then (match body (ds.map .val ++ List.replicate (n - k) .emp) s with
  | .nx _ s => .ok .non s
  | .rt d s => .ok d s
  | .ex x _ s => .exc x s
  | _ => .stk) else .stk
/-! ### more words -/
def opNeg : Op1 := fun _ x => match x with | .int i => some (.int (-i)) | _ => none
/-- each sign of a text -/
def iStrI (a : ME) : MI := fun env s => (a env s).bind fun x s1 => match x with | .str cs => .ok ⟨cs.map fun c => .str [c], none⟩ s1 | _ => .stk
/-- two new lists in one -/
def lAdd (a b : ME) : MA := fun env s => (a env s).bind fun x s1 => (b env s1).bind fun y s2 => match view s2 x, view s2 y with
  | .lst xs, .lst ys => if xs.length + ys.length ≤ cap then .ok (xs ++ ys) s2 else .stk
  | _, _ => .stk
def cutAt (u : List Nat) (y : D) (s : Sto) : Res (List D) := match y with
  | .str [c] => if u.length ≤ cap ∧ c < 256 then .ok ((cutC c u).map D.str) s else .stk
  | _ => .stk
def lSplit (a b : ME) : MA := fun env s => (a env s).bind fun x s1 => match x with | .str u => (b env s1).bind fun y s2 => cutAt u y s2 | _ => .stk
def joinAt (sep : List Nat) (y : D) (s : Sto) : Res D := match seqOf s y with
  | some ds => (match strsOf ds with
    | some xs => if sep.length ≤ 10 ∧ xs.length ≤ 10000 ∧ (xs.map List.length).sum ≤ cap then .ok (.str (joinC sep xs)) s else .stk
    | none => .stk)
  | none => .stk
def eJoin (a b : ME) : ME := fun env s => (a env s).bind fun x s1 => match x with | .str u => (b env s1).bind fun y s2 => joinAt u y s2 | _ => .stk
def eTupRg (a : ME) : ME := fun env s => (a env s).bind fun x s1 => match x with | .int j => if 0 ≤ j ∧ j ≤ cap then .ok (.tup (intsD 0 j.toNat)) s1 else .stk | _ => .stk
/-- never read -/
def sNever : MS := fun _ _ => .stk
/-- two names at once -/
def sPar (i j : Nat) (a : MA) : MS := fun e s => (a e s).go e fun ds s1 => match ds with | [d, b] => .nx ((e.set i (.val d)).set j (.val b)) s1 | _ => .stk
/-- a written dict asked with a default -/
def kGetD (tab : List (List Nat × D)) : Op2 := fun _ x y => match x with | .str cs => some ((tab.lookup cs).getD y) | _ => none
def kNotIn (tab : List (List Nat × D)) : Op1 := fun _ x => match x with | .str cs => some (.bl (!(tab.lookup cs).isSome)) | _ => none
def keyEq : D → D → Bool
  | .int i, .int j => decide (i = j)
  | .str a, .str b => decide (a = b)
  | _, _ => false
def isKey : D → Bool | .int _ | .str _ => true | _ => false
def dLook (kvs : List (D × D)) (x : D) : Option D := (kvs.find? fun kv => keyEq kv.1 x).map (·.2)
def dPut (kvs : List (D × D)) (x y : D) : List (D × D) := if (kvs.any fun kv => keyEq kv.1 x) = true then kvs.map (fun kv => if keyEq kv.1 x then (kv.1, y) else kv) else kvs ++ [(x, y)]
def dMerge (a b : List (D × D)) : List (D × D) := b.foldl (fun acc kv => dPut acc kv.1 kv.2) a
def dicOf (s : Sto) : D → Option (List (D × D))
  | .ref n => match s[n]? with
    | some (.dic kvs) => some kvs
    | _ => none
  | _ => none
def opDGet : Op2 := fun s x y => if isKey y then (dicOf s x).bind fun kvs => dLook kvs y else none
def opDIn : Op2 := fun s x y => if isKey x then (dicOf s y).map fun kvs => .bl (dLook kvs x).isSome else none
def opDNotIn : Op2 := fun s x y => if isKey x then (dicOf s y).map fun kvs => .bl (!(dLook kvs x).isSome) else none
/-- {k: v, ..}, written pairs, placed -/
def pNil : Env → Sto → Res (List (D × D)) := fun _ s => .ok [] s
def pCons (k v : ME) (r : Env → Sto → Res (List (D × D))) : Env → Sto → Res (List (D × D)) := fun env s => (k env s).bind fun x s1 => (v env s1).bind fun y s2 => (r env s2).bind fun ps s3 => .ok ((x, y) :: ps) s3
def eDic (p : Env → Sto → Res (List (D × D))) : ME := fun env s => (p env s).bind fun ps s1 => if ps.all (fun kv => isKey kv.1) && decide (ps.length ≤ 15) then .ok (.ref s1.length) (s1 ++ [.dic (dMerge [] ps)]) else .stk
/-- d.update(e), two placed dicts -/
def refN : D → Option Nat | .ref n => some n | _ => none
def eUpd (a b : ME) : ME := fun env s => (a env s).bind fun x s1 => if (dicOf s1 x).isSome then (b env s1).bind fun y s2 => match refN x, refN y, dicOf s2 x, dicOf s2 y with
  | some n, some m, some p, some r => if n ≠ m ∧ p.length + r.length ≤ 1000 then .ok .non (s2.set n (.dic (dMerge p r))) else .stk
  | _, _, _, _ => .stk else .stk
abbrev FnK := List D → List D → Sto → Res D
/-- the made instance, behind its maker -/
def madeR (n : Nat) (r : Res D) : Res D := r.bind fun d s => match d with | .non => .ok (.ref n) s | _ => .stk
/-- an instance made with keywords -/
def eNewK (c : Nat) (g : FnK) (n m : Nat) (a k : MA) : ME := fun env s => (a env s).bind fun ds s1 => (k env s1).bind fun es s2 => if ds.length = n ∧ es.length = m then madeR s2.length (g (.ref s2.length :: ds) es (s2 ++ [.ins c []])) else .stk
/-- a call with keywords -/
def eCallK (g : FnK) (n m : Nat) (a k : MA) : ME := fun env s => (a env s).bind fun ds s1 => (k env s1).bind fun es s2 => if ds.length = n ∧ es.length = m then g ds es s2 else .stk
/-- zip of a tuple and a list -/
def zipTL (x y : D) (s : Sto) : Res Src := match x, y with
  | .tup ds, .lst es => .ok ⟨List.zipWith (fun d e => .tup [d, e]) ds es, none⟩ s
  | _, _ => .stk
def iZipTL (a b : ME) : MI := fun env s => (a env s).bind fun x s1 => (b env s1).bind fun y s2 => zipTL x y s2
/-! ### words of refusals and readers -/
def cntAt (ds : List D) (y : D) (s : Sto) : Res D := if y.fit 50 && D.fits 50 ds then .ok (.int ((ds.countP fun z => z.eqv y : Nat) : Int)) s else .stk
def idxAt (ds : List D) (y : D) (s : Sto) : Res D := if y.fit 50 && D.fits 50 ds then (match ds.findIdx? fun z => z.eqv y with | some j => .ok (.int (j : Nat)) s | none => .stk) else .stk
/-- x.count(y), x.index(y) of a list -/
def eCnt (a b : ME) : ME := fun env s => (a env s).bind fun x s1 => match x with | .lst ds => (b env s1).bind fun y s2 => cntAt ds y s2 | _ => .stk
def eIdx (a b : ME) : ME := fun env s => (a env s).bind fun x s1 => match x with | .lst ds => (b env s1).bind fun y s2 => idxAt ds y s2 | _ => .stk
def intsOf : List D → Option (List Int)
  | [] => some []
  | .int i :: r => (intsOf r).map fun is => i :: is
  | _ :: _ => none
/-- max(..) of a list of numbers -/
def opMax : Op1 := fun _ x => match x with | .lst ds => (match intsOf ds with | some (n :: ns) => some (.int (ns.foldl max n)) | _ => none) | _ => none
/-- a list so many times -/
def mulAt (x y : D) (s : Sto) : Res (List D) := match view s x, y with | .lst ds, .int k => if ds.length * k.toNat ≤ cap ∧ -1000 ≤ k ∧ k ≤ 1000 then .ok (List.replicate k.toNat ds).flatten s else .stk | _, _ => .stk
def lMul (a b : ME) : MA := fun env s => (a env s).bind fun x s1 => (b env s1).bind fun y s2 => mulAt x y s2
/-- a piece of a text -/
def cutS0 (cs : List Nat) (lo hi : Option Int) : List Nat := (cs.drop (partIx cs.length 0 lo)).take (partIx cs.length cs.length hi - partIx cs.length 0 lo)
def cutSAt (x : D) (l h : Option Int) (s : Sto) : Res D := match x with | .str cs => if cs.length ≤ cap then .ok (.str (cutS0 cs l h)) s else .stk | _ => .stk
def eSlS (a : ME) (lo hi : MO) : ME := fun env s => (a env s).bind fun x s1 => (lo env s1).bind fun l s2 => (hi env s2).bind fun h s3 => cutSAt x l h s3
/-- d[k] = e, of a placed dict -/
def putAt (e : Env) (x k d : D) (s : Sto) : SRes := match x with
  | .ref n => (match s[n]? with
    | some (.dic kvs) => if isKey k = true ∧ kvs.length < 1000 then .nx e (s.set n (.dic (dPut kvs k d))) else .stk
    | _ => .stk)
  | _ => .stk
def sSetD (o i m : ME) : MS := fun e s => (m e s).go e fun d s1 => (o e s1).go e fun x s2 => (i e s2).go e fun k s3 => putAt e x k d s3
/-- two names at once, the first one a list of the frame's own -/
def sParO (i j : Nat) (l : MA) (m : ME) : MS := fun e s => (l e s).go e fun ds s1 => (m e s1).go e fun b s2 => .nx ((e.set i (.own ds)).set j (.val b)) s2
/-! ### refusals -/
def eIsX (i : Nat) (tab : List (Nat × Bool)) : ME := fun env s => match env[i]? with
  | some (.exn x) => (match tab.lookup x.cls with | some b => .ok (.bl b) s | none => .stk)
  | _ => .stk
def eXf (i : Nat) (f : String) (cs : List Nat) : ME := fun env s => match env[i]? with
  | some (.exn x) => if x.cls ∈ cs then (match x.fs.lookup f with | some d => .ok d s | none => .stk) else .stk
  | _ => .stk
def eTold (me : ME) (mh : MS) (N j : Nat) (cs : List Nat) : ME := fun env s => match me env s with
  | .ok d s1 => .ok d s1
  | .exc x s1 => if x.cls ∈ cs then (match mh ((List.replicate N .emp).set j (.exn x)) s1 with | .rt d s2 => .ok d s2 | _ => .stk) else .stk
  | .stk => .stk
def sRz (c : Nat) : MS := fun e s => .ex ⟨c, []⟩ e s
def sRs (c : Nat) (fs : List String) (ma : MA) : MS := fun e s => (ma e s).go e fun ds s1 => if ds.length = fs.length then .ex ⟨c, (fs.zip ds).reverse⟩ e s1 else .stk
/-- enumerate of a tuple -/
def iEnumT (a : ME) : MI := fun env s => (a env s).bind fun x s1 => match x with
  | .tup ds => .ok ⟨ds.mapIdx fun i d => .tup [.int i, d], none⟩ s1
  | _ => .stk
/-! ### two walks in one comprehension -/
def lcL2 (x : Src) (g : MG) (t : MT) (mi1 : MI) (g1 : MG) (t1 : MT) (e : ME) (vs1 : List Nat) (env : Env) : Nat → List D → Sto → Res (List D)
  | _, [], s => if fin x s then .ok [] s else .stk
  | i, d :: ds, s => (Res.ofO ((cur x s i d).bind fun d => g d env) s).bind fun env1 s => (calm (t env1 s)).bind fun b s1 =>
    if b then (calm (mi1 env1 s1)).bind fun x1 s2 => if x1.ds.length ≤ 1000 then (lcL x1 g1 t1 e (wipeE env1 vs1) 0 x1.ds s2).bind fun ys s3 => (lcL2 x g t mi1 g1 t1 e vs1 env (i + 1) ds s3).bind fun zs s4 => .ok (ys ++ zs) s4 else .stk
    else lcL2 x g t mi1 g1 t1 e vs1 env (i + 1) ds s1
def lLc2 (mi : MI) (g : MG) (t : MT) (mi1 : MI) (g1 : MG) (t1 : MT) (e : ME) (vs vs1 : List Nat) : MA := fun env s => (mi env s).bind fun x s1 => if x.ds.length ≤ 1000 then lcL2 x g t mi1 g1 t1 e vs1 (wipeE env vs) 0 x.ds s1 else .stk
/-! ### placed lists -/
def plOf (s : Sto) : D → Option (List D)
  | .ref n => match s[n]? with
    | some (.lst ds) => some ds
    | _ => none
  | _ => none
def putL (x : D) (ds : List D) (s : Sto) : Sto := match x with | .ref n => s.set n (.lst ds) | _ => s
/-- a placed list, a thing read, then what becomes of it -/
def plAt (o : ME) (f : D → Env → Sto → Res D) : ME := fun env s => (o env s).bind fun x s1 => if (plOf s1 x).isSome then f x env s1 else .stk
def appAt (x d : D) (s : Sto) : Res D := match plOf s x with | some ds => if ds.length < cap then .ok .non (putL x (ds ++ [d]) s) else .stk | none => .stk
def extAt (x d : D) (s : Sto) : Res D := match plOf s x, view s d with | some ds, .lst es => if ds.length + es.length < cap then .ok .non (putL x (ds ++ es) s) else .stk | _, _ => .stk
def popAt (x : D) (s : Sto) : Res D := match plOf s x with | some ds => (match ds[ds.length - 1]? with | some d => .ok d (putL x ds.dropLast s) | none => .stk) | none => .stk
def clrAt (x : D) (s : Sto) : Res D := match plOf s x with | some _ => .ok .non (putL x [] s) | none => .stk
def eAppL (o m : ME) : ME := plAt o fun x env s => (m env s).bind fun d s2 => appAt x d s2
def eExtL (o m : ME) : ME := plAt o fun x env s => (m env s).bind fun d s2 => extAt x d s2
def ePopL (o : ME) : ME := plAt o fun x _ s => popAt x s
def eClrL (o : ME) : ME := plAt o fun x _ s => clrAt x s
/-! ### lists of other things -/
def opMin : Op2 := fun _ x y => match x, y with | .int i, .int j => some (.int (if j < i then j else i)) | _, _ => none
/-- put where it belongs, once -/
def insU (n : Int) : List Int → List Int
  | [] => [n]
  | m :: r => if n < m then n :: m :: r else if n = m then m :: r else m :: insU n r
def sortU (ns : List Int) : List Int := ns.foldr insU []
def setAt (x : D) (s : Sto) : Res (List D) := match x with
  | .tup ds => (match intsOf ds with | some ns => if ns.length < 64 then .ok ((sortU ns).map D.int) s else .stk | none => .stk)
  | _ => .stk
/-- sorted(set(t)), t a tuple of numbers -/
def lSrtS (a : ME) : MA := fun env s => (a env s).bind fun x s1 => setAt x s1
def enumAt (x : D) (s : Sto) : Res (List D) := match x with
  | .lst ds => if ds.length ≤ cap then .ok (ds.mapIdx fun i d => .tup [.int i, d]) s else .stk
  | _ => .stk
/-- list(enumerate(x)), x a list -/
def lEnum (a : ME) : MA := fun env s => (a env s).bind fun x s1 => enumAt x s1
end MP

/-! How the mini machine's data stand in the abstract heap of the layer, and what it means that a reading follows it. Own text. -/
namespace MP
open PySem L2

/-- an abstract state: the tracked heap, what trees keep away from, where the placed objects lie -/
structure Stt where
  H : Hp
  L : Addr → Prop
  r : List Addr

/-- not a table of code objects: such grow -/
def NT (o : HO) : Prop := ∀ ps, o ≠ .tbl ps
/-- untracked, or a table of code objects -/
def Fr (q : Stt) (a : Addr) : Prop := ∀ o, q.H a = some o → ¬ NT o
theorem Fr.of {q : Stt} {a : Addr} (h : q.H a = none) : Fr q a := fun o e => by rw [h] at e; cases e
theorem Fr.ne {q : Stt} {p a : Addr} {o : HO} (f : Fr q p) (e : q.H a = some o) (t : NT o) : a ≠ p := fun z => by subst z; exact f o e t
structure Ext (q q' : Stt) : Prop where
  keep : ∀ a o, q.H a = some o → a ∉ q.r → NT o → q'.H a = some o
  mono : ∀ a, q.L a → q'.L a
  u : ∀ a o, q.H a = some o → ¬ q.L a → NT o → q'.H a = some o ∧ ¬ q'.L a
  pre : ∃ t, q'.r = q.r ++ t
  new : ∀ a, a ∈ q'.r → a ∈ q.r ∨ Fr q a
  th : ∀ a o, q.H a = some o → NT o → ∃ o', q'.H a = some o' ∧ NT o'
structure WF (q : Stt) : Prop where
  nd : q.r.Nodup
  live : ∀ a, a ∈ q.r → q.L a
  trk : ∀ a, q.L a → ∃ o, q.H a = some o ∧ NT o
/-- what trees lean on is kept -/
structure Kp (q q' : Stt) : Prop where
  u : ∀ a o, q.H a = some o → ¬ q.L a → NT o → q'.H a = some o ∧ ¬ q'.L a
  pre : ∃ t, q'.r = q.r ++ t

theorem pre_trans {a b c : List Addr} (x : ∃ t, b = a ++ t) (y : ∃ t, c = b ++ t) : ∃ t, c = a ++ t := by
  obtain ⟨t, e⟩ := x
  obtain ⟨u, f⟩ := y
  exact ⟨t ++ u, by rw [f, e, List.append_assoc]⟩
theorem Ext.refl (q : Stt) : Ext q q := ⟨fun _ _ h _ _ => h, fun _ h => h, fun _ _ h n _ => ⟨h, n⟩, ⟨[], by simp⟩, fun _ h => .inl h, fun _ o h t => ⟨o, h, t⟩⟩
theorem Ext.trans {a b c : Stt} (x : Ext a b) (y : Ext b c) : Ext a c where
  keep := fun p o h n t => y.keep p o (x.keep p o h n t) (fun hb => (x.new p hb).elim n fun z => z o h t) t
  mono := fun p h => y.mono p (x.mono p h)
  u := fun p o h n t => y.u p o (x.u p o h n t).1 (x.u p o h n t).2 t
  pre := pre_trans x.pre y.pre
  new := fun p h => (y.new p h).elim (fun z => x.new p z) fun z => by
    refine .inr fun o e t => ?_
    obtain ⟨o', e', t'⟩ := x.th p o e t
    exact z o' e' t'
  th := fun p o h t => let ⟨o', h', t'⟩ := x.th p o h t; y.th p o' h' t'
theorem Ext.kp {a b : Stt} (x : Ext a b) : Kp a b := ⟨x.u, x.pre⟩
theorem Kp.refl (q : Stt) : Kp q q := ⟨fun _ _ h n _ => ⟨h, n⟩, ⟨[], by simp⟩⟩
theorem Kp.trans {a b c : Stt} (x : Kp a b) (y : Kp b c) : Kp a c :=
  ⟨fun p o h n t => y.u p o (x.u p o h n t).1 (x.u p o h n t).2 t, pre_trans x.pre y.pre⟩
theorem WF.no {q : Stt} (w : WF q) {a : Addr} (h : q.H a = none) : ¬ q.L a := fun z => by
  obtain ⟨o, e, _⟩ := w.trk a z
  rw [h] at e; cases e
theorem WF.noF {q : Stt} (w : WF q) {a : Addr} (h : Fr q a) : ¬ q.L a := fun z => let ⟨o, e, t⟩ := w.trk a z; h o e t
theorem WF.norF {q : Stt} (w : WF q) {a : Addr} (h : Fr q a) : a ∉ q.r := fun z => w.noF h (w.live a z)
theorem WF.nor {q : Stt} (w : WF q) {a : Addr} (h : q.H a = none) : a ∉ q.r := fun z => w.no h (w.live a z)
theorem WF.nor' {q : Stt} (w : WF q) {a : Addr} (h : ¬ q.L a) : a ∉ q.r := fun z => h (w.live a z)
/-- a new object of no concern -/
theorem Ext.new1 {q : Stt} (w : WF q) {p : Addr} {o : HO} (h : q.H p = none) : Ext q ⟨upd q.H p o, q.L, q.r⟩ :=
  ⟨fun a u e _ _ => by show upd q.H p o a = _; rw [upd_ne (ne_of_none e h)]; exact e, fun _ x => x,
   fun a u e n _ => ⟨by show upd q.H p o a = _; rw [upd_ne (ne_of_none e h)]; exact e, n⟩, ⟨[], by simp⟩, fun _ x => .inl x, fun a u e t => ⟨u, by show upd q.H p o a = _; rw [upd_ne (ne_of_none e h)]; exact e, t⟩⟩
theorem WF.new1 {q : Stt} (w : WF q) {p : Addr} {o : HO} (h : q.H p = none) : WF ⟨upd q.H p o, q.L, q.r⟩ :=
  ⟨w.nd, w.live, fun a l => by
    obtain ⟨u, e, t⟩ := w.trk a l
    exact ⟨u, by show upd q.H p o a = _; rw [upd_ne (ne_of_none e h)]; exact e, t⟩⟩

/-! ### data in the heap -/
def FT (K : PySem.W.Frag) (q : Stt) (a : Addr) (vs : List V) : Prop := (q.H a = some (.tup vs) ∧ ¬ q.L a) ∨ SqT K (fun _ => none) a vs
def FL (q : Stt) (a : Addr) (vs : List V) : Prop := q.H a = some (.lst vs) ∧ ¬ q.L a
def FS (K : PySem.W.Frag) (q : Stt) (a : Addr) (vs : List V) : Prop := (∃ o, q.H a = some (.frz o (.lst vs)) ∧ ¬ q.L a) ∨ FL q a vs ∨ SqL K (fun _ => none) a vs
theorem FS.sq {K : PySem.W.Frag} {q : Stt} {a : Addr} {vs : List V} (h : FS K q a vs) : SqL K q.H a vs := by
  rcases h with ⟨o, h, _⟩ | ⟨h, _⟩ | h
  · exact .inl (.inr ⟨o, h⟩)
  · exact .inl (.inl h)
  · rcases h with (h | ⟨_, h⟩) | h
    · cases h
    · cases h
    · exact .inr h
theorem FT.sq {K : PySem.W.Frag} {q : Stt} {a : Addr} {vs : List V} (h : FT K q a vs) : SqT K q.H a vs := by
  rcases h with ⟨h, _⟩ | h
  · exact .inl (.inl h)
  · rcases h with (h | ⟨_, h⟩) | h
    · cases h
    · cases h
    · exact .inr h
mutual
inductive RD (K : PySem.W.Frag) (q : Stt) : D → V → Prop
  | non : RD K q .non .non
  | bl (b : Bool) : RD K q (.bl b) (.bl b)
  | int (i : Int) : RD K q (.int i) (.int i)
  | str (cs : List Nat) : RD K q (.str cs) (.str ⟨cs.toArray⟩)
  | tup {a : Addr} {vs : List V} {ds : List D} : FT K q a vs → RDs K q ds vs → RD K q (.tup ds) (.ref a)
  | lst {a : Addr} {vs : List V} {ds : List D} : FL q a vs → RDs K q ds vs → RD K q (.lst ds) (.ref a)
  | ref {n : Nat} {a : Addr} : q.r[n]? = some a → RD K q (.ref n) (.ref a)
  | scr {ns : List Int} {a : Addr} : FS K q a (ns.map V.int) → RD K q (.scr ns) (.ref a)
inductive RDs (K : PySem.W.Frag) (q : Stt) : List D → List V → Prop
  | nil : RDs K q [] []
  | cons {d : D} {v : V} {ds : List D} {vs : List V} : RD K q d v → RDs K q ds vs → RDs K q (d :: ds) (v :: vs)
end
section
variable {K : PySem.W.Frag} {q q' : Stt}
theorem FT.mono {a : Addr} {vs : List V} (k : Kp q q') (h : FT K q a vs) : FT K q' a vs := by
  rcases h with ⟨h, n⟩ | h
  · exact .inl (k.u _ _ h n fun _ z => nomatch z)
  · exact .inr h
theorem FL.mono {a : Addr} {vs : List V} (k : Kp q q') (h : FL q a vs) : FL q' a vs := k.u _ _ h.1 h.2 fun _ z => nomatch z
theorem FS.mono {a : Addr} {vs : List V} (k : Kp q q') (h : FS K q a vs) : FS K q' a vs := by
  rcases h with ⟨o, h, n⟩ | h | h
  · exact .inl ⟨o, (k.u _ _ h n fun _ z => nomatch z).1, (k.u _ _ h n fun _ z => nomatch z).2⟩
  · exact .inr (.inl (h.mono k))
  · exact .inr (.inr h)
theorem pre_get {r r' : List Addr} (p : ∃ t, r' = r ++ t) {n : Nat} {a : Addr} (h : r[n]? = some a) : r'[n]? = some a := by
  obtain ⟨t, e⟩ := p
  have hn := (List.getElem?_eq_some_iff.mp h).1
  rw [e, List.getElem?_append_left hn]; exact h
mutual
theorem RD.mono (k : Kp q q') : ∀ (d : D) {v : V}, RD K q d v → RD K q' d v
  | .non, _, h => by cases h; exact .non
  | .bl b, _, h => by cases h; exact .bl b
  | .int i, _, h => by cases h; exact .int i
  | .str cs, _, h => by cases h; exact .str cs
  | .tup ds, _, h => by cases h with | tup f r => exact .tup (f.mono k) (RDs.mono k ds r)
  | .lst ds, _, h => by cases h with | lst f r => exact .lst (f.mono k) (RDs.mono k ds r)
  | .ref n, _, h => by cases h with | ref e => exact .ref (pre_get k.pre e)
  | .scr ns, _, h => by cases h with | scr f => exact .scr (f.mono k)
theorem RDs.mono (k : Kp q q') : ∀ (ds : List D) {vs : List V}, RDs K q ds vs → RDs K q' ds vs
  | [], _, h => by cases h; exact .nil
  | d :: ds, _, h => by cases h with | cons a b => exact .cons (RD.mono k d a) (RDs.mono k ds b)
end
theorem RDs.length : ∀ {ds : List D} {vs : List V}, RDs K q ds vs → vs.length = ds.length
  | [], _, h => by cases h; rfl
  | _ :: _, _, h => by cases h with | cons _ b => simp [RDs.length b]
theorem RDs.append : ∀ {ds es : List D} {vs us : List V}, RDs K q ds vs → RDs K q es us → RDs K q (ds ++ es) (vs ++ us)
  | [], _, _, _, h, g => by cases h; exact g
  | _ :: _, _, _, _, h, g => by cases h with | cons a b => exact .cons a (RDs.append b g)
theorem RDs.get : ∀ {ds : List D} {vs : List V} {i : Nat} {d : D}, RDs K q ds vs → ds[i]? = some d → ∃ v, vs[i]? = some v ∧ RD K q d v
  | [], _, _, _, h, e => by simp at e
  | _ :: _, _, 0, _, h, e => by cases h with | cons a b => simp at e; subst e; exact ⟨_, rfl, a⟩
  | _ :: ds, _, i + 1, _, h, e => by
    cases h with
    | cons a b =>
      rw [List.getElem?_cons_succ] at e
      obtain ⟨v, h1, h2⟩ := RDs.get b e
      exact ⟨v, by rw [List.getElem?_cons_succ]; exact h1, h2⟩
theorem RDs.get' : ∀ {ds : List D} {vs : List V} {i : Nat} {v : V}, RDs K q ds vs → vs[i]? = some v → ∃ d, ds[i]? = some d ∧ RD K q d v
  | [], _, _, _, h, e => by cases h; simp at e
  | _ :: _, _, 0, _, h, e => by cases h with | cons a b => simp at e; subst e; exact ⟨_, rfl, a⟩
  | _ :: _, _, i + 1, _, h, e => by
    cases h with
    | cons a b =>
      rw [List.getElem?_cons_succ] at e
      obtain ⟨d, h1, h2⟩ := RDs.get' b e
      exact ⟨d, by rw [List.getElem?_cons_succ]; exact h1, h2⟩
theorem RDs.set : ∀ {ds : List D} {vs : List V} {i : Nat} {d : D} {v : V}, RDs K q ds vs → RD K q d v → RDs K q (ds.set i d) (vs.set i v)
  | [], _, _, _, _, h, _ => by cases h; exact .nil
  | _ :: _, _, 0, _, _, h, g => by cases h with | cons a b => exact .cons g b
  | _ :: _, _, i + 1, _, _, h, g => by cases h with | cons a b => exact .cons a (RDs.set b g)
theorem RDs.take : ∀ {ds : List D} {vs : List V} (n : Nat), RDs K q ds vs → RDs K q (ds.take n) (vs.take n)
  | _, _, 0, _ => by simp; exact .nil
  | [], _, n + 1, h => by cases h; exact .nil
  | _ :: _, _, n + 1, h => by cases h with | cons a b => exact .cons a (RDs.take n b)
theorem RDs.drop : ∀ {ds : List D} {vs : List V} (n : Nat), RDs K q ds vs → RDs K q (ds.drop n) (vs.drop n)
  | _, _, 0, h => by simpa using h
  | [], _, n + 1, h => by cases h; exact .nil
  | _ :: _, _, n + 1, h => by cases h with | cons a b => exact RDs.drop n b
theorem RDs.ints : ∀ (ns : List Int), RDs K q (ns.map D.int) (ns.map V.int)
  | [] => .nil
  | n :: ns => .cons (.int n) (RDs.ints ns)
end

/-- the table of classes and what the placed objects are -/
structure Tab where
  f : Nat → Addr
  /-- which slots hold a caught exception: its place, its class, its dict -/
  z : Nat → Option (Addr × Value × Option Addr) := fun _ => none
  /-- the tables of code objects, and the name that their objects bear -/
  t : List (Addr × Str) := []
instance : CoeFun Tab fun _ => Nat → Addr := ⟨Tab.f⟩
inductive RF (K : PySem.W.Frag) (q : Stt) : List (String × D) → List (Str × V) → Prop
  | nil : RF K q [] []
  | cons {f : String} {d : D} {v : V} {fs : List (String × D)} {gs : List (Str × V)} : RD K q d v → RF K q fs gs → RF K q ((f, d) :: fs) ((Str.ofString f, v) :: gs)
def keyOf : D → Option Key
  | .int i => some (.inl i)
  | .str cs => some (.inr ⟨cs.toArray⟩)
  | _ => none
inductive RK (K : PySem.W.Frag) (q : Stt) : List (D × D) → List (Key × V) → Prop
  | nil : RK K q [] []
  | cons {k : D} {d : D} {y : Key} {v : V} {fs : List (D × D)} {gs : List (Key × V)} : keyOf k = some y → RD K q d v → RK K q fs gs → RK K q ((k, d) :: fs) ((y, v) :: gs)
def RO (K : PySem.W.Frag) (C : Nat → Addr) (q : Stt) (a : Addr) : Ob → Prop
  | .lst ds => ∃ vs, q.H a = some (.lst vs) ∧ RDs K q ds vs
  | .ins c fs => ∃ dx gs, q.H a = some (.ins (C c) dx gs) ∧ RF K q fs gs
  | .dic kvs => ∃ ks, q.H a = some (.dK ks) ∧ RK K q kvs ks
/-- the tables of code objects -/
def TB (T : List (Addr × Str)) (H : Hp) : Prop := LamX.Tabs T H
theorem TB.new {T : List (Addr × Str)} {H : Hp} {p : Addr} {o : HO} (t : TB T H) (h : H p = none) (nt : NT o) : TB T (upd H p o) :=
  LamX.Tabs.ext t fun b u e => by rw [upd_ne (ne_of_none e h)]; exact e
structure Rel0 (K : PySem.W.Frag) (C : Nat → Addr) (T : List (Addr × Str)) (s : Sto) (q : Stt) : Prop where
  wf : WF q
  len : q.r.length = s.length
  obs : ∀ (n : Nat) (o : Ob) (a : Addr), s[n]? = some o → q.r[n]? = some a → RO K C q a o
  tb : TB T q.H

abbrev Rel (K : PySem.W.Frag) (C : Tab) (s : Sto) (q : Stt) : Prop := Rel0 K C.f C.t s q

section
variable {K : PySem.W.Frag} {C : Tab} {q q' : Stt}
theorem RF.mono (k : Kp q q') : ∀ {fs : List (String × D)} {gs : List (Str × V)}, RF K q fs gs → RF K q' fs gs
  | _, _, .nil => .nil
  | _, _, .cons a b => .cons (RD.mono k _ a) (RF.mono k b)
theorem RK.mono (k : Kp q q') : ∀ {fs : List (D × D)} {gs : List (Key × V)}, RK K q fs gs → RK K q' fs gs
  | _, _, .nil => .nil
  | _, _, .cons e a b => .cons e (RD.mono k _ a) (RK.mono k b)
/-- an object whose own place is kept -/
theorem RO.mono {a : Addr} (k : Kp q q') (h : q'.H a = q.H a) : ∀ {o : Ob}, RO K C q a o → RO K C q' a o
  | .lst ds, ⟨vs, e, r⟩ => ⟨vs, h.trans e, RDs.mono k ds r⟩
  | .ins c fs, ⟨dx, gs, e, r⟩ => ⟨dx, gs, h.trans e, r.mono k⟩
  | .dic kvs, ⟨ks, e, r⟩ => ⟨ks, h.trans e, r.mono k⟩
theorem RO.there {a : Addr} {o : Ob} (h : RO K C q a o) : ∃ u, q.H a = some u := by
  cases o with
  | lst ds => obtain ⟨vs, e, _⟩ := h; exact ⟨_, e⟩
  | ins c fs => obtain ⟨dx, gs, e, _⟩ := h; exact ⟨_, e⟩
  | dic kvs => obtain ⟨ks, e, _⟩ := h; exact ⟨_, e⟩
theorem RO.kind {a : Addr} {o : Ob} (h : RO K C q a o) : ∃ u, q.H a = some u ∧ NT u ∧ ∀ f, u ≠ .ext f := by
  cases o with
  | lst ds => obtain ⟨vs, e, _⟩ := h; exact ⟨_, e, (fun _ z => nomatch z), fun _ z => nomatch z⟩
  | ins c fs => obtain ⟨dx, gs, e, _⟩ := h; exact ⟨_, e, (fun _ z => nomatch z), fun _ z => nomatch z⟩
  | dic kvs => obtain ⟨ks, e, _⟩ := h; exact ⟨_, e, (fun _ z => nomatch z), fun _ z => nomatch z⟩
theorem Rel.new1 {s : Sto} (R : Rel K C s q) {p : Addr} {o : HO} (h : q.H p = none) (nt : NT o := by exact fun _ z => nomatch z) : Rel K C s ⟨upd q.H p o, q.L, q.r⟩ :=
  ⟨R.wf.new1 h, R.len, fun n ob a e f => by
    have x := R.obs n ob a e f
    obtain ⟨u, hu⟩ := x.there
    exact x.mono (Ext.new1 R.wf h).kp (by show upd q.H p o a = _; rw [upd_ne (ne_of_none hu h)]), R.tb.new h nt⟩
/-- a write at what is no table and no code object -/
theorem tabs_upd {T : List (Addr × Str)} {H : Hp} {a : Addr} {u ho : HO} (t : TB T H) (h : H a = some u) (n1 : NT u) (n2 : ∀ f, u ≠ .ext f) (n3 : NT ho := by exact fun _ z => nomatch z) : TB T (upd H a ho) := by
  intro p hp
  obtain ⟨ps, h1, h2, h3⟩ := t p hp
  refine ⟨ps, ?_, h2, fun pos cv hc => ?_⟩
  · rw [upd_ne fun z => ?_]
    · exact h1
    · rw [z, h] at h1
      exact n1 ps (Option.some.inj h1)
  · obtain ⟨c, e1, e2⟩ := h3 pos cv hc
    refine ⟨c, e1, ?_⟩
    rw [upd_ne fun z => ?_]
    · exact e2
    · rw [z, h] at e2
      unfold LamX.CodeO at e2
      exact n2 _ (Option.some.inj e2)
end

/-! ### the frame's names -/
/-- an exception as it stands: its class, its dict -/
def RX (q : Stt) (C : Tab) (K : PySem.W.Frag) (x : Exn) (cls : Value) (d : Option Addr) : Prop :=
  cls = .ref (C x.cls) ∧ match x.fs with
    | [] => d = none
    | fs => ∃ a gs, d = some a ∧ q.H a = some (.xd gs) ∧ ¬ q.L a ∧ RF K q fs gs
theorem RX.mono {q q' : Stt} {C : Tab} {K : PySem.W.Frag} {x : Exn} {cls : Value} {d : Option Addr} (k : Kp q q') (h : RX q C K x cls d) : RX q' C K x cls d := by
  refine ⟨h.1, ?_⟩
  have h2 := h.2
  split
  · rename_i e; rw [e] at h2; exact h2
  · rename_i fs hne
    split at h2
    · rename_i e; exact absurd e hne
    · obtain ⟨a, gs, e, h1, h3, h4⟩ := h2
      obtain ⟨g1, g2⟩ := k.u _ _ h1 h3 fun _ z => nomatch z
      exact ⟨a, gs, e, g1, g2, h4.mono k⟩
structure RE (K : PySem.W.Frag) (C : Tab) (q0 q : Stt) (env : Env) (σ : St) : Prop where
  len : env.length = σ.length
  val : ∀ (i : Nat) (d : D), env[i]? = some (.val d) → ∃ v, σ[i]? = some (some v) ∧ RD K q d v
  own : ∀ (i : Nat) (ds : List D), env[i]? = some (.own ds) → ∃ a vs, σ[i]? = some (some (.ref a)) ∧ q.H a = some (.lst vs) ∧ q.L a ∧ a ∉ q.r ∧ RDs K q ds vs ∧ Fr q0 a
  inj : ∀ (i j : Nat) (ds es : List D) (a : Addr), env[i]? = some (.own ds) → env[j]? = some (.own es) → σ[i]? = some (some (.ref a)) → σ[j]? = some (some (.ref a)) → i = j
  w0 : WF q0
  exn : ∀ (i : Nat) (x : Exn), env[i]? = some (.exn x) → ∃ a cls d, C.z i = some (a, cls, d) ∧ σ[i]? = some (some (.ref a)) ∧ RX q C K x cls d
theorem RE.ext {K : PySem.W.Frag} {C : Tab} {q0 q q' : Stt} {env : Env} {σ : St} (E : RE K C q0 q env σ) (x : Ext q q') : RE K C q0 q' env σ where
  len := E.len
  val := fun i d e => by
    obtain ⟨v, h, r⟩ := E.val i d e
    exact ⟨v, h, RD.mono x.kp d r⟩
  own := fun i ds e => by
    obtain ⟨a, vs, h1, h2, h3, h4, h5, h6⟩ := E.own i ds e
    exact ⟨a, vs, h1, x.keep a _ h2 h4 (fun _ z => nomatch z), x.mono a h3, (fun z => (x.new a z).elim h4 fun n => n _ h2 fun _ z => nomatch z), RDs.mono x.kp ds h5, h6⟩
  inj := E.inj
  w0 := E.w0
  exn := fun i y e => let ⟨a, cl, d, h1, h2, h3⟩ := E.exn i y e; ⟨a, cl, d, h1, h2, h3.mono x.kp⟩

/-! ### a reading follows a function -/
abbrev Wx := WX
/-- what is asked behind: of a value that stands for the answer, of an exception that stands for the exception -/
def Post {α β : Type} (K : PySem.W.Frag) (C : Tab) (W : Wx) (R : Stt → Stt → α → β → Prop) (q : Stt) (σ : St) (Q : β → Hp → Prop) : Res α → Prop
  | .ok a s => ∀ b q', Ext q q' → Rel K C s q' → R q q' a b → Q b q'.H
  | .exc x s => ∀ cls d q', Ext q q' → Rel K C s q' → RX q' C K x cls d → W cls d σ q'.H
  | .stk => False
def Sim {α β : Type} (K : PySem.W.Frag) (C : Tab) (W : Wx) (R : Stt → Stt → α → β → Prop) (t : St → Hp → (β → Hp → Prop) → Prop) (m : Env → Sto → Res α) : Prop :=
  ∀ (q0 q : Stt) (env : Env) (σ : St) (s : Sto) (Q : β → Hp → Prop), RE K C q0 q env σ → Rel K C s q → Post K C W R q σ Q (m env s) → t σ q.H Q

/-- readable: a value, or a list that is borrowed -/
def RB (K : PySem.W.Frag) (q : Stt) (d : D) (v : V) : Prop := RD K q d v ∨ ∃ a vs ds, d = .lst ds ∧ v = .ref a ∧ q.H a = some (.lst vs) ∧ a ∉ q.r ∧ RDs K q ds vs
theorem RB.ext {K : PySem.W.Frag} {q q' : Stt} {d : D} {v : V} (x : Ext q q') (h : RB K q d v) : RB K q' d v := by
  rcases h with h | ⟨a, vs, ds, e1, e2, h1, h2, h3⟩
  · exact .inl (RD.mono x.kp d h)
  · exact .inr ⟨a, vs, ds, e1, e2, x.keep a _ h1 h2 (fun _ z => nomatch z), (fun z => (x.new a z).elim h2 fun n => n _ h1 fun _ z => nomatch z), RDs.mono x.kp ds h3⟩
/-- a list just made: tracked, kept from trees, not placed -/
def RN (K : PySem.W.Frag) (q q' : Stt) (ds : List D) (v : V) : Prop := ∃ p vs, v = .ref p ∧ Fr q p ∧ q'.H p = some (.lst vs) ∧ q'.L p ∧ p ∉ q'.r ∧ RDs K q' ds vs
abbrev rD (K : PySem.W.Frag) : Stt → Stt → D → V → Prop := fun _ q' d v => RD K q' d v
abbrev rB (K : PySem.W.Frag) : Stt → Stt → D → V → Prop := fun _ q' d v => RB K q' d v
abbrev rA (K : PySem.W.Frag) : Stt → Stt → List D → List V → Prop := fun _ q' d v => RDs K q' d v
abbrev rT : Stt → Stt → Bool → Bool → Prop := fun _ _ b c => b = c

section
variable {K : PySem.W.Frag} {C : Tab} {W : Wx}
theorem Sim.imp {α β : Type} {R R' : Stt → Stt → α → β → Prop} {t : St → Hp → (β → Hp → Prop) → Prop} {m : Env → Sto → Res α} (h : Sim K C W R t m) (hi : ∀ q q' a b, R q q' a b → R' q q' a b) : Sim K C W R' t m := by
  intro q0 q env σ s Q E R1 P
  refine h q0 q env σ s Q E R1 ?_
  cases e : m env s with
  | ok a s' => rw [e] at P; exact fun b q' x r y => P b q' x r (hi _ _ _ _ y)
  | exc x s' => rw [e] at P; exact P
  | stk => rw [e] at P; exact P
/-- after a first part -/
theorem Post.bind {α β γ δ : Type} {R : Stt → Stt → α → β → Prop} {R' : Stt → Stt → γ → δ → Prop} {q : Stt} {σ : St} {Q : δ → Hp → Prop} {P : β → Hp → Prop} {m : Res α} {f : α → Sto → Res γ} (h : Post K C W R' q σ Q (m.bind f))
    (k : ∀ a s, m = .ok a s → ∀ b q', Ext q q' → Rel K C s q' → R q q' a b → Post K C W R' q σ Q (f a s) → P b q'.H) : Post K C W R q σ P m := by
  cases m with
  | ok a s => exact fun b q' x r y => k a s rfl b q' x r y h
  | exc x s => exact h
  | stk => exact h
/-- what is asked from a later state -/
theorem Post.later {γ δ : Type} {R : Stt → Stt → γ → δ → Prop} {q q1 : Stt} {σ : St} {Q : δ → Hp → Prop} {m : Res γ} (x : Ext q q1) (h : Post K C W R q σ Q m) (hR : ∀ q2 a b, Ext q1 q2 → R q1 q2 a b → R q q2 a b) : Post K C W R q1 σ Q m := by
  cases m with
  | ok a s => exact fun b q' y r z => h b q' (x.trans y) r (hR _ _ _ y z)
  | exc e s => exact fun c d q' y r z => h c d q' (x.trans y) r z
  | stk => exact h
end
end MP

/-! Expressions of the text and their functions. Own text. -/
namespace MP
open PySem L2

theorem PE.imp {X : Cx} {e : Expr} {t t' : TE} (h : PE X e t) (hi : ∀ σ H Q, t' σ H Q → t σ H Q) : PE X e t' := ⟨fun pins s σ H Q I z => h.run pins s σ H Q I (hi σ H Q z)⟩
theorem PT.imp {X : Cx} {e : Expr} {t t' : TT} (h : PT X e t) (hi : ∀ σ H Q, t' σ H Q → t σ H Q) : PT X e t' := ⟨fun pins s σ H Q I z => h.run pins s σ H Q I (hi σ H Q z)⟩
theorem PW.imp {X : Cx} {e : Expr} {t t' : TT} (h : PW X e t) (hi : ∀ σ H Q, t' σ H Q → t σ H Q) : PW X e t' := ⟨fun wh pins s σ H Q I z => h.run wh pins s σ H Q I (hi σ H Q z)⟩
theorem PA.imp {X : Cx} {es : List Expr} {t t' : TA} (h : PA X es t) (hi : ∀ σ H Q, t' σ H Q → t σ H Q) : PA X es t' := ⟨fun pos pins s σ H Q I z => h.run pos pins s σ H Q I (hi σ H Q z)⟩
theorem PS.imp {X : Cx} {st : Stmt} {t t' : TS} (h : PS X st t) (hi : ∀ D σ H, t' D σ H → t D σ H) : PS X st t' := ⟨fun pins s σ H D I z => h.run pins s σ H D I (hi D σ H z)⟩
theorem PSs.imp {X : Cx} {st : List Stmt} {t t' : TS} (h : PSs X st t) (hi : ∀ D σ H, t' D σ H → t D σ H) : PSs X st t' := ⟨fun pins s σ H D I z => h.run pins s σ H D I (hi D σ H z)⟩
theorem PG.imp {X : Cx} {g : Expr} {t t' : TG} (h : PG X g t) (hi : ∀ v σ H Q, t' v σ H Q → t v σ H Q) : PG X g t' := ⟨fun pins s σ H v u Q I r z => h.run pins s σ H v u Q I r (hi v σ H Q z)⟩
theorem PI.imp {X : Cx} {tg it : Expr} {t t' : TI} (h : PI X tg it t) (hi : ∀ σ H R, t' σ H R → t σ H R) : PI X tg it t' := ⟨fun pins s σ H R I z => h.run pins s σ H R I (hi σ H R z)⟩

/-- the reading by a function -/
def tM {α β : Type} (K : PySem.W.Frag) (C : Tab) (W : Wx) (R : Stt → Stt → α → β → Prop) (m : MP.Env → Sto → Res α) : St → Hp → (β → Hp → Prop) → Prop := fun σ H Q =>
  ∃ (q0 q : Stt) (env : MP.Env) (s : Sto), q.H = H ∧ RE K C q0 q env σ ∧ Rel K C s q ∧ Post K C W R q σ Q (m env s)
def GE (X : Cx) (C : Tab) (W : Wx) (e : Expr) (m : ME) : Prop := PE X e (tM X.K C W (rD X.K) m)
def GB (X : Cx) (C : Tab) (W : Wx) (e : Expr) (m : ME) : Prop := PE X e (tM X.K C W (rB X.K) m)
def GL (X : Cx) (C : Tab) (W : Wx) (e : Expr) (m : MA) : Prop := PE X e (tM X.K C W (RN X.K) m)
def GA (X : Cx) (C : Tab) (W : Wx) (es : List Expr) (m : MA) : Prop := PA X es (tM X.K C W (rA X.K) m)
def GT (X : Cx) (C : Tab) (W : Wx) (e : Expr) (m : MT) : Prop := PT X e (tM X.K C W rT m)
def GW (X : Cx) (C : Tab) (W : Wx) (e : Expr) (m : MT) : Prop := PW X e (tM X.K C W rT m)

section
variable {K : PySem.W.Frag} {C : Tab} {W : Wx} {α β γ δ : Type} {R : Stt → Stt → α → β → Prop} {R' : Stt → Stt → γ → δ → Prop} {q0 q : Stt} {env : MP.Env} {s : Sto} {σ : St} {Q : δ → Hp → Prop} {P : β → Hp → Prop}
/-- a first part, its answer, then what follows from there -/
theorem tM.first {m : MP.Env → Sto → Res α} {f : α → Sto → Res γ} (E : RE K C q0 q env σ) (L : Rel K C s q) (h : Post K C W R' q σ Q ((m env s).bind f)) (hR : ∀ q1, Ext q q1 → ∀ q2 a b, R' q1 q2 a b → R' q q2 a b)
    (k : ∀ a s1, ∀ b q1, Ext q q1 → RE K C q0 q1 env σ → Rel K C s1 q1 → R q q1 a b → Post K C W R' q1 σ Q (f a s1) → P b q1.H) : tM K C W R m σ q.H P :=
  ⟨q0, q, env, s, rfl, E, L, Post.bind h fun a s1 _ b q1 x r y z => k a s1 b q1 x (E.ext x) r y (z.later x fun q2 c d _ w => hR q1 x q2 c d w)⟩
theorem tM.same {m : MP.Env → Sto → Res γ} (E : RE K C q0 q env σ) (L : Rel K C s q) (h : Post K C W R' q σ Q (m env s)) : tM K C W R' m σ q.H Q := ⟨q0, q, env, s, rfl, E, L, h⟩
end
theorem rD_any {K : PySem.W.Frag} {q : Stt} : ∀ q1, Ext q q1 → ∀ q2 a b, rD K q1 q2 a b → rD K q q2 a b := fun _ _ _ _ _ h => h
theorem rB_any {K : PySem.W.Frag} {q : Stt} : ∀ q1, Ext q q1 → ∀ q2 a b, rB K q1 q2 a b → rB K q q2 a b := fun _ _ _ _ _ h => h
theorem rA_any {K : PySem.W.Frag} {q : Stt} : ∀ q1, Ext q q1 → ∀ q2 a b, rA K q1 q2 a b → rA K q q2 a b := fun _ _ _ _ _ h => h
theorem rT_any {q : Stt} : ∀ q1, Ext q q1 → ∀ q2 a b, rT q1 q2 a b → rT q q2 a b := fun _ _ _ _ _ h => h
theorem Ext.free {q q' : Stt} (w : WF q) (x : Ext q q') {p : Addr} (h : q'.H p = none) (hp : p ∉ q.r) : Fr q p := fun o e t => by
  obtain ⟨o', e', _⟩ := x.th p o e t
  rw [e'] at h; cases h
theorem Ext.free' {K : PySem.W.Frag} {C : Tab} {s : Sto} {q q' : Stt} (x : Ext q q') {p : Addr} (h : Fr q' p) (L : Rel K C s q') : Fr q p := fun o e t => by
  obtain ⟨o', e', t'⟩ := x.th p o e t
  exact h o' e' t'
section
variable {X : Cx} {C : Tab} {W : Wx} {pos : Pos} {e a b c o : Expr} {es : List Expr} {m ma mb mc mo : ME}

/-! ### from one to another -/
theorem gb_of (h : GE X C W e m) : GB X C W e m := PE.imp h fun σ H Q ⟨q0, q, env, s, e, E, L, p⟩ => ⟨q0, q, env, s, e, E, L, by
  cases z : m env s with
  | ok d s' => rw [z] at p; exact fun v q' x r y => p v q' x r (.inl y)
  | exc x s' => rw [z] at p; exact p
  | stk => rw [z] at p; exact p⟩
/-- a list just made becomes a value -/
theorem freeze {K : PySem.W.Frag} {q q' : Stt} {s : Sto} {p : Addr} {vs : List V} {ds : List D} (w : WF q) (x : Ext q q') (r : Rel K C s q') (hp : Fr q p) (h : q'.H p = some (.lst vs)) (hl : q'.L p) (hr : p ∉ q'.r) (rd : RDs K q' ds vs) :
    Ext q ⟨q'.H, fun a => q'.L a ∧ a ≠ p, q'.r⟩ ∧ Rel K C s ⟨q'.H, fun a => q'.L a ∧ a ≠ p, q'.r⟩ ∧ RD K ⟨q'.H, fun a => q'.L a ∧ a ≠ p, q'.r⟩ (.lst ds) (.ref p) := by
  have k : Kp q' ⟨q'.H, fun a => q'.L a ∧ a ≠ p, q'.r⟩ := ⟨fun a u e n _ => ⟨e, fun z => n z.1⟩, ⟨[], by simp⟩⟩
  have nq : ¬ q.L p := w.noF hp
  refine ⟨⟨x.keep, fun a l => ⟨x.mono a l, fun z => nq (z ▸ l)⟩, fun a u e n t => ⟨(x.u a u e n t).1, fun z => (x.u a u e n t).2 z.1⟩, x.pre, x.new, x.th⟩,
    ⟨⟨r.wf.nd, fun a h => ⟨r.wf.live a h, fun z => hr (z ▸ h)⟩, fun a l => r.wf.trk a l.1⟩, r.len, fun n ob a e1 e2 => (r.obs n ob a e1 e2).mono k rfl, r.tb⟩, ?_⟩
  exact .lst ⟨h, fun z => z.2 rfl⟩ (RDs.mono k ds rd)
theorem tM.first0 {K : PySem.W.Frag} {α β γ δ : Type} {R : Stt → Stt → α → β → Prop} {R' : Stt → Stt → γ → δ → Prop} {q0 q : Stt} {env : MP.Env} {s : Sto} {σ : St} {Q : δ → Hp → Prop} {P : β → Hp → Prop} {m : MP.Env → Sto → Res α} {f : α → Sto → Res γ}
    (E : RE K C q0 q env σ) (L : Rel K C s q) (h : Post K C W R' q σ Q ((m env s).bind f)) (k : ∀ a s1, ∀ b q1, Ext q q1 → Rel K C s1 q1 → R q q1 a b → Post K C W R' q σ Q (f a s1) → P b q1.H) : tM K C W R m σ q.H P :=
  ⟨q0, q, env, s, rfl, E, L, Post.bind h fun a s1 _ b q1 x r y z => k a s1 b q1 x r y z⟩
theorem ge_frz {l : MA} (h : GL X C W e l) : GE X C W e (eFrz l) := PE.imp h fun σ H Q ⟨q0, q, env, s, eq, E, L, p⟩ => by
  subst eq
  refine tM.first0 (f := fun ds s1 => (Res.ok (D.lst ds) s1 : Res D)) E L p fun ds s1 v q1 x L1 y z => ?_
  obtain ⟨p, vs, rfl, h1, h2, h3, h4, h5⟩ := y
  obtain ⟨e1, e2, e3⟩ := freeze L.wf x L1 h1 h2 h3 h4 h5
  exact z (.ref p) ⟨q1.H, fun a => q1.L a ∧ a ≠ p, q1.r⟩ e1 e2 e3
/-- a list just made is placed -/
theorem placed {K : PySem.W.Frag} {q q' : Stt} {s : Sto} {p : Addr} {vs : List V} {ds : List D} (w : WF q) (x : Ext q q') (r : Rel K C s q') (hp : Fr q p) (h : q'.H p = some (.lst vs)) (hl : q'.L p) (hr : p ∉ q'.r) (rd : RDs K q' ds vs) :
    Ext q ⟨q'.H, q'.L, q'.r ++ [p]⟩ ∧ Rel K C (s ++ [.lst ds]) ⟨q'.H, q'.L, q'.r ++ [p]⟩ ∧ RD K ⟨q'.H, q'.L, q'.r ++ [p]⟩ (.ref s.length) (.ref p) := by
  have k : Kp q' ⟨q'.H, q'.L, q'.r ++ [p]⟩ := ⟨fun a u e n _ => ⟨e, n⟩, ⟨[p], rfl⟩⟩
  refine ⟨⟨x.keep, x.mono, x.u, pre_trans x.pre ⟨[p], rfl⟩, fun a ha => ?_, x.th⟩, ⟨⟨?_, fun a ha => ?_, r.wf.trk⟩, by simp [r.len], fun n ob a e1 e2 => ?_, r.tb⟩, .ref ?_⟩
  · rcases List.mem_append.mp ha with z | z
    · exact x.new a z
    · obtain rfl : a = p := by simpa using z
      exact .inr hp
  · exact List.nodup_append.mpr ⟨r.wf.nd, by simp, fun a ha b hb => by
      obtain rfl : b = p := by simpa using hb
      exact fun z => hr (z ▸ ha)⟩
  · rcases List.mem_append.mp ha with z | z
    · exact r.wf.live a z
    · obtain rfl : a = p := by simpa using z
      exact hl
  · by_cases hn : n < s.length
    · rw [List.getElem?_append_left hn] at e1
      have e2 : (q'.r ++ [p])[n]? = some a := e2
      rw [List.getElem?_append_left (by rw [r.len]; exact hn)] at e2
      exact (r.obs n ob a e1 e2).mono k rfl
    · have hz : n = s.length := by
        have := (List.getElem?_eq_some_iff.mp e1).1
        simp at this; omega
      subst hz
      simp at e1
      have e2 : (q'.r ++ [p])[s.length]? = some a := e2
      rw [← r.len] at e2
      simp at e2
      subst e1 e2
      exact ⟨vs, h, RDs.mono k ds rd⟩
  · show (q'.r ++ [p])[s.length]? = some p
    rw [← r.len]; simp
theorem ge_plc {l : MA} (h : GL X C W e l) : GE X C W e (ePlc l) := PE.imp h fun σ H Q ⟨q0, q, env, s, eq, E, L, p⟩ => by
  subst eq
  refine tM.first0 (f := fun ds s1 => (Res.ok (D.ref s1.length) (s1 ++ [Ob.lst ds]) : Res D)) E L p fun ds s1 v q1 x L1 y z => ?_
  obtain ⟨p, vs, rfl, h1, h2, h3, h4, h5⟩ := y
  obtain ⟨e1, e2, e3⟩ := placed L.wf x L1 h1 h2 h3 h4 h5
  exact z (.ref p) ⟨q1.H, q1.L, q1.r ++ [p]⟩ e1 e2 e3

/-! ### names, constants -/
theorem ge_var (i : Nat) {x : Str} (hN : X.N[i]? = some x := by rfl) (hv : Vis X.env.scope x := by first | exact Or.inl rfl | exact Or.inr (Or.inl rfl) | exact Or.inr (Or.inr rfl)) (hd : (x == ("__debug__" : Str)) = false := by decide)
    (hc : (x == ("__classdict__" : Str)) = false := by decide) : GE X C W (.Name x pos) (eVar i) := PE.imp (pe_var (i := i) hN hv hd hc) fun σ H Q ⟨q0, q, env, s, eq, E, L, p⟩ => by
  subst eq
  unfold eVar at p
  split at p
  · rename_i d e
    obtain ⟨v, h1, h2⟩ := E.val i d e
    exact ⟨v, h1, p v q (Ext.refl q) L h2⟩
  · exact p.elim
theorem gb_var (i : Nat) {x : Str} (hN : X.N[i]? = some x := by rfl) (hv : Vis X.env.scope x := by first | exact Or.inl rfl | exact Or.inr (Or.inl rfl) | exact Or.inr (Or.inr rfl)) (hd : (x == ("__debug__" : Str)) = false := by decide)
    (hc : (x == ("__classdict__" : Str)) = false := by decide) : GB X C W (.Name x pos) (eBor i) := PE.imp (pe_var (i := i) hN hv hd hc) fun σ H Q ⟨q0, q, env, s, eq, E, L, p⟩ => by
  subst eq
  unfold eBor at p
  split at p
  · rename_i d e
    obtain ⟨v, h1, h2⟩ := E.val i d e
    exact ⟨v, h1, p v q (Ext.refl q) L (.inl h2)⟩
  · rename_i ds e
    obtain ⟨a, vs, h1, h2, h3, h4, h5, h6⟩ := E.own i ds e
    exact ⟨.ref a, h1, p _ q (Ext.refl q) L (.inr ⟨a, vs, ds, rfl, rfl, h2, h4, h5⟩)⟩
  · exact p.elim
/-- a reading that gives a value at once -/
theorem ge_of_c {v : V} {d : D} (h : PE X e (tC v)) (r : ∀ q : Stt, RD X.K q d v) : GE X C W e (eC d) := PE.imp h fun σ H Q ⟨q0, q, env, s, eq, E, L, p⟩ => by
  subst eq
  exact p v q (Ext.refl q) L (r q)
theorem ge_int {i : Int} {j} : GE X C W (.Constant (.int i) j pos) (eC (.int i)) := ge_of_c pe_int fun _ => .int i
theorem ge_bl {b : Bool} {j} : GE X C W (.Constant (.bool b) j pos) (eC (.bl b)) := ge_of_c pe_bl fun _ => .bl b
theorem ge_non {j} : GE X C W (.Constant .none j pos) (eC .non) := ge_of_c pe_non fun _ => .non
theorem ge_str {x : Str} {j} (cs : List Nat) (h : x = ⟨cs.toArray⟩ := by decide +kernel) : GE X C W (.Constant (.str x) j pos) (eC (.str cs)) := ge_of_c pe_str fun _ => by subst h; exact .str cs
theorem ge_glob {x : Str} {u : Value} {v : V} (d : D) (hg : Gl X x) (hm : X.mg x = some u) (r : RelV v u) (hr : ∀ q : Stt, RD X.K q d v) (hd : (x == ("__debug__" : Str)) = false := by decide) : GE X C W (.Name x pos) (eC d) := ge_of_c (pe_glob hg hm r hd) hr

/-! ### operators -/
def SimOp (K : PySem.W.Frag) (C : Tab) (r : R2) (g : Op2) : Prop := ∀ (q : Stt) (s : Sto) (x y : D) (vx vy : V) (z : D) (Q : VK), Rel K C s q → RB K q x vx → RB K q y vy → g s x y = some z →
  (∀ v q', Ext q q' → Rel K C s q' → RD K q' z v → Q v q'.H) → r vx vy q.H Q
theorem op2_imp {K : PySem.W.Frag} {r : R2} {g : Op2} (hs : SimOp K C r g) (σ : St) (H : Hp) (Q : VK) (h : tM K C W (rD K) (eOp2 g ma mb) σ H Q) : tOp r (tM K C W (rB K) ma) (tM K C W (rB K) mb) σ H Q := by
  obtain ⟨q0, q, env, s, eq, E, L, p⟩ := h
  subst eq
  refine tM.first (f := fun x s1 => (mb env s1).bind fun y s2 => .ofO (g s2 x y) s2) E L p rD_any fun x s1 vx q1 x1 E1 L1 y1 p1 => ?_
  refine tM.first (f := fun y s2 => .ofO (g s2 x y) s2) E1 L1 p1 rD_any fun y s2 vy q2 x2 E2 L2 y2 p2 => ?_
  cases e : g s2 x y with
  | none => rw [e] at p2; exact p2.elim
  | some z => rw [e] at p2; exact hs q2 s2 x y vx vy z Q L2 (y1.ext x2) y2 e fun v q3 x3 r3 d3 => p2 v q3 x3 r3 d3
theorem ge_bin {op : Operator} {r : R2} {g : Op2} (ho : OpR X (binaryOp op) r) (hs : SimOp X.K C r g) (ha : GB X C W a ma) (hb : GB X C W b mb) : GE X C W (.BinOp a op b pos) (eOp2 g ma mb) := PE.imp (pe_op ho ha hb) (op2_imp hs)
theorem ge_cmp {op : CmpOp} {r : R2} {g : Op2} (ho : OpR X (compareOp op) r) (hs : SimOp X.K C r g) (hm : behindInMarks op b = false) (ha : GB X C W a ma) (hb : GB X C W b mb) : GE X C W (.Compare a [op] [b] pos) (eOp2 g ma mb) := PE.imp (pe_cmpR ho ha hb hm) (op2_imp hs)
theorem test_imp {K : PySem.W.Frag} {t : TE} {m : ME} (h : ∀ σ H Q, tM K C W (rD K) m σ H Q → t σ H Q) (σ : St) (H : Hp) (Q : Bool → Hp → Prop) (p : tM K C W rT (tVal m) σ H Q) : tTest t σ H Q := by
  obtain ⟨q0, q, env, s, eq, E, L, p⟩ := p
  subst eq
  refine h σ q.H _ (tM.first (f := asB) E L p rT_any fun d s1 v q1 x1 E1 L1 y1 p1 => ?_)
  cases y1 with
  | bl b => exact ⟨b, rfl, p1 b q1 (Ext.refl q1) L1 rfl⟩
  | _ => exact p1.elim
theorem gt_cmp {op : CmpOp} {r : R2} {g : Op2} (ho : OpR X (compareOp op) r) (hs : SimOp X.K C r g) (hm : behindInMarks op b = false) (ha : GB X C W a ma) (hb : GB X C W b mb) : GT X C W (.Compare a [op] [b] pos) (tVal (eOp2 g ma mb)) :=
  PT.imp (pt_cmpR ho ha hb hm) (test_imp (op2_imp hs))
theorem gt_val (h : GE X C W e m) (he : ∀ whole, isTrue e X.env whole = (do let v ← whole; standAt e.pos; holding [v] (truthy v)) := by intro _; rfl) : GT X C W e (tVal m) :=
  PT.imp (pt_val h he) (test_imp fun _ _ _ z => z)
def SimU (K : PySem.W.Frag) (C : Tab) (r : V → Hp → VK → Prop) (g : Op1) : Prop := ∀ (q : Stt) (s : Sto) (x : D) (vx : V) (z : D) (Q : VK), Rel K C s q → RB K q x vx → g s x = some z →
  (∀ v q', Ext q q' → Rel K C s q' → RD K q' z v → Q v q'.H) → r vx q.H Q
theorem op1_imp {K : PySem.W.Frag} {r : V → Hp → VK → Prop} {g : Op1} (hs : SimU K C r g) (σ : St) (H : Hp) (Q : VK) (h : tM K C W (rD K) (eOp1 g ma) σ H Q) : tM K C W (rB K) ma σ H fun x H1 => r x H1 Q := by
  obtain ⟨q0, q, env, s, eq, E, L, p⟩ := h
  subst eq
  refine tM.first (f := fun x s1 => .ofO (g s1 x) s1) E L p rD_any fun x s1 vx q1 x1 E1 L1 y1 p1 => ?_
  cases e : g s1 x with
  | none => rw [e] at p1; exact p1.elim
  | some z => rw [e] at p1; exact hs q1 s1 x vx z Q L1 y1 e fun v q3 x3 r3 d3 => p1 v q3 x3 r3 d3
theorem tM.mono {α β : Type} {K : PySem.W.Frag} {R : Stt → Stt → α → β → Prop} {m : MP.Env → Sto → Res α} {σ : St} {H : Hp} {Q Q' : β → Hp → Prop} (h : tM K C W R m σ H Q) (hq : ∀ b H', Q b H' → Q' b H') : tM K C W R m σ H Q' := by
  obtain ⟨q0, q, env, s, eq, E, L, p⟩ := h
  refine ⟨q0, q, env, s, eq, E, L, ?_⟩
  cases z : m env s with
  | ok d s' => rw [z] at p; exact fun v q' x r y => hq _ _ (p v q' x r y)
  | exc x s' => rw [z] at p; exact p
  | stk => rw [z] at p; exact p
/-- x is None -/
theorem ge_isN {j p'} (ha : GE X C W a ma) : GE X C W (.Compare a [.Is] [.Constant .none j p'] pos) (eOp1 opIsN ma) := PE.imp (pe_cmp (pc_isN ha) rfl) fun σ H Q ⟨q0, q, env, s, eq, E, L, p⟩ => by
  subst eq
  refine tM.first (f := fun x s1 => .ofO (opIsN s1 x) s1) E L p rD_any fun x s1 vx q1 x1 E1 L1 y1 p1 => ?_
  have e : decide (vx = .non) = isNon x := by cases y1 <;> first | rfl | simp [isNon]
  rw [e]
  exact p1 _ q1 (Ext.refl q1) L1 (.bl _)
theorem ge_notN {j p'} (ha : GE X C W a ma) : GE X C W (.Compare a [.IsNot] [.Constant .none j p'] pos) (eOp1 opNotN ma) := PE.imp (pe_cmp (pc_notN ha) rfl) fun σ H Q ⟨q0, q, env, s, eq, E, L, p⟩ => by
  subst eq
  refine tM.first (f := fun x s1 => .ofO (opNotN s1 x) s1) E L p rD_any fun x s1 vx q1 x1 E1 L1 y1 p1 => ?_
  have e : (!decide (vx = .non)) = !isNon x := by cases y1 <;> first | rfl | simp [isNon]
  rw [e]
  exact p1 _ q1 (Ext.refl q1) L1 (.bl _)
theorem gt_isN {j p'} (ha : GE X C W a ma) : GT X C W (.Compare a [.Is] [.Constant .none j p'] pos) (tVal (eOp1 opIsN ma)) := PT.imp (pt_cmp (pc_isN ha) rfl) fun σ H Q ⟨q0, q, env, s, eq, E, L, p⟩ => by
  subst eq
  unfold tVal eOp1 at p
  cases z : ma env s with
  | ok x s1 =>
    rw [z] at p
    refine ⟨q0, q, env, s, rfl, E, L, ?_⟩
    rw [z]
    intro vx q1 x1 L1 y1
    have e : decide (vx = .non) = isNon x := by cases y1 <;> first | rfl | simp [isNon]
    exact ⟨_, rfl, by rw [e]; exact p _ q1 x1 L1 rfl⟩
  | exc x s1 => rw [z] at p; exact ⟨q0, q, env, s, rfl, E, L, by rw [z]; exact p⟩
  | stk => rw [z] at p; exact p.elim
theorem gt_notN {j p'} (ha : GE X C W a ma) : GT X C W (.Compare a [.IsNot] [.Constant .none j p'] pos) (tVal (eOp1 opNotN ma)) := PT.imp (pt_cmp (pc_notN ha) rfl) fun σ H Q ⟨q0, q, env, s, eq, E, L, p⟩ => by
  subst eq
  unfold tVal eOp1 at p
  cases z : ma env s with
  | ok x s1 =>
    rw [z] at p
    refine ⟨q0, q, env, s, rfl, E, L, ?_⟩
    rw [z]
    intro vx q1 x1 L1 y1
    have e : (!decide (vx = .non)) = !isNon x := by cases y1 <;> first | rfl | simp [isNon]
    exact ⟨_, rfl, by rw [e]; exact p _ q1 x1 L1 rfl⟩
  | exc x s1 => rw [z] at p; exact ⟨q0, q, env, s, rfl, E, L, by rw [z]; exact p⟩
  | stk => rw [z] at p; exact p.elim

/-! ### arguments, displays -/
theorem ga_nil : GA X C W [] aNil := PA.imp pa_nil fun σ H Q ⟨q0, q, env, s, eq, E, L, p⟩ => by
  subst eq
  exact p [] q (Ext.refl q) L .nil
theorem ga_cons {mr : MA} (ha : GE X C W e ma) (hr : GA X C W es mr) (hs : starEach (e :: es) X.env = (false, eval e X.env) :: starEach es X.env := by rfl) : GA X C W (e :: es) (aCons ma mr) := PA.imp (pa_cons ha hr hs) fun σ H Q ⟨q0, q, env, s, eq, E, L, p⟩ => by
  subst eq
  refine tM.first (f := fun x s1 => (mr env s1).bind fun xs s2 => .ok (x :: xs) s2) E L p rA_any fun x s1 vx q1 x1 E1 L1 y1 p1 => ?_
  refine tM.first (f := fun xs s2 => .ok (x :: xs) s2) E1 L1 p1 rA_any fun xs s2 vs q2 x2 E2 L2 y2 p2 => ?_
  exact p2 _ q2 (Ext.refl q2) L2 (.cons (RD.mono x2.kp x y1) y2)
theorem lenS {n : Nat} (h : n ≤ cap) : n ≤ sizeLine := by
  have : cap ≤ sizeLine := by rw [sizeLine_eq]; decide
  omega
theorem ge_tup {x1} {l : MA} (h : GA X C W es l) : GE X C W (.Tuple es x1 pos) (eTup l) := PE.imp (pe_tup h) fun σ H Q ⟨q0, q, env, s, eq, E, L, p⟩ => by
  subst eq
  refine tM.first (f := fun ds s1 => if ds.length ≤ 1000 then .ok (.tup ds) s1 else .stk) E L p rD_any fun ds s1 vs q1 x1 E1 L1 y1 p1 => ?_
  by_cases hl : ds.length ≤ 1000
  · rw [if_pos hl] at p1
    refine ⟨lenS (by rw [y1.length]; unfold cap; omega), fun a ha => ?_⟩
    have x2 := Ext.new1 (o := .tup vs) L1.wf ha
    exact p1 _ _ x2 (L1.new1 ha) (.tup (.inl ⟨upd_same, L1.wf.no ha⟩) (RDs.mono x2.kp ds y1))
  · rw [if_neg hl] at p1; exact p1.elim
/-- a new list, protected -/
theorem Ext.newL {q : Stt} (w : WF q) {p : Addr} {o : HO} (h : q.H p = none) : Ext q ⟨upd q.H p o, fun a => q.L a ∨ a = p, q.r⟩ :=
  ⟨fun a u e _ _ => by show upd q.H p o a = _; rw [upd_ne (ne_of_none e h)]; exact e, fun _ x => .inl x,
   fun a u e n _ => ⟨by show upd q.H p o a = _; rw [upd_ne (ne_of_none e h)]; exact e, fun z => z.elim n (ne_of_none e h)⟩, ⟨[], by simp⟩, fun _ x => .inl x, fun a u e t => ⟨u, by show upd q.H p o a = _; rw [upd_ne (ne_of_none e h)]; exact e, t⟩⟩
theorem Rel.newL {K : PySem.W.Frag} {q : Stt} {s : Sto} (R : Rel K C s q) {p : Addr} {o : HO} (h : q.H p = none) (nt : NT o := by exact fun _ z => nomatch z) : Rel K C s ⟨upd q.H p o, fun a => q.L a ∨ a = p, q.r⟩ :=
  ⟨⟨R.wf.nd, fun a z => .inl (R.wf.live a z), fun a l => by
    rcases l with l | rfl
    · obtain ⟨u, e, t⟩ := R.wf.trk a l
      exact ⟨u, by show upd q.H p o a = _; rw [upd_ne (ne_of_none e h)]; exact e, t⟩
    · exact ⟨o, upd_same, nt⟩⟩, R.len, fun n ob a e f => by
    have x := R.obs n ob a e f
    obtain ⟨u, hu⟩ := x.there
    exact x.mono (Ext.newL R.wf h).kp (by show upd q.H p o a = _; rw [upd_ne (ne_of_none hu h)]), R.tb.new h nt⟩
theorem RN.newL {K : PySem.W.Frag} {q q1 : Stt} {s : Sto} {ds : List D} {vs : List V} {p : Addr} (w : WF q) (x : Ext q q1) (L1 : Rel K C s q1) (h : q1.H p = none) (r : RDs K q1 ds vs) : RN K q ⟨upd q1.H p (.lst vs), fun a => q1.L a ∨ a = p, q1.r⟩ ds (.ref p) :=
  ⟨p, vs, rfl, x.free w h fun z => by
    obtain ⟨t, e⟩ := x.pre
    exact L1.wf.nor h (by rw [e]; exact List.mem_append_left _ z), upd_same, .inr rfl, L1.wf.nor h, RDs.mono (Ext.newL L1.wf h).kp ds r⟩
theorem gl_lst {l : MA} (h : GA X C W es l) : GL X C W (.List es pos) (lLst l) := PE.imp (pe_lst h) fun σ H Q ⟨q0, q, env, s, eq, E, L, p⟩ => by
  subst eq
  refine tM.first0 (f := fun ds s1 => if ds.length ≤ 1000 then .ok ds s1 else .stk) E L p fun ds s1 vs q1 x1 L1 y1 p1 => ?_
  by_cases hl : ds.length ≤ 1000
  · rw [if_pos hl] at p1
    refine ⟨lenS (by rw [y1.length]; unfold cap; omega), fun a ha => ?_⟩
    exact p1 _ _ (x1.trans (Ext.newL L1.wf ha)) (L1.newL ha) (RN.newL L.wf x1 L1 ha y1)
  · rw [if_neg hl] at p1; exact p1.elim

/-! ### and, or, not, if -/
theorem gt_not {mt : MT} (h : GT X C W a mt) : GT X C W (.UnaryOp .Not a pos) (tNot mt) := PT.imp (pt_not h) fun σ H Q ⟨q0, q, env, s, eq, E, L, p⟩ => by
  subst eq
  refine tM.first (f := fun b s1 => .ok (!b) s1) E L p rT_any fun b s1 c q1 x1 E1 L1 y1 p1 => ?_
  cases y1
  exact p1 _ q1 (Ext.refl q1) L1 rfl
theorem gw_and1 {mt : MT} (h : GT X C W a mt) : GW X C W (.BoolOp .And [a] pos) mt := pw_and1 h
theorem gw_or1 {mt : MT} (h : GT X C W a mt) : GW X C W (.BoolOp .Or [a] pos) mt := pw_or1 h
theorem gw_and {mt mu : MT} (ha : GT X C W a mt) (hb : GW X C W (.BoolOp .And (b :: es) pos) mu) : GW X C W (.BoolOp .And (a :: b :: es) pos) (tAnd mt mu) := PW.imp (pw_and ha hb) fun σ H Q ⟨q0, q, env, s, eq, E, L, p⟩ => by
  subst eq
  refine tM.first (f := fun b s1 => if b then mu env s1 else .ok false s1) E L p rT_any fun b s1 c q1 x1 E1 L1 y1 p1 => ?_
  cases y1
  cases b with
  | true => exact iteT (tM.same E1 L1 p1)
  | false => exact iteF (p1 _ q1 (Ext.refl q1) L1 rfl)
theorem gw_or {mt mu : MT} (ha : GT X C W a mt) (hb : GW X C W (.BoolOp .Or (b :: es) pos) mu) : GW X C W (.BoolOp .Or (a :: b :: es) pos) (tOr mt mu) := PW.imp (pw_or ha hb) fun σ H Q ⟨q0, q, env, s, eq, E, L, p⟩ => by
  subst eq
  refine tM.first (f := fun b s1 => if b then .ok true s1 else mu env s1) E L p rT_any fun b s1 c q1 x1 E1 L1 y1 p1 => ?_
  cases y1
  cases b with
  | true => exact iteT (p1 _ q1 (Ext.refl q1) L1 rfl)
  | false => exact iteF (tM.same E1 L1 p1)
theorem gt_w {mt : MT} (h : GW X C W e mt) : GT X C W e mt := h.pt
theorem ge_one {op} (h : GE X C W a ma) : GE X C W (.BoolOp op [a] pos) ma := pe_one h
theorem ge_and (ha : GE X C W a ma) (hb : GE X C W (.BoolOp .And (b :: es) pos) mb) : GE X C W (.BoolOp .And (a :: b :: es) pos) (eAnd ma mb) := PE.imp (pe_and ha hb) fun σ H Q ⟨q0, q, env, s, eq, E, L, p⟩ => by
  subst eq
  unfold eAnd at p
  cases z : ma env s with
  | stk => rw [z] at p; exact p.elim
  | exc x s1 => rw [z] at p; exact ⟨q0, q, env, s, rfl, E, L, by rw [z]; exact p⟩
  | ok d s1 =>
    refine ⟨q0, q, env, s, rfl, E, L, ?_⟩
    rw [z] at p ⊢
    intro v q1 x1 L1 y1
    cases y1 with
    | bl c =>
      refine ⟨c, rfl, ?_⟩
      cases c with
      | true =>
        refine iteT ⟨q0, q1, env, s1, rfl, E.ext x1, L1, ?_⟩
        exact Post.later x1 p fun _ _ _ _ w => w
      | false => exact iteF (p _ q1 x1 L1 (.bl false))
    | _ => exact p.elim
theorem ge_or (ha : GE X C W a ma) (hb : GE X C W (.BoolOp .Or (b :: es) pos) mb) : GE X C W (.BoolOp .Or (a :: b :: es) pos) (eOr ma mb) := PE.imp (pe_or ha hb) fun σ H Q ⟨q0, q, env, s, eq, E, L, p⟩ => by
  subst eq
  unfold eOr at p
  cases z : ma env s with
  | stk => rw [z] at p; exact p.elim
  | exc x s1 => rw [z] at p; exact ⟨q0, q, env, s, rfl, E, L, by rw [z]; exact p⟩
  | ok d s1 =>
    refine ⟨q0, q, env, s, rfl, E, L, ?_⟩
    rw [z] at p ⊢
    intro v q1 x1 L1 y1
    cases y1 with
    | bl c =>
      refine ⟨c, rfl, ?_⟩
      cases c with
      | false =>
        refine iteF ⟨q0, q1, env, s1, rfl, E.ext x1, L1, ?_⟩
        exact Post.later x1 p fun _ _ _ _ w => w
      | true => exact iteT (p _ q1 x1 L1 (.bl true))
    | _ => exact p.elim
theorem ge_not (ha : GE X C W a ma) : GE X C W (.UnaryOp .Not a pos) (eNot ma) := PE.imp (pe_not ha) fun σ H Q ⟨q0, q, env, s, eq, E, L, p⟩ => by
  subst eq
  unfold eNot at p
  cases z : ma env s with
  | stk => rw [z] at p; exact p.elim
  | exc x s1 => rw [z] at p; exact ⟨q0, q, env, s, rfl, E, L, by rw [z]; exact p⟩
  | ok d s1 =>
    refine ⟨q0, q, env, s, rfl, E, L, ?_⟩
    rw [z] at p ⊢
    intro v q1 x1 L1 y1
    cases y1 with
    | bl c => exact ⟨c, rfl, p _ q1 x1 L1 (.bl _)⟩
    | _ => exact p.elim
theorem ge_if {mt : MT} (hc : GT X C W c mt) (ha : GE X C W a ma) (hb : GE X C W b mb) : GE X C W (.IfExp c a b pos) (eIf mt ma mb) := PE.imp (pe_ifExp hc ha hb) fun σ H Q ⟨q0, q, env, s, eq, E, L, p⟩ => by
  subst eq
  refine tM.first (f := fun c s1 => if c then ma env s1 else mb env s1) E L p rD_any fun b s1 c q1 x1 E1 L1 y1 p1 => ?_
  cases y1
  cases b with
  | true => exact iteT (tM.same E1 L1 p1)
  | false => exact iteF (tM.same E1 L1 p1)
end
end MP

/-! Operators by values: each rule of the layer and the function beside it. Own text. -/
namespace MP
open PySem L2
variable {C : Tab}

/-! ### data as the model's data -/
mutual
def toP : D → PyData
  | .non => .none
  | .bl b => .bool b
  | .int i => .int i
  | .str cs => .str ⟨cs.toArray⟩
  | .tup ds => .tuple (toPs ds)
  | .lst ds => .list (toPs ds)
  | .ref _ => .none
  | .scr _ => .none
def toPs : List D → List PyData
  | [] => []
  | d :: ds => toP d :: toPs ds
end
mutual
theorem RD.dp {K : PySem.W.Frag} {q : Stt} : ∀ (n : Nat) (d : D) {v : V}, RD K q d v → d.fit n = true → Dp K q.H v (toP d)
  | _, .non, _, h, _ => by cases h; exact .non
  | _, .bl b, _, h, _ => by cases h; exact .bl b
  | _, .int b, _, h, _ => by cases h; exact .int b
  | _, .str b, _, h, _ => by cases h; exact .str _
  | n + 1, .tup ds, _, h, f => by
    cases h with
    | tup g r => exact .tup g.sq (RDs.dp n ds r (by simpa [D.fit] using f))
  | n + 1, .lst ds, _, h, f => by
    cases h with
    | lst g r => exact .lst (SqL.of g.1) (RDs.dp n ds r (by simpa [D.fit] using f))
  | 0, .tup ds, _, h, f => by simp [D.fit] at f
  | 0, .lst ds, _, h, f => by simp [D.fit] at f
  | 0, .ref n, _, h, f => by simp [D.fit] at f
  | _ + 1, .ref n, _, h, f => by simp [D.fit] at f
  | 0, .scr n, _, h, f => by simp [D.fit] at f
  | _ + 1, .scr n, _, h, f => by simp [D.fit] at f
theorem RDs.dp {K : PySem.W.Frag} {q : Stt} : ∀ (n : Nat) (ds : List D) {vs : List V}, RDs K q ds vs → D.fits n ds = true → DpAll K q.H vs (toPs ds)
  | _, [], _, h, _ => by cases h; exact .nil
  | n, d :: ds, _, h, f => by
    simp only [D.fits, Bool.and_eq_true] at f
    cases h with
    | cons a b => exact .cons (RD.dp n d a f.1) (RDs.dp n ds b f.2)
end
mutual
theorem eqv_toP : ∀ (n m : Nat) (a b : D), a.fit n = true → b.fit m = true → PyData.eqv (toP a) (toP b) = a.eqv b
  | n, m, .non, b, _, g => by cases b <;> simp [toP, D.eqv, PyData.eqv]; all_goals (cases m <;> simp [D.fit] at g)
  | n, m, .bl x, b, _, g => by cases b <;> simp [toP, D.eqv, PyData.eqv]
  | n, m, .int x, b, _, g => by cases b <;> simp [toP, D.eqv, PyData.eqv]
  | n, m, .str x, b, _, g => by
    cases b <;> simp only [toP, D.eqv, PyData.eqv]
    rw [Bool.beq_eq_decide_eq]
    simp
  | n, m, .tup xs, b, f, g => by
    cases n with
    | zero => simp [D.fit] at f
    | succ n =>
      cases b with
      | tup ys =>
        cases m with
        | zero => simp [D.fit] at g
        | succ m =>
          simp only [toP, D.eqv, PyData.eqv]
          exact eqvs_toP n m xs ys (by simpa [D.fit] using f) (by simpa [D.fit] using g)
      | _ => simp [toP, D.eqv, PyData.eqv]
  | n, m, .lst xs, b, f, g => by
    cases n with
    | zero => simp [D.fit] at f
    | succ n =>
      cases b with
      | lst ys =>
        cases m with
        | zero => simp [D.fit] at g
        | succ m =>
          simp only [toP, D.eqv, PyData.eqv]
          exact eqvs_toP n m xs ys (by simpa [D.fit] using f) (by simpa [D.fit] using g)
      | _ => simp [toP, D.eqv, PyData.eqv]
  | n, m, .ref _, b, f, g => by cases n <;> simp [D.fit] at f
  | n, m, .scr _, b, f, g => by cases n <;> simp [D.fit] at f
theorem eqvs_toP : ∀ (n m : Nat) (a b : List D), D.fits n a = true → D.fits m b = true → PyData.eqvAll (toPs a) (toPs b) = D.eqvs a b
  | n, m, [], [], _, _ => by simp [toPs, D.eqvs, PyData.eqvAll]
  | n, m, [], _ :: _, _, _ => by simp [toPs, D.eqvs, PyData.eqvAll]
  | n, m, _ :: _, [], _, _ => by simp [toPs, D.eqvs, PyData.eqvAll]
  | n, m, x :: xs, y :: ys, f, g => by
    simp only [D.fits, Bool.and_eq_true] at f g
    simp only [toPs, D.eqvs, PyData.eqvAll]
    rw [eqv_toP n m x y f.1 g.1, eqvs_toP n m xs ys f.2 g.2]
end
mutual
theorem lay_toP : ∀ (n : Nat) (d : D), d.fit n = true → (toP d).canLay0 = true ∧ (toP d).depth ≤ n + 1
  | n, .non, _ => by simp [toP, PyData.canLay0, PyData.depth]
  | n, .bl _, _ => by simp [toP, PyData.canLay0, PyData.depth]
  | n, .int _, _ => by simp [toP, PyData.canLay0, PyData.depth]
  | n, .str cs, f => by
    refine ⟨?_, by simp [toP, PyData.depth]⟩
    have f' : (cs.all fun c => decide (c < 1114112)) = true := by cases n <;> simpa [D.fit] using f
    simpa [toP, PyData.canLay0, PyData.strOk] using f'
  | n + 1, .tup ds, f => by
    obtain ⟨a, b⟩ := lay_toPs n ds (by simpa [D.fit] using f)
    exact ⟨by simpa [toP, PyData.canLay0] using a, by simp only [toP, PyData.depth]; omega⟩
  | n + 1, .lst ds, f => by
    obtain ⟨a, b⟩ := lay_toPs n ds (by simpa [D.fit] using f)
    exact ⟨by simpa [toP, PyData.canLay0] using a, by simp only [toP, PyData.depth]; omega⟩
  | 0, .tup ds, f => by simp [D.fit] at f
  | 0, .lst ds, f => by simp [D.fit] at f
  | n, .ref _, f => by cases n <;> simp [D.fit] at f
  | n, .scr _, f => by cases n <;> simp [D.fit] at f
theorem lay_toPs : ∀ (n : Nat) (ds : List D), D.fits n ds = true → PyData.canLayAll0 (toPs ds) = true ∧ PyData.depthAll (toPs ds) ≤ n + 1
  | n, [], _ => by simp [toPs, PyData.canLayAll0, PyData.depthAll]
  | n, d :: ds, f => by
    simp only [D.fits, Bool.and_eq_true] at f
    obtain ⟨a, b⟩ := lay_toP n d f.1
    obtain ⟨a', b'⟩ := lay_toPs n ds f.2
    exact ⟨by simp only [toPs, PyData.canLayAll0, a, a', Bool.and_self], by simp only [toPs, PyData.depthAll]; omega⟩
end
theorem shaped_toP {d : D} (f : d.fit 60 = true) : SeqAt.shaped (toP d) = true := by
  obtain ⟨a, b⟩ := lay_toP 60 d f
  unfold SeqAt.shaped
  rw [a, decide_eq_true (by omega)]
  rfl

/-! ### what is readable -/
theorem RB.flat {K : PySem.W.Frag} {q : Stt} {d : D} {v : V} (h : RB K q d v) (f : isFlat d = true) : RD K q d v := by
  rcases h with h | ⟨a, vs, ds, rfl, rfl, _⟩
  · exact h
  · simp [isFlat] at f
theorem RB.nl {K : PySem.W.Frag} {q : Stt} {d : D} {v : V} (h : RB K q d v) (f : ∀ ds, d ≠ .lst ds) : RD K q d v := by
  rcases h with h | ⟨a, vs, ds, rfl, rfl, _⟩
  · exact h
  · exact absurd rfl (f ds)
theorem RB.lst {K : PySem.W.Frag} {q : Stt} {ds : List D} {v : V} (h : RB K q (.lst ds) v) : ∃ a vs, v = .ref a ∧ q.H a = some (.lst vs) ∧ RDs K q ds vs := by
  rcases h with h | ⟨a, vs, ds', e, rfl, h1, _, h3⟩
  · cases h with | lst g r => exact ⟨_, _, rfl, g.1, r⟩
  · injection e with e; subst e; exact ⟨a, vs, rfl, h1, h3⟩
/-- a list or tuple by its items -/
theorem RB.seq {K : PySem.W.Frag} {q : Stt} {s : Sto} {d : D} {v : V} {ds : List D} (R : Rel K C s q) (h : RB K q d v) (f : seqOf s d = some ds) : ∃ a vs, v = .ref a ∧ (q.H a = some (.lst vs) ∨ SqT K q.H a vs) ∧ RDs K q ds vs := by
  cases d with
  | tup es =>
    simp only [seqOf, Option.some.injEq] at f
    subst f
    cases h.nl (by intro _ z; cases z) with | tup g r => exact ⟨_, _, rfl, .inr g.sq, r⟩
  | lst es =>
    simp only [seqOf, Option.some.injEq] at f
    subst f
    obtain ⟨a, vs, e, g, r⟩ := h.lst
    exact ⟨a, vs, e, .inl g, r⟩
  | ref n =>
    simp only [seqOf] at f
    split at f
    · rename_i es e
      simp only [Option.some.injEq] at f
      subst f
      cases h.nl (by intro _ z; cases z) with
      | ref g =>
        obtain ⟨vs, h1, h2⟩ := R.obs n _ _ e g
        exact ⟨_, _, rfl, .inl h1, h2⟩
    · cases f
  | _ => simp [seqOf] at f
/-- a list, placed or not -/
theorem RB.seqL {K : PySem.W.Frag} {q : Stt} {s : Sto} {d : D} {v : V} {ds : List D} (R : Rel K C s q) (h : RB K q d v) (f : seqOf s d = some ds) (nt : ∀ es, d ≠ .tup es) : ∃ a vs, v = .ref a ∧ q.H a = some (.lst vs) ∧ RDs K q ds vs := by
  cases d with
  | tup es => exact absurd rfl (nt es)
  | lst es =>
    simp only [seqOf, Option.some.injEq] at f
    subst f
    exact h.lst
  | ref n =>
    simp only [seqOf] at f
    split at f
    · rename_i es e
      simp only [Option.some.injEq] at f
      subst f
      cases h.nl (by intro _ z; cases z) with
      | ref g =>
        obtain ⟨vs, h1, h2⟩ := R.obs n _ _ e g
        exact ⟨_, _, rfl, h1, h2⟩
    · cases f
  | _ => simp [seqOf] at f
theorem sqOr {K : PySem.W.Frag} {H : Hp} {a : Addr} {vs : List V} (h : H a = some (.lst vs) ∨ SqT K H a vs) : SqL K H a vs ∨ SqT K H a vs := h.imp SqL.of id
/-- a list that is placed, as what it is -/
theorem RB.view {K : PySem.W.Frag} {q : Stt} {s : Sto} {d : D} {v : V} (R : Rel K C s q) (h : RB K q d v) : (∃ ds a vs, view s d = .lst ds ∧ v = .ref a ∧ q.H a = some (.lst vs) ∧ RDs K q ds vs) ∨ (view s d = d ∧ RD K q d v ∧ ∀ ds, d ≠ .lst ds) := by
  cases d with
  | lst ds =>
    obtain ⟨a, vs, e, g, r⟩ := h.lst
    exact .inl ⟨ds, a, vs, rfl, e, g, r⟩
  | ref n =>
    have h' := h.nl (by intro _ z; cases z)
    unfold MP.view
    simp only
    split
    · rename_i ds e
      cases h' with
      | ref g =>
        obtain ⟨vs, h1, h2⟩ := R.obs n _ _ e g
        exact .inl ⟨ds, _, vs, rfl, rfl, h1, h2⟩
    · exact .inr ⟨rfl, h', by intro _ z; cases z⟩
  | _ => exact .inr ⟨rfl, h.nl (by intro _ z; cases z), by intro _ z; cases z⟩
theorem RB.dp {K : PySem.W.Frag} {q : Stt} {s : Sto} {d : D} {v : V} (R : Rel K C s q) (h : RB K q d v) (f : (MP.view s d).fit 60 = true) : Dp K q.H v (toP (MP.view s d)) := by
  rcases h.view R with ⟨ds, a, vs, e, rfl, g, r⟩ | ⟨e, r, _⟩
  · rw [e] at f ⊢
    exact .lst (SqL.of g) (RDs.dp 59 ds r (by simpa [D.fit] using f))
  · rw [e] at f ⊢
    exact RD.dp 60 d r f

/-! ### numbers -/
theorem simI {K : PySem.W.Frag} {P : Int → Int → Prop} {f : Int → Int → V} {g : Op2} (h : ∀ s x y z, g s x y = some z → ∃ i j, x = .int i ∧ y = .int j ∧ P i j ∧ ∀ q : Stt, RD K q z (f i j)) : SimOp K C (rI P f) g := by
  intro q s x y vx vy z Q R bx bY e k
  obtain ⟨i, j, rfl, rfl, p, r⟩ := h s x y z e
  cases bx.flat rfl
  cases bY.flat rfl
  exact ⟨i, j, rfl, rfl, p, k _ q (Ext.refl q) R (r q)⟩
theorem simI0 {K : PySem.W.Frag} {f : Int → Int → V} {g : Op2} (h : ∀ s x y z, g s x y = some z → ∃ i j, x = .int i ∧ y = .int j ∧ ∀ q : Stt, RD K q z (f i j)) : SimOp K C (rI0 f) g := by
  intro q s x y vx vy z Q R bx bY e k
  obtain ⟨i, j, rfl, rfl, r⟩ := h s x y z e
  cases bx.flat rfl
  cases bY.flat rfl
  exact ⟨i, j, rfl, rfl, k _ q (Ext.refl q) R (r q)⟩
theorem simSub {K : PySem.W.Frag} : SimOp K C (rI0 fun i j => .int (i - j)) opSub := simI0 fun s x y z e => by
  unfold opSub at e
  split at e
  · cases e; exact ⟨_, _, rfl, rfl, fun _ => .int _⟩
  · cases e
theorem smallI_iff {i : Int} (h : smallI i = true) : -(2 ^ 64) < i ∧ i < 2 ^ 64 := by
  unfold smallI at h
  simpa using h
theorem simMul {K : PySem.W.Frag} : SimOp K C (rI CMul fun i j => .int (i * j)) opMul := simI fun s x y z e => by
  unfold opMul at e
  split at e
  · split at e
    · rename_i hc
      cases e
      refine ⟨_, _, rfl, rfl, ?_, fun _ => .int _⟩
      rw [Bool.or_eq_true] at hc
      exact hc.imp smallI_iff smallI_iff
    · cases e
  · cases e
theorem simDiv {K : PySem.W.Frag} : SimOp K C (rI CDiv fun i j => .int (i / j)) opDiv := simI fun s x y z e => by
  unfold opDiv at e
  split at e
  · split at e
    · rename_i hc
      cases e
      exact ⟨_, _, rfl, rfl, hc, fun _ => .int _⟩
    · cases e
  · cases e
theorem simMod {K : PySem.W.Frag} : SimOp K C (rI (fun _ j => 0 < j) fun i j => .int (i % j)) opMod := simI fun s x y z e => by
  unfold opMod at e
  split at e
  · split at e
    · rename_i hc
      cases e
      exact ⟨_, _, rfl, rfl, hc, fun _ => .int _⟩
    · cases e
  · cases e
theorem simPow {K : PySem.W.Frag} : SimOp K C (rI CPow fun i j => .int (i ^ j.toNat)) opPow := simI fun s x y z e => by
  unfold opPow at e
  split at e
  · split at e
    · rename_i hc
      cases e
      exact ⟨_, _, rfl, rfl, ⟨hc.1, by omega, hc.2.2⟩, fun _ => .int _⟩
    · cases e
  · cases e
theorem simCmp {K : PySem.W.Frag} (p : Int → Int → Bool) : SimOp K C (rI0 fun i j => .bl (p i j)) (opCmp p) := simI0 fun s x y z e => by
  unfold opCmp at e
  split at e
  · cases e; exact ⟨_, _, rfl, rfl, fun _ => .bl _⟩
  · cases e

/-! ### sums -/
def rAddA (K : PySem.W.Frag) : R2 := fun x y H Q => (rI0 fun i j => .int (i + j)) x y H Q ∨ (∃ i j, x = .str i ∧ y = .str j ∧ i.length + j.length ≤ sizeLine ∧ Q (.str (i ++ j)) H) ∨ rCatA K x y H Q
theorem op_addA {X : Cx} : OpR X (binaryOp .Add) (rAddA X.K) := op_add.or (op_add_str.or op_catA)
theorem simAdd {K : PySem.W.Frag} : SimOp K C (rAddA K) opAdd := by
  intro q s x y vx vy z Q R bx bY e k
  unfold opAdd at e
  split at e
  · cases e
    cases bx.flat rfl
    cases bY.flat rfl
    exact .inl ⟨_, _, rfl, rfl, k _ q (Ext.refl q) R (.int _)⟩
  · rename_i a b
    split at e
    · rename_i hl
      cases e
      cases bx.flat rfl
      cases bY.flat rfl
      refine .inr (.inl ⟨_, _, rfl, rfl, ?_, ?_⟩)
      · exact lenS (by simpa [Str.length] using hl)
      · refine k _ q (Ext.refl q) R ?_
        have : (⟨a.toArray⟩ ++ ⟨b.toArray⟩ : Str) = ⟨(a ++ b).toArray⟩ := by
          show Str.append _ _ = _
          unfold Str.append
          simp
        rw [this]
        exact .str _
    · cases e
  · rename_i a b
    split at e
    · rename_i hl
      cases e
      cases bx.nl (by intro _ z; cases z) with
      | @tup a1 v1 _ gx rx =>
        cases bY.nl (by intro _ z; cases z) with
        | @tup a2 v2 _ gy ry =>
          refine .inr (.inr ⟨_, _, _, _, rfl, rfl, gx.sq, gy.sq, lenS (by rw [rx.length, ry.length]; exact hl), fun h0 => ?_, fun _ h0 => ?_, fun _ _ p hp => ?_⟩)
          · subst h0
            have : a = [] := by have := rx.length; simpa using this.symm
            subst this
            exact k _ q (Ext.refl q) R (.tup gy ry)
          · subst h0
            have : b = [] := by have := ry.length; simpa using this.symm
            subst this
            rw [List.append_nil] at k
            exact k _ q (Ext.refl q) R (.tup gx rx)
          · have x2 := Ext.new1 (o := .tup (v1 ++ v2)) R.wf hp
            exact k _ _ x2 (R.new1 hp) (.tup (.inl ⟨upd_same, R.wf.no hp⟩) (RDs.mono x2.kp _ (rx.append ry)))
    · cases e
  · cases e

/-! ### equality -/
/-- lists, one of them empty -/
def rLenE (K : PySem.W.Frag) (neg : Bool) : R2 := fun x y H Q => ∃ a b xs ys, x = .ref a ∧ y = .ref b ∧ H a = some (.lst xs) ∧ H b = some (.lst ys) ∧ xs.length ≠ ys.length ∧ Q (.bl neg) H
theorem vals_size {xs : List V} {its : List Value} (r : Vals xs its) : its.toArray.size = xs.length := by rw [List.size_toArray]; exact r.length.symm
theorem op_eqLen {X : Cx} (hu : X.A.units + 64 < cLine) : OpR X (compareOp .Eq) (rLenE X.K false) := by
  intro pins s σ H x y v u Q I rx ry h; obtain ⟨a, b, xs, ys, rfl, rfl, ha, hb, hn, q⟩ := h
  cases rx
  cases ry
  obtain ⟨its, r, p, _⟩ := I.list (SqL.of ha)
  obtain ⟨its2, r2, p2, _⟩ := I.list (SqL.of hb)
  refine SeqAt.eq_list_lengthsAt p.isList p2.isList ?_ (by omega) ⟨.bl false, H, I, rfl, q⟩
  rw [vals_size r, vals_size r2]
  simpa using hn
theorem op_neLen {X : Cx} (hu : X.A.units + 64 < cLine) : OpR X (compareOp .NotEq) (rLenE X.K true) := by
  intro pins s σ H x y v u Q I rx ry h; obtain ⟨a, b, xs, ys, rfl, rfl, ha, hb, hn, q⟩ := h
  cases rx
  cases ry
  obtain ⟨its, r, p, _⟩ := I.list (SqL.of ha)
  obtain ⟨its2, r2, p2, _⟩ := I.list (SqL.of hb)
  refine SeqAt.RcNeAt.lists_lengths p.isList p2.isList ?_ (by omega) X.prog X.w X.xe _ ⟨.bl true, H, I, rfl, q⟩
  rw [vals_size r, vals_size r2]
  simpa using hn
def rEqA (K : PySem.W.Frag) : R2 := fun x y H Q => rLenE K false x y H Q ∨ rEqD K x y H Q
def rNeA (K : PySem.W.Frag) : R2 := fun x y H Q => rLenE K true x y H Q ∨ rNeD K x y H Q
theorem op_eqA {X : Cx} (hu : X.A.units + 64 < cLine) : OpR X (compareOp .Eq) (rEqA X.K) := (op_eqLen hu).or (op_eqD hu)
theorem op_neA {X : Cx} (hu : X.A.units + 64 < cLine) : OpR X (compareOp .NotEq) (rNeA X.K) := (op_neLen hu).or (op_neD hu)
theorem eqD_cases {a b : D} {k : Bool} (h : eqD a b = some k) : (∃ ds es, a = .lst ds ∧ b = .lst es ∧ ds.length ≠ es.length ∧ k = false) ∨ (a = .lst [] ∧ b = .lst [] ∧ k = true) ∨ (a.fit 60 = true ∧ b.fit 60 = true ∧ k = a.eqv b) := by
  unfold eqD at h
  split at h
  · cases h; exact .inr (.inl ⟨rfl, rfl, rfl⟩)
  · cases h; exact .inl ⟨_, _, rfl, rfl, by simp, rfl⟩
  · cases h; exact .inl ⟨_, _, rfl, rfl, by simp, rfl⟩
  · split at h
    · rename_i hf
      cases h
      rw [Bool.and_eq_true] at hf
      exact .inr (.inr ⟨hf.1, hf.2, rfl⟩)
    · cases h
theorem eq_core {K : PySem.W.Frag} {q : Stt} {s : Sto} {x y : D} {vx vy : V} {k : Bool} (R : Rel K C s q) (bx : RB K q x vx) (bY : RB K q y vy) (e : eqD (view s x) (view s y) = some k) :
    (k = false ∧ ∃ a b xs ys, vx = .ref a ∧ vy = .ref b ∧ q.H a = some (.lst xs) ∧ q.H b = some (.lst ys) ∧ xs.length ≠ ys.length) ∨
      ∃ d e, Dp K q.H vx d ∧ Dp K q.H vy e ∧ SeqAt.shaped d = true ∧ SeqAt.shaped e = true ∧ PyData.eqv d e = k := by
  have lists : ∀ ds es, view s x = .lst ds → view s y = .lst es → ∃ a b xs ys, vx = .ref a ∧ vy = .ref b ∧ q.H a = some (.lst xs) ∧ q.H b = some (.lst ys) ∧ RDs K q ds xs ∧ RDs K q es ys := by
    intro ds es e1 e2
    rcases bx.view R with ⟨ds', a, xs, f1, rfl, g1, r1⟩ | ⟨f1, _, n1⟩
    · rcases bY.view R with ⟨es', b, ys, f2, rfl, g2, r2⟩ | ⟨f2, _, n2⟩
      · rw [f1] at e1; injection e1 with e1; subst e1
        rw [f2] at e2; injection e2 with e2; subst e2
        exact ⟨a, b, xs, ys, rfl, rfl, g1, g2, r1, r2⟩
      · rw [f2] at e2; exact absurd e2 (n2 _)
    · rw [f1] at e1; exact absurd e1 (n1 _)
  rcases eqD_cases e with ⟨ds, es, e1, e2, hn, rfl⟩ | ⟨e1, e2, rfl⟩ | ⟨f1, f2, rfl⟩
  · obtain ⟨a, b, xs, ys, h1, h2, h3, h4, r1, r2⟩ := lists ds es e1 e2
    exact .inl ⟨rfl, a, b, xs, ys, h1, h2, h3, h4, by rw [r1.length, r2.length]; exact hn⟩
  · obtain ⟨a, b, xs, ys, h1, h2, h3, h4, r1, r2⟩ := lists [] [] e1 e2
    subst h1 h2
    cases r1
    cases r2
    exact .inr ⟨.list [], .list [], .lst (SqL.of h3) .nil, .lst (SqL.of h4) .nil, by decide +kernel, by decide +kernel, by decide +kernel⟩
  · exact .inr ⟨_, _, bx.dp R f1, bY.dp R f2, shaped_toP f1, shaped_toP f2, eqv_toP 60 60 _ _ f1 f2⟩
theorem simEq {K : PySem.W.Frag} : SimOp K C (rEqA K) opEq := by
  intro q s x y vx vy z Q R bx bY e k
  unfold opEq at e
  cases h : eqD (view s x) (view s y) with
  | none => rw [h] at e; cases e
  | some b =>
    rw [h] at e
    cases e
    have kk := k (.bl b) q (Ext.refl q) R (.bl b)
    rcases eq_core R bx bY h with ⟨rfl, a, b, xs, ys, h1, h2, h3, h4, hn⟩ | ⟨d, e, h1, h2, h3, h4, rfl⟩
    · exact .inl ⟨a, b, xs, ys, h1, h2, h3, h4, hn, kk⟩
    · exact .inr ⟨d, e, h1, h2, h3, h4, kk⟩
theorem simNe {K : PySem.W.Frag} : SimOp K C (rNeA K) opNe := by
  intro q s x y vx vy z Q R bx bY e k
  unfold opNe at e
  cases h : eqD (view s x) (view s y) with
  | none => rw [h] at e; cases e
  | some b =>
    rw [h] at e
    cases e
    have kk := k (.bl (!b)) q (Ext.refl q) R (.bl _)
    rcases eq_core R bx bY h with ⟨rfl, a, b, xs, ys, h1, h2, h3, h4, hn⟩ | ⟨d, e, h1, h2, h3, h4, rfl⟩
    · exact .inl ⟨a, b, xs, ys, h1, h2, h3, h4, hn, kk⟩
    · exact .inr ⟨d, e, h1, h2, h3, h4, kk⟩
end MP

/-! More operators: membership, items, lengths, texts, kinds, slices. Own text. -/
namespace MP
open PySem L2
variable {C : Tab}

/-! ### membership -/
theorem RD.flatV {K : PySem.W.Frag} {q : Stt} {d : D} {v : V} (h : RD K q d v) (f : isFlat d = true) : flatV v = true := by cases h <;> first | rfl | simp [isFlat] at f
theorem RDs.flatV {K : PySem.W.Frag} {q : Stt} : ∀ {ds : List D} {vs : List V}, RDs K q ds vs → ds.all isFlat = true → vs.all L2.flatV = true
  | [], _, h, _ => by cases h; rfl
  | d :: ds, _, h, f => by
    rw [List.all_cons, Bool.and_eq_true] at f; cases h with
    | cons a b => rw [List.all_cons, a.flatV f.1, RDs.flatV b f.2]; rfl
theorem eqV_flat {K : PySem.W.Frag} {q : Stt} {d e : D} {v u : V} (h : RD K q d v) (g : RD K q e u) (fd : isFlat d = true) (fe : isFlat e = true) : eqV v u = d.eqv e := by
  cases h <;> first | (simp [isFlat] at fd; done) | skip
  all_goals cases g <;> first | (simp [isFlat] at fe; done) | skip
  all_goals simp only [eqV, D.eqv]
  rw [Bool.beq_eq_decide_eq]
  simp
theorem inV_flat {K : PySem.W.Frag} {q : Stt} {x : D} {vx : V} (h : RD K q x vx) (fx : isFlat x = true) : ∀ {ds : List D} {vs : List V}, RDs K q ds vs → ds.all isFlat = true → inV vx vs = ds.any fun d => d.eqv x
  | [], _, r, _ => by cases r; rfl
  | d :: ds, _, r, f => by
    rw [List.all_cons, Bool.and_eq_true] at f; cases r with
    | cons a b =>
      have ih := inV_flat h fx b f.2
      unfold inV at ih ⊢
      rw [List.any_cons, List.any_cons, ih, eqV_flat a h f.1 fx]
def rInA (K : PySem.W.Frag) (neg : Bool) : R2 := fun x y H Q => (∃ (c : Nat) (z : Str), x = .str ⟨#[c]⟩ ∧ y = .str z ∧ Q (.bl (if neg then !decide (c ∈ z.cps.toList) else decide (c ∈ z.cps.toList))) H) ∨ rIn K neg x y H Q
theorem op_inA {X : Cx} : OpR X (compareOp .In) (rInA X.K false) := op_in_sign.or op_in_seq
theorem op_notInA {X : Cx} : OpR X (compareOp .NotIn) (rInA X.K true) := op_notIn_sign.or op_notIn_seq
theorem in_core {K : PySem.W.Frag} {q : Stt} {s : Sto} {x y : D} {vx vy : V} {k : Bool} {neg : Bool} {Q : VK} (R : Rel K C s q) (bx : RB K q x vx) (bY : RB K q y vy) (e : inD s x y = some k) (kk : Q (.bl (if neg then !k else k)) q.H) : rInA K neg vx vy q.H Q := by
  unfold inD at e
  split at e
  · rename_i c z
    cases e
    cases bx.flat rfl
    cases bY.flat rfl
    exact .inl ⟨c, _, rfl, rfl, kk⟩
  · split at e
    · rename_i ds hs
      split at e
      · rename_i hf
        cases e
        rw [Bool.and_eq_true] at hf
        obtain ⟨a, vs, rfl, h1, r⟩ := bY.seq R hs
        have rx := bx.flat hf.1
        refine .inr ⟨a, vs, rfl, sqOr h1, rx.flatV hf.1, r.flatV hf.2, ?_⟩
        rw [inV_flat rx hf.1 r hf.2]
        exact kk
      · cases e
    · cases e
theorem simIn {K : PySem.W.Frag} : SimOp K C (rInA K false) opIn := by
  intro q s x y vx vy z Q R bx bY e k
  unfold opIn at e
  cases h : inD s x y with
  | none => rw [h] at e; cases e
  | some b => rw [h] at e; cases e; exact in_core R bx bY h (k _ q (Ext.refl q) R (.bl b))
theorem simNotIn {K : PySem.W.Frag} : SimOp K C (rInA K true) opNotIn := by
  intro q s x y vx vy z Q R bx bY e k
  unfold opNotIn at e
  cases h : inD s x y with
  | none => rw [h] at e; cases e
  | some b => rw [h] at e; cases e; exact in_core R bx bY h (k _ q (Ext.refl q) R (.bl (!b)))

/-! ### items -/
theorem place_ix (n : Nat) (i : Int) : place n i = ixN n i := rfl
theorem ixD_get {K : PySem.W.Frag} {q : Stt} {ds : List D} {vs : List V} {i : Int} {d : D} (r : RDs K q ds vs) (e : ixD ds i = some d) : ∃ v, atI vs i = some v ∧ RD K q d v := by
  unfold ixD at e
  cases h : place ds.length i with
  | none => rw [h] at e; cases e
  | some k =>
    rw [h] at e
    obtain ⟨v, h1, h2⟩ := RDs.get r e
    refine ⟨v, ?_, h2⟩
    unfold atI
    rw [r.length, ← place_ix, h]
    exact h1
theorem simIx {K : PySem.W.Frag} : SimOp K C (rIx K) opIx := by
  intro q s x y vx vy z Q R bx bY e k
  unfold opIx at e
  split at e
  · rename_i z' i
    split at e
    · rename_i hl
      cases bx.flat rfl
      cases bY.flat rfl
      cases h : place z'.length i with
      | none => rw [h] at e; cases e
      | some j =>
        rw [h] at e
        simp only [Option.bind] at e
        cases h2 : z'[j]? with
        | none => rw [h2] at e; cases e
        | some c =>
          rw [h2] at e
          cases e
          refine .inr (.inr ⟨_, i, c, rfl, rfl, ?_, ?_, k _ q (Ext.refl q) R (.str [c])⟩)
          · exact lenS (by simpa [Str.length] using hl)
          · show atI z' i = some c
            unfold atI
            rw [← place_ix, h]
            exact h2
    · cases e
  · rename_i ns i
    cases bY.flat rfl
    cases bx.nl (by intro _ z; cases z) with
    | @scr _ a g =>
      cases h : place ns.length i with
      | none => rw [h] at e; cases e
      | some j =>
        rw [h] at e
        simp only [Option.bind] at e
        cases h2 : ns[j]? with
        | none => rw [h2] at e; cases e
        | some c =>
          rw [h2] at e
          cases e
          refine .inl ⟨a, _, i, .int c, rfl, rfl, g.sq, ?_, k _ q (Ext.refl q) R (.int c)⟩
          unfold atI
          rw [List.length_map, ← place_ix, h]
          simp [h2]
  · rename_i i _ _
    cases bY.flat rfl
    cases h : seqOf s x with
    | none => rw [h] at e; cases e
    | some ds =>
      rw [h] at e
      obtain ⟨a, vs, rfl, h1, r⟩ := bx.seq R h
      obtain ⟨v, h2, h3⟩ := ixD_get r e
      rcases h1 with h1 | h1
      · exact .inl ⟨a, vs, i, v, rfl, rfl, SqL.of h1, h2, k v q (Ext.refl q) R h3⟩
      · exact .inr (.inl ⟨a, vs, i, v, rfl, rfl, h1, h2, k v q (Ext.refl q) R h3⟩)
  · cases e

section
variable {X : Cx} {W : Wx} {pos p apos : Pos} {e a b o : Expr} {es : List Expr} {m ma mb : ME}
theorem PE.ix {r : R2} {g : Op2} (hr : IxR X r) (hs : SimOp X.K C r g) (ha : GB X C W a ma) (hb : GB X C W b mb) (hp : PlainIx b) : GE X C W (.Subscript a b pos) (eOp2 g ma mb) := PE.imp (pe_ix hr ha hb hp) (op2_imp hs)
theorem ge_ix (ha : GB X C W a ma) (hb : GB X C W b mb) (hp : PlainIx b := by exact fun _ _ => rfl) : GE X C W (.Subscript a b pos) (eOp2 opIx ma mb) := PE.ix ix_seq simIx ha hb hp

/-! ### built-in functions of one thing -/
theorem CallR.or {f : Value} {r r' : List V → Hp → VK → Prop} (h : CallR X f r) (h' : CallR X f r') : CallR X f (fun x H Q => r x H Q ∨ r' x H Q) := by
  intro pins s σ H xs us Q I rr q
  rcases q with q | q
  · exact h pins s σ H xs us Q I rr q
  · exact h' pins s σ H xs us Q I rr q
theorem pa1 (ha : GB X C W e ma) (hs : starEach [e] X.env = (false, eval e X.env) :: starEach [] X.env := by rfl) : PA X [e] (tCons (tM X.K C W (rB X.K) ma) tNil) := pa_cons ha pa_nil hs
theorem fun1_imp {K : PySem.W.Frag} {r : List V → Hp → VK → Prop} {g : Op1} (hs : SimU K C (fun v H Q => r [v] H Q) g) (σ : St) (H : Hp) (Q : VK) (h : tM K C W (rD K) (eOp1 g ma) σ H Q) : tCB r (tCons (tM K C W (rB K) ma) tNil) σ H Q := op1_imp hs σ H Q h
theorem ge_fun1 {x : Str} {id : String} {r : List V → Hp → VK → Prop} {g : Op1} (hc : CallR X (.builtin id) r) (hs : SimU X.K C (fun v H Q => r [v] H Q) g) (hm : X.mg x = none) (ha : GB X C W e ma) (hg : Gl X x := by rfl) (hv : bootBuiltins x = some (.builtin id) := by decide +kernel)
    (hn : x ≠ "__name__" := by decide) (hd : (x == ("__debug__" : Str)) = false := by decide) (h1 : starEach [e] X.env = (false, eval e X.env) :: starEach [] X.env := by rfl) : GE X C W (.Call (.Name x p) [e] [] pos) (eOp1 g ma) :=
  PE.imp (pe_callB hc hg hm hv (pa1 ha h1) hn hd (he := h1)) (fun1_imp hs)
theorem ge_ty1 {x : Str} {T : String} {r : List V → Hp → VK → Prop} {g : Op1} (hc : CallR X (.type T) r) (hs : SimU X.K C (fun v H Q => r [v] H Q) g) (hm : X.mg x = none) (ha : GB X C W e ma) (hg : Gl X x := by rfl) (hv : bootBuiltins x = some (.type T) := by decide +kernel)
    (hn : x ≠ "__name__" := by decide) (hd : (x == ("__debug__" : Str)) = false := by decide) (h1 : starEach [e] X.env = (false, eval e X.env) :: starEach [] X.env := by rfl) : GE X C W (.Call (.Name x p) [e] [] pos) (eOp1 g ma) :=
  PE.imp (pe_callTy hc hg hm hv (pa1 ha h1) hn hd (he := h1)) (fun1_imp hs)
def rLenA (K : PySem.W.Frag) : List V → Hp → VK → Prop := fun xs H Q => (∃ p ys, xs = [.ref p] ∧ (SqL K H p ys ∨ SqT K H p ys) ∧ Q (.int ys.length) H) ∨ ∃ z, xs = [.str z] ∧ z.length ≤ sizeLine ∧ Q (.int z.length) H
theorem call_lenA : CallR X (.builtin "len") (rLenA X.K) := CallR.or call_len_seq call_len_str
theorem simLen {K : PySem.W.Frag} : SimU K C (fun v H Q => rLenA K [v] H Q) opLen := by
  intro q s x vx z Q R bx e k
  unfold opLen at e
  split at e
  · rename_i z'
    split at e
    · rename_i hl
      cases e
      cases bx.flat rfl
      have := k (.int (z'.length : Nat)) q (Ext.refl q) R (.int _)
      exact .inr ⟨_, rfl, lenS (by simpa [Str.length] using hl), by simpa [Str.length] using this⟩
    · cases e
  · rename_i ns
    cases e
    cases bx.nl (by intro _ z; cases z) with
    | @scr _ a g =>
      have := k (.int (ns.length : Nat)) q (Ext.refl q) R (.int _)
      exact .inl ⟨a, ns.map V.int, rfl, .inl g.sq, by rw [List.length_map]; exact this⟩
  · cases h : seqOf s x with
    | none => rw [h] at e; cases e
    | some ds =>
      rw [h] at e
      cases e
      obtain ⟨a, vs, rfl, h1, r⟩ := bx.seq R h
      have := k (.int (ds.length : Nat)) q (Ext.refl q) R (.int _)
      exact .inl ⟨a, vs, rfl, sqOr h1, by rw [r.length]; exact this⟩
def rIntA : List V → Hp → VK → Prop := fun xs H Q => ((∃ i, xs = [.int i] ∧ Q (.int i) H) ∨ ∃ k, xs = [.bl k] ∧ Q (.int (if k then 1 else 0)) H) ∨ ∃ a n, xs = [.str a] ∧ PySem.intText? a = some n ∧ a.length ≤ 640 ∧ Q (.int n) H
theorem call_intA : CallR X (.type "int") rIntA := CallR.or call_int1 call_int_str
theorem figs_text {cs : List Nat} (h1 : cs ≠ []) (h2 : cs.length ≤ 9) (h3 : cs.all isFig = true) : PySem.intText? ⟨cs.toArray⟩ = some ((figs cs : Nat) : Int) := by
  refine intText_digits (x := ⟨cs.toArray⟩) (fun c hc => ?_) (by simpa using h1) (by simp [Str.length]; omega)
  have := List.all_eq_true.mp h3 c (by simpa using hc)
  simpa [isFig] using this
theorem simInt {K : PySem.W.Frag} : SimU K C (fun v H Q => rIntA [v] H Q) opIntOf := by
  intro q s x vx z Q R bx e k
  unfold opIntOf at e
  split at e
  · cases e; cases bx.flat rfl; exact .inl (.inl ⟨_, rfl, k _ q (Ext.refl q) R (.int _)⟩)
  · cases e; cases bx.flat rfl; exact .inl (.inr ⟨_, rfl, k _ q (Ext.refl q) R (.int _)⟩)
  · split at e
    · rename_i cs hc
      cases e
      cases bx.flat rfl
      exact .inr ⟨_, _, rfl, figs_text hc.1 hc.2.1 hc.2.2, by simp [Str.length]; omega, k _ q (Ext.refl q) R (.int _)⟩
    · cases e
  · cases e
theorem ofS (z : String) : Str.ofString z = ⟨(z.toList.map Char.toNat).toArray⟩ := Str.ofString_eq_toList z
theorem simStr {K : PySem.W.Frag} : SimU K C (fun v H Q => ∃ i, [v] = [V.int i] ∧ i.natAbs.log2 < 1920 ∧ Q (.str (Str.ofString (toString i))) H) opStrOf := by
  intro q s x vx z Q R bx e k
  unfold opStrOf at e
  split at e
  · rename_i i
    split at e
    · rename_i hs
      cases e
      cases bx.flat rfl
      have h := smallI_iff hs
      refine ⟨i, rfl, ?_, ?_⟩
      · rcases Nat.eq_zero_or_pos i.natAbs with h0 | h0
        · rw [h0]; decide
        · exact Nat.lt_of_lt_of_le ((Nat.log2_lt (by omega)).mpr (show i.natAbs < 2 ^ 64 by omega)) (by decide)
      · rw [ofS]
        exact k _ q (Ext.refl q) R (.str _)
    · cases e
  · cases e
theorem simTuple {K : PySem.W.Frag} : SimU K C (fun v H Q => ∃ p ys, [v] = [V.ref p] ∧ ((SqL K H p ys ∧ ∀ l, H l = none → Q (.ref l) (upd H l (.tup ys))) ∨ (SqT K H p ys ∧ Q (.ref p) H))) opTuple := by
  intro q s x vx z Q R bx e k
  unfold opTuple at e
  cases h : seqOf s x with
  | none => rw [h] at e; cases e
  | some ds =>
    rw [h] at e
    cases e
    cases x with
    | tup es =>
      simp only [seqOf, Option.some.injEq] at h
      subst h
      have b := bx.nl (by intro _ z; cases z)
      cases id b with
      | tup g r => exact ⟨_, _, rfl, .inr ⟨g.sq, k _ q (Ext.refl q) R b⟩⟩
    | _ =>
      obtain ⟨a, vs, rfl, h1', r⟩ := bx.seqL R h (by intro _ z; cases z)
      refine ⟨a, vs, rfl, .inl ⟨SqL.of h1', fun l hl => ?_⟩⟩
      have x2 := Ext.new1 (o := .tup vs) R.wf hl
      exact k _ _ x2 (R.new1 hl) (.tup (.inl ⟨upd_same, R.wf.no hl⟩) (RDs.mono x2.kp _ r))
end
end MP

/-! Calls, objects, kinds, slices, texts. Own text. -/
namespace MP
open PySem L2

/-! ### calls -/
/-- what a def promises by its function -/
def spM (K : PySem.W.Frag) (C : Tab) (g : Fn) : Sp := fun vs H Q E => ∃ (q : Stt) (s : Sto) (ds : List D), q.H = H ∧ Rel K C s q ∧ RDs K q ds vs ∧ Post K C (fun cls d _ H' => E cls d H') (rD K) q [] Q (g ds s)
/-- a def at f that may be called: g from the arguments that are written -/
def Cal (P : Program) (w : World) (K : PySem.W.Frag) (mg : Str → Option Value) (base : Heap) (C : Tab) (k : Nat) (f : Addr) (g : Fn) : Prop :=
  ∃ (fd : FuncData) (ps : List Str) (ds : List Value) (dvs : List V) (dD : List D) (g' : Fn), FnOk P w K mg base (L2.CX P w) k f fd ps (spM K C g') ∧ Binds K fd ps ds ∧ Vals dvs ds ∧ (∀ q : Stt, RDs K q dD dvs) ∧ g = fun as => g' (as ++ dD)
theorem Cal.mono {P : Program} {w : World} {K : PySem.W.Frag} {mg : Str → Option Value} {base : Heap} {C : Tab} {j k : Nat} {f : Addr} {g : Fn} (h : Cal P w K mg base C j f g) (hk : j ≤ k) : Cal P w K mg base C k f g := by
  obtain ⟨fd, ps, ds, dvs, dD, g', F, b, d, r, e⟩ := h
  exact ⟨fd, ps, ds, dvs, dD, g', F.mono hk, b, d, r, e⟩
section
variable {X : Cx} {C : Tab} {W : Wx} {k : Nat} {f Ca : Addr} {g : Fn} {pos p apos : Pos} {x : Str} {e a b o : Expr} {es : List Expr} {m ma mb mo : ME} {ml : MA}
/-- what a call asks of its arguments -/
def Asked (K : PySem.W.Frag) (C : Tab) (W : Wx) (g : Fn) (σ : St) (vs : List V) (H : Hp) (Q : VK) : Prop := ∃ (q : Stt) (s : Sto) (ds : List D), q.H = H ∧ Rel K C s q ∧ RDs K q ds vs ∧ Post K C W (rD K) q σ Q (g ds s)
theorem post_sig {K : PySem.W.Frag} {q : Stt} {σ : St} {Q : VK} {r : Res D} (h : Post K C W (rD K) q σ Q r) : Post K C (fun cls d _ H' => W cls d σ H') (rD K) q [] Q r := by
  cases r with
  | ok d s => exact h
  | exc x s => exact h
  | stk => exact h
theorem run_cal {pins : List (Addr × Obj)} {σ : St} {H : Hp} {s : Shared} {Q : VK} {us : List Value} {vs : List V} (F : Cal X.prog X.w X.K X.mg X.base C k f g) (hr : Room k X.A) (tk : Takes X W) (I : Inv X pins σ H s) (r : Vals vs us) (h : Asked X.K C W g σ vs H Q) : wpAny (model X.prog X.w) X.A (call (.ref f) us) (EP X pins σ Q) X.xe s := by
  obtain ⟨fd, ps, ds, dvs, dD, g', F, b, d, rd, rfl⟩ := F
  obtain ⟨q, st, as, e, L, ra, p⟩ := h
  refine run_fnSD (E := WE W) F hr b d (passAt tk σ) I r ?_
  exact ⟨q, st, as ++ dD, e, L, ra.append (rd q), post_sig p⟩
def tAsk (K : PySem.W.Frag) (C : Tab) (W : Wx) (g : Fn) (t : TA) : TE := fun σ H Q => t σ H fun vs H1 => Asked K C W g σ vs H1 Q
theorem call_imp {K : PySem.W.Frag} (σ : St) (H : Hp) (Q : VK) (h : tM K C W (rD K) (eCall g ml) σ H Q) : tAsk K C W g (tM K C W (rA K) ml) σ H Q := by
  obtain ⟨q0, q, env, s, eq, E, L, p⟩ := h
  subst eq
  exact tM.first (f := g) E L p rD_any fun ds s1 vs q1 x1 E1 L1 y1 p1 => ⟨q1, s1, ds, rfl, L1, y1, p1⟩
theorem ge_call (F : Cal X.prog X.w X.K X.mg X.base C k f g) (hr : Room k X.A) (tk : Takes X W) (hm : X.mg x = some (.ref f)) (hk : PySem.W.keepIn X.K (.ref f) = true) (ha : GA X C W (e :: es) ml) (hg : Gl X x := by rfl)
    (hdb : (x == ("__debug__" : Str)) = false := by decide) (he : starEach (e :: es) X.env = (false, eval e X.env) :: starEach es X.env := by rfl) (hpl : (backTo pos (starEach es X.env)).any (·.1) = false := by rfl) : GE X C W (.Call (.Name x p) (e :: es) [] pos) (eCall g ml) := by
  refine PE.imp (t := tAsk X.K C W g (tM X.K C W (rA X.K) ml)) ⟨fun pins s σ H Q I h => ?_⟩ call_imp
  refine wpAny_Call_Name_kw (ld_glob I hg hm ?_ hdb); exact PySem.W.callWith_K (h₀ := X.base) I.ok.mod.kin hk (thn (ha.run pos pins s σ H _ I h) fun us s1 ⟨vs, H1, I1, r, q⟩ => ⟨I1.kIn, run_cal F hr tk I1 r q⟩) he hpl
theorem ge_call0 (F : Cal X.prog X.w X.K X.mg X.base C k f g) (hr : Room k X.A) (tk : Takes X W) (hm : X.mg x = some (.ref f)) (hk : PySem.W.keepIn X.K (.ref f) = true) (hg : Gl X x := by rfl) (hdb : (x == ("__debug__" : Str)) = false := by decide) :
    GE X C W (.Call (.Name x p) [] [] pos) (eCall g aNil) := by
  refine PE.imp (t := fun σ H Q => Asked X.K C W g σ [] H Q) ⟨fun pins s σ H Q I h => ?_⟩ fun σ H Q ⟨q0, q, env, s, eq, E, L, p⟩ => ⟨q, s, [], eq, L, .nil, p⟩
  refine wpAny_Call_Name_kw (ld_glob I hg hm ?_ hdb); exact PySem.W.callWith_K0 I.kIn hk (run_cal F hr tk I .nil h)
/-- a method of an object of a class -/
def tAskM (K : PySem.W.Frag) (C : Tab) (W : Wx) (Ca : Addr) (m : Str) (g : Fn) (to : TE) (t : TA) : TE := fun σ H Q => to σ H fun x H1 => ∃ a dx fs, x = .ref a ∧ H1 a = some (.ins Ca dx fs) ∧ fs.lookup m = none ∧ t σ H1 fun vs H2 => Asked K C W g σ (x :: vs) H2 Q
theorem ofS_inj {x y : String} (h : Str.ofString x = Str.ofString y) : x = y := by
  rw [ofS, ofS] at h
  injection h with h
  have h2 : x.toList.map Char.toNat = y.toList.map Char.toNat := by simpa using h
  have h3 : x.toList = y.toList := (List.map_inj_right fun a b (e : a.toNat = b.toNat) => Char.ext (UInt32.toNat_inj.mp e)).mp h2
  exact String.toList_inj.mp h3
theorem RF.look {K : PySem.W.Frag} {q : Stt} (f : String) : ∀ {fs : List (String × D)} {gs : List (Str × V)}, RF K q fs gs → (∀ d, fs.lookup f = some d → ∃ v, gs.lookup (Str.ofString f) = some v ∧ RD K q d v) ∧ (fs.lookup f = none → gs.lookup (Str.ofString f) = none)
  | _, _, .nil => ⟨fun _ h => by simp at h, fun _ => rfl⟩
  | _, _, .cons (f := g) (d := d) a b => by
    have ih := RF.look f b
    by_cases e : f = g
    · subst e
      refine ⟨fun d' h => ?_, fun h => ?_⟩
      · rw [List.lookup_cons_self] at h ⊢; cases h; exact ⟨_, rfl, a⟩
      · rw [List.lookup_cons_self] at h; cases h
    · have e1 : (f == g) = false := by simpa using e
      have e2 : (Str.ofString f == Str.ofString g) = false := by simpa using fun z => e (ofS_inj z)
      rw [List.lookup_cons, List.lookup_cons, e1, e2]
      exact ih
theorem isOf_at {K : PySem.W.Frag} {q : Stt} {s : Sto} {c : Nat} {nm : String} {d : D} {v : V} (R : Rel K C s q) (h : RD K q d v) (f : isOf s c nm d = true) : ∃ a dx gs, v = .ref a ∧ q.H a = some (.ins (C c) dx gs) ∧ gs.lookup (Str.ofString nm) = none := by
  unfold isOf at f
  split at f
  · rename_i n
    split at f
    · rename_i c' fs e
      rw [Bool.and_eq_true] at f
      have ec : c' = c := by simpa using f.1
      subst ec
      cases h with
      | ref g =>
        obtain ⟨dx, gs, h1, h2⟩ := R.obs n _ _ e g
        refine ⟨_, dx, gs, rfl, h1, (RF.look nm h2).2 ?_⟩
        simpa using f.2
    · cases f
  · cases f
theorem meth_imp {K : PySem.W.Frag} {c : Nat} {nm : String} (σ : St) (H : Hp) (Q : VK) (h : tM K C W (rD K) (eMeth c nm g mo ml) σ H Q) : tAskM K C W (C c) (Str.ofString nm) g (tM K C W (rD K) mo) (tM K C W (rA K) ml) σ H Q := by
  obtain ⟨q0, q, env, s, eq, E, L, p⟩ := h
  subst eq
  refine tM.first (f := fun x s1 => if isOf s1 c nm x then (ml env s1).bind fun ds s2 => g (x :: ds) s2 else .stk) E L p rD_any fun x s1 vx q1 x1 E1 L1 y1 p1 => ?_
  cases f : isOf s1 c nm x with
  | false => rw [f] at p1; exact p1.elim
  | true =>
    rw [f] at p1
    obtain ⟨a, dx, gs, rfl, h1, h2⟩ := isOf_at L1 y1 f
    refine ⟨a, dx, gs, rfl, h1, h2, ?_⟩
    exact tM.first (f := fun ds s2 => g (x :: ds) s2) E1 L1 p1 rD_any fun ds s2 vs q2 x2 E2 L2 y2 p2 => ⟨q2, s2, x :: ds, rfl, L2, .cons (RD.mono x2.kp x y1) y2, p2⟩
theorem ge_meth {pl : Sem Bool} {c : Nat} {nm : String} (ho : GE X C W o mo) (hc : Cls X.K (C c)) (hM : Meth X.K (C c) (Str.ofString nm) f) (F : Cal X.prog X.w X.K X.mg X.base C k f g) (hr : Room k X.A) (tk : Takes X W) (ha : GA X C W (e :: es) ml) (hst : starEach (e :: es) X.env = (false, eval e X.env) :: starEach es X.env := by rfl) (hpl : (backTo pos (starEach es X.env)).any (·.1) = false := by rfl)
    (ht : eval (.Call (.Attribute o (Str.ofString nm) apos) (e :: es) [] pos) X.env = (eval o X.env >>= fun ov => standAt apos.atName >>= fun _ => holding [ov] (getMethod ov (Str.ofString nm) pl) >>= fun y => callWith pos y.1 y.2 (backTo pos (starEach (e :: es) X.env)) (backToKw pos (keywordEach [] X.env))) := by rfl) :
    GE X C W (.Call (.Attribute o (Str.ofString nm) apos) (e :: es) [] pos) (eMeth c nm g mo ml) := by
  refine PE.imp (t := tAskM X.K C W (C c) (Str.ofString nm) g (tM X.K C W (rD X.K) mo) (tM X.K C W (rA X.K) ml)) ⟨fun pins s σ H Q I h => ?_⟩ meth_imp
  refine PySem.W.methodCall_KW (pl := pl) (thn (ho.run pins s σ H _ I h) fun u s1 ⟨x, H1, I1, rx, a, dx, fs, ex, ea, l, q⟩ => ?_) ht
  subst ex
  obtain rfl : u = Value.ref a := rx; refine getmeth_ok I1 ea hc hM l ?_
  exact PySem.W.callWith_K (first := [.ref a]) (h₀ := X.base) I.ok.mod.kin hM.kp (thn (ha.run pos pins s1 σ H1 _ I1 q) fun us s2 ⟨vs, H2, I2, r, q2⟩ => ⟨I2.kIn, run_cal (us := .ref a :: us) (vs := .ref a :: vs) F hr tk I2 (.cons rfl r) q2⟩) hst hpl
theorem ge_meth0 {pl : Sem Bool} {c : Nat} {nm : String} (ho : GE X C W o mo) (hc : Cls X.K (C c)) (hM : Meth X.K (C c) (Str.ofString nm) f) (F : Cal X.prog X.w X.K X.mg X.base C k f g) (hr : Room k X.A) (tk : Takes X W)
    (ht : eval (.Call (.Attribute o (Str.ofString nm) apos) [] [] pos) X.env = (eval o X.env >>= fun ov => standAt apos.atName >>= fun _ => holding [ov] (getMethod ov (Str.ofString nm) pl) >>= fun y => callWith pos y.1 y.2 (backTo pos (starEach [] X.env)) (backToKw pos (keywordEach [] X.env))) := by rfl) :
    GE X C W (.Call (.Attribute o (Str.ofString nm) apos) [] [] pos) (eMeth c nm g mo aNil) := by
  refine PE.imp (t := tAskM X.K C W (C c) (Str.ofString nm) g (tM X.K C W (rD X.K) mo) (tM X.K C W (rA X.K) aNil)) ⟨fun pins s σ H Q I h => ?_⟩ meth_imp
  refine PySem.W.methodCall_KW (pl := pl) (thn (ho.run pins s σ H _ I h) fun u s1 ⟨x, H1, I1, rx, a, dx, fs, ex, ea, l, q⟩ => ?_) ht
  subst ex
  obtain rfl : u = Value.ref a := rx; refine getmeth_ok I1 ea hc hM l ?_
  obtain ⟨q0, q1, env, st, eq, E, L, p⟩ := q
  subst eq
  exact PySem.W.callWith_K0 (first := [.ref a]) I1.kIn hM.kp (run_cal (us := [.ref a]) (vs := [.ref a]) F hr tk I1 (.cons rfl .nil) (p [] q1 (Ext.refl q1) L .nil))

/-! ### fields -/
theorem field_at {K : PySem.W.Frag} {q : Stt} {s : Sto} {c : Nat} {nm : String} {d z : D} {v : V} (R : Rel K C s q) (h : RD K q d v) (f : fieldOf s c nm d = some z) : ∃ a dx gs u, v = .ref a ∧ q.H a = some (.ins (C c) dx gs) ∧ gs.lookup (Str.ofString nm) = some u ∧ RD K q z u := by
  unfold fieldOf at f
  split at f
  · rename_i n
    split at f
    · rename_i c' fs e
      split at f
      · rename_i ec
        subst ec
        cases h with
        | ref g =>
          obtain ⟨dx, gs, h1, h2⟩ := R.obs n _ _ e g
          obtain ⟨u, h3, h4⟩ := (RF.look nm h2).1 z f
          exact ⟨_, dx, gs, u, rfl, h1, h3, h4⟩
      · cases f
    · cases f
  · cases f
theorem ge_fld {c : Nat} {nm : String} (ho : GE X C W o mo) (hc : Cls X.K (C c)) (hn : NoAttr X.K (C c) (Str.ofString nm)) (hb : attributeBase o (Str.ofString nm) X.env (eval o X.env) = eval o X.env := by rfl) :
    GE X C W (.Attribute o (Str.ofString nm) pos) (eFld c mo nm) := PE.imp (pe_fld ho hb) fun σ H Q ⟨q0, q, env, s, eq, E, L, p⟩ => by
  subst eq
  refine tM.first (f := fun x s1 => .ofO (fieldOf s1 c nm x) s1) E L p rD_any fun x s1 vx q1 x1 E1 L1 y1 p1 => ?_
  cases f : fieldOf s1 c nm x with
  | none => rw [f] at p1; exact p1.elim
  | some z =>
    rw [f] at p1
    obtain ⟨a, dx, gs, u, rfl, h1, h2, h3⟩ := field_at L1 y1 f
    exact ⟨a, C c, dx, gs, u, rfl, h1, hc, hn, h2, p1 u q1 (Ext.refl q1) L1 h3⟩

/-! ### kinds -/
def Ki.nm : Ki → String
  | .non => "NoneType" | .bool => "bool" | .int => "int" | .str => "str" | .tuple => "tuple" | .list => "list"
theorem ki_ty : ∀ a b : Ki, kitB a.nm b.nm = some (a.isA b) := by
  intro a b
  cases a <;> cases b <;> decide +kernel
theorem kind_at {K : PySem.W.Frag} {q : Stt} {s : Sto} {d : D} {v : V} {k : Ki} (R : Rel K C s q) (h : RD K q d v) (f : kindOf s d = some k) : TyX K q.H v (.type k.nm) := by
  unfold kindOf at f
  split at f
  · cases f; cases h; exact .base .non
  · cases f; cases h; exact .base (.bl _)
  · cases f; cases h; exact .base (.int _)
  · cases f; cases h; exact .base (.str _)
  · cases f
    cases h with
    | tup g r =>
      rcases g with ⟨g, _⟩ | g
      · exact .base (.tup g)
      · rcases g with (g | ⟨_, g⟩) | ⟨o, its, n, h1, h2, _⟩
        · cases g
        · cases g
        · exact .kTuple h1 h2
  · cases f; cases h with | lst g r => exact .base (.lst g.1)
  · cases f; cases h with
    | scr g =>
      rcases g with ⟨o, g, _⟩ | ⟨g, _⟩ | (g | ⟨_, g⟩) | ⟨o, its, n, h1, h2, _⟩
      · exact .base (.frz g)
      · exact .base (.lst g)
      · cases g
      · cases g
      · exact .kList h1 h2
  · split at f
    · rename_i e
      cases f
      cases h with
      | ref g =>
        obtain ⟨vs, h1, _⟩ := R.obs _ _ _ e g
        exact .base (.lst h1)
    · cases f
/-- isinstance(e, T) -/
theorem ge_isi (t : Ki) {x1 : Str} {p2 : Pos} (hm : X.mg "isinstance" = none) (hmt : X.mg x1 = none) (hvt : bootBuiltins x1 = some (.type t.nm)) (ha : GE X C W e ma) (hg : Gl X "isinstance" := by rfl) (hgt : Gl X x1 := by rfl) (hv : bootBuiltins "isinstance" = some (.builtin "isinstance") := by decide +kernel)
    (hn : x1 ≠ "__name__" := by decide) (hd : (x1 == ("__debug__" : Str)) = false := by decide) (h1 : starEach [e, .Name x1 p2] X.env = (false, eval e X.env) :: starEach [.Name x1 p2] X.env := by rfl) (h2 : starEach [.Name x1 p2] X.env = (false, eval (.Name x1 p2) X.env) :: starEach [] X.env := by rfl)
    (hpl : (backTo pos (starEach [.Name x1 p2] X.env)).any (·.1) = false := by rfl) :
    GE X C W (.Call (.Name "isinstance" p) [e, .Name x1 p2] [] pos) (eOp1 (opKind t) ma) :=
  PE.imp (pe_callB call_isi hg hm hv (pa_cons ha (pa_cons (pe_bltn (v := .ty t.nm) hgt hmt hvt rfl hn hd) pa_nil h2) h1) (he := h1) (hpl := hpl)) fun σ H Q ⟨q0, q, env, s, eq, E, L, p⟩ => by
    subst eq
    refine tM.first (f := fun x s1 => .ofO (opKind t s1 x) s1) E L p rD_any fun x s1 vx q1 x1 E1 L1 y1 p1 => ?_
    unfold opKind at p1
    cases f : kindOf s1 x with
    | none => rw [f] at p1; exact p1.elim
    | some k =>
      rw [f] at p1
      exact ⟨vx, .ty t.nm, _, _, k.isA t, rfl, .ty t.nm, kind_at L1 y1 f, kit_ty (ki_ty k t), p1 _ q1 (Ext.refl q1) L1 (.bl _)⟩

/-! ### parts of lists, of tuples -/
def GO (X : Cx) (C : Tab) (W : Wx) (e : Option Expr) (m : MO) : Prop := PO X e (tM X.K C W (fun _ _ a b => a = b) m)
theorem go_none : GO X C W none oNone := ⟨fun pins s σ H Q I ⟨q0, q, env, st, eq, E, L, p⟩ => po_none.run pins s σ H Q I (by subst eq; exact p none q (Ext.refl q) L rfl)⟩
theorem go_some (h : GE X C W e ma) : GO X C W (some e) (oSome ma) := ⟨fun pins s σ H Q I ⟨q0, q, env, st, eq, E, L, p⟩ => (po_some h).run pins s σ H Q I (by
  subst eq
  refine tM.first (f := fun x s1 => match x with | .int i => .ok (some i) s1 | _ => .stk) E L p (fun _ _ _ _ _ w => w) fun x s1 vx q1 x1 E1 L1 y1 p1 => ?_
  cases y1 with
  | int i => exact ⟨i, rfl, p1 _ q1 (Ext.refl q1) L1 rfl⟩
  | _ => exact p1.elim)⟩
theorem cut_rel {K : PySem.W.Frag} {q : Stt} {ds : List D} {vs : List V} (lo hi : Option Int) (r : RDs K q ds vs) : RDs K q (cutD ds lo hi) (cutV vs lo hi) := by
  have e : ∀ (n d : Nat) (o : Option Int), partIx n d o = HT.sIx n d o := fun n d o => by cases o <;> rfl
  unfold cutD cutV
  rw [e, e, r.length]
  exact (r.drop _).take _
theorem gl_sl {p2 : Pos} {lo hi : Option Expr} {l h : MO} (ha : GB X C W a ma) (hl : GO X C W lo l) (hh : GO X C W hi h) : GL X C W (.Subscript a (.Slice lo hi none p2) pos) (lSl ma l h) := PE.imp (pe_slice sl_list ha hl hh) fun σ H Q ⟨q0, q, env, s, eq, E, L, p⟩ => by
  subst eq
  refine tM.first0 (f := fun x s1 => (l env s1).bind fun l s2 => (h env s2).bind fun h s3 => match MP.view s3 x with | .lst ds => .ok (cutD ds l h) s3 | _ => .stk) E L p fun x s1 vx q1 x1 L1 y1 p1 => ?_
  refine ⟨q0, q1, env, s1, rfl, E.ext x1, L1, ?_⟩
  cases e1 : l env s1 with
  | stk => rw [e1] at p1; exact p1.elim
  | exc z t => rw [e1] at p1; exact fun c d q' w r => p1 c d q' (x1.trans w) r
  | ok lo' s2 =>
    rw [e1] at p1
    intro lo'' q2 x2 L2 e2
    subst e2
    refine ⟨q0, q2, env, s2, rfl, (E.ext x1).ext x2, L2, ?_⟩
    simp only [Res.bind_ok] at p1
    cases e2 : h env s2 with
    | stk => rw [e2] at p1; exact p1.elim
    | exc z t => rw [e2] at p1; exact fun c d q' w r => p1 c d q' ((x1.trans x2).trans w) r
    | ok hi' s3 =>
      rw [e2] at p1
      intro hi'' q3 x3 L3 e3
      subst e3
      simp only [Res.bind_ok] at p1
      rcases ((y1.ext x2).ext x3).view L3 with ⟨ds, a, vs, ev, rfl, g, r⟩ | ⟨ev, r, nl⟩
      · rw [ev] at p1
        refine ⟨a, vs, rfl, SqL.of g, fun p' hp => ?_⟩
        exact p1 _ _ (((x1.trans x2).trans x3).trans (Ext.newL L3.wf hp)) (L3.newL hp) (RN.newL L.wf ((x1.trans x2).trans x3) L3 hp (cut_rel lo' hi' r))
      · cases x with
        | lst ds => exact absurd rfl (nl ds)
        | _ => rw [ev] at p1; exact p1.elim
theorem cut_whole {ds : List D} {lo hi : Option Int} (h : HT.sIx ds.length 0 lo = 0 ∧ HT.sIx ds.length ds.length hi = ds.length) : cutD ds lo hi = ds := by
  have e : ∀ (n d : Nat) (o : Option Int), partIx n d o = HT.sIx n d o := fun n d o => by cases o <;> rfl
  unfold cutD
  rw [e, e, h.1, h.2]
  simp
theorem ge_slT {p2 : Pos} {lo hi : Option Expr} {l h : MO} (ha : GE X C W a ma) (hl : GO X C W lo l) (hh : GO X C W hi h) : GE X C W (.Subscript a (.Slice lo hi none p2) pos) (eSlT ma l h) := PE.imp (pe_slice sl_tupA ha hl hh) fun σ H Q ⟨q0, q, env, s, eq, E, L, p⟩ => by
  subst eq
  refine tM.first (f := fun x s1 => (l env s1).bind fun l s2 => (h env s2).bind fun h s3 => match x with | .tup ds => .ok (.tup (cutD ds l h)) s3 | _ => .stk) E L p rD_any fun x s1 vx q1 x1 E1 L1 y1 p1 => ?_
  refine tM.first (f := fun l s2 => (h env s2).bind fun h s3 => match x with | .tup ds => .ok (.tup (cutD ds l h)) s3 | _ => .stk) E1 L1 p1 rD_any fun lo' s2 lo'' q2 x2 E2 L2 y2 p2 => ?_
  refine tM.first (f := fun h s3 => match x with | .tup ds => .ok (.tup (cutD ds lo' h)) s3 | _ => .stk) E2 L2 p2 rD_any fun hi' s3 hi'' q3 x3 E3 L3 y3 p3 => ?_
  subst y2 y3
  cases RD.mono (x2.trans x3).kp x y1 with
  | @tup a vs ds g r =>
    refine ⟨a, vs, rfl, g.sq, fun hw => ?_, fun _ pp hp => ?_⟩
    · have hw' := hw
      rw [r.length] at hw'
      have pz := p3 (.ref a) q3 (Ext.refl q3) L3
      simp only [cut_whole hw'] at pz
      exact pz (.tup g r)
    · have x4 := Ext.new1 (o := .tup (cutV vs lo' hi')) L3.wf hp
      exact p3 _ _ x4 (L3.new1 hp) (.tup (.inl ⟨upd_same, L3.wf.no hp⟩) (RDs.mono x4.kp _ (cut_rel lo' hi' r)))
  | _ => exact p3.elim
/-- list(e) -/
theorem gl_of {x : Str} (hm : X.mg x = none) (ha : GB X C W e ma) (hg : Gl X x := by rfl) (hv : bootBuiltins x = some (.type "list") := by decide +kernel) (hn : x ≠ "__name__" := by decide) (hd : (x == ("__debug__" : Str)) = false := by decide)
    (h1 : starEach [e] X.env = (false, eval e X.env) :: starEach [] X.env := by rfl) : GL X C W (.Call (.Name x p) [e] [] pos) (lOf ma) := PE.imp (pe_callTy call_list_of hg hm hv (pa1 ha h1) hn hd (he := h1)) fun σ H Q ⟨q0, q, env, s, eq, E, L, p⟩ => by
  subst eq
  refine tM.first0 (f := fun x s1 => .ofO (seqOf s1 x) s1) E L p fun x s1 vx q1 x1 L1 y1 p1 => ?_
  cases f : seqOf s1 x with
  | none => rw [f] at p1; exact p1.elim
  | some ds =>
    rw [f] at p1
    obtain ⟨a, vs, rfl, h2, r⟩ := y1.seq L1 f
    refine ⟨a, vs, rfl, sqOr h2, fun l hl => ?_⟩
    exact p1 _ _ (x1.trans (Ext.newL L1.wf hl)) (L1.newL hl) (RN.newL L.wf x1 L1 hl r)
end
end MP

/-! Targets, walked things, comprehensions, statements, bodies. Own text. -/
namespace MP
open PySem L2

/-! ### names are stored -/
theorem RE.set {K : PySem.W.Frag} {C : Tab} {q0 q : Stt} {env : MP.Env} {σ : St} (E : RE K C q0 q env σ) (i : Nat) {d : D} {v : V} (r : RD K q d v) : RE K C q0 q (env.set i (.val d)) (σ.set i (some v)) where
  len := by simp [E.len]
  val := fun j d' h => by
    by_cases e : i = j
    · subst e
      have hi : i < env.length := by
        have := (List.getElem?_eq_some_iff.mp h).1
        simpa using this
      rw [List.getElem?_set_self hi] at h
      cases h
      exact ⟨v, List.getElem?_set_self (by rw [← E.len]; exact hi), r⟩
    · rw [List.getElem?_set_ne e] at h ⊢
      exact E.val j d' h
  own := fun j ds h => by
    by_cases e : i = j
    · subst e
      have hi : i < env.length := by
        have := (List.getElem?_eq_some_iff.mp h).1
        simpa using this
      rw [List.getElem?_set_self hi] at h
      cases h
    · rw [List.getElem?_set_ne e] at h ⊢
      exact E.own j ds h
  inj := fun j k ds es a h1 h2 h3 h4 => by
    have ne : ∀ {l : Nat} {xs : List D}, (env.set i (.val d))[l]? = some (.own xs) → i ≠ l := fun {l xs} h e => by
      subst e
      have hi : i < env.length := by
        have := (List.getElem?_eq_some_iff.mp h).1
        simpa using this
      rw [List.getElem?_set_self hi] at h
      cases h
    have n1 := ne h1
    have n2 := ne h2
    rw [List.getElem?_set_ne n1] at h1 h3
    rw [List.getElem?_set_ne n2] at h2 h4
    exact E.inj j k ds es a h1 h2 h3 h4
  w0 := E.w0
  exn := fun j y h => by
    by_cases e : i = j
    · subst e
      have hi : i < env.length := by
        have := (List.getElem?_eq_some_iff.mp h).1
        simpa using this
      rw [List.getElem?_set_self hi] at h
      cases h
    · rw [List.getElem?_set_ne e] at h ⊢
      exact E.exn j y h
/-- a target's reading by its function; vs: the slots that it may change -/
def tG (K : PySem.W.Frag) (C : Tab) (g : MG) (vs : List Nat) : TG := fun v σ H Q => ∃ (q0 q : Stt) (env env' : MP.Env) (s : Sto) (d : D), q.H = H ∧ RE K C q0 q env σ ∧ Rel K C s q ∧ RD K q d v ∧ g d env = some env' ∧
  ∀ (σ' : St) (q' : Stt), Ext q q' → Rel K C s q' → RE K C q0 q' env' σ' → σ'.length = σ.length → (∀ j, j ∉ vs → σ'[j]? = σ[j]?) → Q σ' q'.H
def GG (X : Cx) (C : Tab) (e : Expr) (g : MG) (vs : List Nat) : Prop := PG X e (tG X.K C g vs)
def tGs (K : PySem.W.Frag) (C : Tab) (gs : List MG) (vs : List Nat) : TGs := fun us σ H Q => ∃ (q0 q : Stt) (env env' : MP.Env) (s : Sto) (ds : List D), q.H = H ∧ RE K C q0 q env σ ∧ Rel K C s q ∧ RDs K q ds us ∧ gAll gs ds env = some env' ∧
  ∀ (σ' : St) (q' : Stt), Ext q q' → Rel K C s q' → RE K C q0 q' env' σ' → σ'.length = σ.length → (∀ j, j ∉ vs → σ'[j]? = σ[j]?) → Q σ' q'.H
def GGs (X : Cx) (C : Tab) (es : List Expr) (gs : List MG) (vs : List Nat) : Prop := PGs X es (tGs X.K C gs vs)
theorem PGs.imp {X : Cx} {es : List Expr} {t t' : TGs} (h : PGs X es t) (hi : ∀ vs σ H Q, t' vs σ H Q → t vs σ H Q) : PGs X es t' := ⟨fun pins s σ H vs us Q I r z => h.run pins s σ H vs us Q I r (hi vs σ H Q z)⟩
section
variable {X : Cx} {C : Tab} {pos : Pos}
theorem gg_name (i : Nat) {x : Str} (hN : X.N.Nodup) (hi : X.N[i]? = some x := by rfl) (hx : Loc X.env.scope x := by first | exact Or.inl rfl | exact Or.inr rfl) (hf : X.fn x = true ∨ X.env.scope.names.lookup x = some .local := by first | exact .inl rfl | exact .inr rfl) : GG X C (.Name x pos) (gNm i) [i] :=
  PG.imp (pg_name (i := i) hN hi hx hf) fun v σ H Q ⟨q0, q, env, env', s, d, e, E, L, r, g, k⟩ => by
    subst e
    cases g
    exact k _ q (Ext.refl q) L (E.set i r) (by simp) fun j hj => by
      rw [List.getElem?_set_ne]
      intro z
      exact hj (by simp [z])
theorem ggs_nil : GGs X C [] [] [] := PGs.imp pgs_nil fun us σ H Q ⟨q0, q, env, env', s, ds, e, E, L, r, g, k⟩ => by
  subst e
  cases r with
  | nil =>
    cases g
    exact ⟨rfl, k σ q (Ext.refl q) L E rfl fun _ _ => rfl⟩
  | cons _ _ => cases g
theorem ggs_cons {e : Expr} {es : List Expr} {g : MG} {gs : List MG} {vs ws : List Nat} (h1 : GG X C e g vs) (h2 : GGs X C es gs ws) (hs : (assignEach (e :: es) X.env).map (·.2) = assign e X.env :: (assignEach es X.env).map (·.2) := by rfl) : GGs X C (e :: es) (g :: gs) (vs ++ ws) :=
  PGs.imp (pgs_cons h1 h2 hs) fun us σ H Q ⟨q0, q, env, env', s, ds, eq, E, L, r, gg, k⟩ => by
    subst eq
    cases r with
    | nil => cases gg
    | @cons d v ds us r1 r2 =>
      simp only [gAll] at gg
      cases g1 : g d env with
      | none => rw [g1] at gg; cases gg
      | some env1 =>
        rw [g1] at gg
        refine ⟨v, us, rfl, q0, q, env, env1, s, d, rfl, E, L, r1, g1, fun σ1 q1 x1 L1 E1 n1 w1 => ?_⟩
        refine ⟨q0, q1, env1, env', s, ds, rfl, E1, L1, RDs.mono x1.kp _ r2, gg, fun σ2 q2 x2 L2 E2 n2 w2 => ?_⟩
        refine k σ2 q2 (x1.trans x2) L2 E2 (n2.trans n1) fun j hj => ?_
        rw [List.mem_append] at hj
        rw [w2 j fun z => hj (.inr z), w1 j fun z => hj (.inl z)]
theorem gg_tup {es : List Expr} {kk : Nat} {gs : List MG} {vs : List Nat} (hc : X.calm = true) (h : GGs X C es gs vs) (hl : (assignEach es X.env).length = gs.length := by rfl) (hst : (assignEach es X.env).findIdx? (·.1) = none := by rfl) : GG X C (.Tuple es kk pos) (gTp gs) vs :=
  PG.imp (pg_tup hc h hl hst) fun v σ H Q ⟨q0, q, env, env', s, d, e, E, L, r, g, k⟩ => by
    subst e
    cases r with
    | @tup a us ds f r =>
      have e : gAll gs ds env = some env' := g
      have len : ∀ (gs : List MG) (ds : List D) (env : MP.Env), gAll gs ds env = some env' → ds.length = gs.length := by
        intro gs
        induction gs with
        | nil => intro ds env e; cases ds <;> first | rfl | cases e
        | cons g gs ih =>
          intro ds env e
          cases ds with
          | nil => cases e
          | cons d ds =>
            simp only [gAll] at e
            cases g1 : g d env with
            | none => rw [g1] at e; cases e
            | some env1 => rw [g1] at e; simp [ih ds env1 e]
      exact ⟨a, us, rfl, f.sq, by rw [r.length]; exact len gs ds env e, q0, q, env, env', s, ds, rfl, E, L, r, e, k⟩
    | _ => cases g
end

/-! ### walked things -/
def ItOk (K : PySem.W.Frag) (C : Tab) (J : It) (x : Src) (q : Stt) : Prop := ∀ (q2 : Stt) (s2 : Sto) (i : Nat), Kp q q2 → Rel K C s2 q2 →
  (∀ d d', x.ds[i]? = some d → cur x s2 i d = some d' → J.go i q2.H ∧ ∀ v H3, J.yld i q2.H v H3 → ∃ q3, q3.H = H3 ∧ Ext q2 q3 ∧ Rel K C s2 q3 ∧ RD K q3 d' v) ∧ (i = x.ds.length → MP.fin x s2 = true → J.stop i q2.H)
theorem ItOk.mono {K : PySem.W.Frag} {C : Tab} {J : It} {x : Src} {q q' : Stt} (k : Kp q q') (h : ItOk K C J x q) : ItOk K C J x q' := fun q2 s2 i k2 R => h q2 s2 i (k.trans k2) R
abbrev rI' (K : PySem.W.Frag) (C : Tab) : Stt → Stt → Src → It → Prop := fun _ q' x J => ItOk K C J x q'
def GI (X : Cx) (C : Tab) (W : Wx) (tg e : Expr) (m : MI) : Prop := PI X tg e (tM X.K C W (rI' X.K C) m)
section
variable {X : Cx} {C : Tab} {W : Wx} {tg l a b : Expr} {p pos : Pos} {ml ma mb : ME}
/-- a list or a tuple, walked -/
def tAny (K : PySem.W.Frag) (tl : TE) : TI := fun σ H R => tl σ H fun x H1 => ∃ a, x = .ref a ∧ (((∃ xs, SqL K H1 a xs) ∧ R (Itl K a) H1) ∨ ((∃ xs, SqT K H1 a xs) ∧ R (Itt K a) H1))
theorem pi_any {tl : TE} (hl : PE X l tl) : PI X tg l (tAny X.K tl) := by
  constructor
  intro pins s σ H R I h
  refine thn (hl.run pins s σ H _ I h) ?_
  rintro v s1 ⟨x, H1, I1, r1, a, rfl, q⟩
  cases r1
  have kept : ∀ o, Inv X pins σ H1 { s1 with heap := s1.heap.push o } := fun o => I1.kept (t' := s1.toks) fun b u e => Heap.get?_push_of_some _ e
  have fp : ∀ b ∈ [s1.heap.objs.size], FpOk X pins H1 b := fun b hb => by
    obtain rfl : b = s1.heap.objs.size := by simpa using hb
    exact I1.fpOk Nat.le.refl (I1.hok.fresh Nat.le.refl)
  rcases q with ⟨⟨xs, hq⟩, q⟩ | ⟨⟨xs, hq⟩, q⟩
  · obtain ⟨its, _, pl, _⟩ := I1.list hq
    exact wpAny_pyIter_list pl.isList ⟨_, [_], _, _, H1, rfl, kept _, turn_list a _, ⟨_, Heap.get?_push_size _ rfl, rfl, rfl⟩, fp, q⟩
  · obtain ⟨its, _, pl, _⟩ := I1.tuple hq
    exact wpAny_pyIter_tuple (show s1.heap.IsTuple a its.toArray from pl) ⟨_, [_], _, _, H1, rfl, kept _, turn_tuple a _, ⟨_, Heap.get?_push_size _ rfl, rfl, rfl⟩, fp, q⟩
theorem seqL_inj {K : PySem.W.Frag} {H : Hp} {a : Addr} {xs ys : List V} (h : H a = some (.lst xs)) (g : Rd H a (.lst ys)) : ys = xs := by
  rcases g with g | ⟨o, g⟩
  · rw [h] at g; cases g; rfl
  · rw [h] at g; cases g
theorem gi_seq (hl : GE X C W l ml) : GI X C W tg l (iSeq ml) := PI.imp (pi_any hl) fun σ H R ⟨q0, q, env, s, eq, E, L, p⟩ => by
  subst eq
  refine tM.first (f := fun x s1 => .ofO (srcOf s1 x) s1) E L p (fun q1 x1 q2 a b w => w) fun x s1 vx q1 x1 E1 L1 y1 p1 => ?_
  cases f : srcOf s1 x with
  | none => rw [f] at p1; exact p1.elim
  | some src =>
    rw [f] at p1
    have go := fun J (ok : ItOk X.K C J src q1) => p1 J q1 (Ext.refl q1) L1 ok
    cases y1 with
    | @tup a vs ds g r =>
      cases f
      refine ⟨a, rfl, .inr ⟨⟨vs, g.sq⟩, go _ fun q2 s2 i k R2 => ⟨fun d d' h1 h2 => ?_, fun hi _ => ?_⟩⟩⟩
      · cases h2
        have g2 := (g.mono k).sq
        obtain ⟨v, h3, h4⟩ := RDs.get (RDs.mono k _ r) h1
        exact ⟨⟨vs, v, g2, h3⟩, fun u H3 ⟨e1, e2⟩ => ⟨q2, e1.symm, Ext.refl q2, R2, by
          have := e2 vs g2
          rw [h3] at this
          cases this
          exact h4⟩⟩
      · exact ⟨vs, (g.mono k).sq, by rw [r.length]; exact Nat.le_of_eq hi.symm⟩
    | @lst a vs ds g r =>
      cases f
      refine ⟨a, rfl, .inl ⟨⟨vs, SqL.of g.1⟩, go _ fun q2 s2 i k R2 => ⟨fun d d' h1 h2 => ?_, fun hi _ => ?_⟩⟩⟩
      · cases h2
        have g2 : SqL X.K q2.H a vs := SqL.of (g.mono k).1
        obtain ⟨v, h3, h4⟩ := RDs.get (RDs.mono k _ r) h1
        exact ⟨⟨vs, v, g2, h3⟩, fun u H3 ⟨e1, e2⟩ => ⟨q2, e1.symm, Ext.refl q2, R2, by
          have := e2 vs g2
          rw [h3] at this
          cases this
          exact h4⟩⟩
      · exact ⟨vs, SqL.of (g.mono k).1, by rw [r.length]; exact Nat.le_of_eq hi.symm⟩
    | @scr ns a g =>
      cases f
      have r : RDs X.K q1 (ns.map D.int) (ns.map V.int) := RDs.ints ns
      refine ⟨a, rfl, .inl ⟨⟨_, g.sq⟩, go _ fun q2 s2 i k R2 => ⟨fun d d' h1 h2 => ?_, fun hi _ => ?_⟩⟩⟩
      · cases h2
        have g2 : SqL X.K q2.H a (ns.map V.int) := (g.mono k).sq
        obtain ⟨v, h3, h4⟩ := RDs.get (RDs.mono k _ r) h1
        exact ⟨⟨_, v, g2, h3⟩, fun u H3 ⟨e1, e2⟩ => ⟨q2, e1.symm, Ext.refl q2, R2, by
          have := e2 _ g2
          rw [h3] at this
          cases this
          exact h4⟩⟩
      · exact ⟨_, (g.mono k).sq, by rw [r.length]; exact Nat.le_of_eq hi.symm⟩
    | @ref n a g =>
      simp only [srcOf] at f
      split at f
      · rename_i ds e
        cases f
        obtain ⟨vs, h1, r⟩ := L1.obs n _ a e g
        refine ⟨a, rfl, .inl ⟨⟨vs, SqL.of h1⟩, go _ fun q2 s2 i k R2 => ⟨fun d d' h1 h2 => ?_, fun hi hf => ?_⟩⟩⟩
        · simp only [cur] at h2
          split at h2
          · rename_i es ee
            split at h2
            · obtain ⟨us, h3, r3⟩ := R2.obs n _ a ee (pre_get k.pre g)
              obtain ⟨v, h4, h5⟩ := RDs.get r3 h2
              exact ⟨⟨us, v, SqL.of h3, h4⟩, fun u H3 ⟨e1, e2⟩ => ⟨q2, e1.symm, Ext.refl q2, R2, by
                have := e2 us (SqL.of h3)
                rw [h4] at this
                cases this
                exact h5⟩⟩
            · cases h2
          · cases h2
        · simp only [MP.fin] at hf
          split at hf
          · rename_i es ee
            obtain ⟨us, h3, r3⟩ := R2.obs n _ a ee (pre_get k.pre g)
            have hf' : es.length = ds.length := by simpa using hf
            exact ⟨us, SqL.of h3, by rw [r3.length, hf']; exact Nat.le_of_eq hi.symm⟩
          · cases hf
      · cases f
    | _ => cases f
/-- an iterator's turns that change nothing -/
theorem itOk_still {K : PySem.W.Frag} {J : It} {ds : List D} {q : Stt} (h : ∀ (q2 : Stt) (i : Nat), Kp q q2 → (∀ d, ds[i]? = some d → J.go i q2.H ∧ ∀ v H3, J.yld i q2.H v H3 → H3 = q2.H ∧ RD K q2 d v) ∧ (i = ds.length → J.stop i q2.H)) : ItOk K C J ⟨ds, none⟩ q :=
  fun q2 s2 i k R => ⟨fun d d' h1 h2 => by
    cases h2
    obtain ⟨g, y⟩ := (h q2 i k).1 d h1
    exact ⟨g, fun v H3 e => ⟨q2, (y v H3 e).1.symm, Ext.refl q2, R, (y v H3 e).2⟩⟩, fun hi _ => (h q2 i k).2 hi⟩
theorem intsD_get {lo : Int} {n i : Nat} {d : D} (h : (intsD lo n)[i]? = some d) : i < n ∧ d = .int (lo + (i : Int)) := by
  unfold intsD at h
  rw [List.getElem?_map] at h
  cases e : (List.range n)[i]? with
  | none => rw [e] at h; exact nomatch h
  | some j =>
    rw [e] at h
    cases h
    obtain ⟨h1, h2⟩ := List.getElem?_eq_some_iff.mp e
    simp at h1 h2
    subst h2
    exact ⟨h1, rfl⟩
theorem intsD_len (lo : Int) (n : Nat) : (intsD lo n).length = n := by simp [intsD]
theorem gi_range (hm : X.mg "range" = none) (ha : GE X C W a ma) (hg : Gl X "range" := by rfl) (h1 : starEach [a] X.env = (false, eval a X.env) :: starEach [] X.env := by rfl) (hs : starEach [a] X.env = [(false, eval a X.env)] := by rfl) :
    GI X C W tg (.Call (.Name "range" p) [a] [] pos) (iRng ma) := PI.imp (pi_range1 hg hm (pa_cons ha pa_nil h1) hs) fun σ H R ⟨q0, q, env, s, eq, E, L, p⟩ => by
  subst eq
  refine tM.first (f := fun x s1 => (match x with | .int j => if -(cap : Int) ≤ j ∧ j ≤ cap then Res.ok (⟨intsD 0 j.toNat, none⟩ : Src) s1 else .stk | _ => .stk : Res Src)) E L p (fun q1 x1 q2 a b w => w) fun x s1 vx q1 x1 E1 L1 y1 p1 => ?_
  cases y1 with
  | int j =>
    simp only at p1
    by_cases hj : -(cap : Int) ≤ j ∧ j ≤ cap
    · rw [if_pos hj] at p1
      have hc : (cap : Int) < 2 ^ 62 := by unfold cap; omega
      refine ⟨j, rfl, by omega, by omega, p1 _ q1 (Ext.refl q1) L1 (itOk_still fun q2 i k => ⟨fun d h => ?_, fun h => ?_⟩)⟩
      · obtain ⟨h2, rfl⟩ := intsD_get h
        exact ⟨h2, fun v H3 ⟨e1, e2⟩ => ⟨e1, by rw [e2]; exact .int _⟩⟩
      · rw [intsD_len] at h
        exact Nat.le_of_eq h.symm
    · rw [if_neg hj] at p1; exact p1.elim
  | _ => exact p1.elim
end

/-! ### comprehensions -/
def GTs (X : Cx) (C : Tab) (W : Wx) (es : List Expr) (m : MT) : Prop := PTs X es (tM X.K C W rT m)
theorem PTs.imp {X : Cx} {es : List Expr} {t t' : TT} (h : PTs X es t) (hi : ∀ σ H Q, t' σ H Q → t σ H Q) : PTs X es t' := ⟨fun pins s σ H Q I z => h.run pins s σ H Q I (hi σ H Q z)⟩
theorem gts_nil {X : Cx} {C : Tab} {W : Wx} : GTs X C W [] tYesM := PTs.imp pts_nil fun σ H Q ⟨q0, q, env, s, eq, E, L, p⟩ => by
  subst eq
  exact p true q (Ext.refl q) L rfl
theorem gts_one {X : Cx} {C : Tab} {W : Wx} {c : Expr} {mt : MT} (h : GT X C W c mt) : GTs X C W [c] mt := pts_one h
theorem wipe_get {σ : St} {j : Nat} : ∀ {vs : List Nat}, j ∈ vs → (wipe σ vs)[j]? = none ∨ (wipe σ vs)[j]? = some none
  | v :: vs, h => by
    unfold wipe
    by_cases e : v = j
    · subst e
      by_cases hv : v < List.length (wipe σ vs)
      · exact .inr (List.getElem?_set_self hv)
      · exact .inl (by rw [List.getElem?_eq_none]; simpa using hv)
    · rw [List.getElem?_set_ne e]
      rcases (List.mem_cons.mp h) with z | z
      · exact absurd z.symm e
      · exact wipe_get z
theorem wipe_out {σ : St} {j : Nat} : ∀ {vs : List Nat}, j ∉ vs → (wipe σ vs)[j]? = σ[j]?
  | [], _ => rfl
  | v :: vs, h => by
    unfold wipe
    rw [List.getElem?_set_ne (fun e => h (by simp [e]))]
    exact wipe_out fun z => h (List.mem_cons_of_mem _ z)
/-- what differs from the wiped at wiped places alone is wiped to the same -/
theorem wipe_eq {σ σ' : St} {vs : List Nat} (hl : σ'.length = σ.length) (h : ∀ j, j ∉ vs → σ'[j]? = (wipe σ vs)[j]?) : wipe σ' vs = wipe σ vs := by
  apply List.ext_getElem?
  intro j
  by_cases hj : j ∈ vs
  · have a := wipe_get (σ := σ') hj
    have b := wipe_get (σ := σ) hj
    have la : (wipe σ' vs).length = (wipe σ vs).length := by rw [wipe_length, wipe_length, hl]
    rcases a with a | a <;> rcases b with b | b
    · rw [a, b]
    · exfalso
      have h1 := (List.getElem?_eq_some_iff.mp b).1
      have h2 := List.getElem?_eq_none_iff.mp a
      omega
    · exfalso
      have h1 := (List.getElem?_eq_some_iff.mp a).1
      have h2 := List.getElem?_eq_none_iff.mp b
      omega
    · rw [a, b]
  · rw [wipe_out hj, h j hj]
theorem RE.wipe {K : PySem.W.Frag} {C : Tab} {q0 q : Stt} {env : MP.Env} {σ : St} (E : RE K C q0 q env σ) : ∀ vs : List Nat, RE K C q0 q (wipeE env vs) (L2.wipe σ vs)
  | [] => E
  | v :: vs => by
    have E := E.wipe vs
    show RE K C q0 q ((wipeE env vs).set v .emp) ((L2.wipe σ vs).set v none)
    have ne : ∀ {l : Nat} {o : Slot}, ((wipeE env vs).set v .emp)[l]? = some o → o ≠ .emp → v ≠ l := fun {l o} h n e => by
      subst e
      have hi : v < (wipeE env vs).length := by
        have := (List.getElem?_eq_some_iff.mp h).1
        simpa using this
      rw [List.getElem?_set_self hi] at h
      cases h
      exact n rfl
    refine ⟨by simp [E.len], fun i d h => ?_, fun i ds h => ?_, fun i j ds es a h1 h2 h3 h4 => ?_, E.w0, fun i y h => ?_⟩
    · have n := ne h (by intro z; cases z)
      rw [List.getElem?_set_ne n] at h ⊢
      exact E.val i d h
    · have n := ne h (by intro z; cases z)
      rw [List.getElem?_set_ne n] at h ⊢
      exact E.own i ds h
    · have n1 := ne h1 (by intro z; cases z)
      have n2 := ne h2 (by intro z; cases z)
      rw [List.getElem?_set_ne n1] at h1 h3
      rw [List.getElem?_set_ne n2] at h2 h4
      exact E.inj i j ds es a h1 h2 h3 h4
    · have n := ne h (by intro z; cases z)
      rw [List.getElem?_set_ne n] at h ⊢
      exact E.exn i y h
/-- nothing may be raised -/
abbrev W0 : Wx := fun _ _ _ _ => False
theorem Post.calm {α β γ δ : Type} {K : PySem.W.Frag} {C : Tab} {W : Wx} {R : Stt → Stt → α → β → Prop} {R' : Stt → Stt → γ → δ → Prop} {q q4 : Stt} {σ τ : St} {Q : δ → Hp → Prop} {P : β → Hp → Prop} {m : Res α} {f : α → Sto → Res γ} (h : Post K C W R' q σ Q ((MP.calm m).bind f))
    (k : ∀ a s, m = .ok a s → ∀ b q', Ext q4 q' → Rel K C s q' → R q4 q' a b → Post K C W R' q σ Q (f a s) → P b q'.H) : Post K C W0 R q4 τ P m := by
  cases m with
  | ok a s => exact fun b q' x r y => k a s rfl b q' x r y h
  | exc x s => exact h.elim
  | stk => exact h.elim
theorem Res.bind_assoc {α β γ : Type} (m : Res α) (f : α → Sto → Res β) (g : β → Sto → Res γ) : (m.bind f).bind g = m.bind fun a s => (f a s).bind g := by cases m <;> rfl
/-- an object of one's own is written -/
theorem Ext.own {q q' : Stt} {p : Addr} {o : HO} (x : Ext q q') (h : Fr q p) : Ext q ⟨upd q'.H p o, q'.L, q'.r⟩ :=
  ⟨fun a u e n t => by show upd q'.H p o a = _; rw [upd_ne (h.ne e t)]; exact x.keep a u e n t, x.mono, fun a u e n t => ⟨by show upd q'.H p o a = _; rw [upd_ne (h.ne e t)]; exact (x.u a u e n t).1, (x.u a u e n t).2⟩, x.pre, x.new,
    fun a u e t => by obtain ⟨o', h', t'⟩ := x.th a u e t; exact ⟨o', by show upd q'.H p o a = _; rw [upd_ne (h.ne e t)]; exact h', t'⟩⟩
theorem Kp.own {q q' : Stt} {p : Addr} {o : HO} (x : Kp q q') (h : Fr q p) : Kp q ⟨upd q'.H p o, q'.L, q'.r⟩ :=
  ⟨fun a u e n t => ⟨by show upd q'.H p o a = _; rw [upd_ne (h.ne e t)]; exact (x.u a u e n t).1, (x.u a u e n t).2⟩, x.pre⟩
theorem Kp.wr {q : Stt} {p : Addr} {o : HO} (h : q.L p) : Kp q ⟨upd q.H p o, q.L, q.r⟩ :=
  ⟨fun a u e n _ => ⟨by
    have ne : a ≠ p := fun z => by subst z; exact n h
    show upd q.H p o a = _
    rw [upd_ne ne]; exact e, n⟩, ⟨[], by simp⟩⟩
theorem Rel.wr {K : PySem.W.Frag} {C : Tab} {q : Stt} {s : Sto} {p : Addr} {o w : HO} (R : Rel K C s q) (h : q.L p) (n : p ∉ q.r) (hw : q.H p = some w) (n1 : NT w) (n2 : ∀ f, w ≠ .ext f) (nt : NT o := by exact fun _ z => nomatch z) : Rel K C s ⟨upd q.H p o, q.L, q.r⟩ :=
  ⟨⟨R.wf.nd, R.wf.live, fun a l => by
    by_cases e : a = p
    · exact ⟨o, by show upd q.H p o a = _; rw [e]; exact upd_same, nt⟩
    · obtain ⟨u, hu, t⟩ := R.wf.trk a l
      exact ⟨u, by show upd q.H p o a = _; rw [upd_ne e]; exact hu, t⟩⟩, R.len, fun k ob a e f => (R.obs k ob a e f).mono (Kp.wr h) (by
        have ne : a ≠ p := fun z => by subst z; exact n (List.mem_of_getElem? f)
        show upd q.H p o a = _
        rw [upd_ne ne]), tabs_upd R.tb hw n1 n2 nt⟩
section
variable {K : PySem.W.Frag} {C : Tab} {W : Wx}
theorem lc_imp {mi : MI} {g : MG} {mt : MT} {me : ME} {gvs vs : List Nat} (hsub : ∀ j ∈ gvs, j ∈ vs) (σ : St) (H : Hp) (Q : VK) (h : tM K C W (RN K) (lLc mi g mt me vs) σ H Q) :
    tLc (tM K C W (rI' K C) mi) (tG K C g gvs) (tM K C W0 rT mt) (tM K C W0 (rD K) me) vs σ H Q := by
  obtain ⟨q0, q, env, s, eq, E, L, p⟩ := h
  subst eq
  refine tM.first0 (f := fun x s1 => if x.ds.length ≤ cap then lcL x g mt me (wipeE env vs) 0 x.ds s1 else .stk) E L p fun x s1 J q1 x1 L1 ok p1 => ?_
  by_cases hsz : x.ds.length ≤ cap
  · rw [if_pos hsz] at p1
    intro Dl hD
    have hq : Fr q Dl := x1.free L.wf hD fun z => by
      obtain ⟨t, e⟩ := x1.pre
      exact L1.wf.nor hD (by rw [e]; exact List.mem_append_left _ z)
    refine ⟨fun i m H => ∃ (q' : Stt) (s' : Sto) (acc : List D) (av : List V), H = q'.H ∧ i ≤ x.ds.length ∧ m = x.ds.length - i ∧ acc.length ≤ i ∧ Ext q q' ∧ Kp q1 q' ∧ Rel K C s' q' ∧ q'.H Dl = some (.lst av) ∧ q'.L Dl ∧ Dl ∉ q'.r ∧ RDs K q' acc av ∧
      Post K C W (RN K) q σ Q ((lcL x g mt me (wipeE env vs) i (x.ds.drop i) s').bind fun ys s3 => .ok (acc ++ ys) s3),
      ⟨x.ds.length, ⟨upd q1.H Dl (.lst []), fun a => q1.L a ∨ a = Dl, q1.r⟩, s1, [], [], rfl, Nat.zero_le _, rfl, Nat.zero_le _, x1.trans (Ext.newL L1.wf hD), (Ext.newL L1.wf hD).kp, L1.newL hD, upd_same, .inr rfl, L1.wf.nor hD, .nil, by
        rw [List.drop_zero]
        cases e : lcL x g mt me (wipeE env vs) 0 x.ds s1 with
        | ok a s => rw [e] at p1; exact p1
        | exc a s => rw [e] at p1; exact p1
        | stk => rw [e] at p1; exact p1⟩, ?_⟩
    rintro i m H ⟨q', s', acc, av, rfl, hi, rfl, hacc, X1, K1, R1, hDl, hL, hr, racc, P⟩
    obtain ⟨okI, okE⟩ := ok q' s' i K1 R1
    rcases Nat.lt_or_ge i x.ds.length with hlt | hge
    · obtain ⟨d, hd⟩ : ∃ d, x.ds[i]? = some d := ⟨_, List.getElem?_eq_getElem hlt⟩
      have hdrop : x.ds.drop i = d :: x.ds.drop (i + 1) := by
        rw [List.drop_eq_getElem_cons hlt]; have := List.getElem?_eq_getElem hlt
        rw [hd] at this
        cases this
        rfl
      rw [hdrop] at P
      simp only [lcL] at P
      cases hcur : cur x s' i d with
      | none => rw [hcur] at P; exact P.elim
      | some d' =>
        rw [hcur] at P
        simp only [Option.bind_some] at P
        cases hg : g d' (wipeE env vs) with
        | none => rw [hg] at P; exact P.elim
        | some env1 =>
          rw [hg] at P
          simp only [Res.ofO_some, Res.bind_ok] at P
          obtain ⟨go, yl⟩ := okI d d' hd hcur
          refine .inr ⟨go, fun H' => ∃ (q' : Stt) (s' : Sto) (acc : List D) (av : List V), H' = q'.H ∧ i + 1 ≤ x.ds.length ∧ acc.length ≤ i + 1 ∧ Ext q q' ∧ Kp q1 q' ∧ Rel K C s' q' ∧ q'.H Dl = some (.lst av) ∧ q'.L Dl ∧ Dl ∉ q'.r ∧ RDs K q' acc av ∧
            Post K C W (RN K) q σ Q ((lcL x g mt me (wipeE env vs) (i + 1) (x.ds.drop (i + 1)) s').bind fun ys s3 => .ok (acc ++ ys) s3),
            fun H' ⟨q', s', acc, av, h1, h2, h3, h4, h5, h6, h7, h8, h9, h10, h11⟩ => ⟨x.ds.length - (i + 1), by omega, q', s', acc, av, h1, h2, rfl, h3, h4, h5, h6, h7, h8, h9, h10, h11⟩, fun v H3 hy => ?_⟩
          obtain ⟨q3, rfl, X3, R3, rd⟩ := yl v H3 hy
          refine ⟨q0, q3, wipeE env vs, env1, s', d', rfl, (E.wipe vs).ext (X1.trans X3), R3, rd, hg, fun σ2 q4 X4 R4 E4 n4 w4 => ⟨wipe_eq (by rw [n4, wipe_length]) fun j hj => w4 j fun z => hj (hsub j z), ?_⟩⟩
          refine ⟨q0, q4, env1, s', rfl, E4, R4, ?_⟩
          rw [Res.bind_assoc] at P
          refine Post.calm P fun b s5 _ b' q5 X5 R5 e5 P5 => ?_
          subst e5
          have X15 := ((X1.trans X3).trans X4).trans X5
          have X35 := (X3.trans X4).trans X5
          cases b with
          | false =>
            refine iteF ⟨q5, s5, acc, av, rfl, hlt, by omega, X15, K1.trans X35.kp, R5, X35.keep Dl _ hDl hr (fun _ z => nomatch z), X35.mono Dl hL, (fun z => (X35.new Dl z).elim hr fun n => by exact n _ hDl fun _ z => nomatch z), RDs.mono X35.kp _ racc, ?_⟩
            simpa using P5
          | true =>
            refine iteT ⟨q0, q5, env1, s5, rfl, E4.ext X5, R5, ?_⟩
            simp only [if_true] at P5
            rw [Res.bind_assoc] at P5
            refine Post.calm P5 fun y s6 _ yv q6 X6 R6 e6 P6 => ?_
            have X36 := X35.trans X6
            have X16 := X15.trans X6
            have hD6 := X36.keep Dl _ hDl hr (fun _ z => nomatch z)
            have hL6 := X36.mono Dl hL
            have hr6 : Dl ∉ q6.r := fun z => (X36.new Dl z).elim hr fun n => by exact n _ hDl fun _ z => nomatch z
            refine ⟨av, hD6, ?_, ?_⟩
            · rw [racc.length]
              exact Nat.lt_of_lt_of_le (show acc.length < cap by omega) (lenS (Nat.le_refl _))
            · have kw : Kp q6 ⟨upd q6.H Dl (.lst (av ++ [yv])), q6.L, q6.r⟩ := Kp.wr hL6
              refine ⟨⟨upd q6.H Dl (.lst (av ++ [yv])), q6.L, q6.r⟩, s6, acc ++ [y], av ++ [yv], rfl, hlt, by simp; omega, X16.own hq, (K1.trans X36.kp).own (Fr.of hD), R6.wr hL6 hr6 hD6 (fun _ z => nomatch z) (fun _ z => nomatch z), upd_same, hL6, hr6, RDs.mono kw _ ((RDs.mono X36.kp _ racc).append (.cons e6 .nil)), ?_⟩
              rw [Res.bind_assoc] at P6
              simp only [Res.bind_ok] at P6
              simpa using P6
    · have hz : i = x.ds.length := by omega
      subst hz
      rw [List.drop_length] at P
      simp only [lcL] at P
      cases hf : MP.fin x s' with
      | false => rw [hf] at P; exact P.elim
      | true =>
        rw [hf] at P
        simp only [if_true, Res.bind_ok, List.append_nil] at P
        exact .inl ⟨okE rfl hf, P (.ref Dl) q' X1 R1 ⟨Dl, av, rfl, hq, hDl, hL, hr, racc⟩⟩
  · rw [if_neg hsz] at p1
    exact p1.elim
end
end MP

/-! Statements and bodies. Own text. -/
namespace MP
open PySem L2

/-! ### a statement follows its function -/
def PostS (K : PySem.W.Frag) (C : Tab) (W : Wx) (q0 q : Stt) (D : Ends) : SRes → Prop
  | .nx e s => ∀ σ' q', Ext q0 q' → Kp q q' → Rel K C s q' → RE K C q0 q' e σ' → D.nx σ' q'.H
  | .rt d s => ∀ v q', Ext q0 q' → Kp q q' → Rel K C s q' → RD K q' d v → D.rt v q'.H
  | .bk e s => ∀ σ' q', Ext q0 q' → Kp q q' → Rel K C s q' → RE K C q0 q' e σ' → D.bk σ' q'.H
  | .ct e s => ∀ σ' q', Ext q0 q' → Kp q q' → Rel K C s q' → RE K C q0 q' e σ' → D.ct σ' q'.H
  | .ex x e s => ∀ cls d σ' q', Ext q0 q' → Kp q q' → Rel K C s q' → RE K C q0 q' e σ' → RX q' C K x cls d → W cls d σ' q'.H
  | .stk => False
def tS (K : PySem.W.Frag) (C : Tab) (W : Wx) (m : MS) : TS := fun D σ H => ∃ (q0 q : Stt) (env : MP.Env) (s : Sto), q.H = H ∧ Ext q0 q ∧ RE K C q0 q env σ ∧ Rel K C s q ∧ PostS K C W q0 q D (m env s)
def GS (X : Cx) (C : Tab) (W : Wx) (st : Stmt) (m : MS) : Prop := PS X st (tS X.K C W m)
def GSs (X : Cx) (C : Tab) (W : Wx) (sts : List Stmt) (m : MS) : Prop := PSs X sts (tS X.K C W m)
section
variable {K : PySem.W.Frag} {C : Tab} {W : Wx} {q0 q q1 : Stt} {De : Ends} {σ : St} {env : MP.Env} {s : Sto}
theorem PostS.later {r : SRes} (k : Kp q q1) (h : PostS K C W q0 q De r) : PostS K C W q0 q1 De r := by
  cases r with
  | nx e s => exact fun a b c d f g => h a b c (k.trans d) f g
  | rt e s => exact fun a b c d f g => h a b c (k.trans d) f g
  | bk e s => exact fun a b c d f g => h a b c (k.trans d) f g
  | ct e s => exact fun a b c d f g => h a b c (k.trans d) f g
  | ex x e s => exact fun a b c d f g i j l => h a b c d f (k.trans g) i j l
  | stk => exact h
/-- an expression's answer, then on -/
theorem tS.first {α β : Type} {R : Stt → Stt → α → β → Prop} {m : MP.Env → Sto → Res α} {f : α → Sto → SRes} {P : β → Hp → Prop} (X0 : Ext q0 q) (E : RE K C q0 q env σ) (L : Rel K C s q) (h : PostS K C W q0 q De ((m env s).go env f))
    (k : ∀ a s1 b q1, Ext q q1 → Ext q0 q1 → RE K C q0 q1 env σ → Rel K C s1 q1 → R q q1 a b → PostS K C W q0 q1 De (f a s1) → P b q1.H) : tM K C W R m σ q.H P := by
  refine ⟨q0, q, env, s, rfl, E, L, ?_⟩
  cases e : m env s with
  | stk => rw [e] at h; exact h
  | exc x s' => rw [e] at h; exact fun cls d q' x1 r1 rx => h cls d σ q' (X0.trans x1) x1.kp r1 (E.ext x1) rx
  | ok a s' => rw [e] at h; exact fun b q' x1 r1 y => k a s' b q' x1 (X0.trans x1) (E.ext x1) r1 y (h.later x1.kp)
/-- a placed object is written -/
theorem wr_placed {n : Nat} {a : Addr} {o o' : Ob} {ho : HO} (L : Rel K C s q) (h1 : s[n]? = some o) (h2 : q.r[n]? = some a) (h3 : RO K C ⟨upd q.H a ho, q.L, q.r⟩ a o') : Ext q ⟨upd q.H a ho, q.L, q.r⟩ ∧ Rel K C (s.set n o') ⟨upd q.H a ho, q.L, q.r⟩ := by
  have ha : a ∈ q.r := List.mem_of_getElem? h2
  have la : q.L a := L.wf.live a ha
  have kp := Kp.wr (o := ho) la
  obtain ⟨w0, k0, k1, k2⟩ := (L.obs n o a h1 h2).kind
  obtain ⟨w3, k3, k4, _⟩ := h3.kind
  obtain rfl : ho = w3 := Option.some.inj (upd_same.symm.trans k3)
  refine ⟨⟨fun b u e n _ => ?_, fun _ z => z, kp.u, kp.pre, fun _ z => .inl z, fun b u e t => ?_⟩, ⟨⟨L.wf.nd, L.wf.live, fun b l => ?_⟩, by simp [L.len], fun k ob b e f => ?_, tabs_upd L.tb k0 k1 k2 k4⟩⟩
  · have ne : b ≠ a := fun z => by subst z; exact n ha
    show upd q.H a ho b = _
    rw [upd_ne ne]; exact e
  · by_cases z : b = a
    · exact ⟨ho, by show upd q.H a ho b = _; rw [z]; exact upd_same, k4⟩
    · exact ⟨u, by show upd q.H a ho b = _; rw [upd_ne z]; exact e, t⟩
  · by_cases e : b = a
    · exact ⟨ho, by show upd q.H a ho b = _; rw [e]; exact upd_same, k4⟩
    · obtain ⟨u, hu, t⟩ := L.wf.trk b l
      exact ⟨u, by show upd q.H a ho b = _; rw [upd_ne e]; exact hu, t⟩
  · have hn : n < s.length := (List.getElem?_eq_some_iff.mp h1).1
    by_cases ek : n = k
    · subst ek
      rw [List.getElem?_set_self hn] at e
      cases e
      have f : q.r[n]? = some b := f
      rw [h2] at f
      cases f
      exact h3
    · rw [List.getElem?_set_ne ek] at e
      refine (L.obs k ob b e f).mono kp ?_
      have ne : b ≠ a := fun z => by
        subst z
        have h4 := (List.getElem?_eq_some_iff.mp h2)
        have h5 := (List.getElem?_eq_some_iff.mp (show q.r[k]? = some b from f))
        exact ek ((List.getElem_inj L.wf.nd).mp (h4.2.trans h5.2.symm))
      show upd q.H a ho b = _
      rw [upd_ne ne]
theorem RE.setOwn (E : RE K C q0 q1 env σ) (X0 : Ext q0 q) (L : Rel K C s q) (i : Nat) {p : Addr} {vs : List V} {ds : List D} (hE : RE K C q0 q env σ) (h1 : Fr q p) (h2 : q1.H p = some (.lst vs)) (h3 : q1.L p) (h4 : p ∉ q1.r) (h5 : RDs K q1 ds vs) :
    RE K C q0 q1 (env.set i (.own ds)) (σ.set i (some (.ref p))) := by
  have self : ∀ {l : Nat} {o : Slot}, (env.set i (.own ds))[l]? = some o → i = l → o = .own ds ∧ i < env.length := fun {l o} h e => by
    subst e
    have hi : i < env.length := by
      have := (List.getElem?_eq_some_iff.mp h).1
      simpa using this
    rw [List.getElem?_set_self hi] at h
    cases h
    exact ⟨rfl, hi⟩
  have h0 : Fr q0 p := X0.free' h1 L
  refine ⟨by simp [E.len], fun j d h => ?_, fun j es h => ?_, fun j k es fs a g1 g2 g3 g4 => ?_, E.w0, fun j y h => ?_⟩
  · by_cases e : i = j
    · cases (self h e).1
    · rw [List.getElem?_set_ne e] at h ⊢
      exact E.val j d h
  · by_cases e : i = j
    · obtain ⟨e1, e2⟩ := self h e
      cases e1
      subst e
      exact ⟨p, vs, List.getElem?_set_self (by rw [← E.len]; exact e2), h2, h3, h4, h5, h0⟩
    · rw [List.getElem?_set_ne e] at h ⊢
      exact E.own j es h
  · have old : ∀ {l : Nat} {xs : List D}, env[l]? = some (.own xs) → σ[l]? ≠ some (some (.ref p)) := fun {l xs} h z => by
      obtain ⟨a, us, z1, z2, _⟩ := hE.own l xs h
      rw [z] at z1
      cases z1
      exact h1 _ z2 fun _ z => nomatch z
    by_cases ej : i = j
    · by_cases ek : i = k
      · rw [← ej, ← ek]
      · obtain ⟨e1, e2⟩ := self g1 ej
        subst ej
        rw [List.getElem?_set_self (by rw [← E.len]; exact e2)] at g3
        cases g3
        rw [List.getElem?_set_ne ek] at g2 g4
        exact absurd g4 (old g2)
    · rw [List.getElem?_set_ne ej] at g1 g3
      by_cases ek : i = k
      · obtain ⟨e1, e2⟩ := self g2 ek
        subst ek
        rw [List.getElem?_set_self (by rw [← E.len]; exact e2)] at g4
        cases g4
        exact absurd g3 (old g1)
      · rw [List.getElem?_set_ne ek] at g2 g4
        exact E.inj j k es fs a g1 g2 g3 g4
  · by_cases e : i = j
    · cases (self h e).1
    · rw [List.getElem?_set_ne e] at h ⊢
      exact E.exn j y h
end

section
variable {X : Cx} {C : Tab} {W : Wx} {pos p' apos cpos : Pos} {e a b c o : Expr} {m mo mk : ME} {ml : MA} {st : Stmt} {rest body sa sb : List Stmt} {ms mu : MS} {mt : MT} {x : Str}
theorem gss_nil : GSs X C W [] sNext := PSs.imp pss_nil fun D σ H ⟨q0, q, env, s, eq, X0, E, L, p⟩ => by
  subst eq
  exact p σ q X0 (Kp.refl q) L E
theorem gss_one (h : GS X C W st ms) : GSs X C W [st] ms := pss_one h
theorem gss_cons (h : GS X C W st ms) (hr : GSs X C W rest mu) : GSs X C W (st :: rest) (sSeq ms mu) := PSs.imp (pss_cons h hr) fun D σ H ⟨q0, q, env, s, eq, X0, E, L, p⟩ => by
  subst eq
  refine ⟨q0, q, env, s, rfl, X0, E, L, ?_⟩
  unfold sSeq at p
  cases z : ms env s with
  | nx e' s' => rw [z] at p; exact fun σ' q' x1 k1 L1 E1 => ⟨q0, q', e', s', rfl, x1, E1, L1, PostS.later k1 p⟩
  | rt d s' => rw [z] at p; exact p
  | bk e' s' => rw [z] at p; exact p
  | ct e' s' => rw [z] at p; exact p
  | ex x e' s' => rw [z] at p; exact p
  | stk => rw [z] at p; exact p
theorem gs_pass : GS X C W (.Pass pos) sNext := PS.imp ps_pass fun D σ H ⟨q0, q, env, s, eq, X0, E, L, p⟩ => by
  subst eq
  exact p σ q X0 (Kp.refl q) L E
theorem gs_break : GS X C W (.Break pos) sBrk := PS.imp ps_break fun D σ H ⟨q0, q, env, s, eq, X0, E, L, p⟩ => by
  subst eq
  exact p σ q X0 (Kp.refl q) L E
theorem gs_continue : GS X C W (.Continue pos) sCnt := PS.imp ps_continue fun D σ H ⟨q0, q, env, s, eq, X0, E, L, p⟩ => by
  subst eq
  exact p σ q X0 (Kp.refl q) L E
theorem gs_expr (h : GE X C W e m) (hs : swapsWith e none pos.line X.env = pure false := by rfl) : GS X C W (.Expr e pos) (sDrop m) := PS.imp (ps_expr h hs) fun D σ H ⟨q0, q, env, s, eq, X0, E, L, p⟩ => by
  subst eq
  exact tS.first X0 E L p fun d s1 v q1 x1 X1 E1 L1 y p1 => p1 σ q1 X1 (Kp.refl q1) L1 E1
theorem gs_ret (h : GE X C W e m) : GS X C W (.Return (some e) pos) (sRet m) := PS.imp (ps_ret h) fun D σ H ⟨q0, q, env, s, eq, X0, E, L, p⟩ => by
  subst eq
  exact tS.first X0 E L p fun d s1 v q1 x1 X1 E1 L1 y p1 => p1 v q1 X1 (Kp.refl q1) L1 y
theorem gs_if (hc : GT X C W c mt) (ha : GSs X C W sa ms) (hb : GSs X C W sb mu) : GS X C W (.If c sa sb pos) (sIf mt ms mu) := PS.imp (ps_if hc ha hb) fun D σ H ⟨q0, q, env, s, eq, X0, E, L, p⟩ => by
  subst eq
  refine tS.first X0 E L p fun d s1 v q1 x1 X1 E1 L1 y p1 => ?_
  cases y
  cases d with
  | true => exact iteT ⟨q0, q1, env, s1, rfl, X1, E1, L1, p1⟩
  | false => exact iteF ⟨q0, q1, env, s1, rfl, X1, E1, L1, p1⟩
/-- a name's store, whatever its value's rule -/
theorem set_imp {K : PySem.W.Frag} (i : Nat) (D : Ends) (σ : St) (H : Hp) (h : tS K C W (sAsg m (gNm i)) D σ H) : tAsg (tM K C W (rD K) m) (gName i) D σ H := by
  obtain ⟨q0, q, env, s, eq, X0, E, L, p⟩ := h
  subst eq
  exact tS.first X0 E L p fun d s1 v q1 x1 X1 E1 L1 y p1 => p1 _ q1 X1 (Kp.refl q1) L1 (E1.set i y)
theorem gs_set (i : Nat) (h : GE X C W e m) (hN : X.N.Nodup) (hi : X.N[i]? = some x := by rfl) (hx : Loc X.env.scope x := by first | exact Or.inl rfl | exact Or.inr rfl) (hs : swapsWith e (some (.Name x p')) pos.line X.env = pure false := by rfl) (hf : X.fn x = true ∨ X.env.scope.names.lookup x = some .local := by first | exact .inl rfl | exact .inr rfl) :
    GS X C W (.Assign [.Name x p'] e pos) (sAsg m (gNm i)) := PS.imp (ps_set hN hi hx h hs hf) (set_imp i)
theorem asg_imp {K : PySem.W.Frag} {g : MG} {vs : List Nat} (D : Ends) (σ : St) (H : Hp) (h : tS K C W (sAsg m g) D σ H) : tAsg (tM K C W (rD K) m) (tG K C g vs) D σ H := by
  obtain ⟨q0, q, env, s, eq, X0, E, L, p⟩ := h
  subst eq
  refine tS.first X0 E L p fun d s1 v q1 x1 X1 E1 L1 y p1 => ?_
  unfold putE at p1
  cases z : g d env with
  | none => rw [z] at p1; exact p1.elim
  | some env' => rw [z] at p1; exact ⟨q0, q1, env, env', s1, d, rfl, E1, L1, y, z, fun σ' q' x2 L2 E2 _ _ => p1 σ' q' (X1.trans x2) x2.kp L2 E2⟩
theorem gs_asg {tg : Expr} {g : MG} {vs : List Nat} (h : GE X C W e m) (hg : GG X C tg g vs) (hs : swapsWithSole [tg] e pos.line X.env = pure false := by rfl) (hw : swappedStores [tg] e X.env = pure none := by rfl) (h1 : (assignEach [tg] X.env).map (·.2) = [assign tg X.env] := by rfl) :
    GS X C W (.Assign [tg] e pos) (sAsg m g) := PS.imp (ps_asg h hg hs hw h1) asg_imp
/-- a list just made goes to a name: as a value, as the frame's own, placed -/
theorem new_own {K : PySem.W.Frag} (i : Nat) (D : Ends) (σ : St) (H : Hp) (h : tS K C W (sOwn ml i) D σ H) : tAsg (tM K C W (RN K) ml) (gName i) D σ H := by
  obtain ⟨q0, q, env, s, eq, X0, E, L, p⟩ := h
  subst eq
  refine tS.first X0 E L p fun d s1 v q1 x1 X1 E1 L1 y p1 => ?_
  obtain ⟨pp, vs, rfl, h1, h2, h3, h4, h5⟩ := y
  exact p1 _ q1 X1 (Kp.refl q1) L1 (RE.setOwn E1 X0 L i E h1 h2 h3 h4 h5)
theorem new_frz {K : PySem.W.Frag} (i : Nat) (D : Ends) (σ : St) (H : Hp) (h : tS K C W (sAsg (eFrz ml) (gNm i)) D σ H) : tAsg (tM K C W (RN K) ml) (gName i) D σ H := by
  obtain ⟨q0, q, env, s, eq, X0, E, L, p⟩ := h
  subst eq
  refine ⟨q0, q, env, s, rfl, E, L, ?_⟩
  unfold sAsg eFrz at p
  cases e : ml env s with
  | stk => rw [e] at p; exact p
  | exc z s' => rw [e] at p; exact fun cls d q' x1 r1 rx => p cls d σ q' (X0.trans x1) x1.kp r1 (E.ext x1) rx
  | ok ds s' =>
    rw [e] at p
    intro v q1 x1 L1 y
    obtain ⟨pp, vs, rfl, h1, h2, h3, h4, h5⟩ := y
    obtain ⟨e1, e2, e3⟩ := freeze L.wf x1 L1 h1 h2 h3 h4 h5
    exact p _ ⟨q1.H, fun a => q1.L a ∧ a ≠ pp, q1.r⟩ (X0.trans e1) e1.kp e2 ((E.ext e1).set i e3)
theorem new_plc {K : PySem.W.Frag} (i : Nat) (D : Ends) (σ : St) (H : Hp) (h : tS K C W (sAsg (ePlc ml) (gNm i)) D σ H) : tAsg (tM K C W (RN K) ml) (gName i) D σ H := by
  obtain ⟨q0, q, env, s, eq, X0, E, L, p⟩ := h
  subst eq
  refine ⟨q0, q, env, s, rfl, E, L, ?_⟩
  unfold sAsg ePlc at p
  cases e : ml env s with
  | stk => rw [e] at p; exact p
  | exc z s' => rw [e] at p; exact fun cls d q' x1 r1 rx => p cls d σ q' (X0.trans x1) x1.kp r1 (E.ext x1) rx
  | ok ds s' =>
    rw [e] at p
    intro v q1 x1 L1 y
    obtain ⟨pp, vs, rfl, h1, h2, h3, h4, h5⟩ := y
    obtain ⟨e1, e2, e3⟩ := placed L.wf x1 L1 h1 h2 h3 h4 h5
    exact p _ ⟨q1.H, q1.L, q1.r ++ [pp]⟩ (X0.trans e1) e1.kp e2 ((E.ext e1).set i e3)
/-- a statement that stores a new list under a name -/
def PN (X : Cx) (C : Tab) (W : Wx) (i : Nat) (st : Stmt) (l : MA) : Prop := PS X st (tAsg (tM X.K C W (RN X.K) l) (gName i))
theorem pn_set (i : Nat) (h : GL X C W e ml) (hN : X.N.Nodup) (hi : X.N[i]? = some x := by rfl) (hx : Loc X.env.scope x := by first | exact Or.inl rfl | exact Or.inr rfl) (hs : swapsWith e (some (.Name x p')) pos.line X.env = pure false := by rfl) (hf : X.fn x = true ∨ X.env.scope.names.lookup x = some .local := by first | exact .inl rfl | exact .inr rfl) :
    PN X C W i (.Assign [.Name x p'] e pos) ml := ps_set hN hi hx h hs hf
theorem gs_own {i : Nat} (h : PN X C W i st ml) : GS X C W st (sOwn ml i) := PS.imp h (new_own i)
theorem gs_frz {i : Nat} (h : PN X C W i st ml) : GS X C W st (sAsg (eFrz ml) (gNm i)) := PS.imp h (new_frz i)
theorem gs_plc {i : Nat} (h : PN X C W i st ml) : GS X C W st (sAsg (ePlc ml) (gNm i)) := PS.imp h (new_plc i)
/-- comprehensions -/
theorem gl_lc {elt tg iter : Expr} {ifs : List Expr} {scope : Scope} {own : List (Str × Nat)} {mi : MI} {g : MG} {me : ME} {gvs : List Nat} (hc : X.calm = true) (hN : X.N.Nodup) (hi : GI X C W tg iter mi) (ok : BlkOk X.N X.env.scope scope own)
    (hg : ∀ (s : Shared) (H : Hp) (Ca : Addr) (cl : List (Str × Addr)) (fp : List Addr), GG (X.blk s H scope (compEnvC scope cl Ca X.env) fp) C tg g gvs) (ht : ∀ (s : Shared) (H : Hp) (Ca : Addr) (cl : List (Str × Addr)) (fp : List Addr), GTs (X.blk s H scope (compEnvC scope cl Ca X.env) fp) C W0 ifs mt)
    (he : ∀ (s : Shared) (H : Hp) (Ca : Addr) (cl : List (Str × Addr)) (fp : List Addr), GE (X.blk s H scope (compEnvC scope cl Ca X.env) fp) C W0 elt me) (hsub : ∀ j ∈ gvs, j ∈ own.map (·.2) := by decide) (hs : ∀ x, foldedSetIterable iter X.env x = pure x := by intro _; rfl) :
    GL X C W (.ListComp elt [⟨tg, iter, ifs, 0⟩] scope pos) (lLc mi g mt me (own.map (·.2))) := PE.imp (pe_lc (g := tG X.K C g gvs) (tt := tM X.K C W0 rT mt) (te := tM X.K C W0 (rD X.K) me) hc hN hi ok hg ht he hs) (lc_imp hsub)
theorem pn_lc {i : Nat} {elt tg iter : Expr} {ifs : List Expr} {scope : Scope} {own : List (Str × Nat)} {mi : MI} {g : MG} {me : ME} {gvs : List Nat} (hc : X.calm = true) (hN : X.N.Nodup) (hi : GI X C W tg iter mi) (ok : BlkOk X.N X.env.scope scope own)
    (hg : ∀ (s : Shared) (H : Hp) (Ca : Addr) (cl : List (Str × Addr)) (fp : List Addr), GG (X.blk s H scope (compEnvC scope cl Ca X.env) fp) C tg g gvs) (ht : ∀ (s : Shared) (H : Hp) (Ca : Addr) (cl : List (Str × Addr)) (fp : List Addr), GTs (X.blk s H scope (compEnvC scope cl Ca X.env) fp) C W0 ifs mt)
    (he : ∀ (s : Shared) (H : Hp) (Ca : Addr) (cl : List (Str × Addr)) (fp : List Addr), GE (X.blk s H scope (compEnvC scope cl Ca X.env) fp) C W0 elt me) (hy : X.N[i]? = some x := by rfl) (hyl : X.env.scope.names.lookup x = some .local := by rfl)
    (hsw : swapsWith (.ListComp elt [⟨tg, iter, ifs, 0⟩] scope pos) (some (.Name x p')) cpos.line X.env = pure true := by exact sw_true rfl rfl rfl (by decide +kernel)) (hsub : ∀ j ∈ gvs, j ∈ own.map (·.2) := by decide) (hs : ∀ x, foldedSetIterable iter X.env x = pure x := by intro _; rfl) :
    PN X C W i (.Assign [.Name x p'] (.ListComp elt [⟨tg, iter, ifs, 0⟩] scope pos) cpos) (lLc mi g mt me (own.map (·.2))) :=
  PS.imp (ps_setLc (g := tG X.K C g gvs) (tt := tM X.K C W0 rT mt) (te := tM X.K C W0 (rD X.K) me) hc hN hy hyl hsw hi ok hg ht he hs) fun D σ H h => lc_imp hsub σ H _ h
end
end MP

/-! Loops, lists that grow, objects' fields, bodies of defs. Own text. -/
namespace MP
open PySem L2
section
variable {X : Cx} {C : Tab} {W : Wx} {pos p' apos cpos : Pos} {e a b c o : Expr} {m mo mk : ME} {ml : MA} {st : Stmt} {rest body sa sb : List Stmt} {ms mu : MS} {mt : MT} {x : Str}

/-! ### loops -/
theorem for_turns {K : PySem.W.Frag} {J : It} {xs : Src} {g : MG} {gvs : List Nat} {q0 qs : Stt} {D : Ends} (ok : ItOk K C J xs qs) :
    ∀ (m : Nat) (i : Nat) (q : Stt) (env : MP.Env) (s : Sto) (σ : St), m = xs.ds.length - i → i ≤ xs.ds.length → Ext q0 q → Kp qs q → RE K C q0 q env σ → Rel K C s q → PostS K C W q0 q D (forL xs g ms i (xs.ds.drop i) env s) →
      (J.stop i q.H ∧ D.nx σ q.H) ∨ (J.go i q.H ∧ ∀ v H', J.yld i q.H v H' → tG K C g gvs v σ H' fun σ2 H2 => tS K C W ms { D with
        nx := fun σ3 H3 => ∃ q3 env3 s3, q3.H = H3 ∧ i + 1 ≤ xs.ds.length ∧ Ext q0 q3 ∧ Kp qs q3 ∧ RE K C q0 q3 env3 σ3 ∧ Rel K C s3 q3 ∧ PostS K C W q0 q3 D (forL xs g ms (i + 1) (xs.ds.drop (i + 1)) env3 s3),
        ct := fun σ3 H3 => ∃ q3 env3 s3, q3.H = H3 ∧ i + 1 ≤ xs.ds.length ∧ Ext q0 q3 ∧ Kp qs q3 ∧ RE K C q0 q3 env3 σ3 ∧ Rel K C s3 q3 ∧ PostS K C W q0 q3 D (forL xs g ms (i + 1) (xs.ds.drop (i + 1)) env3 s3),
        bk := D.nx } σ2 H2) := by
  intro m i q env s σ hm hi X0 K1 E R P
  obtain ⟨okI, okE⟩ := ok q s i K1 R
  rcases Nat.lt_or_ge i xs.ds.length with hlt | hge
  · obtain ⟨d, hd⟩ : ∃ d, xs.ds[i]? = some d := ⟨_, List.getElem?_eq_getElem hlt⟩
    have hdrop : xs.ds.drop i = d :: xs.ds.drop (i + 1) := by
      rw [List.drop_eq_getElem_cons hlt]; have := List.getElem?_eq_getElem hlt
      rw [hd] at this
      cases this
      rfl
    rw [hdrop] at P
    simp only [forL] at P
    cases hcur : cur xs s i d with
    | none => rw [hcur] at P; exact P.elim
    | some d' =>
      rw [hcur] at P
      simp only [Option.bind_some] at P
      cases hg : g d' env with
      | none => rw [hg] at P; exact P.elim
      | some env1 =>
        rw [hg] at P
        simp only at P
        obtain ⟨go, yl⟩ := okI d d' hd hcur
        refine .inr ⟨go, fun v H' hy => ?_⟩
        obtain ⟨q3, rfl, X3, R3, rd⟩ := yl v H' hy
        refine ⟨q0, q3, env, env1, s, d', rfl, E.ext X3, R3, rd, hg, fun σ2 q4 X4 R4 E4 _ _ => ?_⟩
        refine ⟨q0, q4, env1, s, rfl, (X0.trans X3).trans X4, E4, R4, ?_⟩
        have k4 : Kp q q4 := (X3.trans X4).kp
        cases hb : ms env1 s with
        | nx e2 s2 => rw [hb] at P; exact fun σ' q' x1 k1 L1 E1 => ⟨q', e2, s2, rfl, hlt, x1, (K1.trans k4).trans k1, E1, L1, PostS.later (k4.trans k1) P⟩
        | ct e2 s2 => rw [hb] at P; exact fun σ' q' x1 k1 L1 E1 => ⟨q', e2, s2, rfl, hlt, x1, (K1.trans k4).trans k1, E1, L1, PostS.later (k4.trans k1) P⟩
        | bk e2 s2 => rw [hb] at P; exact fun σ' q' x1 k1 L1 E1 => P σ' q' x1 (k4.trans k1) L1 E1
        | rt d s2 => rw [hb] at P; exact fun v q' x1 k1 L1 r1 => P v q' x1 (k4.trans k1) L1 r1
        | ex z e2 s2 => rw [hb] at P; exact fun cls d σ' q' x1 k1 L1 E1 r1 => P cls d σ' q' x1 (k4.trans k1) L1 E1 r1
        | stk => rw [hb] at P; exact P.elim
  · have hz : i = xs.ds.length := by omega
    subst hz
    rw [List.drop_length] at P
    simp only [forL] at P
    cases hf : MP.fin xs s with
    | false => rw [hf] at P; exact P.elim
    | true =>
      rw [hf] at P
      exact .inl ⟨okE rfl hf, P σ q X0 (Kp.refl q) R E⟩
theorem gs_for {tg iter : Expr} {mi : MI} {g : MG} {gvs : List Nat} (hp : PassesOwn (model X.prog X.w) X.A X.env X.xe) (hc : X.calm = true) (hi : GI X C W tg iter mi) (hg : GG X C tg g gvs) (hb : GSs X C W body ms) (hs : ∀ x, foldedSetIterable iter X.env x = pure x := by intro _; rfl) :
    GS X C W (.For tg iter body [] pos) (sFor mi g ms) := PS.imp (ps_for hp hc hi hg hb hs) fun D σ H ⟨q0, q, env, s, eq, X0, E, L, p⟩ => by
  subst eq
  refine tS.first X0 E L p fun xs s1 J q1 x1 X1 E1 L1 ok p1 => ?_
  refine ⟨fun i m σ H => ∃ q3 env3 s3, q3.H = H ∧ m = xs.ds.length - i ∧ i ≤ xs.ds.length ∧ Ext q0 q3 ∧ Kp q1 q3 ∧ RE X.K C q0 q3 env3 σ ∧ Rel X.K C s3 q3 ∧ PostS X.K C W q0 q3 D (forL xs g ms i (xs.ds.drop i) env3 s3),
    ⟨_, q1, env, s1, rfl, rfl, Nat.zero_le _, X1, Kp.refl q1, E1, L1, by rw [List.drop_zero]; exact p1⟩, ?_⟩
  rintro i m σ' H ⟨q3, env3, s3, rfl, hm, hi, X3, K3, E3, L3, P3⟩
  rcases for_turns (gvs := gvs) ok m i q3 env3 s3 σ' hm hi X3 K3 E3 L3 P3 with h | ⟨go, h⟩
  · exact .inl h
  · exact .inr ⟨go, _, fun σ4 H4 ⟨q4, env4, s4, h1, h2, h3, h4, h5, h6, h7⟩ => ⟨xs.ds.length - (i + 1), by omega, q4, env4, s4, h1, rfl, h2, h3, h4, h5, h6, h7⟩, h⟩
theorem gs_while (n : Nat) (hp : PassesOwn (model X.prog X.w) X.A X.env X.xe) (hc : GT X C W c mt) (hb : GSs X C W body ms) : GS X C W (.While c body [] pos) (sWhile n mt ms) := PS.imp (ps_while hp hc hb) fun D σ H ⟨q0, q, env, s, eq, X0, E, L, p⟩ => by
  subst eq
  refine ⟨fun m σ H => ∃ q3 env3 s3, q3.H = H ∧ Ext q0 q3 ∧ RE X.K C q0 q3 env3 σ ∧ Rel X.K C s3 q3 ∧ PostS X.K C W q0 q3 D (whL mt ms m env3 s3), ⟨n, q, env, s, rfl, X0, E, L, p⟩, ?_⟩
  rintro m σ' H ⟨q3, env3, s3, rfl, X3, E3, L3, P3⟩
  cases m with
  | zero => exact P3.elim
  | succ m =>
    simp only [whL] at P3
    refine tS.first X3 E3 L3 P3 fun d s4 v q4 x4 X4 E4 L4 y p4 => ?_
    cases y
    cases d with
    | false => exact iteF (p4 σ' q4 X4 (Kp.refl q4) L4 E4)
    | true =>
      refine iteT ⟨fun σ H => ∃ q3 env3 s3, q3.H = H ∧ Ext q0 q3 ∧ RE X.K C q0 q3 env3 σ ∧ Rel X.K C s3 q3 ∧ PostS X.K C W q0 q3 D (whL mt ms m env3 s3), fun σ' H' h => ⟨m, Nat.lt_succ_self m, h⟩, q0, q4, env3, s4, rfl, X4, E4, L4, ?_⟩
      simp only [if_true] at p4
      cases hb : ms env3 s4 with
      | nx e2 s2 => rw [hb] at p4; exact fun σ' q' x1 k1 L1 E1 => ⟨q', e2, s2, rfl, x1, E1, L1, PostS.later k1 p4⟩
      | ct e2 s2 => rw [hb] at p4; exact fun σ' q' x1 k1 L1 E1 => ⟨q', e2, s2, rfl, x1, E1, L1, PostS.later k1 p4⟩
      | bk e2 s2 => rw [hb] at p4; exact p4
      | rt d s2 => rw [hb] at p4; exact p4
      | ex z e2 s2 => rw [hb] at p4; exact p4
      | stk => rw [hb] at p4; exact p4.elim

/-! ### lists that grow -/
/-- the frame's own list gets another content -/
theorem own_write {K : PySem.W.Frag} {q0 q : Stt} {env : MP.Env} {σ : St} {s : Sto} {i : Nat} {p : Addr} {vs ws : List V} {ds es : List D} (X0 : Ext q0 q) (E : RE K C q0 q env σ) (L : Rel K C s q) (ho : env[i]? = some (.own ds)) (hs : σ[i]? = some (some (.ref p))) (h1 : q.H p = some (.lst vs)) (hL : q.L p) (hr : p ∉ q.r) (h0 : Fr q0 p)
    (r : RDs K q es ws) : Ext q0 ⟨upd q.H p (.lst ws), q.L, q.r⟩ ∧ Kp q ⟨upd q.H p (.lst ws), q.L, q.r⟩ ∧ Rel K C s ⟨upd q.H p (.lst ws), q.L, q.r⟩ ∧ RE K C q0 ⟨upd q.H p (.lst ws), q.L, q.r⟩ (env.set i (.own es)) σ := by
  have kw : Kp q ⟨upd q.H p (.lst ws), q.L, q.r⟩ := Kp.wr hL
  have hi : i < env.length := (List.getElem?_eq_some_iff.mp ho).1
  refine ⟨X0.own h0, kw, L.wr hL hr h1 (fun _ z => nomatch z) (fun _ z => nomatch z), ⟨by simp [E.len], fun j d h => ?_, fun j fs h => ?_, fun j k fs gs a g1 g2 g3 g4 => ?_, E.w0, fun j y h => ?_⟩⟩
  · by_cases e : i = j
    · subst e
      rw [List.getElem?_set_self hi] at h
      cases h
    · rw [List.getElem?_set_ne e] at h
      obtain ⟨v, h2, h3⟩ := E.val j d h
      exact ⟨v, h2, RD.mono kw d h3⟩
  · by_cases e : i = j
    · subst e
      rw [List.getElem?_set_self hi] at h
      cases h
      exact ⟨p, ws, hs, upd_same, hL, hr, RDs.mono kw _ r, h0⟩
    · rw [List.getElem?_set_ne e] at h
      obtain ⟨a, us, h2, h3, h4, h5, h6, h7⟩ := E.own j fs h
      have ne : a ≠ p := fun z => by
        subst z
        exact e (E.inj i j ds fs a ho h hs h2)
      exact ⟨a, us, h2, by show upd q.H p _ a = _; rw [upd_ne ne]; exact h3, h4, h5, RDs.mono kw _ h6, h7⟩
  · have old : ∀ {l : Nat} {xs : List D}, (env.set i (.own es))[l]? = some (.own xs) → ∃ ys, env[l]? = some (.own ys) := fun {l xs} h => by
      by_cases e : i = l
      · subst e; exact ⟨ds, ho⟩
      · rw [List.getElem?_set_ne e] at h; exact ⟨xs, h⟩
    obtain ⟨ys, y1⟩ := old g1
    obtain ⟨zs, z1⟩ := old g2
    exact E.inj j k ys zs a y1 z1 g3 g4
  · by_cases e : i = j
    · subst e
      rw [List.getElem?_set_self hi] at h
      cases h
    · rw [List.getElem?_set_ne e] at h
      obtain ⟨a, cl, d, h2, h3, h4⟩ := E.exn j y h
      exact ⟨a, cl, d, h2, h3, h4.mono kw⟩
theorem tyL {K : PySem.W.Frag} {H : Hp} {a : Addr} {vs : List V} (h : H a = some (.lst vs)) : tyV K "list" (.ref a) H := Or.inl ⟨rfl, vs, SqL.of h⟩
/-- xs.append(e) as a statement, xs the frame's own -/
theorem gs_app (i : Nat) (h : GE X C W e m) (hN : X.N[i]? = some x := by rfl) (hv : Vis X.env.scope x := by first | exact Or.inl rfl | exact Or.inr (Or.inl rfl) | exact Or.inr (Or.inr rfl)) (hd : (x == ("__debug__" : Str)) = false := by decide) (hcd : (x == ("__classdict__" : Str)) = false := by decide)
    (h1 : starEach [e] X.env = (false, eval e X.env) :: starEach [] X.env := by rfl) (hbase : attributeBase (.Name x p') "append" X.env (eval (.Name x p') X.env) = eval (.Name x p') X.env := by rfl)
    (hfew : ((backTo cpos (starEach [e] X.env)).all (fun x => !x.1) && (backToKw cpos (keywordEach [] X.env)).all (fun x => x.1.isSome) && decide (([e] : List Expr).length + ([] : List Keyword).length + (if ([] : List Keyword).isEmpty then 0 else 1) < 30)) = true := by rfl)
    (hline : (apos.endLine == cpos.line) = true := by rfl) (hs : swapsWith (.Call (.Attribute (.Name x p') "append" apos) [e] [] cpos) none pos.line X.env = pure false := by rfl) :
    GS X C W (.Expr (.Call (.Attribute (.Name x p') "append" apos) [e] [] cpos) pos) (sApp i m) :=
  PS.imp (ps_expr (pe_bm PySem.F.plainAttrs_list PySem.F.slot_list_append PySem.F.type_list_append mt_append (pe_var (i := i) hN hv hd hcd) (pa_cons h pa_nil h1) hbase hfew hline h1) hs) fun D σ H ⟨q0, q, env, s, eq, X0, E, L, p⟩ => by
    subst eq
    unfold sApp at p
    split at p
    · rename_i ds ho
      obtain ⟨a, vs, o1, o2, o3, o4, o5, o6⟩ := E.own i ds ho
      refine ⟨.ref a, o1, tyL o2, ?_⟩
      refine tS.first X0 E L p fun d s1 v q1 x1 X1 E1 L1 y p1 => ?_
      by_cases hl : ds.length < cap
      · rw [if_pos hl] at p1
        obtain ⟨a', vs', u1, u2, u3, u4, u5, u6⟩ := E1.own i ds ho
        rw [o1] at u1
        cases u1
        refine ⟨a, vs', v, rfl, rfl, u2, ?_, ?_⟩
        · rw [u5.length]
          exact Nat.lt_of_lt_of_le hl (lenS (Nat.le_refl _))
        · obtain ⟨w1, w2, w3, w4⟩ := own_write X1 E1 L1 ho o1 u2 u3 u4 u6 (u5.append (.cons y .nil))
          exact p1 σ _ w1 w2 w3 w4
      · rw [if_neg hl] at p1; exact p1.elim
    · exact p.elim
/-- xs.extend(e) as a statement, e a list -/
theorem gs_ext (i : Nat) (h : GE X C W e m) (hN : X.N[i]? = some x := by rfl) (hv : Vis X.env.scope x := by first | exact Or.inl rfl | exact Or.inr (Or.inl rfl) | exact Or.inr (Or.inr rfl)) (hd : (x == ("__debug__" : Str)) = false := by decide) (hcd : (x == ("__classdict__" : Str)) = false := by decide)
    (h1 : starEach [e] X.env = (false, eval e X.env) :: starEach [] X.env := by rfl) (hbase : attributeBase (.Name x p') "extend" X.env (eval (.Name x p') X.env) = eval (.Name x p') X.env := by rfl)
    (hfew : ((backTo cpos (starEach [e] X.env)).all (fun x => !x.1) && (backToKw cpos (keywordEach [] X.env)).all (fun x => x.1.isSome) && decide (([e] : List Expr).length + ([] : List Keyword).length + (if ([] : List Keyword).isEmpty then 0 else 1) < 30)) = true := by rfl)
    (hline : (apos.endLine == cpos.line) = true := by rfl) (hs : swapsWith (.Call (.Attribute (.Name x p') "extend" apos) [e] [] cpos) none pos.line X.env = pure false := by rfl) :
    GS X C W (.Expr (.Call (.Attribute (.Name x p') "extend" apos) [e] [] cpos) pos) (sExt i m) :=
  PS.imp (ps_expr (pe_bm PySem.F.plainAttrs_list PySem.F.slot_list_extend PySem.F.type_list_extend mt_extend (pe_var (i := i) hN hv hd hcd) (pa_cons h pa_nil h1) hbase hfew hline h1) hs) fun D σ H ⟨q0, q, env, s, eq, X0, E, L, p⟩ => by
    subst eq
    unfold sExt at p
    split at p
    · rename_i ds ho
      obtain ⟨a, vs, o1, o2, o3, o4, o5, o6⟩ := E.own i ds ho
      refine ⟨.ref a, o1, tyL o2, ?_⟩
      refine tS.first X0 E L p fun d s1 v q1 x1 X1 E1 L1 y p1 => ?_
      obtain ⟨a', vs', u1, u2, u3, u4, u5, u6⟩ := E1.own i ds ho
      rw [o1] at u1
      cases u1
      rcases RB.view L1 (.inl y) with ⟨es, b, us, ev, rfl, g, r⟩ | ⟨ev, r, nl⟩
      · rw [ev] at p1
        simp only at p1
        by_cases hl : ds.length + es.length < cap
        · rw [if_pos hl] at p1
          refine ⟨a, b, vs', us, rfl, rfl, u2, g, ?_, ?_⟩
          · rw [u5.length, r.length]
            exact lenS (Nat.le_of_lt hl)
          · obtain ⟨w1, w2, w3, w4⟩ := own_write X1 E1 L1 ho o1 u2 u3 u4 u6 (u5.append r)
            exact p1 σ _ w1 w2 w3 w4
        · rw [if_neg hl] at p1; exact p1.elim
      · rw [ev] at p1
        cases d with
        | lst es => exact absurd rfl (nl es)
        | _ => exact p1.elim
    · exact p.elim
/-- an own list becomes a value, ahead of a block -/
theorem gss_frz (i : Nat) {sts : List Stmt} (h : GSs X C W sts ms) : GSs X C W sts (sSeq (sFrz i) ms) := PSs.imp h fun D σ H ⟨q0, q, env, s, eq, X0, E, L, p⟩ => by
  subst eq
  unfold sSeq sFrz at p
  split at p
  · rename_i r ds ho
    simp only [SRes.andThen_nx] at p
    obtain ⟨a, vs, o1, o2, o3, o4, o5, o6⟩ := E.own i ds ho
    have kp : Kp q ⟨q.H, fun b => q.L b ∧ b ≠ a, q.r⟩ := ⟨fun b u e n _ => ⟨e, fun z => n z.1⟩, ⟨[], by simp⟩⟩
    have na : ¬ q0.L a := E.w0.noF o6
    refine ⟨q0, ⟨q.H, fun b => q.L b ∧ b ≠ a, q.r⟩, env.set i (.val (.lst ds)), s, rfl, ⟨X0.keep, fun b l => ⟨X0.mono b l, fun z => by subst z; exact na l⟩, fun b u e n t => ⟨(X0.u b u e n t).1, fun z => (X0.u b u e n t).2 z.1⟩, X0.pre, X0.new, X0.th⟩, ?_, ⟨⟨L.wf.nd, fun b h => ⟨L.wf.live b h, fun z => by subst z; exact o4 h⟩, fun b l => L.wf.trk b l.1⟩, L.len, fun n ob b e1 e2 => (L.obs n ob b e1 e2).mono kp rfl, L.tb⟩, PostS.later kp p⟩
    have E' : RE X.K C q0 ⟨q.H, fun b => q.L b ∧ b ≠ a, q.r⟩ (env.set i .emp) σ := by
      have ne : ∀ {l : Nat} {o : Slot}, (env.set i .emp)[l]? = some o → o ≠ .emp → i ≠ l := fun {l o} h n e => by
        subst e
        have hi : i < env.length := by
          have := (List.getElem?_eq_some_iff.mp h).1
          simpa using this
        rw [List.getElem?_set_self hi] at h
        cases h
        exact n rfl
      refine ⟨by simp [E.len], fun j d h => ?_, fun j es h => ?_, fun j k es fs b g1 g2 g3 g4 => ?_, E.w0, fun j y h => ?_⟩
      · rw [List.getElem?_set_ne (ne h (by intro z; cases z))] at h
        obtain ⟨v, h2, h3⟩ := E.val j d h
        exact ⟨v, h2, RD.mono kp d h3⟩
      · have n := ne h (by intro z; cases z)
        rw [List.getElem?_set_ne n] at h
        obtain ⟨b, us, h2, h3, h4, h5, h6, h7⟩ := E.own j es h
        refine ⟨b, us, h2, h3, ⟨h4, fun z => ?_⟩, h5, RDs.mono kp _ h6, h7⟩
        subst z
        exact n (E.inj i j ds es b ho h o1 h2)
      · rw [List.getElem?_set_ne (ne g1 (by intro z; cases z))] at g1
        rw [List.getElem?_set_ne (ne g2 (by intro z; cases z))] at g2
        exact E.inj j k es fs b g1 g2 g3 g4
      · rw [List.getElem?_set_ne (ne h (by intro z; cases z))] at h
        obtain ⟨a', cl, d, h2, h3, h4⟩ := E.exn j y h
        exact ⟨a', cl, d, h2, h3, h4.mono kp⟩
    have r := E'.set i (d := .lst ds) (v := .ref a) (.lst ⟨o2, fun z => z.2 rfl⟩ (RDs.mono kp _ o5))
    rw [List.set_set] at r
    have e : σ.set i (some (.ref a)) = σ := by
      apply List.ext_getElem?
      intro j
      by_cases hj : i = j
      · subst hj
        rw [List.getElem?_set_self (List.getElem?_eq_some_iff.mp o1).1, o1]
      · rw [List.getElem?_set_ne hj]
    rw [e] at r
    exact r
  · exact p.elim

/-! ### objects -/
theorem RF.put {K : PySem.W.Frag} {q : Stt} (f : String) {d : D} {v : V} (r : RD K q d v) : ∀ {fs : List (String × D)} {gs : List (Str × V)}, RF K q fs gs → RF K q (putF' f d fs) (putF (Str.ofString f) v gs)
  | _, _, .nil => .cons r .nil
  | _, _, .cons (f := g) (d := dg) a b => by
    unfold putF' putF
    by_cases e : g = f
    · subst e
      rw [if_pos rfl, if_pos rfl]
      exact .cons r b
    · rw [if_neg e, if_neg fun z => e (ofS_inj z)]
      exact .cons a (RF.put f r b)
theorem RF.length {K : PySem.W.Frag} {q : Stt} : ∀ {fs : List (String × D)} {gs : List (Str × V)}, RF K q fs gs → gs.length = fs.length
  | _, _, .nil => rfl
  | _, _, .cons _ b => by simp [RF.length b]
/-- o.f = e -/
theorem gs_fld {cn : Nat} {nm : String} (ho : GE X C W o mo) (hv : GE X C W e m) (hc : Cls X.K (C cn)) (hn : NoAttr X.K (C cn) (Str.ofString nm)) (hs : swapsWith e (some (.Attribute o (Str.ofString nm) p')) pos.line X.env = pure false := by rfl) :
    GS X C W (.Assign [.Attribute o (Str.ofString nm) p'] e pos) (MP.sFld cn mo m nm) := PS.imp (ps_fld ho hv hs) fun D σ H ⟨q0, q, env, s, eq, X0, E, L, p⟩ => by
  subst eq
  refine tS.first X0 E L p fun d s1 v q1 x1 X1 E1 L1 y p1 => ?_
  refine tS.first X1 E1 L1 p1 fun ob s2 u q2 x2 X2 E2 L2 z p2 => ?_
  cases z with
  | @ref n a h2 =>
    simp only at p2
    split at p2
    · rename_i c' fs hn1
      split at p2
      · rename_i hh
        obtain ⟨rfl, hl⟩ := hh
        obtain ⟨dx, gs, e1, r1⟩ := L2.obs n _ a hn1 h2
        refine ⟨a, C c', dx, gs, rfl, e1, hc, hn, by rw [r1.length]; omega, ?_⟩
        have kw : Kp q2 ⟨upd q2.H a (.ins (C c') dx (putF (Str.ofString nm) v gs)), q2.L, q2.r⟩ := Kp.wr (L2.wf.live a (List.mem_of_getElem? h2))
        obtain ⟨w1, w2⟩ := wr_placed (o' := .ins c' (putF' nm d fs)) (ho := .ins (C c') dx (putF (Str.ofString nm) v gs)) L2 hn1 h2 ⟨dx, _, upd_same, RF.put nm (RD.mono kw d (RD.mono x2.kp d y)) (r1.mono kw)⟩
        exact p2 σ _ (X2.trans w1) w1.kp w2 (E2.ext w1)
      · exact p2.elim
    · exact p2.elim
  | _ => exact p2.elim
/-- o[i] = e, o a placed list -/
theorem gs_sub (ho : GE X C W o mo) (hi : GE X C W a mk) (hv : GE X C W e m) (hs : swapsWithSole [.Subscript o a p'] e pos.line X.env = pure false := by rfl) (hw : swappedStores [.Subscript o a p'] e X.env = pure none := by rfl)
    (h1 : (assignEach [.Subscript o a p'] X.env).map (·.2) = [assign (.Subscript o a p') X.env] := by rfl)
    (ha : ∀ v, assign (.Subscript o a p') X.env v = (do
      let ov ← holding [v] (eval o X.env); let iv ← holding [v, ov] (eval a X.env)
      standAt p'
      holding [v, ov, iv] (setItem ov iv v); release [v, ov, iv] []) := by intro _; rfl) :
    GS X C W (.Assign [.Subscript o a p'] e pos) (sSet mo mk m) := PS.imp (ps_asg hv (pg_sub ho hi set_list ha) hs hw h1) fun D σ H ⟨q0, q, env, s, eq, X0, E, L, p⟩ => by
  subst eq
  refine tS.first X0 E L p fun d s1 v q1 x1 X1 E1 L1 y p1 => ?_
  refine tS.first X1 E1 L1 p1 fun ob s2 u q2 x2 X2 E2 L2 z p2 => ?_
  refine tS.first X2 E2 L2 p2 fun ix s3 iv q3 x3 X3 E3 L3 w p3 => ?_
  have z' := RD.mono x3.kp _ z
  cases z' with
  | @ref n b h2 =>
    cases w with
    | int k =>
      simp only at p3
      split at p3
      · rename_i ds hn1
        split at p3
        · rename_i j hj
          obtain ⟨vs, e1, r1⟩ := L3.obs n _ b hn1 h2
          refine ⟨b, vs, k, j, rfl, rfl, e1, by rw [r1.length, ← place_ix]; exact hj, ?_⟩
          have kw : Kp q3 ⟨upd q3.H b (.lst (vs.set j v)), q3.L, q3.r⟩ := Kp.wr (L3.wf.live b (List.mem_of_getElem? h2))
          obtain ⟨w1, w2⟩ := wr_placed (o' := .lst (ds.set j d)) (ho := .lst (vs.set j v)) L3 hn1 h2 ⟨_, upd_same, (RDs.mono kw _ r1).set (RD.mono kw d (RD.mono (x2.trans x3).kp d y))⟩
          exact p3 σ _ (X3.trans w1) w1.kp w2 (E3.ext w1)
        · exact p3.elim
      · exact p3.elim
    | _ => exact p3.elim
  | _ => cases w <;> exact p3.elim
end

/-! ### a def's body, its promise -/
section
variable {P : Program} {w : World} {K : PySem.W.Frag} {mg : Str → Option Value} {base : Heap} {C : Tab}
theorem RE.start {q : Stt} {s : Sto} {ds : List D} {vs : List V} {N : List Str} (n : Nat) (L : Rel K C s q) (r : RDs K q ds vs) (hn : n = N.length - ds.length) : RE K C q q (ds.map .val ++ List.replicate n .emp) (start N vs) := by
  have hl := r.length
  subst hn
  unfold L2.start
  refine ⟨by simp [hl], fun i d h => ?_, fun i es h => ?_, fun i j es fs a h => ?_, L.wf, fun i y h => ?_⟩
  · by_cases hi : i < ds.length
    · rw [List.getElem?_append_left (by simpa using hi), List.getElem?_map] at h
      cases e : ds[i]? with
      | none => rw [e] at h; exact nomatch h
      | some d' =>
        rw [e] at h
        cases h
        obtain ⟨v, h1, h2⟩ := RDs.get r e
        refine ⟨v, ?_, h2⟩
        rw [List.getElem?_append_left (by simp [hl, hi]), List.getElem?_map, h1]
        rfl
    · rw [List.getElem?_append_right (by simpa using hi)] at h
      have := List.mem_of_getElem? h
      simp at this
  · exfalso
    have := List.mem_of_getElem? h
    simp at this
  · exfalso
    have := List.mem_of_getElem? h
    simp at this
  · exfalso
    have := List.mem_of_getElem? h
    simp at this
theorem fn_cal {x qual : Str} {st : Stmt} {f : Addr} {fd : FuncData} {N ps : List Str} {k : Nat} {ms : MS} (F : Fun K x qual st f fd) (S : FnScope N ps (defScope st)) (hN : ps.length ≤ N.length)
    (hb : ∀ (cdv : Value) (A : Around) (outer : List PySem.Env) (s : Shared) (H : Hp) (E : XK), Room k (A.deeper (PyProof.Rows.envOfC qual (defScope st) s.heap.objs.size f cdv)) →
      GSs (cxOf (L2.CX P w) P w K mg base N qual (defScope st) f cdv A outer s H E) C (fun cls d _ H' => E cls d H') (defBody st) ms) : FnOk P w K mg base (L2.CX P w) (k + 1) f fd ps (spM K C (runB ps.length N.length ms)) := by
  refine F.okX S (fun vs H Q E h => ?_) fun cdv A outer s H vs Q E hr h => ⟨_, hb cdv A outer s H E hr, ?_⟩
  · obtain ⟨q, s, ds, e, L, r, p⟩ := h
    rw [r.length]
    unfold runB at p
    split at p
    · rename_i h; exact h
    · exact p.elim
  · obtain ⟨q, s, ds, e, L, r, p⟩ := h
    subst e
    unfold runB at p
    split at p
    · rename_i hk
      refine ⟨q, q, _, s, rfl, Ext.refl q, RE.start (N.length - ps.length) L r (by rw [hk]), L, ?_⟩
      cases z : ms (ds.map .val ++ List.replicate (N.length - ps.length) .emp) s with
      | nx e s' => rw [z] at p; exact fun σ' q' x1 k1 L1 E1 => p .non q' x1 L1 .non
      | rt d s' => rw [z] at p; exact fun v q' x1 k1 L1 r1 => p v q' x1 L1 r1
      | ex y e s' => rw [z] at p; exact fun cls d σ' q' x1 k1 L1 E1 r1 => p cls d q' x1 L1 r1
      | bk e s' => rw [z] at p; exact p.elim
      | ct e s' => rw [z] at p; exact p.elim
      | stk => rw [z] at p; exact p.elim
    · exact p.elim
end
end MP

/-! A star in targets. Own text. -/
namespace MP
open PySem L2
open PyProof.Rows (assignInOrder_cons)
section
variable {X : Cx} {σ : St} {H : Hp} {s : Shared} {pins : List (Addr × Obj)}
theorem ns_fun {h : Heap} {a : Addr} {m m' : Str → Option Value} (x : h.Ns a m) (y : h.Ns a m') : m = m' := by
  obtain ⟨o, es, ep, e1, d1, _, r1⟩ := x
  obtain ⟨o', es', ep', e2, d2, _, r2⟩ := y
  rw [e1] at e2
  cases e2
  rw [d1] at d2
  cases d2
  exact funext fun z => (r1 z).symm.trans (r2 z)
/-- behind a rule of the library's that made one list -/
theorem inv_one {h' : Heap} {tk : Nat} {D : Addr} {its : List Value} {vs : List V} {m : Str → Option Value} (I : Inv X pins σ H s) (F : PyProof.Rows.Fr X.base X.env.locals s.heap m) (F' : PyProof.Rows.Fr X.base X.env.locals h' m)
    (N' : PyProof.Rows.News X.base X.env.locals h' ((D, W.listOf its.toArray 0) :: allNews X.base s.heap X.env.locals)) (lt : ∀ p ∈ allNews X.base s.heap X.env.locals, p.1 < D) (r : Vals vs its) (hl : vs.length ≤ sizeLine) :
    H D = none ∧ Inv X pins σ (upd H D (.lst vs)) { s with heap := h', toks := tk } := by
  obtain ⟨nD, DL, Dg⟩ := N' (D, _) List.mem_cons_self
  have old : ∀ b o, b ≠ X.env.locals → s.heap.get? b = some o → h'.get? b = some o := fun b o hb e => by
    cases q : X.base.get? b with
    | some u =>
      have h1 := F.keep b u q
      have h2 := F'.keep b u q
      rw [e] at h1
      cases h1
      exact h2
    | none => exact (N' (b, o) (List.mem_cons_of_mem _ (mem_allNews hb q e))).1
  have fresh : s.heap.get? D = none := by
    cases q : s.heap.get? D with
    | none => rfl
    | some o => exact absurd (lt (D, o) (mem_allNews DL Dg q)) (Nat.lt_irrefl _)
  have hD : H D = none := I.hok.gone fresh
  have ne : ∀ b o, H b = some o → b ≠ D := fun b o e z => by subst z; rw [hD] at e; cases e
  have hok : HOk X.prog X.w (upd H D (.lst vs)) h' := fun b u e => by
    by_cases hb : b = D
    · subst hb
      rw [upd_same] at e
      cases e
      exact ⟨hl, its, 0, r, nD⟩
    · rw [upd_ne hb] at e
      refine (I.hok b u e).stay (fun c v hc q => old c v (fun z => ?_) q) (fun c q => by rw [upd_ne (ne c _ q)]; exact q) fun c xs q => by rw [upd_ne (ne c _ q)]; exact q
      subst z
      have n := I.free
      rcases hc with rfl | hc
      · rw [n] at e; cases e
      · rw [n] at hc; cases hc
  have there : ∀ b o, s.heap.get? b = some o → ∃ o', h'.get? b = some o' := fun b o e => by
    by_cases hb : b = X.env.locals
    · subst hb
      obtain ⟨o', _, _, e', _⟩ := F'.ns
      exact ⟨o', e'⟩
    · exact ⟨o, old b o hb e⟩
  refine ⟨hD, I.step (g' := s.gens) (d' := s.drawn) (ch := []) (fun _ z => absurd z (by simp)) (fun b o hb _ _ e _ => old b o hb e) (fun b o hb _ _ e _ => ⟨o.slots, old b o hb e⟩) (fun b o _ e n => ?_) (fun b o _ e => there b o e) (fun b xs e => ?_) (fun b o u e => ?_)
    (fun b ps e => ⟨#[], ?_⟩) (fun m' hm => ?_) hok I.bare⟩
  · have z : b ≠ D := fun z => by subst z; rw [fresh] at e; cases e
    rw [upd_ne z]; exact n
  · rw [upd_ne (ne b _ e)]; exact e
  · rw [upd_ne (ne b _ e)]; exact e
  · rw [upd_ne (ne b _ e), e]; simp
  · rw [ns_fun hm F.ns]; exact F'.ns
/-- the middle of a list or tuple goes to a new list -/
def gStar (K : PySem.W.Frag) (n i : Nat) (t : TGs) : TG := fun v σ H Q => ∃ a xs, v = .ref a ∧ (SqL K H a xs ∨ SqT K H a xs) ∧ i < n ∧ n ≤ xs.length + 1 ∧ xs.length ≤ 16000 ∧
  ∀ p, H p = none → t (xs.take i ++ [.ref p] ++ (xs.drop i).drop (xs.length + 1 - n)) σ (upd H p (.lst ((xs.drop i).take (xs.length + 1 - n)))) Q
theorem pg_star {es : List Expr} {k n i : Nat} {pos : Pos} {t : TGs} (hc : X.calm = true) (h : PGs X es t) (hn : (assignEach es X.env).length = n := by rfl) (hst : (assignEach es X.env).findIdx? (·.1) = some i := by rfl) : PG X (.Tuple es k pos) (gStar X.K n i t) := by
  constructor
  intro pins s σ H v u Q I r ⟨a, xs, e, hq, h1, h2, h3, q⟩
  subst e
  cases r
  obtain ⟨m, F⟩ := I.fr
  have mids : ∀ {its : List Value}, Vals xs its → Vals (xs.take i) (its.take i) ∧ Vals ((xs.drop i).take (xs.length + 1 - n)) ((its.drop i).take (xs.length + 1 - n)) ∧ Vals ((xs.drop i).drop (xs.length + 1 - n)) ((its.drop i).drop (xs.length + 1 - n)) := fun r => ⟨r.take i, (r.drop i).take _, (r.drop i).drop _⟩
  have fin : ∀ {its : List Value}, Vals xs its → ∀ (D : Addr) (h' : Heap) (tk : Nat), PyProof.Rows.Fr X.base X.env.locals h' m → PyProof.Rows.News X.base X.env.locals h' ((D, W.listOf ((its.drop i).take (xs.length + 1 - n)).toArray 0) :: allNews X.base s.heap X.env.locals) → (∀ p ∈ allNews X.base s.heap X.env.locals, p.1 < D) →
      wpAny (model X.prog X.w) X.A (assignInOrder ((assignEach es X.env).map (·.2)) (its.take i ++ [Value.ref D] ++ (its.drop i).drop (xs.length + 1 - n))) (fun _ s' => ∃ σ' H', Inv X pins σ' H' s' ∧ Q σ' H') X.xe { s with heap := h', toks := tk } := fun {its} rv D h' tk F' N' lt => by
    obtain ⟨m1, m2, m3⟩ := mids rv
    have hl : ((xs.drop i).take (xs.length + 1 - n)).length ≤ sizeLine := by
      rw [List.length_take, List.length_drop]; exact lenS (by unfold cap; omega)
    obtain ⟨hD, I'⟩ := inv_one (tk := tk) I F F' N' lt m2 hl
    exact h.run pins _ σ _ _ _ Q I' ((m1.append (.cons (show RelV (V.ref D) (Value.ref D) from rfl) .nil)).append m3) (q D hD)
  rcases hq with hq | hq
  · obtain ⟨its, rv, ⟨o, no, ho, hcl, _, hd⟩, hz⟩ := I.list hq
    have hs : its.toArray.size = xs.length := vals_size rv
    refine W.kun_assignL F news_all (items := its.toArray) ⟨o, ho, hcl, no, hd⟩ (I.ok.hd hc) hn hst h1 (by rw [hs]; exact h2) (by rw [hs]; omega) rfl rfl rfl fun D h' tk F' N' lt => ?_
    rw [hs] at N' ⊢
    exact fin rv D h' tk F' N' lt
  · obtain ⟨its, rv, ht, hz⟩ := I.tuple hq
    have hs : its.toArray.size = xs.length := vals_size rv
    refine W.kun_assignT F news_all (items := its.toArray) ht (I.ok.hd hc) hn hst h1 (by rw [hs]; exact h2) (by rw [hs]; omega) rfl rfl rfl fun D h' tk F' N' lt => ?_
    rw [hs] at N' ⊢
    exact fin rv D h' tk F' N' lt
end
section
variable {X : Cx} {C : Tab} {pos p2 : Pos}
theorem ggs_star {e : Expr} {es : List Expr} {g : MG} {gs : List MG} {vs ws : List Nat} (h1 : GG X C e g vs) (h2 : GGs X C es gs ws) (hs : (assignEach (.Starred e p2 :: es) X.env).map (·.2) = assign e X.env :: (assignEach es X.env).map (·.2) := by rfl) : GGs X C (.Starred e p2 :: es) (g :: gs) (vs ++ ws) := by
  constructor
  intro pins s σ H us zs Q I r ⟨q0, q, env, env', st, ds, eq, E, L, rd, gg, k⟩
  subst eq
  cases rd with
  | nil => cases gg
  | @cons d v ds us r1 r2 =>
    simp only [gAll] at gg
    cases g1 : g d env with
    | none => rw [g1] at gg; cases gg
    | some env1 =>
      rw [g1] at gg
      cases r with
      | cons ra rb =>
        rw [hs]
        refine assignInOrder_cons (thn (h1.run pins s σ q.H v _ (fun σ1 H1 => ∃ q1, q1.H = H1 ∧ Ext q q1 ∧ Rel X.K C st q1 ∧ RE X.K C q0 q1 env1 σ1 ∧ σ1.length = σ.length ∧ ∀ j, j ∉ vs → σ1[j]? = σ[j]?) I ra
          ⟨q0, q, env, env1, st, d, rfl, E, L, r1, g1, fun σ1 q1 x1 L1 E1 n1 w1 => ⟨q1, rfl, x1, L1, E1, n1, w1⟩⟩) ?_)
        rintro _ s1 ⟨σ1, H1, I1, q1, rfl, x1, L1, E1, n1, w1⟩
        refine h2.run pins s1 σ1 q1.H us _ Q I1 rb ⟨q0, q1, env1, env', st, ds, rfl, E1, L1, RDs.mono x1.kp _ r2, gg, fun σ2 q2 x2 L2 E2 n2 w2 => ?_⟩
        refine k σ2 q2 (x1.trans x2) L2 E2 (n2.trans n1) fun j hj => ?_
        rw [List.mem_append] at hj
        rw [w2 j fun z => hj (.inr z), w1 j fun z => hj (.inl z)]
theorem gAll_append : ∀ (gs : List MG) (hs : List MG) (ds es : List D) (env : MP.Env), gs.length = ds.length → gAll (gs ++ hs) (ds ++ es) env = (gAll gs ds env).bind fun e => gAll hs es e
  | [], hs, [], es, env, _ => rfl
  | g :: gs, hs, d :: ds, es, env, h => by
    simp only [List.cons_append, gAll]
    cases g d env with
    | none => rfl
    | some e => exact gAll_append gs hs ds es e (by simpa using h)
  | [], _, _ :: _, _, _, h => by simp at h
  | _ :: _, _, [], _, _, h => by simp at h
/-- a, *b, c = .. -/
theorem gg_star {es : List Expr} {kk : Nat} {gs hs : List MG} {j : Nat} {vs : List Nat} (hc : X.calm = true) (h : GGs X C es (gs ++ gNm j :: hs) vs) (hn : (assignEach es X.env).length = gs.length + hs.length + 1 := by rfl) (hst : (assignEach es X.env).findIdx? (·.1) = some gs.length := by rfl) :
    GG X C (.Tuple es kk pos) (gSt gs hs j) vs := PG.imp (pg_star hc h hn hst) fun v σ H Q ⟨q0, q, env, env', s, d, e, E, L, r, g, k⟩ => by
  subst e
  have main : ∀ (ds : List D) (a : Addr) (us : List V), v = .ref a → (SqL X.K q.H a us ∨ SqT X.K q.H a us) → RDs X.K q ds us → (if gs.length + hs.length ≤ ds.length ∧ ds.length ≤ 16000 then
      (gAll gs (ds.take gs.length) env).bind fun e1 => gAll hs ((ds.drop gs.length).drop (ds.length - gs.length - hs.length)) (e1.set j (.val (.lst ((ds.drop gs.length).take (ds.length - gs.length - hs.length))))) else none) = some env' →
      gStar X.K (gs.length + hs.length + 1) gs.length (tGs X.K C (gs ++ gNm j :: hs) vs) v σ q.H Q := by
    intro ds a us e1 hq rs g
    subst e1
    split at g
    · rename_i hh
      have hl := rs.length
      refine ⟨a, us, rfl, hq, by omega, by omega, by omega, fun p hp => ?_⟩
      have em : us.length + 1 - (gs.length + hs.length + 1) = ds.length - gs.length - hs.length := by omega
      rw [em]
      have L2 := L.new1 (o := .lst ((us.drop gs.length).take (ds.length - gs.length - hs.length))) hp
      have x2 := Ext.new1 (o := .lst ((us.drop gs.length).take (ds.length - gs.length - hs.length))) L.wf hp
      have r2 := RDs.mono x2.kp _ rs
      refine ⟨q0, _, env, env', s, ds.take gs.length ++ [D.lst ((ds.drop gs.length).take (ds.length - gs.length - hs.length))] ++ (ds.drop gs.length).drop (ds.length - gs.length - hs.length), rfl, E.ext x2, L2, ?_, ?_, fun σ' q' x' L' E' n' w' => k σ' q' (x2.trans x') L' E' n' w'⟩
      · exact ((r2.take _).append (.cons (.lst ⟨upd_same, L.wf.no hp⟩ ((r2.drop _).take _)) .nil)).append ((r2.drop _).drop _)
      · rw [List.append_assoc, gAll_append gs (gNm j :: hs) _ _ env (by rw [List.length_take]; omega), ← g]
        rfl
    · cases g
  cases r with
  | @tup a us ds f r => exact main ds a us rfl (.inr f.sq) r g
  | @lst a us ds f r => exact main ds a us rfl (.inl (SqL.of f.1)) r g
  | _ => cases g
end
end MP

/-! More words: signs of a text, enumerate, join, split, sums of lists, chains. Own text. -/
namespace MP
open PySem L2 TL
section
variable {X : Cx} {C : Tab} {W : Wx} {pos p p2 apos tpos : Pos} {tg e a b c o : Expr} {es elts : List Expr} {m ma mb mc mo : ME} {st : Stmt}
theorem gi_str (h : GE X C W e m) : GI X C W tg e (iStrI m) := PI.imp (pi_str h) fun σ H R ⟨q0, q, env, s, eq, E, L, p⟩ => by
  subst eq
  refine tM.first (f := fun x s1 => (match x with | .str cs => Res.ok (⟨cs.map fun c => .str [c], none⟩ : Src) s1 | _ => .stk : Res Src)) E L p (fun q1 x1 q2 a b w => w) fun x s1 vx q1 x1 E1 L1 y1 p1 => ?_
  cases y1 with
  | str cs =>
    refine ⟨_, rfl, p1 _ q1 (Ext.refl q1) L1 (itOk_still fun q2 i k => ⟨fun d h => ?_, fun h => ?_⟩)⟩
    · rw [List.getElem?_map] at h
      cases e : cs[i]? with
      | none => rw [e] at h; exact nomatch h
      | some c =>
        rw [e] at h
        cases h
        have hi : i < cs.length := (List.getElem?_eq_some_iff.mp e).1
        refine ⟨by simpa [Its] using hi, fun v H3 ⟨e1, c', e2, e3⟩ => ⟨e1, ?_⟩⟩
        have e2 : cs[i]? = some c' := by simpa using e2
        rw [e] at e2
        cases e2
        rw [e3]
        exact .str [c]
    · rw [List.length_map] at h
      show cs.toArray.size ≤ i
      simp [h]
  | _ => exact p1.elim
theorem mapIdx_get {ds : List D} {i : Nat} {d : D} (h : (ds.mapIdx fun i d => D.tup [.int i, d])[i]? = some d) : ∃ d0, ds[i]? = some d0 ∧ d = .tup [.int i, d0] := by
  rw [List.getElem?_mapIdx] at h
  cases e : ds[i]? with
  | none => rw [e] at h; exact nomatch h
  | some d0 => rw [e] at h; cases h; exact ⟨d0, rfl, rfl⟩
theorem gi_enum {kk : Nat} (hm : X.mg "enumerate" = none) (h : GE X C W e m) (hg : Gl X "enumerate" := by rfl) (h1 : starEach [e] X.env = (false, eval e X.env) :: starEach [] X.env := by rfl) (hs : starEach [e] X.env = [(false, eval e X.env)] := by rfl) :
    GI X C W (.Tuple elts kk tpos) (.Call (.Name "enumerate" p) [e] [] pos) (iEnum m) := PI.imp (pi_enum hg hm (pa_cons h pa_nil h1) hs) fun σ H R ⟨q0, q, env, s, eq, E, L, p⟩ => by
  subst eq
  refine tM.first (f := fun x s1 => (match x with | .lst ds => Res.ok (⟨ds.mapIdx fun i d => .tup [.int i, d], none⟩ : Src) s1 | _ => .stk : Res Src)) E L p (fun q1 x1 q2 a b w => w) fun x s1 vx q1 x1 E1 L1 y1 p1 => ?_
  cases y1 with
  | @lst a vs ds g r =>
    refine ⟨a, vs, rfl, SqL.of g.1, p1 _ q1 (Ext.refl q1) L1 fun q2 s2 i k R2 => ⟨fun d d' h1 h2 => ?_, fun hi _ => ?_⟩⟩
    · cases h2
      obtain ⟨d0, h3, rfl⟩ := mapIdx_get h1
      have g2 : SqL X.K q2.H a vs := SqL.of (g.mono k).1
      obtain ⟨v, h4, h5⟩ := RDs.get (RDs.mono k _ r) h3
      refine ⟨⟨vs, v, g2, h4⟩, fun u H3 ⟨T, x, e1, e2, e3, e4⟩ => ?_⟩
      have := e4 vs g2
      rw [h4] at this
      cases this
      subst e1 e3
      have x2 := Ext.new1 (o := .tup [.int (i : Nat), v]) R2.wf e2
      exact ⟨⟨upd q2.H T (.tup [.int (i : Nat), v]), q2.L, q2.r⟩, rfl, x2, R2.new1 e2, .tup (.inl ⟨upd_same, R2.wf.no e2⟩) (.cons (.int _) (.cons (RD.mono x2.kp _ h5) .nil))⟩
    · have hi : i = ds.length := by simpa using hi
      exact ⟨vs, SqL.of (g.mono k).1, by rw [r.length]; exact Nat.le_of_eq hi.symm⟩
  | _ => exact p1.elim
theorem ge_neg (h : GE X C W e m) : GE X C W (.UnaryOp .USub e pos) (eOp1 opNeg m) := PE.imp (pe_un un_neg h) fun σ H Q ⟨q0, q, env, s, eq, E, L, p⟩ => by
  subst eq
  refine tM.first (f := fun x s1 => .ofO (opNeg s1 x) s1) E L p rD_any fun x s1 vx q1 x1 E1 L1 y1 p1 => ?_
  cases y1 with
  | int i => exact ⟨i, rfl, p1 _ q1 (Ext.refl q1) L1 (.int _)⟩
  | _ => exact p1.elim
theorem chain_imp {K : PySem.W.Frag} {r r' : R2} {g h : Op2} (hs : SimOp K C r g) (hs' : SimOp K C r' h) (σ : St) (H : Hp) (Q : VK) (z : tM K C W (rD K) (eChain g h ma mb mc) σ H Q) : tChain r r' (tM K C W (rB K) ma) (tM K C W (rB K) mb) (tM K C W (rB K) mc) σ H Q := by
  obtain ⟨q0, q, env, s, eq, E, L, p⟩ := z
  subst eq
  refine tM.first (f := fun x s1 => (mb env s1).bind fun y s2 => (Res.ofO (g s2 x y) s2).bind fun z s3 => (asB z s3).bind fun k s4 => if k then (mc env s4).bind fun w s5 => .ofO (h s5 y w) s5 else .ok (.bl false) s4) E L p rD_any fun x s1 vx q1 x1 E1 L1 y1 p1 => ?_
  refine tM.first (f := fun y s2 => (Res.ofO (g s2 x y) s2).bind fun z s3 => (asB z s3).bind fun k s4 => if k then (mc env s4).bind fun w s5 => .ofO (h s5 y w) s5 else .ok (.bl false) s4) E1 L1 p1 rD_any fun y s2 vy q2 x2 E2 L2 y2 p2 => ?_
  cases e : g s2 x y with
  | none => rw [e] at p2; exact p2.elim
  | some z =>
    rw [e] at p2
    refine hs q2 s2 x y vx vy z _ L2 (y1.ext x2) y2 e fun v q3 x3 r3 d3 => ?_
    cases d3 with
    | bl k =>
      refine ⟨k, rfl, ?_⟩
      simp only [Res.ofO_some, Res.bind_ok, asB_bl] at p2
      cases k with
      | false => exact iteF (p2 (.bl false) q3 x3 r3 (.bl false))
      | true =>
        refine iteT ?_
        simp only [if_true] at p2
        refine tM.first (f := fun w s5 => .ofO (h s5 y w) s5) (E2.ext x3) r3 (Post.later x3 p2 fun _ _ _ _ w => w) rD_any fun w s5 vw q4 x4 E4 L4 y4 p4 => ?_
        cases e4 : h s5 y w with
        | none => rw [e4] at p4; exact p4.elim
        | some z => rw [e4] at p4; exact hs' q4 s5 y w vy vw z _ L4 (y2.ext (x3.trans x4)) y4 e4 fun v q5 x5 r5 d5 => p4 v q5 x5 r5 d5
    | _ => exact p2.elim
theorem ge_chain {op op' : CmpOp} {r r' : R2} {g h : Op2} (ho : OpR X (compareOp op) r) (hs : SimOp X.K C r g) (ho' : OpR X (compareOp op') r') (hs' : SimOp X.K C r' h) (ha : GB X C W a ma) (hb : GB X C W b mb) (hc : GB X C W c mc)
    (hm : lastMarks [op, op'] [b, c] = false := by with_unfolding_all rfl) : GE X C W (.Compare a [op, op'] [b, c] pos) (eChain g h ma mb mc) := PE.imp (pe_chain ho ho' ha hb hc hm) (chain_imp hs hs')
theorem gt_chain {op op' : CmpOp} {r r' : R2} {g h : Op2} (ho : OpR X (compareOp op) r) (hs : SimOp X.K C r g) (ho' : OpR X (compareOp op') r') (hs' : SimOp X.K C r' h) (ha : GB X C W a ma) (hb : GB X C W b mb) (hc : GB X C W c mc)
    (hm : lastMarks [op, op'] [b, c] = false := by with_unfolding_all rfl) : GT X C W (.Compare a [op, op'] [b, c] pos) (tVal (eChain g h ma mb mc)) := PT.imp (pt_chain ho ho' ha hb hc hm) (test_imp (chain_imp hs hs'))

/-! ### texts -/
theorem cutC_spl (c : Nat) : ∀ (l acc : List Nat), spl [c] 0 acc l = (match cutC c l with | [] => [acc] | y :: ys => (acc ++ y) :: ys)
  | [], acc => by rw [spl_nil]; simp [cutC]
  | x :: r, acc => by
    by_cases h : x = c
    · subst h
      rw [spl_hit (by simp [pre])]
      simp only [cutC, List.length_cons, List.length_nil, Nat.zero_add, Nat.sub_self, if_true]
      rw [cutC_spl x r []]
      cases e : cutC x r with
      | nil => cases r <;> simp [cutC] at e; split at e <;> first | (cases e) | (split at e <;> cases e)
      | cons y ys => simp
    · rw [spl_miss (by simp [pre]; intro z; exact h z)]
      rw [cutC_spl c r (acc ++ [x])]
      simp only [cutC, if_neg h]
      cases e : cutC c r with
      | nil => simp
      | cons y ys => simp
theorem cutC_ne (c : Nat) (l : List Nat) : cutC c l ≠ [] := by
  cases l with
  | nil => simp [cutC]
  | cons x r =>
    simp only [cutC]
    split
    · simp
    · split <;> simp
theorem split_cutC (u : List Nat) (c : Nat) (hc : c < 256) : (Txt.split ⟨u.toArray⟩ ⟨#[c]⟩) = (cutC c u).map fun l => (⟨l.toArray⟩ : Str) := by
  have h := split_spl ⟨u.toArray⟩ ⟨#[c]⟩ (by simp) (kind_ok (by simp [hc]))
  have e : spl (tl ⟨#[c]⟩) 0 [] (tl ⟨u.toArray⟩) = cutC c u := by
    show spl [c] 0 [] u = _
    rw [cutC_spl]
    cases e : cutC c u with
    | nil => exact absurd e (cutC_ne c u)
    | cons y ys => simp
  rw [e] at h
  rw [← h, List.map_map]
  have : (fun l => (⟨l.toArray⟩ : Str)) ∘ tl = id := funext fun x => mk_tl x
  rw [this, List.map_id]
theorem RDs.strs {K : PySem.W.Frag} {q : Stt} : ∀ (ls : List (List Nat)), RDs K q (ls.map D.str) ((ls.map fun l => (⟨l.toArray⟩ : Str)).map V.str)
  | [] => .nil
  | l :: ls => .cons (.str l) (RDs.strs ls)
theorem cutC_len (c : Nat) : ∀ l : List Nat, (cutC c l).length ≤ l.length + 1
  | [] => by simp [cutC]
  | x :: r => by
    have ih := cutC_len c r
    simp only [cutC]
    split
    · simp; omega
    · cases e : cutC c r with
      | nil => simp
      | cons y ys => rw [e] at ih; simp at ih ⊢; omega
theorem gl_split (ho : GE X C W o mo) (he : GE X C W e m) (hs : starEach [e] X.env = [(false, eval e X.env)] := by rfl) (hbase : attributeBase o "split" X.env (eval o X.env) = eval o X.env := by rfl) (hline : (apos.endLine == pos.line) = true := by rfl) :
    GL X C W (.Call (.Attribute o "split" apos) [e] [] pos) (lSplit mo m) := PE.imp (pe_split ho he hs hbase hline) fun σ H Q ⟨q0, q, env, s, eq, E, L, p⟩ => by
  subst eq
  refine tM.first0 (f := fun x s1 => match x with | .str u => (m env s1).bind fun y s2 => cutAt u y s2 | _ => .stk) E L p fun x s1 vx q1 x1 L1 y1 p1 => ?_
  cases y1 with
  | str u =>
    refine ⟨⟨_, rfl⟩, q0, q1, env, s1, rfl, E.ext x1, L1, ?_⟩
    simp only at p1
    cases e1 : m env s1 with
    | stk => rw [e1] at p1; exact p1.elim
    | exc z t => rw [e1] at p1; exact fun c d q' w r => p1 c d q' (x1.trans w) r
    | ok y s2 =>
      rw [e1] at p1
      intro vy q2 x2 L2 y2
      simp only [Res.bind_ok] at p1
      unfold cutAt at p1
      split at p1
      · rename_i c
        split at p1
        · rename_i hl
          cases y2
          refine ⟨_, _, rfl, rfl, by simp [Str.length], ?_, fun l hl' => ?_⟩
          · have : cap + 2 ≤ sizeLine := by rw [sizeLine_eq]; decide
            simp only [Str.length, List.size_toArray]; omega
          · rw [split_cutC u c hl.2]
            exact p1 _ _ ((x1.trans x2).trans (Ext.newL L2.wf hl')) (L2.newL hl') (RN.newL L.wf (x1.trans x2) L2 hl' (RDs.strs _))
        · exact p1.elim
      · exact p1.elim
  | _ => exact p1.elim
theorem joinC_L (S : List Nat) : ∀ ls : List (List Nat), joinL S ls = joinC S ls
  | [] => rfl
  | [_] => rfl
  | x :: y :: r => by
    show x ++ (S ++ joinL S (y :: r)) = x ++ S ++ joinC S (y :: r)
    rw [joinC_L S (y :: r), List.append_assoc]
theorem strsOf_vals {K : PySem.W.Frag} {q : Stt} : ∀ {ds : List D} {vs : List V} {ls : List (List Nat)}, RDs K q ds vs → strsOf ds = some ls → vs = (ls.map fun l => (⟨l.toArray⟩ : Str)).map V.str
  | [], _, _, h, e => by cases h; cases e; rfl
  | d :: ds, _, ls, h, e => by
    cases h with
    | cons a b =>
      cases a with
      | str x =>
        simp only [strsOf] at e
        cases e2 : strsOf ds with
        | none => rw [e2] at e; cases e
        | some xs =>
          rw [e2] at e
          cases e
          rw [strsOf_vals b e2]
          rfl
      | _ => cases e
theorem join_of (sep : List Nat) (ls : List (List Nat)) : Txt.join ⟨sep.toArray⟩ (ls.map fun l => (⟨l.toArray⟩ : Str)) = ⟨(joinC sep ls).toArray⟩ := by
  rw [join_eq]
  have h := tl_join ⟨sep.toArray⟩ (ls.map fun l => (⟨l.toArray⟩ : Str))
  rw [List.map_map] at h
  have e : tl ∘ (fun l => (⟨l.toArray⟩ : Str)) = (id : List Nat → List Nat) := funext fun l => rfl
  rw [e, List.map_id] at h
  rw [show tl (⟨sep.toArray⟩ : Str) = sep from rfl, joinC_L] at h
  rw [← h, mk_tl]
theorem ge_join (ho : GE X C W o mo) (he : GB X C W e m) (hs : starEach [e] X.env = [(false, eval e X.env)] := by rfl) (hbase : attributeBase o "join" X.env (eval o X.env) = eval o X.env := by rfl) (hline : (apos.endLine == pos.line) = true := by rfl) :
    GE X C W (.Call (.Attribute o "join" apos) [e] [] pos) (eJoin mo m) := PE.imp (pe_join ho he hs hbase hline) fun σ H Q ⟨q0, q, env, s, eq, E, L, p⟩ => by
  subst eq
  refine tM.first (f := fun x s1 => match x with | .str u => (m env s1).bind fun y s2 => joinAt u y s2 | _ => .stk) E L p rD_any fun x s1 vx q1 x1 E1 L1 y1 p1 => ?_
  cases y1 with
  | str u =>
    refine ⟨⟨_, rfl⟩, tM.first (f := fun y s2 => joinAt u y s2) E1 L1 p1 rD_any fun y s2 vy q2 x2 E2 L2 y2 p2 => ?_⟩
    unfold joinAt at p2
    split at p2
    · rename_i ds hs
      split at p2
      · rename_i xs hx
        split at p2
        · rename_i hl
          obtain ⟨a, vs, rfl, h1, r⟩ := y2.seq L2 hs
          have ev := strsOf_vals r hx
          subst ev
          refine ⟨_, a, xs.map fun l => (⟨l.toArray⟩ : Str), rfl, rfl, sqOr h1, ?_, ?_⟩
          · have e1 : ((xs.map fun l => (⟨l.toArray⟩ : Str)).map (·.length)) = xs.map List.length := by
              rw [List.map_map]
              exact List.map_congr_left fun l _ => by simp [Str.length]
            rw [e1, List.length_map]
            have e2 : xs.length * (⟨u.toArray⟩ : Str).length ≤ 10000 * 10 := Nat.mul_le_mul hl.2.1 (by simpa [Str.length] using hl.1)
            have := hl.2.2
            unfold cap at this
            omega
          · rw [join_of]
            exact p2 _ q2 (Ext.refl q2) L2 (.str _)
        · exact p2.elim
      · exact p2.elim
    · exact p2.elim
  | _ => exact p1.elim

/-! ### sums of lists, ranges -/
theorem gl_add (ha : GB X C W a ma) (hb : GB X C W b mb) : GL X C W (.BinOp a .Add b pos) (lAdd ma mb) := PE.imp (pe_op op_cat ha hb) fun σ H Q ⟨q0, q, env, s, eq, E, L, p⟩ => by
  subst eq
  refine tM.first0 (f := fun x s1 => (mb env s1).bind fun y s2 => match MP.view s2 x, MP.view s2 y with | .lst xs, .lst ys => if xs.length + ys.length ≤ cap then .ok (xs ++ ys) s2 else .stk | _, _ => .stk) E L p fun x s1 vx q1 x1 L1 y1 p1 => ?_
  refine ⟨q0, q1, env, s1, rfl, E.ext x1, L1, ?_⟩
  cases e1 : mb env s1 with
  | stk => rw [e1] at p1; exact p1.elim
  | exc z t => rw [e1] at p1; exact fun c d q' w r => p1 c d q' (x1.trans w) r
  | ok y s2 =>
    rw [e1] at p1
    intro vy q2 x2 L2 y2
    simp only [Res.bind_ok] at p1
    rcases (y1.ext x2).view L2 with ⟨ds, u, vs, ev, rfl, g, r⟩ | ⟨ev, r, nl⟩
    · rcases y2.view L2 with ⟨ds', u', vs', ev', rfl, g', r'⟩ | ⟨ev', r', nl'⟩
      · rw [ev, ev'] at p1
        simp only at p1
        by_cases hl : ds.length + ds'.length ≤ cap
        · rw [if_pos hl] at p1
          refine ⟨u, u', vs, vs', rfl, rfl, g, g', by rw [r.length, r'.length]; exact lenS hl, fun l hl' => ?_⟩
          exact p1 _ _ ((x1.trans x2).trans (Ext.newL L2.wf hl')) (L2.newL hl') (RN.newL L.wf (x1.trans x2) L2 hl' (r.append r'))
        · rw [if_neg hl] at p1; exact p1.elim
      · rw [ev, ev'] at p1
        cases y with
        | lst ds => exact absurd rfl (nl' ds)
        | _ => exact p1.elim
    · rw [ev] at p1
      cases x with
      | lst ds => exact absurd rfl (nl ds)
      | _ => exact p1.elim
theorem rgV_D {K : PySem.W.Frag} {q : Stt} (n : Int) (h : 0 ≤ n) : RDs K q (intsD 0 n.toNat) (rgV 0 n) := by
  unfold intsD rgV
  rw [Int.sub_zero]
  generalize List.range n.toNat = l
  induction l with
  | nil => exact .nil
  | cons a l ih => exact .cons (.int _) ih
theorem ge_tupRg (hc : X.calm = true) (hm : X.mg "tuple" = none) (hr : X.mg "range" = none) (ha : GE X C W a ma) (hg : Gl X "tuple" := by rfl) (hgr : Gl X "range" := by rfl) (na : starEach [a] X.env = (false, eval a X.env) :: starEach [] X.env := by rfl)
    (nb : starEach [.Call (.Name "range" p2) [a] [] apos] X.env = (false, eval (.Call (.Name "range" p2) [a] [] apos) X.env) :: starEach [] X.env := by rfl) :
    GE X C W (.Call (.Name "tuple" p) [.Call (.Name "range" p2) [a] [] apos] [] pos) (eTupRg ma) := PE.imp (pe_tupRg hc hg hm (prg_1 hgr hr ha na) nb) fun σ H Q ⟨q0, q, env, s, eq, E, L, p⟩ => by
  subst eq
  refine tM.first (f := fun x s1 => match x with | .int j => if 0 ≤ j ∧ j ≤ cap then .ok (.tup (intsD 0 j.toNat)) s1 else .stk | _ => .stk) E L p rD_any fun x s1 vx q1 x1 E1 L1 y1 p1 => ?_
  cases y1 with
  | int j =>
    simp only at p1
    by_cases hj : 0 ≤ j ∧ j ≤ cap
    · rw [if_pos hj] at p1
      have hc : (cap : Int) = 1000000 := rfl
      refine ⟨j, rfl, RgOk.of_le (Int.le_refl 0) (by omega) (by omega) hj.1, fun u hu => ?_⟩
      have x2 := Ext.new1 (o := .tup (rgV 0 j)) L1.wf hu
      exact p1 _ _ x2 (L1.new1 hu) (.tup (.inl ⟨upd_same, L1.wf.no hu⟩) (rgV_D j hj.1))
    · rw [if_neg hj] at p1; exact p1.elim
  | _ => exact p1.elim

/-! ### never; two names at once -/
theorem gs_never : GS X C W st sNever := ⟨fun pins s σ H D I ⟨q0, q, env, t, eq, X0, E, L, p⟩ => p.elim⟩
theorem gss_never {sts : List Stmt} : GSs X C W sts sNever := ⟨fun pins s σ H D I ⟨q0, q, env, t, eq, X0, E, L, p⟩ => p.elim⟩
theorem gs_par (i j : Nat) {x y : Str} {ml : MA} {px py pt pt2 : Pos} {kt k2} (hc : X.calm = true) (hN : X.N.Nodup) (ha : GA X C W [a, b] ml) (hi : X.N[i]? = some x := by rfl) (hj : X.N[j]? = some y := by rfl) (hij : i ≠ j := by decide)
    (hx : X.env.scope.names.lookup x = some .local := by rfl) (hy : X.env.scope.names.lookup y = some .local := by rfl)
    (hw : swappedStores [.Tuple [.Name x px, .Name y py] kt pt] (.Tuple [a, b] k2 pt2) X.env = pure (some [x, y]) := by rfl) (hs : swapsWithSole [.Tuple [.Name x px, .Name y py] kt pt] (.Tuple [a, b] k2 pt2) pos.line X.env = pure false := by rfl) :
    GS X C W (.Assign [.Tuple [.Name x px, .Name y py] kt pt] (.Tuple [a, b] k2 pt2) pos) (sPar i j ml) := PS.imp (ps_par hc hN hi hj hij hx hy ha hw hs) fun D σ H ⟨q0, q, env, s, eq, X0, E, L, p⟩ => by
  subst eq
  refine tS.first X0 E L p fun ds s1 vs q1 x1 X1 E1 L1 y1 p1 => ?_
  cases y1 with
  | nil => exact p1.elim
  | cons r1 rr =>
    cases rr with
    | nil => exact p1.elim
    | cons r2 rr =>
      cases rr with
      | nil => exact ⟨_, _, rfl, p1 _ q1 X1 (Kp.refl q1) L1 ((E1.set i r1).set j r2)⟩
      | cons r3 rr => exact p1.elim
end
end MP

/-! Written values of the module, written dicts, dicts of one's own, instances made with keywords. Own text. -/
namespace MP
open PySem L2 TL

/-! ### a written value is a tree -/
def all2 (f : Value → D → Bool) : List Value → List D → Bool
  | [], [] => true
  | u :: us, d :: ds => f u d && all2 f us ds
  | _, _ => false
def KFlat : Value → D → Bool
  | .none, .non => true
  | .bool a, .bl b => a == b
  | .int i _, .int j => i == j
  | .str x _, .str cs => decide (x.cps.toList = cs)
  | _, _ => false
def KVal (K : PySem.W.Frag) : Nat → Value → D → Bool
  | 0, u, d => KFlat u d
  | n + 1, u, d => match u, d with
    | .ref a, .tup ds => (match K.lookup a with
      | some o => decide (o.cls = .type "tuple") && (match o.data with | .seq its _ => decide (its.size ≤ 1000) && all2 (KVal K n) its.toList ds | _ => false)
      | none => false)
    | u, d => KFlat u d
theorem kflat {K : PySem.W.Frag} {u : Value} {d : D} (h : KFlat u d = true) : ∃ v, RelV v u ∧ ∀ q : Stt, RD K q d v := by
  unfold KFlat at h
  split at h
  · exact ⟨.non, rfl, fun _ => .non⟩
  · rename_i a b
    have : a = b := by simpa using h
    subst this
    exact ⟨.bl a, rfl, fun _ => .bl a⟩
  · rename_i i t j
    have : i = j := by simpa using h
    subst this
    exact ⟨.int i, ⟨t, rfl⟩, fun _ => .int i⟩
  · rename_i x t cs
    have : x.cps.toList = cs := by simpa using h
    subst this
    refine ⟨.str ⟨x.cps.toList.toArray⟩, ⟨t, ?_⟩, fun _ => .str _⟩
    obtain ⟨l⟩ := x
    rfl
  · cases h
theorem kall {K : PySem.W.Frag} {f : Value → D → Bool} (hf : ∀ u d, f u d = true → ∃ v, RelV v u ∧ ∀ q : Stt, RD K q d v) : ∀ (us : List Value) (ds : List D), all2 f us ds = true → ∃ vs, Vals vs us ∧ ∀ q : Stt, RDs K q ds vs
  | [], [], _ => ⟨[], .nil, fun _ => .nil⟩
  | u :: us, d :: ds, h => by
    unfold all2 at h
    rw [Bool.and_eq_true] at h
    obtain ⟨v, h1, h2⟩ := hf u d h.1
    obtain ⟨vs, h3, h4⟩ := kall hf us ds h.2
    exact ⟨v :: vs, .cons h1 h3, fun q => .cons (h2 q) (h4 q)⟩
  | [], _ :: _, h => by cases h
  | _ :: _, [], h => by cases h
theorem kval {K : PySem.W.Frag} : ∀ (n : Nat) (u : Value) (d : D), KVal K n u d = true → ∃ v, RelV v u ∧ ∀ q : Stt, RD K q d v
  | 0, u, d, h => kflat h
  | n + 1, u, d, h => by
    unfold KVal at h
    split at h
    · rename_i a ds
      split at h
      · rename_i o ho
        rw [Bool.and_eq_true] at h
        obtain ⟨h1, h2⟩ := h
        split at h2
        · rename_i its c hd
          rw [Bool.and_eq_true] at h2
          obtain ⟨vs, h3, h4⟩ := kall (kval n) _ _ h2.2
          refine ⟨.ref a, rfl, fun q => .tup (.inr (.inr ⟨o, its, c, ho, by simpa using h1, hd, ?_, h3⟩)) (h4 q)⟩
          have := of_decide_eq_true h2.1
          exact lenS (by unfold cap; omega)
        · cases h2
      · cases h
    · exact kflat h
def KEnts (K : PySem.W.Frag) (n : Nat) : List DictEntry → List (List Nat × D) → Bool
  | [], [] => true
  | e :: es, (cs, d) :: tab => (match e.key with | .str x _ => decide (x.cps.toList = cs) | _ => false) && (KVal K n e.val d && KEnts K n es tab)
  | _, _ => false
/-- at d a written dict with text keys -/
def KDic (K : PySem.W.Frag) (w : World) (d : Addr) (tab : List (List Nat × D)) : Prop := ∃ es n, K.lookup d = some ⟨.type "dict", none, .dict es n, #[]⟩ ∧ PySem.W.KeysLit w.params es.toList ∧ (d == sysModules) = false ∧ KEnts K 6 es.toList tab = true
theorem kents {K : PySem.W.Frag} (n : Nat) (cs : List Nat) : ∀ (es : List DictEntry) (tab : List (List Nat × D)), KEnts K n es tab = true →
    es.any (·.refKey) = false ∧ ((tab.lookup cs = none ∧ es.find? (·.key.isStr ⟨cs.toArray⟩) = none) ∨ ∃ d e v, tab.lookup cs = some d ∧ es.find? (·.key.isStr ⟨cs.toArray⟩) = some e ∧ RelV v e.val ∧ ∀ q : Stt, RD K q d v)
  | [], [], _ => ⟨rfl, .inl ⟨rfl, rfl⟩⟩
  | e :: es, (c, d) :: tab, h => by
    unfold KEnts at h
    rw [Bool.and_eq_true, Bool.and_eq_true] at h
    obtain ⟨h1, h2, h3⟩ := h
    obtain ⟨r, ih⟩ := kents n cs es tab h3
    obtain ⟨hash, key, val⟩ := e
    cases key with
    | str x t =>
      have hx : x.cps.toList = c := by simpa using h1
      refine ⟨by rw [List.any_cons, r]; rfl, ?_⟩
      have ek : (Value.str x t).isStr ⟨cs.toArray⟩ = decide (cs = c) := by
        rw [← hx]
        obtain ⟨⟨l⟩⟩ := x
        show ((⟨⟨l⟩⟩ : Str) == ⟨cs.toArray⟩) = decide (cs = l)
        by_cases e : cs = l
        · subst e; simp
        · have : ¬ ((⟨⟨l⟩⟩ : Str) = ⟨cs.toArray⟩) := fun z => e (by injection z with z; exact (Array.mk.inj z).symm)
          simp [e, this]
      by_cases e : cs = c
      · obtain ⟨v, h4, h5⟩ := kval n val d h2
        refine .inr ⟨d, ⟨hash, .str x t, val⟩, v, ?_, ?_, h4, h5⟩
        · rw [List.lookup_cons, e]; simp
        · rw [List.find?_cons]
          simp only [ek, e, decide_true]
          rw [e] at ek
          rw [ek]
          simp
      · have e1 : (cs == c) = false := by simpa using e
        rw [List.lookup_cons, e1, List.find?_cons]
        simp only [ek, e, decide_false]
        exact ih
    | _ => cases h1
  | [], _ :: _, h => by cases h
  | _ :: _, [], h => by cases h
theorem kdic {K : PySem.W.Frag} {w : World} {d : Addr} {tab : List (List Nat × D)} (D : KDic K w d tab) (cs : List Nat) :
    (tab.lookup cs = none ∧ PySem.W.nsIn K d ⟨cs.toArray⟩ = some none) ∨ ∃ dd u v, tab.lookup cs = some dd ∧ PySem.W.nsIn K d ⟨cs.toArray⟩ = some (some u) ∧ RelV v u ∧ ∀ q : Stt, RD K q dd v := by
  obtain ⟨es, n, h1, h2, h3, h4⟩ := D
  obtain ⟨r, h⟩ := kents 6 cs es.toList tab h4
  unfold PySem.W.nsIn
  rw [h1]
  dsimp only
  rcases h with ⟨a, b⟩ | ⟨dd, e, v, a, b, c, f⟩
  · rw [b]
    exact .inl ⟨a, by simp [r]⟩
  · rw [b]
    exact .inr ⟨dd, e.val, v, a, rfl, c, f⟩
section
variable {X : Cx} {C : Tab} {W : Wx} {pos p p2 apos tpos cpos : Pos} {tg e a b c o f : Expr} {es elts : List Expr} {m ma mb mc mo mf : ME} {st : Stmt} {x : Str} {d : Addr} {tab : List (List Nat × D)}
theorem ge_kglob {u : Value} (n : Nat) (dd : D) (hm : X.mg x = some u) (k : KVal X.K n u dd = true) (hg : Gl X x := by rfl) (hd : (x == ("__debug__" : Str)) = false := by decide) : GE X C W (.Name x pos) (eC dd) := by
  obtain ⟨v, h1, h2⟩ := kval n u dd k
  exact ge_glob dd hg hm h1 h2 hd
theorem kd_of (D : KDic X.K X.w d tab) : ∃ es n, KDict X.K X.w d es n := by
  obtain ⟨es, n, h1, h2, h3, h4⟩ := D
  exact ⟨es, n, h1, h2, h3⟩
theorem ge_kix (hm : X.mg x = some (.ref d)) (D : KDic X.K X.w d tab) (hb : GE X C W b mb) (hp : PlainIx b := by exact fun _ _ => rfl) (hg : Gl X x := by rfl) (hd : (x == ("__debug__" : Str)) = false := by decide) : GE X C W (.Subscript (.Name x p) b pos) (eOp1 (kGet tab) mb) :=
  PE.imp (pe_ix ix_kdict (pe_glob (v := .ref d) hg hm rfl hd) hb hp) fun σ H Q ⟨q0, q, env, s, eq, E, L, p⟩ => by
    subst eq
    refine tM.first (f := fun x s1 => .ofO (kGet tab s1 x) s1) E L p rD_any fun x s1 vx q1 x1 E1 L1 y1 p1 => ?_
    cases y1 with
    | str cs =>
      unfold kGet at p1; dsimp only at p1
      obtain ⟨es, n, h1, h2, h3, h4⟩ := id D
      rcases kdic D cs with ⟨k1, k2⟩ | ⟨dd, u, v, k1, k2, k3, k4⟩
      · rw [k1] at p1; exact p1.elim
      · rw [k1] at p1
        exact ⟨d, _, v, rfl, rfl, ⟨es, n, u, h1, h2, k2, k3⟩, p1 v q1 (Ext.refl q1) L1 (k4 q1)⟩
    | _ => exact p1.elim
theorem ge_kin (hm : X.mg x = some (.ref d)) (D : KDic X.K X.w d tab) (ha : GE X C W a ma) (hk : behindInMarks .In (.Name x p) = false := by with_unfolding_all rfl) (hg : Gl X x := by rfl) (hd : (x == ("__debug__" : Str)) = false := by decide) : GE X C W (.Compare a [.In] [.Name x p] pos) (eOp1 (kIn tab) ma) := by
  obtain ⟨es, n, D'⟩ := kd_of D
  refine PE.imp (pe_cmpR (op_in_kd D') ha (pe_glob (v := .ref d) hg hm rfl hd) hk) fun σ H Q ⟨q0, q, env, s, eq, E, L, p⟩ => ?_
  subst eq
  refine tM.first (f := fun x s1 => .ofO (kIn tab s1 x) s1) E L p rD_any fun x s1 vx q1 x1 E1 L1 y1 p1 => ?_
  cases y1 with
  | str cs =>
    unfold kIn at p1; dsimp only at p1
    rcases kdic D cs with ⟨k1, k2⟩ | ⟨dd, u, v, k1, k2, k3, k4⟩
    · rw [k1] at p1; exact ⟨_, _, rfl, rfl, k2, p1 _ q1 (Ext.refl q1) L1 (.bl _)⟩
    · rw [k1] at p1; exact ⟨_, _, rfl, rfl, k2, p1 _ q1 (Ext.refl q1) L1 (.bl _)⟩
  | _ => exact p1.elim
theorem ge_knotin (hm : X.mg x = some (.ref d)) (D : KDic X.K X.w d tab) (ha : GE X C W a ma) (hk : behindInMarks .NotIn (.Name x p) = false := by with_unfolding_all rfl) (hg : Gl X x := by rfl) (hd : (x == ("__debug__" : Str)) = false := by decide) : GE X C W (.Compare a [.NotIn] [.Name x p] pos) (eOp1 (kNotIn tab) ma) := by
  obtain ⟨es, n, D'⟩ := kd_of D
  refine PE.imp (pe_cmpR (op_notIn_kd D') ha (pe_glob (v := .ref d) hg hm rfl hd) hk) fun σ H Q ⟨q0, q, env, s, eq, E, L, p⟩ => ?_
  subst eq
  refine tM.first (f := fun x s1 => .ofO (kNotIn tab s1 x) s1) E L p rD_any fun x s1 vx q1 x1 E1 L1 y1 p1 => ?_
  cases y1 with
  | str cs =>
    unfold kNotIn at p1; dsimp only at p1
    rcases kdic D cs with ⟨k1, k2⟩ | ⟨dd, u, v, k1, k2, k3, k4⟩
    · rw [k1] at p1; exact ⟨_, _, rfl, rfl, k2, p1 _ q1 (Ext.refl q1) L1 (.bl _)⟩
    · rw [k1] at p1; exact ⟨_, _, rfl, rfl, k2, p1 _ q1 (Ext.refl q1) L1 (.bl _)⟩
  | _ => exact p1.elim
theorem gt_kin (hm : X.mg x = some (.ref d)) (D : KDic X.K X.w d tab) (ha : GE X C W a ma) (hk : behindInMarks .In (.Name x p) = false := by with_unfolding_all rfl) (hg : Gl X x := by rfl) (hd : (x == ("__debug__" : Str)) = false := by decide) : GT X C W (.Compare a [.In] [.Name x p] pos) (tVal (eOp1 (kIn tab) ma)) := by
  obtain ⟨es, n, D'⟩ := kd_of D
  refine PT.imp (pt_cmpR (op_in_kd D') ha (pe_glob (v := .ref d) hg hm rfl hd) hk) (test_imp fun σ H Q ⟨q0, q, env, s, eq, E, L, p⟩ => ?_)
  subst eq
  refine tM.first (f := fun x s1 => .ofO (kIn tab s1 x) s1) E L p rD_any fun x s1 vx q1 x1 E1 L1 y1 p1 => ?_
  cases y1 with
  | str cs =>
    unfold kIn at p1; dsimp only at p1
    rcases kdic D cs with ⟨k1, k2⟩ | ⟨dd, u, v, k1, k2, k3, k4⟩
    · rw [k1] at p1; exact ⟨_, _, rfl, rfl, k2, p1 _ q1 (Ext.refl q1) L1 (.bl _)⟩
    · rw [k1] at p1; exact ⟨_, _, rfl, rfl, k2, p1 _ q1 (Ext.refl q1) L1 (.bl _)⟩
  | _ => exact p1.elim
theorem gt_knotin (hm : X.mg x = some (.ref d)) (D : KDic X.K X.w d tab) (ha : GE X C W a ma) (hk : behindInMarks .NotIn (.Name x p) = false := by with_unfolding_all rfl) (hg : Gl X x := by rfl) (hd : (x == ("__debug__" : Str)) = false := by decide) : GT X C W (.Compare a [.NotIn] [.Name x p] pos) (tVal (eOp1 (kNotIn tab) ma)) := by
  obtain ⟨es, n, D'⟩ := kd_of D
  refine PT.imp (pt_cmpR (op_notIn_kd D') ha (pe_glob (v := .ref d) hg hm rfl hd) hk) (test_imp fun σ H Q ⟨q0, q, env, s, eq, E, L, p⟩ => ?_)
  subst eq
  refine tM.first (f := fun x s1 => .ofO (kNotIn tab s1 x) s1) E L p rD_any fun x s1 vx q1 x1 E1 L1 y1 p1 => ?_
  cases y1 with
  | str cs =>
    unfold kNotIn at p1; dsimp only at p1
    rcases kdic D cs with ⟨k1, k2⟩ | ⟨dd, u, v, k1, k2, k3, k4⟩
    · rw [k1] at p1; exact ⟨_, _, rfl, rfl, k2, p1 _ q1 (Ext.refl q1) L1 (.bl _)⟩
    · rw [k1] at p1; exact ⟨_, _, rfl, rfl, k2, p1 _ q1 (Ext.refl q1) L1 (.bl _)⟩
  | _ => exact p1.elim
/-- D.get(k, e), D a written dict -/
theorem ge_kget2 (hm : X.mg x = some (.ref d)) (D : KDic X.K X.w d tab) (ha : GE X C W a ma) (hf : GE X C W f mf) (hg : Gl X x := by rfl) (hdb : (x == ("__debug__" : Str)) = false := by decide)
    (hM : M2 X (.Name x p) "get" apos a f cpos := by exact ⟨rfl, rfl, rfl, rfl⟩) : GE X C W (.Call (.Attribute (.Name x p) "get" apos) [a, f] [] cpos) (eOp2 (kGetD tab) ma mf) := by
  refine PE.imp (t := fun σ H Q => tM X.K C W (rD X.K) ma σ H fun y H1 => tM X.K C W (rD X.K) mf σ H1 fun z H2 => ∃ (cs : Str) (r : Option Value) (v : V), y = .str cs ∧ PySem.W.nsIn X.K d cs = some r ∧ (∀ u, RelV z u → RelV v (r.getD u)) ∧ Q v H2) ⟨fun pins s σ H Q I h => ?_⟩ fun σ H Q ⟨q0, q, env, s, eq, E, L, p⟩ => ?_
  · obtain ⟨es, n, h1, h2, h3, h4⟩ := D
    refine wpAny_Call_method hM.base hM.few hM.line PySem.F.plainAttrs_dict PySem.F.slot_dict_get PySem.F.type_dict_get (thn ((pe_glob (v := .ref d) hg hm rfl hdb).run pins s σ H (fun x H1 => x = .ref d ∧ H1 = H) I ⟨rfl, rfl⟩) fun u s1 ⟨x, H1, I1, rx, ex, eh⟩ => ?_)
    subst ex eh
    obtain rfl : u = Value.ref d := rx; have hmap := PySem.W.mapOf_K (prog := X.prog) (w := X.w) I1.kIn h1 h2
    refine ⟨hmap.typeIs, fun b z => by cases z; exact ⟨_, I1.kIn _ _ h1, rfl⟩, ?_⟩
    rw [hM.trees]
    refine Calls.callWith_builtin rfl (Calls.evalArgs_plain (Calls.spliced_cons (thn (ha.run pins s1 σ _ _ I1 h) fun iv s2 ⟨y, H2, I2, ry, q2⟩ => Calls.spliced_cons (thn (hf.run pins s2 σ H2 _ I2 q2) fun fv s3 ⟨z, H3, I3, rz, cs, r, v, ey, hn, hv, q3⟩ => Calls.spliced_nil ?_))))
    subst ey
    obtain ⟨t, rfl⟩ := (show ∃ t, iv = Value.str cs t from ry)
    have hmap3 := PySem.W.mapOf_K (prog := X.prog) (w := X.w) I3.kIn h1 h2
    refine call_meetsIn PySem.F.slot_dict_get hmap3.typeIs PySem.F.entry_dict_get (PySem.F.args_dict_get_3 _ _ _) (meets_dict_get_default (strKind X.prog X.w) d (PySem.strKind_is X.prog X.w cs t) h3 fv) ⟨_, hmap3, v, H3, I3.tok _, ?_, q3⟩
    rw [PySem.W.find_K h1 hn]
    exact hv fv rz
  · subst eq
    refine tM.first (f := fun x s1 => (mf env s1).bind fun y s2 => .ofO (kGetD tab s2 x y) s2) E L p rD_any fun y s1 vy q1 x1 E1 L1 y1 p1 => ?_
    refine tM.first (f := fun z s2 => .ofO (kGetD tab s2 y z) s2) E1 L1 p1 rD_any fun z s2 vz q2 x2 E2 L2 y2 p2 => ?_
    cases y1 with
    | str cs =>
      unfold kGetD at p2; dsimp only at p2
      rcases kdic D cs with ⟨k1, k2⟩ | ⟨dd, u, v, k1, k2, k3, k4⟩
      · rw [k1] at p2
        exact ⟨_, none, vz, rfl, k2, fun u r => r, p2 vz q2 (Ext.refl q2) L2 y2⟩
      · rw [k1] at p2
        exact ⟨_, some u, v, rfl, k2, fun _ _ => k3, p2 v q2 (Ext.refl q2) L2 (k4 q2)⟩
    | _ => exact p2.elim
end
end MP

/-! Dicts of one's own; new instances. Own text. -/
namespace MP
open PySem L2 TL

theorem keyEq_iff {a b : D} {y : Key} (h : keyOf b = some y) {z : Key} (g : keyOf a = some z) : keyEq a b = decide (z = y) := by
  unfold keyOf at h g
  split at h <;> split at g <;> first | (cases h; done) | (cases g; done) | skip
  all_goals cases h
  all_goals cases g
  · simp [keyEq]
  · simp [keyEq]
  · simp [keyEq]
  · simp [keyEq]
theorem isKey_of {d : D} (h : isKey d = true) : ∃ k, keyOf d = some k := by
  cases d <;> first | exact ⟨_, rfl⟩ | cases h
theorem kV_of {K : PySem.W.Frag} {q : Stt} {d : D} {v : V} {k : Key} (r : RD K q d v) (h : keyOf d = some k) : v = kV k := by
  cases r <;> first | (cases h; done) | skip
  · cases h; rfl
  · cases h; rfl
section
variable {K : PySem.W.Frag} {q : Stt}
theorem RK.look {x : D} {k : Key} (hk : keyOf x = some k) : ∀ {kvs : List (D × D)} {ks : List (Key × V)}, RK K q kvs ks → (∀ d, dLook kvs x = some d → ∃ v, valV ks k = some v ∧ RD K q d v) ∧ (dLook kvs x = none → valV ks k = none)
  | _, _, .nil => ⟨fun d h => by simp [dLook] at h, fun _ => rfl⟩
  | _, _, .cons (k := a) (d := d) (y := y) (v := v) e r t => by
    have ih := RK.look hk t
    have he := keyEq_iff hk e
    by_cases z : y = k
    · rw [valV_pos z]
      refine ⟨fun d' h => ⟨v, rfl, ?_⟩, fun h => ?_⟩
      · simp only [dLook, List.find?_cons, he, z, decide_true, Option.map_some] at h
        cases h
        exact r
      · simp only [dLook, List.find?_cons, he, z, decide_true, Option.map_some] at h
        cases h
    · rw [valV_neg z]
      have e2 : ∀ r, dLook ((a, d) :: r) x = dLook r x := fun r => by simp [dLook, List.find?_cons, he, z]
      rw [e2]
      exact ih
theorem RK.any {x : D} {k : Key} (hk : keyOf x = some k) : ∀ {kvs : List (D × D)} {ks : List (Key × V)}, RK K q kvs ks → (kvs.any fun kv => keyEq kv.1 x) = ks.any fun kv => decide (kv.1 = k)
  | _, _, .nil => rfl
  | _, _, .cons e r t => by rw [List.any_cons, List.any_cons, RK.any hk t, keyEq_iff hk e]
theorem RK.repl {x y : D} {k : Key} {v : V} (hk : keyOf x = some k) (ry : RD K q y v) : ∀ {kvs : List (D × D)} {ks : List (Key × V)}, RK K q kvs ks → RK K q (kvs.map fun kv => if keyEq kv.1 x then (kv.1, y) else kv) (ks.map fun kv => if kv.1 = k then (kv.1, v) else kv)
  | _, _, .nil => .nil
  | _, _, .cons (y := z) e r t => by
    have he := keyEq_iff hk e
    rw [List.map_cons, List.map_cons]; by_cases w : z = k
    · simp only [he, w, decide_true, if_true]
      exact .cons (by rw [← w]; exact e) ry (RK.repl hk ry t)
    · simp only [he, w, decide_false, if_false]
      exact .cons e r (RK.repl hk ry t)
theorem RK.snoc {x y : D} {k : Key} {v : V} (hk : keyOf x = some k) (ry : RD K q y v) : ∀ {kvs : List (D × D)} {ks : List (Key × V)}, RK K q kvs ks → RK K q (kvs ++ [(x, y)]) (ks ++ [(k, v)])
  | _, _, .nil => .cons hk ry .nil
  | _, _, .cons e r t => .cons e r (RK.snoc hk ry t)
theorem RK.put {x y : D} {k : Key} {v : V} (hk : keyOf x = some k) (ry : RD K q y v) {kvs : List (D × D)} {ks : List (Key × V)} (r : RK K q kvs ks) : RK K q (dPut kvs x y) (putK ks k v) := by
  unfold dPut putK
  rw [r.any hk]
  split
  · exact r.repl hk ry
  · exact r.snoc hk ry
theorem RK.merge : ∀ {more : List (D × D)} {ms : List (Key × V)} {kvs : List (D × D)} {ks : List (Key × V)}, RK K q more ms → RK K q kvs ks → RK K q (dMerge kvs more) (mergeK ks ms)
  | _, _, _, _, .nil, r => r
  | _, _, _, _, .cons (fs := fs) (gs := gs) e a t, r => RK.merge (more := fs) (ms := gs) t (r.put e a)
theorem RK.length : ∀ {kvs : List (D × D)} {ks : List (Key × V)}, RK K q kvs ks → ks.length = kvs.length
  | _, _, .nil => rfl
  | _, _, .cons e a t => by simp [RK.length t]
theorem dic_at {C : Tab} {s : Sto} {d : D} {v : V} {kvs : List (D × D)} (R : Rel K C s q) (h : RD K q d v) (f : dicOf s d = some kvs) : ∃ n a ks, d = .ref n ∧ v = .ref a ∧ s[n]? = some (.dic kvs) ∧ q.r[n]? = some a ∧ q.H a = some (.dK ks) ∧ RK K q kvs ks := by
  unfold dicOf at f
  split at f
  · rename_i n
    split at f
    · rename_i kvs' e
      cases f
      cases h with
      | ref g =>
        obtain ⟨ks, h1, h2⟩ := R.obs n _ _ e g
        exact ⟨n, _, ks, rfl, rfl, e, g, h1, h2⟩
    · cases f
  · cases f
end
section
variable {X : Cx} {C : Tab} {W : Wx} {pos p p2 apos tpos cpos : Pos} {tg e a b c o f i : Expr} {es elts : List Expr} {m ma mb mc mo mf mi : ME} {st : Stmt} {x : Str}
/-- d[k], d a dict of one's own -/
theorem ge_dget (hu : X.A.units + 1 < cLine) (ho : GE X C W o mo) (hi : GE X C W i mi) (hs : NoSl i := by exact fun _ _ => rfl) : GE X C W (.Subscript o i pos) (eOp2 opDGet mo mi) := PE.imp (pe_dget hu ho hi hs) fun σ H Q ⟨q0, q, env, s, eq, E, L, p⟩ => by
  subst eq
  refine tM.first (f := fun x s1 => (mi env s1).bind fun y s2 => .ofO (opDGet s2 x y) s2) E L p rD_any fun x s1 vx q1 x1 E1 L1 y1 p1 => ?_
  refine tM.first (f := fun y s2 => .ofO (opDGet s2 x y) s2) E1 L1 p1 rD_any fun y s2 vy q2 x2 E2 L2 y2 p2 => ?_
  unfold opDGet at p2
  split at p2
  · rename_i hk
    obtain ⟨k, hk⟩ := isKey_of hk
    cases e1 : dicOf s2 x with
    | none => rw [e1] at p2; exact p2.elim
    | some kvs =>
      rw [e1] at p2
      obtain ⟨n, u, ks, rfl, rfl, h1, h2, h3, h4⟩ := dic_at L2 (RD.mono x2.kp x y1) e1
      simp only [Option.bind_some] at p2
      cases e2 : dLook kvs y with
      | none => rw [e2] at p2; exact p2.elim
      | some d =>
        rw [e2] at p2
        obtain ⟨v, h5, h6⟩ := (h4.look hk).1 d e2
        obtain rfl := kV_of y2 hk
        refine ⟨u, v, rfl, ?_, p2 v q2 (Ext.refl q2) L2 h6⟩
        rw [← h5]
        exact DGet.k h3
  · exact p2.elim
theorem din_imp (σ : St) (H : Hp) (Q : VK) (z : tM X.K C W (rD X.K) (eOp2 opDIn mi mo) σ H Q) : tDIn (tM X.K C W (rD X.K) mi) (tM X.K C W (rD X.K) mo) σ H Q := by
  obtain ⟨q0, q, env, s, eq, E, L, p⟩ := z
  subst eq
  refine tM.first (f := fun x s1 => (mo env s1).bind fun y s2 => .ofO (opDIn s2 x y) s2) E L p rD_any fun y s1 vy q1 x1 E1 L1 y1 p1 => ?_
  refine tM.first (f := fun x s2 => .ofO (opDIn s2 y x) s2) E1 L1 p1 rD_any fun x s2 vx q2 x2 E2 L2 y2 p2 => ?_
  unfold opDIn at p2
  split at p2
  · rename_i hk
    obtain ⟨k, hk⟩ := isKey_of hk
    cases e1 : dicOf s2 x with
    | none => rw [e1] at p2; exact p2.elim
    | some kvs =>
      rw [e1] at p2
      obtain ⟨n, u, ks, rfl, rfl, h1, h2, h3, h4⟩ := dic_at L2 y2 e1
      obtain rfl := kV_of y1 hk
      have e3 : (dLook kvs y).isSome = (valV ks k).isSome := by
        cases e2 : dLook kvs y with
        | none => rw [(h4.look hk).2 e2]; rfl
        | some d => obtain ⟨v, h5, _⟩ := (h4.look hk).1 d e2; rw [h5]; rfl
      simp only [Option.map_some, e3] at p2
      exact ⟨u, _, rfl, DGet.k h3, p2 _ q2 (Ext.refl q2) L2 (.bl _)⟩
  · exact p2.elim
theorem ge_din (hu : X.A.units + 1 < cLine) (hi : GE X C W i mi) (ho : GE X C W o mo) (hk : behindInMarks .In o = false := by with_unfolding_all rfl) : GE X C W (.Compare i [.In] [o] pos) (eOp2 opDIn mi mo) := PE.imp (pe_cmp (pc_din hu hi ho) hk) din_imp
theorem gt_din (hu : X.A.units + 1 < cLine) (hi : GE X C W i mi) (ho : GE X C W o mo) (hk : behindInMarks .In o = false := by with_unfolding_all rfl) : GT X C W (.Compare i [.In] [o] pos) (tVal (eOp2 opDIn mi mo)) := PT.imp (pt_cmp (pc_din hu hi ho) hk) (test_imp din_imp)
theorem dnotin_imp (σ : St) (H : Hp) (Q : VK) (z : tM X.K C W (rD X.K) (eOp2 opDNotIn mi mo) σ H Q) : tDNotIn (tM X.K C W (rD X.K) mi) (tM X.K C W (rD X.K) mo) σ H Q := by
  obtain ⟨q0, q, env, s, eq, E, L, p⟩ := z
  subst eq
  refine tM.first (f := fun x s1 => (mo env s1).bind fun y s2 => .ofO (opDNotIn s2 x y) s2) E L p rD_any fun y s1 vy q1 x1 E1 L1 y1 p1 => ?_
  refine tM.first (f := fun x s2 => .ofO (opDNotIn s2 y x) s2) E1 L1 p1 rD_any fun x s2 vx q2 x2 E2 L2 y2 p2 => ?_
  unfold opDNotIn at p2
  split at p2
  · rename_i hk
    obtain ⟨k, hk⟩ := isKey_of hk
    cases e1 : dicOf s2 x with
    | none => rw [e1] at p2; exact p2.elim
    | some kvs =>
      rw [e1] at p2
      obtain ⟨n, u, ks, rfl, rfl, h1, h2, h3, h4⟩ := dic_at L2 y2 e1
      obtain rfl := kV_of y1 hk
      have e3 : (dLook kvs y).isSome = (valV ks k).isSome := by
        cases e2 : dLook kvs y with
        | none => rw [(h4.look hk).2 e2]; rfl
        | some d => obtain ⟨v, h5, _⟩ := (h4.look hk).1 d e2; rw [h5]; rfl
      simp only [Option.map_some, e3] at p2
      exact ⟨u, _, rfl, DGet.k h3, p2 _ q2 (Ext.refl q2) L2 (.bl _)⟩
  · exact p2.elim
theorem ge_dnotin (hu : X.A.units + 1 < cLine) (hi : GE X C W i mi) (ho : GE X C W o mo) (hk : behindInMarks .NotIn o = false := by with_unfolding_all rfl) : GE X C W (.Compare i [.NotIn] [o] pos) (eOp2 opDNotIn mi mo) := PE.imp (pe_cmp (pc_dnotin hu hi ho) hk) dnotin_imp
theorem gt_dnotin (hu : X.A.units + 1 < cLine) (hi : GE X C W i mi) (ho : GE X C W o mo) (hk : behindInMarks .NotIn o = false := by with_unfolding_all rfl) : GT X C W (.Compare i [.NotIn] [o] pos) (tVal (eOp2 opDNotIn mi mo)) := PT.imp (pt_cmp (pc_dnotin hu hi ho) hk) (test_imp dnotin_imp)

/-! ### a dict display -/
/-- a new object, placed at once -/
theorem Ext.newP {q : Stt} (w : WF q) {p : Addr} {o : HO} (h : q.H p = none) : Ext q ⟨upd q.H p o, fun a => q.L a ∨ a = p, q.r ++ [p]⟩ :=
  ⟨fun a u e _ _ => by show upd q.H p o a = _; rw [upd_ne (ne_of_none e h)]; exact e, fun _ x => .inl x,
   fun a u e n _ => ⟨by show upd q.H p o a = _; rw [upd_ne (ne_of_none e h)]; exact e, fun z => z.elim n (ne_of_none e h)⟩, ⟨[p], rfl⟩, fun a ha => (List.mem_append.mp ha).imp id fun z => by
      obtain rfl : a = p := by simpa using z
      exact Fr.of h, fun a u e t => ⟨u, by show upd q.H p o a = _; rw [upd_ne (ne_of_none e h)]; exact e, t⟩⟩
/-- what is protected and of nobody else is placed -/
theorem place_own {K : PySem.W.Frag} {q0 q : Stt} {s : Sto} {p : Addr} {ho : HO} {ob : Ob} (x : Ext q0 q) (R : Rel K C s q) (h0 : Fr q0 p) (hl : q.L p) (hr : p ∉ q.r) (hk : ∃ u, q.H p = some u ∧ NT u ∧ ∀ f, u ≠ .ext f) (nt : NT ho) (h : RO K C ⟨upd q.H p ho, q.L, q.r ++ [p]⟩ p ob) :
    Ext q0 ⟨upd q.H p ho, q.L, q.r ++ [p]⟩ ∧ Kp q ⟨upd q.H p ho, q.L, q.r ++ [p]⟩ ∧ Rel K C (s ++ [ob]) ⟨upd q.H p ho, q.L, q.r ++ [p]⟩ ∧ RD K ⟨upd q.H p ho, q.L, q.r ++ [p]⟩ (.ref s.length) (.ref p) := by
  have k : Kp q ⟨upd q.H p ho, q.L, q.r ++ [p]⟩ := ⟨(Kp.wr hl).u, ⟨[p], rfl⟩⟩
  have xo := Ext.own (o := ho) x h0
  refine ⟨⟨xo.keep, xo.mono, xo.u, pre_trans x.pre ⟨[p], rfl⟩, fun a ha => ?_, xo.th⟩, k, ⟨⟨?_, fun a ha => ?_, fun a l => ?_⟩, by simp [R.len], fun n o a e1 e2 => ?_, let ⟨_, h1, h2, h3⟩ := hk; tabs_upd R.tb h1 h2 h3 nt⟩, .ref ?_⟩
  · rcases List.mem_append.mp ha with z | z
    · exact x.new a z
    · obtain rfl : a = p := by simpa using z
      exact .inr h0
  · exact List.nodup_append.mpr ⟨R.wf.nd, by simp, fun a ha b hb => by
      obtain rfl : b = p := by simpa using hb
      exact fun z => hr (z ▸ ha)⟩
  · rcases List.mem_append.mp ha with z | z
    · exact R.wf.live a z
    · obtain rfl : a = p := by simpa using z
      exact hl
  · by_cases e : a = p
    · exact ⟨ho, by show upd q.H p ho a = _; rw [e]; exact upd_same, nt⟩
    · obtain ⟨u, hu, t⟩ := R.wf.trk a l
      exact ⟨u, by show upd q.H p ho a = _; rw [upd_ne e]; exact hu, t⟩
  · by_cases hn : n < s.length
    · rw [List.getElem?_append_left hn] at e1
      have e3 : (q.r ++ [p])[n]? = some a := e2
      rw [List.getElem?_append_left (by rw [R.len]; exact hn)] at e3
      have hm := List.mem_of_getElem? e3
      have ne : a ≠ p := fun z => hr (z ▸ hm)
      refine (R.obs n o a e1 e3).mono k ?_
      show upd q.H p ho a = _
      rw [upd_ne ne]
    · have hz : n = s.length := by
        have := (List.getElem?_eq_some_iff.mp e1).1
        simp at this; omega
      subst hz
      simp at e1
      have e2 : (q.r ++ [p])[s.length]? = some a := e2
      rw [← R.len] at e2
      simp at e2
      subst e1 e2
      exact h
  · show (q.r ++ [p])[s.length]? = some p
    rw [← R.len]; simp
/-- pairs read follow a function -/
inductive RPs (K : PySem.W.Frag) (q : Stt) : List (D × D) → List (V × V) → Prop
  | nil : RPs K q [] []
  | cons {k d : D} {x y : V} {ps : List (D × D)} {vs : List (V × V)} : RD K q k x → RD K q d y → RPs K q ps vs → RPs K q ((k, d) :: ps) ((x, y) :: vs)
theorem RPs.rk {K : PySem.W.Frag} {q : Stt} : ∀ {ps : List (D × D)} {vs : List (V × V)}, RPs K q ps vs → ps.all (fun kv => isKey kv.1) = true → ∃ ks : List (Key × V), vs = ks.map (fun kv => (kV kv.1, kv.2)) ∧ RK K q ps ks
  | _, _, .nil, _ => ⟨[], rfl, .nil⟩
  | _, _, .cons (y := y) a b t, h => by
    rw [List.all_cons, Bool.and_eq_true] at h; obtain ⟨k, hk⟩ := isKey_of h.1
    obtain ⟨ks, e, r⟩ := RPs.rk t h.2
    exact ⟨(k, y) :: ks, by rw [kV_of a hk, e]; rfl, .cons hk b r⟩
abbrev rP (K : PySem.W.Frag) : Stt → Stt → List (D × D) → List (V × V) → Prop := fun _ q' d v => RPs K q' d v
/-- the trees of a display and their function -/
def GPs (X : Cx) (C : Tab) (W : Wx) (pos : Pos) (keys : List (Option Expr)) (values : List Expr) (m : MP.Env → Sto → Res (List (D × D))) : Prop := ∃ trs, PPs X pos keys values trs ∧ ∀ σ H Q, tM X.K C W (rP X.K) m σ H Q → tPairs trs σ H Q
theorem gps_nil : GPs X C W pos [] [] pNil := ⟨[], pps_nil, fun σ H Q ⟨q0, q, env, s, eq, E, L, p⟩ => by subst eq; exact p [] q (Ext.refl q) L .nil⟩
theorem gps_cons {k v : Expr} {ks : List (Option Expr)} {vs : List Expr} {mk mv : ME} {mr : MP.Env → Sto → Res (List (D × D))} (hk : GE X C W k mk) (hv : GE X C W v mv) (hr : GPs X C W pos ks vs mr) : GPs X C W pos (some k :: ks) (v :: vs) (pCons mk mv mr) := by
  obtain ⟨trs, h1, h2⟩ := hr
  refine ⟨_, pps_cons hk hv h1, fun σ H Q ⟨q0, q, env, s, eq, E, L, p⟩ => ?_⟩
  subst eq
  refine tM.first (f := fun x s1 => (mv env s1).bind fun y s2 => (mr env s2).bind fun ps s3 => .ok ((x, y) :: ps) s3) E L p (fun _ _ _ _ _ h => h) fun x s1 vx q1 x1 E1 L1 y1 p1 => ?_
  refine tM.first (f := fun y s2 => (mr env s2).bind fun ps s3 => .ok ((x, y) :: ps) s3) E1 L1 p1 (fun _ _ _ _ _ h => h) fun y s2 vy q2 x2 E2 L2 y2 p2 => ?_
  refine h2 σ q2.H _ (tM.first (f := fun ps s3 => .ok ((x, y) :: ps) s3) E2 L2 p2 (fun _ _ _ _ _ h => h) fun ps s3 vs q3 x3 E3 L3 y3 p3 => ?_)
  exact p3 _ q3 (Ext.refl q3) L3 (.cons (RD.mono (x2.trans x3).kp _ y1) (RD.mono x3.kp _ y2) y3)
theorem ge_dic {keys : List (Option Expr)} {values : List Expr} {mp : MP.Env → Sto → Res (List (D × D))} (h : GPs X C W pos keys values mp) (hall : keys.all (·.isSome) = true := by rfl) (hl : keys.length = values.length := by rfl) (h0 : keys ≠ [] := by exact List.cons_ne_nil _ _) (h15 : keys.length ≤ 15 := by decide) :
    GE X C W (.Dict keys values pos) (eDic mp) := by
  obtain ⟨trs, h1, h2⟩ := h
  refine PE.imp (pe_disp h1 hall hl h0 h15) fun σ H Q ⟨q0, q, env, s, eq, E, L, p⟩ pa hpa => ?_
  subst eq
  have x0 := Ext.newL (o := .dK []) L.wf hpa
  refine h2 σ _ _ ⟨q0, ⟨upd q.H pa (.dK []), fun a => q.L a ∨ a = pa, q.r⟩, env, s, rfl, E.ext x0, L.newL hpa, ?_⟩
  unfold eDic at p
  cases e1 : mp env s with
  | stk => rw [e1] at p; exact p.elim
  | exc z t => rw [e1] at p; exact fun c d q' w r => p c d q' (x0.trans w) r
  | ok ps s1 =>
    rw [e1] at p
    intro vs q1 x1 L1 r1
    simp only [Res.bind_ok] at p
    split at p
    · rename_i hc
      rw [Bool.and_eq_true] at hc
      obtain ⟨ks, ev, rk⟩ := r1.rk hc.1
      have nr : pa ∉ q.r := L.wf.nor hpa
      have hk : q1.H pa = some (.dK []) := x1.keep pa _ upd_same nr (fun _ z => nomatch z)
      have hL : q1.L pa := x1.mono pa (.inr rfl)
      have hr : pa ∉ q1.r := fun z => (x1.new pa z).elim nr fun n => n _ upd_same fun _ z => nomatch z
      have kp : Kp q1 ⟨upd q1.H pa (.dK (mergeK [] ks)), q1.L, q1.r ++ [pa]⟩ := ⟨(Kp.wr hL).u, ⟨[pa], rfl⟩⟩
      obtain ⟨z1, z2, z3, z4⟩ := place_own (ho := .dK (mergeK [] ks)) (ob := .dic (dMerge [] ps)) (x0.trans x1) L1 (Fr.of hpa) hL hr ⟨_, hk, (fun _ z => nomatch z), fun _ z => nomatch z⟩ (fun _ z => nomatch z) ⟨_, upd_same, (rk.mono kp).merge .nil⟩
      refine ⟨hk, ks, ev, ?_, p _ _ z1 z3 z4⟩
      rw [rk.length]
      exact of_decide_eq_true hc.2
    · exact p.elim

/-! ### d.update(e) -/
theorem d_update {pins : List (Addr × Obj)} {σ : St} {H : Hp} {s : Shared} {a b : Addr} {kvs more : List (Key × V)} {A : Around} {E : Value → Shared → Prop} {Q : Value → Shared → Prop} (I : Inv X pins σ H s) (e : H a = some (.dK kvs)) (e2 : H b = some (.dK more)) (hab : a ≠ b)
    (hl : kvs.length + more.length ≤ sizeLine) (h : ∀ s', Inv X pins σ (upd H a (.dK (mergeK kvs more))) s' → Q .none s') : wpAny (model X.prog X.w) A (call (.builtin "dict.update") [.ref a, .ref b]) Q E s := by
  obtain ⟨z, hd, vs, rel, dd⟩ := dk_of I.hok e; obtain ⟨z2, hd2, vs2, rel2, dd2⟩ := dk_of I.hok e2
  refine call_meetsIn PySem.F.slot_dict_update dd.typeIs PySem.F.entry_dict_update (PySem.F.args_dict_update_2 _ _) (meets_dict_update (mixKind X.prog X.w) a b hab hd2) ⟨vs, vs2, dd, dd2, by rw [← rel.length, ← rel2.length]; exact hl, fun h' dd' _ sb => ?_⟩
  have hz : (mergeK kvs more).length ≤ sizeLine := Nat.le_trans (length_mergeK more kvs) hl
  have he : ∃ q, h'.get? a = some q := let ⟨q, _, _, hq, _⟩ := dd'; ⟨q, hq⟩; exact h _ (d_write (t' := s.toks) I (by rw [e]; exact True.intro) sb he (dk_new hz hd (rel2.merge rel) dd'))
def tUpd (td te : TE) : TE := fun σ H Q => td σ H fun x H1 => ∃ a, x = .ref a ∧ IsD H1 a ∧ te σ H1 fun y H2 => ∃ b kvs more, y = .ref b ∧ a ≠ b ∧ H2 a = some (.dK kvs) ∧ H2 b = some (.dK more) ∧ kvs.length + more.length ≤ sizeLine ∧ Q .non (upd H2 a (.dK (mergeK kvs more)))
theorem pe_dupd {td te : TE} (ho : PE X o td) (he : PE X e te) (hM : M1 X o "update" apos e cpos) : PE X (.Call (.Attribute o "update" apos) [e] [] cpos) (tUpd td te) := by
  refine ⟨fun pins s σ H Q I h => ?_⟩; refine wpAny_Call_method hM.base hM.few hM.line PySem.F.plainAttrs_dict PySem.F.slot_dict_update PySem.F.type_dict_update (thn (ho.run pins s σ H _ I h) fun u s1 ⟨x, H1, I1, rx, a, ex, d, q1⟩ => ?_)
  subst ex
  obtain rfl : u = Value.ref a := rx; obtain ⟨t1, t2, _⟩ := isD_at I1 d
  refine ⟨t1, t2, ?_⟩
  rw [hM.trees]
  refine Calls.callWith_builtin rfl (Calls.evalArgs_plain (Calls.spliced_cons (thn (he.run pins s1 σ H1 _ I1 q1) fun iv s2 ⟨y, H2, I2, ry, b, kvs, more, ey, hab, e1, e2, hl, q2⟩ => Calls.spliced_nil ?_)))
  subst ey
  obtain rfl : iv = Value.ref b := ry
  exact d_update I2 e1 e2 hab hl fun s3 I3 => ⟨.non, _, I3, rfl, q2⟩
theorem ge_upd (ho : GE X C W o mo) (he : GE X C W e m) (hM : M1 X o "update" apos e cpos := by exact ⟨rfl, rfl, rfl, rfl⟩) : GE X C W (.Call (.Attribute o "update" apos) [e] [] cpos) (eUpd mo m) := PE.imp (pe_dupd ho he hM) fun σ H Q ⟨q0, q, env, s, eq, E, L, p⟩ => by
  subst eq
  refine tM.first (f := fun x s1 => if (dicOf s1 x).isSome then (m env s1).bind fun y s2 => match refN x, refN y, dicOf s2 x, dicOf s2 y with | some n, some m, some p, some r => if n ≠ m ∧ p.length + r.length ≤ 1000 then .ok .non (s2.set n (.dic (dMerge p r))) else .stk | _, _, _, _ => .stk else .stk) E L p rD_any fun x s1 vx q1 x1 E1 L1 y1 p1 => ?_
  split at p1
  · rename_i hs
    obtain ⟨kv0, hs⟩ := Option.isSome_iff_exists.mp hs
    obtain ⟨n, u, ks0, rfl, rfl, a1, a2, a3, a4⟩ := dic_at L1 y1 hs
    refine ⟨u, rfl, .inl ⟨ks0, .inl a3⟩, ?_⟩
    refine tM.first (f := fun y s2 => match refN (.ref n), refN y, dicOf s2 (.ref n), dicOf s2 y with | some n, some m, some p, some r => if n ≠ m ∧ p.length + r.length ≤ 1000 then .ok .non (s2.set n (.dic (dMerge p r))) else .stk | _, _, _, _ => .stk) E1 L1 p1 rD_any fun y s2 vy q2 x2 E2 L2 y2 p2 => ?_
    split at p2
    · rename_i n' m' kv1 kv2 g1 g2 g3 g4
      cases g1
      split at p2
      · rename_i hc
        obtain ⟨n1, u1, ks1, z1, z2, b1, b2, b3, b4⟩ := dic_at L2 (RD.mono x2.kp _ y1) g3
        cases z1
        cases z2
        obtain ⟨n2, u2, ks2, rfl, rfl, c1, c2, c3, c4⟩ := dic_at L2 y2 g4
        cases g2
        have hab : u ≠ u2 := fun z => by
          subst z
          have h4 := (List.getElem?_eq_some_iff.mp b2)
          have h5 := (List.getElem?_eq_some_iff.mp c2)
          exact hc.1 ((List.getElem_inj L2.wf.nd).mp (h4.2.trans h5.2.symm))
        have lu : q2.L u := L2.wf.live u (List.mem_of_getElem? b2)
        obtain ⟨w1, w2⟩ := wr_placed (ho := .dK (mergeK ks1 ks2)) (o' := .dic (dMerge kv1 kv2)) L2 b1 b2 ⟨_, upd_same, (c4.merge b4).mono (Kp.wr lu)⟩
        refine ⟨u2, ks1, ks2, rfl, hab, b3, c3, ?_, p2 .non _ w1 w2 .non⟩
        rw [b4.length, c4.length]
        exact lenS (by unfold cap; omega)
      · exact p2.elim
    · exact p2.elim
  · exact p1.elim
end
end MP

/-! Instances made; calls with keywords; bodies of defs with defaults. Own text. -/
namespace MP
open PySem L2 TL

/-- a fresh instance, placed -/
theorem new_ins {K : PySem.W.Frag} {C : Tab} {q : Stt} {s : Sto} {x dx : Addr} (c : Nat) (R : Rel K C s q) (hx : q.H x = none) (hd : q.H dx = none) (ne : dx ≠ x) :
    ∃ q' : Stt, q'.H = upd (upd q.H dx (.own x)) x (.ins (C c) dx []) ∧ Ext q q' ∧ Rel K C (s ++ [.ins c []]) q' ∧ RD K q' (.ref s.length) (.ref x) := by
  have x1 := Ext.new1 (o := .own x) R.wf hd
  have R1 := R.new1 (o := .own x) hd
  have hx1 : (upd q.H dx (.own x)) x = none := by rw [upd_ne (Ne.symm ne)]; exact hx
  have x2 := Ext.newL (q := ⟨upd q.H dx (.own x), q.L, q.r⟩) (o := .ins (C c) dx []) R1.wf hx1
  have R2 := R1.newL (o := .ins (C c) dx []) hx1
  obtain ⟨z1, z2, z3, z4⟩ := place_own (ho := .ins (C c) dx []) (ob := .ins c []) x2 R2 (Fr.of hx1) (.inr rfl) (R1.wf.nor hx1) ⟨_, upd_same, (fun _ z => nomatch z), fun _ z => nomatch z⟩ (fun _ z => nomatch z) ⟨dx, [], upd_same, .nil⟩
  refine ⟨_, ?_, x1.trans z1, z3, z4⟩
  show upd (upd (upd q.H dx (.own x)) x (.ins (C c) dx [])) x (.ins (C c) dx []) = _
  rw [L2.upd_upd]
/-- what a maker asks -/
theorem asked_made {K : PySem.W.Frag} {C : Tab} {W : Wx} {q1 q2 : Stt} {σ : St} {Q : VK} {n : Nat} {x : Addr} {r : Res D} (x2 : Ext q1 q2) (hn : RD K q2 (.ref n) (.ref x)) (p : Post K C W (rD K) q1 σ Q (madeR n r)) :
    Post K C W (rD K) q2 σ (fun v H2 => v = .non ∧ Q (.ref x) H2) r := by
  cases r with
  | ok d s3 =>
    intro v q3 x3 R3 rd
    unfold madeR at p
    simp only [Res.bind_ok] at p
    cases rd with
    | non => exact ⟨rfl, p (.ref x) q3 (x2.trans x3) R3 (RD.mono x3.kp _ hn)⟩
    | _ => exact p.elim
  | exc y s3 => exact fun cls d q' w R r => p cls d q' (x2.trans w) R r
  | stk => exact p.elim
/-- a def at f with keywords: n values by place, those named ks -/
def CalK (P : Program) (w : World) (K : PySem.W.Frag) (mg : Str → Option Value) (base : Heap) (C : Tab) (k : Nat) (f : Addr) (n : Nat) (ks : List Str) (g : FnK) : Prop :=
  ∃ (fd : FuncData) (ps : List Str) (gu : List Value → List Value → List Value) (gV : List V → List V → List V) (g' : Fn) (arr : List D → List D → List D), FnOk P w K mg base (L2.CX P w) k f fd ps (spM K C g') ∧ KBn K fd ps n ks gu gV ∧
    (∀ (q : Stt) (as es : List D) (vs zs : List V), RDs K q as vs → RDs K q es zs → as.length = n → es.length = ks.length → RDs K q (arr as es) (gV vs zs)) ∧ g = fun as es => g' (arr as es)
def AskedK (K : PySem.W.Frag) (C : Tab) (W : Wx) (n m : Nat) (g : FnK) (σ : St) (vs zs : List V) (H : Hp) (Q : VK) : Prop := ∃ (q : Stt) (s : Sto) (ds es : List D), q.H = H ∧ Rel K C s q ∧ RDs K q ds vs ∧ RDs K q es zs ∧ ds.length = n ∧ es.length = m ∧ Post K C W (rD K) q σ Q (g ds es s)
section
variable {X : Cx} {C : Tab} {W : Wx} {k n c : Nat} {f Ca : Addr} {g : Fn} {gk : FnK} {pos p apos : Pos} {x : Str} {e a b o : Expr} {es : List Expr} {kws : List Keyword} {ks : List Str} {m ma mb mo : ME} {ml mk : MA}
theorem run_new {pins : List (Addr × Obj)} {σ : St} {H : Hp} {s : Shared} {Q : VK} {us : List Value} {vs : List V} (M : Mk X.K Ca f) (F : Cal X.prog X.w X.K X.mg X.base C k f g) (hr : Room (k + 1) X.A) (tk : Takes X W) (I : Inv X pins σ H s) (r : Vals vs us)
    (h : ∀ x dx, H x = none → H dx = none → dx ≠ x → Asked X.K C W g σ (.ref x :: vs) (upd (upd H dx (.own x)) x (.ins Ca dx [])) (fun v H2 => v = .non ∧ Q (.ref x) H2)) :
    wpAny (model X.prog X.w) X.A (call (.ref Ca) us) (EP X pins σ Q) X.xe s := by
  obtain ⟨fd, ps, ds, dvs, dD, g', F, hb, hd, rd, rfl⟩ := F
  have hq := h (s.heap.objs.size + 1) s.heap.objs.size (I.hok.fresh (Nat.le_succ _)) (I.hok.fresh (Nat.le_refl _)) (Nat.ne_of_lt (Nat.lt_succ_self _)); have I2 := Inv.made (C := Ca) I
  obtain ⟨q, st, as, e, L, ra, pz⟩ := hq
  have hs : spM X.K C g' (.ref (s.heap.objs.size + 1) :: vs ++ dvs) _ _ (WE W σ) := ⟨q, st, as ++ dD, e, L, ra.append (rd q), post_sig pz⟩
  have r1 : Vals (V.ref (s.heap.objs.size + 1) :: vs) (Value.ref (s.heap.objs.size + 1) :: us) := .cons rfl r; have r2 := r1.append hd
  have hl : (Value.ref (s.heap.objs.size + 1) :: us ++ ds).length = ps.length := r2.length.symm.trans (F.len _ _ _ _ hs)
  have hbd := hb { s with heap := (s.heap.push PySem.W.emptyDict).push (PySem.W.instObj Ca s.heap.objs.size) } (Value.ref (s.heap.objs.size + 1) :: us) I2.kIn hl
  have hrun := F.run _ X.stack _ _ ⟨Value.ref (s.heap.objs.size + 1) :: us, []⟩ _ _ _ _ (hr.make Ca us []) (I2.env0.make Ca us []) hbd r2 hs
  refine wpAny_call (make_map (f := f) I.kIn M.makes M.init (beq_iff_eq.mp M.fn) (codeAny_mono hrun fun r s' hq' => ?_))
  cases r with
  | error e => exact passAt tk σ pins _ _ e s' I2 hq'
  | ok fl =>
    cases fl with
    | ret u =>
      obtain ⟨v, H', I3, rv, ev, q3⟩ := I2.after hq'; subst ev; exact ⟨rv, ⟨V.ref (s.heap.objs.size + 1), H', I3, rfl, q3⟩⟩
    | _ => exact hq'.elim
theorem ge_new (M : Mk X.K (C c) f) (F : Cal X.prog X.w X.K X.mg X.base C k f g) (hr : Room (k + 1) X.A) (tk : Takes X W) (hm : X.mg x = some (.ref (C c))) (ha : GA X C W (e :: es) ml) (hg : Gl X x := by rfl) (hdb : (x == ("__debug__" : Str)) = false := by decide)
    (he : starEach (e :: es) X.env = (false, eval e X.env) :: starEach es X.env := by rfl) (hpl : (backTo pos (starEach es X.env)).any (·.1) = false := by rfl) : GE X C W (.Call (.Name x p) (e :: es) [] pos) (eNew c g ml) := by
  refine PE.imp (t := fun σ H Q => tM X.K C W (rA X.K) ml σ H fun vs H1 => ∀ x dx, H1 x = none → H1 dx = none → dx ≠ x → Asked X.K C W g σ (.ref x :: vs) (upd (upd H1 dx (.own x)) x (.ins (C c) dx [])) (fun v H2 => v = .non ∧ Q (.ref x) H2)) ⟨fun pins s σ H Q I h => ?_⟩ fun σ H Q ⟨q0, q, env, s, eq, E, L, p⟩ => ?_
  · refine wpAny_Call_Name_kw (ld_glob I hg hm ?_ hdb)
    exact PySem.W.callWith_K (h₀ := X.base) I.ok.mod.kin M.kp (thn (ha.run pos pins s σ H _ I h) fun us s1 ⟨vs, H1, I1, r, q⟩ => ⟨I1.kIn, run_new M F hr tk I1 r q⟩) he hpl
  · subst eq
    refine tM.first (f := fun ds s1 => madeR s1.length (g (.ref s1.length :: ds) (s1 ++ [.ins c []]))) E L p rD_any fun ds s1 vs q1 x1 E1 L1 y1 p1 x dx hx hd ne => ?_
    obtain ⟨q2, e2, x2, L2, n2⟩ := new_ins c L1 hx hd ne
    exact ⟨q2, _, _, e2, L2, .cons n2 (RDs.mono x2.kp _ y1), asked_made x2 n2 p1⟩
theorem ge_new0 (M : Mk X.K (C c) f) (F : Cal X.prog X.w X.K X.mg X.base C k f g) (hr : Room (k + 1) X.A) (tk : Takes X W) (hm : X.mg x = some (.ref (C c))) (hg : Gl X x := by rfl) (hdb : (x == ("__debug__" : Str)) = false := by decide) : GE X C W (.Call (.Name x p) [] [] pos) (eNew c g aNil) := by
  refine PE.imp (t := fun σ H Q => ∀ x dx, H x = none → H dx = none → dx ≠ x → Asked X.K C W g σ [.ref x] (upd (upd H dx (.own x)) x (.ins (C c) dx [])) (fun v H2 => v = .non ∧ Q (.ref x) H2)) ⟨fun pins s σ H Q I h => ?_⟩ fun σ H Q ⟨q0, q, env, s, eq, E, L, p⟩ => ?_
  · refine wpAny_Call_Name_kw (ld_glob I hg hm ?_ hdb)
    exact PySem.W.callWith_K0 I.kIn M.kp (run_new (us := []) M F hr tk I .nil h)
  · subst eq
    intro x dx hx hd ne
    obtain ⟨q2, e2, x2, L2, n2⟩ := new_ins c L hx hd ne
    exact ⟨q2, _, _, e2, L2, .cons n2 .nil, asked_made x2 n2 p⟩

/-! ### keywords -/
def GK (X : Cx) (C : Tab) (W : Wx) (kws : List Keyword) (m : MA) : Prop := PK X kws (tM X.K C W (rA X.K) m)
theorem gk_nil : GK X C W [] aNil := ⟨fun pos pins s σ H Q I ⟨q0, q, env, t, eq, E, L, p⟩ => pk_nil.run pos pins s σ H Q I (by subst eq; exact p [] q (Ext.refl q) L .nil)⟩
theorem gk_cons {nm : Option Str} {kpos : Pos} {mr : MA} (ha : GE X C W e m) (hr : GK X C W kws mr) : GK X C W (⟨nm, e, kpos⟩ :: kws) (aCons m mr) := ⟨fun pos pins s σ H Q I ⟨q0, q, env, t, eq, E, L, p⟩ => (pk_cons ha hr).run pos pins s σ H Q I (by
  subst eq
  refine tM.first (f := fun x s1 => (mr env s1).bind fun xs s2 => .ok (x :: xs) s2) E L p rA_any fun x s1 vx q1 x1 E1 L1 y1 p1 => ?_
  refine tM.first (f := fun xs s2 => .ok (x :: xs) s2) E1 L1 p1 rA_any fun xs s2 vs q2 x2 E2 L2 y2 p2 => ?_
  exact p2 _ q2 (Ext.refl q2) L2 (.cons (RD.mono x2.kp x y1) y2))⟩
theorem run_calK {pins : List (Addr × Obj)} {σ : St} {H : Hp} {s : Shared} {Q : VK} {us ws : List Value} {vs zs : List V} (F : CalK X.prog X.w X.K X.mg X.base C k f n ks gk) (hr : Room k X.A) (tk : Takes X W) (I : Inv X pins σ H s) (r : Vals vs us) (rz : Vals zs ws)
    (h : AskedK X.K C W n ks.length gk σ vs zs H Q) : wpAny (model X.prog X.w) X.A (call (.ref f) us (ks.zip ws)) (EP X pins σ Q) X.xe s := by
  obtain ⟨fd, ps, gu, gV, g', arr, F, hb, hA, rfl⟩ := F
  obtain ⟨q, st, ds, es, e, L, r1, r2, l1, l2, pz⟩ := h
  have hs : spM X.K C g' (gV vs zs) H Q (WE W σ) := ⟨q, st, _, e, L, hA q ds es vs zs r1 r2 l1 l2, post_sig pz⟩
  refine wpAny_call (codeAny_mono (F.run X.A X.stack s H ⟨us, ks.zip ws⟩ (gu us ws) (gV vs zs) Q (WE W σ) hr I.env0 (hb.to s us ws I.kIn (r.length.symm.trans (r1.length.trans l1)) (rz.length.symm.trans (r2.length.trans l2))) (hb.rel r rz) hs) fun r s' hq => ?_)
  cases r with
  | error e => exact passAt tk σ pins H s e s' I hq
  | ok fl =>
    cases fl with
    | ret u => exact I.after hq
    | _ => exact hq.elim
theorem run_newK {pins : List (Addr × Obj)} {σ : St} {H : Hp} {s : Shared} {Q : VK} {us ws : List Value} {vs zs : List V} (M : Mk X.K Ca f) (F : CalK X.prog X.w X.K X.mg X.base C k f (n + 1) ks gk) (hr : Room (k + 1) X.A) (tk : Takes X W) (I : Inv X pins σ H s) (r : Vals vs us) (rz : Vals zs ws)
    (h : ∀ x dx, H x = none → H dx = none → dx ≠ x → AskedK X.K C W (n + 1) ks.length gk σ (.ref x :: vs) zs (upd (upd H dx (.own x)) x (.ins Ca dx [])) (fun v H2 => v = .non ∧ Q (.ref x) H2)) :
    wpAny (model X.prog X.w) X.A (call (.ref Ca) us (ks.zip ws)) (EP X pins σ Q) X.xe s := by
  obtain ⟨fd, ps, gu, gV, g', arr, F, hb, hA, rfl⟩ := F
  have hq := h (s.heap.objs.size + 1) s.heap.objs.size (I.hok.fresh (Nat.le_succ _)) (I.hok.fresh (Nat.le_refl _)) (Nat.ne_of_lt (Nat.lt_succ_self _)); have I2 := Inv.made (C := Ca) I
  obtain ⟨q, st, ds, es, e, L, ra, rb, l1, l2, pz⟩ := hq
  have hs : spM X.K C g' (gV (.ref (s.heap.objs.size + 1) :: vs) zs) _ _ (WE W σ) := ⟨q, st, _, e, L, hA q ds es _ zs ra rb l1 l2, post_sig pz⟩
  have r1 : Vals (V.ref (s.heap.objs.size + 1) :: vs) (Value.ref (s.heap.objs.size + 1) :: us) := .cons rfl r; have n1 : (Value.ref (s.heap.objs.size + 1) :: us).length = n + 1 := by rw [← r1.length, ra.length, l1]
  have hrun := F.run _ X.stack _ _ ⟨Value.ref (s.heap.objs.size + 1) :: us, ks.zip ws⟩ _ _ _ _ (hr.make Ca us (ks.zip ws)) (I2.env0.make Ca us (ks.zip ws)) (hb.to _ _ ws I2.kIn n1 (rz.length.symm.trans (rb.length.trans l2))) (hb.rel r1 rz) hs
  refine wpAny_call (make_map (f := f) I.kIn M.makes M.init (beq_iff_eq.mp M.fn) (codeAny_mono hrun fun r s' hq' => ?_))
  cases r with
  | error e => exact passAt tk σ pins _ _ e s' I2 hq'
  | ok fl =>
    cases fl with
    | ret u =>
      obtain ⟨v, H', I3, rv, ev, q3⟩ := I2.after hq'; subst ev; exact ⟨rv, ⟨V.ref (s.heap.objs.size + 1), H', I3, rfl, q3⟩⟩
    | _ => exact hq'.elim
theorem ge_newK (n : Nat) (M : Mk X.K (C c) f) (F : CalK X.prog X.w X.K X.mg X.base C k f (n + 1) ks gk) (hr : Room (k + 1) X.A) (tk : Takes X W) (hm : X.mg x = some (.ref (C c))) (ha : GA X C W (e :: es) ml) (hkw : GK X C W kws mk) (hg : Gl X x := by rfl) (hdb : (x == ("__debug__" : Str)) = false := by decide)
    (hall : (backToKw pos (keywordEach kws X.env)).all (·.1.isSome) = true := by rfl) (hks : (backToKw pos (keywordEach kws X.env)).filterMap (·.1) = ks := by rfl) (he : starEach (e :: es) X.env = (false, eval e X.env) :: starEach es X.env := by rfl)
    (hpl : ((backTo pos (starEach (e :: es) X.env)).any (·.1) || (backToKw pos (keywordEach kws X.env)).any (·.1.isNone)) = false := by rfl) : GE X C W (.Call (.Name x p) (e :: es) kws pos) (eNewK c gk n ks.length ml mk) := by
  refine PE.imp (t := fun σ H Q => tM X.K C W (rA X.K) ml σ H fun vs H1 => tM X.K C W (rA X.K) mk σ H1 fun zs H2 => ∀ x dx, H2 x = none → H2 dx = none → dx ≠ x → AskedK X.K C W (n + 1) ks.length gk σ (.ref x :: vs) zs (upd (upd H2 dx (.own x)) x (.ins (C c) dx [])) (fun v H3 => v = .non ∧ Q (.ref x) H3)) ⟨fun pins s σ H Q I h => ?_⟩ fun σ H Q ⟨q0, q, env, s, eq, E, L, p⟩ => ?_
  · refine wpAny_Call_Name_kw (ld_glob I hg hm ?_ hdb)
    refine PySem.W.callWith_KW (h₀ := X.base) I.ok.mod.kin M.kp hall (thn (ha.run pos pins s σ H _ I h) fun us s1 ⟨vs, H1, I1, r, q⟩ => ?_) hpl he; refine thn (hkw.run pos pins s1 σ H1 _ I1 q) fun ws s2 ⟨zs, H2, I2, rz, q2⟩ => ⟨I2.kIn, ?_⟩
    rw [hks]
    exact run_newK M F hr tk I2 r rz q2
  · subst eq
    refine tM.first (f := fun ds s1 => (mk env s1).bind fun es s2 => if ds.length = n ∧ es.length = ks.length then madeR s2.length (gk (.ref s2.length :: ds) es (s2 ++ [.ins c []])) else .stk) E L p rD_any fun ds s1 vs q1 x1 E1 L1 y1 p1 => ?_
    refine tM.first (f := fun es s2 => if ds.length = n ∧ es.length = ks.length then madeR s2.length (gk (.ref s2.length :: ds) es (s2 ++ [.ins c []])) else .stk) E1 L1 p1 rD_any fun es s2 zs q2 x2 E2 L2 y2 p2 x dx hx hd ne => ?_
    split at p2
    · rename_i hl
      obtain ⟨q3, e3, x3, L3, n3⟩ := new_ins c L2 hx hd ne
      exact ⟨q3, _, _, _, e3, L3, .cons n3 (RDs.mono (x2.trans x3).kp _ y1), RDs.mono x3.kp _ y2, by rw [List.length_cons, hl.1], hl.2, asked_made x3 n3 p2⟩
    · exact p2.elim
theorem ge_callK (n : Nat) (F : CalK X.prog X.w X.K X.mg X.base C k f n ks gk) (hr : Room k X.A) (tk : Takes X W) (hm : X.mg x = some (.ref f)) (hk : PySem.W.keepIn X.K (.ref f) = true) (ha : GA X C W (e :: es) ml) (hkw : GK X C W kws mk) (hg : Gl X x := by rfl) (hdb : (x == ("__debug__" : Str)) = false := by decide)
    (hall : (backToKw pos (keywordEach kws X.env)).all (·.1.isSome) = true := by rfl) (hks : (backToKw pos (keywordEach kws X.env)).filterMap (·.1) = ks := by rfl) (he : starEach (e :: es) X.env = (false, eval e X.env) :: starEach es X.env := by rfl)
    (hpl : ((backTo pos (starEach (e :: es) X.env)).any (·.1) || (backToKw pos (keywordEach kws X.env)).any (·.1.isNone)) = false := by rfl) : GE X C W (.Call (.Name x p) (e :: es) kws pos) (eCallK gk n ks.length ml mk) := by
  refine PE.imp (t := fun σ H Q => tM X.K C W (rA X.K) ml σ H fun vs H1 => tM X.K C W (rA X.K) mk σ H1 fun zs H2 => AskedK X.K C W n ks.length gk σ vs zs H2 Q) ⟨fun pins s σ H Q I h => ?_⟩ fun σ H Q ⟨q0, q, env, s, eq, E, L, p⟩ => ?_
  · refine wpAny_Call_Name_kw (ld_glob I hg hm ?_ hdb)
    refine PySem.W.callWith_KW (h₀ := X.base) I.ok.mod.kin hk hall (thn (ha.run pos pins s σ H _ I h) fun us s1 ⟨vs, H1, I1, r, q⟩ => ?_) hpl he; refine thn (hkw.run pos pins s1 σ H1 _ I1 q) fun ws s2 ⟨zs, H2, I2, rz, q2⟩ => ⟨I2.kIn, ?_⟩
    rw [hks]
    exact run_calK F hr tk I2 r rz q2
  · subst eq
    refine tM.first (f := fun ds s1 => (mk env s1).bind fun es s2 => if ds.length = n ∧ es.length = ks.length then gk ds es s2 else .stk) E L p rD_any fun ds s1 vs q1 x1 E1 L1 y1 p1 => ?_
    refine tM.first (f := fun es s2 => if ds.length = n ∧ es.length = ks.length then gk ds es s2 else .stk) E1 L1 p1 rD_any fun es s2 zs q2 x2 E2 L2 y2 p2 => ?_
    split at p2
    · rename_i hl
      exact ⟨q2, _, _, _, rfl, L2, RDs.mono x2.kp _ y1, y2, hl.1, hl.2, p2⟩
    · exact p2.elim
end

/-! ### bodies of defs with defaults -/
section
variable {P : Program} {w : World} {K : PySem.W.Frag} {mg : Str → Option Value} {base : Heap} {C : Tab}
theorem body_sim {X : Cx} {N : List Str} {n : Nat} {ms : MS} {g : Fn} {body : List Stmt} {H : Hp} {vs : List V} {Q : VK} {E : XK} (hN : n ≤ N.length) (hg : g = runB n N.length ms) (hb : GSs X C (fun cls d _ H' => E cls d H') body ms) (h : spM X.K C g vs H Q E) :
    ∃ t, PSs X body t ∧ t { nx := fun _ H' => Q .non H', rt := Q } (start N vs) H := by
  subst hg
  refine ⟨_, hb, ?_⟩
  obtain ⟨q, s, ds, e, L, r, p⟩ := h
  subst e
  unfold runB at p
  split at p
  · rename_i hk
    refine ⟨q, q, _, s, rfl, Ext.refl q, RE.start (N.length - n) L r (by rw [hk]), L, ?_⟩
    cases z : ms (ds.map .val ++ List.replicate (N.length - n) .emp) s with
    | nx e s' => rw [z] at p; exact fun σ' q' x1 k1 L1 E1 => p .non q' x1 L1 .non
    | rt d s' => rw [z] at p; exact fun v q' x1 k1 L1 r1 => p v q' x1 L1 r1
    | ex y e s' => rw [z] at p; exact fun cls d σ' q' x1 k1 L1 E1 r1 => p cls d q' x1 L1 r1
    | bk e s' => rw [z] at p; exact p.elim
    | ct e s' => rw [z] at p; exact p.elim
    | stk => rw [z] at p; exact p.elim
  · exact p.elim
theorem spM_len {n m : Nat} {ms : MS} {vs : List V} {H : Hp} {Q : VK} {E : XK} (h : spM K C (runB n m ms) vs H Q E) : vs.length = n := by
  obtain ⟨q, s, ds, e, L, r, p⟩ := h
  rw [r.length]
  unfold runB at p
  split at p
  · rename_i h; exact h
  · exact p.elim
theorem fn_calD {x qual : Str} {params : Arguments} {body : List Stmt} {scope : Scope} {dvs : List V} {kws : List (Str × V)} {f : Addr} {fd : FuncData} {N ps : List Str} {k : Nat} {ms : MS} (F : FunD K x qual params body scope dvs kws f fd) (S : FnScope N ps scope) (hN : ps.length ≤ N.length)
    (hb : ∀ (cdv : Value) (A : Around) (outer : List PySem.Env) (s : Shared) (H : Hp) (E : XK), Room k (A.deeper (PyProof.Rows.envOfC qual scope s.heap.objs.size f cdv)) →
      GSs (cxOf (L2.CX P w) P w K mg base N qual scope f cdv A outer s H E) C (fun cls d _ H' => E cls d H') body ms) : FnOk P w K mg base (L2.CX P w) (k + 1) f fd ps (spM K C (runB ps.length N.length ms)) :=
  F.ok S (fun vs H Q E h => spM_len h) fun cdv A outer s H vs Q E hr h => body_sim hN rfl (hb cdv A outer s H E hr) h
end
end MP

/-! zip of a tuple and a list (the library has it of two lists, of two tuples): the same walk with the other iterator in the second place. Own text. -/
namespace MP
open PySem.Spec PySem PyProof.Rows L2
open PySem.Sem (wp)
section
variable {prog : Program} {w : World} {A : Around} {Er : Value → Shared → Prop} {s : Shared}
theorem zipM_next_item {zo tA tB ia ib la lb : Addr} {na nb : Nat} {us ws : Array Value} {x0 y0 pa pb : Value} {R : Value → Shared → Prop} (dA : ZipApart zo tA tB ia ib la lb)
    (gz : IsZip s.heap zo tA tB .none) (gA : IsPair s.heap tA (.ref ia) (.ref ib)) (gB : IsPair s.heap tB pa pb)
    (j1 : s.heap.IsTupleIter ia la na) (j2 : s.heap.IsListIter ib lb nb) (t1 : s.heap.IsTuple la us) (t2 : s.heap.IsList lb ws) (ex : us[na]? = some x0) (ey : ws[nb]? = some y0)
    (kQ : ∀ h', IsZip h' zo tA tB (rawInt s.heap.objs.size) → IsPair h' tB x0 y0 → h'.IsTupleIter ia la (na + 1) → h'.IsListIter ib lb (nb + 1) → IsPair h' s.heap.objs.size x0 y0 → h'.objs.size = s.heap.objs.size + 1 →
      (∀ cc ob, cc ≠ zo → cc ≠ tB → cc ≠ ia → cc ≠ ib → s.heap.get? cc = some ob → h'.get? cc = some ob) → R (.ref s.heap.objs.size) { s with heap := h' }) :
    wpAny (model prog w) A (Builtin.«zip.__next__» ⟨[.ref zo], []⟩) (fun fin s' => ∃ v, fin = .done (.ret v) ∧ R v s') Er s := by
  show wpAny _ _ (field (.ref zo) 2 >>= _) _ _ _
  refine wpAny_bind (wpAny_field gz rfl (x := .bool false) rfl ?_)
  show wpAny _ _ (field (.ref zo) 3 >>= _) _ _ _
  refine wpAny_bind (wpAny_field gz rfl (x := .ref tA) rfl ?_)
  refine wpAny_bind (wpAny_seqItems gA rfl ?_)
  show wpAny _ _ (Builtin.SmallTypes.ownedTupleIsFree (.ref zo) >>= _) _ _ _
  refine wpAny_bind ?_
  unfold Builtin.SmallTypes.ownedTupleIsFree; refine wpAny_bind (wpAny_field gz rfl (x := .none) rfl (wpAny_pure ?_))
  simp only [if_true]
  refine wpAny_bind (wpAny_rule ?_); refine wpAny_bind (wpAny_field gz rfl (x := .ref tB) rfl ?_)
  refine wpAny_bind (wpAny_setField_rec gz (by simp) fun m₁ gz₁ s₁ => ?_)
  replace gz₁ : IsZip m₁ zo tA tB .ellipsis := gz₁
  refine wpAny_bind ?_; simp only [List.zipIdx_cons, List.zipIdx_nil, List.forIn_cons, List.forIn_nil]

  refine wpAny_bind (wpAny_bind (wpAny_onRaise ?_)); show wpAny _ _ (Builtin.SmallTypes.nextOf (.ref ia) >>= _) _ _ _
  refine wpAny_bind (RZ.nextOf_tuple_item (j1.extBut s₁.extBut dA.i1z) (t1.extBut s₁.extBut dA.l1z) ex fun m₂ j1₂ s₂ => wpAny_pure ?_)
  have gB₂ : IsPair m₂ tB pa pb := s₂.extBut _ _ dA.TOi1 (s₁.extBut _ _ dA.TOz gB)
  refine wpAny_bind (wpAny_seqItems gB₂ rfl ?_)
  refine wpAny_bind (wpAny_updateSeq_pair gB₂ fun m₃ gB₃ s₃ => ?_)
  replace gB₃ : IsPair m₃ tB x0 pb := gB₃; refine wpAny_bind (wpAny_letGo (wpAny_pure ?_))

  refine wpAny_bind (wpAny_bind (wpAny_onRaise ?_)); show wpAny _ _ (Builtin.SmallTypes.nextOf (.ref ib) >>= _) _ _ _
  refine wpAny_bind (wpAny_nextOf_list_item (((j2.extBut s₁.extBut dA.i2z).extBut s₂.extBut dA.i12.symm).extBut s₃.extBut dA.TOi2.symm)
    (((t2.extBut s₁.extBut dA.l2z).extBut s₂.extBut dA.l2i1).extBut s₃.extBut dA.l2TO) ey fun m₄ j2₄ s₄ => wpAny_pure ?_)
  have gB₄ : IsPair m₄ tB x0 pb := s₄.extBut _ _ dA.TOi2 gB₃
  refine wpAny_bind (wpAny_seqItems gB₄ rfl ?_)
  refine wpAny_bind (wpAny_updateSeq_pair gB₄ fun m₅ gB₅ s₅ => ?_)
  replace gB₅ : IsPair m₅ tB x0 y0 := gB₅; refine wpAny_bind (wpAny_letGo (wpAny_pure (wpAny_pure ?_)))

  refine wpAny_bind (wpAny_seqItems gB₅ rfl ?_)
  refine wpAny_bind (wpAny_newTuple ?_); have gs : m₅.objs.size = s.heap.objs.size := by rw [s₅.1, s₄.1, s₃.1, s₂.1, s₁.1]
  have gz₅ : IsZip m₅ zo tA tB .ellipsis := s₅.extBut _ _ dA.TOz.symm (s₄.extBut _ _ dA.i2z.symm (s₃.extBut _ _ dA.TOz.symm (s₂.extBut _ _ dA.i1z.symm gz₁)))
  have hk₅ : ∀ cc ob, cc ≠ zo → cc ≠ tB → cc ≠ ia → cc ≠ ib → s.heap.get? cc = some ob → m₅.get? cc = some ob := fun cc ob c1 c2 c3 c4 er =>
    s₅.extBut _ _ c2 (s₄.extBut _ _ c4 (s₃.extBut _ _ c2 (s₂.extBut _ _ c3 (s₁.extBut _ _ c1 er))))
  have j1₅ : m₅.IsTupleIter ia la (na + 1) := ((j1₂.extBut s₃.extBut dA.TOi1.symm).extBut s₄.extBut dA.i12).extBut s₅.extBut dA.TOi1.symm
  have j2₅ : m₅.IsListIter ib lb (nb + 1) := j2₄.extBut s₅.extBut dA.TOi2.symm
  have gl : zo < m₅.objs.size := Heap.lt_size gz₅
  have glB : tB < m₅.objs.size := Heap.lt_size gB₅
  have gl1 : ia < m₅.objs.size := by obtain ⟨_, er, _⟩ := j1₅; exact Heap.lt_size er
  have gl2 : ib < m₅.objs.size := by obtain ⟨_, er, _⟩ := j2₅; exact Heap.lt_size er
  show wpAny _ _ (Builtin.SmallTypes.ownedTupleHandOut (.ref zo) (.ref m₅.objs.size) >>= _) _ _ _
  refine wpAny_bind ?_
  unfold Builtin.SmallTypes.ownedTupleHandOut; have gz₆ : IsZip (m₅.push { cls := .type "tuple", data := .seq #[x0, y0] }) zo tA tB .ellipsis := Heap.get?_push_of_some _ gz₅
  refine wpAny_bind (wpAny_setField_rec gz₆ (by simp) fun m₇ gz₇ s₇ => ?_)
  replace gz₇ : IsZip m₇ zo tA tB (rawInt m₅.objs.size) := gz₇
  refine wpAny_setField_rec gz₇ (by simp) fun m₈ gz₈ s₈ => ?_
  replace gz₈ : IsZip m₈ zo tA tB (rawInt m₅.objs.size) := gz₈
  have kp : ∀ cc ob, cc ≠ zo → m₅.get? cc = some ob → m₈.get? cc = some ob := fun cc ob c1 er => s₈.extBut _ _ c1 (s₇.extBut _ _ c1 (Heap.get?_push_of_some _ er))
  have gT₈ : IsPair m₈ m₅.objs.size x0 y0 := s₈.extBut _ _ (Nat.ne_of_gt gl) (s₇.extBut _ _ (Nat.ne_of_gt gl) (Heap.get?_push_size _ rfl))
  have gz8 : m₈.objs.size = m₅.objs.size + 1 := by rw [s₈.1, s₇.1, Heap.size_push]
  rw [gs] at gz₈ gT₈ gz8
  refine wpAny_pure ⟨_, rfl, ?_⟩; show R (.ref m₅.objs.size) _
  rw [gs]
  exact kQ m₈ gz₈ (kp _ _ dA.TOz gB₅) (j1₅.at fun ob er => kp _ ob dA.i1z er) (j2₅.at fun ob er => kp _ ob dA.i2z er) gT₈ gz8 fun cc ob c1 c2 c3 c4 er => kp cc ob c1 (hk₅ cc ob c1 c2 c3 c4 er)

theorem zipM_next_end {zo tA tB ia ib la lb : Addr} {na nb : Nat} {us ws : Array Value} {pa pb : Value} {R : Fin → Shared → Prop} (hn : A.handled = none) (dA : ZipApart zo tA tB ia ib la lb)
    (gz : IsZip s.heap zo tA tB .none) (gA : IsPair s.heap tA (.ref ia) (.ref ib)) (gB : IsPair s.heap tB pa pb)
    (j1 : s.heap.IsTupleIter ia la na) (j2 : s.heap.IsListIter ib lb nb) (t1 : s.heap.IsTuple la us) (t2 : s.heap.IsList lb ws) (fe : us[na]? = none ∨ ws[nb]? = none)
    (kE : ∀ h' er, (∀ cc ob, cc ≠ zo → cc ≠ tB → cc ≠ ia → cc ≠ ib → s.heap.get? cc = some ob → h'.get? cc = some ob) → (∃ ob, h'.get? er = some ob ∧ ob.cls = .type "StopIteration") → Er (.ref er) { s with heap := h' }) :
    wpAny (model prog w) A (Builtin.«zip.__next__» ⟨[.ref zo], []⟩) R Er s := by
  show wpAny _ _ (field (.ref zo) 2 >>= _) _ _ _
  refine wpAny_bind (wpAny_field gz rfl (x := .bool false) rfl ?_)
  show wpAny _ _ (field (.ref zo) 3 >>= _) _ _ _
  refine wpAny_bind (wpAny_field gz rfl (x := .ref tA) rfl ?_)
  refine wpAny_bind (wpAny_seqItems gA rfl ?_)
  show wpAny _ _ (Builtin.SmallTypes.ownedTupleIsFree (.ref zo) >>= _) _ _ _
  refine wpAny_bind ?_
  unfold Builtin.SmallTypes.ownedTupleIsFree; refine wpAny_bind (wpAny_field gz rfl (x := .none) rfl (wpAny_pure ?_))
  simp only [if_true]
  refine wpAny_bind (wpAny_rule ?_); refine wpAny_bind (wpAny_field gz rfl (x := .ref tB) rfl ?_)
  refine wpAny_bind (wpAny_setField_rec gz (by simp) fun m₁ gz₁ s₁ => ?_)
  replace gz₁ : IsZip m₁ zo tA tB .ellipsis := gz₁
  refine wpAny_bind ?_
  simp only [List.zipIdx_cons, List.zipIdx_nil, List.forIn_cons, List.forIn_nil]; refine wpAny_bind (wpAny_bind (wpAny_onRaise ?_))
  show wpAny _ _ (Builtin.SmallTypes.nextOf (.ref ia) >>= _) _ _ _
  cases ex : us[na]? with
  | none =>
    refine wpAny_bind (RZ.nextOf_tuple_end hn (j1.extBut s₁.extBut dA.i1z) (t1.extBut s₁.extBut dA.l1z) ex fun m₂ er s₂ hr => ?_)
    obtain ⟨ob1, oe1, ce1⟩ := hr
    have gz₂ : IsZip m₂ zo tA tB .ellipsis := s₂ _ _ dA.i1z.symm gz₁
    have ez : er ≠ zo := fun x0 => by subst x0; rw [gz₂] at oe1; cases oe1; simp at ce1
    refine wpAny_setField_rec gz₂ (by simp) fun m₃ _ s₃ => kE m₃ er (fun cc ob c1 _ c3 _ x0 => s₃.extBut _ _ c1 (s₂ _ _ c3 (s₁.extBut _ _ c1 x0))) ⟨ob1, s₃.extBut _ _ ez oe1, ce1⟩
  | some x0 =>
    have ey : ws[nb]? = none := by rcases fe with h | h; rw [ex] at h; cases h; exact h
    refine wpAny_bind (RZ.nextOf_tuple_item (j1.extBut s₁.extBut dA.i1z) (t1.extBut s₁.extBut dA.l1z) ex fun m₂ j1₂ s₂ => wpAny_pure ?_)
    have gB₂ : IsPair m₂ tB pa pb := s₂.extBut _ _ dA.TOi1 (s₁.extBut _ _ dA.TOz gB)
    refine wpAny_bind (wpAny_seqItems gB₂ rfl ?_)
    refine wpAny_bind (wpAny_updateSeq_pair gB₂ fun m₃ gB₃ s₃ => ?_)
    refine wpAny_bind (wpAny_letGo (wpAny_pure ?_)); refine wpAny_bind (wpAny_bind (wpAny_onRaise ?_))
    show wpAny _ _ (Builtin.SmallTypes.nextOf (.ref ib) >>= _) _ _ _
    refine wpAny_bind (wpAny_nextOf_list_end hn (((j2.extBut s₁.extBut dA.i2z).extBut s₂.extBut dA.i12.symm).extBut s₃.extBut dA.TOi2.symm)
      (((t2.extBut s₁.extBut dA.l2z).extBut s₂.extBut dA.l2i1).extBut s₃.extBut dA.l2TO) ey fun m₄ er s₄ hr => ?_)
    obtain ⟨ob1, oe1, ce1⟩ := hr
    have gz₄ : IsZip m₄ zo tA tB .ellipsis := s₄ _ _ dA.i2z.symm (s₃.extBut _ _ dA.TOz.symm (s₂.extBut _ _ dA.i1z.symm gz₁))
    have ez : er ≠ zo := fun x0 => by subst x0; rw [gz₄] at oe1; cases oe1; simp at ce1
    refine wpAny_setField_rec gz₄ (by simp) fun m₅ _ s₅ => kE m₅ er (fun cc ob c1 c2 c3 c4 x0 => s₅.extBut _ _ c1 (s₄ _ _ c4 (s₃.extBut _ _ c2 (s₂.extBut _ _ c3 (s₁.extBut _ _ c1 x0))))) ⟨ob1, s₅.extBut _ _ ez oe1, ce1⟩

theorem pyNext_zipM_item {zo tA tB ia ib la lb : Addr} {na nb : Nat} {us ws : Array Value} {x0 y0 pa pb : Value} {R : Option Value → Shared → Prop} (dA : ZipApart zo tA tB ia ib la lb)
    (gz : IsZip s.heap zo tA tB .none) (gA : IsPair s.heap tA (.ref ia) (.ref ib)) (gB : IsPair s.heap tB pa pb)
    (j1 : s.heap.IsTupleIter ia la na) (j2 : s.heap.IsListIter ib lb nb) (t1 : s.heap.IsTuple la us) (t2 : s.heap.IsList lb ws) (ex : us[na]? = some x0) (ey : ws[nb]? = some y0)
    (kQ : ∀ h', IsZip h' zo tA tB (rawInt s.heap.objs.size) → IsPair h' tB x0 y0 → h'.IsTupleIter ia la (na + 1) → h'.IsListIter ib lb (nb + 1) → IsPair h' s.heap.objs.size x0 y0 → h'.objs.size = s.heap.objs.size + 1 →
      (∀ cc ob, cc ≠ zo → cc ≠ tB → cc ≠ ia → cc ≠ ib → s.heap.get? cc = some ob → h'.get? cc = some ob) → R (some (.ref s.heap.objs.size)) { s with heap := h' }) :
    wpAny (model prog w) A (pyNext (.ref zo)) R Er s := by
  have gT : s.TypeIs (.ref zo) "zip" := ⟨_, gz, rfl⟩
  unfold pyNext
  exact wpAny_bind (wpAny_attempt (wpAny_callSpecial?_slot (name := Str.ofString "__next__") gT F.slot_zip_next
    (wpAny_call_entry F.slot_zip_next gT F.entry_zip_next
      (zipM_next_item dA gz gA gB j1 j2 t1 t2 ex ey fun h' a1 a2 a3 a4 a5 a6 a7 => wpAny_pure (kQ h' a1 a2 a3 a4 a5 a6 a7)) (F.args_zip_next_1 _))))

theorem pyNext_zipM_end {zo tA tB ia ib la lb : Addr} {na nb : Nat} {us ws : Array Value} {pa pb : Value} {R : Option Value → Shared → Prop} (hn : A.handled = none) (dA : ZipApart zo tA tB ia ib la lb)
    (gz : IsZip s.heap zo tA tB .none) (gA : IsPair s.heap tA (.ref ia) (.ref ib)) (gB : IsPair s.heap tB pa pb)
    (j1 : s.heap.IsTupleIter ia la na) (j2 : s.heap.IsListIter ib lb nb) (t1 : s.heap.IsTuple la us) (t2 : s.heap.IsList lb ws) (fe : us[na]? = none ∨ ws[nb]? = none)
    (kQ : ∀ h', (∀ cc ob, cc ≠ zo → cc ≠ tB → cc ≠ ia → cc ≠ ib → s.heap.get? cc = some ob → h'.get? cc = some ob) → R none { s with heap := h' }) : wpAny (model prog w) A (pyNext (.ref zo)) R Er s := by
  have gT : s.TypeIs (.ref zo) "zip" := ⟨_, gz, rfl⟩
  unfold pyNext
  refine wpAny_bind (wpAny_attempt (wpAny_callSpecial?_slot (name := Str.ofString "__next__") gT F.slot_zip_next
    (wpAny_call_entry F.slot_zip_next gT F.entry_zip_next (zipM_next_end hn dA gz gA gB j1 j2 t1 t2 fe fun h' er hk1 hr => ?_) (F.args_zip_next_1 _))))
  obtain ⟨ob, ho, hc⟩ := hr
  refine wpAny_bind (wpAny_isInstance (T := "StopIteration") (b := true) ⟨ob, ho, hc⟩ isSubtype_stop ?_)
  exact wpAny_pure (kQ _ hk1)
end
abbrev zmH1 (h : Heap) (la : Addr) : Heap := h.push { cls := .type "tuple_iterator", data := .fields #[.ref la, .int 0 0] }
abbrev zmH2 (h : Heap) (la lb : Addr) : Heap := (zmH1 h la).push { cls := .type "list_iterator", data := .fields #[.ref lb, .int 0 0] }
abbrev zmH3 (h : Heap) (la lb : Addr) : Heap := (zmH2 h la lb).push { cls := .type "tuple", data := .seq #[.ref h.objs.size, .ref (zmH1 h la).objs.size] }
abbrev zmH4 (h : Heap) (la lb : Addr) : Heap := (zmH3 h la lb).push { cls := .type "tuple", data := .seq #[.none, .none] }
abbrev zmH5 (h : Heap) (la lb : Addr) : Heap := (zmH4 h la lb).push { cls := .type "zip", data := .fields #[.none, .bool false, .bool false, .ref (zmH2 h la lb).objs.size, .ref (zmH3 h la lb).objs.size] }

theorem meets_zipM_new (la lb : Addr) (us ws : Array Value) :
    Meets (Builtin.«zip.__new__» ⟨[.type "zip", .ref la, .ref lb], []⟩) (fun _ R s => s.heap.IsTuple la us ∧ s.heap.IsList lb ws ∧
      R (.ok (.ret (.ref (zmH4 s.heap la lb).objs.size))) { s with heap := zmH5 s.heap la lb }) :=
  .of_wp fun pg w A R s h => by
    obtain ⟨hw, g, d, tk, os⟩ := s; obtain ⟨t1, t2, h⟩ := h
    have gsub := sub_zip
    have gL1 : Heap.IsTuple (Shared.heap ⟨hw, g, d, tk, os⟩) la us := t1
    have gL2 : Heap.IsList (Shared.heap ⟨hw.push { cls := .type "tuple_iterator", data := .fields #[.ref la, .int 0 0] }, g, d, tk, os⟩) lb ws := Heap.IsList.push t2 _
    wp_walk using wpAny_pyIter_tuple gL1, wpAny_pyIter_list gL2
    exact ⟨_, rfl, h⟩

section
variable {prog : Program} {w : World} {A : Around} {Er : Value → Shared → Prop}  {s : Shared}

theorem call_zipM {la lb : Addr} {us ws : Array Value} {R : Value → Shared → Prop} (t1 : s.heap.IsTuple la us) (t2 : s.heap.IsList lb ws) (h : ∀ h', IsZip h' (s.heap.objs.size + 4) (s.heap.objs.size + 2) (s.heap.objs.size + 3) .none → IsPair h' (s.heap.objs.size + 2) (.ref s.heap.objs.size) (.ref (s.heap.objs.size + 1)) →
      IsPair h' (s.heap.objs.size + 3) .none .none → h'.IsTupleIter s.heap.objs.size la 0 → h'.IsListIter (s.heap.objs.size + 1) lb 0 → h'.objs.size = s.heap.objs.size + 5 →
      (∀ cc ob, s.heap.get? cc = some ob → h'.get? cc = some ob) → R (.ref (s.heap.objs.size + 4)) { s with heap := h' }) :
    wpAny (model prog w) A (call (.type "zip") [.ref la, .ref lb]) R Er s := by
  refine callType_new F.called_zip (by decide) (F.typeCall_zip_2 _ _) (F.newCall_zip_2 _ _) (fun it => F.args_object_init_3 it _ _) F.entry_zip_new
    (meets_zipM_new la lb us ws) ⟨t1, t2, ?_⟩
  have z1 : (zmH1 s.heap la).objs.size = s.heap.objs.size + 1 := Heap.size_push ..
  have z2 : (zmH2 s.heap la lb).objs.size = s.heap.objs.size + 2 := by rw [Heap.size_push, z1]
  have z3 : (zmH3 s.heap la lb).objs.size = s.heap.objs.size + 3 := by rw [Heap.size_push, z2]
  have z4 : (zmH4 s.heap la lb).objs.size = s.heap.objs.size + 4 := by rw [Heap.size_push, z3]
  have z5 : (zmH5 s.heap la lb).objs.size = s.heap.objs.size + 5 := by rw [Heap.size_push, z4]
  have g5 : (zmH5 s.heap la lb).get? (zmH4 s.heap la lb).objs.size = some _ := Heap.get?_push_size _ rfl
  have g4 : (zmH5 s.heap la lb).get? (zmH3 s.heap la lb).objs.size = some _ := Heap.get?_push_of_some _ (Heap.get?_push_size _ rfl)
  have g3 : (zmH5 s.heap la lb).get? (zmH2 s.heap la lb).objs.size = some _ := Heap.get?_push_of_some _ (Heap.get?_push_of_some _ (Heap.get?_push_size _ rfl))
  have g2 : (zmH5 s.heap la lb).get? (zmH1 s.heap la).objs.size = some _ := Heap.get?_push_of_some _ (Heap.get?_push_of_some _ (Heap.get?_push_of_some _ (Heap.get?_push_size _ rfl)))
  have g1 : (zmH5 s.heap la lb).get? s.heap.objs.size = some _ := Heap.get?_push_of_some _ (Heap.get?_push_of_some _ (Heap.get?_push_of_some _ (Heap.get?_push_of_some _ (Heap.get?_push_size _ rfl))))
  show _ ∧ _
  rw [z2, z3, z4] at g5
  rw [z1, z2] at g3
  rw [z3] at g4
  rw [z1] at g2
  rw [z4]
  exact ⟨⟨_, g5, rfl⟩, h _ g5 g3 g4 ⟨_, g1, rfl, rfl⟩ ⟨_, g2, rfl, rfl⟩ z5 fun cc ob x0 =>
    Heap.get?_push_of_some _ (Heap.get?_push_of_some _ (Heap.get?_push_of_some _ (Heap.get?_push_of_some _ (Heap.get?_push_of_some _ x0))))⟩
end

/-- the tuple at pa and the list at pb as they stand at each turn, the items in new pairs -/
def ItzM (K : PySem.W.Frag) (pa pb : Addr) : It :=
  ⟨fun i H => ∃ (us ws : List V) (x0 y0 : V), SqT K H pa us ∧ SqL K H pb ws ∧ us[i]? = some x0 ∧ ws[i]? = some y0,
    fun i H v H' => ∃ T x0 y0, v = .ref T ∧ H T = none ∧ H' = upd H T (.tup [x0, y0]) ∧ (∀ us, SqT K H pa us → us[i]? = some x0) ∧ ∀ ws, SqL K H pb ws → ws[i]? = some y0,
    fun i H => ∃ us ws : List V, SqT K H pa us ∧ SqL K H pb ws ∧ (us.length ≤ i ∨ ws.length ≤ i)⟩
theorem turn_zipM {P : Program} {w : World} {K : PySem.W.Frag} {elts : List Expr} {kk : Nat} {tpos : Pos} {pa pb zo tA tB ia ib : Addr} (dA : ZipApart zo tA tB ia ib pa pb) :
    Turn P w K (.Tuple elts kk tpos) (ItzM K pa pb) [zo, tA, tB, ia, ib] zo (fun i h => IsZip h zo tA tB .none ∧ IsPair h tA (.ref ia) (.ref ib) ∧ (∃ x0 y0, IsPair h tB x0 y0) ∧ h.IsTupleIter ia pa i ∧ h.IsListIter ib pb i) where
  mem := by simp
  obj := fun i h st cc hc => by
    obtain ⟨gz, gA, ⟨x0, y0, gB⟩, ⟨o1, e1, _, d1⟩, ⟨o2, e2, _, d2⟩⟩ := st
    have e' : cc = zo ∨ cc = tA ∨ cc = tB ∨ cc = ia ∨ cc = ib := by simpa using hc
    rcases e' with (q | q | q | q | q)
    · rw [q]; exact ⟨_, gz, fun v q => nomatch q⟩
    · rw [q]; exact ⟨_, gA, fun v q => nomatch q⟩
    · rw [q]; exact ⟨_, gB, fun v q => nomatch q⟩
    · rw [q]; exact ⟨o1, e1, fun v y => by rw [d1] at y; cases y⟩
    · rw [q]; exact ⟨o2, e2, fun v y => by rw [d2] at y; cases y⟩
  keep := fun i h h' st k => by
    obtain ⟨gz, gA, ⟨x0, y0, gB⟩, j1, j2⟩ := st
    exact ⟨k zo (by simp) _ gz, k tA (by simp) _ gA, ⟨x0, y0, k tB (by simp) _ gB⟩, j1.at fun ob q => k ia (by simp) ob q, j2.at fun ob q => k ib (by simp) ob q⟩
  item := by
    intro X hP hw hK hc i pins s σ H Er I hf st hg
    subst hP hw hK
    obtain ⟨gz, gA, ⟨x0, y0, gB⟩, j1, j2⟩ := st
    obtain ⟨us, ws, x0, y0, hqx, hqy, ex, ey⟩ := hg
    obtain ⟨its, rv, p, _⟩ := I.tuple hqx; obtain ⟨its2, rv2, p2, _⟩ := I.list hqy
    obtain ⟨u, hu, ru⟩ := rv.get ex
    obtain ⟨u2, hu2, ru2⟩ := rv2.get ey
    have hzl : zo < s.heap.objs.size := Heap.lt_size gz
    refine pyNext_zipM_item dA gz gA gB j1 j2 p p2.isList (x0 := u) (y0 := u2) (by simpa using hu) (by simpa using hu2) fun h' z' TO' h1' h2' gT gs hk1 => ?_
    refine ⟨_, rfl, wpAny_letOwnedTupleGo_zip (s := { s with heap := h' }) z' fun h'' z'' sb => ?_⟩; have hT2 : h''.get? s.heap.objs.size = some { cls := .type "tuple", data := .seq #[u, u2] } := (sb.2 _ (Nat.ne_of_gt hzl)).trans gT
    have new : ObjOk X.prog X.w (upd H s.heap.objs.size (.tup [x0, y0])) h'' s.heap.objs.size (.tup [x0, y0]) :=
      ⟨(show 2 ≤ sizeLine by decide), [u, u2], .cons ru (.cons ru2 .nil), ⟨_, hT2, rfl, _, rfl⟩⟩
    have I1 : Inv X pins σ (upd H s.heap.objs.size (.tup [x0, y0])) { s with heap := h'' } :=
      I.turnedNew (t' := s.toks) (ch := [zo, tA, tB, ia, ib]) (fun cc ob hb q => (sb.2 cc (fun q' => hb (by simp [q']))).trans (hk1 cc ob (fun q' => hb (by simp [q'])) (fun q' => hb (by simp [q'])) (fun q' => hb (by simp [q'])) (fun q' => hb (by simp [q'])) q)) hf (Nat.le_refl _) new
    refine ⟨.ref s.heap.objs.size, _, I1, rfl, ⟨_, x0, y0, rfl, I.hok.fresh (Nat.le_refl _), rfl, fun l hl => by rw [I.tuple_inj hl hqx]; exact ex, fun l hl => by rw [I.list_inj hl hqy]; exact ey⟩, ⟨z'', ?_, ⟨u, u2, ?_⟩, ?_, ?_⟩, fun cc hcm => ?_⟩
    · exact (sb.2 _ dA.TIz).trans (hk1 _ _ dA.TIz dA.TITO dA.TIi1 dA.TIi2 gA)
    · exact (sb.2 _ dA.TOz).trans TO'
    · exact h1'.at fun ob q => (sb.2 _ dA.i1z).trans q
    · exact h2'.at fun ob q => (sb.2 _ dA.i2z).trans q
    · have hlt : cc < s.heap.objs.size := by
        have e' : cc = zo ∨ cc = tA ∨ cc = tB ∨ cc = ia ∨ cc = ib := by simpa using hcm
        rcases e' with (q | q | q | q | q)
        · rw [q]; exact hzl
        · rw [q]; exact Heap.lt_size gA
        · rw [q]; exact Heap.lt_size gB
        · rw [q]; obtain ⟨_, e1, _⟩ := j1; exact Heap.lt_size e1
        · rw [q]; obtain ⟨_, e2, _⟩ := j2; exact Heap.lt_size e2
      rw [upd_ne (Nat.ne_of_lt hlt)]; exact (hf cc hcm).1
  done := by
    intro X hP hw hK hc i pins s σ H Er I hf st hg
    subst hP hw hK
    obtain ⟨gz, gA, ⟨x0, y0, gB⟩, j1, j2⟩ := st
    obtain ⟨us, ws, hqx, hqy, fe⟩ := hg
    obtain ⟨its, rv, p, _⟩ := I.tuple hqx; obtain ⟨its2, rv2, p2, _⟩ := I.list hqy
    have la := rv.length
    have lb := rv2.length
    have hr : its.toArray[i]? = none ∨ its2.toArray[i]? = none := by
      rcases fe with q | q
      · exact .inl (by simp; omega)
      · exact .inr (by simp; omega)
    exact pyNext_zipM_end (I.ok.hd hc) dA gz gA gB j1 j2 p p2.isList hr fun h' hk1 => ⟨rfl, I.turnedL (t' := s.toks) (ch := [zo, tA, tB, ia, ib]) (fun cc ob hb q =>
      hk1 cc ob (fun q' => hb (by simp [q'])) (fun q' => hb (by simp [q'])) (fun q' => hb (by simp [q'])) (fun q' => hb (by simp [q'])) q) hf⟩
  self := fun A i s R Er st h => wpAny_pyIter_zip st.1 h


def iZipM (K : PySem.W.Frag) (ta : TA) : TI := fun σ H R => ta σ H fun vs H1 => ∃ a b xs ys, vs = [.ref a, .ref b] ∧ SqT K H1 a xs ∧ SqL K H1 b ys ∧ R (ItzM K a b) H1
theorem pi_zipM {X : Cx} {e e2 : Expr} {ta : TA} {p pos tpos : Pos} {elts : List Expr} {kk : Nat} (hg : Gl X "zip") (hm : X.mg "zip" = none) (ha : PA X [e, e2] ta) (hs : starEach [e, e2] X.env = (false, eval e X.env) :: starEach [e2] X.env := by rfl)
    (hpl : (backTo pos (starEach [e2] X.env)).any (·.1) = false := by rfl) : PI X (.Tuple elts kk tpos) (.Call (.Name "zip" p) [e, e2] [] pos) (iZipM X.K ta) := by
  refine ⟨fun pins s σ H R I h => Call_ (ld_blt I hg hm PyProof.Rows.boot_zip (PyProof.Rows.callWith_type1 (thn (ha.run pos pins s σ H _ I h) fun us s1 ⟨vs, H1, I1, r1, a, b, xs, ys, ex, hqx, hqy, q⟩ => ?_) hs hpl))⟩
  subst ex
  obtain ⟨u1, u2, rfl, r, r'⟩ : ∃ u1 u2, us = [u1, u2] ∧ RelV (.ref a) u1 ∧ RelV (.ref b) u2 := by
    cases r1 with
    | cons r rr =>
      cases rr with
      | cons r' rr => cases rr; exact ⟨_, _, rfl, r, r'⟩
  obtain rfl : u1 = Value.ref a := r
  obtain rfl : u2 = Value.ref b := r'
  obtain ⟨its, rv, p1, _⟩ := I1.tuple hqx
  obtain ⟨its2, rv2, p2, _⟩ := I1.list hqy; obtain ⟨o1, ho1, _⟩ := id p1
  refine call_zipM (show s1.heap.IsTuple a its.toArray from p1) p2.isList fun h' hz hTI hTO h1 h2 hsz hk => wpAny_pyIter_zip hz ?_
  have I2 : Inv X pins σ H1 { s1 with heap := h' } := I1.kept (t' := s1.toks) hk; refine ⟨s1.heap.objs.size + 4, [s1.heap.objs.size + 4, s1.heap.objs.size + 2, s1.heap.objs.size + 3, s1.heap.objs.size, s1.heap.objs.size + 1], _, _, H1, rfl, I2, turn_zipM (PySem.W.ktu_apart s1.heap.objs.size a b (Heap.lt_size ho1) p2.lt), ⟨hz, hTI, ⟨_, _, hTO⟩, h1, h2⟩, fun c hc => ?_, q⟩
  have hge : s1.heap.objs.size ≤ c := by
    simp only [List.mem_cons, List.not_mem_nil, or_false] at hc
    rcases hc with z | z | z | z | z <;> rw [z] <;> first | exact Nat.le_refl _ | exact Nat.le_add_right _ _
  exact I1.fpOk hge (I1.hok.fresh hge)
/-- zip of any two of lists and tuples but list and tuple -/
def iZipB (K : PySem.W.Frag) (ta : TA) : TI := fun σ H R => ta σ H fun vs H1 => ∃ a b xs ys, vs = [.ref a, .ref b] ∧ ((SqL K H1 a xs ∧ SqL K H1 b ys ∧ R (Itz K a b) H1) ∨ (SqT K H1 a xs ∧ SqT K H1 b ys ∧ R (RZ.ItzT K a b) H1))
section
variable {X : Cx} {C : Tab} {W : Wx} {pos p tpos : Pos} {a b : Expr} {elts : List Expr} {ma mb : ME} {kk : Nat}
/-- zip(tuple, list) -/
theorem gi_zipM (hm : X.mg "zip" = none) (ha : GE X C W a ma) (hb : GE X C W b mb) (hg : Gl X "zip" := by rfl) (hs : starEach [a, b] X.env = (false, eval a X.env) :: starEach [b] X.env := by rfl) (h1 : starEach [b] X.env = (false, eval b X.env) :: starEach [] X.env := by rfl)
    (hpl : (backTo pos (starEach [b] X.env)).any (·.1) = false := by rfl) : GI X C W (.Tuple elts kk tpos) (.Call (.Name "zip" p) [a, b] [] pos) (iZipTL ma mb) := PI.imp (pi_zipM hg hm (pa_cons ha (pa_cons hb pa_nil h1) hs) hs hpl) fun σ H R ⟨q0, q, env, s, eq, E, L, pz⟩ => by
  subst eq
  refine tM.first (f := fun x s1 => (mb env s1).bind fun y s2 => zipTL x y s2) E L pz (fun q1 x1 q2 a b w => w) fun x s1 vx q1 x1 E1 L1 y1 p1 => ?_
  refine tM.first (f := fun y s2 => zipTL x y s2) E1 L1 p1 (fun q1 x1 q2 a b w => w) fun y s2 vy q2 x2 E2 L2 y2 p2 => ?_
  have y1 := RD.mono x2.kp x y1
  cases y1 with
    | @tup u us ds g r =>
      cases y2 with
      | @lst v vs es g' r' =>
        refine ⟨u, v, us, vs, rfl, g.sq, SqL.of g'.1, p2 _ q2 (Ext.refl q2) L2 fun q3 s3 i k R3 => ⟨fun d d' h1 h2 => ?_, fun hi _ => ?_⟩⟩
        · cases h2
          have gT := (g.mono k).sq
          have gL : SqL X.K q3.H v vs := SqL.of (g'.mono k).1
          rw [List.getElem?_zipWith] at h1
          cases e1 : ds[i]? with
          | none => rw [e1] at h1; simp at h1
          | some d1 =>
            cases e2 : es[i]? with
            | none => rw [e1, e2] at h1; simp at h1
            | some d2 =>
              rw [e1, e2] at h1
              simp only [Option.some.injEq] at h1
              subst h1
              obtain ⟨w1, h3, h4⟩ := RDs.get (RDs.mono k _ r) e1
              obtain ⟨w2, h5, h6⟩ := RDs.get (RDs.mono k _ r') e2
              refine ⟨⟨us, vs, w1, w2, gT, gL, h3, h5⟩, fun z H3 ⟨T, x', y', z1, z2, z3, z4, z5⟩ => ?_⟩
              have e3 := z4 us gT
              have e4 := z5 vs gL
              rw [h3] at e3
              rw [h5] at e4
              cases e3
              cases e4
              subst z1 z3
              have x2 := Ext.new1 (o := .tup [w1, w2]) R3.wf z2
              exact ⟨⟨upd q3.H T (.tup [w1, w2]), q3.L, q3.r⟩, rfl, x2, R3.new1 z2, .tup (.inl ⟨upd_same, R3.wf.no z2⟩) (.cons (RD.mono x2.kp _ h4) (.cons (RD.mono x2.kp _ h6) .nil))⟩
        · have hi : i = min ds.length es.length := by simpa using hi
          refine ⟨us, vs, (g.mono k).sq, SqL.of (g'.mono k).1, ?_⟩
          rw [r.length, r'.length]
          omega
      | _ => exact p2.elim
    | _ => exact p2.elim
end

end MP

/-! From bodies to callees. Own text. -/
namespace MP
open PySem L2 TL
theorem rds1 {K : PySem.W.Frag} {q : Stt} {x0 : D} {vs : List V} (r : RDs K q [x0] vs) : ∃ v0, vs = [v0] ∧ RD K q x0 v0 := by
  cases r with
  | cons a r => cases r; exact ⟨_, rfl, a⟩
theorem rds2 {K : PySem.W.Frag} {q : Stt} {x0 x1 : D} {vs : List V} (r : RDs K q [x0, x1] vs) : ∃ v0 v1, vs = [v0, v1] ∧ RD K q x0 v0 ∧ RD K q x1 v1 := by
  cases r with
  | cons a r => obtain ⟨v1, rfl, b⟩ := rds1 r; exact ⟨_, v1, rfl, a, b⟩
theorem rds3 {K : PySem.W.Frag} {q : Stt} {x0 x1 x2 : D} {vs : List V} (r : RDs K q [x0, x1, x2] vs) : ∃ v0 v1 v2, vs = [v0, v1, v2] ∧ RD K q x0 v0 ∧ RD K q x1 v1 ∧ RD K q x2 v2 := by
  cases r with
  | cons a r => obtain ⟨v1, v2, rfl, b, c⟩ := rds2 r; exact ⟨_, v1, v2, rfl, a, b, c⟩
section
variable {P : Program} {w : World} {K : PySem.W.Frag} {mg : Str → Option Value} {base : Heap} {C : Tab}
theorem cal_of {k : Nat} {f : Addr} {fd : FuncData} {ps : List Str} {g : Fn} (F : FnOk P w K mg base (L2.CX P w) k f fd ps (spM K C g)) (b : Binds K fd ps []) : Cal P w K mg base C k f g :=
  ⟨fd, ps, [], [], [], g, F, b, .nil, fun _ => .nil, funext fun as => by rw [List.append_nil]⟩
end
end MP

/-! The law's call from the plain law. Own text. -/
namespace MP
open PySem L2 TL
/-- what the law's def promises -/
def spLaw (K : PySem.W.Frag) : Sp := fun vs H Q _ => ∃ (a : Addr) (ns : List Int), vs = [.ref a] ∧ SqL K H a (ns.map V.int) ∧ Only H ∧ ns.length ≤ 63 ∧ ∀ H', Q (.bl true) H'
theorem law_sp {K : PySem.W.Frag} {C : Tab} {g : Fn} (hT : C.t = []) (hg : ∀ ns : List Int, ns.length ≤ 63 → ∃ s, g [.scr ns] [] = .ok (.bl true) s) (vs : List V) (H : Hp) (Q : VK) (E : XK) (h : spLaw K vs H Q E) : spM K C g vs H Q E := by
  obtain ⟨a, ns, rfl, hS, hO, hl, hQ⟩ := h
  obtain ⟨s, e⟩ := hg ns hl
  refine ⟨⟨H, fun _ => False, []⟩, [], [.scr ns], rfl, ⟨⟨List.nodup_nil, fun a ha => (nomatch ha), fun a ha => ha.elim⟩, rfl, fun n o a e => by simp at e, fun p hp => by rw [hT] at hp; exact absurd hp (by simp)⟩, .cons (.scr ?_) .nil, ?_⟩
  · rcases hS with (h | ⟨o, h⟩) | h
    · rcases hO a with z | ⟨o, xs, z⟩
      · rw [h] at z; cases z
      · rw [h] at z; cases z
    · exact .inl ⟨o, h, fun z => z⟩
    · exact .inr (.inr (.inr h))
  · rw [e]
    intro b q' x r rd
    cases rd with
    | bl => exact hQ _
theorem walk63 {l : PySem.W.OpenLaw} {q : Program} {loose : List Str} {XP : (Str → Option Value) → Heap → Prop} {YP : World → Heap → Prop} {d : DefRec} {K : Params → PySem.W.Frag} (hn : l.most = some 63) (hdf : d.params.defaults = []) (hY : ∀ (w : World) (h : Heap), YP w h → (K w.params).In h) (F : ∀ (w : World) (mg : Str → Option Value) (fa : Addr) (h : Heap), (K w.params).In h → h.Ns mainGlobals mg → mg d.name = some (.ref fa) →
      ∃ fd : FuncData, (∀ (s : Shared) (u : Value), BindsTo s fd ⟨[u], []⟩ [("_law_script", u)]) ∧ ∀ base : Heap, (K w.params).In base → base.Ns mainGlobals mg → FnOk l.prog w (K w.params) mg base (L2.CX l.prog w) 60 fa fd ["_law_script"] (spLaw (K w.params))) : PySem.W.WalkO q loose XP YP l.row.toRowW d [] (fun f vs => PySem.call f vs) :=
  L2.walk_of (n := 63) (k := 60) (x := "_law_script") (CX := fun w => L2.CX l.prog w) (sp := fun w => spLaw (K w.params)) hn (by decide) hdf ⟨rfl, by decide, by decide⟩ hY F (fun _ _ a ns hl hO hS => ⟨a, ns, rfl, hS, hO, hl, fun _ => rfl⟩) fun _ _ _ _ _ h => by
    obtain ⟨_, _, _, _, _, _, _, _, _, _, _, _, z⟩ := h; exact z.elim
/-! ### laws with tables of code objects -/
/-- what the law's def promises, its tables empty -/
def spLawT (K : PySem.W.Frag) (T : List (Addr × Str)) (n : Nat) : Sp := fun vs H Q _ => ∃ (a : Addr) (ns : List Int), vs = [.ref a] ∧ SqL K H a (ns.map V.int) ∧ (∀ p ∈ T, H p.1 = some (.tbl #[])) ∧ ns.length ≤ n ∧ (∀ z ∈ ns, Builtin.Int.intBits z ≤ 1048576) ∧ ∀ H', Q (.bl true) H'
theorem law_spT {K : PySem.W.Frag} {C : Tab} {g : Fn} {n : Nat} (hg : ∀ ns : List Int, ns.length ≤ n → ∃ s, g [.scr ns] [] = .ok (.bl true) s) (vs : List V) (H : Hp) (Q : VK) (E : XK) (h : spLawT K C.t n vs H Q E) : spM K C g vs H Q E := by
  obtain ⟨a, ns, rfl, hS, hT, hl, _, hQ⟩ := h
  obtain ⟨s, e⟩ := hg ns hl
  refine ⟨⟨H, fun _ => False, []⟩, [], [.scr ns], rfl, ⟨⟨List.nodup_nil, fun a ha => (nomatch ha), fun a ha => ha.elim⟩, rfl, fun n o a e => by simp at e, fun p hp => LamX.TabS.nil (hT p hp)⟩, .cons (.scr ?_) .nil, ?_⟩
  · rcases hS with (h | ⟨o, h⟩) | h
    · exact .inr (.inl ⟨h, fun z => z⟩)
    · exact .inl ⟨o, h, fun z => z⟩
    · exact .inr (.inr (.inr h))
  · rw [e]
    intro b q' x r rd
    cases rd with
    | bl => exact hQ _
/-- the facts of a def, of a class, of written values -/
theorem gl_mk {K : PySem.W.Frag} {h : Heap} {mg : Str → Option Value} {x : Str} {u : Value} {d : D} (X : K.In h) (G : h.Ns mainGlobals mg) (a : PySem.W.nsIn K mainGlobals x = some (some u)) (b : KVal K 6 u d = true) : ∃ u, mg x = some u ∧ KVal K 6 u d = true := ⟨u, PySem.W.mg_of X G a, b⟩
theorem kd_mk {K : PySem.W.Frag} {w : World} {h : Heap} {mg : Str → Option Value} {x : Str} {d : Addr} {es : Array DictEntry} {n : Nat} {tab : List (List Nat × D)} (X : K.In h) (G : h.Ns mainGlobals mg) (a : PySem.W.nsIn K mainGlobals x = some (some (.ref d))) (l : K.lookup d = some ⟨.type "dict", none, .dict es n, #[]⟩)
    (k : PySem.W.KeysLit w.params es.toList) (lo : (d == sysModules) = false) (e : KEnts K 6 es.toList tab = true) : ∃ a, mg x = some (.ref a) ∧ KDic K w a tab := ⟨d, PySem.W.mg_of X G a, es, n, l, k, lo, e⟩
end MP

/-! The machine read by simp; walks over plain lists. Own text. -/
namespace MP
@[simp] theorem s_eVar (i : Nat) (env : Env) (s : Sto) : eVar i env s = match env[i]? with | some (.val d) => .ok d s | _ => .stk := rfl
@[simp] theorem s_eBor (i : Nat) (env : Env) (s : Sto) : eBor i env s = match env[i]? with | some (.val d) => .ok d s | some (.own ds) => .ok (.lst ds) s | _ => .stk := rfl
@[simp] theorem s_eC (d : D) (env : Env) (s : Sto) : eC d env s = .ok d s := rfl
@[simp] theorem s_eOp2 (g : Op2) (a b : ME) (env : Env) (s : Sto) : eOp2 g a b env s = (a env s).bind fun x s1 => (b env s1).bind fun y s2 => .ofO (g s2 x y) s2 := rfl
@[simp] theorem s_eOp1 (g : Op1) (a : ME) (env : Env) (s : Sto) : eOp1 g a env s = (a env s).bind fun x s1 => .ofO (g s1 x) s1 := rfl
@[simp] theorem s_aNil (env : Env) (s : Sto) : aNil env s = .ok [] s := rfl
@[simp] theorem s_aCons (a : ME) (r : MA) (env : Env) (s : Sto) : aCons a r env s = (a env s).bind fun x s1 => (r env s1).bind fun xs s2 => .ok (x :: xs) s2 := rfl
@[simp] theorem s_oNone (env : Env) (s : Sto) : oNone env s = .ok none s := rfl
@[simp] theorem s_oSome (a : ME) (env : Env) (s : Sto) : oSome a env s = (a env s).bind fun x s1 => match x with | .int i => .ok (some i) s1 | _ => .stk := rfl
@[simp] theorem s_lSl (a : ME) (lo hi : MO) (env : Env) (s : Sto) : lSl a lo hi env s = (a env s).bind fun x s1 => (lo env s1).bind fun l s2 => (hi env s2).bind fun h s3 => match view s3 x with | .lst ds => .ok (cutD ds l h) s3 | _ => .stk := rfl
@[simp] theorem s_eSlT (a : ME) (lo hi : MO) (env : Env) (s : Sto) : eSlT a lo hi env s = (a env s).bind fun x s1 => (lo env s1).bind fun l s2 => (hi env s2).bind fun h s3 => match x with | .tup ds => .ok (.tup (cutD ds l h)) s3 | _ => .stk := rfl
@[simp] theorem s_lOf (a : ME) (env : Env) (s : Sto) : lOf a env s = (a env s).bind fun x s1 => .ofO (seqOf s1 x) s1 := rfl
@[simp] theorem s_eTup (a : MA) (env : Env) (s : Sto) : eTup a env s = (a env s).bind fun ds s1 => if ds.length ≤ 1000 then .ok (.tup ds) s1 else .stk := rfl
@[simp] theorem s_lLst (a : MA) (env : Env) (s : Sto) : lLst a env s = (a env s).bind fun ds s1 => if ds.length ≤ 1000 then .ok ds s1 else .stk := rfl
@[simp] theorem s_eFrz (l : MA) (env : Env) (s : Sto) : eFrz l env s = (l env s).bind fun ds s1 => .ok (.lst ds) s1 := rfl
@[simp] theorem s_ePlc (l : MA) (env : Env) (s : Sto) : ePlc l env s = (l env s).bind fun ds s1 => .ok (.ref s1.length) (s1 ++ [.lst ds]) := rfl
@[simp] theorem s_tVal (a : ME) (env : Env) (s : Sto) : tVal a env s = (a env s).bind asB := rfl
@[simp] theorem s_tNot (t : MT) (env : Env) (s : Sto) : tNot t env s = (t env s).bind fun b s1 => .ok (!b) s1 := rfl
@[simp] theorem s_tAnd (t u : MT) (env : Env) (s : Sto) : tAnd t u env s = (t env s).bind fun b s1 => if b then u env s1 else .ok false s1 := rfl
@[simp] theorem s_tOr (t u : MT) (env : Env) (s : Sto) : tOr t u env s = (t env s).bind fun b s1 => if b then .ok true s1 else u env s1 := rfl
@[simp] theorem s_eAnd (a b : ME) (env : Env) (s : Sto) : eAnd a b env s = ((a env s).bind asB).bind fun c s1 => if c then b env s1 else .ok (.bl false) s1 := rfl
@[simp] theorem s_eOr (a b : ME) (env : Env) (s : Sto) : eOr a b env s = ((a env s).bind asB).bind fun c s1 => if c then .ok (.bl true) s1 else b env s1 := rfl
@[simp] theorem s_eNot (a : ME) (env : Env) (s : Sto) : eNot a env s = ((a env s).bind asB).bind fun c s1 => .ok (.bl (!c)) s1 := rfl
@[simp] theorem s_eIf (t : MT) (a b : ME) (env : Env) (s : Sto) : eIf t a b env s = (t env s).bind fun c s1 => if c then a env s1 else b env s1 := rfl
@[simp] theorem s_eChain (g h : Op2) (a b c : ME) (env : Env) (s : Sto) : eChain g h a b c env s = (a env s).bind fun x s1 => (b env s1).bind fun y s2 => (Res.ofO (g s2 x y) s2).bind fun z s3 => (asB z s3).bind fun k s4 => if k then (c env s4).bind fun w s5 => .ofO (h s5 y w) s5 else .ok (.bl false) s4 := rfl
@[simp] theorem s_eCall (g : Fn) (a : MA) (env : Env) (s : Sto) : eCall g a env s = (a env s).bind g := rfl
@[simp] theorem s_eFld (c : Nat) (o : ME) (f : String) (env : Env) (s : Sto) : eFld c o f env s = (o env s).bind fun x s1 => .ofO (fieldOf s1 c f x) s1 := rfl
@[simp] theorem s_eMeth (c : Nat) (m : String) (g : Fn) (o : ME) (a : MA) (env : Env) (s : Sto) : eMeth c m g o a env s = (o env s).bind fun x s1 => if isOf s1 c m x then (a env s1).bind fun ds s2 => g (x :: ds) s2 else .stk := rfl
@[simp] theorem s_iSeq (a : ME) (env : Env) (s : Sto) : iSeq a env s = (a env s).bind fun x s1 => .ofO (srcOf s1 x) s1 := rfl
@[simp] theorem s_iRng (a : ME) (env : Env) (s : Sto) : iRng a env s = (a env s).bind fun x s1 => match x with | .int j => if -(cap : Int) ≤ j ∧ j ≤ cap then .ok ⟨intsD 0 j.toNat, none⟩ s1 else .stk | _ => .stk := rfl
@[simp] theorem s_iEnum (a : ME) (env : Env) (s : Sto) : iEnum a env s = (a env s).bind fun x s1 => match x with | .lst ds => .ok ⟨ds.mapIdx fun i d => .tup [.int i, d], none⟩ s1 | _ => .stk := rfl
@[simp] theorem s_iStrI (a : ME) (env : Env) (s : Sto) : iStrI a env s = (a env s).bind fun x s1 => match x with | .str cs => .ok ⟨cs.map fun c => .str [c], none⟩ s1 | _ => .stk := rfl
@[simp] theorem s_iZipTL (a b : ME) (env : Env) (s : Sto) : iZipTL a b env s = (a env s).bind fun x s1 => (b env s1).bind fun y s2 => zipTL x y s2 := rfl
@[simp] theorem s_eTupRg (a : ME) (env : Env) (s : Sto) : eTupRg a env s = (a env s).bind fun x s1 => match x with | .int j => if 0 ≤ j ∧ j ≤ cap then .ok (.tup (intsD 0 j.toNat)) s1 else .stk | _ => .stk := rfl
@[simp] theorem s_lAdd (a b : ME) (env : Env) (s : Sto) : lAdd a b env s = (a env s).bind fun x s1 => (b env s1).bind fun y s2 => match view s2 x, view s2 y with | .lst xs, .lst ys => if xs.length + ys.length ≤ cap then .ok (xs ++ ys) s2 else .stk | _, _ => .stk := rfl
@[simp] theorem s_eJoin (a b : ME) (env : Env) (s : Sto) : eJoin a b env s = (a env s).bind fun x s1 => match x with | .str u => (b env s1).bind fun y s2 => joinAt u y s2 | _ => .stk := rfl
@[simp] theorem s_lSplit (a b : ME) (env : Env) (s : Sto) : lSplit a b env s = (a env s).bind fun x s1 => match x with | .str u => (b env s1).bind fun y s2 => cutAt u y s2 | _ => .stk := rfl
@[simp] theorem s_tYesM (env : Env) (s : Sto) : tYesM env s = .ok true s := rfl
@[simp] theorem s_sNext (e : Env) (s : Sto) : sNext e s = .nx e s := rfl
@[simp] theorem s_sSeq (a b : MS) (e : Env) (s : Sto) : sSeq a b e s = (a e s).andThen b := rfl
@[simp] theorem s_putE (g : MG) (d : D) (e : Env) (s : Sto) : putE g d e s = match g d e with | some e' => .nx e' s | none => .stk := rfl
@[simp] theorem s_sAsg (m : ME) (g : MG) (e : Env) (s : Sto) : sAsg m g e s = (m e s).go e fun d s1 => putE g d e s1 := rfl
@[simp] theorem s_gNm (i : Nat) (d : D) (env : Env) : gNm i d env = some (env.set i (.val d)) := rfl
@[simp] theorem s_sOwn (l : MA) (i : Nat) (e : Env) (s : Sto) : sOwn l i e s = (l e s).go e fun ds s1 => .nx (e.set i (.own ds)) s1 := rfl
@[simp] theorem s_sFrz (i : Nat) (e : Env) (s : Sto) : sFrz i e s = match e[i]? with | some (.own ds) => .nx (e.set i (.val (.lst ds))) s | _ => .stk := rfl
@[simp] theorem s_sApp (i : Nat) (m : ME) (e : Env) (s : Sto) : sApp i m e s = match e[i]? with | some (.own ds) => (m e s).go e fun d s1 => if ds.length < cap then .nx (e.set i (.own (ds ++ [d]))) s1 else .stk | _ => .stk := rfl
@[simp] theorem s_sExt (i : Nat) (l : ME) (e : Env) (s : Sto) : sExt i l e s = match e[i]? with | some (.own ds) => (l e s).go e fun x s1 => (match view s1 x with | .lst es => if ds.length + es.length < cap then .nx (e.set i (.own (ds ++ es))) s1 else .stk | _ => .stk) | _ => .stk := rfl
@[simp] theorem s_sDrop (m : ME) (e : Env) (s : Sto) : sDrop m e s = (m e s).go e fun _ s1 => .nx e s1 := rfl
@[simp] theorem s_sRet (m : ME) (e : Env) (s : Sto) : sRet m e s = (m e s).go e fun d s1 => .rt d s1 := rfl
@[simp] theorem s_sIf (t : MT) (a b : MS) (e : Env) (s : Sto) : sIf t a b e s = (t e s).go e fun c s1 => if c then a e s1 else b e s1 := rfl
@[simp] theorem s_sPar (i j : Nat) (a : MA) (e : Env) (s : Sto) : sPar i j a e s = (a e s).go e fun ds s1 => match ds with | [d, b] => .nx ((e.set i (.val d)).set j (.val b)) s1 | _ => .stk := rfl
@[simp] theorem s_sSet (o i m : ME) (e : Env) (s : Sto) : sSet o i m e s = (m e s).go e fun d s1 => (o e s1).go e fun x s2 => (i e s2).go e fun k s3 => match x, k with
  | .ref n, .int k => (match s3[n]? with
    | some (.lst ds) => (match place ds.length k with
      | some j => .nx e (s3.set n (.lst (ds.set j d)))
      | none => .stk)
    | _ => .stk)
  | _, _ => .stk := rfl
@[simp] theorem s_sFld (c : Nat) (o m : ME) (f : String) (e : Env) (s : Sto) : sFld c o m f e s = (m e s).go e fun d s1 => (o e s1).go e fun x s2 => match x with
  | .ref n => (match s2[n]? with
    | some (.ins c' fs) => if c' = c ∧ fs.length < 100 then .nx e (s2.set n (.ins c (putF' f d fs))) else .stk
    | _ => .stk)
  | _ => .stk := rfl
@[simp] theorem s_gTp (gs : List MG) (ds : List D) (env : Env) : gTp gs (.tup ds) env = gAll gs ds env := rfl
@[simp] theorem s_gAll0 (env : Env) : gAll [] [] env = some env := rfl
@[simp] theorem s_gAll1 (g : MG) (gs : List MG) (d : D) (ds : List D) (env : Env) : gAll (g :: gs) (d :: ds) env = (g d env).bind fun e => gAll gs ds e := rfl
@[simp] theorem s_runB (k n : Nat) (body : MS) (ds : List D) (s : Sto) : runB k n body ds s = if ds.length = k then (match body (ds.map .val ++ List.replicate (n - k) .emp) s with
  | .nx _ s => .ok .non s
  | .rt d s => .ok d s
  | .ex x _ s => .exc x s
  | _ => .stk) else .stk := rfl
/-- a, *b = a list or tuple not empty -/
theorem star1 (i j : Nat) (d : D) (ds : List D) (env : Env) (h : ds.length + 1 ≤ 16000) : gSt [gNm i] [] j (.tup (d :: ds)) env = some ((env.set i (.val d)).set j (.val (.lst ds))) := by
  simp [gSt, h]
theorem star1L (i j : Nat) (d : D) (ds : List D) (env : Env) (h : ds.length + 1 ≤ 16000) : gSt [gNm i] [] j (.lst (d :: ds)) env = some ((env.set i (.val d)).set j (.val (.lst ds))) := by
  simp [gSt, h]
/-! ### walks over lists that nothing changes -/
def forP (g : MG) (body : MS) : List D → Env → Sto → SRes
  | [], e, s => .nx e s
  | d :: ds, e, s => match g d e with
    | none => .stk
    | some e1 => match body e1 s with
      | .nx e2 s2 => forP g body ds e2 s2
      | .ct e2 s2 => forP g body ds e2 s2
      | .bk e2 s2 => .nx e2 s2
      | r => r
theorem forL_none (g : MG) (body : MS) (d0 : List D) : ∀ (ds : List D) (i : Nat) (e : Env) (s : Sto), forL ⟨d0, none⟩ g body i ds e s = forP g body ds e s
  | [], i, e, s => by simp [forL, forP, fin]
  | d :: ds, i, e, s => by
    simp only [forL, forP, cur, Option.bind_some]
    cases g d e with
    | none => rfl
    | some e1 =>
      simp only
      cases body e1 s <;> simp only [forL_none g body d0 ds]
def lcP (g : MG) (t : MT) (e : ME) (env : Env) : List D → Sto → Res (List D)
  | [], s => .ok [] s
  | d :: ds, s => (Res.ofO (g d env) s).bind fun env1 s => (calm (t env1 s)).bind fun b s1 =>
    if b then (calm (e env1 s1)).bind fun y s2 => (lcP g t e env ds s2).bind fun ys s3 => .ok (y :: ys) s3
    else lcP g t e env ds s1
theorem lcL_none (g : MG) (t : MT) (m : ME) (env : Env) (d0 : List D) : ∀ (ds : List D) (i : Nat) (s : Sto), lcL ⟨d0, none⟩ g t m env i ds s = lcP g t m env ds s
  | [], i, s => by simp [lcL, lcP, fin]
  | d :: ds, i, s => by
    simp only [lcL, lcP, cur, Option.bind_some]
    simp only [lcL_none g t m env d0 ds]
theorem s_sFor (mi : MI) (g : MG) (body : MS) (e : Env) (s s1 : Sto) (ds : List D) (h : mi e s = .ok ⟨ds, none⟩ s1) : sFor mi g body e s = forP g body ds e s1 := by
  show (mi e s).go e _ = _
  rw [h]
  exact forL_none g body ds ds 0 e s1
theorem s_lLc (mi : MI) (g : MG) (t : MT) (m : ME) (vs : List Nat) (env : Env) (s s1 : Sto) (ds : List D) (h : mi env s = .ok ⟨ds, none⟩ s1) (hl : ds.length ≤ cap) : lLc mi g t m vs env s = lcP g t m (wipeE env vs) ds s1 := by
  show (mi env s).bind _ = _
  rw [h]
  show (if ds.length ≤ cap then _ else _) = _
  rw [if_pos hl]
  exact lcL_none g t m _ ds ds 0 s1
@[simp] theorem Res.ok_match {α β : Type} (a : α) (s : Sto) (f : α → Sto → β) (g : Exn → Sto → β) (h : β) : (match (Res.ok a s : Res α) with | .ok a s => f a s | .exc x s => g x s | .stk => h) = f a s := rfl
end MP

/-! More of the machine read by simp. Own text. -/
namespace MP
@[simp] theorem s_sParO (i j : Nat) (l : MA) (m : ME) (e : Env) (s : Sto) : sParO i j l m e s = (l e s).go e fun ds s1 => (m e s1).go e fun b s2 => .nx ((e.set i (.own ds)).set j (.val b)) s2 := rfl
@[simp] theorem s_lMul (a b : ME) (env : Env) (s : Sto) : lMul a b env s = (a env s).bind fun x s1 => (b env s1).bind fun y s2 => mulAt x y s2 := rfl
@[simp] theorem s_eSlS (a : ME) (lo hi : MO) (env : Env) (s : Sto) : eSlS a lo hi env s = (a env s).bind fun x s1 => (lo env s1).bind fun l s2 => (hi env s2).bind fun h s3 => cutSAt x l h s3 := rfl
@[simp] theorem s_sSetD (o i m : ME) (e : Env) (s : Sto) : sSetD o i m e s = (m e s).go e fun d s1 => (o e s1).go e fun x s2 => (i e s2).go e fun k s3 => putAt e x k d s3 := rfl
@[simp] theorem s_eCnt (a b : ME) (env : Env) (s : Sto) : eCnt a b env s = (a env s).bind fun x s1 => match x with | .lst ds => (b env s1).bind fun y s2 => cntAt ds y s2 | _ => .stk := rfl
@[simp] theorem s_eIdx (a b : ME) (env : Env) (s : Sto) : eIdx a b env s = (a env s).bind fun x s1 => match x with | .lst ds => (b env s1).bind fun y s2 => idxAt ds y s2 | _ => .stk := rfl
@[simp] theorem s_eIsX (i : Nat) (tab : List (Nat × Bool)) (env : Env) (s : Sto) : eIsX i tab env s = match env[i]? with | some (.exn x) => (match tab.lookup x.cls with | some b => .ok (.bl b) s | none => .stk) | _ => .stk := rfl
@[simp] theorem s_eXf (i : Nat) (f : String) (cs : List Nat) (env : Env) (s : Sto) : eXf i f cs env s = match env[i]? with | some (.exn x) => if x.cls ∈ cs then (match x.fs.lookup f with | some d => .ok d s | none => .stk) else .stk | _ => .stk := rfl
@[simp] theorem s_sRs (c : Nat) (fs : List String) (ma : MA) (e : Env) (s : Sto) : sRs c fs ma e s = (ma e s).go e fun ds s1 => if ds.length = fs.length then .ex ⟨c, (fs.zip ds).reverse⟩ e s1 else .stk := rfl
@[simp] theorem s_sRz (c : Nat) (e : Env) (s : Sto) : sRz c e s = .ex ⟨c, []⟩ e s := rfl
end MP

/-! Refusals: raised, caught, asked. Own text. -/
namespace MP
open PySem L2 TL
section
open PyProof.Rows PySem.Calls PySem.W
variable {ox : Obj} {x D : Addr} {prog : Program} {w : World} {A : Around} {E : Value → Shared → Prop} {s : Shared} {K : Frag}
theorem find_cls (od : Option Obj) (h : ExcC K D) : findObj K D od "__class__" = some (.bind (.builtin "getset_descriptor.__get__") (.builtin "object.__class__")) := by
  obtain ⟨cd, hc, _⟩ := any_some h.hd
  have hn := h.hn
  have ht := h.ht
  unfold findObj
  rw [hc, Option.bind_some, h.ha, Option.bind_some]
  simp [hn, ht]
/-- the class of an exception that may have fields -/
theorem cls_told {Q : Option Value → Shared → Prop} {od : Option Obj} (F : ExcC K D) (X : K.In s.heap) (I : InstAt s.heap x ox D od) (h : Q (some (.ref D)) { s with toks := s.toks + 1 }) : wpAny (model prog w) A (getAttr? (.ref x) "__class__") Q E s := by
  have G := looks_findIn (M := model prog w) X F.hg
  have N := looks_findIn (M := model prog w) X F.hk
  have V := looks_find (M := model prog w) X I (find_cls od F)
  obtain ⟨hp, g, dr, t, os⟩ := s
  have T := I.type (M := model prog w)
  have B : Looks (model prog w) hp (isInstance (.ref x) (.type "BaseException")) true := T.andThen (looks_subIn X F.hs)
  have n2 : (Value.builtin "BaseException.__getattribute__" == Value.builtin "object.__getattribute__") = false := by decide +kernel
  have n1 : (onTheHeap (Value.ref D) && Value.builtin "BaseException.__getattribute__" == Value.builtin "object.__getattribute__") = false := by rw [n2]; rfl
  unfold getAttr? getAttrBy? getAttrBy; refine wpAny_bind (wpAny_mkText (wpAny_bind (wpAny_attempt (wpAny_holding (wpAny_bind (T.at (wpAny_bind (G.at ?_))))))))
  show wpAny _ _ (if (onTheHeap (Value.ref D) && Value.builtin "BaseException.__getattribute__" == Value.builtin "object.__getattribute__") = true then _ else _) _ _ _; rw [n1, if_neg Bool.false_ne_true]
  unfold getAttrByItsOwn hookBefore; refine wpAny_bind ?_
  rw [if_pos (show onTheHeap (Value.ref D) = true from rfl)]; refine N.at (wpAny_bind (wpAny_attempt (wpAny_holding ?_)))
  unfold callGetattribute
  rw [show (false && onTheHeap (Value.builtin "BaseException.__getattribute__")) = false from rfl, if_neg Bool.false_ne_true]
  unfold boundAndCalled
  rw [PySem.F.excAttr_ValueError.ga.bind (.ref x)]; refine wpAny_bind (wpAny_pure ?_)
  show wpAny _ _ (call (.builtin "BaseException.__getattribute__") [.ref x, .str "__class__" t]) _ _ _; refine wpAny_call (codeAny_call_builtin PySem.F.excAttr_ValueError.ga.plain PySem.F.entry_bexc_ga (@check_slot (model prog w) _ _ ⟨hp, g, dr, t + 1, os⟩ "BaseException.__getattribute__" "BaseException" "__getattribute__" (.ref x) [.str "__class__" t] [] _ (by decide +kernel) (by decide +kernel) B (PySem.F.args_bexc_ga (.ref x) (.str "__class__" t)) ?_))
  unfold Builtin.«object.__getattribute__»; refine wpAny_bind (wpAny_of_eq (a := ((Value.ref x : Value), [Value.str "__class__" t])) (by first | rfl | (simp only [slotArgs]; rfl)) ?_)
  refine wpAny_bind (wpAny_pure (wpAny_bind (T.at (wpAny_bind (V.at ?_)))))
  show wpAny _ _ (holding [Value.builtin "object.__class__"] (call (.builtin "getset_descriptor.__get__") [.builtin "object.__class__", .ref x, .ref D]) >>= ret) _ _ _; refine wpAny_bind (wpAny_holding (wpAny_call (class_get (s := ⟨hp, g, dr, t + 1, os⟩) (ox := ox) (od := od) X I F.hm (wpAny_pure ?_))))
  show wpAny _ _ (handedOut (.ref D)) _ _ _; rw [handedOut_of (v := .ref D) rfl]
  first | exact wpAny_pure (wpAny_pure h) | exact wpAny_pure h | exact wpAny_pure (wpAny_bind (wpAny_pure (wpAny_pure h)))
theorem kitE {od : Option Obj} (F : ExcC K D) : KitX K (.ref x) (.ref D) (fun h => InstAt h x ox D od) := by
  have Z := handS_kitx_exc (x := x) (ox := ox) F.hg F.hk F.hs F.hd F.ha F.hn F.ht F.hm
  refine ⟨fun _ _ _ I => I.type, fun M h X I => ?_, Z.ne, fun X I k => cls_told F X I k⟩
  obtain ⟨cd, hc, _⟩ := any_some F.hd
  unfold clsIn at hc
  split at hc
  · rename_i c' d' cd' sl' ho
    intro A' Q' E' s' k q
    unfold isType loadHead; exact wpAny_bind (wpAny_loadPart (k _ _ (X _ _ ho)) (wpAny_pure q))
  · cases hc
end
/-- isinstance(e, c), e the refusal that the suite holds -/
def rIsX (K : PySem.W.Frag) (a : Addr) (cls : Value) (d : Option Addr) : List V → Hp → VK → Prop := fun xs H Q => ∃ (D : Addr) (c : V) (cv : Value) (b : Bool), cls = .ref D ∧ ExcC K D ∧ xs = [.ref a, c] ∧ (∀ u, L2.RelV c u → u = cv) ∧ PySem.W.kitOne K (.ref D) cv = some b ∧
  (d = none ∨ ∃ dd fs, d = some dd ∧ H dd = some (.xd fs)) ∧ Q (.bl b) H
theorem call_isX {X : Cx} {a : Addr} {oe : Obj} {pn : List (Addr × Obj)} {cls : Value} {d : Option Addr} (hz : Zc cls d oe) (hf : ∃ vs, oe.data = .fields vs) : CallR (X.suite a ((a, oe) :: pn)) (.builtin "isinstance") (rIsX X.K a cls d) := by
  intro pins s σ H xs us Q I r h; obtain ⟨D, c, cv, b, rfl, F, rfl, hcv, e, hd, q⟩ := h
  cases r with
  | cons rx rr =>
    cases rr with
    | cons rt rr =>
      cases rr
      cases rx
      have ec := hcv _ rt
      subst ec
      obtain ⟨hget, _⟩ := I.pin (a, oe) (List.mem_append.mpr (.inl List.mem_cons_self)); obtain ⟨vs, hv⟩ := hf
      have nc : PySem.W.notCls oe := by unfold PySem.W.notCls; rw [hv] <;> rfl
      have J : ∃ od, PySem.W.InstAt s.heap a oe D od := by
        rcases hd with rfl | ⟨dd, fs, rfl, hx⟩
        · exact ⟨none, hget, hz.1, nc, by rw [hz.2]; trivial⟩
        · have ho : ObjOk X.prog X.w H s.heap dd (.xd fs) := I.hok dd _ hx
          obtain ⟨mA, hns, _⟩ := ho
          obtain ⟨o', h1, _⟩ := lookIn_ns hns
          exact ⟨some o', hget, hz.1, nc, by rw [hz.2]; exact h1⟩
      obtain ⟨od, J⟩ := J
      exact PySem.W.kia_one (kitE F) I.kIn J e (fun z => nomatch z) fun tk => ⟨.bl b, H, I.kept (t' := tk) fun _ _ z => z, rfl, q⟩
theorem RX.dict {q : Stt} {C : Tab} {K : PySem.W.Frag} {x : Exn} {cls : Value} {d : Option Addr} (h : RX q C K x cls d) : d = none ∨ ∃ dd gs, d = some dd ∧ q.H dd = some (.xd gs) := by
  have h2 := h.2
  split at h2
  · exact .inl h2
  · obtain ⟨a, gs, e, h1, _⟩ := h2
    exact .inr ⟨a, gs, e, h1⟩
section
variable {X : Cx} {C : Tab} {W : Wx} {i : Nat} {a : Addr} {oe : Obj} {pn : List (Addr × Obj)} {cls : Value} {d : Option Addr} {x x1 : Str} {p p1 p2 pos : Pos} {tab : List (Nat × Bool)}
/-- the reading of the refusal's name -/
theorem pe_exn (i : Nat) {Y : Cx} (hN : Y.N[i]? = some x) (hv : Vis Y.env.scope x) (hd : (x == ("__debug__" : Str)) = false) (hc : (x == ("__classdict__" : Str)) = false) (hz : C.z i = some (a, cls, d)) : PE Y (.Name x p) (fun σ H Q => ∃ (q0 q : Stt) (env : MP.Env) (s : Sto) (y : Exn), q.H = H ∧ RE Y.K C q0 q env σ ∧ Rel Y.K C s q ∧ env[i]? = some (.exn y) ∧ (RX q C Y.K y cls d → Q (.ref a) H)) := PE.imp (pe_var (i := i) hN hv hd hc) fun σ H Q ⟨q0, q, env, s, y, eq, E, L, e, p⟩ => by
  subst eq
  obtain ⟨a', cls', d', h1, h2, h3⟩ := E.exn i y e
  rw [hz] at h1
  cases h1
  exact ⟨.ref a, h2, p h3⟩
theorem ge_isX (i : Nat) {v : V} {cv : Value} (tab : List (Nat × Bool)) (hzo : Zc cls d oe) (hf : ∃ vs, oe.data = .fields vs) (hz : C.z i = some (a, cls, d)) (hm : X.mg "isinstance" = none) (hv : ∀ u, L2.RelV v u → u = cv) (he : PE (X.suite a ((a, oe) :: pn)) (.Name x1 p1) (tC v))
    (hK : ∀ c b, tab.lookup c = some b → ExcC X.K (C c) ∧ PySem.W.kitOne X.K (.ref (C c)) cv = some b)
    (hN : X.N[i]? = some x := by rfl) (hvis : Vis X.env.scope x := by first | exact Or.inl rfl | exact Or.inr (Or.inl rfl) | exact Or.inr (Or.inr rfl)) (hd : (x == ("__debug__" : Str)) = false := by decide) (hc : (x == ("__classdict__" : Str)) = false := by decide)
    (hg : Gl X "isinstance" := by rfl) (hvb : bootBuiltins "isinstance" = some (.builtin "isinstance") := by decide +kernel)
    (h1 : starEach [.Name x p2, .Name x1 p1] X.env = (false, eval (.Name x p2) X.env) :: starEach [.Name x1 p1] X.env := by rfl) (h2 : starEach [.Name x1 p1] X.env = (false, eval (.Name x1 p1) X.env) :: starEach [] X.env := by rfl)
    (hpl : (backTo pos (starEach [.Name x1 p1] X.env)).any (·.1) = false := by rfl) :
    GE (X.suite a ((a, oe) :: pn)) C W (.Call (.Name "isinstance" p) [.Name x p2, .Name x1 p1] [] pos) (eIsX i tab) :=
  PE.imp (pe_callB (X := X.suite a ((a, oe) :: pn)) (call_isX hzo hf) hg hm hvb (pa_cons (pe_exn (Y := X.suite a ((a, oe) :: pn)) (C := C) i hN hvis hd hc hz) (pa_cons he pa_nil h2) h1) (he := h1) (hpl := hpl)) fun σ H Q ⟨q0, q, env, s, eq, E, L, p⟩ => by
    subst eq
    unfold eIsX at p
    cases e : env[i]? with
    | none => rw [e] at p; exact p.elim
    | some sl =>
      rw [e] at p
      cases sl with
      | exn y =>
        simp only at p
        cases l : tab.lookup y.cls with
        | none => rw [l] at p; exact p.elim
        | some b =>
          rw [l] at p
          obtain ⟨k1, k2⟩ := hK _ _ l
          exact ⟨q0, q, env, s, y, rfl, E, L, e, fun rx => ⟨C y.cls, v, cv, b, rx.1, k1, rfl, hv, k2, rx.dict, p _ q (Ext.refl q) L (.bl b)⟩⟩
      | _ => exact p.elim
/-- e.f, e the refusal that the suite holds -/
theorem ge_xf (i : Nat) (f : String) (cs : List Nat) {n : Str} (hn : n = Str.ofString f) (hzo : Zc cls d oe) (hf : ∃ vs, oe.data = .fields vs) (hz : C.z i = some (a, cls, d)) (hK : ∀ c ∈ cs, XfC X.K (C c) ∧ PySem.W.findIn X.K (.ref (C c)) n = some none)
    (hN : X.N[i]? = some x := by rfl) (hvis : Vis X.env.scope x := by first | exact Or.inl rfl | exact Or.inr (Or.inl rfl) | exact Or.inr (Or.inr rfl)) (hd : (x == ("__debug__" : Str)) = false := by decide) (hc : (x == ("__classdict__" : Str)) = false := by decide)
    (hb : attributeBase (.Name x p) n X.env (eval (.Name x p) X.env) = eval (.Name x p) X.env := by rfl) :
    GE (X.suite a ((a, oe) :: pn)) C W (.Attribute (.Name x p) n pos) (eXf i f cs) := by
  refine ⟨fun pins s σ H Q I h => ?_⟩; obtain ⟨q0, q, env, s1, eq, E, L, p⟩ := h
  subst eq
  unfold eXf at p
  cases e : env[i]? with
  | none => rw [e] at p; exact p.elim
  | some sl =>
    rw [e] at p
    cases sl with
    | exn y =>
      simp only at p
      split at p
      · rename_i hm
        obtain ⟨k1, k2⟩ := hK _ hm
        refine (pe_xf (pos := pos) k1 k2 hzo hf (pe_exn (Y := X.suite a ((a, oe) :: pn)) (C := C) i hN hvis hd hc hz) hb).run pins s σ q.H Q I ⟨q0, q, env, s1, y, rfl, E, L, e, fun rx => ⟨rfl, rx.1, ?_⟩⟩
        have h2 := rx.2
        split at h2
        · rename_i z; rw [z] at p; exact p.elim
        · obtain ⟨dd, gs, e1, e2, _, rf⟩ := h2
          cases l : y.fs.lookup f with
          | none => rw [l] at p; exact p.elim
          | some b =>
            rw [l] at p
            obtain ⟨v, l2, r⟩ := (rf.look f).1 b l
            exact ⟨dd, gs, v, e1, e2, by rw [hn]; exact l2, p v q (Ext.refl q) L r⟩
      · exact p.elim
    | _ => exact p.elim
end
end MP

/-! A lambda's answer, or what is told of its refusal. Own text. -/
namespace MP
open PySem L2 TL LamX
/-- the table within the suite of a clause whose name has the slot j -/
def suiteC (C : Tab) (j : Nat) (a : Addr) (cls : Value) (d : Option Addr) : Tab := { C with z := fun i => if i = j then some (a, cls, d) else none }
theorem suiteC_z {C : Tab} {j : Nat} {a : Addr} {cls : Value} {d : Option Addr} : (suiteC C j a cls d).z j = some (a, cls, d) := if_pos rfl
/-- what is asked of the suite -/
def PostH (K : PySem.W.Frag) (C : Tab) (q : Stt) (Q : VK) : SRes → Prop
  | .rt d s => ∀ v q', Ext q q' → Rel K C s q' → RD K q' d v → Q v q'.H
  | _ => False
def EH (K : PySem.W.Frag) (C : Tab) (CS : Addr) (mh : MS) (N j : Nat) (Q : VK) : XK := fun cls d H => ∃ (q : Stt) (s : Sto) (x : Exn), q.H = H ∧ Rel K C s q ∧ RX q C K x cls d ∧ PySem.W.exmOne K cls (.ref CS) = some true ∧ PostH K C q Q (mh ((List.replicate N .emp).set j (.exn x)) s)
def TTm (K : PySem.W.Frag) (C : Tab) (CS : Addr) (mh : MS) (N j : Nat) : (XK → Hp → VK → Prop) → Hp → VK → Prop := fun tl H Q => tl (EH K C CS mh N j Q) H Q
theorem RE.caught {K : PySem.W.Frag} {C : Tab} {q : Stt} {N j : Nat} {σ : St} {x : Exn} {a : Addr} {cls : Value} {d : Option Addr} (w : WF q) (hl : σ.length = N) (hj : j < N) (rx : RX q C K x cls d) :
    RE K (suiteC C j a cls d) q q ((List.replicate N .emp).set j (.exn x)) (σ.set j (some (.ref a))) := by
  have at_ : ∀ (i : Nat) (sl : Slot), ((List.replicate N Slot.emp).set j (.exn x))[i]? = some sl → (i = j ∧ sl = .exn x) ∨ sl = .emp := fun i sl h => by
    by_cases e : j = i
    · subst e
      rw [List.getElem?_set_self (by simpa using hj)] at h
      exact .inl ⟨rfl, (Option.some.inj h).symm⟩
    · rw [List.getElem?_set_ne e] at h
      exact .inr (List.eq_of_mem_replicate (List.mem_of_getElem? h))
  refine ⟨by simp [hl], fun i d h => ?_, fun i ds h => ?_, fun i k ds es b h => ?_, w, fun i y h => ?_⟩
  · rcases at_ i _ h with ⟨_, e⟩ | e <;> cases e
  · rcases at_ i _ h with ⟨_, e⟩ | e <;> cases e
  · rcases at_ i _ h with ⟨_, e⟩ | e <;> cases e
  · rcases at_ i _ h with ⟨e1, e⟩ | e
    · cases e
      subst e1
      exact ⟨a, cls, d, suiteC_z, by rw [List.getElem?_set_self (by rw [hl]; exact hj)], rx⟩
    · cases e
theorem told_gives {X : Cx} {C : Tab} {Ng : List Str} {x a e n q : Str} {sg : Scope} {g CS : Addr} {cdg : Value} {j : Nat} {b₀ : Stmt} {suite : List Stmt} {mh : MS} {p1 p2 p3 p4 p7 p8 : Pos}
    (hge : sg.names.lookup e = some .globalImplicit) (hme : X.mg e = some (.ref CS)) (hde : (e == ("__debug__" : Str)) = false) (hN : Ng.Nodup) (hj : Ng[j]? = some n) (hln : sg.names.lookup n = some .local)
    (hsu : ∀ (s : Shared) (H : Hp) (a : Addr) (oe : Obj) (cls : Value) (d : Option Addr) (pn : List (Addr × Obj)), Zc cls d oe → (∃ vs, oe.data = .fields vs) →
      GSs ((cxOf C8.CX0 X.prog X.w X.K X.mg X.base Ng x sg g cdg X.A X.stack s H C8.E0).nox.suite a ((a, oe) :: pn)) (suiteC C j a cls d) W0 (b₀ :: suite) mh) :
    GivesTo X Ng x sg g cdg [.Try [.Return (some (.Call (.Name a p1) [] [] p2)) p3] [.ExceptHandler (some (.Name e p4)) (some n) (b₀ :: suite) p7] [] [] p8] a q (TTm X.K C CS mh Ng.length j) := by
  intro f c' s H Q tl act hc h
  have hgl : Gl (cxOf C8.CX0 X.prog X.w X.K X.mg X.base Ng x sg g cdg X.A X.stack s H C8.E0).nox e := hge; have hjl : j < Ng.length := (List.getElem?_eq_some_iff.mp hj).1
  refine ⟨_, pss_one (ps_try_as (X := (cxOf C8.CX0 X.prog X.w X.K X.mg X.base Ng x sg g cdg X.A X.stack s H C8.E0).nox) (c := .ref CS) (i := j) (Wout := fun _ _ _ _ => False)
      (ts := fun a cls d => tS X.K (suiteC C j a cls d) W0 mh)
      (tb := fun W D σ H => ∃ Ech : XK, (∀ cls d σ' H', Ech cls d H' → σ'.length = Ng.length → W cls d σ' H') ∧ σ[0]? = some (some (.ref f)) ∧ H c' = some (CodeO c' q) ∧ tl Ech H D.rt)
      rfl rfl hN hj hln ⟨hgl, hde, .inl hme⟩ LamX.takes0 (fun W pn xe tk _ => ?_) (fun a oe cls d pn hz hf => hsu s H a oe cls d pn hz hf)), ?_⟩
  · refine ⟨fun pins s' σ H' D I hh => ?_⟩
    obtain ⟨Ech, hW, h1, h2, h3⟩ := hh
    have tk' : Takes ((cxOf C8.CX0 X.prog X.w X.K X.mg X.base Ng x sg g cdg X.A X.stack s H C8.E0).tr pn xe) (fun cls d σ H => σ.length = Ng.length → W cls d σ H) := fun u s' ⟨a, B, sI, pins, σ, H, cls, d, e, I, nb, up, sky, na, os, ag, w⟩ =>
      tk u s' ⟨a, B, sI, pins, σ, H, cls, d, e, I, nb, up, sky, na, os, ag, w I.len⟩
    have hp := act (fun cls d σ H => σ.length = Ng.length → W cls d σ H) pn xe Ech p1 p2 tk' hW
    exact (pss_one (ps_ret (pos := p3) hp)).run pins s' σ H' D I ⟨h1, h2, h3⟩
  · refine ⟨EH X.K C CS mh Ng.length j Q, fun cls d σ' H' ⟨q', s', y, e1, e2, e3, e4, e5⟩ hl => ⟨true, e4, fun _ a na => ?_, fun z => nomatch z⟩, ?_, hc, h⟩
    · subst e1
      refine ⟨q', q', _, s', rfl, Ext.refl q', RE.caught e2.wf hl hjl e3, e2, ?_⟩
      cases z : mh ((List.replicate Ng.length .emp).set j (.exn y)) s' with
      | rt d s2 => rw [z] at e5; exact fun v q2 x2 k r rd => e5 v q2 x2 r rd
      | _ => rw [z] at e5; exact e5.elim
    · cases Ng with
      | nil => simp at hjl
      | cons _ _ => rfl
/-- x(lambda: body) -/
theorem ge_told {X : Cx} {C : Tab} {W : Wx} {x a : Str} {g c P CS : Addr} {k j : Nat} {pg : Arguments} {bg : List Stmt} {sg : Scope} {dV kV doc pm cdv ct oc : Value} {an od : Option Addr} {osl : Array (Option Value)} {Ng : List Str}
    {params : Arguments} {body : Expr} {scope : Scope} {me : ME} {mh : MS} (cs : List Nat) {p lpos pos : Pos} (hG : GivesTo X Ng x sg g cdv bg a (X.env.qual ++ "<lambda>") (TTm X.K C CS mh Ng.length j)) (hm : X.mg x = some (.ref g)) (hk : PySem.W.keepIn X.K (.ref g) = true) (lk : X.K.lookup g = some ⟨oc, od, .func (PySem.W.fnOf x x pg bg sg dV kV doc pm an cdv ct), osl⟩) (hcg : PySem.W.codeIn X.K cdv x = true) (hb : L2.Binds X.K (PySem.W.fnOf x x pg bg sg dV kV doc pm an cdv ct) [a] []) (Sg : FnScope Ng [a] sg) (hNg : Ng[0]? = some a) (hva : Vis sg a)
    (TBx : TabB X.base X.mg c P) (hcode : X.env.code = .ref c) (hmT : (P, X.env.qual ++ "<lambda>") ∈ C.t) (hu : ∀ p ∈ C.t, p.1 = P → p.2 = X.env.qual ++ "<lambda>") (hr : Room (k + 2) X.A) (L : LamS X.env.scope scope)
    (hcs : ∀ c ∈ cs, PySem.W.exmOne X.K (.ref (C c)) (.ref CS) = some true)
    (hbody : ∀ (A : Around) (outer : List PySem.Env) (s : Shared) (H : Hp) (E : XK) (f c' : Addr), Room k (A.deeper (lamEnv X scope s.heap.objs.size f c')) → GE (lamCx X A outer s H E scope f c') C (fun cls d _ H' => E cls d H') body me)
    (hg : Gl X x := by rfl) (hdef : defaultsOf params X.env = ([], []) := by rfl) (hbind : ∀ (q : Str) (cl : List (Str × Addr)) (pm cv ctv : Value), bindArgs (PySem.W.kla_fn "<lambda>" q params body scope cl pm cv ctv) ⟨[], []⟩ = pure [] := by intros; rfl) (hdb : (x == ("__debug__" : Str)) = false := by decide) (hd : (a == ("__debug__" : Str)) = false := by decide) (hcd : (a == ("__classdict__" : Str)) = false := by decide) :
    GE X C W (.Call (.Name x p) [.Lambda params body scope lpos] [] pos) (eTold me mh Ng.length j cs) :=
  PE.imp (pe_lamcall (T := C.t) (TT := TTm X.K C CS mh Ng.length j) (t := fun E => tM X.K C (fun cls d _ H' => E cls d H') (rD X.K) me) hg hm hk lk hcg hb Sg hNg hva hG TBx hcode hmT hu hr L hdef hbind hbody hdb hd hcd) fun σ H Q ⟨q0, q, env, s, eq, E, L, p⟩ => by
    subst eq
    refine ⟨L.tb, fun H1 eN T1 => ?_⟩
    have x1 : Ext q ⟨H1, q.L, q.r⟩ := ⟨fun a o e _ t => eN a o e t, fun _ z => z, fun a o e n t => ⟨eN a o e t, n⟩, ⟨[], by simp⟩, fun _ z => .inl z, fun a o e t => ⟨o, eN a o e t, t⟩⟩
    have L1 : Rel X.K C s ⟨H1, q.L, q.r⟩ := ⟨⟨L.wf.nd, L.wf.live, fun a l => let ⟨o, e, t⟩ := L.wf.trk a l; ⟨o, eN a o e t, t⟩⟩, L.len, fun n ob a e f => (L.obs n ob a e f).mono x1.kp (by
      obtain ⟨u, h1, h2, _⟩ := (L.obs n ob a e f).kind
      exact (eN a u h1 h2).trans h1.symm), T1⟩
    refine ⟨q0, ⟨H1, q.L, q.r⟩, env, s, rfl, E.ext x1, L1, ?_⟩
    unfold eTold at p
    cases z : me env s with
    | ok d s1 => rw [z] at p; exact fun v q' x r y => p v q' (x1.trans x) r y
    | stk => rw [z] at p; exact p
    | exc y s1 =>
      rw [z] at p
      intro cls d q' x r rx
      simp only at p
      split at p
      · rename_i hm
        refine ⟨q', s1, y, rfl, r, rx, by rw [rx.1]; exact hcs _ hm, ?_⟩
        cases z2 : mh ((List.replicate Ng.length .emp).set j (.exn y)) s1 with
        | rt d s2 => rw [z2] at p; exact fun v q2 x2 r2 y2 => p v q2 ((x1.trans x).trans x2) r2 y2
        | _ => rw [z2] at p; exact p.elim
      · exact p.elim
end MP

/-! Refusals raised. Own text. -/
namespace MP
open PySem L2 TL
section
variable {X : Cx} {C : Tab} {W : Wx} {x m : Str} {c : Nat} {j : Int} {p p1 p2 pos pos' : Pos} {e : Expr} {es : List Expr} {ta : TA}
theorem gs_rz {bmB : List Value} {B newId initId : String} {j : Nat} (c : Nat) (F : ExcBaseFacts B newId initId bmB) (q : PySem.W.excIn X.K (C c) bmB newId = true) (gC : X.mg x = some (.ref (C c))) (kC : PySem.W.keepIn X.K (.ref (C c)) = true) (r : Raises X (.ref (C c))) (hc : X.calm = true) (tk : Takes X W) (hg : Gl X x := by rfl)
    (hdb : (x == ("__debug__" : Str)) = false := by decide) : GS X C W (.Raise (some (.Call (.Name x p) [.Constant (.str m) j p2] [] pos)) none pos') (sRz c) :=
  PS.imp (ps_raise hc tk (pmk_own F q gC kC r hg hdb)) fun D σ H ⟨q0, q, env, s, eq, X0, E, L, p⟩ => by
    subst eq
    exact p (.ref (C c)) none σ q X0 (Kp.refl q) L E ⟨rfl, rfl⟩
/-- B.__init__(self, ..), B an own class over ValueError without an own __init__ -/
theorem pe_basei {CM : Addr} {pl : Sem Bool} (hg : Gl X x) (hm : X.mg x = some (.ref CM)) (hr : ClX.CRead X.K CM (.type "type")) (vV : PySem.W.findCls X.K (.ref CM) (.type "type") "__init__" = some (.val (.builtin "ValueError.__init__"))) (ha : PA X (e :: es) ta)
    (hdb : (x == ("__debug__" : Str)) = false := by decide)
    (hc : eval (.Call (.Attribute (.Name x p1) "__init__" p2) (e :: es) [] pos) X.env = (do
      let ov ← eval (.Name x p1) X.env
      standAt p2.atName
      let (f, first) ← holding [ov] (getMethod ov "__init__" pl); callWith pos f first (backTo pos (starEach (e :: es) X.env)) (backToKw pos (keywordEach [] X.env))) := by rfl) (he : starEach (e :: es) X.env = (false, eval e X.env) :: starEach es X.env := by rfl) (hpl : (backTo pos (starEach es X.env)).any (·.1) = false := by rfl) :
    PE X (.Call (.Attribute (.Name x p1) "__init__" p2) (e :: es) [] pos) (tVeI X.K ta) := by
  refine ⟨fun pins s σ H Q I h => ?_⟩; refine PySem.W.methodCall_KW (ld_glob I hg hm ?_ hdb) hc
  refine PySem.W.method_cls I.kIn hr.ga (PySem.W.cls_value I.kIn hr.rd vV (by decide +kernel) ?_)
  show wpAny _ _ (callWith pos (Value.builtin "ValueError.__init__") [] (backTo pos (starEach (e :: es) X.env)) []) _ _ _; refine PyProof.Rows.callWith_method1 (thn (ha.run pos pins _ σ H _ (I.tok _) h) fun us s1 ⟨vs, H1, I1, r1, a, D, ws, ev, hl, T, ea, q⟩ => ?_) he hpl
  subst ev
  cases r1 with
  | @cons _ u0 _ ur ra rw' =>
    obtain rfl : u0 = Value.ref a := ra; have hlen : ur.length ≤ sizeLine := by
      rw [← Paired.length rw', sizeLine_eq]; omega
    exact oinit_ok T I1 ea hlen fun s2 J2 => ⟨.non, H1, J2, rfl, q⟩
end
end MP

/-! Refusals with fields: their makers, raised. Own text. -/
namespace MP
open PySem L2 TL
/-- what the maker of a refusal promises: its fields by the values handed -/
def spI (K : PySem.W.Frag) (Ca : Addr) (fs : List Str) : Sp := fun vs H Q _ => ∃ (a : Addr) (ws : List V), vs = .ref a :: ws ∧ ws.length = fs.length ∧ H a = some (exo a Ca none) ∧
  ∀ dx H', H dx = none → dx ≠ a → H' a = some (exo a Ca (some dx)) → H' dx = some (exd dx (fs.zip ws).reverse) → (∀ b, b ≠ a → b ≠ dx → H' b = H b) → Q .non H'
/-- a class of refusals with fields -/
structure ExO (K : PySem.W.Frag) (Ca : Addr) (fs : List Str) : Prop where
  ox : OexC K Ca
  nf : ∀ f ∈ fs, PySem.W.findIn K (.ref Ca) f = some none
/-- the class that the makers call by its name -/
structure BaseI (K : PySem.W.Frag) (CM : Addr) : Prop where
  rd : ClX.CRead K CM (.type "type")
  vV : PySem.W.findCls K (.ref CM) (.type "type") "__init__" = some (.val (.builtin "ValueError.__init__"))
section
variable {P : Program} {w : World} {K : PySem.W.Frag} {mg : Str → Option Value} {base : Heap} {CX : CXT} {bn f g x y qual m : Str} {params : Arguments} {scope : Scope} {fI CM Ca : Addr} {fd : FuncData} {kws : List (Str × V)} {pl : PySem.Env → Sem Bool} {j : Nat} {p1 p2 p3 p4 p5 p6 p7 p8 p9 p10 p11 p12 p13 p14 : Pos}
theorem init1 (F : FunD K "__init__" qual params [.Expr (.Call (.Attribute (.Name bn p1) "__init__" p2) [.Name "self" p3, .Constant (.str m) j p4] [] p5) p6, .Assign [.Attribute (.Name "self" p7) f p8] (.Name x p9) p10] scope [] kws fI fd)
    (S : FnScope ["self", x] ["self", x] scope) (hg : scope.names.lookup bn = some .globalImplicit) (hm : mg bn = some (.ref CM)) (B : BaseI K CM) (T : ExO K Ca [f])
    (v0 : Vis scope "self") (v1 : Vis scope x) (d1 : (x == ("__debug__" : Str)) = false) (c1 : (x == ("__classdict__" : Str)) = false) (db : (bn == ("__debug__" : Str)) = false)
    (hc : ∀ env : PySem.Env, eval (.Call (.Attribute (.Name bn p1) "__init__" p2) [.Name "self" p3, .Constant (.str m) j p4] [] p5) env = (do
      let ov ← eval (.Name bn p1) env
      standAt p2.atName
      let (f, first) ← holding [ov] (getMethod ov "__init__" (pl env))
      callWith p5 f first (backTo p5 (starEach [.Name "self" p3, .Constant (.str m) j p4] env)) (backToKw p5 (keywordEach [] env)))) : FnOk P w K mg base CX 1 fI fd ["self", x] (spI K Ca [f]) := by
  refine F.ok S (fun vs H Q E h => ?_) fun cdv A outer s H vs Q E hr h => ?_
  · obtain ⟨a, ws, rfl, e, _⟩ := h
    simp [e]
  · obtain ⟨a, ws, rfl, e, ha, q⟩ := h
    match ws, e with
    | [u], _ =>
      refine ⟨_, pss_cons (ps_expr (pe_basei hg hm B.rd B.vV (pa_cons (pe_var (i := 0) rfl v0) (pa_cons pe_str pa_nil)) db (hc _))) (pss_one (ps_ost (pe_var (i := 0) rfl v0) (pe_var (i := 1) rfl v1 d1 c1))), ?_⟩
      refine ⟨.ref a, rfl, a, Ca, [.str m], rfl, by simp, T.ox, ha, u, rfl, .ref a, rfl, a, Ca, rfl, T.ox, T.nf f (by simp), .inl ⟨ha, fun dx n ne => q dx _ n ne upd_same ?_ fun b b1 b2 => ?_⟩⟩
      · rw [upd_ne ne]; exact upd_same
      · rw [upd_ne b1, upd_ne b2]
theorem init2 (F : FunD K "__init__" qual params [.Expr (.Call (.Attribute (.Name bn p1) "__init__" p2) [.Name "self" p3, .Constant (.str m) j p4] [] p5) p6, .Assign [.Attribute (.Name "self" p7) f p8] (.Name x p9) p10, .Assign [.Attribute (.Name "self" p11) g p12] (.Name y p13) p14] scope [] kws fI fd)
    (S : FnScope ["self", x, y] ["self", x, y] scope) (hg : scope.names.lookup bn = some .globalImplicit) (hm : mg bn = some (.ref CM)) (B : BaseI K CM) (T : ExO K Ca [f, g])
    (v0 : Vis scope "self") (v1 : Vis scope x) (v2 : Vis scope y) (d1 : (x == ("__debug__" : Str)) = false) (c1 : (x == ("__classdict__" : Str)) = false) (d2 : (y == ("__debug__" : Str)) = false) (c2 : (y == ("__classdict__" : Str)) = false) (db : (bn == ("__debug__" : Str)) = false)
    (hc : ∀ env : PySem.Env, eval (.Call (.Attribute (.Name bn p1) "__init__" p2) [.Name "self" p3, .Constant (.str m) j p4] [] p5) env = (do
      let ov ← eval (.Name bn p1) env
      standAt p2.atName
      let (f, first) ← holding [ov] (getMethod ov "__init__" (pl env))
      callWith p5 f first (backTo p5 (starEach [.Name "self" p3, .Constant (.str m) j p4] env)) (backToKw p5 (keywordEach [] env)))) : FnOk P w K mg base CX 1 fI fd ["self", x, y] (spI K Ca [f, g]) := by
  refine F.ok S (fun vs H Q E h => ?_) fun cdv A outer s H vs Q E hr h => ?_
  · obtain ⟨a, ws, rfl, e, _⟩ := h
    simp [e]
  · obtain ⟨a, ws, rfl, e, ha, q⟩ := h
    match ws, e with
    | [u, z], _ =>
      refine ⟨_, pss_cons (ps_expr (pe_basei hg hm B.rd B.vV (pa_cons (pe_var (i := 0) rfl v0) (pa_cons pe_str pa_nil)) db (hc _))) (pss_cons (ps_ost (pe_var (i := 0) rfl v0) (pe_var (i := 1) rfl v1 d1 c1)) (pss_one (ps_ost (pe_var (i := 0) rfl v0) (pe_var (i := 2) rfl v2 d2 c2)))), ?_⟩
      refine ⟨.ref a, rfl, a, Ca, [.str m], rfl, by simp, T.ox, ha, u, rfl, .ref a, rfl, a, Ca, rfl, T.ox, T.nf f (by simp), .inl ⟨ha, fun dx n ne => ⟨z, rfl, .ref a, rfl, a, Ca, rfl, T.ox, T.nf g (by simp), .inr ⟨dx, [(f, u)], upd_same, ?_, by simp, q dx _ n ne ?_ upd_same fun b b1 b2 => ?_⟩⟩⟩⟩
      · rw [upd_ne ne]; exact upd_same
      · rw [upd_ne (Ne.symm ne)]; exact upd_same
      · rw [upd_ne b2, upd_ne b1, upd_ne b2]
end
theorem passes_false {P : Program} {w : World} {X : Cx} : Passes (L2.CX P w) X (fun _ _ _ => False) := fun _ _ _ _ _ _ _ h => by
  obtain ⟨_, _, _, _, _, _, _, _, _, _, _, _, z⟩ := h; exact z.elim
theorem RF.append {K : PySem.W.Frag} {q : Stt} : ∀ {fs fs' : List (String × D)} {gs gs' : List (Str × V)}, RF K q fs gs → RF K q fs' gs' → RF K q (fs ++ fs') (gs ++ gs')
  | _, _, _, _, .nil, h => h
  | _, _, _, _, .cons a b, h => .cons a (RF.append b h)
theorem RF.rev {K : PySem.W.Frag} {q : Stt} : ∀ {fs : List (String × D)} {gs : List (Str × V)}, RF K q fs gs → RF K q fs.reverse gs.reverse
  | _, _, .nil => .nil
  | _, _, .cons a b => by rw [List.reverse_cons, List.reverse_cons]; exact RF.append (RF.rev b) (.cons a .nil)
theorem RF.zip {K : PySem.W.Frag} {q : Stt} : ∀ (fs : List String) {ds : List D} {vs : List V}, RDs K q ds vs → RF K q (fs.zip ds) ((fs.map Str.ofString).zip vs)
  | [], _, _, _ => by simp; exact .nil
  | f :: fs, _, _, .nil => by simp; exact .nil
  | f :: fs, _, _, .cons a b => .cons a (RF.zip fs b)
section
variable {X : Cx} {C : Tab} {W : Wx} {x : Str} {c k : Nat} {p pos pos' : Pos} {e : Expr} {es : List Expr} {ma : MA} {fI : Addr} {fd : FuncData} {ps : List Str}
theorem gs_rs (c : Nat) (f : String) (fs : List String) (T : ExO X.K (C c) ((f :: fs).map Str.ofString)) (iC : PySem.W.findIn X.K (.ref (C c)) "__init__" = some (some (.ref fI))) (tI : PySem.W.typeIn X.K (.ref fI) = some (.type "function"))
    (F : FnOk X.prog X.w X.K X.mg X.base (L2.CX X.prog X.w) k fI fd ps (spI X.K (C c) ((f :: fs).map Str.ofString))) (hr : Room (k + 1) X.A) (hb : Binds X.K fd ps []) (hl : (f :: fs).length ≤ 900) (hm : X.mg x = some (.ref (C c))) (hc : X.calm = true) (tk : Takes X W) (ha : GA X C W (e :: es) ma) (hg : Gl X x := by rfl) (hdb : (x == ("__debug__" : Str)) = false := by decide) (he : starEach (e :: es) X.env = (false, eval e X.env) :: starEach es X.env := by rfl) (hpl : (backTo pos (starEach es X.env)).any (·.1) = false := by rfl) :
    GS X C W (.Raise (some (.Call (.Name x p) (e :: es) [] pos)) none pos') (sRs c (f :: fs) ma) :=
  PS.imp (ps_raise hc tk (pmk_oex (dvs := []) T.ox iC tI F hr hb .nil passes_false hg hm ha hdb he hpl)) fun D σ H ⟨q0, q, env, s, eq, X0, E, L, p⟩ => by
    subst eq
    refine tS.first (f := fun ds s1 => if ds.length = (f :: fs).length then SRes.ex ⟨c, ((f :: fs).zip ds).reverse⟩ env s1 else .stk) X0 E L p fun ds s1 vs q1 x1 X1 E1 L1 y1 p1 => ?_
    split at p1
    · rename_i hlen
      have hlv : vs.length = ((f :: fs).map Str.ofString).length := by rw [y1.length, hlen]; simp
      refine ⟨by rw [hlv]; simp at hl ⊢; omega, fun a na => ⟨a, vs, by rw [List.append_nil], hlv, upd_same, fun dx H' n ne h1 h2 h3 => ⟨rfl, dx, _, h1, h2, ?_, ?_⟩⟩⟩
      · rw [upd_ne ne] at n; exact n
      · have n' : q1.H dx = none := by rw [upd_ne ne] at n; exact n
        have eH : upd (del H' a) dx (.xd (((f :: fs).map Str.ofString).zip vs).reverse) = upd q1.H dx (.xd (((f :: fs).map Str.ofString).zip vs).reverse) := by
          funext b
          by_cases b1 : b = dx
          · subst b1; rw [upd_same, upd_same]
          · rw [upd_ne b1, upd_ne b1]
            by_cases b2 : b = a
            · subst b2; rw [del_same, na]
            · rw [del_ne b2, h3 b b2 b1, upd_ne b2]
        rw [eH]
        have x2 := Ext.new1 (o := .xd (((f :: fs).map Str.ofString).zip vs).reverse) L1.wf n'
        have L2 := L1.new1 (o := .xd (((f :: fs).map Str.ofString).zip vs).reverse) n'
        refine p1 (.ref (C c)) (some dx) σ ⟨_, q1.L, q1.r⟩ (X1.trans x2) x2.kp L2 (E1.ext x2) ⟨rfl, ?_⟩
        have rf := ((RF.zip (f :: fs) y1).rev).mono x2.kp
        have hne : ((f :: fs).zip ds).reverse ≠ [] := by
          intro z
          have := congrArg List.length z
          rw [List.length_reverse, List.length_zip, hlen] at this
          simp at this
        show match ((f :: fs).zip ds).reverse with
          | [] => some dx = none
          | fs => ∃ a gs, some dx = some a ∧ _ ∧ _ ∧ _
        split
        · rename_i z; exact absurd z hne
        · exact ⟨dx, _, rfl, upd_same, L1.wf.no n', rf⟩
    · exact p1.elim
end
end MP

/-! Counts, places, greatest ones, pieces of texts, items put. Own text. -/
namespace MP
open PySem L2 TL PyProof.Rows
section
variable {X : Cx} {C : Tab} {W : Wx} {pos apos p2 p' : Pos} {e a b o i : Expr} {m ma mb mo mi : ME} {l h : MO} {lo hi : Option Expr}
/-! ### count, index -/
def rCntD (K : PySem.W.Frag) : V → List V → Hp → VK → Prop := fun x xs H Q => ∃ (a : Addr) (ys : List V) (y : V) (d : PyData) (ds : List PyData), x = .ref a ∧ xs = [y] ∧ SqL K H a ys ∧ DpAll K H ys ds ∧ Dp K H y d ∧ SeqAt.shaped (.list ds) = true ∧ SeqAt.shaped d = true ∧
  Q (.int ((ds.countP fun z => PyData.eqv z d : Nat) : Int)) H
theorem mt_countD (hu : X.A.units + 65 < cLine) : MtR X "list.count" (rCntD X.K) := by
  intro pins s σ H x xs v us Q I rx rxs h; obtain ⟨a, ys, y, d, ds, rfl, rfl, hs, ha, hy, sl, sd, q⟩ := h
  cases rx
  obtain ⟨uy, rfl, ry⟩ := rxs.one
  obtain ⟨bs, r1⟩ := Dp.reads I d y uy hy ry; have hxs : PyData.canLayAll0 ds = true := SeqAt.canLay_of_shaped sl
  have hroom : X.A.units + 1 + min (PyData.depthAll ds) d.depth < cLine := PyProof.Rows.room_in_shaped sd hu
  obtain ⟨its, rv, ⟨⟨cls, dd, data, sls⟩, n, ho, hc, hdn, hdt⟩, hlen⟩ := I.list hs; simp only at hc hdt
  subst hc hdt
  obtain ⟨as, h4⟩ := Dp.readsAll I ds _ its ha rv; have hmap : its.map (SeqAt.readOf s.heap) = ds := SeqAt.readsAll_map ds its as hxs h4; refine call_meets PySem.F.slot_list_count ⟨_, ho, rfl⟩ PySem.F.entry_list_count (PySem.F.args_list_count_2 _ _)
    (SeqAt.list_countAt a its.toArray n dd sls uy (fun u => PyData.eqv (SeqAt.readOf s.heap u) d)) ⟨ho, SeqAt.items_eqAt (vs := its.toArray) (show ReadsAll s.heap its.toArray.toList ds as from h4) r1 hxs (SeqAt.canLay_of_shaped sd) hroom, ?_⟩
  have ec : its.toArray.toList.countP (fun u => PyData.eqv (SeqAt.readOf s.heap u) d) = ds.countP fun z => PyData.eqv z d := by
    rw [← hmap, List.countP_map]; rfl
  rw [ec]
  exact ⟨.int _, H, I.tok _, ⟨_, rfl⟩, q⟩
theorem toPs_map : ∀ ds : List D, toPs ds = ds.map toP
  | [] => rfl
  | d :: ds => by simp [toPs, toPs_map ds]
theorem fits_all {n : Nat} : ∀ {ds : List D}, D.fits n ds = true → ∀ d ∈ ds, d.fit n = true
  | d :: ds, h, x, hx => by
    simp only [D.fits, Bool.and_eq_true] at h; rcases List.mem_cons.mp hx with e | hx
    · subst e; exact h.1
    · exact fits_all h.2 x hx
theorem fit_up : ∀ (n : Nat) (d : D), d.fit n = true → d.fit (n + 1) = true := by
  intro n
  induction n with
  | zero => intro d h; cases d <;> simp_all [D.fit]
  | succ n ih =>
    have ihs : ∀ ds : List D, D.fits n ds = true → D.fits (n + 1) ds = true := by
      intro ds
      induction ds with
      | nil => intro _; rfl
      | cons d ds ih2 =>
        intro h
        simp only [D.fits, Bool.and_eq_true] at h ⊢
        exact ⟨ih d h.1, ih2 h.2⟩
    intro d h
    cases d <;> simp_all [D.fit]
theorem fit_le {n k : Nat} {d : D} (h : d.fit n = true) (l : n ≤ k) : d.fit k = true := by
  induction l with
  | refl => exact h
  | step _ ih => exact fit_up _ _ ih
theorem ge_cnt (hu : X.A.units + 65 < cLine) (ho : GB X C W o mo) (he : GE X C W e m)
    (hbase : attributeBase o "count" X.env (eval o X.env) = eval o X.env := by rfl)
    (hfew : ((backTo pos (starEach [e] X.env)).all (fun x => !x.1) && (backToKw pos (keywordEach [] X.env)).all (fun x => x.1.isSome)
      && decide ([e].length + ([] : List Keyword).length + (if ([] : List Keyword).isEmpty then 0 else 1) < 30)) = true := by rfl)
    (hline : (apos.endLine == pos.line) = true := by rfl) (hs : starEach [e] X.env = (false, eval e X.env) :: starEach [] X.env := by rfl) (hplain : (backTo pos (starEach [] X.env)).any (·.1) = false := by rfl) :
    GE X C W (.Call (.Attribute o "count" apos) [e] [] pos) (eCnt mo m) := PE.imp (pe_bm PySem.F.plainAttrs_list PySem.F.slot_list_count PySem.F.type_list_count (mt_countD hu) ho (pa_cons he pa_nil hs) hbase hfew hline hs hplain) fun σ H Q ⟨q0, q, env, s, eq, E, L, p⟩ => by
  subst eq
  refine tM.first (f := fun x s1 => match x with | .lst ds => (m env s1).bind fun y s2 => cntAt ds y s2 | _ => .stk) E L p rD_any fun x s1 vx q1 x1 E1 L1 y1 p1 => ?_
  cases x with
  | lst ds =>
    obtain ⟨a, vs, rfl, g, r⟩ := y1.lst
    simp only at p1
    have y1' : RB X.K q1 (.lst ds) (.ref a) := y1
    refine ⟨.inl ⟨rfl, _, SqL.of g⟩, ?_⟩
    refine tM.first (f := fun y s2 => cntAt ds y s2) E1 L1 p1 rD_any fun y s2 vy q2 x2 E2 L2 y2 p2 => ?_
    unfold cntAt at p2
    split at p2
    · rename_i hf
      simp only [Bool.and_eq_true] at hf
      obtain ⟨a', vs', e', g', r'⟩ := (y1'.ext x2).lst
      cases e'
      refine ⟨a, vs', vy, toP y, toPs ds, rfl, rfl, SqL.of g', RDs.dp 50 ds r' hf.2, RD.dp 50 y y2 hf.1, shaped_toP (d := .lst ds) (fit_le (n := 51) (k := 60) (d := .lst ds) (by simpa [D.fit] using hf.2) (by omega)), shaped_toP (fit_le hf.1 (by omega)), ?_⟩
      · have ec : (toPs ds).countP (fun z => PyData.eqv z (toP y)) = ds.countP fun z => z.eqv y := by
          rw [toPs_map, List.countP_map]
          exact List.countP_congr fun z hz => by
            rw [Function.comp, eqv_toP 50 50 z y (fits_all hf.2 z hz) hf.1]
        rw [ec]
        exact p2 _ q2 (Ext.refl q2) L2 (.int _)
    · exact p2.elim
  | _ => exact p1.elim
theorem ge_idx (hu : X.A.units + 65 < cLine) (ho : GB X C W o mo) (he : GE X C W e m)
    (hbase : attributeBase o "index" X.env (eval o X.env) = eval o X.env := by rfl)
    (hfew : ((backTo pos (starEach [e] X.env)).all (fun x => !x.1) && (backToKw pos (keywordEach [] X.env)).all (fun x => x.1.isSome)
      && decide ([e].length + ([] : List Keyword).length + (if ([] : List Keyword).isEmpty then 0 else 1) < 30)) = true := by rfl)
    (hline : (apos.endLine == pos.line) = true := by rfl) (hs : starEach [e] X.env = (false, eval e X.env) :: starEach [] X.env := by rfl) (hplain : (backTo pos (starEach [] X.env)).any (·.1) = false := by rfl) :
    GE X C W (.Call (.Attribute o "index" apos) [e] [] pos) (eIdx mo m) := PE.imp (pe_bm PySem.F.plainAttrs_list PySem.F.slot_list_index PySem.F.type_list_index (mt_indexD hu) ho (pa_cons he pa_nil hs) hbase hfew hline hs hplain) fun σ H Q ⟨q0, q, env, s, eq, E, L, p⟩ => by
  subst eq
  refine tM.first (f := fun x s1 => match x with | .lst ds => (m env s1).bind fun y s2 => idxAt ds y s2 | _ => .stk) E L p rD_any fun x s1 vx q1 x1 E1 L1 y1 p1 => ?_
  cases x with
  | lst ds =>
    obtain ⟨a, vs, rfl, g, r⟩ := y1.lst
    simp only at p1
    have y1' : RB X.K q1 (.lst ds) (.ref a) := y1
    refine ⟨.inl ⟨rfl, _, SqL.of g⟩, ?_⟩
    refine tM.first (f := fun y s2 => idxAt ds y s2) E1 L1 p1 rD_any fun y s2 vy q2 x2 E2 L2 y2 p2 => ?_
    unfold idxAt at p2
    split at p2
    · rename_i hf
      simp only [Bool.and_eq_true] at hf
      obtain ⟨a', vs', e', g', r'⟩ := (y1'.ext x2).lst
      cases e'
      cases hj : ds.findIdx? (fun z => z.eqv y) with
      | none => rw [hj] at p2; exact p2.elim
      | some j =>
        rw [hj] at p2
        obtain ⟨h1, h2, h3⟩ := List.findIdx?_eq_some_iff_getElem.mp hj
        have at_ : ∀ (k : Nat) (hk : k < ds.length), (toPs ds)[k]? = some (toP ds[k]) ∧ PyData.eqv (toP ds[k]) (toP y) = ds[k].eqv y := fun k hk => by
          refine ⟨by rw [toPs_map, List.getElem?_map, List.getElem?_eq_getElem hk]; rfl, eqv_toP 50 50 _ _ (fits_all hf.2 _ (List.getElem_mem hk)) hf.1⟩
        refine ⟨a, vy, toP y, toPs ds, j, toP ds[j], rfl, rfl, .lst (SqL.of g') (RDs.dp 50 ds r' hf.2), RD.dp 50 y y2 hf.1, shaped_toP (d := .lst ds) ?_, shaped_toP (fit_le hf.1 (by omega)), (at_ j h1).1, (at_ j h1).2.trans h2, fun k z hk hz => ?_, p2 _ q2 (Ext.refl q2) L2 (.int _)⟩
        · exact (fit_le (n := 51) (k := 60) (d := .lst ds) (by simpa [D.fit] using hf.2) (by omega))
        · have hkl : k < ds.length := by omega
          rw [(at_ k hkl).1] at hz
          cases hz
          rw [(at_ k hkl).2]
          simpa using h3 k hk
    · exact p2.elim
  | _ => exact p1.elim
/-! ### max of a list of numbers -/
theorem intsOf_vals {K : PySem.W.Frag} {q : Stt} : ∀ {ds : List D} {vs : List V} {ns : List Int}, RDs K q ds vs → intsOf ds = some ns → vs = ns.map V.int
  | [], _, _, h, e => by cases h; cases e; rfl
  | d :: ds, _, ns, h, e => by
    cases h with
    | cons a b =>
      cases a with
      | int i =>
        simp only [intsOf] at e
        cases e2 : intsOf ds with
        | none => rw [e2] at e; cases e
        | some is =>
          rw [e2] at e
          cases e
          rw [intsOf_vals b e2]
          rfl
      | _ => cases e
theorem foldl_max_ge : ∀ (ns : List Int) (n : Int), n ≤ ns.foldl max n ∧ ∀ m ∈ ns, m ≤ ns.foldl max n
  | [], n => ⟨Int.le_refl _, fun _ h => nomatch h⟩
  | k :: ns, n => by
    obtain ⟨h1, h2⟩ := foldl_max_ge ns (max n k)
    simp only [List.foldl_cons]
    refine ⟨by omega, fun m hm => ?_⟩; rcases List.mem_cons.mp hm with e | hm
    · subst e; omega
    · exact h2 m hm
theorem foldl_max_mem : ∀ (ns : List Int) (n : Int), ns.foldl max n ∈ n :: ns
  | [], n => by simp
  | k :: ns, n => by
    have h := foldl_max_mem ns (max n k)
    simp only [List.foldl_cons]; rcases List.mem_cons.mp h with e | h
    · rw [e]
      rcases Int.le_total n k with l | l
      · rw [Int.max_eq_right l]; simp
      · rw [Int.max_eq_left l]; simp
    · simp [h]
theorem ge_max {x : Str} (hc : X.calm = true) (hm : X.mg x = none) (ha : GE X C W e m) (hg : Gl X x := by rfl) (hv : bootBuiltins x = some (.builtin "max") := by decide +kernel) (hn : x ≠ "__name__" := by decide) (hd : (x == ("__debug__" : Str)) = false := by decide)
    (h1 : starEach [e] X.env = (false, eval e X.env) :: starEach [] X.env := by rfl) : GE X C W (.Call (.Name x p2) [e] [] pos) (eOp1 opMax m) := PE.imp (pe_callB (cr_max hc) hg hm hv (pa_cons ha pa_nil h1) hn hd (he := h1)) fun σ H Q ⟨q0, q, env, s, eq, E, L, p⟩ => by
  subst eq
  refine tM.first (f := fun x s1 => .ofO (opMax s1 x) s1) E L p rD_any fun x s1 vx q1 x1 E1 L1 y1 p1 => ?_
  cases x with
  | lst ds =>
    cases y1 with
    | @lst a vs _ g r =>
      simp only [opMax] at p1
      split at p1
      · rename_i n ns hi
        have ev := intsOf_vals r hi
        subst ev
        refine ⟨a, n :: ns, rfl, SqL.of g.1, by simp, fun k hk hle => ?_⟩
        have e1 : k = ns.foldl max n := by
          have h1 := foldl_max_ge ns n
          have h2 := hle _ (foldl_max_mem ns n)
          rcases List.mem_cons.mp hk with e | h
          · subst e; omega
          · have := h1.2 k h; omega
        subst e1
        exact p1 _ q1 (Ext.refl q1) L1 (.int _)
      · exact p1.elim
  | _ => exact p1.elim
/-! ### a list so many times -/
theorem RDs.flat {K : PySem.W.Frag} {q : Stt} {ds : List D} {vs : List V} (r : RDs K q ds vs) : ∀ n : Nat, RDs K q (List.replicate n ds).flatten (List.replicate n vs).flatten
  | 0 => .nil
  | n + 1 => by
    rw [List.replicate_succ, List.replicate_succ, List.flatten_cons, List.flatten_cons]; exact r.append (RDs.flat r n)
theorem gl_mul (ha : GB X C W a ma) (hb : GE X C W b mb) : GL X C W (.BinOp a .Mult b pos) (lMul ma mb) := PE.imp (pe_op op_rep ha hb) fun σ H Q ⟨q0, q, env, s, eq, E, L, p⟩ => by
  subst eq
  refine tM.first0 (f := fun x s1 => (mb env s1).bind fun y s2 => mulAt x y s2) E L p fun x s1 vx q1 x1 L1 y1 p1 => ?_
  refine ⟨q0, q1, env, s1, rfl, E.ext x1, L1, ?_⟩
  cases e1 : mb env s1 with
  | stk => rw [e1] at p1; exact p1.elim
  | exc z t => rw [e1] at p1; exact fun c d q' w r => p1 c d q' (x1.trans w) r
  | ok y s2 =>
    rw [e1] at p1
    intro vy q2 x2 L2 y2
    simp only [Res.bind_ok] at p1
    unfold mulAt at p1
    rcases (y1.ext x2).view L2 with ⟨ds, u, vs, ev, rfl, g, r⟩ | ⟨ev, r, nl⟩
    · rw [ev] at p1
      cases y2 with
      | int k =>
        simp only at p1
        split at p1
        · rename_i hl
          refine ⟨u, k, vs, rfl, rfl, g, by omega, by omega, by rw [r.length]; exact lenS hl.1, fun l hl' => ?_⟩
          exact p1 _ _ ((x1.trans x2).trans (Ext.newL L2.wf hl')) (L2.newL hl') (RN.newL L.wf (x1.trans x2) L2 hl' (r.flat _))
        · exact p1.elim
      | _ => exact p1.elim
    · rw [ev] at p1
      cases x with
      | lst ds => exact absurd rfl (nl ds)
      | _ => exact p1.elim
/-! ### a piece of a text -/
theorem partIx_sIx0 (n d : Nat) (i : Option Int) : partIx n d i = HT.sIx n d i := by
  cases i <;> rfl
theorem ge_slS {p2 : Pos} {lo hi : Option Expr} {l h : MO} (ha : GE X C W a ma) (hl : GO X C W lo l) (hh : GO X C W hi h) : GE X C W (.Subscript a (.Slice lo hi none p2) pos) (eSlS ma l h) := PE.imp (pe_slice sl_str ha hl hh) fun σ H Q ⟨q0, q, env, s, eq, E, L, p⟩ => by
  subst eq
  refine tM.first (f := fun x s1 => (l env s1).bind fun l s2 => (h env s2).bind fun h s3 => cutSAt x l h s3) E L p rD_any fun x s1 vx q1 x1 E1 L1 y1 p1 => ?_
  refine tM.first (f := fun l s2 => (h env s2).bind fun h s3 => cutSAt x l h s3) E1 L1 p1 rD_any fun lo' s2 lo'' q2 x2 E2 L2 y2 p2 => ?_
  refine tM.first (f := fun h s3 => cutSAt x lo' h s3) E2 L2 p2 rD_any fun hi' s3 hi'' q3 x3 E3 L3 y3 p3 => ?_
  subst y2 y3
  unfold cutSAt at p3
  cases y1 with
  | str cs =>
    simp only at p3
    split at p3
    · rename_i hl
      refine ⟨_, rfl, by simp only [Str.length, List.size_toArray]; exact lenS hl, ?_⟩
      have ec : cutS ⟨cs.toArray⟩ lo' hi' = ⟨(cutS0 cs lo' hi').toArray⟩ := by
        unfold cutS cutS0
        simp only [Str.length, List.size_toArray, partIx_sIx0]
      rw [ec]
      exact p3 _ q3 (Ext.refl q3) L3 (.str _)
    · exact p3.elim
  | _ => exact p3.elim
/-! ### an item put in a dict -/
theorem gs_subD (hu : X.A.units + 1 < cLine) (ho : GE X C W o mo) (hi : GE X C W a mi) (hv : GE X C W e m) (hs : swapsWith e (some (.Subscript o a p')) pos.line X.env = pure false := by rfl) :
    GS X C W (.Assign [.Subscript o a p'] e pos) (sSetD mo mi m) := PS.imp (ps_dput hu ho hi hv hs) fun D σ H ⟨q0, q, env, s, eq, X0, E, L, p⟩ => by
  subst eq
  refine tS.first X0 E L p fun d s1 v q1 x1 X1 E1 L1 y p1 => ?_
  refine tS.first X1 E1 L1 p1 fun ob s2 u q2 x2 X2 E2 L2 z p2 => ?_
  refine tS.first X2 E2 L2 p2 fun ix s3 iv q3 x3 X3 E3 L3 w p3 => ?_
  have z' := RD.mono x3.kp _ z
  have y' := RD.mono (x2.trans x3).kp _ y
  unfold putAt at p3
  cases z' with
  | @ref n b h2 =>
    simp only at p3
    split at p3
    · rename_i kvs hn
      split at p3
      · rename_i hk
        obtain ⟨k, hkk⟩ := isKey_of hk.1
        obtain ⟨ks, e1, r1⟩ := L3.obs n _ b hn h2
        have ev := kV_of w hkk
        subst ev
        have lu : q3.L b := L3.wf.live b (List.mem_of_getElem? h2)
        obtain ⟨w1, w2⟩ := wr_placed (ho := .dK (putK ks k v)) (o' := .dic (dPut kvs ix d)) L3 hn h2 ⟨_, upd_same, (r1.put hkk y').mono (Kp.wr lu)⟩
        refine ⟨b, _, rfl, DPut.k e1 (by rw [r1.length]; exact Nat.lt_of_lt_of_le hk.2 (lenS (by unfold cap; omega))), ?_⟩
        exact p3 σ _ (X3.trans w1) w1.kp w2 (E3.ext w1)
      · exact p3.elim
    · exact p3.elim
  | _ => exact p3.elim
theorem gs_parO (i j : Nat) {x y : Str} {ml : MA} {px py pt pt2 : Pos} {kt k2} (hc : X.calm = true) (hN : X.N.Nodup) (ha : GL X C W a ml) (hb : GE X C W b mb) (hi : X.N[i]? = some x := by rfl) (hj : X.N[j]? = some y := by rfl) (hij : i ≠ j := by decide)
    (hx : X.env.scope.names.lookup x = some .local := by rfl) (hy : X.env.scope.names.lookup y = some .local := by rfl)
    (hw : swappedStores [.Tuple [.Name x px, .Name y py] kt pt] (.Tuple [a, b] k2 pt2) X.env = pure (some [x, y]) := by rfl)
    (hs : swapsWithSole [.Tuple [.Name x px, .Name y py] kt pt] (.Tuple [a, b] k2 pt2) pos.line X.env = pure false := by rfl)
    (h1 : starEach [a, b] X.env = (false, eval a X.env) :: starEach [b] X.env := by rfl) (h2 : starEach [b] X.env = (false, eval b X.env) :: starEach [] X.env := by rfl) :
    GS X C W (.Assign [.Tuple [.Name x px, .Name y py] kt pt] (.Tuple [a, b] k2 pt2) pos) (sParO i j ml mb) := PS.imp (ps_par hc hN hi hj hij hx hy (pa_cons ha (pa_cons hb pa_nil h2) h1) hw hs) fun D σ H ⟨q0, q, env, s, eq, X0, E, L, p⟩ => by
  subst eq
  refine tS.first (f := fun ds s1 => (mb env s1).go env fun b s2 => SRes.nx ((env.set i (.own ds)).set j (.val b)) s2) X0 E L p fun ds s1 v q1 x1 X1 E1 L1 y1 p1 => ?_
  obtain ⟨pp, vs, rfl, g1, g2, g3, g4, g5⟩ := y1
  refine tS.first (f := fun b s2 => SRes.nx ((env.set i (.own ds)).set j (.val b)) s2) X1 E1 L1 p1 fun d s2 w q2 x2 X2 E2 L2 y2 p2 => ?_
  refine ⟨_, _, rfl, p2 _ q2 X2 (Kp.refl q2) L2 ((RE.setOwn E2 X0 L i E g1 (x2.keep _ _ g2 g4 fun _ z => nomatch z) (x2.mono _ g3) (fun z => (x2.new _ z).elim g4 fun n => n _ g2 fun _ z => nomatch z) (RDs.mono x2.kp _ g5)).set j y2)⟩
end
end MP

/-! What the head tells, as Bools. Own text. -/
namespace MP
open PySem L2 TL He
section
variable {K : PySem.W.Frag}
/-! ### refusals -/
def oexB (K : PySem.W.Frag) (Ca : Addr) : Bool := (match K.lookup Ca with
  | some ⟨.type "type", _, .cls cd, sl0⟩ => (match cd.mro, sl0.toList with
    | .ref C' :: bm, [_, _, _, _, some (.builtin n), _] => decide (C' = Ca) && (decide (n = "ValueError.__new__") && (!cd.hasDel && (cd.hasDict && PySem.HandSPX.refsVE bm)))
    | _, _ => false)
  | _ => false) && (eqO (PySem.W.findIn K (.ref Ca) "__setattr__") (some (some (.builtin "object.__setattr__"))) && (decide (PySem.W.subIn K (.ref Ca) (.type "BaseException") = some true) &&
    (decide (PySem.W.typeIn K (.ref Ca) = some (.type "type")) && PySem.W.keepIn K (.ref Ca))))
theorem oexB_ok {Ca : Addr} (h : oexB K Ca = true) : OexC K Ca := by
  obtain ⟨h1, h⟩ := ba h
  obtain ⟨h2, h⟩ := ba h
  obtain ⟨h3, h⟩ := ba h
  obtain ⟨h4, h5⟩ := ba h
  refine ⟨?_, eqO_ok h2, of_decide_eq_true h3, of_decide_eq_true h4, h5⟩
  split at h1
  · rename_i dd cd sl ho
    split at h1
    · rename_i C' bm q0 q1 q2 q3 n q5 hm hs
      obtain ⟨a1, h1⟩ := ba h1
      obtain ⟨a2, h1⟩ := ba h1
      obtain ⟨a3, h1⟩ := ba h1
      obtain ⟨a4, a5⟩ := ba h1
      have e1 : C' = Ca := of_decide_eq_true a1
      have e2 : n = "ValueError.__new__" := of_decide_eq_true a2
      obtain ⟨nm, bs, mro, ns, qn, hd, sn, sub, ab, col, del⟩ := cd; dsimp only at hm a3 a4
      have e3 : del = false := by simpa using a3
      subst hm e1 e2 e3 a4
      have hsl : sl = #[q0, q1, q2, q3, some (.builtin "ValueError.__new__"), q5] := by
        obtain ⟨l⟩ := sl
        simp only at hs
        rw [hs]
      subst hsl
      exact ⟨_, _, _, _, _, _, _, _, _, _, _, _, _, _, _, ho, a5⟩
    · cases h1
  · cases h1
def exoB (K : PySem.W.Frag) (Ca : Addr) (fs : List Str) : Bool := oexB K Ca && fs.all fun f => eqO (PySem.W.findIn K (.ref Ca) f) (some none)
theorem exoB_ok {Ca : Addr} {fs : List Str} (h : exoB K Ca fs = true) : ExO K Ca fs := by
  obtain ⟨h1, h2⟩ := ba h
  exact ⟨oexB_ok h1, fun f hf => eqO_ok (List.all_eq_true.mp h2 f hf)⟩
def baseB (K : PySem.W.Frag) (CM : Addr) : Bool := PySem.W.readsIn K CM (.type "type") && (decide (PySem.W.specialIn K (.ref CM) "__getattribute__" = some (some (.builtin "type.__getattribute__"))) &&
  (match PySem.W.findCls K (.ref CM) (.type "type") "__init__" with
    | some (.val v) => decide (v = .builtin "ValueError.__init__")
    | _ => false))
theorem baseB_ok {CM : Addr} (h : baseB K CM = true) : BaseI K CM := by
  obtain ⟨h1, h⟩ := ba h
  obtain ⟨h2, h3⟩ := ba h
  refine ⟨⟨h1, of_decide_eq_true h2⟩, ?_⟩
  split at h3
  · rename_i v q
    rw [q, of_decide_eq_true h3]
  · cases h3
def excCB (K : PySem.W.Frag) (D : Addr) : Bool := eqO (PySem.W.findIn K (.ref D) "__getattribute__") (some (some (.builtin "BaseException.__getattribute__"))) && (eqO (PySem.W.findIn K (.ref D) "__getattr__") (some none) && (decide (PySem.W.subIn K (.ref D) (.type "BaseException") = some true) &&
  (PySem.W.hasDictIn K D && (eqO (PySem.W.findIn K (.ref D) "__class__") (some (some (.builtin "object.__class__"))) && (eqO (PySem.W.specialIn K (.builtin "object.__class__") "__get__") (some (some (.builtin "getset_descriptor.__get__"))) &&
  (decide (PySem.W.takesIn K (.builtin "object.__class__") = some true) && decide (PySem.W.mroIn K D (.type "object") = some true)))))))
theorem excCB_ok {D : Addr} (h : excCB K D = true) : ExcC K D := by
  obtain ⟨h1, h⟩ := ba h
  obtain ⟨h2, h⟩ := ba h
  obtain ⟨h3, h⟩ := ba h
  obtain ⟨h4, h⟩ := ba h
  obtain ⟨h5, h⟩ := ba h
  obtain ⟨h6, h⟩ := ba h
  obtain ⟨h7, h8⟩ := ba h
  exact ⟨eqO_ok h1, eqO_ok h2, of_decide_eq_true h3, h4, eqO_ok h5, eqO_ok h6, of_decide_eq_true h7, of_decide_eq_true h8⟩
/-- isinstance of refusals of the classes told, by one class -/
def isXB (K : PySem.W.Frag) (C : Nat → Addr) (tab : List (Nat × Bool)) (cv : Value) : Bool := tab.all fun p => excCB K (C p.1) && decide (PySem.W.kitOne K (.ref (C p.1)) cv = some p.2)
theorem lookup_mem' {α : Type} {c : Nat} {b : α} : ∀ {tab : List (Nat × α)}, tab.lookup c = some b → (c, b) ∈ tab
  | [], h => by cases h
  | (d, e) :: r, h => by
    rw [List.lookup_cons] at h
    split at h
    · rename_i q
      cases h
      rw [beq_iff_eq.mp q]
      exact List.mem_cons_self
    · exact List.mem_cons_of_mem _ (lookup_mem' h)
theorem isXB_ok {C : Nat → Addr} {tab : List (Nat × Bool)} {cv : Value} (h : isXB K C tab cv = true) : ∀ c b, tab.lookup c = some b → ExcC K (C c) ∧ PySem.W.kitOne K (.ref (C c)) cv = some b := fun c b hl => by
  obtain ⟨h1, h2⟩ := ba (List.all_eq_true.mp h _ (lookup_mem' hl))
  exact ⟨excCB_ok h1, of_decide_eq_true h2⟩
def xfsB (K : PySem.W.Frag) (C : Nat → Addr) (cs : List Nat) (f : Str) : Bool := cs.all fun c => xfB K (C c) && eqO (PySem.W.findIn K (.ref (C c)) f) (some none)
theorem xfsB_ok {C : Nat → Addr} {cs : List Nat} {f : Str} (h : xfsB K C cs f = true) : ∀ c ∈ cs, XfC K (C c) ∧ PySem.W.findIn K (.ref (C c)) f = some none := fun c hc => by
  obtain ⟨h1, h2⟩ := ba (List.all_eq_true.mp h c hc)
  exact ⟨xfB_ok h1, eqO_ok h2⟩
def exmsB (K : PySem.W.Frag) (C : Nat → Addr) (cs : List Nat) (CS : Addr) : Bool := cs.all fun c => decide (PySem.W.exmOne K (.ref (C c)) (.ref CS) = some true)
theorem exmsB_ok {C : Nat → Addr} {cs : List Nat} {CS : Addr} (h : exmsB K C cs CS = true) : ∀ c ∈ cs, PySem.W.exmOne K (.ref (C c)) (.ref CS) = some true := fun c hc => of_decide_eq_true (List.all_eq_true.mp h c hc)
/-- a maker of refusals is a function -/
def initB (K : PySem.W.Frag) (Ca f : Addr) : Bool := eqO (PySem.W.findIn K (.ref Ca) "__init__") (some (some (.ref f))) && decide (PySem.W.typeIn K (.ref f) = some (.type "function"))
theorem initB_ok {Ca f : Addr} (h : initB K Ca f = true) : PySem.W.findIn K (.ref Ca) "__init__" = some (some (.ref f)) ∧ PySem.W.typeIn K (.ref f) = some (.type "function") := by
  obtain ⟨h1, h2⟩ := ba h
  exact ⟨eqO_ok h1, of_decide_eq_true h2⟩
def rzB (K : PySem.W.Frag) (Ca : Addr) : Bool := PySem.W.excIn K Ca veBase "ValueError.__new__" && (PySem.W.keepIn K (.ref Ca) && (decide (PySem.W.subIn K (.ref Ca) (.type "BaseException") = some true) && decide (PySem.W.typeIn K (.ref Ca) = some (.type "type"))))
structure Rz (K : PySem.W.Frag) (Ca : Addr) : Prop where
  q : PySem.W.excIn K Ca veBase "ValueError.__new__" = true
  kC : PySem.W.keepIn K (.ref Ca) = true
  sub : PySem.W.subIn K (.ref Ca) (.type "BaseException") = some true
  ty : PySem.W.typeIn K (.ref Ca) = some (.type "type")
theorem rzB_ok {Ca : Addr} (h : rzB K Ca = true) : Rz K Ca := by
  obtain ⟨h1, h⟩ := ba h
  obtain ⟨h2, h⟩ := ba h
  obtain ⟨h3, h4⟩ := ba h
  exact ⟨h1, h2, of_decide_eq_true h3, of_decide_eq_true h4⟩
/-! ### written values -/
def glB (K : PySem.W.Frag) (x : Str) (d : D) : Bool := match PySem.W.nsIn K mainGlobals x with
  | some (some u) => KVal K 6 u d
  | _ => false
theorem glB_ok {h : Heap} {mg : Str → Option Value} {x : Str} {d : D} (X : K.In h) (G : h.Ns mainGlobals mg) (e : glB K x d = true) : ∃ u, mg x = some u ∧ KVal K 6 u d = true := by
  unfold glB at e
  split at e
  · rename_i u q; exact ⟨u, PySem.W.mg_of X G q, e⟩
  · cases e
def kdB (K : PySem.W.Frag) (x : Str) (tab : List (List Nat × D)) : Bool := match K.lookup (ga K x) with
  | some ⟨.type "dict", none, .dict es _, _⟩ => KEnts K 6 es.toList tab
  | _ => false
theorem kdB_ok {w : World} {h : Heap} {mg : Str → Option Value} {x : Str} {tab : List (List Nat × D)} (X : K.In h) (G : h.Ns mainGlobals mg) (g : (Fa.glo x).ok K = true) (kd : ∃ es n, KDict K w (ga K x) es n) (e : kdB K x tab = true) : ∃ a, mg x = some (.ref a) ∧ KDic K w a tab := by
  obtain ⟨es, n, l, k, lo⟩ := kd
  unfold kdB at e
  rw [l] at e
  exact ⟨_, glo_ok X G g, es, n, l, k, lo, e⟩
/-! ### the hook: what the module's names reach, and the statics -/
def asY (g : Addr → Option Obj) (n : Nat) : List Addr := asD g n ++ [PySem.cStatics]
def obsY (n : Nat) (fa : List Fa) (fn : List DefD) (ts : List He.Tab) (tf : List Defn) (ex : PySem.W.Frag → Bool) (g : Addr → Option Obj) : AlX := (fun K => (obsT fa fn ts K, ex K && tabsB g tf K)) (frT g (asY g n))
theorem saysY_of {as : List Addr} {fa : List Fa} {fn : List DefD} {ts : List He.Tab} {tf : List Defn} {ex : PySem.W.Frag → Bool} {w : World} {h : Heap} (e : (fun K => ((obsT fa fn ts K, ex K && tabsB h.get? tf K) : AlX)) (frT h.get? as) = valX fn ts w) : SaysX fa fn ts tf ex w h (frT h.get? as) := by
  have e1 : obsT fa fn ts (frT h.get? as) = valT fn ts w := congrArg (fun z : AlX => z.1) e
  obtain ⟨h1, h2⟩ := ba (show (ex (frT h.get? as) && tabsB h.get? tf (frT h.get? as)) = true from congrArg (fun z : AlX => z.2) e)
  have k : ∀ p ∈ tf, PySem.W.codeHdIn (frT h.get? as) (cT (frT h.get? as) p).1 (cT (frT h.get? as) p).2 = true ∧ ∃ o, h.get? (cT (frT h.get? as) p).2 = some o ∧ emptyTab o = true := fun p hp => by
    obtain ⟨h3, h4⟩ := ba (List.all_eq_true.mp h2 p hp); refine ⟨h3, ?_⟩
    split at h4
    · rename_i o q; exact ⟨o, q, h4⟩
    · cases h4
  refine ⟨e1, h1, fun p hp => (k p hp).1, fun p hp => ?_, fun p hp => ?_⟩
  · obtain ⟨_, o, q, z⟩ := k p hp; exact frT_none q z
  · obtain ⟨_, o, q, z⟩ := k p hp; rw [q, emptyTab_eq z]
def hookY (n : Nat) (fa : List Fa) (fn : List DefD) (ts : List He.Tab) (tf : List Defn) (ex : PySem.W.Frag → Bool) : PySem.W.Hook where
  α := AlX
  obs := fun s => obsY n fa fn ts tf ex s.heap.get?
  val := fun w => valX fn ts w
  says := fun w h => ∃ K : PySem.W.Frag, K.In h ∧ SaysX fa fn ts tf ex w h K; of := fun _ _ e => ⟨_, frT_in, saysY_of e⟩
  keeps := fun _ _ _ ⟨K, hK, c⟩ k => ⟨K, PySem.W.Frag.In.keeps hK k, c.t, c.more, c.hd, c.out, fun p hp => k _ _ (c.empty p hp)⟩
/-! ### a def's code object -/
section
variable {P : Program} {w : World} {mg : Str → Option Value} {base : Heap} {C : MP.Tab} {x qual : Str} {params : Arguments} {body : List Stmt} {scope : Scope} {kws : List (Str × V)} {fd : FuncData} {N ps : List Str} {k : Nat} {ms : MS} {p : Defn}
theorem fn_calC {f : Addr} (F : FunD K x qual params body scope [] kws f fd) (hf : f = fAd K p) (S : FnScope N ps scope) (hN : ps.length ≤ N.length)
    (hb : ∀ (A : Around) (outer : List PySem.Env) (s : Shared) (H : Hp) (E : XK), Room k (A.deeper (PyProof.Rows.envOfC qual scope s.heap.objs.size f (.ref (codeOf K p)))) →
      GSs (cxOf (L2.CX P w) P w K mg base N qual scope f (.ref (codeOf K p)) A outer s H E) C (fun cls d _ H' => E cls d H') body ms) : FnOk P w K mg base (L2.CX P w) (k + 1) f fd ps (spM K C (runB ps.length N.length ms)) := by
  subst hf
  obtain ⟨oc, od, dV, kV, doc, pm, an, cdv, ct, osl, rfl, lk, hcd, _, _⟩ := F.ex; obtain ⟨c, rfl⟩ := codeIn_ref hcd
  have e : codeOf K p = c := codeOf_eq lk rfl
  subst e
  exact fn_of lk hcd S (fun vs H Q E h => spM_len h) fun A outer s H vs Q E hr h => body_sim hN rfl (hb A outer s H E hr) h
end
theorem Room65 {k : Nat} {A : Around} (r : Room k A) : A.units + 65 < cLine := by have := r.un; omega
/-- the suite of the clause that a body begins with -/
def hdBody : List Stmt → List Stmt
  | .Try _ [.ExceptHandler _ _ b _] _ _ _ :: _ => b
  | _ => []
/-- what one of several facts says -/
theorem ex_at {exs : List (PySem.W.Frag → Bool)} (h : (exs.all fun f => f K) = true) (i : Nat) {f : PySem.W.Frag → Bool} (e : exs[i]? = some f := by rfl) : f K = true := List.all_eq_true.mp h f (List.mem_of_getElem? e)
/-- the head's answer -/
theorem lawAt {l : PySem.W.OpenLaw} {w : World} {n k : Nat} {mg : Str → Option Value} {fa : Addr} {h : Heap} {x : Str} {fa0 : List Fa} {fn : List DefD} {ts : List He.Tab} {tf : List Defn} {ex : PySem.W.Frag → Bool} {T : List (Addr × Str)} {fd : FuncData} (KX : K.In h) (c : SaysX fa0 fn ts tf ex w h K) (nm : List Str) (hnm : nm.length = tf.length)
    (hT : T = List.zipWith (fun p y => ((cT K p).2, y)) tf nm) (hb : ∀ (s : Shared) (u : Value), BindsTo s fd ⟨[u], []⟩ [(x, u)])
    (hF : ∀ base : Heap, K.In base → base.Ns mainGlobals mg → (∀ p ∈ tf, LamX.TabB base mg (cT K p).1 (cT K p).2) → FnOk l.prog w K mg base (L2.CX l.prog w) k fa fd [x] (spLawT K T n)) : LamX.LawAtS l w K (L2.CX l.prog w) k n x mg fa h := by
  refine ⟨fd, tf.map (cT K), spLawT K T n, fun p hp => ?_, fun p hp => ?_, fun p hp => ?_, hb, fun H a ns l1 l2 h1 hS => ⟨a, ns, rfl, hS, fun p hp => ?_, l1, l2, fun _ => rfl⟩, fun base b1 b2 b3 => hF base b1 b2 fun p hp => b3 _ (List.mem_map.mpr ⟨p, hp, rfl⟩)⟩
  · obtain ⟨u, hu, rfl⟩ := List.mem_map.mp hp; exact c.empty u hu
  · obtain ⟨u, hu, rfl⟩ := List.mem_map.mp hp; exact c.out u hu
  · obtain ⟨u, hu, rfl⟩ := List.mem_map.mp hp; exact PySem.W.codeHd_of_K KX (c.hd u hu)
  · subst hT
    rw [List.zipWith_eq_zipWith_take_min] at hp
    obtain ⟨i, hi, e⟩ := List.mem_iff_getElem.mp hp
    rw [List.getElem_zipWith] at e
    subst e
    have hi' : i < tf.length := by simp at hi; omega
    refine h1 _ (List.mem_map.mpr ⟨tf[i], List.getElem_mem hi', ?_⟩)
    simp
theorem cx_none {P : Program} {w : World} {H : Hp} {s : Shared} {e : Value} {s' : Shared} (h : L2.CX P w [] H s (fun _ _ _ => False) e s') : False := by
  obtain ⟨_, _, _, _, _, _, _, _, _, _, _, _, z⟩ := h; exact z.elim
end
end MP

/-! enumerate of a tuple. Own text. -/
namespace MP
open L2 PySem PySem.Spec PyProof.Rows
section
variable {s : Shared} {prog : Program} {w : World} {A : Around} {E : Value → Shared → Prop}
theorem meets_enum1 {v : Value} {o : Obj} {Hh : Heap → Prop} (B : Begins v o Hh) : Meets (Builtin.«enumerate.__new__» ⟨[.type "enumerate", v], []⟩) (fun _ R s => Hh s.heap ∧ R (.ok (.ret (.ref (s.heap.push o).objs.size)))
    { s with heap := (s.heap.push o).push { cls := .type "enumerate", data := .fields #[.none, .bool false, .ref s.heap.objs.size, rawInt 0, .none, .none] } }) :=
  .of_wp fun pg w A R s h => by
    obtain ⟨hp, g, d, tk, os⟩ := s; obtain ⟨h1, h⟩ := h; have hsub := sub_enumerate
    have q1 : ∀ {A' : Around} {E : Value → Shared → Prop} {Q : Value → Shared → Prop}, Q (.ref hp.objs.size) ⟨hp.push o, g, d, tk, os⟩ → wpAny (model pg w) A' (pyIter v) Q E ⟨hp, g, d, tk, os⟩ := fun q => B.iter pg w _ _ ⟨hp, g, d, tk, os⟩ _ h1 q
    wp_walk using q1
    refine wpAny_stack_any fun st => wpAny_pure ?_; split
    · rename_i c _ _ _ _ _
      cases hcz : (c == Value.type "enumerate")
      · wp_walk using q1
        exact ⟨_, rfl, h⟩
      · wp_walk using q1
        exact ⟨_, rfl, h⟩
    · wp_walk using q1
      exact ⟨_, rfl, h⟩
theorem call_enum1 {v : Value} {o : Obj} {Hh : Heap → Prop} {Q : Value → Shared → Prop} (B : Begins v o Hh) (h1 : Hh s.heap)
    (h : ∀ h', IsEnum h' (s.heap.objs.size + 1) s.heap.objs.size 0 .none → h'.get? s.heap.objs.size = some o → (∀ b u, s.heap.get? b = some u → h'.get? b = some u) → Q (.ref (s.heap.objs.size + 1)) { s with heap := h' }) : wpAny (model prog w) A (call (.type "enumerate") [v]) Q E s := by
  refine callType_new F.called_enumerate (by decide) (F.typeCall_enumerate_1 _) (F.newCall_enumerate_1 _) (fun obj => F.args_object_init_2 obj _) F.entry_enumerate_new (meets_enum1 B) ⟨h1, ?_⟩
  have hz : (s.heap.push o).objs.size = s.heap.objs.size + 1 := Heap.size_push ..; show _ ∧ _
  rw [hz]
  have he : IsEnum ((s.heap.push o).push { cls := .type "enumerate", data := .fields #[.none, .bool false, .ref s.heap.objs.size, rawInt 0, .none, .none] }) (s.heap.objs.size + 1) s.heap.objs.size 0 .none := by
    have := Heap.get?_push_size (s.heap.push o) (o := { cls := .type "enumerate", data := .fields #[.none, .bool false, .ref s.heap.objs.size, rawInt 0, .none, .none] }) rfl
    rw [hz] at this
    exact this
  exact ⟨⟨_, he, rfl⟩, h _ he (Heap.get?_push_of_some _ (Heap.get?_push_size _ B.free)) fun b u x => Heap.get?_push_of_some _ (Heap.get?_push_of_some _ x)⟩
end
/-- the tuple at a, each item in a nw pair -/
def Itet (K : PySem.W.Frag) (a : Addr) : It :=
  ⟨fun i H => ∃ (xs : List V) (x : V), SqT K H a xs ∧ xs[i]? = some x, fun i H v H' => ∃ T x, v = .ref T ∧ H T = none ∧ H' = upd H T (.tup [.int (i : Nat), x]) ∧ ∀ xs, SqT K H a xs → xs[i]? = some x, fun i H => ∃ xs : List V, SqT K H a xs ∧ xs.length = i⟩
theorem turn_enumT {P : Program} {w : World} {K : PySem.W.Frag} {elts : List Expr} {kk : Nat} {tpos : Pos} (a e it : Addr) :
    Turn P w K (.Tuple elts kk tpos) (Itet K a) [e, it] e (fun i h => (∃ old, IsEnum h e it ((i : Nat) : Int) old) ∧ h.IsTupleIter it a i ∧ e ≠ it ∧ it ≠ a ∧ e ≠ a) where
  mem := by simp
  obj := fun i h st b hb => by
    obtain ⟨⟨old, he⟩, ⟨o, ho, hc, hd⟩, _⟩ := st; have eb : b = e ∨ b = it := by simpa using hb
    rcases eb with z | z
    · subst z; exact ⟨_, he, fun v q => nomatch q⟩
    · subst z; exact ⟨o, ho, fun v q => by rw [hd] at q; cases q⟩
  keep := fun i h h' st k => let ⟨⟨old, he⟩, hi, hne⟩ := st; ⟨⟨old, k e (by simp) _ he⟩, hi.at fun o q => k it (by simp) o q, hne⟩; item := by
    intro X hP hw hK hc i pins s σ H E I hf st hg; subst hP hw hK
    obtain ⟨⟨old, he⟩, hit, hne, hia, hea⟩ := st
    obtain ⟨xs, x, hq, hx⟩ := hg
    obtain ⟨its, rv, p, hz⟩ := I.tuple hq; obtain ⟨u, hu, ru⟩ := rv.get hx
    have hel : e < s.heap.objs.size := Heap.lt_size he; have hil : it < s.heap.objs.size := by obtain ⟨_, q, _⟩ := hit; exact Heap.lt_size q
    have hlt : i < its.toArray.size := by obtain ⟨q, _⟩ := List.getElem?_eq_some_iff.mp hu; simpa using q
    refine wpAny_pyNext_enum_itemD (Draws.tuple (show X.A.in1.handled = none from I.ok.hd hc) it a (Ne.symm hia) its.toArray) he ⟨hit, p⟩ hlt hne (by simp [hne, hea]) fun u' h' tk hP ho hst hT hsz hk => ?_
    have eu : u' = u := by
      have : its.toArray[i]? = some u := by simpa using hu
      rw [this] at hP
      exact (Option.some.inj hP).symm
    subst eu
    refine ⟨_, rfl, wpAny_letOwnedTupleGo_enum (s := { s with heap := h', toks := tk + 1 }) ho fun h'' he' sb => ?_⟩
    have hT2 : h''.get? s.heap.objs.size = some { cls := .type "tuple", data := .seq #[.int i tk, u'] } := (sb.2 _ (Nat.ne_of_gt hel)).trans hT
    have nw : ObjOk X.prog X.w (upd H s.heap.objs.size (.tup [.int (i : Nat), x])) h'' s.heap.objs.size (.tup [.int (i : Nat), x]) :=
      ⟨by show 2 ≤ sizeLine; decide, [.int i tk, u'], .cons ⟨_, rfl⟩ (.cons ru .nil), ⟨_, hT2, rfl, _, rfl⟩⟩
    have I1 : Inv X pins σ (upd H s.heap.objs.size (.tup [.int (i : Nat), x])) { s with heap := h'', toks := tk + 1 } :=
      I.turnedNew (ch := [e, it]) (fun b oo hb q => (sb.2 b (fun z => hb (by simp [z]))).trans (hk b oo (fun z => hb (by simp [z])) (fun z => hb (by simp [z])) q)) hf (Nat.le_refl _) nw
    refine ⟨.ref s.heap.objs.size, _, I1, rfl, ⟨_, x, rfl, I.hok.fresh (Nat.le_refl _), rfl, fun ys hy => by rw [I.tuple_inj hy hq]; exact hx⟩, ⟨⟨u', ?_⟩, hst.1.at fun o q => (sb.2 it (Ne.symm hne)).trans q, hne, hia, hea⟩, fun b hb => ?_⟩
    · have en1 : ((i + 1 : Nat) : Int) = (i : Int) + 1 := by omega
      rw [en1]
      exact he'
    · have hbq : b < s.heap.objs.size := by
        have eb : b = e ∨ b = it := by simpa using hb
        rcases eb with z | z
        · rw [z]; exact hel
        · rw [z]; exact hil
      rw [upd_ne (Nat.ne_of_lt hbq)]
      exact (hf b hb).1
  done := by
    intro X hP hw hK hc i pins s σ H E I hf st hg; subst hP hw hK
    obtain ⟨⟨old, he⟩, hit, hne, hia, hea⟩ := st
    obtain ⟨xs, hq, hx⟩ := hg
    obtain ⟨its, rv, p, hz⟩ := I.tuple hq; obtain ⟨f0, f1, f2, f3, f4, f5⟩ := hf it (by simp)
    have hl := rv.length
    have D := Draws.tuple (prog := X.prog) (w := X.w) (show X.A.in1.handled = none from I.ok.hd hc) it a (Ne.symm hia) its.toArray
    have en : its.toArray.size = i := by simp; omega
    exact wpAny_pyNext_enum_endD D he ⟨by rw [en]; exact hit, p⟩ fun h' eb => ⟨rfl, I.turned (t' := s.toks) (fun b o hb q => eb b o hb q) f0 f1 f3 f4 f5⟩
  self := fun A i s Q E st hQ => let ⟨⟨_, hz⟩, _⟩ := st; wpAny_pyIter_enum hz hQ
def iEnT (K : PySem.W.Frag) (ta : TA) : TI := fun σ H R => ta σ H fun vs H1 => ∃ a xs, vs = [.ref a] ∧ SqT K H1 a xs ∧ R (Itet K a) H1
theorem pi_enumT {X : Cx} {e : Expr} {ta : TA} {p pos tpos : Pos} {elts : List Expr} {kk : Nat} (hg : Gl X "enumerate") (hm : X.mg "enumerate" = none) (ha : PA X [e] ta) (hs : starEach [e] X.env = [(false, eval e X.env)] := by rfl) :
    PI X (.Tuple elts kk tpos) (.Call (.Name "enumerate" p) [e] [] pos) (iEnT X.K ta) := by
  refine ⟨fun pins s σ H R I h => ?_⟩; refine Call_ (ld_blt I hg hm boot_enumerate (PyProof.Rows.callWith_type1 (thn (ha.run pos pins s σ H _ I h) fun us s1 ⟨vs, H1, I1, r1, q1⟩ => ?_) hs rfl))
  obtain ⟨a, xs, ex, hq, q⟩ := q1; subst ex
  cases r1 with
  | cons r rr =>
    cases rr
    cases r
    obtain ⟨its, rv, p', hz⟩ := I1.tuple hq
    have hal : a < s1.heap.objs.size := by obtain ⟨_, e, _⟩ := p'; exact Heap.lt_size e
    refine call_enum1 (begins_tuple a its.toArray) p' fun h' he hit hk => wpAny_pyIter_enum he ?_
    have I2 : Inv X pins σ H1 { s1 with heap := h' } := I1.kept (t' := s1.toks) hk; refine ⟨s1.heap.objs.size + 1, [s1.heap.objs.size + 1, s1.heap.objs.size], _, _, H1, rfl, I2, turn_enumT a (s1.heap.objs.size + 1) s1.heap.objs.size, ⟨⟨.none, he⟩, ⟨_, hit, rfl, rfl⟩, Nat.succ_ne_self _, Nat.ne_of_gt hal, Nat.ne_of_gt (Nat.lt_succ_of_lt hal)⟩, fun b hb => ?_, q⟩
    have eb : b = s1.heap.objs.size + 1 ∨ b = s1.heap.objs.size := by simpa using hb
    have hge : s1.heap.objs.size ≤ b := by
      rcases eb with z | z
      · rw [z]; exact Nat.le_succ _
      · rw [z]; exact Nat.le_refl _
    exact I1.fpOk hge (I1.hok.fresh hge)
theorem gi_enumT {X : Cx} {C : MP.Tab} {W : Wx} {e : Expr} {m : ME} {p pos tpos : Pos} {elts : List Expr} {kk : Nat} (hm : X.mg "enumerate" = none) (h : GE X C W e m) (hg : Gl X "enumerate" := by rfl) (h1 : starEach [e] X.env = (false, eval e X.env) :: starEach [] X.env := by rfl) (hs : starEach [e] X.env = [(false, eval e X.env)] := by rfl) :
    GI X C W (.Tuple elts kk tpos) (.Call (.Name "enumerate" p) [e] [] pos) (iEnumT m) := PI.imp (pi_enumT hg hm (pa_cons h pa_nil h1) hs) fun σ H R ⟨q0, q, env, s, eq, E, L, p⟩ => by
  subst eq
  refine tM.first (f := fun x s1 => (match x with | .tup ds => Res.ok (⟨ds.mapIdx fun i d => .tup [.int i, d], none⟩ : Src) s1 | _ => .stk : Res Src)) E L p (fun q1 x1 q2 a b w => w) fun x s1 vx q1 x1 E1 L1 y1 p1 => ?_
  cases y1 with
  | @tup a vs ds g r =>
    refine ⟨a, vs, rfl, g.sq, p1 _ q1 (Ext.refl q1) L1 fun q2 s2 i k R2 => ⟨fun d d' h1 h2 => ?_, fun hi _ => ?_⟩⟩
    · cases h2
      obtain ⟨d0, h3, rfl⟩ := mapIdx_get h1
      have g2 : SqT X.K q2.H a vs := (g.mono k).sq
      obtain ⟨v, h4, h5⟩ := RDs.get (RDs.mono k _ r) h3
      refine ⟨⟨vs, v, g2, h4⟩, fun u H3 ⟨T, x, e1, e2, e3, e4⟩ => ?_⟩
      have := e4 vs g2
      rw [h4] at this
      cases this
      subst e1 e3
      have x2 := Ext.new1 (o := .tup [.int (i : Nat), v]) R2.wf e2
      exact ⟨⟨upd q2.H T (.tup [.int (i : Nat), v]), q2.L, q2.r⟩, rfl, x2, R2.new1 e2, .tup (.inl ⟨upd_same, R2.wf.no e2⟩) (.cons (.int _) (.cons (RD.mono x2.kp _ h5) .nil))⟩
    · have hi : i = ds.length := by simpa using hi
      exact ⟨vs, (g.mono k).sq, by rw [r.length]; exact hi.symm⟩
  | _ => exact p1.elim
end MP

/-! Two walks in one comprehension; placed lists written. Own text. -/
namespace MP
open PySem L2 TL
section
variable {K : PySem.W.Frag} {C : Tab} {W : Wx}
/-- a target that makes no list of the frame's own -/
def NoOwn (g : MG) : Prop := ∀ (d : D) (env env' : MP.Env), g d env = some env' → ∀ (j : Nat) (ds : List D), env'[j]? = some (Slot.own ds) → env[j]? = some (Slot.own ds)
theorem no_nm (i : Nat) : NoOwn (gNm i) := fun d env env' h j ds e => by
  cases h
  by_cases z : i = j
  · subst z
    have hi : i < env.length := by
      have := (List.getElem?_eq_some_iff.mp e).1
      simpa using this
    rw [List.getElem?_set_self hi] at e
    cases e
  · rwa [List.getElem?_set_ne z] at e
theorem no_all : ∀ {gs : List MG}, (∀ g ∈ gs, NoOwn g) → ∀ (ds : List D) (env env' : MP.Env), gAll gs ds env = some env' → ∀ (j : Nat) (xs : List D), env'[j]? = some (Slot.own xs) → env[j]? = some (Slot.own xs)
  | [], _, [], env, env', h => by cases h; exact fun _ _ e => e
  | [], _, _ :: _, env, env', h => by cases h
  | _ :: _, _, [], env, env', h => by cases h
  | g :: gs, hg, d :: ds, env, env', h => by
    simp only [gAll] at h
    cases e : g d env with
    | none => rw [e] at h; exact nomatch h
    | some e1 =>
      rw [e] at h
      intro j xs q
      exact hg g List.mem_cons_self d env e1 e j xs (no_all (fun g' m => hg g' (List.mem_cons_of_mem _ m)) ds e1 env' h j xs q)
theorem no_tp {gs : List MG} (h : ∀ g ∈ gs, NoOwn g) : NoOwn (gTp gs) := fun d env env' e => by
  unfold gTp at e
  split at e
  · exact no_all h _ env env' e
  · cases e
theorem wipeE_get {env : MP.Env} {j : Nat} {ds : List D} : ∀ {vs : List Nat}, (wipeE env vs)[j]? = some (.own ds) → j ∉ vs
  | [], _ => fun z => nomatch z
  | v :: vs, h => fun z => by
    unfold wipeE at h
    by_cases e : v = j
    · subst e
      have hi : v < (wipeE env vs).length := by
        have := (List.getElem?_eq_some_iff.mp h).1
        simpa using this
      rw [List.getElem?_set_self hi] at h
      cases h
    · rw [List.getElem?_set_ne e] at h
      rcases List.mem_cons.mp z with q | q
      · exact e q.symm
      · exact wipeE_get h q
theorem wipeE_out {env : MP.Env} {j : Nat} : ∀ {vs : List Nat}, j ∉ vs → (wipeE env vs)[j]? = env[j]?
  | [], _ => rfl
  | v :: vs, h => by
    unfold wipeE
    rw [List.getElem?_set_ne (fun e => h (by simp [e]))]
    exact wipeE_out fun z => h (List.mem_cons_of_mem _ z)
theorem RE.ownW {q0 q : Stt} {env : MP.Env} {σ : St} {p : Addr} {o : HO} (E : RE K C q0 q env σ) (hl : q.L p) (hn : ∀ (j : Nat) (ds : List D), env[j]? = some (Slot.own ds) → σ[j]? ≠ some (some (V.ref p))) : RE K C q0 ⟨upd q.H p o, q.L, q.r⟩ env σ where
  len := E.len
  val := fun i d e => by
    obtain ⟨v, h, r⟩ := E.val i d e
    exact ⟨v, h, RD.mono (Kp.wr hl) d r⟩
  own := fun i ds e => by
    obtain ⟨a, vs, h1, h2, h3, h4, h5, h6⟩ := E.own i ds e
    have ne : a ≠ p := fun z => by subst z; exact hn i ds e h1
    exact ⟨a, vs, h1, by show upd q.H p o a = _; rw [upd_ne ne]; exact h2, h3, h4, RDs.mono (Kp.wr hl) ds h5, h6⟩
  inj := E.inj
  w0 := E.w0
  exn := fun i y e => let ⟨a, cl, d, h1, h2, h3⟩ := E.exn i y e; ⟨a, cl, d, h1, h2, h3.mono (Kp.wr hl)⟩
theorem lc2_imp {mi mi1 : MI} {g g1 : MG} {mt mt1 : MT} {me : ME} {gvs gvs1 vs vs1 : List Nat} (hsub : ∀ j ∈ gvs, j ∈ vs) (hsub1 : ∀ j ∈ gvs1, j ∈ vs1) (hno : NoOwn g) (σ : St) (H : Hp) (Q : VK) (h : tM K C W (RN K) (lLc2 mi g mt mi1 g1 mt1 me vs vs1) σ H Q) :
    tLc2 (tM K C W (rI' K C) mi) (tG K C g gvs) (tM K C W0 rT mt) (tM K C W0 (rI' K C) mi1) (tG K C g1 gvs1) (tM K C W0 rT mt1) (tM K C W0 (rD K) me) vs vs1 σ H Q := by
  obtain ⟨q0, q, env, s, eq, E, L, p⟩ := h
  subst eq
  refine tM.first0 (f := fun x s1 => if x.ds.length ≤ 1000 then lcL2 x g mt mi1 g1 mt1 me vs1 (wipeE env vs) 0 x.ds s1 else .stk) E L p fun x s1 J q1 x1 L1 ok p1 => ?_
  by_cases hsz : x.ds.length ≤ 1000
  · rw [if_pos hsz] at p1
    intro Dl hD
    have hq : Fr q Dl := x1.free L.wf hD fun z => by
      obtain ⟨t, e⟩ := x1.pre
      exact L1.wf.nor hD (by rw [e]; exact List.mem_append_left _ z)
    refine ⟨fun i m H => ∃ (q' : Stt) (s' : Sto) (acc : List D) (av : List V), H = q'.H ∧ i ≤ x.ds.length ∧ m = x.ds.length - i ∧ acc.length ≤ i * 1000 ∧ Ext q q' ∧ Kp q1 q' ∧ Rel K C s' q' ∧ q'.H Dl = some (.lst av) ∧ q'.L Dl ∧ Dl ∉ q'.r ∧ RDs K q' acc av ∧
      Post K C W (RN K) q σ Q ((lcL2 x g mt mi1 g1 mt1 me vs1 (wipeE env vs) i (x.ds.drop i) s').bind fun ys s3 => .ok (acc ++ ys) s3),
      ⟨x.ds.length, ⟨upd q1.H Dl (.lst []), fun a => q1.L a ∨ a = Dl, q1.r⟩, s1, [], [], rfl, Nat.zero_le _, rfl, Nat.zero_le _, x1.trans (Ext.newL L1.wf hD), (Ext.newL L1.wf hD).kp, L1.newL hD, upd_same, .inr rfl, L1.wf.nor hD, .nil, by
        rw [List.drop_zero]
        cases e : lcL2 x g mt mi1 g1 mt1 me vs1 (wipeE env vs) 0 x.ds s1 with
        | ok a s => rw [e] at p1; exact p1
        | exc a s => rw [e] at p1; exact p1
        | stk => rw [e] at p1; exact p1⟩, ?_⟩
    rintro i m H ⟨q', s', acc, av, rfl, hi, rfl, hacc, X1, K1, R1, hDl, hL, hr, racc, P⟩
    obtain ⟨okI, okE⟩ := ok q' s' i K1 R1
    rcases Nat.lt_or_ge i x.ds.length with hlt | hge
    · obtain ⟨d, hd⟩ : ∃ d, x.ds[i]? = some d := ⟨_, List.getElem?_eq_getElem hlt⟩
      have hdrop : x.ds.drop i = d :: x.ds.drop (i + 1) := by
        rw [List.drop_eq_getElem_cons hlt]; have := List.getElem?_eq_getElem hlt
        rw [hd] at this
        cases this
        rfl
      rw [hdrop] at P
      simp only [lcL2] at P
      cases hcur : cur x s' i d with
      | none => rw [hcur] at P; exact P.elim
      | some d' =>
        rw [hcur] at P
        simp only [Option.bind_some] at P
        cases hg : g d' (wipeE env vs) with
        | none => rw [hg] at P; exact P.elim
        | some env1 =>
          rw [hg] at P
          simp only [Res.ofO_some, Res.bind_ok] at P
          obtain ⟨go, yl⟩ := okI d d' hd hcur
          refine .inr ⟨go, fun H' => ∃ (q' : Stt) (s' : Sto) (acc : List D) (av : List V), H' = q'.H ∧ i + 1 ≤ x.ds.length ∧ acc.length ≤ (i + 1) * 1000 ∧ Ext q q' ∧ Kp q1 q' ∧ Rel K C s' q' ∧ q'.H Dl = some (.lst av) ∧ q'.L Dl ∧ Dl ∉ q'.r ∧ RDs K q' acc av ∧
            Post K C W (RN K) q σ Q ((lcL2 x g mt mi1 g1 mt1 me vs1 (wipeE env vs) (i + 1) (x.ds.drop (i + 1)) s').bind fun ys s3 => .ok (acc ++ ys) s3),
            fun H' ⟨q', s', acc, av, h1, h2, h3, h4, h5, h6, h7, h8, h9, h10, h11⟩ => ⟨x.ds.length - (i + 1), by omega, q', s', acc, av, h1, h2, rfl, h3, h4, h5, h6, h7, h8, h9, h10, h11⟩, fun v H3 hy => ?_⟩
          obtain ⟨q3, rfl, X3, R3, rd⟩ := yl v H3 hy
          refine ⟨q0, q3, wipeE env vs, env1, s', d', rfl, (E.wipe vs).ext (X1.trans X3), R3, rd, hg, fun σ2 q4 X4 R4 E4 n4 w4 => ⟨wipe_eq (by rw [n4, wipe_length]) fun j hj => w4 j fun z => hj (hsub j z), ?_⟩⟩
          refine ⟨q0, q4, env1, s', rfl, E4, R4, ?_⟩
          rw [Res.bind_assoc] at P
          refine Post.calm P fun b s5 _ b' q5 X5 R5 e5 P5 => ?_
          subst e5
          have X15 := ((X1.trans X3).trans X4).trans X5
          have X35 := (X3.trans X4).trans X5
          have hD5 := X35.keep Dl _ hDl hr (fun _ z => nomatch z)
          have hL5 := X35.mono Dl hL
          have hr5 : Dl ∉ q5.r := fun z => (X35.new Dl z).elim hr fun n => by exact n _ hDl fun _ z => nomatch z
          have hmul : (i + 1) * 1000 = i * 1000 + 1000 := by omega
          cases b with
          | false =>
            refine iteF ⟨q5, s5, acc, av, rfl, hlt, by omega, X15, K1.trans X35.kp, R5, hD5, hL5, hr5, RDs.mono X35.kp _ racc, ?_⟩
            simpa using P5
          | true =>
            refine iteT ⟨q0, q5, env1, s5, rfl, E4.ext X5, R5, ?_⟩
            simp only [if_true] at P5
            rw [Res.bind_assoc] at P5
            refine Post.calm P5 fun y s6 _ J1 q6 X6 R6 ok1 P6 => ?_
            by_cases hsz1 : y.ds.length ≤ 1000
            · rw [if_pos hsz1] at P6
              have X16 := X15.trans X6
              have X36 := X35.trans X6
              have E6 : RE K C q0 q6 env1 σ2 := (E4.ext X5).ext X6
              have nown : ∀ (j : Nat) (ds : List D), env1[j]? = some (Slot.own ds) → σ2[j]? ≠ some (some (V.ref Dl)) := fun j ds e z => by
                have e2 := hno _ _ _ hg j ds e
                have nj := wipeE_get e2
                obtain ⟨a, us, a1, a2, _⟩ := (E.wipe vs).own j ds e2
                rw [w4 j fun y => nj (hsub j y), a1] at z
                cases z
                exact hq _ a2 fun _ z => nomatch z
              have nown1 : ∀ (j : Nat) (ds : List D), (wipeE env1 vs1)[j]? = some (Slot.own ds) → (wipe σ2 vs1)[j]? ≠ some (some (V.ref Dl)) := fun j ds e z => by
                have nj := wipeE_get e
                rw [L2.wipe_out nj] at z
                rw [wipeE_out nj] at e
                exact nown j ds e z
              refine ⟨fun j k H => ∃ (q' : Stt) (s' : Sto) (ac : List D) (av : List V), H = q'.H ∧ j ≤ y.ds.length ∧ k = y.ds.length - j ∧ ac.length ≤ i * 1000 + j ∧ Ext q q' ∧ (Kp q6 q' ∧ RE K C q0 q' (wipeE env1 vs1) (wipe σ2 vs1)) ∧ Kp q1 q' ∧ Rel K C s' q' ∧ q'.H Dl = some (.lst av) ∧ q'.L Dl ∧ Dl ∉ q'.r ∧ RDs K q' ac av ∧
                Post K C W (RN K) q σ Q ((lcL y g1 mt1 me (wipeE env1 vs1) j (y.ds.drop j) s').bind fun ys s3 => (lcL2 x g mt mi1 g1 mt1 me vs1 (wipeE env vs) (i + 1) (x.ds.drop (i + 1)) s3).bind fun zs s4 => .ok (ac ++ (ys ++ zs)) s4),
                ⟨y.ds.length, q6, s6, acc, av, rfl, Nat.zero_le _, rfl, by omega, X16, ⟨Kp.refl q6, E6.wipe vs1⟩, K1.trans X36.kp, R6, X6.keep Dl _ hD5 hr5 (fun _ z => nomatch z), X6.mono Dl hL5, (fun z => (X6.new Dl z).elim hr5 fun n => by exact n _ hD5 fun _ z => nomatch z), RDs.mono X36.kp _ racc, by
                  rw [List.drop_zero]
                  rw [Res.bind_assoc] at P6
                  simp only [Res.bind_assoc, Res.bind_ok] at P6
                  exact P6⟩, ?_⟩
              rintro j k H ⟨q7, s7, ac, av7, rfl, hj, rfl, hac, X7, ⟨X67, E7⟩, K7, R7, hD7, hL7, hr7, rac, P7⟩
              obtain ⟨okJ, okF⟩ := ok1 q7 s7 j X67 R7
              rcases Nat.lt_or_ge j y.ds.length with jlt | jge
              · obtain ⟨e, he⟩ : ∃ e, y.ds[j]? = some e := ⟨_, List.getElem?_eq_getElem jlt⟩
                have hdrop1 : y.ds.drop j = e :: y.ds.drop (j + 1) := by
                  rw [List.drop_eq_getElem_cons jlt]
                  have := List.getElem?_eq_getElem jlt
                  rw [he] at this
                  cases this
                  rfl
                rw [hdrop1] at P7
                simp only [lcL] at P7
                cases hcur1 : cur y s7 j e with
                | none => rw [hcur1] at P7; exact P7.elim
                | some e' =>
                  rw [hcur1] at P7
                  simp only [Option.bind_some] at P7
                  cases hg1 : g1 e' (wipeE env1 vs1) with
                  | none => rw [hg1] at P7; exact P7.elim
                  | some env2 =>
                    rw [hg1] at P7
                    simp only [Res.ofO_some, Res.bind_ok] at P7
                    obtain ⟨go1, yl1⟩ := okJ e e' he hcur1
                    refine .inr ⟨go1, fun H' => ∃ (q' : Stt) (s' : Sto) (ac : List D) (av : List V), H' = q'.H ∧ j + 1 ≤ y.ds.length ∧ ac.length ≤ i * 1000 + (j + 1) ∧ Ext q q' ∧ (Kp q6 q' ∧ RE K C q0 q' (wipeE env1 vs1) (wipe σ2 vs1)) ∧ Kp q1 q' ∧ Rel K C s' q' ∧ q'.H Dl = some (.lst av) ∧ q'.L Dl ∧ Dl ∉ q'.r ∧ RDs K q' ac av ∧
                      Post K C W (RN K) q σ Q ((lcL y g1 mt1 me (wipeE env1 vs1) (j + 1) (y.ds.drop (j + 1)) s').bind fun ys s3 => (lcL2 x g mt mi1 g1 mt1 me vs1 (wipeE env vs) (i + 1) (x.ds.drop (i + 1)) s3).bind fun zs s4 => .ok (ac ++ (ys ++ zs)) s4),
                      fun H' ⟨q', s', ac, av, h1, h2, h3, h4, h5, h6, h7, h8, h9, h10, h11, h12⟩ => ⟨y.ds.length - (j + 1), by omega, q', s', ac, av, h1, h2, rfl, h3, h4, h5, h6, h7, h8, h9, h10, h11, h12⟩, fun v H8 hy8 => ?_⟩
                    obtain ⟨q8, rfl, X8, R8, rd8⟩ := yl1 v H8 hy8
                    refine ⟨q0, q8, wipeE env1 vs1, env2, s7, e', rfl, E7.ext X8, R8, rd8, hg1, fun σ3 q9 X9 R9 E9 n9 w9 => ⟨wipe_eq (by rw [n9, wipe_length]) fun l hl => w9 l fun z => hl (hsub1 l z), ?_⟩⟩
                    refine ⟨q0, q9, env2, s7, rfl, E9, R9, ?_⟩
                    rw [Res.bind_assoc] at P7
                    refine Post.calm P7 fun c s10 _ c' q10 X10 R10 e10 P10 => ?_
                    subst e10
                    have X70 := (X8.trans X9).trans X10
                    cases c with
                    | false =>
                      refine iteF ⟨q10, s10, ac, av7, rfl, jlt, by omega, X7.trans X70, ⟨X67.trans X70.kp, E7.ext X70⟩, K7.trans X70.kp, R10, X70.keep Dl _ hD7 hr7 (fun _ z => nomatch z), X70.mono Dl hL7, (fun z => (X70.new Dl z).elim hr7 fun n => by exact n _ hD7 fun _ z => nomatch z), RDs.mono X70.kp _ rac, ?_⟩
                      simpa using P10
                    | true =>
                      refine iteT ⟨q0, q10, env2, s10, rfl, E9.ext X10, R10, ?_⟩
                      simp only [if_true] at P10
                      rw [Res.bind_assoc] at P10
                      refine Post.calm P10 fun w s11 _ wv q11 X11 R11 e11 P11 => ?_
                      have X71 := X70.trans X11
                      have hD11 := X71.keep Dl _ hD7 hr7 (fun _ z => nomatch z)
                      have hL11 := X71.mono Dl hL7
                      have hr11 : Dl ∉ q11.r := fun z => (X71.new Dl z).elim hr7 fun n => by exact n _ hD7 fun _ z => nomatch z
                      refine ⟨av7, hD11, ?_, ?_⟩
                      · rw [rac.length]
                        exact Nat.lt_of_lt_of_le (show ac.length < cap by unfold cap; omega) (lenS (Nat.le_refl _))
                      · have kw : Kp q11 ⟨upd q11.H Dl (.lst (av7 ++ [wv])), q11.L, q11.r⟩ := Kp.wr hL11
                        refine ⟨⟨upd q11.H Dl (.lst (av7 ++ [wv])), q11.L, q11.r⟩, s11, ac ++ [w], av7 ++ [wv], rfl, jlt, by simp; omega, (X7.trans X71).own hq, ?_, (K7.trans X71.kp).own (Fr.of hD), R11.wr hL11 hr11 hD11 (fun _ z => nomatch z) (fun _ z => nomatch z), upd_same, hL11, hr11, RDs.mono kw _ ((RDs.mono X71.kp _ rac).append (.cons e11 .nil)), ?_⟩
                        · exact ⟨(X67.trans X71.kp).trans kw, (E7.ext X71).ownW hL11 nown1⟩
                        · simp only [Res.bind_assoc, Res.bind_ok] at P11
                          simpa using P11
              · have hz : j = y.ds.length := by omega
                subst hz
                rw [List.drop_length] at P7
                simp only [lcL] at P7
                cases hf : MP.fin y s7 with
                | false => rw [hf] at P7; exact P7.elim
                | true =>
                  rw [hf] at P7
                  simp only [if_true, Res.bind_ok, List.nil_append] at P7
                  exact .inl ⟨okF rfl hf, q7, s7, ac, av7, rfl, hlt, by omega, X7, K7, R7, hD7, hL7, hr7, rac, P7⟩
            · rw [if_neg hsz1] at P6
              exact P6.elim
    · have hz : i = x.ds.length := by omega
      subst hz
      rw [List.drop_length] at P
      simp only [lcL2] at P
      cases hf : MP.fin x s' with
      | false => rw [hf] at P; exact P.elim
      | true =>
        rw [hf] at P
        simp only [if_true, Res.bind_ok, List.append_nil] at P
        exact .inl ⟨okE rfl hf, P (.ref Dl) q' X1 R1 ⟨Dl, av, rfl, hq, hDl, hL, hr, racc⟩⟩
  · rw [if_neg hsz] at p1
    exact p1.elim
end
end MP

/-! More rules: two walks in one comprehension, placed lists, min, sorted sets. Own text. -/
namespace MP
open PySem L2 TL
section
variable {X : Cx} {C : Tab} {W : Wx} {pos p p2 p3 apos tpos cpos : Pos} {tg e a b c o f i : Expr} {es elts : List Expr} {m ma mb mc mo mf mi : ME} {st : Stmt} {x : Str}
theorem gl_lc2 {elt tg iter tg1 iter1 : Expr} {ifs ifs1 : List Expr} {scope : Scope} {own : List (Str × Nat)} {mi mi1 : MI} {g g1 : MG} {mt mt1 : MT} {me : ME} {gvs gvs1 vs1 : List Nat} (hc : X.calm = true) (hN : X.N.Nodup) (hi : GI X C W tg iter mi) (ok : BlkOk X.N X.env.scope scope own)
    (hg : ∀ (s : Shared) (H : Hp) (Ca : Addr) (cl : List (Str × Addr)) (fp : List Addr), GG (X.blk s H scope (compEnvC scope cl Ca X.env) fp) C tg g gvs) (ht : ∀ (s : Shared) (H : Hp) (Ca : Addr) (cl : List (Str × Addr)) (fp : List Addr), GTs (X.blk s H scope (compEnvC scope cl Ca X.env) fp) C W0 ifs mt)
    (hi1 : ∀ (s : Shared) (H : Hp) (Ca : Addr) (cl : List (Str × Addr)) (fp : List Addr), GI (X.blk s H scope (compEnvC scope cl Ca X.env) fp) C W0 tg1 iter1 mi1)
    (hg1 : ∀ (s : Shared) (H : Hp) (Ca : Addr) (cl : List (Str × Addr)) (fp : List Addr), GG (X.blk s H scope (compEnvC scope cl Ca X.env) fp) C tg1 g1 gvs1) (ht1 : ∀ (s : Shared) (H : Hp) (Ca : Addr) (cl : List (Str × Addr)) (fp : List Addr), GTs (X.blk s H scope (compEnvC scope cl Ca X.env) fp) C W0 ifs1 mt1)
    (he : ∀ (s : Shared) (H : Hp) (Ca : Addr) (cl : List (Str × Addr)) (fp : List Addr), GE (X.blk s H scope (compEnvC scope cl Ca X.env) fp) C W0 elt me) (hno : NoOwn g) (hv : ∀ i ∈ vs1, i ∈ own.map (·.2) := by decide) (hsub : ∀ j ∈ gvs, j ∈ own.map (·.2) := by decide) (hsub1 : ∀ j ∈ gvs1, j ∈ vs1 := by decide)
    (hs : ∀ x, foldedSetIterable iter X.env x = pure x := by intro _; rfl) (hs1 : ∀ env x, foldedSetIterable iter1 env x = pure x := by intro _ _; rfl) :
    GL X C W (.ListComp elt [⟨tg, iter, ifs, 0⟩, ⟨tg1, iter1, ifs1, 0⟩] scope pos) (lLc2 mi g mt mi1 g1 mt1 me (own.map (·.2)) vs1) :=
  PE.imp (pe_lc2 (g := tG X.K C g gvs) (tt := tM X.K C W0 rT mt) (wi1 := tM X.K C W0 (rI' X.K C) mi1) (g1 := tG X.K C g1 gvs1) (tt1 := tM X.K C W0 rT mt1) (te := tM X.K C W0 (rD X.K) me) hc hN hi ok hv hg ht hi1 hg1 ht1 he hs hs1) (lc2_imp hsub hsub1 hno)
/-! ### placed lists written -/
theorem pl_at {K : PySem.W.Frag} {q : Stt} {s : Sto} {d : D} {v : V} {ds : List D} (R : Rel K C s q) (h : RD K q d v) (f : plOf s d = some ds) : ∃ n a vs, d = .ref n ∧ v = .ref a ∧ s[n]? = some (.lst ds) ∧ q.r[n]? = some a ∧ q.H a = some (.lst vs) ∧ RDs K q ds vs := by
  unfold plOf at f
  split at f
  · rename_i n
    split at f
    · rename_i ds' e
      cases f
      cases h with
      | ref g =>
        obtain ⟨vs, h1, h2⟩ := R.obs n _ _ e g
        exact ⟨n, _, vs, rfl, rfl, e, g, h1, h2⟩
    · cases f
  · cases f
theorem wr_pl {K : PySem.W.Frag} {q : Stt} {s : Sto} {n : Nat} {a : Addr} {ds ds' : List D} {vs' : List V} (L : Rel K C s q) (h1 : s[n]? = some (.lst ds)) (h2 : q.r[n]? = some a) (r : RDs K q ds' vs') :
    Ext q ⟨upd q.H a (.lst vs'), q.L, q.r⟩ ∧ Rel K C (s.set n (.lst ds')) ⟨upd q.H a (.lst vs'), q.L, q.r⟩ :=
  wr_placed L h1 h2 ⟨vs', upd_same, RDs.mono (Kp.wr (L.wf.live a (List.mem_of_getElem? h2))) _ r⟩
theorem ge_appL (ho : GE X C W o mo) (he : GE X C W e m)
    (hbase : attributeBase o "append" X.env (eval o X.env) = eval o X.env := by rfl)
    (hfew : ((backTo pos (starEach [e] X.env)).all (fun x => !x.1) && (backToKw pos (keywordEach [] X.env)).all (fun x => x.1.isSome)
      && decide ([e].length + ([] : List Keyword).length + (if ([] : List Keyword).isEmpty then 0 else 1) < 30)) = true := by rfl)
    (hline : (apos.endLine == pos.line) = true := by rfl) (hs : starEach [e] X.env = (false, eval e X.env) :: starEach [] X.env := by rfl) (hplain : (backTo pos (starEach [] X.env)).any (·.1) = false := by rfl) :
    GE X C W (.Call (.Attribute o "append" apos) [e] [] pos) (eAppL mo m) := PE.imp (pe_bm PySem.F.plainAttrs_list PySem.F.slot_list_append PySem.F.type_list_append mt_append ho (pa_cons he pa_nil hs) hbase hfew hline hs hplain) fun σ H Q ⟨q0, q, env, s, eq, E, L, p⟩ => by
  subst eq
  refine tM.first (f := fun x s1 => if (plOf s1 x).isSome then (m env s1).bind fun d s2 => appAt x d s2 else .stk) E L p rD_any fun x s1 vx q1 x1 E1 L1 y1 p1 => ?_
  cases e1 : plOf s1 x with
  | none => rw [e1] at p1; exact p1.elim
  | some ds =>
    rw [e1] at p1
    simp only [Option.isSome_some, if_true] at p1
    obtain ⟨n, u, vs, rfl, rfl, h1, h2, h3, h4⟩ := pl_at L1 y1 e1
    refine ⟨tyL h3, ?_⟩
    refine tM.first (f := fun d s2 => appAt (.ref n) d s2) E1 L1 p1 rD_any fun d s2 vd q2 x2 E2 L2 y2 p2 => ?_
    unfold appAt at p2
    cases e2 : plOf s2 (.ref n) with
    | none => rw [e2] at p2; exact p2.elim
    | some ds2 =>
      rw [e2] at p2
      obtain ⟨n', u', vs', e', e'', g1, g2, g3, g4⟩ := pl_at L2 (RD.mono x2.kp _ y1) e2
      cases e'
      cases e''
      simp only at p2
      by_cases hl : ds2.length < cap
      · rw [if_pos hl] at p2
        refine ⟨u, vs', vd, rfl, rfl, g3, by rw [g4.length]; exact Nat.lt_of_lt_of_le hl (lenS (Nat.le_refl _)), ?_⟩
        obtain ⟨w1, w2⟩ := wr_pl L2 g1 g2 (g4.append (.cons y2 .nil))
        exact p2 .non _ w1 w2 .non
      · rw [if_neg hl] at p2; exact p2.elim
theorem ge_extL (ho : GE X C W o mo) (he : GE X C W e m)
    (hbase : attributeBase o "extend" X.env (eval o X.env) = eval o X.env := by rfl)
    (hfew : ((backTo pos (starEach [e] X.env)).all (fun x => !x.1) && (backToKw pos (keywordEach [] X.env)).all (fun x => x.1.isSome)
      && decide ([e].length + ([] : List Keyword).length + (if ([] : List Keyword).isEmpty then 0 else 1) < 30)) = true := by rfl)
    (hline : (apos.endLine == pos.line) = true := by rfl) (hs : starEach [e] X.env = (false, eval e X.env) :: starEach [] X.env := by rfl) (hplain : (backTo pos (starEach [] X.env)).any (·.1) = false := by rfl) :
    GE X C W (.Call (.Attribute o "extend" apos) [e] [] pos) (eExtL mo m) := PE.imp (pe_bm PySem.F.plainAttrs_list PySem.F.slot_list_extend PySem.F.type_list_extend mt_extend ho (pa_cons he pa_nil hs) hbase hfew hline hs hplain) fun σ H Q ⟨q0, q, env, s, eq, E, L, p⟩ => by
  subst eq
  refine tM.first (f := fun x s1 => if (plOf s1 x).isSome then (m env s1).bind fun d s2 => extAt x d s2 else .stk) E L p rD_any fun x s1 vx q1 x1 E1 L1 y1 p1 => ?_
  cases e1 : plOf s1 x with
  | none => rw [e1] at p1; exact p1.elim
  | some ds =>
    rw [e1] at p1
    simp only [Option.isSome_some, if_true] at p1
    obtain ⟨n, u, vs, rfl, rfl, h1, h2, h3, h4⟩ := pl_at L1 y1 e1
    refine ⟨tyL h3, ?_⟩
    refine tM.first (f := fun d s2 => extAt (.ref n) d s2) E1 L1 p1 rD_any fun d s2 vd q2 x2 E2 L2 y2 p2 => ?_
    unfold extAt at p2
    cases e2 : plOf s2 (.ref n) with
    | none => rw [e2] at p2; exact p2.elim
    | some ds2 =>
      rw [e2] at p2
      obtain ⟨n', u', vs', e', e'', g1, g2, g3, g4⟩ := pl_at L2 (RD.mono x2.kp _ y1) e2
      cases e'
      cases e''
      rcases RB.view L2 (.inl y2) with ⟨es, b, us, ev, rfl, g, r⟩ | ⟨ev, r, nl⟩
      · rw [ev] at p2
        simp only at p2
        by_cases hl : ds2.length + es.length < cap
        · rw [if_pos hl] at p2
          refine ⟨u, b, vs', us, rfl, rfl, g3, g, by rw [g4.length, r.length]; exact lenS (Nat.le_of_lt hl), ?_⟩
          obtain ⟨w1, w2⟩ := wr_pl L2 g1 g2 (g4.append r)
          exact p2 .non _ w1 w2 .non
        · rw [if_neg hl] at p2; exact p2.elim
      · rw [ev] at p2
        cases d with
        | lst ds => exact absurd rfl (nl ds)
        | _ => exact p2.elim
theorem ge_popL (ho : GE X C W o mo) (hbase : attributeBase o "pop" X.env (eval o X.env) = eval o X.env := by rfl) (hline : (apos.endLine == pos.line) = true := by rfl) :
    GE X C W (.Call (.Attribute o "pop" apos) [] [] pos) (ePopL mo) := PE.imp (pe_bm0 PySem.F.plainAttrs_list PySem.F.slot_list_pop PySem.F.type_list_pop mt_pop ho hbase hline) fun σ H Q ⟨q0, q, env, s, eq, E, L, p⟩ => by
  subst eq
  refine tM.first (f := fun x s1 => if (plOf s1 x).isSome then popAt x s1 else .stk) E L p rD_any fun x s1 vx q1 x1 E1 L1 y1 p1 => ?_
  cases e1 : plOf s1 x with
  | none => rw [e1] at p1; exact p1.elim
  | some ds =>
    rw [e1] at p1
    simp only [Option.isSome_some, if_true] at p1
    obtain ⟨n, u, vs, rfl, rfl, h1, h2, h3, h4⟩ := pl_at L1 y1 e1
    refine ⟨tyL h3, ?_⟩
    unfold popAt at p1
    rw [e1] at p1
    simp only at p1
    cases e2 : ds[ds.length - 1]? with
    | none => rw [e2] at p1; exact p1.elim
    | some d =>
      rw [e2] at p1
      obtain ⟨v, g1, g2⟩ := RDs.get h4 e2
      refine ⟨u, vs, v, rfl, rfl, h3, by rw [h4.length]; exact g1, ?_⟩
      have hd : RDs X.K q1 ds.dropLast vs.dropLast := by
        rw [List.dropLast_eq_take, List.dropLast_eq_take, h4.length]
        exact h4.take _
      obtain ⟨w1, w2⟩ := wr_pl L1 h1 h2 hd
      exact p1 v _ w1 w2 (RD.mono w1.kp _ g2)
theorem ge_clrL (ho : GE X C W o mo) (hbase : attributeBase o "clear" X.env (eval o X.env) = eval o X.env := by rfl) (hline : (apos.endLine == pos.line) = true := by rfl) :
    GE X C W (.Call (.Attribute o "clear" apos) [] [] pos) (eClrL mo) := PE.imp (pe_bm0 PySem.F.plainAttrs_list PySem.F.slot_list_clear PySem.F.type_list_clear mt_clear ho hbase hline) fun σ H Q ⟨q0, q, env, s, eq, E, L, p⟩ => by
  subst eq
  refine tM.first (f := fun x s1 => if (plOf s1 x).isSome then clrAt x s1 else .stk) E L p rD_any fun x s1 vx q1 x1 E1 L1 y1 p1 => ?_
  cases e1 : plOf s1 x with
  | none => rw [e1] at p1; exact p1.elim
  | some ds =>
    rw [e1] at p1
    simp only [Option.isSome_some, if_true] at p1
    obtain ⟨n, u, vs, rfl, rfl, h1, h2, h3, h4⟩ := pl_at L1 y1 e1
    refine ⟨tyL h3, ?_⟩
    unfold clrAt at p1
    rw [e1] at p1
    refine ⟨u, vs, rfl, rfl, h3, ?_⟩
    obtain ⟨w1, w2⟩ := wr_pl (ds' := []) (vs' := []) L1 h1 h2 .nil
    exact p1 .non _ w1 w2 .non
/-! ### min of two -/
theorem ge_min2 {x : Str} (hc : X.calm = true) (hm : X.mg x = none) (ha : GE X C W a ma) (hb : GE X C W b mb) (hg : Gl X x := by rfl) (hv : bootBuiltins x = some (.builtin "min") := by decide +kernel) (hn : x ≠ "__name__" := by decide) (hd : (x == ("__debug__" : Str)) = false := by decide)
    (h1 : starEach [a, b] X.env = (false, eval a X.env) :: starEach [b] X.env := by rfl) (h2 : starEach [b] X.env = (false, eval b X.env) :: starEach [] X.env := by rfl) (hpl : (backTo pos (starEach [b] X.env)).any (·.1) = false := by rfl) :
    GE X C W (.Call (.Name x p2) [a, b] [] pos) (eOp2 opMin ma mb) := PE.imp (pe_callB (call_min2 hc) hg hm hv (pa_cons ha (pa_cons hb pa_nil h2) h1) hn hd (he := h1) (hpl := hpl)) fun σ H Q ⟨q0, q, env, s, eq, E, L, p⟩ => by
  subst eq
  refine tM.first (f := fun x s1 => (mb env s1).bind fun y s2 => .ofO (opMin s2 x y) s2) E L p rD_any fun x s1 vx q1 x1 E1 L1 y1 p1 => ?_
  refine tM.first (f := fun y s2 => .ofO (opMin s2 x y) s2) E1 L1 p1 rD_any fun y s2 vy q2 x2 E2 L2 y2 p2 => ?_
  cases y1 with
  | int i =>
    cases y2 with
    | int j => exact ⟨i, j, rfl, p2 _ q2 (Ext.refl q2) L2 (.int _)⟩
    | _ => exact p2.elim
  | _ => exact p2.elim
/-! ### sorted(set(t)) -/
theorem insU_mem {n k : Int} : ∀ {l : List Int}, k ∈ insU n l ↔ k = n ∨ k ∈ l
  | [] => by simp [insU]
  | m :: r => by
    unfold insU
    split
    · simp
    · split
      · rename_i e
        subst e
        simp
      · simp only [List.mem_cons, insU_mem (l := r)]
        constructor <;> (rintro (h | h | h) <;> simp [h])
theorem insU_inc {n : Int} : ∀ {l : List Int}, l.Pairwise (· < ·) → (insU n l).Pairwise (· < ·)
  | [], _ => by simp [insU]
  | m :: r, h => by
    rw [List.pairwise_cons] at h
    unfold insU
    split
    · rename_i hl
      refine List.pairwise_cons.mpr ⟨fun k hk => ?_, List.pairwise_cons.mpr h⟩
      rcases List.mem_cons.mp hk with e | hk
      · omega
      · have := h.1 k hk; omega
    · split
      · exact List.pairwise_cons.mpr h
      · refine List.pairwise_cons.mpr ⟨fun k hk => ?_, insU_inc h.2⟩
        rcases insU_mem.mp hk with e | hk
        · omega
        · exact h.1 k hk
theorem sortU_mem {k : Int} : ∀ {l : List Int}, k ∈ sortU l ↔ k ∈ l
  | [] => Iff.rfl
  | n :: l => by
    show k ∈ insU n (sortU l) ↔ _
    rw [insU_mem, sortU_mem, List.mem_cons]
theorem sortU_inc : ∀ {l : List Int}, (sortU l).Pairwise (· < ·)
  | [] => .nil
  | n :: l => insU_inc sortU_inc
theorem inc_ext : ∀ {a b : List Int}, a.Pairwise (· < ·) → b.Pairwise (· < ·) → (∀ k, k ∈ a ↔ k ∈ b) → a = b
  | [], [], _, _, _ => rfl
  | [], y :: b, _, _, h => by have := (h y).mpr List.mem_cons_self; cases this
  | x :: a, [], _, _, h => by have := (h x).mp List.mem_cons_self; cases this
  | x :: a, y :: b, ha, hb, h => by
    rw [List.pairwise_cons] at ha hb
    have e : x = y := by
      rcases List.mem_cons.mp ((h x).mp List.mem_cons_self) with e | m
      · exact e
      · rcases List.mem_cons.mp ((h y).mpr List.mem_cons_self) with e | m2
        · exact e.symm
        · have := ha.1 y m2; have := hb.1 x m; omega
    subst e
    rw [inc_ext ha.2 hb.2 fun k => ?_]
    constructor
    · intro m
      rcases List.mem_cons.mp ((h k).mp (List.mem_cons_of_mem _ m)) with e | z
      · have := ha.1 k m; omega
      · exact z
    · intro m
      rcases List.mem_cons.mp ((h k).mpr (List.mem_cons_of_mem _ m)) with e | z
      · have := hb.1 k m; omega
      · exact z
def rSetT (K : PySem.W.Frag) (w : World) : List V → Hp → VK → Prop := fun xs H Q => ∃ (a : Addr) (ns : List Int), xs = [.ref a] ∧ SqT K H a (ns.map V.int) ∧ ns.length + 1 < scanBound ∧
  ∀ p c, H p = none → c ≤ ns.length → Q (.ref p) (upd H p (SetO w p (fun j => decide (j ∈ ns)) c))
theorem call_setT (hc : X.calm = true) : CallR X (.type "set") (rSetT X.K X.w) := by
  intro pins s σ H xs us Q I r h; obtain ⟨a, ns, rfl, hs, hb, q⟩ := h
  obtain rfl := Vals.ref1 r
  obtain ⟨its, rv, p', hz⟩ := I.tuple hs
  refine call_set_tupI ns (I.ok.hd hc) p' (Vals.ints rv) hb fun h' tk c R hcl kp => ?_
  exact ⟨.ref s.heap.objs.size, _, I.laid (t' := tk) kp (Nat.le_refl _) (setO_new R), rfl, q _ c (I.hok.fresh (Nat.le_refl _)) hcl⟩
theorem gl_srtS (hc : X.calm = true) (hm : X.mg "sorted" = none) (hm2 : X.mg "set" = none) (h : GE X C W e m) (hg : Gl X "sorted" := by rfl) (hg2 : Gl X "set" := by rfl)
    (hs1 : starEach [e] X.env = (false, eval e X.env) :: starEach [] X.env := by rfl) (hs2 : starEach [.Call (.Name "set" p2) [e] [] p3] X.env = (false, eval (.Call (.Name "set" p2) [e] [] p3) X.env) :: starEach [] X.env := by rfl) :
    GL X C W (.Call (.Name "sorted" p) [.Call (.Name "set" p2) [e] [] p3] [] pos) (lSrtS m) := PE.imp (pe_callB (cr_sortedSet hc) hg hm (by decide +kernel) (pa_cons (pe_callTy (call_setT hc) hg2 hm2 (by decide +kernel) (pa_cons h pa_nil hs1) (he := hs1)) pa_nil hs2) (he := hs2)) fun σ H Q ⟨q0, q, env, s, eq, E, L, p⟩ => by
  subst eq
  refine tM.first0 (f := fun x s1 => setAt x s1) E L p fun x s1 vx q1 x1 L1 y1 p1 => ?_
  unfold setAt at p1
  cases y1 with
  | @tup a vs ds g r =>
    simp only at p1
    cases e1 : intsOf ds with
    | none => rw [e1] at p1; exact p1.elim
    | some ns =>
      rw [e1] at p1
      simp only at p1
      by_cases hl : ns.length < 64
      · rw [if_pos hl] at p1
        obtain rfl := intsOf_vals r e1
        refine ⟨a, ns, rfl, g.sq, by show ns.length + 1 < 4096; omega, fun p c hp hcl => ⟨p, _, c, rfl, upd_same, by omega, fun ms p2 hpw hmem hlen hp2 => ?_⟩⟩
        have em : ms = sortU ns := inc_ext hpw sortU_inc fun k => by rw [hmem, sortU_mem]; simp
        subst em
        have R2 := L1.new1 (o := SetO X.w p (fun j => decide (j ∈ ns)) c) hp (fun _ z => nomatch z)
        have X2 := x1.trans (Ext.new1 (o := SetO X.w p (fun j => decide (j ∈ ns)) c) L1.wf hp)
        have ei : (sortU ns).map V.int = (sortU ns).map V.int := rfl
        exact p1 _ _ (X2.trans (Ext.newL R2.wf hp2)) (R2.newL hp2) (RN.newL L.wf X2 R2 hp2 (RDs.ints _))
      · rw [if_neg hl] at p1; exact p1.elim
  | _ => exact p1.elim
end
end MP

/-! list(enumerate(x)), x a list. Own text. -/
namespace MP
open PySem PySem.Spec PyProof.Rows L2 TL
/-- behind the first item: the first tuple is still held -/
def EnO (h : Heap) (e it : Addr) (i : Int) : Prop := ∃ (T : Nat) (b : Bool) (f5 : Value), h.get? e = some { cls := .type "enumerate", dict := none, data := .fields #[rawInt T, .bool b, .ref it, rawInt i, .none, f5], slots := #[] } ∧ (∃ o, h.get? T = some o) ∧ T ≠ e ∧ T ≠ it
def EnS (h : Heap) (e it : Addr) (i : Int) : Prop := (∃ old, IsEnum h e it i old) ∨ EnO h e it i
theorem en_no_len : typeLookup (.type "enumerate") "__len__" = pure none := by rw [typeLookup_type, builtinLookup_eq_fast]; kernel_rfl
theorem en_no_hint : typeLookup (.type "enumerate") "__length_hint__" = pure none := by rw [typeLookup_type, builtinLookup_eq_fast]; kernel_rfl
section
variable {s : Shared} {prog : Program} {w : World} {A : Around} {E : Value → Shared → Prop}
theorem EnS.keep {h h' : Heap} {e it : Addr} {i : Int} (x : EnS h e it i) (k : ∀ o, h.get? e = some o → h'.get? e = some o) (k2 : ∀ b o, h.get? b = some o → ∃ o', h'.get? b = some o') : EnS h' e it i := by
  rcases x with ⟨old, he⟩ | ⟨T, b, f5, he, ⟨o, ho⟩, n1, n2⟩
  · exact .inl ⟨old, k _ he⟩
  · exact .inr ⟨T, b, f5, k _ he, k2 _ _ ho, n1, n2⟩
theorem alive0 {a : Addr} {o : Obj} {Q : Option Obj → Shared → Prop} (ho : s.heap.get? a = some o) (h : Q (some o) s) : wpAny (model prog w) A (loadIfAlive a) Q E s := fun Γ p _ => by
  unfold loadIfAlive
  rw [Sem.wp_loadIfAlive, ho, Sem.wp_pure]
  exact h
theorem enO_next {e it : Addr} {fp : List Addr} {n i : Nat} {P : Nat → Value → Prop} {St : Nat → Heap → Prop} {Q : Value → Shared → Prop}
    (D : Draws prog w A it fp n P St) (ho : EnO s.heap e it i) (hst : St i s.heap) (hlt : i < n) (hne : e ≠ it) (hef : e ∉ fp)
    (hQ : ∀ x h' tk, P i x → EnS h' e it ((i : Int) + 1) → St (i + 1) h' → h'.get? s.heap.objs.size = some { cls := .type "tuple", data := .seq #[.int i tk, x] } → h'.objs.size = s.heap.objs.size + 1 →
      (∀ b o, b ≠ e → b ≠ it → s.heap.get? b = some o → h'.get? b = some o) → Q (.ref s.heap.objs.size) { s with heap := h', toks := tk + 1 }) : wpAny (model prog w) A (Builtin.«enumerate.__next__» ⟨[.ref e], []⟩) (fun fin s' => ∃ v, fin = .done (.ret v) ∧ Q v s') E s := by
  obtain ⟨hp, g, d, tk₀, os⟩ := s; obtain ⟨T, fb, f5, he, ⟨oT, hoT⟩, hTe, hTi⟩ := ho
  show wpAny _ _ (field (.ref e) 2 >>= _) _ _ _; refine wpAny_bind (wpAny_field he rfl (x := .ref it) rfl ?_)
  refine wpAny_bind (D.item i _ _ _ hlt hst fun x h₁ tk hPx hit₁ hs₁ => ?_); replace hs₁ : Heap.SameBut it hp h₁ := hs₁
  have he₁ := (hs₁.2 e hne).trans he
  show wpAny _ _ (field (.ref e) 3 >>= _) _ _ ⟨h₁, g, d, tk, os⟩; refine wpAny_bind (wpAny_field he₁ rfl (x := rawInt i) rfl ?_)
  show wpAny _ _ (field (.ref e) 4 >>= _) _ _ ⟨h₁, g, d, tk, os⟩; refine wpAny_bind (wpAny_field he₁ rfl (x := .none) rfl ?_)
  show wpAny _ _ (mkInt i >>= _) _ _ ⟨h₁, g, d, tk, os⟩; refine wpAny_bind (wpAny_mkInt ?_)
  show wpAny _ _ (setField (.ref e) 3 (rawInt ((i : Int) + 1)) >>= _) _ _ ⟨h₁, g, d, tk + 1, os⟩; refine wpAny_bind (wpAny_setField_rec he₁ (by simp) fun h₂ he₂ hs₂ => ?_)
  replace hs₂ : Heap.SameBut e h₁ h₂ := hs₂; replace he₂ : h₂.get? e = some { cls := .type "enumerate", dict := none, data := .fields #[rawInt T, .bool fb, .ref it, rawInt ((i : Int) + 1), .none, f5], slots := #[] } := he₂
  show wpAny _ _ (setField (.ref e) 4 .none >>= _) _ _ ⟨h₂, g, d, tk + 1, os⟩; refine wpAny_bind (wpAny_setField_rec he₂ (by simp) fun h₃ he₃ hs₃ => ?_)
  replace hs₃ : Heap.SameBut e h₂ h₃ := hs₃; replace he₃ : h₃.get? e = some { cls := .type "enumerate", dict := none, data := .fields #[rawInt T, .bool fb, .ref it, rawInt ((i : Int) + 1), .none, f5], slots := #[] } := he₃
  show wpAny _ _ (newTuple [.int i tk, x] >>= _) _ _ ⟨h₃, g, d, tk + 1, os⟩; refine wpAny_bind (wpAny_newTuple ?_)
  have he₄ : (h₃.push { cls := .type "tuple", data := .seq #[.int i tk, x] }).get? e = some { cls := .type "enumerate", dict := none, data := .fields #[rawInt T, .bool fb, .ref it, rawInt ((i : Int) + 1), .none, f5], slots := #[] } := Heap.get?_push_of_some _ he₃
  generalize hh₄ : h₃.push { cls := .type "tuple", data := .seq #[.int i tk, x] } = h₄ at he₄; have hsz : h₃.objs.size = hp.objs.size := by rw [hs₃.1, hs₂.1, hs₁.1]
  have hel : e < hp.objs.size := Heap.lt_size he; have ht₄ : h₄.get? hp.objs.size = some { cls := .type "tuple", data := .seq #[.int i tk, x] } := by rw [← hh₄, ← hsz]; exact Heap.get?_push_size _ rfl
  have hzz₄ : h₄.objs.size = hp.objs.size + 1 := by rw [← hh₄, Heap.size_push, hsz]
  have hkk₄ : ∀ b o, b ≠ e → b ≠ it → hp.get? b = some o → h₄.get? b = some o := fun b o hbe hbi hb => by
    rw [← hh₄]; exact Heap.get?_push_of_some _ (hs₃.extBut _ o hbe (hs₂.extBut _ o hbe (hs₁.extBut _ o hbi hb)))
  have hitt₄ : St (i + 1) h₄ := D.frame _ _ _ hit₁ fun b hb o y => by
    have hbe : b ≠ e := fun q => hef (q ▸ hb); rw [← hh₄]; exact Heap.get?_push_of_some _ (hs₃.extBut b o hbe (hs₂.extBut b o hbe y))
  show wpAny _ _ (Builtin.SmallTypes.ownedTupleIsFree (.ref e) >>= _) _ _ ⟨h₄, g, d, tk + 1, os⟩; rw [hsz]
  clear hh₄ he₃ hs₃ he₂ hs₂ he₁ hs₁ hit₁ hsz h₃ h₂ h₁; have hT4 : h₄.get? T = some oT := hkk₄ T oT hTe hTi hoT
  have fin : ∀ (h₅ : Heap) (b : Bool), h₅.get? e = some { cls := .type "enumerate", dict := none, data := .fields #[rawInt T, .bool b, .ref it, rawInt ((i : Int) + 1), .none, f5], slots := #[] } → Heap.SameBut e h₄ h₅ → Q (.ref hp.objs.size) ⟨h₅, g, d, tk + 1, os⟩ := fun h₅ b he₅ hs₅ =>
    hQ x h₅ tk hPx (.inr ⟨T, b, f5, he₅, ⟨oT, hs₅.extBut _ _ hTe hT4⟩, hTe, hTi⟩) (D.frame _ _ _ hitt₄ fun b hb o y => hs₅.extBut b o (fun q => hef (q ▸ hb)) y) (hs₅.extBut _ _ (Nat.ne_of_gt hel) ht₄) (by show h₅.objs.size = hp.objs.size + 1; rw [hs₅.1, hzz₄]) fun b o hbe hbi hb => hs₅.extBut b o hbe (hkk₄ b o hbe hbi hb)
  refine wpAny_bind ?_
  unfold Builtin.SmallTypes.ownedTupleIsFree; refine wpAny_bind (wpAny_field he₄ rfl (x := rawInt T) rfl ?_)
  show wpAny _ _ (loadIfAlive ((T : Int).toNat) >>= _) _ _ _; rw [Int.toNat_natCast]
  refine wpAny_bind (alive0 hT4 ?_)
  simp only [Option.isNone_some, Bool.false_eq_true, if_false]; refine wpAny_bind (wpAny_field he₄ rfl (x := .bool fb) rfl ?_)
  cases fb with
  | true =>
    rw [if_neg (show ¬ ((Value.bool true != Value.bool true) = true) from Bool.false_ne_true)]; refine wpAny_pure ?_
    simp only [Bool.false_eq_true, if_false]; exact wpAny_pure ⟨_, rfl, fin h₄ true he₄ (Heap.SameBut.refl _ _)⟩
  | false =>
    rw [if_pos (show (Value.bool false != Value.bool true) = true from rfl)]; refine wpAny_bind (wpAny_setField_rec he₄ (by simp) fun h₅ he₅ hs₅ => ?_)
    replace hs₅ : Heap.SameBut e h₄ h₅ := hs₅; replace he₅ : h₅.get? e = some { cls := .type "enumerate", dict := none, data := .fields #[rawInt T, .bool true, .ref it, rawInt ((i : Int) + 1), .none, f5], slots := #[] } := he₅
    refine wpAny_pure ?_
    simp only [Bool.false_eq_true, if_false]; exact wpAny_pure ⟨_, rfl, fin h₅ true he₅ hs₅⟩
theorem en_step {e it : Addr} {fp : List Addr} {n i : Nat} {P : Nat → Value → Prop} {St : Nat → Heap → Prop} {Q : Option Value → Shared → Prop}
    (D : Draws prog w A.in1 it fp n P St) (he : EnS s.heap e it i) (hil : it < s.heap.objs.size) (hst : St i s.heap) (hlt : i < n) (hne : e ≠ it) (hef : e ∉ fp)
    (hQ : ∀ x h' tk, P i x → EnS h' e it ((i : Int) + 1) → St (i + 1) h' → h'.get? s.heap.objs.size = some { cls := .type "tuple", data := .seq #[.int i tk, x] } → h'.objs.size = s.heap.objs.size + 1 →
      (∀ b o, b ≠ e → b ≠ it → s.heap.get? b = some o → h'.get? b = some o) → Q (some (.ref s.heap.objs.size)) { s with heap := h', toks := tk + 1 }) : wpAny (model prog w) A (pyNext (.ref e)) Q E s := by
  rcases he with ⟨old, he⟩ | he
  · refine wpAny_pyNext_enum_itemD D he hst hlt hne hef fun x h' tk a b c d k q => hQ x h' tk a (.inr ⟨s.heap.objs.size, false, x, b, ⟨_, d⟩, Nat.ne_of_gt (Heap.lt_size he), Nat.ne_of_gt hil⟩) c d k q
  · obtain ⟨T, b, f5, hg, r⟩ := id he
    have hT : s.TypeIs (.ref e) "enumerate" := ⟨_, hg, rfl⟩
    unfold pyNext; exact wpAny_bind (wpAny_attempt (wpAny_callSpecial?_slot (name := Str.ofString "__next__") hT F.slot_enumerate_next (wpAny_call_entry F.slot_enumerate_next hT F.entry_enumerate_next
        (enO_next D he hst hlt hne hef fun x h' tk a b c d k q => wpAny_pure (hQ x h' tk a b c d k q)) (F.args_enumerate_next_1 _))))
theorem en_end {e it : Addr} {fp : List Addr} {n : Nat} {P : Nat → Value → Prop} {St : Nat → Heap → Prop} {i : Int} {Q : Option Value → Shared → Prop}
    (D : Draws prog w A.in1 it fp n P St) (he : EnS s.heap e it i) (hst : St n s.heap) (hQ : ∀ h', Heap.ExtBut it s.heap h' → Q none { s with heap := h' }) : wpAny (model prog w) A (pyNext (.ref e)) Q E s := by
  rcases he with ⟨old, he⟩ | ⟨T, b, f5, he, _⟩
  · exact wpAny_pyNext_enum_endD D he hst hQ
  · have hT : s.TypeIs (.ref e) "enumerate" := ⟨_, he, rfl⟩
    unfold pyNext; refine wpAny_bind (wpAny_attempt (wpAny_callSpecial?_slot (name := Str.ofString "__next__") hT F.slot_enumerate_next (wpAny_call_entry F.slot_enumerate_next hT F.entry_enumerate_next ?_ (F.args_enumerate_next_1 _))))
    show wpAny _ _ (field (.ref e) 2 >>= _) _ _ _; refine wpAny_bind (wpAny_field he rfl (x := .ref it) rfl ?_)
    refine wpAny_bind (D.done _ _ _ hst fun h' x he' hx' => ?_); obtain ⟨o, ho, hc⟩ := hx'
    refine wpAny_bind (wpAny_isInstance (T := "StopIteration") (b := true) ⟨o, ho, hc⟩ isSubtype_stop ?_); exact wpAny_pure (hQ _ he')
end
end MP

/-! list(enumerate(x)), x a list: the walk. Own text. -/
namespace MP
open PySem PySem.Spec L2 TL
section
variable {X : Cx} {pins : List (Addr × Obj)} {σ : L2.St}
/-- the steps of the list that fills -/
def EnP (K : PySem.W.Frag) (a q : Addr) (xs : List V) (P : Nat → List V → Hp → Prop) : Prop :=
  ∀ i acc H x, P i acc H → xs[i]? = some x → H q = some (.lst acc) ∧ acc.length < sizeLine ∧ ∀ T, H T = none → P (i + 1) (acc ++ [.ref T]) (upd (upd H T (.tup [.int (i : Nat), x])) q (.lst (acc ++ [.ref T])))
theorem en_loop {a e it q : Addr} {items : List Value} {xs : List V} {A1 : Around} {P : Nat → List V → Hp → Prop} {R : Result → Shared → Prop} (hh : A1.in1.in1.handled = none) (hv : Vals xs items) (hne : e ≠ it) (hqe : q ≠ e) (hqi : q ≠ it) (hqa : q ≠ a) (hae : a ≠ e) (hai : a ≠ it)
    (hP : EnP X.K a q xs P) (hq : ∀ acc H, P xs.length acc H → H q = some (.lst acc))
    (hdone : ∀ acc H s, L2.Inv X pins σ H s → P xs.length acc H → R (.ok (.ret .none)) s) :
    ∀ (k i : Nat) (acc : List V) (H : Hp) (s : Shared), xs.length - i = k → i ≤ xs.length → L2.Inv X pins σ H s → P i acc H → EnS s.heap e it i → s.heap.IsListIter it a i → s.heap.IsList a items.toArray → (∀ b ∈ [e, it], FpOk X pins H b) →
      codeAny (model X.prog X.w) A1 (.builtin "list.extend.loop" ⟨[.ref q, .ref e, .none], []⟩) R s := by
  have hlen : items.toArray.size = xs.length := by rw [List.size_toArray, hv.length]
  intro k
  induction k with
  | zero =>
    intro i acc H s hk hi I hp he hit hl hf
    have hiz : i = xs.length := by omega
    subst hiz
    refine codeAny_builtin PySem.F.entry_extend_loop ?_; rw [Around.under_plainId PySem.F.plain_extend_loop _]
    show wpAny _ A1.in1 (pyNext (.ref e) >>= _) _ _ s
    obtain ⟨f0, f1, f2, f3, f4, f5⟩ := hf it (by simp); refine wpAny_bind (en_end (Draws.list (prog := X.prog) (w := X.w) hh it a hai items.toArray) he ⟨by rw [hlen]; exact hit, hl⟩ fun h' eb => ?_)
    exact wpAny_pure (hdone acc H _ (I.turned (t' := s.toks) (fun b o hb z => eb b o hb z) f0 f1 f3 f4 f5) hp)
  | succ k ih =>
    intro i acc H s hk hi I hp he hit hl hf
    have hlx : i < xs.length := by omega
    obtain ⟨x, hx⟩ : ∃ x, xs[i]? = some x := ⟨_, List.getElem?_eq_getElem hlx⟩
    obtain ⟨u, hu, ru⟩ := hv.get hx
    obtain ⟨g1, g2, g3⟩ := hP i acc H x hp hx
    refine codeAny_builtin PySem.F.entry_extend_loop ?_; rw [Around.under_plainId PySem.F.plain_extend_loop _]
    show wpAny _ A1.in1 (pyNext (.ref e) >>= _) _ _ s
    have hel : e < s.heap.objs.size := by
      rcases he with ⟨old, z⟩ | ⟨T, b, f5, z, _⟩
      · exact Heap.lt_size z
      · exact Heap.lt_size z
    have hil : it < s.heap.objs.size := by obtain ⟨_, z, _⟩ := hit; exact Heap.lt_size z
    have hal : a < s.heap.objs.size := by obtain ⟨_, z, _⟩ := hl; exact Heap.lt_size z
    refine wpAny_bind (en_step (Draws.list (prog := X.prog) (w := X.w) hh it a hai items.toArray) he hil ⟨hit, hl⟩ (by omega) hne (by simp [hne, Ne.symm hae]) fun u' h' tk hPu he' hst hT hsz hkp => ?_)
    have eu : u' = u := by
      have : items.toArray[i]? = some u := by simpa using hu
      rw [this] at hPu
      exact (Option.some.inj hPu).symm
    subst eu
    have hTn : H s.heap.objs.size = none := I.hok.fresh (Nat.le_refl _)
    have new : ObjOk X.prog X.w (upd H s.heap.objs.size (.tup [.int (i : Nat), x])) h' s.heap.objs.size (.tup [.int (i : Nat), x]) :=
      ⟨by show 2 ≤ sizeLine; decide, [.int i tk, u'], .cons ⟨_, rfl⟩ (.cons ru .nil), ⟨_, hT, rfl, _, rfl⟩⟩
    have I1 : L2.Inv X pins σ (upd H s.heap.objs.size (.tup [.int (i : Nat), x])) { s with heap := h', toks := tk + 1 } :=
      I.turnedNew (ch := [e, it]) (fun b oo hb z => hkp b oo (fun y => hb (by simp [y])) (fun y => hb (by simp [y])) z) hf (Nat.le_refl _) new
    have hTq : q ≠ s.heap.objs.size := fun z => by rw [z, hTn] at g1; cases g1
    have g1' : upd H s.heap.objs.size (.tup [.int (i : Nat), x]) q = some (.lst acc) := by rw [upd_ne hTq]; exact g1
    obtain ⟨z, its, n, r2, hl2, e2⟩ := I1.lstM g1'
    show wpAny _ A1.in1 (updateSeq q (·.push (.ref s.heap.objs.size)) >>= _) _ _ _
    have e2' : h'.get? q = some { cls := .type "list", data := .seq its.toArray n } := e2
    refine wpAny_bind (wpAny_updateSeq (s := { s with heap := h', toks := tk + 1 }) e2' rfl (wpAny_pure ⟨plainId_quiet PySem.F.plain_extend_loop _, ?_⟩) (by rw [List.size_toArray]; omega) (by show (its.toArray.push (.ref s.heap.objs.size)).size ≤ sizeLine + 1; rw [Array.size_push, List.size_toArray]; omega))
    have oth : ∀ b o, b ≠ q → h'.get? b = some o → (h'.update q (Obj.mapSeq (·.push (.ref s.heap.objs.size)))).get? b = some o := fun b o hb y => (Heap.get?_update_other _ _ (Ne.symm hb)).trans y
    have I2 := I1.lset (its' := its ++ [.ref s.heap.objs.size]) (ys := acc ++ [.ref s.heap.objs.size]) (f := (·.push (.ref s.heap.objs.size))) (t' := tk + 1) g1' e2' (by simp) (r2.append (.cons (show RelV (V.ref _) (Value.ref _) from rfl) .nil)) (by rw [List.length_append, List.length_singleton]; omega)
    have e1 : ((i + 1 : Nat) : Int) = (i : Int) + 1 := by omega
    refine ih (i + 1) (acc ++ [.ref s.heap.objs.size]) _ _ (by omega) hlx I2 (g3 _ hTn) ?_ ?_ ?_ fun b hb => ?_
    · rw [e1]
      refine he'.keep (fun o y => oth e o (Ne.symm hqe) y) fun b o y => ?_
      by_cases hb : b = q
      · subst hb; exact ⟨_, Heap.get?_update_self _ e2' rfl⟩
      · exact ⟨o, oth b o hb y⟩
    · exact hst.1.at fun o y => oth it o (Ne.symm hqi) y
    · exact hst.2.at fun o y => oth a o (Ne.symm hqa) y
    · have hb' : b < s.heap.objs.size ∧ b ≠ q := by
        have eb : b = e ∨ b = it := by simpa using hb
        rcases eb with z | z
        · rw [z]; exact ⟨hel, Ne.symm hqe⟩
        · rw [z]; exact ⟨hil, Ne.symm hqi⟩
      obtain ⟨f0, f1⟩ := hf b hb
      exact ⟨by rw [upd_ne hb'.2, upd_ne (Nat.ne_of_lt hb'.1)]; exact f0, f1⟩
def tLstEn (K : PySem.W.Frag) (te : TE) : TE := fun σ H Q => te σ H fun x H1 => ∃ a xs, x = .ref a ∧ SqL K H1 a xs ∧ ∀ q, H1 q = none → ∃ P : Nat → List V → Hp → Prop, P 0 [] (upd H1 q (.lst [])) ∧ EnP K a q xs P ∧ ∀ acc H, P xs.length acc H → H q = some (.lst acc) ∧ Q (.ref q) H
theorem call_listEn {a e0 i0 : Addr} {its : List Value} {xs : List V} {s1 : Shared} {H1 : Hp} {Q : VK} (hc : X.calm = true) (I2 : L2.Inv X pins σ H1 s1) (rv : Vals xs its) (he : IsEnum s1.heap e0 i0 0 .none) (hit : s1.heap.IsListIter i0 a 0) (hl' : s1.heap.IsList a its.toArray)
    (hne : e0 ≠ i0) (hae : a ≠ e0) (hai : a ≠ i0) (hfp : ∀ b ∈ [e0, i0], FpOk X pins H1 b)
    (w : ∀ q, H1 q = none → ∃ P : Nat → List V → Hp → Prop, P 0 [] (upd H1 q (.lst [])) ∧ EnP X.K a q xs P ∧ ∀ acc H, P xs.length acc H → H q = some (.lst acc) ∧ Q (.ref q) H) :
    wpAny (model X.prog X.w) X.A (call (.type "list") [.ref e0]) (EP X pins σ Q) X.xe s1 := by
  have hel : e0 < s1.heap.objs.size := Heap.lt_size he
  have hil : i0 < s1.heap.objs.size := by obtain ⟨_, z, _⟩ := hit; exact Heap.lt_size z
  have hal : a < s1.heap.objs.size := by obtain ⟨_, z, _⟩ := hl'; exact Heap.lt_size z
  refine callType_codes (Q₁ := fun obj s₁ => obj = .ref s1.heap.objs.size ∧ s₁ = { s1 with heap := s1.heap.push { cls := .type "list", data := .seq #[] } }) PySem.F.called_list (PySem.F.typeCall_list_1 _) PySem.F.entry_list_init (code_list_new _ ⟨rfl, rfl⟩) fun obj s₁ h₁ => ?_
  obtain ⟨rfl, rfl⟩ := h₁
  have hS : (s1.heap.push { cls := .type "list", data := .seq #[] }).get? s1.heap.objs.size = some { cls := .type "list", data := .seq #[] } := Heap.get?_push_size _ rfl
  refine ⟨⟨_, hS, rfl⟩, PySem.F.args_list_init_2 _ _, ?_⟩; have fr : H1 s1.heap.objs.size = none := I2.hok.fresh (Nat.le_refl _)
  obtain ⟨P, hP0, hP, hPe⟩ := w _ fr
  have I3 : L2.Inv X pins σ (upd H1 s1.heap.objs.size (.lst [])) { s1 with heap := s1.heap.push { cls := .type "list", data := .seq #[] } } := I2.lnew (its := []) (t' := s1.toks) .nil (Nat.zero_le _)
  obtain ⟨q0, hq0⟩ : ∃ q0, q0 = s1.heap.objs.size := ⟨_, rfl⟩
  rw [← hq0] at hS fr hP0 hP hPe I3 ⊢
  have hqe : q0 ≠ e0 := Nat.ne_of_gt (by rw [hq0]; exact hel)
  have hqi : q0 ≠ i0 := Nat.ne_of_gt (by rw [hq0]; exact hil)
  have hqa : q0 ≠ a := Nat.ne_of_gt (by rw [hq0]; exact hal)
  show wpAny _ _ (do let old ← Builtin.List.listItems (.ref q0); Builtin.List.listUpdate (.ref q0) (fun _ => #[]); letGo old.toList.reverse; Builtin.List.listExtendWith (.ref q0) (.ref e0) .none) _ _ _
  refine wpAny_bind ?_
  unfold Builtin.List.listItems
  refine wpAny_bind (wpAny_seqItems hS rfl (wpAny_pure ?_)); show wpAny _ _ (updateSeq q0 (fun _ => #[]) >>= fun _ => letGo (#[] : Array Value).toList.reverse >>= fun _ => Builtin.List.listExtendWith (.ref q0) (.ref e0) .none) _ _ _
  refine wpAny_bind (wpAny_updateSeq hS rfl ?_); have I4 := I3.lset (f := fun _ => #[]) (its := []) (its' := []) (ys := []) (t' := s1.toks) upd_same hS rfl .nil (Nat.zero_le _)
  rw [upd_upd] at I4
  refine wpAny_bind (wpAny_letGo ?_); have k1 : ∀ b o, b ≠ q0 → s1.heap.get? b = some o → ((s1.heap.push { cls := .type "list", data := .seq #[] }).update q0 (Obj.mapSeq fun _ => #[])).get? b = some o := fun b o hb y => (Heap.get?_update_other _ _ (Ne.symm hb)).trans (Heap.get?_push_of_some _ y)
  have he1 : IsEnum ((s1.heap.push { cls := .type "list", data := .seq #[] }).update q0 (Obj.mapSeq fun _ => #[])) e0 i0 0 .none := k1 e0 _ (Ne.symm hqe) he
  have hT : Shared.TypeIs { s1 with heap := (s1.heap.push { cls := .type "list", data := .seq #[] }).update q0 (Obj.mapSeq fun _ => #[]) } (.ref e0) "enumerate" := ⟨_, he1, rfl⟩
  unfold Builtin.List.listExtendWith; refine wpAny_bind (wpAny_typeOf hT ?_)
  have b1 : Builtin.List.listSameRef (.ref q0) (.ref e0) = false := by simp [Builtin.List.listSameRef, hqe]
  have b2 : (Value.type "enumerate" == Value.type "list") = false := by decide
  have b3 : (Value.type "enumerate" == Value.type "tuple") = false := by decide
  simp only [b1, b2, b3, Bool.or_false, Bool.false_eq_true, if_false]
  refine wpAny_bind (wpAny_pyIter_enum he1 ?_)
  refine wpAny_bind (wpAny_holding ?_); unfold Builtin.List.listLengthHint
  refine wpAny_bind (wpAny_specialOf hT en_no_len ?_)
  show wpAny _ _ (specialOf (Value.ref e0) (Str.ofString "__length_hint__") >>= _) _ _ _
  refine wpAny_bind (wpAny_specialOf hT en_no_hint ?_)
  refine wpAny_pure ?_
  show wpAny _ _ (rule "list.extend.makes-room" >>= fun _ => Builtin.List.listTouch (.ref q0) >>= fun _ => again (.builtin "list.extend.loop" ⟨[.ref q0, .ref e0, .none], []⟩)) _ _ _
  refine wpAny_bind (wpAny_rule ?_); refine wpAny_bind ?_
  show wpAny _ _ (updateSeq q0 (·.push .none) >>= fun _ => updateSeq q0 (·.pop)) _ _ _
  obtain ⟨z4, its4, k4, r4, hl4, e4⟩ := I4.lstM upd_same
  cases r4
  refine wpAny_bind (wpAny_updateSeq e4 rfl ?_)
  have I5 := I4.lset (f := (·.push Value.none)) (its' := [Value.none]) (ys := [.non]) (t' := s1.toks) upd_same e4 (by simp) (.cons rfl .nil) (by rw [List.length_singleton, sizeLine_eq]; decide)
  obtain ⟨z6, its6, k6, r6, hl6, e6⟩ := I5.lstM upd_same
  obtain ⟨u6, rfl, ru6⟩ := r6.one
  refine wpAny_updateSeq e6 rfl ?_ (by show 1 ≤ sizeLine; rw [sizeLine_eq]; decide) (by show 0 ≤ sizeLine + 1; exact Nat.zero_le _)
  have I6 := I5.lset (f := (·.pop)) (its := [u6]) (its' := []) (ys := []) (t' := s1.toks) upd_same e6 (by rfl) .nil (Nat.zero_le _)
  rw [upd_upd, upd_upd] at I6
  refine wpAny_pure ⟨plainId_quiet PySem.F.plain_extend_loop _, ?_⟩
  have k2 : ∀ b o, b ≠ q0 → s1.heap.get? b = some o → ((((s1.heap.push { cls := .type "list", data := .seq #[] }).update q0 (Obj.mapSeq fun _ => #[])).update q0 (Obj.mapSeq (·.push Value.none))).update q0 (Obj.mapSeq (·.pop))).get? b = some o := fun b o hb y =>
    (Heap.get?_update_other _ _ (Ne.symm hb)).trans ((Heap.get?_update_other _ _ (Ne.symm hb)).trans (k1 b o hb y))
  refine en_loop (A1 := X.A.in1) (pins := pins) (σ := σ) (X := X) (a := a) (it := i0) (show X.A.in1.in1.in1.handled = none from I2.ok.hd hc) rv hne hqe hqi hqa hae hai hP (fun acc H y => (hPe acc H y).1)
    (fun acc H s2 J y => ⟨rfl, .ref q0, H, J, rfl, (hPe acc H y).2⟩) xs.length 0 [] _ _ rfl (Nat.zero_le _) I6 hP0 (.inl ⟨.none, k2 e0 _ (Ne.symm hqe) he⟩) (hit.at fun o y => k2 i0 o (Ne.symm hqi) y) (hl'.at fun o y => k2 a o (Ne.symm hqa) y) fun b hb => ?_
  obtain ⟨f0, f1⟩ := hfp b hb
  have hbq : b ≠ q0 := by
    have eb : b = e0 ∨ b = i0 := by simpa using hb
    rcases eb with z | z
    · rw [z]; exact Ne.symm hqe
    · rw [z]; exact Ne.symm hqi
  exact ⟨by rw [upd_ne hbq]; exact f0, f1⟩
theorem pe_listEn {e : Expr} {te : TE} {p p2 pos pos2 : Pos} (hc : X.calm = true) (hg : Gl X "list") (hm : X.mg "list" = none) (hg2 : Gl X "enumerate") (hm2 : X.mg "enumerate" = none) (ha : PE X e te)
    (na : starEach [e] X.env = (false, eval e X.env) :: starEach [] X.env := by rfl) (nb : starEach [.Call (.Name "enumerate" p2) [e] [] pos2] X.env = (false, eval (.Call (.Name "enumerate" p2) [e] [] pos2) X.env) :: starEach [] X.env := by rfl) :
    PE X (.Call (.Name "list" p) [.Call (.Name "enumerate" p2) [e] [] pos2] [] pos) (tLstEn X.K te) := by
  refine ⟨fun pins s σ H Q I h => ?_⟩; refine PyProof.Rows.Call_ (ld_blt I hg hm PyProof.Rows.boot_list (PyProof.Rows.callWith_type1 (PyProof.Rows.args_cons (PyProof.Rows.Call_ (ld_blt I hg2 hm2 PyProof.Rows.boot_enumerate (PyProof.Rows.callWith_type1 (one_arg ha I h (fun v s1 x H1 I1 r q => ?_) na) na))) nb) nb))
  obtain ⟨a, xs, rfl, hq, w⟩ := q
  obtain rfl : v = Value.ref a := r
  obtain ⟨its, rv, p', hz⟩ := I1.list hq; have hal : a < s1.heap.objs.size := by obtain ⟨_, z, _⟩ := p'.isList; exact Heap.lt_size z
  refine call_enumerate_list p'.isList fun h' he hit hsz hk => PyProof.Rows.args_nil ?_
  have I2 : L2.Inv X pins σ H1 { s1 with heap := h' } := I1.kept (t' := s1.toks) hk
  exact call_listEn hc I2 rv he hit (p'.isList.at fun o z => hk a o z) (Nat.succ_ne_self _) (Nat.ne_of_lt (Nat.lt_succ_of_lt hal)) (Nat.ne_of_lt hal) (fun b hb => by
    have eb : b = s1.heap.objs.size + 1 ∨ b = s1.heap.objs.size := by simpa using hb
    have hge : s1.heap.objs.size ≤ b := by
      rcases eb with z | z
      · rw [z]; exact Nat.le_succ _
      · rw [z]; exact Nat.le_refl _
    exact I1.fpOk hge (I1.hok.fresh hge)) w
end
section
variable {X : Cx} {C : MP.Tab} {W : Wx} {e : Expr} {m : ME} {p p2 pos pos2 : Pos}
theorem gl_enum (hc : X.calm = true) (hm : X.mg "list" = none) (hm2 : X.mg "enumerate" = none) (h : GE X C W e m) (hg : Gl X "list" := by rfl) (hg2 : Gl X "enumerate" := by rfl) (na : starEach [e] X.env = (false, eval e X.env) :: starEach [] X.env := by rfl)
    (nb : starEach [.Call (.Name "enumerate" p2) [e] [] pos2] X.env = (false, eval (.Call (.Name "enumerate" p2) [e] [] pos2) X.env) :: starEach [] X.env := by rfl) :
    GL X C W (.Call (.Name "list" p) [.Call (.Name "enumerate" p2) [e] [] pos2] [] pos) (lEnum m) := PE.imp (pe_listEn hc hg hm hg2 hm2 h na nb) fun σ H Q ⟨q0, q, env, s, eq, E, L, p⟩ => by
  subst eq
  refine tM.first0 (f := fun x s1 => enumAt x s1) E L p fun x s1 vx q1 x1 L1 y1 p1 => ?_
  unfold enumAt at p1
  cases y1 with
  | @lst a vs ds g r =>
    simp only at p1
    by_cases hl : ds.length ≤ cap
    · rw [if_pos hl] at p1
      refine ⟨a, vs, rfl, SqL.of g.1, fun l hn => ?_⟩
      have hfr : Fr q l := x1.free L.wf hn fun z => by
        obtain ⟨t, e⟩ := x1.pre
        exact L1.wf.nor hn (by rw [e]; exact List.mem_append_left _ z)
      refine ⟨fun i acc H => ∃ q', H = q'.H ∧ Ext q q' ∧ Kp q1 q' ∧ Rel X.K C s1 q' ∧ q'.H l = some (.lst acc) ∧ q'.L l ∧ l ∉ q'.r ∧ acc.length = i ∧ RDs X.K q' ((ds.mapIdx fun i d => D.tup [.int i, d]).take i) acc,
        ⟨_, rfl, x1.trans (Ext.newL L1.wf hn), (Ext.newL L1.wf hn).kp, L1.newL hn, upd_same, .inr rfl, L1.wf.nor hn, rfl, by simp; exact .nil⟩, fun i acc H x ⟨q', e1, X1, K1, R1, h1, h2, h3, h4, h5⟩ hx => ?_, fun acc H ⟨q', e1, X1, K1, R1, h1, h2, h3, h4, h5⟩ => ?_⟩
      · subst e1
        have hi : i < ds.length := by
          have := (List.getElem?_eq_some_iff.mp hx).1
          rw [r.length] at this
          exact this
        refine ⟨h1, by rw [h4]; exact Nat.lt_of_lt_of_le (show i < cap by omega) (lenS (Nat.le_refl _)), fun T hT => ?_⟩
        have X2 := Ext.new1 (o := .tup [.int (i : Nat), x]) R1.wf hT
        have R2 := R1.new1 (o := .tup [.int (i : Nat), x]) hT
        have h1' : (upd q'.H T (.tup [.int (i : Nat), x])) l = some (.lst acc) := by rw [upd_ne (ne_of_none h1 hT)]; exact h1
        have kw : Kp ⟨upd q'.H T (.tup [.int (i : Nat), x]), q'.L, q'.r⟩ ⟨upd (upd q'.H T (.tup [.int (i : Nat), x])) l (.lst (acc ++ [.ref T])), q'.L, q'.r⟩ := Kp.wr h2
        have hd : ds[i]? = some ds[i] := List.getElem?_eq_getElem hi
        obtain ⟨v, g1, g2⟩ := RDs.get (RDs.mono K1 _ r) hd
        rw [hx] at g1
        cases g1
        refine ⟨_, rfl, (X1.trans X2).own hfr, ((K1.trans X2.kp).own (Fr.of hn)), R2.wr h2 h3 h1' (fun _ z => nomatch z) (fun _ z => nomatch z), upd_same, h2, h3, by simp [h4], ?_⟩
        rw [List.take_add_one, List.getElem?_mapIdx, hd]
        refine (RDs.mono (X2.kp.trans kw) _ h5).append (.cons (RD.mono kw _ (.tup (.inl ⟨upd_same, R1.wf.no hT⟩) (.cons (.int _) (.cons (RD.mono X2.kp _ g2) .nil)))) .nil)
      · subst e1
        refine ⟨h1, p1 _ q' X1 R1 ⟨l, acc, rfl, hfr, h1, h2, h3, ?_⟩⟩
        have e : (ds.mapIdx fun i d => D.tup [.int i, d]).take vs.length = ds.mapIdx fun i d => D.tup [.int i, d] := by
          rw [r.length]; exact List.take_of_length_le (by simp)
        rw [← e]
        exact h5
    · rw [if_neg hl] at p1; exact p1.elim
  | _ => exact p1.elim
end
end MP

/-! Defaults that are objects; lists of related values by places. Own text. -/
namespace MP
open PySem L2 TL
/-- where a keyword's default lies, if it is an object -/
def kdAt (f : Str × Option Str) (x : Str) (K : PySem.W.Frag) : Addr := match K.lookup (He.fAd K f) with
  | some ⟨_, _, .func fd, _⟩ => (match fd.kwdefaults with
    | .ref D => (match PySem.W.nsIn K D x with
      | some (some (.ref a)) => a
      | _ => 0)
    | _ => 0)
  | _ => 0
theorem kdq_ok {K : PySem.W.Frag} {a : Addr} {n : Nat} {d : D} (h : KVal K n (.ref a) d = true) (q : Stt) : RD K q d (V.ref a) := by
  obtain ⟨v, r, hq⟩ := kval n _ _ h
  cases v with
  | ref b => cases r; exact hq q
  | _ => first | (cases r; done) | (obtain ⟨t, r⟩ := r; cases r; done)
theorem rds4 {K : PySem.W.Frag} {q : Stt} {x0 x1 x2 x3 : D} {vs : List V} (r : RDs K q [x0, x1, x2, x3] vs) : ∃ v0 v1 v2 v3, vs = [v0, v1, v2, v3] ∧ RD K q x0 v0 ∧ RD K q x1 v1 ∧ RD K q x2 v2 ∧ RD K q x3 v3 := by
  cases r with
  | cons a r => obtain ⟨v1, v2, v3, rfl, b, c, d⟩ := rds3 r; exact ⟨_, v1, v2, v3, rfl, a, b, c, d⟩
theorem rds5 {K : PySem.W.Frag} {q : Stt} {x0 x1 x2 x3 x4 : D} {vs : List V} (r : RDs K q [x0, x1, x2, x3, x4] vs) : ∃ v0 v1 v2 v3 v4, vs = [v0, v1, v2, v3, v4] ∧ RD K q x0 v0 ∧ RD K q x1 v1 ∧ RD K q x2 v2 ∧ RD K q x3 v3 ∧ RD K q x4 v4 := by
  cases r with
  | cons a r => obtain ⟨v1, v2, v3, v4, rfl, b, c, d, e⟩ := rds4 r; exact ⟨_, v1, v2, v3, v4, rfl, a, b, c, d, e⟩
end MP

/-! The functions of the law, printed by gen2.py. Own text. -/
namespace K16
open MP
def d_MARKS : D := (.int 10)
def d_FIELDS : D := (.int 3)
def d_NAMES : D := (.int 4)
def d_BEYOND : D := (.int 10007)
def t_PARTS : List (List Nat × D) := [([110, 117, 109], (.tup [(.str [110, 117, 109, 98, 101, 114])])), ([110, 97, 109, 101], (.tup [(.str [110, 97, 109, 101])])), ([102, 105, 101, 108, 100], (.tup [(.str [116, 104, 105, 110, 103]), (.str [102, 105, 101, 108, 100])])), ([115, 105, 100, 101], (.tup [(.str [116, 104, 105, 110, 103]), (.str [109, 97, 114, 107])])), ([115, 117, 109], (.tup [(.str [112, 97, 114, 116]), (.str [112, 97, 114, 116])])), ([108, 101, 115, 115], (.tup [(.str [112, 97, 114, 116]), (.str [112, 97, 114, 116])]))]
def d_MOST_DEEP : D := (.int 3)
def t_ROWS : List (List Nat × D) := [([115, 101, 116], (.tup [(.str [110, 97, 109, 101]), (.str [112, 97, 114, 116])])), ([112, 117, 116], (.tup [(.str [116, 104, 105, 110, 103]), (.str [102, 105, 101, 108, 100]), (.str [112, 97, 114, 116])])), ([115, 105, 100, 101], (.tup [(.str [116, 104, 105, 110, 103]), (.str [109, 97, 114, 107]), (.str [112, 97, 114, 116])])), ([99, 97, 108, 108], (.tup [(.str [110, 97, 109, 101]), (.str [100, 101, 101, 100]), (.str [112, 97, 114, 116])])), ([103, 111], (.tup [(.str [114, 111, 119])])), ([117, 110, 108, 101, 115, 115], (.tup [(.str [110, 97, 109, 101]), (.str [114, 111, 119])])), ([119, 97, 105, 116], (.tup [(.str [116, 104, 105, 110, 103]), (.str [102, 105, 101, 108, 100])])), ([97, 110, 115, 119, 101, 114], (.tup [(.str [112, 97, 114, 116])])), ([110, 101, 101, 100], (.tup [(.str [112, 97, 114, 116])]))]
def d_MOST_ROWS : D := (.int 12)
def d_MOST_DEEDS : D := (.int 8)
def d_OWN_WORDS : D := (.tup [(.str [115, 101, 116]), (.str [112, 117, 116]), (.str [99, 97, 108, 108]), (.str [103, 111]), (.str [117, 110, 108, 101, 115, 115]), (.str [119, 97, 105, 116]), (.str [97, 110, 115, 119, 101, 114])])
def d_HOLDS : D := (.str [104, 111, 108, 100, 115])
def d_MAY : D := (.str [109, 97, 121])
def d_NEVER : D := (.str [110, 101, 118, 101, 114])
def h_law_told : MS := (sSeq (sAsg (eFrz (lLst (aCons (eIsX 1 [(1, false)]) (aCons (eIsX 1 [(1, true)]) (aCons (eIsX 1 [(1, false)]) (aCons (eIsX 1 [(1, false)]) aNil)))))) (gNm 2)) (sSeq (sAsg (eFrz (lAdd (eBor 2) (eFrz (lLst (aCons (eIsX 1 [(1, false)]) (aCons (eIsX 1 [(1, false)]) (aCons (eIsX 1 [(1, false)]) aNil))))))) (gNm 2)) (sSeq (sAsg (eFrz (lAdd (eBor 2) (eFrz (lLst (aCons (eIsX 1 [(1, false)]) (aCons (eIsX 1 [(1, false)]) (aCons (eIsX 1 [(1, false)]) aNil))))))) (gNm 2)) (sSeq (sAsg (eFrz (lAdd (eBor 2) (eFrz (lLst (aCons (eIsX 1 [(1, false)]) (aCons (eIsX 1 [(1, false)]) (aCons (eIsX 1 [(1, false)]) aNil))))))) (gNm 2)) (sSeq (sAsg (eFrz (lAdd (eBor 2) (eFrz (lLst (aCons (eIsX 1 [(1, false)]) (aCons (eIsX 1 [(1, false)]) aNil)))))) (gNm 2)) (sSeq (sIf (tOr (tVal (eOp2 opNe (eCnt (eBor 2) (eC (.bl true))) (eC (.int 1)))) (tNot (tVal (eIsX 1 [(1, true)])))) (sRet (eTup (aCons (eC (.str [114, 101, 102, 117, 115, 101, 100])) (aCons (eC (.str [111, 116, 104, 101, 114])) aNil)))) sNext) (sSeq (sAsg (eFrz (lLst (aCons (eC (.str [109, 105, 108, 108])) (aCons (eC (.str [116, 101, 120, 116, 115])) (aCons (eC (.str [114, 111, 111, 109])) (aCons (eC (.str [104, 97, 110, 100])) (aCons (eC (.str [119, 105, 116, 104, 105, 110])) (aCons (eC (.str [100, 101, 101, 100])) (aCons (eC (.str [110, 117, 109, 98, 101, 114])) (aCons (eC (.str [117, 110, 100, 101, 114, 119, 97, 121])) (aCons (eC (.str [102, 117, 108, 108])) (aCons (eC (.str [99, 104, 97, 110, 103, 101])) (aCons (eC (.str [117, 110, 109, 101, 116])) aNil))))))))))))) (gNm 3)) (sSeq (sAsg (eOp2 opIx (eFrz (lAdd (eBor 3) (eFrz (lLst (aCons (eC (.str [110, 111, 99, 104, 97, 110, 103, 101])) (aCons (eC (.str [99, 101, 108, 108])) (aCons (eC (.str [98, 111, 111, 107])) (aCons (eC (.str [116, 101, 120, 116])) aNil)))))))) (eIdx (eBor 2) (eC (.bl true)))) (gNm 4)) (sSeq (sIf (tVal (eOp2 opIn (eBor 4) (eTup (aCons (eC (.str [109, 105, 108, 108])) (aCons (eC (.str [99, 104, 97, 110, 103, 101])) aNil))))) (sRet (eTup (aCons (eC (.str [114, 101, 102, 117, 115, 101, 100])) (aCons (eVar 4) (aCons (eXf 1 "word" []) aNil))))) sNext) (sSeq (sIf (tVal (eOp2 opEq (eBor 4) (eC (.str [116, 101, 120, 116, 115])))) (sRet (eTup (aCons (eC (.str [114, 101, 102, 117, 115, 101, 100])) (aCons (eVar 4) (aCons (eXf 1 "deed" [1]) (aCons (eXf 1 "row" [1]) aNil)))))) sNext) (sSeq (sIf (tVal (eOp2 opEq (eBor 4) (eC (.str [98, 111, 111, 107])))) (sRet (eTup (aCons (eC (.str [114, 101, 102, 117, 115, 101, 100])) (aCons (eVar 4) (aCons (eXf 1 "event" []) aNil))))) sNext) (sRet (eIf (tVal (eOp2 opIn (eBor 4) (eTup (aCons (eC (.str [117, 110, 109, 101, 116])) (aCons (eC (.str [116, 101, 120, 116])) aNil))))) (eTup (aCons (eC (.str [114, 101, 102, 117, 115, 101, 100])) (aCons (eVar 4) (aCons (eXf 1 "row" [1]) aNil)))) (eTup (aCons (eC (.str [114, 101, 102, 117, 115, 101, 100])) (aCons (eVar 4) aNil))))))))))))))))
def f_law_dice : Fn := runB 1 3 (sSeq (sAsg (eC (.int 0)) (gNm 1)) (sSeq (sFor (iSeq (eVar 0)) (gNm 2) (sAsg (eOp2 opMod (eOp2 opAdd (eOp2 opAdd (eOp2 opMul (eBor 1) (eC (.int 48271))) (eOp2 opMul (eOp2 opMod (eBor 2) (eC (.int 2147483647))) (eC (.int 69621)))) (eC (.int 11))) (eC (.int 2147483647))) (gNm 1))) (sRet (ePlc (lLst (aCons (eVar 0) (aCons (eC (.int 0)) (aCons (eOp2 opMul (eBor 1) (eOp1 opIntOf (eOp2 opGt (eOp1 opLen (eBor 0)) (eC (.int 2))))) (aCons (eC (.int 0)) aNil)))))))))
def f_law_next : Fn := runB 2 4 (sSeq (sIf (tVal (eOp2 opGt (eOp2 opIx (eBor 0) (eC (.int 3))) (eC (.int 0)))) (sSeq (sAsg (eOp2 opMod (eOp2 opIx (eBor 0) (eC (.int 3))) (eBor 1)) (gNm 2)) (sSeq (sSet (eVar 0) (eC (.int 3)) (eOp2 opDiv (eOp2 opIx (eBor 0) (eC (.int 3))) (eBor 1))) (sRet (eVar 2)))) sNext) (sSeq (sSet (eVar 0) (eC (.int 1)) (eOp2 opAdd (eOp2 opIx (eBor 0) (eC (.int 1))) (eC (.int 1)))) (sSeq (sIf (tVal (eOp2 opLe (eOp2 opIx (eBor 0) (eC (.int 1))) (eOp1 opLen (eOp2 opIx (eBor 0) (eC (.int 0)))))) (sSeq (sAsg (eOp2 opIx (eOp2 opIx (eBor 0) (eC (.int 0))) (eOp2 opSub (eOp2 opIx (eBor 0) (eC (.int 1))) (eC (.int 1)))) (gNm 3)) (sSeq (sSet (eVar 0) (eC (.int 3)) (eIf (tVal (eOp2 opGe (eBor 3) (eOp2 opPow (eC (.int 10)) (eC (.int 18))))) (eOp2 opDiv (eBor 3) (eBor 1)) (eC (.int 0)))) (sRet (eOp2 opMod (eBor 3) (eBor 1))))) sNext) (sSeq (sSet (eVar 0) (eC (.int 2)) (eOp2 opMod (eOp2 opMul (eOp2 opIx (eBor 0) (eC (.int 2))) (eC (.int 48271))) (eC (.int 2147483647)))) (sRet (eOp2 opMod (eOp2 opDiv (eOp2 opIx (eBor 0) (eC (.int 2))) (eC (.int 7))) (eBor 1)))))))
def f_law_part : Nat → Fn
  | 0 => runB 3 4 sNever
  | n + 1 => runB 3 4 (sSeq (sAsg (eCall f_law_next (aCons (eVar 0) (aCons (eC (.int 10)) aNil))) (gNm 3)) (sSeq (sIf (tOr (tVal (eOp2 opLt (eBor 3) (eC (.int 2)))) (tAnd (tVal (eOp2 opEq (eBor 1) (eC (.int 1)))) (tVal (eOp2 opGt (eBor 3) (eC (.int 7)))))) (sRet (eTup (aCons (eC (.str [110, 117, 109])) (aCons (eOp2 opIx (eFrz (lLst (aCons (eCall f_law_next (aCons (eVar 0) (aCons (eC (.int 3)) aNil))) (aCons (eCall f_law_next (aCons (eVar 0) (aCons (eC (.int 10007)) aNil))) aNil)))) (eOp2 opDiv (eCall f_law_next (aCons (eVar 0) (aCons (eC (.int 4)) aNil))) (eC (.int 3)))) aNil)))) sNext) (sSeq (sIf (tVal (eOp2 opLt (eBor 3) (eC (.int 5)))) (sRet (eTup (aCons (eC (.str [110, 97, 109, 101])) (aCons (eCall f_law_next (aCons (eVar 0) (aCons (eC (.int 4)) aNil))) aNil)))) sNext) (sSeq (sIf (tAnd (tVal (eOp2 opEq (eBor 3) (eC (.int 5)))) (tVal (eOp2 opNe (eOp2 opIx (eBor 2) (eC (.int 2))) (eTup aNil)))) (sRet (eTup (aCons (eC (.str [115, 105, 100, 101])) (aCons (eCall f_law_next (aCons (eVar 0) (aCons (eOp2 opIx (eBor 2) (eC (.int 1))) aNil))) (aCons (eOp2 opIx (eOp2 opIx (eBor 2) (eC (.int 2))) (eCall f_law_next (aCons (eVar 0) (aCons (eOp1 opLen (eOp2 opIx (eBor 2) (eC (.int 2)))) aNil)))) aNil))))) sNext) (sSeq (sIf (tVal (eOp2 opLt (eBor 3) (eC (.int 8)))) (sRet (eTup (aCons (eC (.str [102, 105, 101, 108, 100])) (aCons (eCall f_law_next (aCons (eVar 0) (aCons (eOp2 opIx (eBor 2) (eC (.int 1))) aNil))) (aCons (eCall f_law_next (aCons (eVar 0) (aCons (eC (.int 3)) aNil))) aNil))))) sNext) (sRet (eTup (aCons (eOp2 opIx (eFrz (lLst (aCons (eC (.str [115, 117, 109])) (aCons (eC (.str [108, 101, 115, 115])) aNil)))) (eOp2 opSub (eBor 3) (eC (.int 8)))) (aCons (eCall (f_law_part n) (aCons (eVar 0) (aCons (eOp2 opSub (eBor 1) (eC (.int 1))) (aCons (eVar 2) aNil)))) (aCons (eCall (f_law_part n) (aCons (eVar 0) (aCons (eOp2 opSub (eBor 1) (eC (.int 1))) (aCons (eVar 2) aNil)))) aNil))))))))))
def f_law_row : Fn := runB 3 5 (sSeq (sPar 3 4 (aCons (eCall f_law_next (aCons (eVar 0) (aCons (eC (.int 16)) aNil))) (aCons (eCall f_law_next (aCons (eVar 0) (aCons (eC (.int 4)) aNil))) aNil))) (sSeq (sIf (tVal (eOp2 opLt (eBor 3) (eC (.int 3)))) (sRet (eTup (aCons (eC (.str [115, 101, 116])) (aCons (eVar 4) (aCons (eCall (f_law_part 5) (aCons (eVar 0) (aCons (eC (.int 3)) (aCons (eVar 2) aNil)))) aNil))))) sNext) (sSeq (sIf (tOr (tVal (eOp2 opLt (eBor 3) (eC (.int 6)))) (tAnd (tVal (eOp2 opEq (eBor 3) (eC (.int 6)))) (tVal (eOp2 opEq (eOp2 opIx (eBor 2) (eC (.int 2))) (eTup aNil))))) (sRet (eTup (aCons (eC (.str [112, 117, 116])) (aCons (eCall f_law_next (aCons (eVar 0) (aCons (eOp2 opIx (eBor 2) (eC (.int 1))) aNil))) (aCons (eCall f_law_next (aCons (eVar 0) (aCons (eC (.int 3)) aNil))) (aCons (eCall (f_law_part 5) (aCons (eVar 0) (aCons (eC (.int 3)) (aCons (eVar 2) aNil)))) aNil)))))) sNext) (sSeq (sIf (tVal (eOp2 opEq (eBor 3) (eC (.int 6)))) (sRet (eTup (aCons (eC (.str [115, 105, 100, 101])) (aCons (eCall f_law_next (aCons (eVar 0) (aCons (eOp2 opIx (eBor 2) (eC (.int 1))) aNil))) (aCons (eOp2 opIx (eOp2 opIx (eBor 2) (eC (.int 2))) (eCall f_law_next (aCons (eVar 0) (aCons (eOp1 opLen (eOp2 opIx (eBor 2) (eC (.int 2)))) aNil)))) (aCons (eCall (f_law_part 5) (aCons (eVar 0) (aCons (eC (.int 3)) (aCons (eVar 2) aNil)))) aNil)))))) sNext) (sSeq (sIf (tVal (eOp2 opLt (eBor 3) (eC (.int 11)))) (sRet (eTup (aCons (eC (.str [99, 97, 108, 108])) (aCons (eVar 4) (aCons (eCall f_law_next (aCons (eVar 0) (aCons (eOp2 opIx (eBor 2) (eC (.int 0))) aNil))) (aCons (eCall (f_law_part 5) (aCons (eVar 0) (aCons (eC (.int 2)) (aCons (eVar 2) aNil)))) aNil)))))) sNext) (sSeq (sIf (tVal (eOp2 opLt (eBor 3) (eC (.int 13)))) (sRet (eOp2 opIx (eFrz (lLst (aCons (eTup (aCons (eC (.str [103, 111])) (aCons (eCall f_law_next (aCons (eVar 0) (aCons (eOp2 opAdd (eBor 1) (eC (.int 1))) aNil))) aNil))) (aCons (eTup (aCons (eC (.str [117, 110, 108, 101, 115, 115])) (aCons (eVar 4) (aCons (eCall f_law_next (aCons (eVar 0) (aCons (eOp2 opAdd (eBor 1) (eC (.int 1))) aNil))) aNil)))) aNil)))) (eOp1 opIntOf (eOp2 opGt (eCall f_law_next (aCons (eVar 0) (aCons (eC (.int 4)) aNil))) (eC (.int 0)))))) sNext) (sSeq (sIf (tVal (eOp2 opEq (eBor 3) (eC (.int 13)))) (sRet (eTup (aCons (eC (.str [119, 97, 105, 116])) (aCons (eCall f_law_next (aCons (eVar 0) (aCons (eOp2 opIx (eBor 2) (eC (.int 1))) aNil))) (aCons (eCall f_law_next (aCons (eVar 0) (aCons (eC (.int 3)) aNil))) aNil))))) sNext) (sRet (eIf (tVal (eOp2 opEq (eBor 3) (eC (.int 14)))) (eTup (aCons (eC (.str [97, 110, 115, 119, 101, 114])) (aCons (eCall (f_law_part 5) (aCons (eVar 0) (aCons (eC (.int 2)) (aCons (eVar 2) aNil)))) aNil))) (eTup (aCons (eC (.str [115, 101, 116])) (aCons (eVar 4) (aCons (eTup (aCons (eC (.str [115, 117, 109])) (aCons (eTup (aCons (eC (.str [110, 97, 109, 101])) (aCons (eVar 4) aNil))) (aCons (eTup (aCons (eC (.str [110, 117, 109])) (aCons (eC (.int 1)) aNil))) aNil)))) aNil)))))))))))))
def f_law_text : Fn := runB 2 4 (sSeq (sAsg (eOp2 opAdd (eC (.int 1)) (eCall f_law_next (aCons (eVar 0) (aCons (eOp2 opIx (eFrz (lLst (aCons (eC (.int 3)) (aCons (eC (.int 5)) (aCons (eC (.int 12)) aNil))))) (eCall f_law_next (aCons (eVar 0) (aCons (eC (.int 3)) aNil)))) aNil)))) (gNm 2)) (sRet (eOp1 opTuple (eFrz (lLc (iRng (eVar 2)) (gNm 3) tYesM (eCall f_law_row (aCons (eVar 0) (aCons (eVar 2) (aCons (eVar 1) aNil)))) [3])))))
def f_law_texts : Fn := runB 1 5 (sSeq (sAsg (eTup (aCons (eOp2 opAdd (eC (.int 1)) (eCall f_law_next (aCons (eVar 0) (aCons (eOp2 opIx (eFrz (lLst (aCons (eC (.int 4)) (aCons (eC (.int 8)) aNil)))) (eCall f_law_next (aCons (eVar 0) (aCons (eC (.int 2)) aNil)))) aNil)))) (aCons (eOp2 opAdd (eC (.int 1)) (eCall f_law_next (aCons (eVar 0) (aCons (eC (.int 4)) aNil)))) aNil))) (gTp [(gNm 1), (gNm 2)])) (sSeq (sAsg (eFrz (lLc (iRng (eVar 1)) (gNm 4) tYesM (eCall f_law_text (aCons (eVar 0) (aCons (eTup (aCons (eVar 1) (aCons (eVar 2) (aCons (eTup aNil) aNil)))) aNil))) [4])) (gNm 3)) (sRet (eTup (aCons (eVar 3) (aCons (eVar 2) (aCons (eOp2 opAdd (eC (.int 1)) (eCall f_law_next (aCons (eVar 0) (aCons (eOp2 opIx (eFrz (lLst (aCons (eC (.int 3)) (aCons (eC (.int 4)) aNil)))) (eCall f_law_next (aCons (eVar 0) (aCons (eC (.int 2)) aNil)))) aNil)))) aNil)))))))
def f_law_lines : Fn := runB 3 6 (sSeq (sAsg (eFrz (lLst aNil)) (gNm 3)) (sSeq (sFor (iRng (eCall f_law_next (aCons (eVar 0) (aCons (eOp2 opIx (eFrz (lLst (aCons (eC (.int 2)) (aCons (eC (.int 7)) aNil)))) (eCall f_law_next (aCons (eVar 0) (aCons (eC (.int 2)) aNil)))) aNil)))) (gNm 4) (sSeq (sAsg (eCall f_law_row (aCons (eVar 0) (aCons (eC (.int 1)) (aCons (eVar 1) aNil)))) (gNm 5)) (sSeq (sIf (tAnd (tVal (eVar 2)) (tVal (eOp2 opEq (eCall f_law_next (aCons (eVar 0) (aCons (eC (.int 4)) aNil))) (eC (.int 0))))) (sAsg (eTup (aCons (eC (.str [110, 101, 101, 100])) (aCons (eOp2 opIx (eFrz (lLst (aCons (eCall (f_law_part 5) (aCons (eVar 0) (aCons (eC (.int 2)) (aCons (eVar 1) aNil)))) (aCons (eTup (aCons (eC (.str [110, 117, 109])) (aCons (eC (.int 1)) aNil))) aNil)))) (eCall f_law_next (aCons (eVar 0) (aCons (eC (.int 2)) aNil)))) aNil))) (gNm 5)) sNext) (sAsg (eFrz (lAdd (eBor 3) (eFrz (lMul (eFrz (lLst (aCons (eVar 5) aNil))) (eOp1 opIntOf (eOp2 opIn (eOp2 opIx (eBor 5) (eC (.int 0))) (eTup (aCons (eC (.str [115, 101, 116])) (aCons (eC (.str [112, 117, 116])) (aCons (eC (.str [115, 105, 100, 101])) (aCons (eC (.str [110, 101, 101, 100])) aNil))))))))))) (gNm 3))))) (sRet (eOp1 opTuple (eBor 3)))))
def f_law_change : Fn := runB 4 11 (sSeq (sAsg (eOp1 opTuple (eFrz (lLc (iRng (eC (.int 10))) (gNm 9) (tVal (eOp2 opEq (eCall f_law_next (aCons (eVar 0) (aCons (eC (.int 6)) aNil))) (eC (.int 0)))) (eVar 9) [9]))) (gNm 4)) (sSeq (sAsg (eTup (aCons (eVar 1) (aCons (eVar 2) (aCons (eOp1 opTuple (eFrz (lSrtS (eOp2 opAdd (eBor 4) (eOp1 opTuple (eBor 3)))))) aNil)))) (gNm 5)) (sSeq (sAsg (eCall f_law_next (aCons (eVar 0) (aCons (eVar 1) aNil))) (gNm 6)) (sSeq (sAsg (eFrz (lLc (iRng (eVar 1)) (gNm 10) (tOr (tVal (eOp2 opEq (eBor 10) (eBor 6))) (tVal (eOp2 opEq (eCall f_law_next (aCons (eVar 0) (aCons (eC (.int 3)) aNil))) (eC (.int 0))))) (eVar 10) [10])) (gNm 7)) (sSeq (sAsg (eOp1 opTuple (eFrz (lLc (iSeq (eVar 7)) (gNm 10) tYesM (eTup (aCons (eVar 10) (aCons (eCall f_law_text (aCons (eVar 0) (aCons (eVar 5) aNil))) aNil))) [10]))) (gNm 8)) (sRet (eTup (aCons (eVar 8) (aCons (eVar 4) (aCons (eCall f_law_lines (aCons (eVar 0) (aCons (eVar 5) (aCons (eC (.bl true)) aNil)))) (aCons (eCall f_law_lines (aCons (eVar 0) (aCons (eVar 5) (aCons (eC (.bl false)) aNil)))) aNil)))))))))))
def f_Rules___init__ : Fn := runB 6 6 (sSeq (MP.sFld 16 (eVar 0) (eVar 1) "words") (sSeq (MP.sFld 16 (eVar 0) (eVar 4) "marks") (sSeq (MP.sFld 16 (eVar 0) (eDic (pCons (eC (.str [110, 97, 109, 101])) (eC d_NAMES) (pCons (eC (.str [116, 104, 105, 110, 103])) (eVar 3) (pCons (eC (.str [102, 105, 101, 108, 100])) (eC d_FIELDS) (pCons (eC (.str [109, 97, 114, 107])) (eC d_MARKS) pNil))))) "limits") (sDrop (eUpd (eFld 16 (eVar 0) "limits") (eDic (pCons (eC (.str [100, 101, 101, 100])) (eVar 2) (pCons (eC (.str [114, 111, 119])) (eOp2 opAdd (eBor 5) (eC (.int 1))) (pCons (eC (.str [110, 117, 109, 98, 101, 114])) (eC d_BEYOND) pNil)))))))))
def arr_Rules___init___deeds_things_marks_rows : List D → List D → List D
  | [x0, x1], [y0, y1, y2, y3] => [x0, x1, y0, y1, y2, y3]
  | _, _ => []
def fk_Rules___init___deeds_things_marks_rows : FnK := fun a b => f_Rules___init__ (arr_Rules___init___deeds_things_marks_rows a b)
def f_Rules_is_number : Fn := runB 3 3 (sRet (eAnd (eChain opLe opLt (eC (.int 0)) (eBor 2) (eOp2 opDGet (eFld 16 (eVar 0) "limits") (eVar 1))) (eOr (eOp2 opNe (eBor 1) (eC (.str [109, 97, 114, 107]))) (eOp2 opIn (eBor 2) (eFld 16 (eVar 0) "marks")))))
mutual
def f_Rules_are_good : Nat → Fn
  | 0 => runB 4 7 sNever
  | n + 1 => runB 4 7 (sSeq (sFor (iZipTL (eVar 1) (eVar 2)) (gTp [(gNm 4), (gNm 5)]) (sSeq (sAsg (eIf (tVal (eOp2 opEq (eBor 4) (eC (.str [112, 97, 114, 116])))) (eMeth 16 "is_part" (f_Rules_is_part n) (eVar 0) (aCons (eVar 5) (aCons (eVar 3) aNil))) (eMeth 16 "is_number" f_Rules_is_number (eVar 0) (aCons (eVar 4) (aCons (eVar 5) aNil)))) (gNm 6)) (sIf (tNot (tVal (eVar 6))) (sRet (eC (.bl false))) sNext))) (sRet (eC (.bl true))))
def f_Rules_is_part : Nat → Fn
  | 0 => runB 3 5 sNever
  | n + 1 => runB 3 5 (sSeq (sAsg (eVar 1) (gSt [(gNm 3)] [] 4)) (sRet (eAnd (eOp2 opGt (eBor 2) (eC (.int 0))) (eMeth 16 "are_good" (f_Rules_are_good n) (eVar 0) (aCons (eOp1 (kGet t_PARTS) (eVar 3)) (aCons (eVar 4) (aCons (eOp2 opSub (eBor 2) (eC (.int 1))) aNil)))))))
end
def f_Rules_is_row : Fn := runB 2 4 (sSeq (sAsg (eVar 1) (gSt [(gNm 2)] [] 3)) (sRet (eAnd (eOp2 opIn (eBor 2) (eFld 16 (eVar 0) "words")) (eMeth 16 "are_good" (f_Rules_are_good 12) (eVar 0) (aCons (eOp1 (kGet t_ROWS) (eVar 2)) (aCons (eVar 3) (aCons (eC d_MOST_DEEP) aNil)))))))
def f_first_bad : Fn := runB 3 5 (sSeq (sFor (iEnumT (eVar 0)) (gTp [(gNm 3), (gNm 4)]) (sIf (tOr (tVal (eOp2 opGe (eBor 3) (eBor 2))) (tNot (tVal (eMeth 16 "is_row" f_Rules_is_row (eVar 1) (aCons (eVar 4) aNil))))) (sRet (eVar 3)) sNext)) (sRet (eC .non)))
def fk_first_bad_0 : Fn := fun as => f_first_bad (as ++ [(.int 12)])
def f_fault : Fn := runB 5 6 (sSeq (sIf (tVal (eOp2 opEq (eOp1 opLen (eBor 0)) (eC (.int 0)))) (sRet (eOp1 opNeg (eC (.int 1)))) sNext) (sSeq (sAsg (eNewK 16 fk_Rules___init___deeds_things_marks_rows 1 4 (aCons (eVar 1) aNil) (aCons (eVar 2) (aCons (eVar 3) (aCons (eVar 4) (aCons (eOp2 opMin (eOp1 opLen (eBor 0)) (eC d_MOST_ROWS)) aNil))))) (gNm 5)) (sRet (eCall fk_first_bad_0 (aCons (eVar 0) (aCons (eVar 5) aNil))))))
def arr_fault_deeds_things : List D → List D → List D
  | [x0, x1], [y0, y1] => [x0, x1, y0, y1, (.tup [])]
  | _, _ => []
def fk_fault_deeds_things : FnK := fun a b => f_fault (arr_fault_deeds_things a b)
def f_need_texts : Fn := runB 2 5 (sSeq (sIf (tVal (eOp2 opGt (eOp1 opLen (eBor 0)) (eC d_MOST_DEEDS))) (sRs 1 ["deed", "row"] (aCons (eC d_MOST_DEEDS) (aCons (eOp1 opNeg (eC (.int 1))) aNil))) sNext) (sSeq (sIf (tVal (eOp2 opEq (eOp1 opLen (eBor 0)) (eC (.int 0)))) (sRs 1 ["deed", "row"] (aCons (eC (.int 0)) (aCons (eOp1 opNeg (eC (.int 1))) aNil))) sNext) (sFor (iEnum (eVar 0)) (gTp [(gNm 2), (gNm 3)]) (sSeq (sAsg (eCallK fk_fault_deeds_things 2 2 (aCons (eVar 3) (aCons (eC d_OWN_WORDS) aNil)) (aCons (eOp1 opLen (eBor 0)) (aCons (eVar 1) aNil))) (gNm 4)) (sIf (tVal (eOp1 opNotN (eVar 4))) (sRs 1 ["deed", "row"] (aCons (eVar 2) (aCons (eVar 4) aNil))) sNext)))))
def fk_need_texts_0 : Fn := fun as => f_need_texts (as ++ [(.int 4)])
def f_leads : Fn := runB 2 9 (sSeq (sAsg (eFrz (lLc (iSeq (eVar 0)) (gNm 5) tYesM (ePlc (lLst aNil)) [5])) (gNm 2)) (sSeq (sAsg (eFrz (lAdd (eFrz (lEnum (eVar 0))) (eFrz (lLc2 (iSeq (eVar 1)) (gNm 6) tYesM (iSeq (eOp2 opIx (eBor 6) (eC (.int 0)))) (gNm 7) tYesM (eVar 7) [6, 7] [7])))) (gNm 3)) (sSeq (sFor (iSeq (eVar 3)) (gTp [(gNm 4), (gNm 5)]) (sDrop (eExtL (eOp2 opIx (eBor 2) (eBor 4)) (eFrz (lLc (iSeq (eVar 5)) (gNm 8) (tVal (eOp2 opEq (eOp2 opIx (eBor 8) (eC (.int 0))) (eC (.str [99, 97, 108, 108])))) (eOp2 opIx (eBor 8) (eC (.int 2))) [8]))))) (sRet (eVar 2)))))
def f_words : Fn := runB 3 7 (sSeq (sDrop (eCall fk_need_texts_0 (aCons (eVar 0) aNil))) (sSeq (sAsg (eCall f_leads (aCons (eVar 0) (aCons (eVar 1) aNil))) (gNm 3)) (sSeq (sOwn (lOf (eBor 2)) 4) (sSeq (sAsg (eC (.int 0)) (gNm 5)) (sSeq (sWhile 10000 (tVal (eOp2 opLt (eBor 5) (eOp1 opLen (eBor 4)))) (sSeq (sExt 4 (eFrz (lLc (iSeq (eOp2 opIx (eBor 3) (eOp2 opIx (eBor 4) (eBor 5)))) (gNm 6) (tVal (eOp2 opNotIn (eBor 6) (eBor 4))) (eVar 6) [6]))) (sAsg (eOp2 opAdd (eBor 5) (eC (.int 1))) (gNm 5)))) (sRet (ePlc (lLc (iRng (eOp1 opLen (eBor 0))) (gNm 6) tYesM (eIf (tVal (eOp2 opIn (eBor 6) (eBor 2))) (eC d_HOLDS) (eIf (tVal (eOp2 opIn (eBor 6) (eBor 4))) (eC d_MAY) (eC d_NEVER))) [6]))))))))
def f_law_like : Nat → Fn
  | 0 => runB 2 3 sNever
  | n + 1 => runB 2 3 (sSeq (sIf (tOr (tVal (eOp1 (opKind .tuple) (eVar 1))) (tVal (eOp1 (opKind .list) (eVar 1)))) (sSeq (sIf (tVal (eOp2 opNe (eOp1 (opKind .tuple) (eVar 0)) (eOp1 (opKind .tuple) (eVar 1)))) (sRet (eC (.bl false))) sNext) (sSeq (sIf (tOr (tVal (eOp2 opNe (eOp1 (opKind .list) (eVar 0)) (eOp1 (opKind .list) (eVar 1)))) (tVal (eOp2 opNe (eOp1 opLen (eBor 0)) (eOp1 opLen (eBor 1))))) (sRet (eC (.bl false))) sNext) (sRet (eOp2 opEq (eFrz (lLc (iRng (eOp1 opLen (eBor 1))) (gNm 2) (tNot (tVal (eCall (f_law_like n) (aCons (eOp2 opIx (eBor 0) (eBor 2)) (aCons (eOp2 opIx (eBor 1) (eBor 2)) aNil))))) (eVar 2) [2])) (eFrz (lLst aNil)))))) sNext) (sSeq (sIf (tVal (eOp2 opNe (eOp1 (opKind .bool) (eVar 0)) (eOp1 (opKind .bool) (eVar 1)))) (sRet (eC (.bl false))) sNext) (sSeq (sIf (tOr (tVal (eOp2 opNe (eOp1 (opKind .int) (eVar 0)) (eOp1 (opKind .int) (eVar 1)))) (tVal (eOp2 opNe (eOp1 (opKind .str) (eVar 0)) (eOp1 (opKind .str) (eVar 1))))) (sRet (eC (.bl false))) sNext) (sRet (eOp2 opEq (eBor 0) (eBor 1))))))
def f_law : Fn := runB 1 21 (sSeq (sAsg (eCall f_law_dice (aCons (eVar 0) aNil)) (gNm 1)) (sSeq (sFor (iRng (eC (.int 3))) (gNm 2) (sSeq (sAsg (eCall f_law_texts (aCons (eVar 1) aNil)) (gTp [(gNm 3), (gNm 4), (gNm 5)])) (sSeq (sAsg (eFrz (lLc (iRng (eCall f_law_next (aCons (eVar 1) (aCons (eC (.int 4)) aNil)))) (gNm 19) tYesM (eCall f_law_change (aCons (eVar 1) (aCons (eOp1 opLen (eBor 3)) (aCons (eVar 4) (aCons (eFrz (lLst aNil)) aNil))))) [19])) (gNm 6)) (sSeq (sAsg (eOp1 opTuple (eFrz (lLc (iRng (eOp1 opLen (eBor 3))) (gNm 12) (tVal (eOp2 opEq (eCall f_law_next (aCons (eVar 1) (aCons (eOp2 opAdd (eC (.int 1)) (eCall f_law_next (aCons (eVar 1) (aCons (eC (.int 4)) aNil)))) aNil))) (eC (.int 0)))) (eVar 12) [12]))) (gNm 7)) (sSeq (sAsg (eFrz (lLc (iRng (eOp1 opLen (eBor 3))) (gNm 12) tYesM (eTup (aCons (eVar 12) (aCons (eOp2 opIx (eBor 3) (eBor 12)) aNil))) [12])) (gNm 8)) (sSeq (sFor (iSeq (eVar 6)) (gNm 9) (sAsg (eFrz (lAdd (eBor 8) (eFrz (lOf (eOp2 opIx (eBor 9) (eC (.int 0))))))) (gNm 8))) (sSeq (sAsg (eFrz (lOf (eBor 7))) (gNm 10)) (sSeq (sFor (iRng (eC (.int 9))) (gNm 11) (sFor (iSeq (eVar 8)) (gTp [(gNm 12), (gNm 13)]) (sIf (tVal (eOp2 opIn (eBor 12) (eBor 10))) (sAsg (eFrz (lAdd (eBor 10) (eFrz (lLc (iSeq (eVar 13)) (gNm 20) (tAnd (tVal (eOp2 opEq (eOp2 opIx (eBor 20) (eC (.int 0))) (eC (.str [99, 97, 108, 108])))) (tVal (eOp2 opNotIn (eOp2 opIx (eBor 20) (eC (.int 2))) (eBor 10)))) (eOp2 opIx (eBor 20) (eC (.int 2))) [20])))) (gNm 10)) sNext))) (sSeq (sOwn (lLst aNil) 14) (sSeq (sFor (iRng (eOp1 opLen (eBor 3))) (gNm 12) (sApp 14 (eIf (tVal (eOp2 opIn (eBor 12) (eBor 7))) (eC (.str [104, 111, 108, 100, 115])) (eIf (tVal (eOp2 opIn (eBor 12) (eBor 10))) (eC (.str [109, 97, 121])) (eC (.str [110, 101, 118, 101, 114])))))) (sSeq (sFrz 14) (sSeq (sAsg (eFrz (lLst (aCons (eFrz (lOf (eBor 3))) (aCons (eFrz (lOf (eBor 6))) aNil)))) (gNm 15)) (sSeq (sFor (iRng (eC (.int 2))) (gNm 16) (sSeq (sAsg (eCall f_words (aCons (eOp2 opIx (eBor 15) (eC (.int 0))) (aCons (eOp2 opIx (eBor 15) (eC (.int 1))) (aCons (eVar 7) aNil)))) (gNm 17)) (sSeq (sIf (tOr (tNot (tVal (eCall (f_law_like 6) (aCons (eVar 17) (aCons (eVar 14) aNil))))) (tVal (eOp2 opNe (eBor 15) (eFrz (lLst (aCons (eVar 3) (aCons (eVar 6) aNil))))))) (sRet (eC (.bl false))) sNext) (sDrop (eClrL (eVar 17)))))) (sSeq (sAsg (eFrz (lAdd (eFrz (lSl (eBor 3) oNone (oSome (eOp1 opNeg (eC (.int 1)))))) (eFrz (lLst (aCons (eOp2 opAdd (eSlT (eOp2 opIx (eBor 3) (eOp1 opNeg (eC (.int 1)))) oNone (oSome (eOp1 opNeg (eC (.int 1))))) (eTup (aCons (eTup (aCons (eC (.str [115, 101, 116])) (aCons (eC (.int 4)) (aCons (eTup (aCons (eC (.str [110, 117, 109])) (aCons (eC (.int 0)) aNil))) aNil)))) aNil))) aNil))))) (gNm 18)) (sIf (tVal (eOp2 opNe (eTold (eCall f_words (aCons (eVar 18) (aCons (eFrz (lLst aNil)) (aCons (eTup aNil) aNil)))) h_law_told 5 1 [1]) (eTup (aCons (eC (.str [114, 101, 102, 117, 115, 101, 100])) (aCons (eC (.str [116, 101, 120, 116, 115])) (aCons (eOp2 opSub (eOp1 opLen (eBor 3)) (eC (.int 1))) (aCons (eOp2 opSub (eOp1 opLen (eOp2 opIx (eBor 3) (eOp1 opNeg (eC (.int 1))))) (eC (.int 1))) aNil))))))) (sRet (eC (.bl false))) sNext))))))))))))))) (sRet (eOp2 opEq (eTold (eCall f_words (aCons (eFrz (lLst aNil)) (aCons (eFrz (lLst aNil)) (aCons (eTup aNil) aNil)))) h_law_told 5 1 [1]) (eTup (aCons (eC (.str [114, 101, 102, 117, 115, 101, 100])) (aCons (eC (.str [116, 101, 120, 116, 115])) (aCons (eC (.int 0)) (aCons (eOp1 opNeg (eC (.int 1))) aNil)))))))))
end K16

/-! The plain law of k16, part 1: the dice. Own text. -/
namespace K16
open MP
/-- a dice in its place -/
def Dice (s : Sto) (n : Nat) : Prop := ∃ (ns : List Int) (i c a : Int), 0 ≤ i ∧ s[n]? = some (.lst [.scr ns, .int i, .int c, .int a])
theorem next_ok {s : Sto} {n : Nat} {m : Int} (hd : Dice s n) (h0 : 0 < m) (h1 : m < 1073741824) : ∃ r s', f_law_next [.ref n, .int m] s = .ok (.int r) s' ∧ 0 ≤ r ∧ r < m ∧ Dice s' n ∧ s'.length = s.length ∧ ∀ j, j ≠ n → s'[j]? = s[j]? := by
  obtain ⟨ns, i, c, a, hi, e⟩ := hd
  have hn : n < s.length := (List.getElem?_eq_some_iff.mp e).1
  by_cases ha : 0 < a
  · refine ⟨a % m, s.set n (.lst [.scr ns, .int i, .int c, .int (a / m)]), ?_, Int.emod_nonneg _ (by omega), Int.emod_lt_of_pos _ h0, ⟨ns, i, c, a / m, hi, by simp [hn]⟩, by simp, fun j hj => by simp [Ne.symm hj]⟩
    simp [f_law_next, e, ha, h0, h1, opIx, opGt, opCmp, opMod, opDiv, seqOf, ixD, place]
  · by_cases hl : i + 1 ≤ ns.length
    · have hk : i.toNat < ns.length := by omega
      obtain ⟨z, hz⟩ : ∃ z, ns[i.toNat]? = some z := ⟨_, List.getElem?_eq_getElem hk⟩
      refine ⟨z % m, s.set n (.lst [.scr ns, .int (i + 1), .int c, .int (if 1000000000000000000 ≤ z then z / m else 0)]), ?_, Int.emod_nonneg _ (by omega), Int.emod_lt_of_pos _ h0, ⟨ns, i + 1, c, if 1000000000000000000 ≤ z then z / m else 0, by omega, by simp [hn]⟩, by simp, fun j hj => by simp [Ne.symm hj]⟩
      have hlt : i < (ns.length : Int) := by omega
      have hz2 : ns[i.toNat] = z := (List.getElem?_eq_some_iff.mp hz).2
      by_cases hb : 1000000000000000000 ≤ z <;> simp [hlt, hz2, f_law_next, e, List.getElem?_set_self', ha, h0, h1, hl, hz, hb, opIx, opGt, opLe, opGe, opCmp, opMod, opDiv, opAdd, opSub, opLen, opPow, seqOf, ixD, place, hi]
    · refine ⟨c * 48271 % 2147483647 / 7 % m, s.set n (.lst [.scr ns, .int (i + 1), .int (c * 48271 % 2147483647), .int a]), ?_, Int.emod_nonneg _ (by omega), Int.emod_lt_of_pos _ h0, ⟨ns, i + 1, c * 48271 % 2147483647, a, by omega, by simp [hn]⟩, by simp, fun j hj => by simp [Ne.symm hj]⟩
      simp [f_law_next, e, List.getElem?_set_self', ha, h0, h1, hl, opIx, opGt, opLe, opGe, opCmp, opMod, opDiv, opAdd, opSub, opMul, opLen, opPow, seqOf, ixD, place, smallI]
theorem dice_loop (ns : List Int) (a0 : D) : ∀ (l : List Int) (c : Int) (z : Slot) (s : Sto), ∃ c' z', forP (gNm 2) (sAsg (eOp2 opMod (eOp2 opAdd (eOp2 opAdd (eOp2 opMul (eBor 1) (eC (.int 48271))) (eOp2 opMul (eOp2 opMod (eBor 2) (eC (.int 2147483647))) (eC (.int 69621)))) (eC (.int 11))) (eC (.int 2147483647))) (gNm 1)) (l.map D.int) [.val a0, .val (.int c), z] s = .nx [.val a0, .val (.int c'), z'] s
  | [], c, z, s => ⟨c, z, rfl⟩
  | x :: l, c, z, s => by
    obtain ⟨c', z', h⟩ := dice_loop ns a0 l ((c * 48271 + x % 2147483647 * 69621 + 11) % 2147483647) (.val (.int x)) s
    refine ⟨c', z', ?_⟩
    rw [← h]
    simp [forP, opMod, opAdd, opMul, smallI]
theorem dice_ok (ns : List Int) (s : Sto) : ∃ s', f_law_dice [.scr ns] s = .ok (.ref s.length) s' ∧ Dice s' s.length ∧ s'.length = s.length + 1 ∧ ∀ j, j < s.length → s'[j]? = s[j]? := by
  obtain ⟨c, z, h⟩ := dice_loop ns (.scr ns) ns 0 .emp s
  refine ⟨s ++ [.lst [.scr ns, .int 0, .int (c * (if 2 < (ns.length : Int) then 1 else 0)), .int 0]], ?_, ⟨ns, 0, c * (if 2 < (ns.length : Int) then 1 else 0), 0, by omega, by simp⟩, by simp, fun j hj => by rw [List.getElem?_append_left hj]⟩
  unfold f_law_dice
  rw [s_runB]
  simp only [List.length_cons, List.length_nil, if_true]
  rw [s_sSeq]
  simp only [s_sAsg, s_eC, Res.go_ok, s_putE, s_gNm, SRes.andThen_nx, List.map_cons, List.map_nil, List.replicate, List.cons_append, List.nil_append, List.set_cons_succ, List.set_cons_zero]
  rw [s_sSeq, s_sFor _ _ _ _ _ s (ns.map D.int) (by simp [srcOf])]
  erw [h]
  by_cases hk : 2 < (ns.length : Int) <;> simp [opMul, opIntOf, opGt, opCmp, opLen, smallI, hk]
end K16

/-! The plain law of k16, part 2: what the dice makes. Own text. -/
namespace K16
open MP
inductive F2 {α β : Type} (R : α → β → Prop) : List α → List β → Prop
  | nil : F2 R [] []
  | cons {a : α} {b : β} {as : List α} {bs : List β} : R a b → F2 R as bs → F2 R (a :: as) (b :: bs)
abbrev kPart : List Nat := [112, 97, 114, 116]
abbrev kName : List Nat := [110, 97, 109, 101]
abbrev kThing : List Nat := [116, 104, 105, 110, 103]
abbrev kField : List Nat := [102, 105, 101, 108, 100]
abbrev kMark : List Nat := [109, 97, 114, 107]
abbrev kNumber : List Nat := [110, 117, 109, 98, 101, 114]
abbrev kDeed : List Nat := [100, 101, 101, 100]
abbrev kRow : List Nat := [114, 111, 119]
/-- the measures by which the dice makes rows -/
structure G where
  many : Int
  goods : Int
  mark : Int
  rw : Int
def limOf (g : G) (k : List Nat) : Option Int :=
  if k = kName then some 4 else if k = kThing then some g.goods else if k = kField then some 3 else if k = kMark then some g.mark else if k = kNumber then some 10007 else if k = kDeed then some g.many else if k = kRow then some g.rw else none
structure GOk (g : G) (ms : List Int) : Prop where
  m0 : 1 ≤ g.many
  m1 : g.many ≤ 8
  t0 : 1 ≤ g.goods
  t1 : g.goods ≤ 4
  k1 : ms ≠ [] → g.mark = 10
  mem : ∀ m ∈ ms, 0 ≤ m ∧ m < 10
  len : ms.length ≤ 10
  r0 : 1 < g.rw
  r1 : g.rw ≤ 13
/-- a thing of a kind, so deep at most -/
def GA (g : G) : Nat → List Nat → D → Prop
  | 0, kind, d => ∃ l n, limOf g kind = some l ∧ d = .int n ∧ 0 ≤ n ∧ n < l
  | k + 1, kind, d => (∃ l n, limOf g kind = some l ∧ d = .int n ∧ 0 ≤ n ∧ n < l) ∨ (kind = kPart ∧ ∃ w kinds ds, d = .tup (.str w :: ds) ∧ t_PARTS.lookup w = some (.tup (kinds.map .str)) ∧ F2 (GA g k) kinds ds)
theorem GA.num {g : G} {k : Nat} {kind : List Nat} {l n : Int} (h : limOf g kind = some l) (h0 : 0 ≤ n) (h1 : n < l) : GA g k kind (.int n) := by
  cases k with
  | zero => exact ⟨l, n, h, rfl, h0, h1⟩
  | succ k => exact .inl ⟨l, n, h, rfl, h0, h1⟩
theorem GA.part {g : G} {k : Nat} {w : List Nat} {kinds : List (List Nat)} {ds : List D} (h : t_PARTS.lookup w = some (.tup (kinds.map .str))) (hs : F2 (GA g k) kinds ds) : GA g (k + 1) kPart (.tup (.str w :: ds)) := .inr ⟨rfl, w, kinds, ds, rfl, h, hs⟩
theorem F2.imp {α β : Type} {R S : α → β → Prop} (h : ∀ a b, R a b → S a b) : ∀ {as : List α} {bs : List β}, F2 R as bs → F2 S as bs
  | _, _, .nil => .nil
  | _, _, .cons a b => .cons (h _ _ a) (F2.imp h b)
theorem GA.up {g : G} : ∀ {k : Nat} {kind : List Nat} {d : D}, GA g k kind d → GA g (k + 1) kind d
  | 0, _, _, h => .inl h
  | k + 1, _, _, .inl h => .inl h
  | k + 1, _, _, .inr ⟨e, w, kinds, ds, e2, h, hs⟩ => .inr ⟨e, w, kinds, ds, e2, h, F2.imp (fun _ _ x => GA.up x) hs⟩
theorem GA.le {c : G} {j k : Nat} {kind : List Nat} {d : D} (h : j ≤ k) (g : GA c j kind d) : GA c k kind d := by
  induction h with
  | refl => exact g
  | step _ ih => exact ih.up
/-- the measures as the law hands them on -/
def gD (g : G) (ms : List Int) : D := .tup [.int g.many, .int g.goods, .tup (ms.map .int)]
def Fr (n : Nat) (s s' : Sto) : Prop := Dice s' n ∧ s'.length = s.length ∧ ∀ j, j ≠ n → s'[j]? = s[j]?
theorem Fr.trans {n : Nat} {a b c : Sto} (x : Fr n a b) (y : Fr n b c) : Fr n a c := ⟨y.1, y.2.1.trans x.2.1, fun j hj => (y.2.2 j hj).trans (x.2.2 j hj)⟩
theorem nx {s : Sto} {n : Nat} {m : Int} (hd : Dice s n) (h0 : 0 < m := by omega) (h1 : m < 1073741824 := by omega) : ∃ r s', f_law_next [.ref n, .int m] s = .ok (.int r) s' ∧ 0 ≤ r ∧ r < m ∧ Fr n s s' := by
  obtain ⟨r, s', h, a, b, c, d, e⟩ := next_ok hd h0 h1
  exact ⟨r, s', h, a, b, c, d, e⟩
theorem fits_ints (n : Nat) : ∀ ms : List Int, D.fits n (ms.map D.int) = true
  | [] => by cases n <;> rfl
  | m :: ms => by simp [D.fits, fits_ints n ms, D.fit]
theorem neMarks {ms : List Int} (h : ms ≠ []) : eqD (.tup (ms.map D.int)) (.tup []) = some false := by
  cases ms with
  | nil => exact absurd rfl h
  | cons m ms => simp [eqD, D.fit, D.fits, D.eqv, D.eqvs, fits_ints]
theorem neMarks0 : eqD (.tup []) (.tup []) = some true := rfl
theorem at_ {ms : List Int} {m : Int} (h0 : 0 ≤ m) (h1 : m < (ms.length : Int)) : ∃ v ∈ ms, ixD (ms.map D.int) m = some (.int v) := by
  have hk : m.toNat < ms.length := by omega
  refine ⟨ms[m.toNat], List.getElem_mem hk, ?_⟩
  simp [ixD, place, h0, h1, hk]
theorem g1 (a b : Int) (M : D) : ixD [.int a, .int b, M] 1 = some (.int b) := rfl
theorem g2' (a b : Int) (M : D) : ixD [.int a, .int b, M] 2 = some M := rfl
theorem g0 (a b : Int) (M : D) : ixD [.int a, .int b, M] 0 = some (.int a) := rfl
theorem eqD_int (i j : Int) : eqD (.int i) (.int j) = some (i == j) := rfl
theorem part_ok {g : G} {ms : List Int} (ok : GOk g ms) : ∀ (deep fuel : Nat) (s : Sto) (n : Nat), 1 ≤ deep → deep ≤ fuel → Dice s n → ∃ d s', f_law_part fuel [.ref n, .int deep, gD g ms] s = .ok d s' ∧ GA g deep kPart d ∧ Fr n s s'
  | 0, _, _, _, h, _, _ => absurd h (by omega)
  | deep + 1, 0, _, _, _, h, _ => absurd h (by omega)
  | deep + 1, fuel + 1, s, n, _, hf, hd => by
    have ⟨_, _, t0, t1, k1, hmem, hlen, _, _⟩ := ok
    obtain ⟨r1, s1, e1, a1, b1, f1⟩ := nx (m := 10) hd
    by_cases c1 : r1 < 2 ∨ (deep = 0 ∧ 7 < r1)
    · obtain ⟨r2, s2, e2, a2, b2, f2⟩ := nx (m := 3) f1.1
      obtain ⟨r3, s3, e3, a3, b3, f3⟩ := nx (m := 10007) f2.1
      obtain ⟨r4, s4, e4, a4, b4, f4⟩ := nx (m := 4) f3.1
      refine ⟨.tup [.str [110, 117, 109], .int (if r4 / 3 = 0 then r2 else r3)], s4, ?_, GA.part (kinds := [kNumber]) rfl (.cons (GA.num (l := 10007) rfl ?_ ?_) .nil), ((f1.trans f2).trans f3).trans f4⟩
      · have q : r4 / 3 = 0 ∨ r4 / 3 = 1 := by omega
        rcases c1 with c | ⟨c, c'⟩
        · rcases q with q | q <;> simp [f_law_part, gD, e1, e2, e3, e4, q, c, opLt, opCmp, opIx, opLen, opSub, seqOf, ixD, place, opDiv, opGt, opEq, opNe, eqD, view, D.fit, D.fits, D.eqv]
        · rcases q with q | q <;> simp [f_law_part, gD, e1, e2, e3, e4, q, c, c', opLt, opCmp, opIx, opLen, opSub, seqOf, ixD, place, opDiv, opGt, opEq, opNe, eqD, view, D.fit, D.fits, D.eqv]
      · split <;> omega
      · split <;> omega
    · have n1 : ¬ r1 < 2 := fun z => c1 (.inl z)
      have n2 : ¬ (deep = 0 ∧ 7 < r1) := fun z => c1 (.inr z)
      by_cases c2 : r1 < 5
      · obtain ⟨r2, s2, e2, a2, b2, f2⟩ := nx (m := 4) f1.1
        refine ⟨.tup [.str [110, 97, 109, 101], .int r2], s2, ?_, GA.part (kinds := [kName]) rfl (.cons (GA.num (l := 4) rfl a2 b2) .nil), f1.trans f2⟩
        by_cases hd0 : deep = 0
        · have h7 : ¬ 7 < r1 := fun z => n2 ⟨hd0, z⟩
          simp [f_law_part, gD, e1, e2, n1, hd0, h7, c2, opLt, opCmp, opGt, opEq, eqD_int, view]
        · have hd1 : ¬ (deep : Int) + 1 = 1 := by omega
          simp [f_law_part, gD, e1, e2, n1, hd0, hd1, c2, opLt, opCmp, opGt, opEq, eqD_int, view]
      · have hd1 : deep ≠ 0 → ¬ (deep : Int) + 1 = 1 := by omega
        by_cases c3 : r1 = 5 ∧ ms ≠ []
        · obtain ⟨c3, hm⟩ := c3
          obtain ⟨r2, s2, e2, a2, b2, f2⟩ := nx (m := g.goods) f1.1
          have hl1 : 0 < ms.length := List.length_pos_iff.mpr hm
          obtain ⟨r3, s3, e3, a3, b3, f3⟩ := nx (m := (ms.length : Int)) f2.1
          obtain ⟨v, hv, ev⟩ := at_ a3 b3
          refine ⟨.tup [.str [115, 105, 100, 101], .int r2, .int v], s3, ?_, GA.part (kinds := [kThing, kMark]) rfl (.cons (GA.num (l := g.goods) rfl a2 b2) (.cons (GA.num (l := g.mark) rfl (hmem v hv).1 (by rw [k1 hm]; exact (hmem v hv).2)) .nil)), (f1.trans f2).trans f3⟩
          subst c3
          by_cases hd0 : deep = 0 <;> simp [f_law_part, gD, e1, e2, e3, hd0, hd1, neMarks hm, ev, g1, g2', eqD_int, opLt, opCmp, opIx, opLen, seqOf, opGt, opEq, opNe, view]
        · by_cases c4 : r1 < 8
          · obtain ⟨r2, s2, e2, a2, b2, f2⟩ := nx (m := g.goods) f1.1
            obtain ⟨r3, s3, e3, a3, b3, f3⟩ := nx (m := 3) f2.1
            refine ⟨.tup [.str [102, 105, 101, 108, 100], .int r2, .int r3], s3, ?_, GA.part (kinds := [kThing, kField]) rfl (.cons (GA.num (l := g.goods) rfl a2 b2) (.cons (GA.num (l := 3) rfl a3 b3) .nil)), (f1.trans f2).trans f3⟩
            have h7 : ¬ 7 < r1 := by omega
            by_cases c5 : r1 = 5
            · have hm : ms = [] := Decidable.byContradiction fun z => c3 ⟨c5, z⟩
              subst hm c5
              by_cases hd0 : deep = 0 <;> simp [f_law_part, gD, e1, e2, e3, hd0, hd1, neMarks0, g1, g2', eqD_int, opLt, opCmp, opIx, opLen, seqOf, opGt, opEq, opNe, view]
            · by_cases hd0 : deep = 0 <;> simp [f_law_part, gD, e1, e2, e3, hd0, hd1, n1, c2, c5, c4, h7, g1, eqD_int, opLt, opCmp, opIx, opLen, seqOf, opGt, opEq, opNe, view]
          · have hdp : deep ≠ 0 := fun z => n2 ⟨z, by omega⟩
            have hd1 : ¬ (deep : Int) + 1 = 1 := by omega
            obtain ⟨d2, s2, e2, g2, f2⟩ := part_ok ok deep fuel s1 n (by omega) (by omega) f1.1
            obtain ⟨d3, s3, e3, g3, f3⟩ := part_ok ok deep fuel s2 n (by omega) (by omega) f2.1
            have h8 : r1 = 8 ∨ r1 = 9 := by omega
            have e2' := e2
            have e3' := e3
            simp only [gD] at e2' e3'
            rcases h8 with h8 | h8 <;> subst h8
            · refine ⟨.tup [.str [115, 117, 109], d2, d3], s3, ?_, GA.part (kinds := [kPart, kPart]) rfl (.cons g2 (.cons g3 .nil)), (f1.trans f2).trans f3⟩
              simp [f_law_part, gD, e1, e2', e3', hdp, hd1, opLt, opCmp, opIx, opLen, opSub, seqOf, ixD, place, opDiv, opGt, opEq, opNe, eqD_int, view]
            · refine ⟨.tup [.str [108, 101, 115, 115], d2, d3], s3, ?_, GA.part (kinds := [kPart, kPart]) rfl (.cons g2 (.cons g3 .nil)), (f1.trans f2).trans f3⟩
              simp [f_law_part, gD, e1, e2', e3', hdp, hd1, opLt, opCmp, opIx, opLen, opSub, seqOf, ixD, place, opDiv, opGt, opEq, opNe, eqD_int, view]
end K16

/-! The plain law of k16, part 3: rows and texts of the dice. Own text. -/
namespace K16
open MP
/-- a good row; by own words where no marks are at hand -/
def GR (g : G) (ms : List Int) (d : D) : Prop := ∃ w kinds ds, d = .tup (.str w :: ds) ∧ t_ROWS.lookup w = some (.tup (kinds.map .str)) ∧ (ms = [] → ∀ s, inD s (.str w) d_OWN_WORDS = some true) ∧ F2 (GA g 3) kinds ds
section
variable {g : G} {ms : List Int}
theorem part3 (ok : GOk g ms) {s : Sto} {n : Nat} (hd : Dice s n) : ∃ d s', f_law_part 5 [.ref n, .int 3, gD g ms] s = .ok d s' ∧ GA g 3 kPart d ∧ Fr n s s' := part_ok ok 3 5 s n (by omega) (by omega) hd
theorem part2 (ok : GOk g ms) {s : Sto} {n : Nat} (hd : Dice s n) : ∃ d s', f_law_part 5 [.ref n, .int 2, gD g ms] s = .ok d s' ∧ GA g 3 kPart d ∧ Fr n s s' := by
  obtain ⟨d, s', h, g, f⟩ := part_ok ok 2 5 s n (by omega) (by omega) hd
  exact ⟨d, s', h, g.up, f⟩
theorem row_ok (ok : GOk g ms) (s : Sto) (n : Nat) (many : Int) (hm : g.rw = many + 1) (hd : Dice s n) : ∃ d s', f_law_row [.ref n, .int many, gD g ms] s = .ok d s' ∧ GR g ms d ∧ Fr n s s' := by
  have ⟨m0, m1, t0, t1, k1, hmem, hlen, r0, r1⟩ := ok
  obtain ⟨r, s1, e1, a1, b1, f1⟩ := nx (m := 16) hd
  obtain ⟨m, s2, e2, a2, b2, f2⟩ := nx (m := 4) f1.1
  have f12 := f1.trans f2
  by_cases c1 : r < 3
  · obtain ⟨p, s3, e3, g3, f3⟩ := part3 ok f2.1
    refine ⟨.tup [.str [115, 101, 116], .int m, p], s3, ?_, ⟨_, [kName, kPart], _, rfl, rfl, fun _ _ => rfl, .cons (GA.num (l := 4) rfl a2 b2) (.cons g3 .nil)⟩, f12.trans f3⟩
    simp only [gD] at e3 ⊢
    simp [f_law_row, e1, e2, c1, e3, opLt, opCmp]
  · by_cases c2 : r < 6 ∨ (r = 6 ∧ ms = [])
    · obtain ⟨x3, s3, e3, a3, b3, f3⟩ := nx (m := g.goods) f2.1
      obtain ⟨x4, s4, e4, a4, b4, f4⟩ := nx (m := 3) f3.1
      obtain ⟨p, s5, e5, g5, f5⟩ := part3 ok f4.1
      refine ⟨.tup [.str [112, 117, 116], .int x3, .int x4, p], s5, ?_, ⟨_, [kThing, kField, kPart], _, rfl, rfl, fun _ _ => rfl, .cons (GA.num (l := g.goods) rfl a3 b3) (.cons (GA.num (l := 3) rfl a4 b4) (.cons g5 .nil))⟩, ((f12.trans f3).trans f4).trans f5⟩
      simp only [gD] at e5 ⊢
      rcases c2 with c2 | ⟨c2, c3⟩
      · simp [f_law_row, e1, e2, c1, c2, e3, e4, e5, opLt, opCmp, opIx, seqOf, g1]
      · subst c2 c3
        simp only [List.map_nil] at e5 ⊢
        simp [f_law_row, e1, e2, e3, e4, e5, opLt, opCmp, opIx, seqOf, g1, g2', opEq, view, neMarks0, eqD_int]
    · have n6 : ¬ r < 6 := fun z => c2 (.inl z)
      by_cases c3 : r = 6
      · have hne : ms ≠ [] := fun z => c2 (.inr ⟨c3, z⟩)
        subst c3
        have hl1 : 0 < ms.length := List.length_pos_iff.mpr hne
        obtain ⟨x3, s3, e3, a3, b3, f3⟩ := nx (m := g.goods) f2.1
        obtain ⟨x4, s4, e4, a4, b4, f4⟩ := nx (m := (ms.length : Int)) f3.1
        obtain ⟨v, hv, ev⟩ := at_ a4 b4
        obtain ⟨p, s5, e5, g5, f5⟩ := part3 ok f4.1
        refine ⟨.tup [.str [115, 105, 100, 101], .int x3, .int v, p], s5, ?_, ⟨_, [kThing, kMark, kPart], _, rfl, rfl, fun z => absurd z hne, .cons (GA.num (l := g.goods) rfl a3 b3) (.cons (GA.num (l := g.mark) rfl (hmem v hv).1 (by rw [k1 hne]; exact (hmem v hv).2)) (.cons g5 .nil))⟩, ((f12.trans f3).trans f4).trans f5⟩
        simp only [gD] at e5 ⊢
        simp [f_law_row, e1, e2, e3, e4, e5, opLt, opCmp, opIx, opLen, opEq, opNe, view, seqOf, g1, g2', neMarks hne, ev, eqD_int]
      · by_cases c4 : r < 11
        · obtain ⟨x3, s3, e3, a3, b3, f3⟩ := nx (m := g.many) f2.1
          obtain ⟨p, s4, e4, g4, f4⟩ := part2 ok f3.1
          refine ⟨.tup [.str [99, 97, 108, 108], .int m, .int x3, p], s4, ?_, ⟨_, [kName, kDeed, kPart], _, rfl, rfl, fun _ _ => rfl, .cons (GA.num (l := 4) rfl a2 b2) (.cons (GA.num (l := g.many) rfl a3 b3) (.cons g4 .nil))⟩, (f12.trans f3).trans f4⟩
          simp only [gD] at e4 ⊢
          simp [f_law_row, e1, e2, c1, n6, c3, c4, e3, e4, opLt, opCmp, opIx, seqOf, g0, g2', opEq, view, eqD_int]
        · by_cases c5 : r < 13
          · obtain ⟨x3, s3, e3, a3, b3, f3⟩ := nx (m := many + 1) f2.1
            obtain ⟨x4, s4, e4, a4, b4, f4⟩ := nx (m := many + 1) f3.1
            obtain ⟨x5, s5, e5, a5, b5, f5⟩ := nx (m := 4) f4.1
            by_cases hx : 0 < x5
            · refine ⟨.tup [.str [117, 110, 108, 101, 115, 115], .int m, .int x4], s5, ?_, ⟨_, [kName, kRow], _, rfl, rfl, fun _ _ => rfl, .cons (GA.num (l := 4) rfl a2 b2) (.cons (GA.num (l := g.rw) rfl a4 (by omega)) .nil)⟩, ((f12.trans f3).trans f4).trans f5⟩
              simp [f_law_row, gD, e1, e2, c1, n6, c3, c4, c5, e3, e4, e5, hx, opLt, opGt, opCmp, opIx, opAdd, opIntOf, seqOf, ixD, place, opEq, view, eqD_int]
            · refine ⟨.tup [.str [103, 111], .int x3], s5, ?_, ⟨_, [kRow], _, rfl, rfl, fun _ _ => rfl, .cons (GA.num (l := g.rw) rfl a3 (by omega)) .nil⟩, ((f12.trans f3).trans f4).trans f5⟩
              simp [f_law_row, gD, e1, e2, c1, n6, c3, c4, c5, e3, e4, e5, hx, opLt, opGt, opCmp, opIx, opAdd, opIntOf, seqOf, ixD, place, opEq, view, eqD_int]
          · by_cases c6 : r = 13
            · subst c6
              obtain ⟨x3, s3, e3, a3, b3, f3⟩ := nx (m := g.goods) f2.1
              obtain ⟨x4, s4, e4, a4, b4, f4⟩ := nx (m := 3) f3.1
              refine ⟨.tup [.str [119, 97, 105, 116], .int x3, .int x4], s4, ?_, ⟨_, [kThing, kField], _, rfl, rfl, fun _ _ => rfl, .cons (GA.num (l := g.goods) rfl a3 b3) (.cons (GA.num (l := 3) rfl a4 b4) .nil)⟩, (f12.trans f3).trans f4⟩
              simp [f_law_row, gD, e1, e2, e3, e4, opLt, opCmp, opIx, seqOf, g1, opEq, view, eqD_int]
            · by_cases c7 : r = 14
              · subst c7
                obtain ⟨p, s3, e3, g3, f3⟩ := part2 ok f2.1
                refine ⟨.tup [.str [97, 110, 115, 119, 101, 114], p], s3, ?_, ⟨_, [kPart], _, rfl, rfl, fun _ _ => rfl, .cons g3 .nil⟩, f12.trans f3⟩
                simp only [gD] at e3 ⊢
                simp [f_law_row, e1, e2, e3, opLt, opCmp, opEq, view, eqD_int]
              · refine ⟨.tup [.str [115, 101, 116], .int m, .tup [.str [115, 117, 109], .tup [.str [110, 97, 109, 101], .int m], .tup [.str [110, 117, 109], .int 1]]], s2, ?_, ⟨_, [kName, kPart], _, rfl, rfl, fun _ _ => rfl,
                  .cons (GA.num (l := 4) rfl a2 b2) (.cons (GA.part (kinds := [kPart, kPart]) rfl (.cons (GA.part (k := 1) (kinds := [kName]) rfl (.cons (GA.num (l := 4) rfl a2 b2) .nil)) (.cons (GA.part (k := 1) (kinds := [kNumber]) rfl (.cons (GA.num (l := 10007) rfl (by omega) (by omega)) .nil)) .nil))) .nil)⟩, f12⟩
                simp [f_law_row, gD, e1, e2, c1, n6, c3, c4, c5, c6, c7, opLt, opCmp, opEq, view, eqD_int]
/-! ### what is made fits -/
theorem fit_up : ∀ (n : Nat) (d : D), d.fit n = true → d.fit (n + 1) = true := by
  have go : ∀ (n : Nat), (∀ d : D, d.fit n = true → d.fit (n + 1) = true) := fun n => by
    induction n with
    | zero =>
      intro d h
      cases d <;> simp_all [D.fit]
    | succ n ih =>
      intro d h
      have all : ∀ ds : List D, D.fits n ds = true → D.fits (n + 1) ds = true := fun ds => by
        induction ds with
        | nil => intro _; rfl
        | cons x xs ihx =>
          intro h
          simp only [D.fits, Bool.and_eq_true] at h ⊢
          exact ⟨ih x h.1, ihx h.2⟩
      cases d <;> first | exact h | (simp only [D.fit] at h ⊢; exact all _ h) | (simp [D.fit] at h ⊢)
  exact go
theorem fit_le {m n : Nat} (h : m ≤ n) {d : D} (f : d.fit m = true) : d.fit n = true := by
  induction h with
  | refl => exact f
  | step _ ih => exact fit_up _ _ ih
theorem fits_of {n : Nat} : ∀ {ds : List D}, (∀ d ∈ ds, d.fit n = true) → D.fits n ds = true
  | [], _ => by cases n <;> rfl
  | d :: ds, h => by
    simp only [D.fits, Bool.and_eq_true]
    exact ⟨h d List.mem_cons_self, fits_of fun d' m => h d' (List.mem_cons_of_mem _ m)⟩
theorem look_mem {w : List Nat} {v : D} : ∀ {tab : List (List Nat × D)}, tab.lookup w = some v → (w, v) ∈ tab
  | [], h => by cases h
  | (a, b) :: r, h => by
    rw [List.lookup_cons] at h
    split at h
    · rename_i e
      cases h
      have : w = a := by simpa using e
      subst this
      exact List.mem_cons_self
    · exact List.mem_cons_of_mem _ (look_mem h)
theorem fit_w {t : List (List Nat × D)} (ht : (t.all fun p => p.1.all fun c => decide (c < 1114112)) = true) {w : List Nat} {v : D} (h : t.lookup w = some v) (n : Nat) : D.fit n (.str w) = true := by
  have := List.all_eq_true.mp ht _ (look_mem h)
  cases n <;> exact this
theorem F2.fits {n : Nat} {R : List Nat → D → Prop} (h : ∀ a b, R a b → b.fit n = true) : ∀ {as : List (List Nat)} {bs : List D}, F2 R as bs → D.fits n bs = true
  | _, _, .nil => by cases n <;> rfl
  | _, _, .cons a b => by
    simp only [D.fits, Bool.and_eq_true]
    exact ⟨h _ _ a, F2.fits h b⟩
theorem GA.fit : ∀ (k : Nat) (kind : List Nat) (d : D), GA g k kind d → d.fit k = true
  | 0, kind, d, ⟨l, n, _, e, _⟩ => by subst e; rfl
  | k + 1, kind, d, .inl ⟨l, n, _, e, _⟩ => by subst e; rfl
  | k + 1, kind, d, .inr ⟨_, w, kinds, ds, e, hl, hs⟩ => by
    subst e
    simp only [D.fit, D.fits, Bool.and_eq_true]
    exact ⟨fit_w (by decide +kernel) hl k, F2.fits (fun a b h => GA.fit k a b h) hs⟩
theorem GR.fit {d : D} (h : GR g ms d) : d.fit 4 = true := by
  obtain ⟨w, kinds, ds, rfl, hl, _, hs⟩ := h
  simp only [D.fit, D.fits, Bool.and_eq_true]
  exact ⟨fit_w (by decide +kernel) hl 3, F2.fits (fun a b h => GA.fit 3 a b h) hs⟩
end
abbrev kCall : List Nat := [99, 97, 108, 108]
/-- a row as it is walked -/
def WR (many : Int) (d : D) : Prop := ∃ w ds, d = .tup (.str w :: ds) ∧ d.fit 9 = true ∧ (w = kCall → ∃ a k b, ds = [a, .int k, b] ∧ 0 ≤ k ∧ k < many)
theorem GR.wr {g : G} {ms : List Int} {d : D} (h : GR g ms d) : WR g.many d := by
  have f := fit_le (show 4 ≤ 9 by omega) h.fit
  obtain ⟨w, kinds, ds, rfl, hl, _, hs⟩ := h
  refine ⟨w, ds, rfl, f, fun e => ?_⟩
  subst e
  have hk : kinds = [kName, kDeed, kPart] := by
    have : t_ROWS.lookup kCall = some (.tup [.str kName, .str kDeed, .str kPart]) := rfl
    rw [this] at hl
    injection hl with hl
    injection hl with hl
    cases kinds with
    | nil => cases hl
    | cons a r =>
      injection hl with h1 hl
      cases r with
      | nil => cases hl
      | cons b r =>
        injection hl with h2 hl
        cases r with
        | nil => cases hl
        | cons c r =>
          injection hl with h3 hl
          cases r with
          | nil =>
            injection h1 with h1
            injection h2 with h2
            injection h3 with h3
            rw [← h1, ← h2, ← h3]
          | cons d r => cases hl
  subst hk
  cases hs with
  | cons x r =>
    cases r with
    | cons y r =>
      cases r with
      | cons z r =>
        cases r
        obtain ⟨l, n, e, rfl, a, b⟩ | ⟨e, _⟩ := y
        · have : l = g.many := by
            have e2 : limOf g kDeed = some g.many := rfl
            rw [e2] at e
            exact (Option.some.inj e).symm
          subst this
          exact ⟨_, n, _, rfl, a, b⟩
        · cases e
end K16

/-! The plain law of k16, part 4: texts and changes of the dice. Own text. -/
namespace K16
open MP
theorem Fr.refl {n : Nat} {s : Sto} (h : Dice s n) : Fr n s s := ⟨h, rfl, fun _ _ => rfl⟩
/-- a walk whose items the dice makes -/
theorem lc_all {Q P : D → Prop} {n : Nat} {g : MG} {e : ME} {env : Env} (h : ∀ d s, Q d → Dice s n → ∃ env1 y s', g d env = some env1 ∧ e env1 s = .ok y s' ∧ P y ∧ Fr n s s') : ∀ (l : List D) (s : Sto), (∀ d ∈ l, Q d) → Dice s n →
    ∃ ys s', lcP g tYesM e env l s = .ok ys s' ∧ ys.length = l.length ∧ (∀ y ∈ ys, P y) ∧ Fr n s s'
  | [], s, _, hd => ⟨[], s, rfl, rfl, fun _ h => (nomatch h), Fr.refl hd⟩
  | d :: l, s, hq, hd => by
    obtain ⟨env1, y, s1, e1, e2, p, f⟩ := h d s (hq d List.mem_cons_self) hd
    obtain ⟨ys, s2, e3, hl, ps, f2⟩ := lc_all h l s1 (fun d m => hq d (List.mem_cons_of_mem _ m)) f.1
    refine ⟨y :: ys, s2, by simp [lcP, e1, e2, e3], by simp [hl], fun z m => ?_, f.trans f2⟩
    rcases List.mem_cons.mp m with m | m
    · subst m; exact p
    · exact ps z m
/-- a walk of which the dice picks -/
theorem lc_pick {Q : D → Prop} {n : Nat} {g : MG} {t : MT} {e : ME} {env : Env} (h : ∀ d s, Q d → Dice s n → ∃ env1 b s', g d env = some env1 ∧ t env1 s = .ok b s' ∧ e env1 s' = .ok d s' ∧ Fr n s s') : ∀ (l : List D) (s : Sto), (∀ d ∈ l, Q d) → Dice s n →
    ∃ ys s', lcP g t e env l s = .ok ys s' ∧ ys.length ≤ l.length ∧ (∀ y ∈ ys, y ∈ l) ∧ Fr n s s'
  | [], s, _, hd => ⟨[], s, rfl, Nat.le_refl _, fun _ h => (nomatch h), Fr.refl hd⟩
  | d :: l, s, hq, hd => by
    obtain ⟨env1, b, s1, e1, e2, e3, f⟩ := h d s (hq d List.mem_cons_self) hd
    obtain ⟨ys, s2, e4, hl, ps, f2⟩ := lc_pick h l s1 (fun d m => hq d (List.mem_cons_of_mem _ m)) f.1
    cases b with
    | true =>
      refine ⟨d :: ys, s2, by simp [lcP, e1, e2, e3, e4], by simp [hl], fun z m => ?_, f.trans f2⟩
      rcases List.mem_cons.mp m with m | m
      · subst m; exact List.mem_cons_self
      · exact List.mem_cons_of_mem _ (ps z m)
    | false => exact ⟨ys, s2, by simp [lcP, e1, e2, e4], by simp; omega, fun z m => List.mem_cons_of_mem _ (ps z m), f.trans f2⟩
theorem ints_len (n : Nat) : (intsD 0 n).length = n := by simp [intsD]
theorem ints_mem {n : Nat} {d : D} (h : d ∈ intsD 0 n) : ∃ k : Int, d = .int k ∧ 0 ≤ k ∧ k < n := by
  unfold intsD at h
  obtain ⟨k, hk, rfl⟩ := List.mem_map.mp h
  have := List.mem_range.mp hk
  exact ⟨_, rfl, by omega, by omega⟩
theorem rng {env : Env} {s : Sto} {m : ME} {k : Int} {s1 : Sto} (e : m env s = .ok (.int k) s1) (h0 : 0 ≤ k) (h1 : k ≤ 1000) : iRng m env s = .ok ⟨intsD 0 k.toNat, none⟩ s1 := by
  have hc : -(cap : Int) ≤ k ∧ k ≤ cap := by unfold cap; omega
  simp [e, hc]
theorem len_cap {n : Nat} (h : n ≤ 1000) : n ≤ cap := by unfold cap; omega
def gg (many goods mk rw : Int) : G := ⟨many, goods, mk, rw⟩
theorem text_ok {many goods mk : Int} {ms : List Int} (ok : GOk ⟨many, goods, mk, 2⟩ ms) (s : Sto) (n : Nat) (hd : Dice s n) : ∃ rows s', f_law_text [.ref n, gD ⟨many, goods, mk, 2⟩ ms] s = .ok (.tup rows) s' ∧ 1 ≤ rows.length ∧ rows.length ≤ 12 ∧ (∀ d ∈ rows, GR ⟨many, goods, mk, (rows.length : Int) + 1⟩ ms d) ∧ Fr n s s' := by
  obtain ⟨r, s1, e1, a1, b1, f1⟩ := nx (m := 3) hd
  obtain ⟨q, hq, q1, q2⟩ : ∃ q : Int, ixD [.int 3, .int 5, .int 12] r = some (.int q) ∧ 3 ≤ q ∧ q ≤ 12 := by
    have : r = 0 ∨ r = 1 ∨ r = 2 := by omega
    rcases this with h | h | h <;> subst h
    · exact ⟨3, rfl, by omega, by omega⟩
    · exact ⟨5, rfl, by omega, by omega⟩
    · exact ⟨12, rfl, by omega, by omega⟩
  obtain ⟨m, s2, e2, a2, b2, f2⟩ := nx (m := q) f1.1
  have ok' : GOk ⟨many, goods, mk, (1 + m) + 1⟩ ms := ⟨ok.m0, ok.m1, ok.t0, ok.t1, ok.k1, ok.mem, ok.len, by show 1 < (1 + m) + 1; omega, by show (1 + m) + 1 ≤ 13; omega⟩
  obtain ⟨rows, s3, e3, hl, g3, f3⟩ := lc_all (Q := fun _ => True) (P := GR ⟨many, goods, mk, (1 + m) + 1⟩ ms) (n := n) (g := gNm 3) (e := eCall f_law_row (aCons (eVar 0) (aCons (eVar 2) (aCons (eVar 1) aNil)))) (env := [.val (.ref n), .val (gD ⟨many, goods, mk, 2⟩ ms), .val (.int (1 + m)), .emp])
    (fun d s _ hs => by
      obtain ⟨y, s', e, p, f⟩ := row_ok ok' s n (1 + m) rfl hs
      exact ⟨_, y, s', rfl, by simpa [gD] using e, p, f⟩) (intsD 0 (1 + m).toNat) s2 (fun _ _ => trivial) f2.1
  rw [ints_len] at hl
  have hrl : (rows.length : Int) = 1 + m := by omega
  refine ⟨rows, s3, ?_, by omega, by omega, fun d hd => by rw [hrl]; exact g3 d hd, (f1.trans f2).trans f3⟩
  have lc := s_lLc (iRng (eVar 2)) (gNm 3) tYesM (eCall f_law_row (aCons (eVar 0) (aCons (eVar 2) (aCons (eVar 1) aNil)))) [3] [.val (.ref n), .val (gD ⟨many, goods, mk, 2⟩ ms), .val (.int (1 + m)), .emp] s2 s2 (intsD 0 (1 + m).toNat) (rng rfl (by omega) (by omega)) (by rw [ints_len]; exact len_cap (by omega))
  have hw : wipeE [.val (.ref n), .val (gD ⟨many, goods, mk, 2⟩ ms), .val (.int (1 + m)), .emp] [3] = [.val (.ref n), .val (gD ⟨many, goods, mk, 2⟩ ms), .val (.int (1 + m)), .emp] := rfl
  rw [hw, e3] at lc
  simp [f_law_text, e1, hq, e2, lc, opAdd, opIx, seqOf, opTuple]
/-- an own text -/
def TX (many goods : Int) (t : D) : Prop := ∃ rows, t = .tup rows ∧ 1 ≤ rows.length ∧ rows.length ≤ 12 ∧ ∀ d ∈ rows, GR ⟨many, goods, 0, (rows.length : Int) + 1⟩ [] d
theorem at2 {a b r : Int} (h0 : 0 ≤ r) (h1 : r < 2) : ∃ q : Int, ixD [.int a, .int b] r = some (.int q) ∧ (q = a ∨ q = b) := by
  have : r = 0 ∨ r = 1 := by omega
  rcases this with h | h <;> subst h
  · exact ⟨a, rfl, .inl rfl⟩
  · exact ⟨b, rfl, .inr rfl⟩
theorem texts_ok (s : Sto) (n : Nat) (hd : Dice s n) : ∃ (many goods men : Int) (ts : List D) (s' : Sto), f_law_texts [.ref n] s = .ok (.tup [.lst ts, .int goods, .int men]) s' ∧ 1 ≤ many ∧ many ≤ 8 ∧ 1 ≤ goods ∧ goods ≤ 4 ∧ (ts.length : Int) = many ∧ (∀ t ∈ ts, TX many goods t) ∧ Fr n s s' := by
  obtain ⟨r1, s1, e1, a1, b1, f1⟩ := nx (m := 2) hd
  obtain ⟨q1, hq1, c1⟩ := at2 (a := 4) (b := 8) a1 b1
  obtain ⟨r2, s2, e2, a2, b2, f2⟩ := nx (m := q1) f1.1
  obtain ⟨r3, s3, e3, a3, b3, f3⟩ := nx (m := 4) f2.1
  have ok : GOk ⟨1 + r2, 1 + r3, 0, 2⟩ [] := ⟨by show 1 ≤ 1 + r2; omega, by show 1 + r2 ≤ 8; omega, by show 1 ≤ 1 + r3; omega, by show 1 + r3 ≤ 4; omega, fun h => absurd rfl h, fun _ h => (nomatch h), by simp, by show (1 : Int) < 2; omega, by show (2 : Int) ≤ 13; omega⟩
  obtain ⟨ts, s4, e4, hl, g4, f4⟩ := lc_all (Q := fun _ => True) (P := TX (1 + r2) (1 + r3)) (n := n) (g := gNm 4) (e := eCall f_law_text (aCons (eVar 0) (aCons (eTup (aCons (eVar 1) (aCons (eVar 2) (aCons (eTup aNil) aNil)))) aNil))) (env := [.val (.ref n), .val (.int (1 + r2)), .val (.int (1 + r3)), .emp, .emp])
    (fun d s _ hs => by
      obtain ⟨rows, s', e, p1, p2, p3, f⟩ := text_ok ok s n hs
      exact ⟨_, .tup rows, s', rfl, by simpa [gD] using e, ⟨rows, rfl, p1, p2, p3⟩, f⟩) (intsD 0 (1 + r2).toNat) s3 (fun _ _ => trivial) f3.1
  rw [ints_len] at hl
  obtain ⟨r5, s5, e5, a5, b5, f5⟩ := nx (m := 2) f4.1
  obtain ⟨q5, hq5, c5⟩ := at2 (a := 3) (b := 4) a5 b5
  obtain ⟨r6, s6, e6, a6, b6, f6⟩ := nx (m := q5) f5.1
  refine ⟨1 + r2, 1 + r3, 1 + r6, ts, s6, ?_, by omega, by omega, by omega, by omega, by omega, g4, (((((f1.trans f2).trans f3).trans f4).trans f5).trans f6)⟩
  have lc := s_lLc (iRng (eVar 1)) (gNm 4) tYesM (eCall f_law_text (aCons (eVar 0) (aCons (eTup (aCons (eVar 1) (aCons (eVar 2) (aCons (eTup aNil) aNil)))) aNil))) [4] [.val (.ref n), .val (.int (1 + r2)), .val (.int (1 + r3)), .emp, .emp] s3 s3 (intsD 0 (1 + r2).toNat) (rng rfl (by omega) (by omega)) (by rw [ints_len]; exact len_cap (by omega))
  have hw : wipeE [.val (.ref n), .val (.int (1 + r2)), .val (.int (1 + r3)), .emp, .emp] [4] = [.val (.ref n), .val (.int (1 + r2)), .val (.int (1 + r3)), .emp, .emp] := rfl
  rw [hw, e4] at lc
  simp [f_law_texts, e1, hq1, e2, e3, lc, e5, hq5, e6, opAdd, opIx, seqOf]
end K16

/-! The plain law of k16, part 5: changes of the dice. Own text. -/
namespace K16
open MP
theorem in_tup {w : List Nat} {ds : List D} (h : ds.all isFlat = true) (s : Sto) : inD s (.str w) (.tup ds) = some (ds.any fun d => d.eqv (.str w)) := by
  unfold inD
  split
  · rename_i h1 h2; cases h2
  · simp only [seqOf]
    simp [isFlat, h]
def lbE : MS := sAsg (eFrz (lAdd (eBor 3) (eFrz (lMul (eFrz (lLst (aCons (eVar 5) aNil))) (eOp1 opIntOf (eOp2 opIn (eOp2 opIx (eBor 5) (eC (.int 0))) (eTup (aCons (eC (.str [115, 101, 116])) (aCons (eC (.str [112, 117, 116])) (aCons (eC (.str [115, 105, 100, 101])) (aCons (eC (.str [110, 101, 101, 100])) aNil))))))))))) (gNm 3)
/-- the body of the rows ahead and behind -/
def lb : MS := sSeq (sAsg (eCall f_law_row (aCons (eVar 0) (aCons (eC (.int 1)) (aCons (eVar 1) aNil)))) (gNm 5)) (sSeq (sIf (tAnd (tVal (eVar 2)) (tVal (eOp2 opEq (eCall f_law_next (aCons (eVar 0) (aCons (eC (.int 4)) aNil))) (eC (.int 0))))) (sAsg (eTup (aCons (eC (.str [110, 101, 101, 100])) (aCons (eOp2 opIx (eFrz (lLst (aCons (eCall (f_law_part 5) (aCons (eVar 0) (aCons (eC (.int 2)) (aCons (eVar 1) aNil)))) (aCons (eTup (aCons (eC (.str [110, 117, 109])) (aCons (eC (.int 1)) aNil))) aNil)))) (eCall f_law_next (aCons (eVar 0) (aCons (eC (.int 2)) aNil)))) aNil))) (gNm 5)) sNext) lbE)
theorem lines_eq : f_law_lines = runB 3 6 (sSeq (sAsg (eFrz (lLst aNil)) (gNm 3)) (sSeq (sFor (iRng (eCall f_law_next (aCons (eVar 0) (aCons (eOp2 opIx (eFrz (lLst (aCons (eC (.int 2)) (aCons (eC (.int 7)) aNil)))) (eCall f_law_next (aCons (eVar 0) (aCons (eC (.int 2)) aNil)))) aNil)))) (gNm 4) lb) (sRet (eOp1 opTuple (eBor 3))))) := rfl
/-- the row that comes, then what the list gets -/
theorem lb_end {a0 a1 a2 z4 : Slot} {acc : List D} {w : List Nat} {ds : List D} (s : Sto) (hl : acc.length ≤ 100) : ∃ acc', lbE [a0, a1, a2, .val (.lst acc), z4, .val (.tup (.str w :: ds))] s = .nx [a0, a1, a2, .val (.lst acc'), z4, .val (.tup (.str w :: ds))] s ∧
    (acc' = acc ∨ acc' = acc ++ [.tup (.str w :: ds)]) := by
  have h := in_tup (w := w) (ds := [.str [115, 101, 116], .str [112, 117, 116], .str [115, 105, 100, 101], .str [110, 101, 101, 100]]) rfl s
  have ix : ixD (.str w :: ds) 0 = some (.str w) := by simp [ixD, place]
  have c1 : 1 ≤ cap := by decide
  have c2 : acc.length + 1 ≤ cap := len_cap (by omega)
  have c3 : acc.length ≤ cap := len_cap (by omega)
  cases hb : ([.str [115, 101, 116], .str [112, 117, 116], .str [115, 105, 100, 101], .str [110, 101, 101, 100]] : List D).any (fun d => d.eqv (.str w)) with
  | true =>
    rw [hb] at h
    exact ⟨acc ++ [.tup (.str w :: ds)], by simp [lbE, opIx, seqOf, ix, opIn, h, opIntOf, mulAt, view, c1, c2], .inr rfl⟩
  | false =>
    rw [hb] at h
    exact ⟨acc, by simp [lbE, opIx, seqOf, ix, opIn, h, opIntOf, mulAt, view, c3], .inl rfl⟩
theorem line_step {many goods mk : Int} {ms : List Int} (ok : GOk ⟨many, goods, mk, 2⟩ ms) (n : Nat) (first : Bool) (acc : List D) (hl : acc.length ≤ 100) (z4 z5 : Slot) (s : Sto) (hd : Dice s n) : ∃ acc' z5' s', lb [.val (.ref n), .val (gD ⟨many, goods, mk, 2⟩ ms), .val (.bl first), .val (.lst acc), z4, z5] s = .nx [.val (.ref n), .val (gD ⟨many, goods, mk, 2⟩ ms), .val (.bl first), .val (.lst acc'), z4, z5'] s' ∧
    acc'.length ≤ acc.length + 1 ∧ ((∀ d ∈ acc, d.fit 9 = true) → ∀ d ∈ acc', d.fit 9 = true) ∧ Fr n s s' := by
  obtain ⟨d, s1, e1, g1, f1⟩ := row_ok ok s n 1 rfl hd
  have df : d.fit 9 = true := fit_le (by omega) g1.fit
  obtain ⟨w, kinds, ds, rfl, _⟩ := g1
  have fin : ∀ (w : List Nat) (ds : List D) (s2 : Sto), (D.tup (.str w :: ds)).fit 9 = true → Fr n s s2 → ∃ acc' z5' s', lbE [.val (.ref n), .val (gD ⟨many, goods, mk, 2⟩ ms), .val (.bl first), .val (.lst acc), z4, .val (.tup (.str w :: ds))] s2 = .nx [.val (.ref n), .val (gD ⟨many, goods, mk, 2⟩ ms), .val (.bl first), .val (.lst acc'), z4, z5'] s' ∧
      acc'.length ≤ acc.length + 1 ∧ ((∀ d ∈ acc, d.fit 9 = true) → ∀ d ∈ acc', d.fit 9 = true) ∧ Fr n s s' := fun w ds s2 hf f => by
    obtain ⟨acc', e, h⟩ := lb_end (a0 := .val (.ref n)) (a1 := .val (gD ⟨many, goods, mk, 2⟩ ms)) (a2 := .val (.bl first)) (z4 := z4) (w := w) (ds := ds) s2 hl
    refine ⟨acc', _, s2, e, ?_, fun ha d hm => ?_, f⟩
    · rcases h with h | h <;> subst h <;> simp
    · rcases h with h | h
      · subst h; exact ha d hm
      · subst h
        rcases List.mem_append.mp hm with m | m
        · exact ha d m
        · have : d = .tup (.str w :: ds) := by simpa using m
          subst this; exact hf
  have e1' := e1
  cases first with
  | false =>
    obtain ⟨acc', z5', s', e, r⟩ := fin w ds s1 df f1
    refine ⟨acc', z5', s', ?_, r⟩
    simp [lb, e1, e]
  | true =>
    obtain ⟨r2, s2, e2, a2, b2, f2⟩ := nx (m := 4) f1.1
    by_cases h0 : r2 = 0
    · obtain ⟨p, s3, e3, g3, f3⟩ := part2 ok f2.1
      obtain ⟨r4, s4, e4, a4, b4, f4⟩ := nx (m := 2) f3.1
      obtain ⟨y, ey, yf⟩ : ∃ y, ixD [p, .tup [.str [110, 117, 109], .int 1]] r4 = some y ∧ y.fit 8 = true := by
        have : r4 = 0 ∨ r4 = 1 := by omega
        rcases this with h | h <;> subst h
        · exact ⟨p, rfl, fit_le (by omega) (GA.fit 3 _ _ g3)⟩
        · exact ⟨_, rfl, by decide⟩
      obtain ⟨acc', z5', s', e, r⟩ := fin [110, 101, 101, 100] [y] s4 (by simp [D.fit, D.fits, yf]) (((f1.trans f2).trans f3).trans f4)
      refine ⟨acc', z5', s', ?_, r⟩
      subst h0
      simp [lb, e1, e2, opEq, view, eqD_int, e3, e4, opIx, seqOf, ey, e]
    · obtain ⟨acc', z5', s', e, r⟩ := fin w ds s2 df (f1.trans f2)
      refine ⟨acc', z5', s', ?_, r⟩
      simp [lb, e1, e2, opEq, view, eqD_int, h0, e]
theorem line_loop {many goods mk : Int} {ms : List Int} (ok : GOk ⟨many, goods, mk, 2⟩ ms) (n : Nat) (first : Bool) : ∀ (l : List D) (acc : List D) (z4 z5 : Slot) (s : Sto), acc.length + l.length ≤ 100 → Dice s n → (∀ d ∈ acc, d.fit 9 = true) →
    ∃ acc' z4' z5' s', forP (gNm 4) lb l [.val (.ref n), .val (gD ⟨many, goods, mk, 2⟩ ms), .val (.bl first), .val (.lst acc), z4, z5] s = .nx [.val (.ref n), .val (gD ⟨many, goods, mk, 2⟩ ms), .val (.bl first), .val (.lst acc'), z4', z5'] s' ∧ acc'.length ≤ acc.length + l.length ∧ (∀ d ∈ acc', d.fit 9 = true) ∧ Fr n s s'
  | [], acc, z4, z5, s, hl, hd, ha => ⟨acc, z4, z5, s, rfl, Nat.le_refl _, ha, Fr.refl hd⟩
  | x :: l, acc, z4, z5, s, hl, hd, ha => by
    simp only [List.length_cons] at hl
    obtain ⟨a1, y5, s1, e1, l1, g1, f1⟩ := line_step ok n first acc (by omega) (.val x) z5 s hd
    obtain ⟨a2, y4, y6, s2, e2, l2, g2, f2⟩ := line_loop ok n first l a1 (.val x) y5 s1 (by omega) f1.1 (g1 ha)
    refine ⟨a2, y4, y6, s2, ?_, by simp only [List.length_cons]; omega, g2, f1.trans f2⟩
    rw [← e2]
    simp only [forP, s_gNm, List.set_cons_succ, List.set_cons_zero, e1]
theorem lines_ok {many goods mk : Int} {ms : List Int} (ok : GOk ⟨many, goods, mk, 2⟩ ms) (n : Nat) (first : Bool) (s : Sto) (hd : Dice s n) : ∃ rows s', f_law_lines [.ref n, gD ⟨many, goods, mk, 2⟩ ms, .bl first] s = .ok (.tup rows) s' ∧ (∀ d ∈ rows, d.fit 9 = true) ∧ Fr n s s' := by
  obtain ⟨r1, s1, e1, a1, b1, f1⟩ := nx (m := 2) hd
  obtain ⟨q1, hq1, c1⟩ := at2 (a := 2) (b := 7) a1 b1
  obtain ⟨r2, s2, e2, a2, b2, f2⟩ := nx (m := q1) f1.1
  obtain ⟨acc, y4, y5, s3, e3, l3, g3, f3⟩ := line_loop ok n first (intsD 0 r2.toNat) [] .emp .emp s2 (by rw [ints_len]; simp; omega) f2.1 (fun _ h => (nomatch h))
  refine ⟨acc, s3, ?_, g3, (f1.trans f2).trans f3⟩
  have f := s_sFor (iRng (eCall f_law_next (aCons (eVar 0) (aCons (eOp2 opIx (eFrz (lLst (aCons (eC (.int 2)) (aCons (eC (.int 7)) aNil)))) (eCall f_law_next (aCons (eVar 0) (aCons (eC (.int 2)) aNil)))) aNil)))) (gNm 4) lb [.val (.ref n), .val (gD ⟨many, goods, mk, 2⟩ ms), .val (.bl first), .val (.lst []), .emp, .emp] s s2 (intsD 0 r2.toNat) (rng (by simp [e1, opIx, seqOf, hq1, e2]) a2 (by omega))
  rw [e3] at f
  rw [lines_eq]
  simp [f, opTuple, seqOf]
/-! ### changes -/
theorem insU_mem {n k : Int} : ∀ {l : List Int}, k ∈ insU n l → k = n ∨ k ∈ l
  | [], h => by simp [insU] at h; exact .inl h
  | m :: r, h => by
    unfold insU at h
    split at h
    · simpa using h
    · split at h
      · exact .inr h
      · rcases List.mem_cons.mp h with e | hx
        · subst e; exact .inr List.mem_cons_self
        · exact (insU_mem hx).elim .inl fun z => .inr (List.mem_cons_of_mem _ z)
theorem insU_len {n : Int} : ∀ {l : List Int}, (insU n l).length ≤ l.length + 1
  | [] => by simp [insU]
  | m :: r => by
    unfold insU
    split
    · simp
    · split
      · simp
      · simp only [List.length_cons]; exact Nat.succ_le_succ insU_len
theorem sortU_mem {k : Int} : ∀ {l : List Int}, k ∈ sortU l → k ∈ l
  | [], h => h
  | n :: l, h => by
    rcases insU_mem (show k ∈ insU n (sortU l) from h) with e | h
    · subst e; exact List.mem_cons_self
    · exact List.mem_cons_of_mem _ (sortU_mem h)
theorem sortU_len : ∀ {l : List Int}, (sortU l).length ≤ l.length
  | [] => Nat.le_refl _
  | n :: l => Nat.le_trans (insU_len (n := n) (l := sortU l)) (Nat.succ_le_succ sortU_len)
theorem intsOf_map : ∀ ns : List Int, intsOf (ns.map D.int) = some ns
  | [] => rfl
  | n :: ns => by simp [intsOf, intsOf_map ns]
theorem ints_list {b : Int} : ∀ {l : List D}, (∀ d ∈ l, ∃ k : Int, d = .int k ∧ 0 ≤ k ∧ k < b) → ∃ ns : List Int, l = ns.map D.int ∧ ∀ k ∈ ns, 0 ≤ k ∧ k < b
  | [], _ => ⟨[], rfl, fun _ h => (nomatch h)⟩
  | d :: l, h => by
    obtain ⟨k, rfl, hk⟩ := h d List.mem_cons_self
    obtain ⟨ns, rfl, hn⟩ := ints_list fun d m => h d (List.mem_cons_of_mem _ m)
    refine ⟨k :: ns, rfl, fun j hj => ?_⟩
    rcases List.mem_cons.mp hj with e | hj
    · subst e; exact hk
    · exact hn j hj
/-- a text of a change with its deed -/
def PR (many : Int) (d : D) : Prop := ∃ k rows, d = .tup [.int k, .tup rows] ∧ 0 ≤ k ∧ k < many ∧ rows.length ≤ 12 ∧ ∀ r ∈ rows, WR many r
def CH (many : Int) (d : D) : Prop := ∃ ps marks l1 l2, d = .tup [.tup ps, .tup marks, .tup l1, .tup l2] ∧ ps.length ≤ 8 ∧ (∀ p ∈ ps, PR many p) ∧ (∀ m ∈ marks, m.fit 9 = true) ∧ (∀ r ∈ l1, r.fit 9 = true) ∧ ∀ r ∈ l2, r.fit 9 = true
theorem change_ok {many goods : Int} (m0 : 1 ≤ many) (m1 : many ≤ 8) (t0 : 1 ≤ goods) (t1 : goods ≤ 4) (s : Sto) (n : Nat) (hd : Dice s n) : ∃ d s', f_law_change [.ref n, .int many, .int goods, .lst []] s = .ok d s' ∧ CH many d ∧ Fr n s s' := by
  obtain ⟨mk, s1, e1, l1, g1, f1⟩ := lc_pick (Q := fun d => ∃ k : Int, d = .int k) (n := n) (g := gNm 9) (t := tVal (eOp2 opEq (eCall f_law_next (aCons (eVar 0) (aCons (eC (.int 6)) aNil))) (eC (.int 0)))) (e := eVar 9) (env := [.val (.ref n), .val (.int many), .val (.int goods), .val (.lst []), .emp, .emp, .emp, .emp, .emp, .emp, .emp])
    (fun d s _ hs => by
      obtain ⟨r, s', e, a, b, f⟩ := nx (m := 6) hs
      exact ⟨_, r == 0, s', rfl, by simp [e, opEq, view, eqD_int], rfl, f⟩) (intsD 0 10) s (fun d m => let ⟨k, e, _⟩ := ints_mem m; ⟨k, e⟩) hd
  obtain ⟨ns, rfl, hns⟩ := ints_list (b := 10) fun d m => ints_mem (g1 d m)
  rw [ints_len, List.length_map] at l1
  have ok : GOk ⟨many, goods, 10, 2⟩ (sortU ns) := ⟨m0, m1, t0, t1, fun _ => rfl, fun m hm => hns m (sortU_mem hm), Nat.le_trans sortU_len l1, by show (1 : Int) < 2; omega, by show (2 : Int) ≤ 13; omega⟩
  obtain ⟨first, s2, e2, a2, b2, f2⟩ := nx (m := many) f1.1
  obtain ⟨ds, s3, e3, l3, g3, f3⟩ := lc_pick (Q := fun d => ∃ k : Int, d = .int k) (n := n) (g := gNm 10) (t := tOr (tVal (eOp2 opEq (eBor 10) (eBor 6))) (tVal (eOp2 opEq (eCall f_law_next (aCons (eVar 0) (aCons (eC (.int 3)) aNil))) (eC (.int 0))))) (e := eVar 10)
    (env := [.val (.ref n), .val (.int many), .val (.int goods), .val (.lst []), .val (.tup (ns.map .int)), .val (gD ⟨many, goods, 10, 2⟩ (sortU ns)), .val (.int first), .emp, .emp, .emp, .emp])
    (fun d s hq hs => by
      obtain ⟨k, rfl⟩ := hq
      by_cases hk : k = first
      · exact ⟨_, true, s, rfl, by simp [opEq, view, eqD_int, hk], rfl, Fr.refl hs⟩
      · obtain ⟨r, s', e, a, b, f⟩ := nx (m := 3) hs
        exact ⟨_, r == 0, s', rfl, by simp [opEq, view, eqD_int, hk, e], rfl, f⟩) (intsD 0 many.toNat) s2 (fun d m => let ⟨k, e, _⟩ := ints_mem m; ⟨k, e⟩) f2.1
  rw [ints_len] at l3
  obtain ⟨ps, s4, e4, l4, g4, f4⟩ := lc_all (Q := fun d => ∃ k : Int, d = .int k ∧ 0 ≤ k ∧ k < many) (P := PR many) (n := n) (g := gNm 10) (e := eTup (aCons (eVar 10) (aCons (eCall f_law_text (aCons (eVar 0) (aCons (eVar 5) aNil))) aNil)))
    (env := [.val (.ref n), .val (.int many), .val (.int goods), .val (.lst []), .val (.tup (ns.map .int)), .val (gD ⟨many, goods, 10, 2⟩ (sortU ns)), .val (.int first), .val (.lst ds), .emp, .emp, .emp])
    (fun d s hq hs => by
      obtain ⟨k, rfl, hk0, hk1⟩ := hq
      obtain ⟨rows, s', e, p1, p2, p3, f⟩ := text_ok ok s n hs
      exact ⟨_, .tup [.int k, .tup rows], s', rfl, by simp [e], ⟨k, rows, rfl, hk0, hk1, p2, fun r hr => (p3 r hr).wr⟩, f⟩) ds s3 (fun d m => by
      obtain ⟨k, e, h0, h1⟩ := ints_mem (g3 d m)
      exact ⟨k, e, h0, by omega⟩) f3.1
  obtain ⟨la, s5, e5, g5, f5⟩ := lines_ok ok n true s4 f4.1
  obtain ⟨lz, s6, e6, g6, f6⟩ := lines_ok ok n false s5 f5.1
  refine ⟨.tup [.tup ps, .tup (ns.map .int), .tup la, .tup lz], s6, ?_, ⟨ps, ns.map .int, la, lz, rfl, by omega, g4, fun m hm => ?_, g5, g6⟩, ((((f1.trans f2).trans f3).trans f4).trans f5).trans f6⟩
  · have c1 := s_lLc (iRng (eC (.int 10))) (gNm 9) (tVal (eOp2 opEq (eCall f_law_next (aCons (eVar 0) (aCons (eC (.int 6)) aNil))) (eC (.int 0)))) (eVar 9) [9] [.val (.ref n), .val (.int many), .val (.int goods), .val (.lst []), .emp, .emp, .emp, .emp, .emp, .emp, .emp] s s (intsD 0 10) (rng (k := 10) rfl (by omega) (by omega)) (by rw [ints_len]; decide)
    have w1 : wipeE [.val (.ref n), .val (.int many), .val (.int goods), .val (.lst []), .emp, .emp, .emp, .emp, .emp, .emp, .emp] [9] = [.val (.ref n), .val (.int many), .val (.int goods), .val (.lst []), .emp, .emp, .emp, .emp, .emp, .emp, .emp] := rfl
    rw [w1, e1] at c1
    have c2 := s_lLc (iRng (eVar 1)) (gNm 10) (tOr (tVal (eOp2 opEq (eBor 10) (eBor 6))) (tVal (eOp2 opEq (eCall f_law_next (aCons (eVar 0) (aCons (eC (.int 3)) aNil))) (eC (.int 0))))) (eVar 10) [10] [.val (.ref n), .val (.int many), .val (.int goods), .val (.lst []), .val (.tup (ns.map .int)), .val (gD ⟨many, goods, 10, 2⟩ (sortU ns)), .val (.int first), .emp, .emp, .emp, .emp] s2 s2 (intsD 0 many.toNat) (rng (k := many) rfl (by omega) (by omega)) (by rw [ints_len]; exact len_cap (by omega))
    have w2 : wipeE [.val (.ref n), .val (.int many), .val (.int goods), .val (.lst []), .val (.tup (ns.map .int)), .val (gD ⟨many, goods, 10, 2⟩ (sortU ns)), .val (.int first), .emp, .emp, .emp, .emp] [10] = [.val (.ref n), .val (.int many), .val (.int goods), .val (.lst []), .val (.tup (ns.map .int)), .val (gD ⟨many, goods, 10, 2⟩ (sortU ns)), .val (.int first), .emp, .emp, .emp, .emp] := rfl
    rw [w2, e3] at c2
    have c3 := s_lLc (iSeq (eVar 7)) (gNm 10) tYesM (eTup (aCons (eVar 10) (aCons (eCall f_law_text (aCons (eVar 0) (aCons (eVar 5) aNil))) aNil))) [10] [.val (.ref n), .val (.int many), .val (.int goods), .val (.lst []), .val (.tup (ns.map .int)), .val (gD ⟨many, goods, 10, 2⟩ (sortU ns)), .val (.int first), .val (.lst ds), .emp, .emp, .emp] s3 s3 ds rfl (len_cap (by omega))
    have w3 : wipeE [.val (.ref n), .val (.int many), .val (.int goods), .val (.lst []), .val (.tup (ns.map .int)), .val (gD ⟨many, goods, 10, 2⟩ (sortU ns)), .val (.int first), .val (.lst ds), .emp, .emp, .emp] [10] = [.val (.ref n), .val (.int many), .val (.int goods), .val (.lst []), .val (.tup (ns.map .int)), .val (gD ⟨many, goods, 10, 2⟩ (sortU ns)), .val (.int first), .val (.lst ds), .emp, .emp, .emp] := rfl
    rw [w3, e4] at c3
    have hn : ns.length < 64 := by omega
    have hcp : ns.length ≤ cap := len_cap (by omega)
    have c4 : lSrtS (eOp2 opAdd (eBor 4) (eOp1 opTuple (eBor 3))) [.val (.ref n), .val (.int many), .val (.int goods), .val (.lst []), .val (.tup (ns.map .int)), .emp, .emp, .emp, .emp, .emp, .emp] s1 = .ok ((sortU ns).map .int) s1 := by
      unfold lSrtS
      simp [opTuple, seqOf, opAdd, hcp, setAt, intsOf_map, hn]
    simp only [gD] at c2 c3 e5 e6
    simp [f_law_change, c1, c2, c3, c4, e2, e5, e6, opTuple, seqOf]
  · obtain ⟨k, _, rfl⟩ := List.mem_map.mp hm
    rfl
end K16

/-! The plain law of k16, part 6: the rules. Own text. -/
namespace K16
open MP
def lims (g : G) : List (D × D) := [(.str kName, .int 4), (.str kThing, .int 4), (.str kField, .int 3), (.str kMark, .int 10), (.str kDeed, .int g.many), (.str kRow, .int g.rw), (.str kNumber, .int 10007)]
def RulesOk (g : G) (s : Sto) (m : Nat) : Prop := ∃ l, s[m]? = some (.ins 16 [("words", d_OWN_WORDS), ("marks", .tup []), ("limits", .ref l)]) ∧ s[l]? = some (.dic (lims g))
theorem lkL (a b c : D) : List.lookup "limits" [("words", a), ("marks", b), ("limits", c)] = some c := rfl
theorem lkM (a b c : D) : List.lookup "marks" [("words", a), ("marks", b), ("limits", c)] = some b := rfl
theorem lkW (a b c : D) : List.lookup "words" [("words", a), ("marks", b), ("limits", c)] = some a := rfl
theorem lk1 (a b c : D) : List.lookup "is_row" [("words", a), ("marks", b), ("limits", c)] = none := rfl
theorem lk2 (a b c : D) : List.lookup "is_part" [("words", a), ("marks", b), ("limits", c)] = none := rfl
theorem lk3 (a b c : D) : List.lookup "is_number" [("words", a), ("marks", b), ("limits", c)] = none := rfl
theorem lk4 (a b c : D) : List.lookup "are_good" [("words", a), ("marks", b), ("limits", c)] = none := rfl
theorem merge1 : dMerge [] [(D.str [110, 97, 109, 101], D.int 4), (D.str [116, 104, 105, 110, 103], D.int 4), (D.str [102, 105, 101, 108, 100], D.int 3), (D.str [109, 97, 114, 107], D.int 10)] = [(D.str [110, 97, 109, 101], D.int 4), (D.str [116, 104, 105, 110, 103], D.int 4), (D.str [102, 105, 101, 108, 100], D.int 3), (D.str [109, 97, 114, 107], D.int 10)] := rfl
theorem merge2 (a b : Int) : dMerge [] [(D.str [100, 101, 101, 100], D.int a), (D.str [114, 111, 119], D.int b), (D.str [110, 117, 109, 98, 101, 114], D.int 10007)] = [(D.str [100, 101, 101, 100], D.int a), (D.str [114, 111, 119], D.int b), (D.str [110, 117, 109, 98, 101, 114], D.int 10007)] := rfl
theorem merge3 (g : G) : dMerge [(D.str [110, 97, 109, 101], D.int 4), (D.str [116, 104, 105, 110, 103], D.int 4), (D.str [102, 105, 101, 108, 100], D.int 3), (D.str [109, 97, 114, 107], D.int 10)] [(D.str [100, 101, 101, 100], D.int g.many), (D.str [114, 111, 119], D.int g.rw), (D.str [110, 117, 109, 98, 101, 114], D.int 10007)] = lims g := rfl
/-- the store only grows -/
def Gr (s s' : Sto) : Prop := s.length ≤ s'.length ∧ ∀ j, j < s.length → s'[j]? = s[j]?
theorem Gr.refl (s : Sto) : Gr s s := ⟨Nat.le_refl _, fun _ _ => rfl⟩
theorem Gr.trans {a b c : Sto} (x : Gr a b) (y : Gr b c) : Gr a c := ⟨Nat.le_trans x.1 y.1, fun j hj => (y.2 j (Nat.lt_of_lt_of_le hj x.1)).trans (x.2 j hj)⟩
theorem Gr.app (s t : Sto) : Gr s (s ++ t) := ⟨by simp, fun j hj => by rw [List.getElem?_append_left hj]⟩
theorem rules_made (g : G) (rows : Int) (hr : g.rw = rows + 1) (s : Sto) : ∃ s', f_Rules___init__ [.ref s.length, d_OWN_WORDS, .int g.many, .int 4, .tup [], .int rows] (s ++ [.ins 16 []]) = .ok .non s' ∧ RulesOk g s' s.length ∧ Gr s s' := by
  refine ⟨s ++ [.ins 16 [("words", d_OWN_WORDS), ("marks", .tup []), ("limits", .ref (s.length + 1))], .dic (lims g), .dic [(D.str [100, 101, 101, 100], D.int g.many), (D.str [114, 111, 119], D.int g.rw), (D.str [110, 117, 109, 98, 101, 114], D.int 10007)]], ?_, ⟨s.length + 1, by simp, ?_⟩, Gr.app _ _⟩
  · simp [f_Rules___init__, eDic, pCons, pNil, d_NAMES, d_FIELDS, d_MARKS, d_BEYOND, merge1, merge2, isKey, putF', eUpd, fieldOf, dicOf, refN, opAdd, lkL, merge3, ← hr]
  · simp [List.getElem?_append_right]
theorem F2.len {α β : Type} {R : α → β → Prop} : ∀ {as : List α} {bs : List β}, F2 R as bs → as.length = bs.length
  | _, _, .nil => rfl
  | _, _, .cons _ b => by simp [F2.len b]
def tupLen : D → Nat | .tup ds => ds.length | _ => 100
theorem tab_len {t : List (List Nat × D)} {b : Nat} (ht : (t.all fun p => decide (tupLen p.2 ≤ b)) = true) {w : List Nat} {kinds : List (List Nat)} (h : t.lookup w = some (.tup (kinds.map .str))) : kinds.length ≤ b := by
  have := of_decide_eq_true (List.all_eq_true.mp ht _ (look_mem h))
  simpa [tupLen] using this
theorem lim_cases {g : G} {kind : List Nat} {l : Int} (h : limOf g kind = some l) : (kind = kName ∧ l = 4) ∨ (kind = kThing ∧ l = g.goods) ∨ (kind = kField ∧ l = 3) ∨ (kind = kMark ∧ l = g.mark) ∨ (kind = kNumber ∧ l = 10007) ∨ (kind = kDeed ∧ l = g.many) ∨ (kind = kRow ∧ l = g.rw) := by
  unfold limOf at h
  repeat' split at h
  all_goals first | (cases h; done) | (cases h; simp_all)
theorem part_eq : eqD (.str kPart) (.str kPart) = some true := by decide
theorem kind_ne {g : G} {kind : List Nat} {l : Int} (h : limOf g kind = some l) : eqD (.str kind) (.str kPart) = some false := by
  rcases lim_cases h with ⟨rfl, _⟩ | ⟨rfl, _⟩ | ⟨rfl, _⟩ | ⟨rfl, _⟩ | ⟨rfl, _⟩ | ⟨rfl, _⟩ | ⟨rfl, _⟩ <;> decide
theorem GA.num_or {g : G} {k : Nat} {kind : List Nat} {d : D} (h : GA g k kind d) : (∃ l n, d = .int n ∧ limOf g kind = some l ∧ 0 ≤ n ∧ n < l) ∨ ∃ j w kinds ds, k = j + 1 ∧ d = .tup (.str w :: ds) ∧ F2 (GA g j) kinds ds ∧ kind = kPart ∧ t_PARTS.lookup w = some (.tup (kinds.map .str)) := by
  cases k with
  | zero => obtain ⟨l, n, a, b, c, e⟩ := h; exact .inl ⟨l, n, b, a, c, e⟩
  | succ k =>
    rcases h with ⟨l, n, a, b, c, e⟩ | ⟨a, w, kinds, ds, b, c, e⟩
    · exact .inl ⟨l, n, b, a, c, e⟩
    · exact .inr ⟨k, w, kinds, ds, rfl, b, e, a, c⟩
theorem isnum_ok {g : G} (hk : g.mark = 0) (ht : g.goods ≤ 4) {s : Sto} {m : Nat} (hr : RulesOk g s m) {kind : List Nat} {l n : Int} (h : limOf g kind = some l) (a : 0 ≤ n) (b : n < l) : f_Rules_is_number [.ref m, .str kind, .int n] s = .ok (.bl true) s := by
  obtain ⟨q, h1, h2⟩ := hr
  obtain ⟨l', e1, e2, e3⟩ : ∃ l', dLook (lims g) (.str kind) = some (.int l') ∧ n < l' ∧ eqD (.str kind) (.str kMark) = some false := by
    rcases lim_cases h with ⟨rfl, rfl⟩ | ⟨rfl, rfl⟩ | ⟨rfl, rfl⟩ | ⟨rfl, rfl⟩ | ⟨rfl, rfl⟩ | ⟨rfl, rfl⟩ | ⟨rfl, rfl⟩
    · exact ⟨_, rfl, b, rfl⟩
    · exact ⟨_, rfl, by omega, rfl⟩
    · exact ⟨_, rfl, b, rfl⟩
    · omega
    · exact ⟨_, rfl, b, rfl⟩
    · exact ⟨_, rfl, b, rfl⟩
    · exact ⟨_, rfl, b, rfl⟩
  simp [f_Rules_is_number, opLe, opLt, opCmp, fieldOf, h1, lkL, opDGet, isKey, dicOf, h2, e1, a, e2, opNe, view, e3]
/-- what stands in the loop of are_good -/
def gb (n : Nat) : MS := sSeq (sAsg (eIf (tVal (eOp2 opEq (eBor 4) (eC (.str [112, 97, 114, 116])))) (eMeth 16 "is_part" (f_Rules_is_part n) (eVar 0) (aCons (eVar 5) (aCons (eVar 3) aNil))) (eMeth 16 "is_number" f_Rules_is_number (eVar 0) (aCons (eVar 4) (aCons (eVar 5) aNil)))) (gNm 6)) (sIf (tNot (tVal (eVar 6))) (sRet (eC (.bl false))) sNext)
def Good (g : G) (m k fuel : Nat) : Prop := ∀ (kinds : List (List Nat)) (ds : List D) (s : Sto), RulesOk g s m → F2 (GA g k) kinds ds → ds.length ≤ 100 → f_Rules_are_good fuel [.ref m, .tup (kinds.map .str), .lst ds, .int k] s = .ok (.bl true) s
def GoodP (g : G) (m k fuel : Nat) : Prop := ∀ (w : List Nat) (kinds : List (List Nat)) (ds : List D) (s : Sto), RulesOk g s m → t_PARTS.lookup w = some (.tup (kinds.map .str)) → F2 (GA g k) kinds ds → f_Rules_is_part fuel [.ref m, .tup (.str w :: ds), .int (k + 1 : Nat)] s = .ok (.bl true) s
theorem gb_num {g : G} (hk : g.mark = 0) (ht : g.goods ≤ 4) {m n : Nat} {s : Sto} (hr : RulesOk g s m) {kind : List Nat} {l v : Int} (h : limOf g kind = some l) (a : 0 ≤ v) (b : v < l) (z1 z2 z3 z6 : Slot) :
    gb n [.val (.ref m), z1, z2, z3, .val (.str kind), .val (.int v), z6] s = .nx [.val (.ref m), z1, z2, z3, .val (.str kind), .val (.int v), .val (.bl true)] s := by
  have e := isnum_ok hk ht hr h a b
  obtain ⟨q, h1, h2⟩ := hr
  simp [gb, opEq, view, kind_ne h, isOf, h1, lk3, e]
theorem gb_part {g : G} {m n : Nat} {s : Sto} (hr : RulesOk g s m) {d : D} {k : Int} (e : f_Rules_is_part n [.ref m, d, .int k] s = .ok (.bl true) s) (z1 z2 z6 : Slot) :
    gb n [.val (.ref m), z1, z2, .val (.int k), .val (.str kPart), .val d, z6] s = .nx [.val (.ref m), z1, z2, .val (.int k), .val (.str kPart), .val d, .val (.bl true)] s := by
  obtain ⟨q, h1, h2⟩ := hr
  simp [gb, opEq, view, part_eq, isOf, h1, lk2, e]
theorem good_loop {g : G} (hk0 : g.mark = 0) (ht : g.goods ≤ 4) (m k n : Nat) (ih : ∀ j, k = j + 1 → GoodP g m j n) (z1 z2 : Slot) : ∀ (kinds : List (List Nat)) (ds : List D) (z4 z5 z6 : Slot) (s : Sto), RulesOk g s m → F2 (GA g k) kinds ds →
    ∃ y4 y5 y6, forP (gTp [gNm 4, gNm 5]) (gb n) (List.zipWith (fun d e => .tup [d, e]) (kinds.map .str) ds) [.val (.ref m), z1, z2, .val (.int k), z4, z5, z6] s = .nx [.val (.ref m), z1, z2, .val (.int k), y4, y5, y6] s
  | [], _, z4, z5, z6, s, _, .nil => ⟨z4, z5, z6, rfl⟩
  | kind :: kinds, _, z4, z5, z6, s, hr, .cons (b := d) (bs := ds) gg gs => by
    rcases gg.num_or with ⟨l, v, rfl, hk, a, b⟩ | ⟨j, w, ks, es, rfl, rfl, hs, rfl, hp⟩
    · obtain ⟨y4, y5, y6, e⟩ := good_loop hk0 ht m k n ih z1 z2 kinds ds (.val (.str kind)) (.val (.int v)) (.val (.bl true)) s hr gs
      refine ⟨y4, y5, y6, ?_⟩
      have t := gb_num (n := n) hk0 ht hr hk a b z1 z2 (.val (.int k)) z6
      rw [← e]
      simp [forP, t]
    · obtain ⟨y4, y5, y6, e⟩ := good_loop hk0 ht m (j + 1) n ih z1 z2 kinds ds (.val (.str kPart)) (.val (.tup (.str w :: es))) (.val (.bl true)) s hr gs
      refine ⟨y4, y5, y6, ?_⟩
      have t := gb_part (n := n) hr (ih j rfl w ks es s hr hp hs) z1 z2 z6
      rw [← e]
      simp only [List.map_cons, List.zipWith_cons_cons, forP, s_gTp, s_gAll1, s_gNm, Option.bind_some, s_gAll0, List.set_cons_succ, List.set_cons_zero, t]
theorem good_ok {g : G} (hk0 : g.mark = 0) (ht : g.goods ≤ 4) (m : Nat) : ∀ (k fuel : Nat), 2 * k + 1 ≤ fuel → Good g m k fuel
  | k, 0, h => absurd h (by omega)
  | k, fuel + 1, h => fun kinds ds s hr hs hl => by
    have ihp : ∀ j, k = j + 1 → GoodP g m j fuel := fun j hj => by
      subst hj
      cases fuel with
      | zero => omega
      | succ f =>
        intro w ks es s hr hp hes
        have hlen : es.length ≤ 2 := by rw [← hes.len]; exact tab_len (b := 2) (by decide +kernel) hp
        have gq := good_ok hk0 ht m j f (by omega) ks es s hr hes (by omega)
        obtain ⟨q, h1, h2⟩ := hr
        have hst := star1 3 4 (.str w) es [.val (.ref m), .val (.tup (.str w :: es)), .val (.int ((j : Int) + 1)), .emp, .emp] (by omega)
        simp [f_Rules_is_part, hst, opGt, opCmp, isOf, h1, lk4, kGet, hp, opSub, gq]
    obtain ⟨y4, y5, y6, e⟩ := good_loop hk0 ht m k fuel ihp (.val (.tup (kinds.map .str))) (.val (.lst ds)) kinds ds .emp .emp .emp s hr hs
    have f := s_sFor (iZipTL (eVar 1) (eVar 2)) (gTp [gNm 4, gNm 5]) (gb fuel) [.val (.ref m), .val (.tup (kinds.map .str)), .val (.lst ds), .val (.int k), .emp, .emp, .emp] s s _ (by simp [zipTL]; rfl)
    rw [e] at f
    have body : f_Rules_are_good (fuel + 1) = runB 4 7 (sSeq (sFor (iZipTL (eVar 1) (eVar 2)) (gTp [gNm 4, gNm 5]) (gb fuel)) (sRet (eC (.bl true)))) := rfl
    rw [body]
    simp [f]
theorem isrow_ok {g : G} (hk0 : g.mark = 0) (ht : g.goods ≤ 4) {s : Sto} {m : Nat} (hr : RulesOk g s m) {d : D} (h : GR g [] d) : f_Rules_is_row [.ref m, d] s = .ok (.bl true) s := by
  obtain ⟨w, kinds, ds, rfl, h1, h2, h3⟩ := h
  have hlen : ds.length ≤ 3 := by rw [← h3.len]; exact tab_len (b := 3) (by decide +kernel) h1
  have gq := good_ok hk0 ht m 3 12 (by omega) kinds ds s hr h3 (by omega)
  have hin := h2 rfl s
  obtain ⟨q, a1, a2⟩ := hr
  have hst := star1 2 3 (.str w) ds [.val (.ref m), .val (.tup (.str w :: ds)), .emp, .emp] (by omega)
  have g' : f_Rules_are_good 12 [.ref m, .tup (kinds.map .str), .lst ds, .int 3] s = .ok (.bl true) s := gq
  simp [f_Rules_is_row, hst, fieldOf, a1, lkW, opIn, hin, isOf, lk4, kGet, h1, d_MOST_DEEP, g']
/-- the row that is not good -/
def badRow : D := .tup [.str [115, 101, 116], .int 4, .tup [.str [110, 117, 109], .int 0]]
theorem bad_good {g : G} {s : Sto} {m : Nat} (hr : RulesOk g s m) : f_Rules_are_good 12 [.ref m, .tup [.str kName, .str kPart], .lst [.int 4, .tup [.str [110, 117, 109], .int 0]], .int 3] s = .ok (.bl false) s := by
  obtain ⟨l, h1, h2⟩ := hr
  have body : f_Rules_are_good 12 = runB 4 7 (sSeq (sFor (iZipTL (eVar 1) (eVar 2)) (gTp [gNm 4, gNm 5]) (gb 11)) (sRet (eC (.bl true)))) := rfl
  have num : f_Rules_is_number [.ref m, .str kName, .int 4] s = .ok (.bl false) s := by
    have e1 : dLook (lims g) (.str kName) = some (.int 4) := rfl
    simp [f_Rules_is_number, opLe, opLt, opCmp, fieldOf, h1, lkL, opDGet, isKey, dicOf, h2, e1]
  have f := s_sFor (iZipTL (eVar 1) (eVar 2)) (gTp [gNm 4, gNm 5]) (gb 11) [.val (.ref m), .val (.tup [.str kName, .str kPart]), .val (.lst [.int 4, .tup [.str [110, 117, 109], .int 0]]), .val (.int 3), .emp, .emp, .emp] s s _ (by simp [zipTL]; rfl)
  have e2 : eqD (.str kName) (.str kPart) = some false := rfl
  simp only [List.zipWith_cons_cons, forP, s_gTp, s_gAll1, s_gNm, Option.bind_some, s_gAll0, List.set_cons_succ, List.set_cons_zero] at f
  rw [body]
  have st : gb 11 [.val (.ref m), .val (.tup [.str kName, .str kPart]), .val (.lst [.int 4, .tup [.str [110, 117, 109], .int 0]]), .val (.int 3), .val (.str kName), .val (.int 4), .emp] s = .rt (.bl false) s := by
    simp [gb, opEq, view, e2, isOf, h1, lk3, num]
  rw [st] at f
  simp [f]
theorem isrow_bad {g : G} {s : Sto} {m : Nat} (hr : RulesOk g s m) : f_Rules_is_row [.ref m, badRow] s = .ok (.bl false) s := by
  have gq := bad_good hr
  obtain ⟨q, a1, a2⟩ := hr
  have hst := star1 2 3 (.str [115, 101, 116]) [.int 4, .tup [.str [110, 117, 109], .int 0]] [.val (.ref m), .val badRow, .emp, .emp] (by decide)
  have hl : t_ROWS.lookup [115, 101, 116] = some (.tup [.str kName, .str kPart]) := rfl
  have hin : inD s (.str [115, 101, 116]) d_OWN_WORDS = some true := rfl
  have hst' : gSt [gNm 2] [] 3 badRow [.val (.ref m), .val badRow, .emp, .emp] = some [.val (.ref m), .val badRow, .val (.str [115, 101, 116]), .val (.lst [.int 4, .tup [.str [110, 117, 109], .int 0]])] := hst
  simp [f_Rules_is_row, hst', fieldOf, a1, lkW, opIn, hin, isOf, lk4, kGet, hl, d_MOST_DEEP, gq]
end K16

/-! The plain law of k16, part 7: texts that stand, the text that doesn't. Own text. -/
namespace K16
open MP
/-- the walked pairs from i on -/
def en (i : Nat) (rows : List D) : List D := rows.mapIdx fun j d => .tup [.int ((i + j : Nat) : Int), d]
theorem en_cons (i : Nat) (d : D) (rows : List D) : en i (d :: rows) = .tup [.int (i : Nat), d] :: en (i + 1) rows := by
  unfold en
  rw [List.mapIdx_cons]
  congr 1
  refine congrFun (congrArg List.mapIdx (funext fun j => funext fun x => ?_)) rows
  have : i + (j + 1) = i + 1 + j := by omega
  rw [this]
theorem en0 (rows : List D) : (rows.mapIdx fun i d => D.tup [.int (i : Int), d]) = en 0 rows := by
  unfold en
  refine congrFun (congrArg List.mapIdx (funext fun j => funext fun x => ?_)) rows
  rw [Nat.zero_add]
def fb : MS := sIf (tOr (tVal (eOp2 opGe (eBor 3) (eBor 2))) (tNot (tVal (eMeth 16 "is_row" f_Rules_is_row (eVar 1) (aCons (eVar 4) aNil))))) (sRet (eVar 3)) sNext
theorem first_eq : f_first_bad = runB 3 5 (sSeq (sFor (iEnumT (eVar 0)) (gTp [(gNm 3), (gNm 4)]) fb) (sRet (eC .non))) := rfl
theorem fb_step {m : Nat} {g : G} {s : Sto} (hr : RulesOk g s m) {d : D} {b : Bool} (e : f_Rules_is_row [.ref m, d] s = .ok (.bl b) s) (a0 : Slot) {i : Int} (hi : i < 12) : fb [a0, .val (.ref m), .val (.int 12), .val (.int i), .val d] s = if b then .nx [a0, .val (.ref m), .val (.int 12), .val (.int i), .val d] s else .rt (.int i) s := by
  obtain ⟨l, h1, h2⟩ := hr
  have n : ¬ (12 ≤ i) := by omega
  cases b <;> simp [fb, opGe, opCmp, n, isOf, h1, lk1, e]
theorem fb_loop {m : Nat} {g : G} (hk : g.mark = 0) (ht : g.goods ≤ 4) {s : Sto} (hr : RulesOk g s m) (a0 : Slot) (tail : List D) : ∀ (rows : List D) (i : Nat) (z3 z4 : Slot), (∀ d ∈ rows, GR g [] d) → i + rows.length ≤ 12 →
    ∃ y3 y4, forP (gTp [(gNm 3), (gNm 4)]) fb (en i (rows ++ tail)) [a0, .val (.ref m), .val (.int 12), z3, z4] s = forP (gTp [(gNm 3), (gNm 4)]) fb (en (i + rows.length) tail) [a0, .val (.ref m), .val (.int 12), y3, y4] s
  | [], i, z3, z4, _, _ => ⟨z3, z4, rfl⟩
  | d :: rows, i, z3, z4, hg, hl => by
    simp only [List.length_cons] at hl
    obtain ⟨y3, y4, e⟩ := fb_loop hk ht hr a0 tail rows (i + 1) (.val (.int (i : Nat))) (.val d) (fun x m => hg x (List.mem_cons_of_mem _ m)) (by omega)
    refine ⟨y3, y4, ?_⟩
    have st := fb_step hr (isrow_ok hk ht hr (hg d List.mem_cons_self)) a0 (i := (i : Int)) (by omega)
    simp only [if_true] at st
    have hn : i + (d :: rows).length = i + 1 + rows.length := by simp only [List.length_cons]; omega
    rw [hn, ← e, List.cons_append, en_cons]
    simp only [forP, s_gTp, s_gAll1, s_gNm, Option.bind_some, s_gAll0, List.set_cons_succ, List.set_cons_zero, st]
theorem first_ok {m : Nat} {g : G} (hk : g.mark = 0) (ht : g.goods ≤ 4) {s : Sto} (hr : RulesOk g s m) {rows : List D} (hg : ∀ d ∈ rows, GR g [] d) (hl : rows.length ≤ 12) : f_first_bad [.tup rows, .ref m, .int 12] s = .ok .non s := by
  obtain ⟨y3, y4, e⟩ := fb_loop hk ht hr (.val (.tup rows)) [] rows 0 .emp .emp hg (by omega)
  rw [List.append_nil] at e
  have f := s_sFor (iEnumT (eVar 0)) (gTp [(gNm 3), (gNm 4)]) fb [.val (.tup rows), .val (.ref m), .val (.int 12), .emp, .emp] s s (en 0 rows) (by simp [iEnumT, en0])
  rw [e] at f
  have e0 : en (0 + rows.length) [] = [] := rfl
  rw [e0] at f
  rw [first_eq]
  simp [f, forP]
theorem first_bad {m : Nat} {g : G} (hk : g.mark = 0) (ht : g.goods ≤ 4) {s : Sto} (hr : RulesOk g s m) {rows : List D} (hg : ∀ d ∈ rows, GR g [] d) (hl : rows.length < 12) : f_first_bad [.tup (rows ++ [badRow]), .ref m, .int 12] s = .ok (.int (rows.length : Nat)) s := by
  obtain ⟨y3, y4, e⟩ := fb_loop hk ht hr (.val (.tup (rows ++ [badRow]))) [badRow] rows 0 .emp .emp hg (by omega)
  have f := s_sFor (iEnumT (eVar 0)) (gTp [(gNm 3), (gNm 4)]) fb [.val (.tup (rows ++ [badRow])), .val (.ref m), .val (.int 12), .emp, .emp] s s (en 0 (rows ++ [badRow])) (by simp [iEnumT, en0])
  have st := fb_step hr (isrow_bad hr) (.val (.tup (rows ++ [badRow]))) (i := ((0 + rows.length : Nat) : Int)) (by omega)
  simp only [Bool.false_eq_true, if_false] at st
  rw [e, en_cons] at f
  simp only [forP, s_gTp, s_gAll1, s_gNm, Option.bind_some, s_gAll0, List.set_cons_succ, List.set_cons_zero, st] at f
  rw [first_eq]
  simp [f]
/-- the rules made, then asked -/
theorem fault_run (g : G) {rows : List D} (h0 : 1 ≤ rows.length) (hl : rows.length ≤ 12) (hr : g.rw = (rows.length : Int) + 1) (s : Sto) {r : D} (h : ∀ s' m, RulesOk g s' m → f_first_bad [.tup rows, .ref m, .int 12] s' = .ok r s') : ∃ s', fk_fault_deeds_things [.tup rows, d_OWN_WORDS] [.int g.many, .int 4] s = .ok r s' ∧ Gr s s' := by
  obtain ⟨s', e, ok, gr⟩ := rules_made g rows.length hr s
  refine ⟨s', ?_, gr⟩
  have n0 : ¬ ((rows.length : Int) = 0) := by omega
  have n1 : rows ≠ [] := by intro z; subst z; simp at h0
  have mn : (if (12 : Int) < (rows.length : Int) then (12 : Int) else (rows.length : Int)) = (rows.length : Int) := if_neg (by omega)
  have hf := h s' s.length ok
  simp [fk_fault_deeds_things, arr_fault_deeds_things, f_fault, opLen, seqOf, opEq, view, eqD_int, n0, n1, eNewK, opMin, d_MOST_ROWS, mn, fk_Rules___init___deeds_things_marks_rows, arr_Rules___init___deeds_things_marks_rows, madeR, e, fk_first_bad_0, hf]
/-- the body of the walk over texts -/
def nb : MS := sSeq (sAsg (eCallK fk_fault_deeds_things 2 2 (aCons (eVar 3) (aCons (eC d_OWN_WORDS) aNil)) (aCons (eOp1 opLen (eBor 0)) (aCons (eVar 1) aNil))) (gNm 4)) (sIf (tVal (eOp1 opNotN (eVar 4))) (sRs 1 ["deed", "row"] (aCons (eVar 2) (aCons (eVar 4) aNil))) sNext)
theorem need_eq : f_need_texts = runB 2 5 (sSeq (sIf (tVal (eOp2 opGt (eOp1 opLen (eBor 0)) (eC d_MOST_DEEDS))) (sRs 1 ["deed", "row"] (aCons (eC d_MOST_DEEDS) (aCons (eOp1 opNeg (eC (.int 1))) aNil))) sNext) (sSeq (sIf (tVal (eOp2 opEq (eOp1 opLen (eBor 0)) (eC (.int 0)))) (sRs 1 ["deed", "row"] (aCons (eC (.int 0)) (aCons (eOp1 opNeg (eC (.int 1))) aNil))) sNext) (sFor (iEnum (eVar 0)) (gTp [(gNm 2), (gNm 3)]) nb))) := rfl
theorem nb_loop {ts : List D} {many goods : Int} (hm : (ts.length : Int) = many) (ht : goods ≤ 4) (tail : List D) : ∀ (pre : List D) (i : Nat) (z2 z3 z4 : Slot) (s : Sto), (∀ t ∈ pre, TX many goods t) →
    ∃ y2 y3 y4 s', forP (gTp [(gNm 2), (gNm 3)]) nb (en i (pre ++ tail)) [.val (.lst ts), .val (.int 4), z2, z3, z4] s = forP (gTp [(gNm 2), (gNm 3)]) nb (en (i + pre.length) tail) [.val (.lst ts), .val (.int 4), y2, y3, y4] s' ∧ Gr s s'
  | [], i, z2, z3, z4, s, _ => ⟨z2, z3, z4, s, rfl, Gr.refl s⟩
  | t :: pre, i, z2, z3, z4, s, hg => by
    obtain ⟨rows, rfl, h1, h2, h3⟩ := hg t List.mem_cons_self
    obtain ⟨s1, e1, f1⟩ := fault_run ⟨many, goods, 0, (rows.length : Int) + 1⟩ h1 h2 rfl s (r := .non) fun s' m ok => first_ok rfl ht ok h3 h2
    obtain ⟨y2, y3, y4, s2, e2, f2⟩ := nb_loop hm ht tail pre (i + 1) (.val (.int (i : Nat))) (.val (.tup rows)) (.val .non) s1 (fun x m => hg x (List.mem_cons_of_mem _ m))
    refine ⟨y2, y3, y4, s2, ?_, f1.trans f2⟩
    have hn : i + (D.tup rows :: pre).length = i + 1 + pre.length := by simp only [List.length_cons]; omega
    rw [hn, ← e2, List.cons_append, en_cons]
    have st : nb [.val (.lst ts), .val (.int 4), .val (.int (i : Nat)), .val (.tup rows), z4] s = .nx [.val (.lst ts), .val (.int 4), .val (.int (i : Nat)), .val (.tup rows), .val .non] s1 := by
      simp [nb, eCallK, opLen, seqOf, hm, e1, opNotN, isNon]
    simp only [forP, s_gTp, s_gAll1, s_gNm, Option.bind_some, s_gAll0, List.set_cons_succ, List.set_cons_zero, st]
theorem need_ok {ts : List D} {many goods : Int} (hm : (ts.length : Int) = many) (m0 : 1 ≤ many) (m1 : many ≤ 8) (ht : goods ≤ 4) (h : ∀ t ∈ ts, TX many goods t) (s : Sto) : ∃ s', fk_need_texts_0 [.lst ts] s = .ok .non s' ∧ Gr s s' := by
  obtain ⟨y2, y3, y4, s', e, f⟩ := nb_loop hm ht [] ts 0 .emp .emp .emp s h
  rw [List.append_nil] at e
  refine ⟨s', ?_, f⟩
  have w := s_sFor (iEnum (eVar 0)) (gTp [(gNm 2), (gNm 3)]) nb [.val (.lst ts), .val (.int 4), .emp, .emp, .emp] s s (en 0 ts) (by simp [en0])
  have e0 : en (0 + ts.length) [] = [] := rfl
  rw [e, e0] at w
  have n0 : ¬ (8 < many) := by omega
  have n1 : ¬ (many = 0) := by omega
  simp only [fk_need_texts_0, need_eq]
  simp [opGt, opCmp, opLen, seqOf, hm, d_MOST_DEEDS, n0, n1, opEq, view, eqD_int, w, forP]
theorem need_bad {pre rows : List D} {many goods : Int} (hm : ((pre.length + 1 : Nat) : Int) = many) (m1 : many ≤ 8) (ht : goods ≤ 4) (h : ∀ t ∈ pre, TX many goods t) (hl : rows.length < 12) (hg : ∀ d ∈ rows, GR ⟨many, goods, 0, (rows.length : Int) + 2⟩ [] d) (s : Sto) :
    ∃ s', fk_need_texts_0 [.lst (pre ++ [.tup (rows ++ [badRow])])] s = .exc ⟨1, [("row", .int (rows.length : Nat)), ("deed", .int (pre.length : Nat))]⟩ s' ∧ Gr s s' := by
  have hm' : ((pre ++ [D.tup (rows ++ [badRow])]).length : Int) = many := by simp only [List.length_append, List.length_singleton]; omega
  obtain ⟨y2, y3, y4, s1, e, f⟩ := nb_loop hm' ht [.tup (rows ++ [badRow])] pre 0 .emp .emp .emp s h
  obtain ⟨s2, e2, f2⟩ := fault_run ⟨many, goods, 0, (rows.length : Int) + 2⟩ (rows := rows ++ [badRow]) (by simp) (by simp; omega) (by simp only [List.length_append, List.length_singleton]; omega) s1 (r := .int (rows.length : Nat)) fun s' m ok => first_bad rfl ht ok hg hl
  refine ⟨s2, ?_, f.trans f2⟩
  have w := s_sFor (iEnum (eVar 0)) (gTp [(gNm 2), (gNm 3)]) nb [.val (.lst (pre ++ [.tup (rows ++ [badRow])])), .val (.int 4), .emp, .emp, .emp] s s (en 0 (pre ++ [.tup (rows ++ [badRow])])) (by simp [en0])
  have st : nb [.val (.lst (pre ++ [.tup (rows ++ [badRow])])), .val (.int 4), .val (.int ((0 + pre.length : Nat) : Int)), .val (.tup (rows ++ [badRow])), y4] s1 = .ex ⟨1, [("row", .int (rows.length : Nat)), ("deed", .int (pre.length : Nat))]⟩ [.val (.lst (pre ++ [.tup (rows ++ [badRow])])), .val (.int 4), .val (.int ((0 + pre.length : Nat) : Int)), .val (.tup (rows ++ [badRow])), .val (.int (rows.length : Nat))] s2 := by
    have hl2 : ((pre.length : Int) + 1) = many := by omega
    simp [nb, eCallK, opLen, seqOf, hl2, e2, opNotN, isNon]
  rw [e, en_cons] at w
  simp only [forP, s_gTp, s_gAll1, s_gNm, Option.bind_some, s_gAll0, List.set_cons_succ, List.set_cons_zero, st] at w
  have n0 : ¬ (8 < (pre.length : Int) + 1) := by omega
  have n1 : ¬ ((pre.length : Int) + 1 = 0) := by omega
  simp only [fk_need_texts_0, need_eq]
  simp [opGt, opCmp, opLen, seqOf, d_MOST_DEEDS, n0, n1, opEq, view, eqD_int, w]
theorem need_none (s : Sto) : fk_need_texts_0 [.lst []] s = .exc ⟨1, [("row", .int (-1)), ("deed", .int 0)]⟩ s := by
  simp [fk_need_texts_0, f_need_texts, opGt, opCmp, opLen, seqOf, d_MOST_DEEDS, opEq, view, eqD_int, opNeg]
end K16

/-! The plain law of k16, part 8: which deeds lead where. Own text. -/
namespace K16
open MP
/-- the deed that a row calls -/
def callD : D → Option Int
  | .tup (.str w :: ds) => if w = kCall then (match ds with | [_, .int k, _] => some k | _ => none) else none
  | _ => none
def callsOf (rows : List D) : List Int := rows.filterMap callD
theorem calls_len (rows : List D) : (callsOf rows).length ≤ rows.length := List.length_filterMap_le _ _
theorem eq_call {w : List Nat} {n : Nat} (h : D.fit n (.str w) = true) : eqD (.str w) (.str kCall) = some (decide (w = kCall)) := by
  have f1 : D.fit 60 (.str w) = true := by
    cases n <;> exact h
  have f2 : D.fit 60 (.str kCall) = true := by decide
  simp [eqD, f1, f2, D.eqv]
theorem wr_call {many : Int} {d : D} (h : WR many d) : ∃ w ds, d = .tup (.str w :: ds) ∧ eqD (.str w) (.str kCall) = some (decide (w = kCall)) ∧ (w = kCall → ∃ a k b, ds = [a, .int k, b] ∧ 0 ≤ k ∧ k < many ∧ callD d = some k) ∧ (w ≠ kCall → callD d = none) := by
  obtain ⟨w, ds, rfl, f, hk⟩ := h
  simp only [D.fit, D.fits, Bool.and_eq_true] at f
  refine ⟨w, ds, rfl, eq_call (n := 0) f.1, fun e => ?_, fun e => by simp [callD, e]⟩
  obtain ⟨a, k, b, rfl, h0, h1⟩ := hk e
  exact ⟨a, k, b, rfl, h0, h1, by simp [callD, e]⟩
theorem calls_in {many : Int} {rows : List D} (h : ∀ r ∈ rows, WR many r) : ∀ k ∈ callsOf rows, 0 ≤ k ∧ k < many := fun k hk => by
  obtain ⟨r, hr, e⟩ := List.mem_filterMap.mp hk
  obtain ⟨w, ds, rfl, _, h1, h2⟩ := wr_call (h r hr)
  by_cases c : w = kCall
  · obtain ⟨a, k', b, _, x, y, z⟩ := h1 c
    rw [z] at e
    cases e
    exact ⟨x, y⟩
  · rw [h2 c] at e
    cases e
theorem ix0 (w : D) (ds : List D) : ixD (w :: ds) 0 = some w := by simp [ixD, place]
theorem ix2 (w a k b : D) : ixD [w, a, k, b] 2 = some k := rfl
theorem calls_loop {many : Int} (env : Env) (j : Nat) (hj : j < env.length) : ∀ (rows : List D) (s : Sto), (∀ r ∈ rows, WR many r) → lcP (gNm j) (tVal (eOp2 opEq (eOp2 opIx (eBor j) (eC (.int 0))) (eC (.str [99, 97, 108, 108])))) (eOp2 opIx (eBor j) (eC (.int 2))) env rows s = .ok ((callsOf rows).map .int) s
  | [], s, _ => rfl
  | r :: rows, s, h => by
    have ih := calls_loop env j hj rows s fun x m => h x (List.mem_cons_of_mem _ m)
    obtain ⟨w, ds, rfl, e, h1, h2⟩ := wr_call (h r List.mem_cons_self)
    by_cases c : w = kCall
    · obtain ⟨a, k, b, rfl, _, _, z⟩ := h1 c
      have hc : callsOf (.tup (.str w :: [a, .int k, b]) :: rows) = k :: callsOf rows := by simp [callsOf, z]
      rw [hc]
      have e' : eqD (.str w) (.str kCall) = some true := by rw [e, c]; rfl
      simp [lcP, hj, opIx, seqOf, ix0, ix2, opEq, view, e', ih]
    · have hc : callsOf (.tup (.str w :: ds) :: rows) = callsOf rows := by simp [callsOf, h2 c]
      rw [hc]
      have e' : eqD (.str w) (.str kCall) = some false := by rw [e]; simp [c]
      simp [lcP, hj, opIx, seqOf, ix0, opEq, view, e', ih]
/-- a deed and what it calls -/
abbrev Q := Nat × List Int
def pq : D → Q
  | .tup [.int k, .tup rows] => (k.toNat, callsOf rows)
  | _ => (0, [])
def addE (F : Nat → List Int) (q : Q) : Nat → List Int := fun j => if j = q.1 then F j ++ q.2 else F j
theorem addE_mem {v : Int} {j : Nat} : ∀ {ps : List Q} {F : Nat → List Int}, v ∈ (ps.foldl addE F) j ↔ v ∈ F j ∨ ∃ q ∈ ps, q.1 = j ∧ v ∈ q.2
  | [], F => by simp
  | q :: ps, F => by
    rw [List.foldl_cons, addE_mem]
    unfold addE
    by_cases c : j = q.1
    · subst c
      simp [or_assoc]
    · simp [c, Ne.symm c]
theorem addE_len {j : Nat} : ∀ {ps : List Q} {F : Nat → List Int}, (∀ q ∈ ps, q.2.length ≤ 12) → ((ps.foldl addE F) j).length ≤ (F j).length + 12 * ps.length
  | [], F, _ => by simp
  | q :: ps, F, h => by
    rw [List.foldl_cons]
    have ih := addE_len (j := j) (ps := ps) (F := addE F q) fun x m => h x (List.mem_cons_of_mem _ m)
    have h1 := h q List.mem_cons_self
    have h2 : ((addE F q) j).length ≤ (F j).length + 12 := by
      unfold addE
      split <;> simp <;> omega
    simp only [List.length_cons]
    omega
/-- the lists of a store -/
def Fnd (s : Sto) (n0 m : Nat) (F : Nat → List Int) : Prop := ∀ j, j < m → s[n0 + j]? = some (.lst ((F j).map .int))
def refs (n0 m : Nat) : List D := (List.range m).map fun k => .ref (n0 + k)
theorem plc_loop (env : Env) (hj : 5 < env.length) : ∀ (l : List D) (s : Sto), lcP (gNm 5) tYesM (ePlc (lLst aNil)) env l s = .ok (refs s.length l.length) (s ++ List.replicate l.length (.lst []))
  | [], s => by simp [lcP, refs]
  | d :: l, s => by
    have ih := plc_loop env hj l (s ++ [.lst []])
    simp only [lcP, s_gNm, Res.ofO_some, Res.bind_ok, s_tYesM, calm_ok, if_true, s_ePlc, s_lLst, s_aNil, List.length_nil, Nat.zero_le]
    rw [ih]
    simp only [Res.bind_ok, List.length_append, List.length_singleton, List.length_cons]
    congr 1
    · simp only [refs, List.range_succ_eq_map, List.map_cons, Nat.add_zero, List.map_map]
      congr 1
      refine List.map_congr_left fun k _ => ?_; show D.ref (s.length + 1 + k) = D.ref (s.length + (k + 1))
      congr 1
      omega
    · rw [List.append_assoc]
      rfl
theorem pin_refs {n0 m k : Nat} (h : k < m) : ixD (refs n0 m) (k : Int) = some (.ref (n0 + k)) := by
  have hl : (refs n0 m).length = m := by simp [refs]
  have h1 : (k : Int) < (m : Int) := by omega
  have h0 : (0 : Int) ≤ (k : Int) := by omega
  simp [ixD, place, hl, h, refs]
def PR' (many : Int) (d : D) : Prop := ∃ k rows, d = .tup [.int k, .tup rows] ∧ 0 ≤ k ∧ k < many ∧ rows.length ≤ 12 ∧ ∀ r ∈ rows, WR many r
def xb : MS := sDrop (eExtL (eOp2 opIx (eBor 2) (eBor 4)) (eFrz (lLc (iSeq (eVar 5)) (gNm 8) (tVal (eOp2 opEq (eOp2 opIx (eBor 8) (eC (.int 0))) (eC (.str [99, 97, 108, 108])))) (eOp2 opIx (eBor 8) (eC (.int 2))) [8])))
theorem leads_eq : f_leads = runB 2 9 (sSeq (sAsg (eFrz (lLc (iSeq (eVar 0)) (gNm 5) tYesM (ePlc (lLst aNil)) [5])) (gNm 2)) (sSeq (sAsg (eFrz (lAdd (eFrz (lEnum (eVar 0))) (eFrz (lLc2 (iSeq (eVar 1)) (gNm 6) tYesM (iSeq (eOp2 opIx (eBor 6) (eC (.int 0)))) (gNm 7) tYesM (eVar 7) [6, 7] [7])))) (gNm 3)) (sSeq (sFor (iSeq (eVar 3)) (gTp [(gNm 4), (gNm 5)]) xb) (sRet (eVar 2))))) := rfl
theorem ext_step {n0 m : Nat} {F : Nat → List Int} {a0 a1 a3 : Slot} {k : Int} {rows : List D} (h0 : 0 ≤ k) (h1 : k < (m : Int)) (hr : ∀ r ∈ rows, WR (m : Int) r) (hl : rows.length ≤ 12) (s : Sto) (hF : Fnd s n0 m F) (hb : ∀ j, (F j).length ≤ 10000) :
    ∃ s', xb [a0, a1, .val (.lst (refs n0 m)), a3, .val (.int k), .val (.tup rows), .emp, .emp, .emp] s = .nx [a0, a1, .val (.lst (refs n0 m)), a3, .val (.int k), .val (.tup rows), .emp, .emp, .emp] s' ∧ Fnd s' n0 m (addE F (k.toNat, callsOf rows)) ∧ s'.length = s.length ∧ ∀ j, j < n0 → s'[j]? = s[j]? := by
  have hk : k.toNat < m := by omega
  have e1 := pin_refs (n0 := n0) hk
  have ek : ((k.toNat : Nat) : Int) = k := by omega
  rw [ek] at e1
  have e2 := hF k.toNat hk
  have lc := s_lLc (iSeq (eVar 5)) (gNm 8) (tVal (eOp2 opEq (eOp2 opIx (eBor 8) (eC (.int 0))) (eC (.str [99, 97, 108, 108])))) (eOp2 opIx (eBor 8) (eC (.int 2))) [8] [a0, a1, .val (.lst (refs n0 m)), a3, .val (.int k), .val (.tup rows), .emp, .emp, .emp] s s rows rfl (len_cap (by omega))
  have hw : wipeE [a0, a1, .val (.lst (refs n0 m)), a3, .val (.int k), .val (.tup rows), .emp, .emp, .emp] [8] = [a0, a1, .val (.lst (refs n0 m)), a3, .val (.int k), .val (.tup rows), .emp, .emp, .emp] := rfl
  rw [hw, calls_loop _ 8 (by simp) rows s hr] at lc
  have hc : (F k.toNat).length + (callsOf rows).length < cap := by
    have := calls_len rows
    have := hb k.toNat
    unfold cap; omega
  refine ⟨s.set (n0 + k.toNat) (.lst ((F k.toNat ++ callsOf rows).map .int)), ?_, fun j hj => ?_, by simp, fun j hj => ?_⟩
  · simp [xb, eExtL, plAt, opIx, seqOf, e1, plOf, e2, lc, extAt, view, hc, putL]
  · have hn := (List.getElem?_eq_some_iff.mp e2).1
    unfold addE
    by_cases c : j = k.toNat
    · subst c
      rw [List.getElem?_set_self hn]
      simp
    · rw [List.getElem?_set_ne (by omega)]
      simp only [c, if_false]
      exact hF j hj
  · rw [List.getElem?_set_ne (by omega)]
theorem ext_loop {n0 m : Nat} {a0 a1 a3 : Slot} : ∀ (prs : List D) (F : Nat → List Int) (z4 z5 : Slot) (s : Sto), (∀ d ∈ prs, PR' (m : Int) d) → Fnd s n0 m F → (∀ j, (F j).length + 12 * prs.length ≤ 10000) →
    ∃ y4 y5 s', forP (gTp [(gNm 4), (gNm 5)]) xb prs [a0, a1, .val (.lst (refs n0 m)), a3, z4, z5, .emp, .emp, .emp] s = .nx [a0, a1, .val (.lst (refs n0 m)), a3, y4, y5, .emp, .emp, .emp] s' ∧ Fnd s' n0 m ((prs.map pq).foldl addE F) ∧ s'.length = s.length ∧ ∀ j, j < n0 → s'[j]? = s[j]?
  | [], F, z4, z5, s, _, hF, _ => ⟨z4, z5, s, rfl, hF, rfl, fun _ _ => rfl⟩
  | d :: prs, F, z4, z5, s, hp, hF, hb => by
    obtain ⟨k, rows, rfl, h0, h1, hl, hr⟩ := hp d List.mem_cons_self
    obtain ⟨s1, e1, F1, l1, g1⟩ := ext_step (a0 := a0) (a1 := a1) (a3 := a3) h0 h1 hr hl s hF fun j => by have := hb j; omega
    obtain ⟨y4, y5, s2, e2, F2, l2, g2⟩ := ext_loop (a0 := a0) (a1 := a1) (a3 := a3) prs (addE F (k.toNat, callsOf rows)) (.val (.int k)) (.val (.tup rows)) s1 (fun x m => hp x (List.mem_cons_of_mem _ m)) F1 fun j => by
      have h := hb j
      have h2 := calls_len rows
      simp only [List.length_cons] at h
      unfold addE
      split <;> simp <;> omega
    refine ⟨y4, y5, s2, ?_, F2, l2.trans l1, fun j hj => (g2 j hj).trans (g1 j hj)⟩
    rw [← e2]
    simp only [forP, s_gTp, s_gAll1, s_gNm, Option.bind_some, s_gAll0, List.set_cons_succ, List.set_cons_zero, e1]
/-- the pairs of a change -/
def prsOf : D → List D
  | .tup (.tup ps :: _) => ps
  | _ => []
theorem lc2_loop {many : Int} (env : Env) (hj : 7 < env.length) (x : List D) : ∀ (l : List D) (i : Nat) (s : Sto), (∀ d ∈ l, CH many d) → lcL2 ⟨x, none⟩ (gNm 6) tYesM (iSeq (eOp2 opIx (eBor 6) (eC (.int 0)))) (gNm 7) tYesM (eVar 7) [7] env i l s = .ok (l.flatMap prsOf) s
  | [], i, s, _ => by simp [lcL2, fin]
  | d :: l, i, s, h => by
    obtain ⟨ps, mk, l1, l2, rfl, hp, _⟩ := h d List.mem_cons_self
    have ih := lc2_loop env hj x l (i + 1) s fun y m => h y (List.mem_cons_of_mem _ m)
    have h6 : 6 < env.length := by omega
    have inner : ∀ (ps : List D) (s : Sto), lcP (gNm 7) tYesM (eVar 7) ((env.set 6 (.val (.tup [.tup ps, .tup mk, .tup l1, .tup l2]))).set 7 .emp) ps s = .ok ps s → True := fun _ _ _ => trivial
    have id_loop : ∀ (e : Env) (he : 7 < e.length) (ps : List D) (s : Sto), lcP (gNm 7) tYesM (eVar 7) e ps s = .ok ps s := fun e he ps => by
      induction ps with
      | nil => intro s; rfl
      | cons p ps ih => intro s; simp [lcP, he, ih s]
    have h1000 : ps.length ≤ 1000 := by omega
    simp only [lcL2, cur, Option.bind_some, s_gNm, Res.ofO_some, Res.bind_ok, s_tYesM, calm_ok, if_true, s_iSeq, s_eOp2, s_eBor, s_eC, List.getElem?_set_self h6, opIx, seqOf, ix0, srcOf, h1000]
    rw [lcL_none, id_loop _ (by simp [wipeE]; exact hj)]
    simp only [Res.bind_ok]
    rw [ih]
    simp [prsOf]
def prs (ts chs : List D) : List D := en 0 ts ++ chs.flatMap prsOf
theorem en_mem {d : D} : ∀ {ts : List D} {i : Nat}, d ∈ en i ts → ∃ (k : Nat) (t : D), d = .tup [.int (k : Nat), t] ∧ t ∈ ts ∧ i ≤ k ∧ k < i + ts.length
  | [], i, h => by cases h
  | t :: ts, i, h => by
    rw [en_cons] at h; rcases List.mem_cons.mp h with e | h
    · exact ⟨i, t, e, List.mem_cons_self, by omega, by simp⟩
    · obtain ⟨k, t', e, m, a, b⟩ := en_mem h
      exact ⟨k, t', e, List.mem_cons_of_mem _ m, by omega, by simp only [List.length_cons]; omega⟩
theorem en_len (i : Nat) (ts : List D) : (en i ts).length = ts.length := by simp [en]
theorem prs_ok {ts chs : List D} {goods : Int} (ht : ∀ t ∈ ts, TX (ts.length : Int) goods t) (hc : ∀ c ∈ chs, CH (ts.length : Int) c) : ∀ d ∈ prs ts chs, PR' (ts.length : Int) d := fun d hd => by
  rcases List.mem_append.mp hd with h | h
  · obtain ⟨k, t, rfl, m, a, b⟩ := en_mem h
    obtain ⟨rows, rfl, _, h2, h3⟩ := ht t m
    exact ⟨k, rows, rfl, by omega, by omega, h2, fun r hr => (h3 r hr).wr⟩
  · obtain ⟨c, m, hd⟩ := List.mem_flatMap.mp h
    obtain ⟨ps, mk, l1, l2, rfl, _, hp, _⟩ := hc c m
    exact hp d hd
theorem prs_len {ts chs : List D} {many : Int} (h1 : ts.length ≤ 8) (h2 : chs.length ≤ 3) (hc : ∀ c ∈ chs, CH many c) : (prs ts chs).length ≤ 32 := by
  have h : ∀ l : List D, (∀ c ∈ l, CH many c) → (l.flatMap prsOf).length ≤ 8 * l.length := fun l => by
    induction l with
    | nil => intro _; simp
    | cons c l ih =>
      intro h
      obtain ⟨ps, mk, l1, l2, rfl, hp, _⟩ := h c List.mem_cons_self
      have := ih fun x m => h x (List.mem_cons_of_mem _ m)
      simp only [List.flatMap_cons, List.length_append, List.length_cons, prsOf]
      omega
  have := h chs hc
  unfold prs
  rw [List.length_append, en_len]
  omega
def qs (ts chs : List D) : List Q := (prs ts chs).map pq
theorem leads_ok {ts chs : List D} {goods : Int} (h1 : ts.length ≤ 8) (h2 : chs.length ≤ 3) (ht : ∀ t ∈ ts, TX (ts.length : Int) goods t) (hc : ∀ c ∈ chs, CH (ts.length : Int) c) (s : Sto) :
    ∃ n0 s', f_leads [.lst ts, .lst chs] s = .ok (.lst (refs n0 ts.length)) s' ∧ Fnd s' n0 ts.length ((qs ts chs).foldl addE fun _ => []) ∧ Gr s s' ∧ s.length ≤ n0 := by
  have c1 := s_lLc (iSeq (eVar 0)) (gNm 5) tYesM (ePlc (lLst aNil)) [5] [.val (.lst ts), .val (.lst chs), .emp, .emp, .emp, .emp, .emp, .emp, .emp] s s ts rfl (len_cap (by omega))
  have w1 : wipeE [.val (.lst ts), .val (.lst chs), .emp, .emp, .emp, .emp, .emp, .emp, .emp] [5] = [.val (.lst ts), .val (.lst chs), .emp, .emp, .emp, .emp, .emp, .emp, .emp] := rfl
  rw [w1, plc_loop _ (by simp)] at c1
  have h3 : chs.length ≤ 1000 := by omega
  have h4 : ts.length ≤ cap := len_cap (by omega)
  have c2 : lLc2 (iSeq (eVar 1)) (gNm 6) tYesM (iSeq (eOp2 opIx (eBor 6) (eC (.int 0)))) (gNm 7) tYesM (eVar 7) [6, 7] [7] [.val (.lst ts), .val (.lst chs), .val (.lst (refs s.length ts.length)), .emp, .emp, .emp, .emp, .emp, .emp] (s ++ List.replicate ts.length (.lst [])) = .ok (chs.flatMap prsOf) (s ++ List.replicate ts.length (.lst [])) := by
    unfold lLc2
    simp only [s_iSeq, s_eVar, List.getElem?_cons_succ, List.getElem?_cons_zero, Res.bind_ok, srcOf, Res.ofO_some, h3, if_true]
    exact lc2_loop _ (by simp [wipeE]) chs chs 0 _ hc
  have lp := prs_len h1 h2 hc
  obtain ⟨y4, y5, s', e, F', l', g'⟩ := ext_loop (n0 := s.length) (m := ts.length) (a0 := .val (.lst ts)) (a1 := .val (.lst chs)) (a3 := .val (.lst (prs ts chs))) (prs ts chs) (fun _ => []) .emp .emp (s ++ List.replicate ts.length (.lst [])) (prs_ok ht hc) (fun j hj => by
    rw [List.getElem?_append_right (by omega)]
    have : s.length + j - s.length = j := by omega
    rw [this, List.getElem?_replicate]
    simp [hj]) (fun j => by simp; omega)
  refine ⟨s.length, s', ?_, F', ⟨by rw [l']; simp, fun j hj => (g' j hj).trans (by rw [List.getElem?_append_left hj])⟩, Nat.le_refl _⟩
  have f := s_sFor (iSeq (eVar 3)) (gTp [(gNm 4), (gNm 5)]) xb [.val (.lst ts), .val (.lst chs), .val (.lst (refs s.length ts.length)), .val (.lst (prs ts chs)), .emp, .emp, .emp, .emp, .emp] (s ++ List.replicate ts.length (.lst [])) (s ++ List.replicate ts.length (.lst [])) (prs ts chs) rfl
  rw [e] at f
  have lp2 : (en 0 ts).length + (chs.flatMap prsOf).length ≤ cap := by
    have : (prs ts chs).length = (en 0 ts).length + (chs.flatMap prsOf).length := by unfold prs; rw [List.length_append]
    exact len_cap (by omega)
  have f' := f
  simp only [prs] at f'
  rw [leads_eq]
  have lp3 : (en 0 ts).length + (List.map (fun a => (prsOf a).length) chs).sum ≤ cap := by rwa [List.length_flatMap] at lp2
  simp [c1, c2, lEnum, enumAt, h4, en0, view, lp3, f']
end K16

/-! The plain law of k16, part 9: going along calls. Own text. -/
namespace K16
open MP
def Closed (ps : List Q) (C : List Int) : Prop := ∀ q ∈ ps, (q.1 : Int) ∈ C → ∀ v ∈ q.2, v ∈ C
def miss (m : Nat) (C : List Int) : Nat := (List.range m).countP fun k : Nat => decide ((k : Int) ∉ C)
theorem countP_lt {α : Type} {p q : α → Bool} : ∀ {l : List α}, (∀ x ∈ l, p x = true → q x = true) → (∃ x ∈ l, q x = true ∧ p x = false) → l.countP p < l.countP q
  | [], _, ⟨x, h, _⟩ => by cases h
  | a :: l, h, ⟨x, hx, h1, h2⟩ => by
    have ha := h a List.mem_cons_self
    have hl : ∀ x ∈ l, p x = true → q x = true := fun x m => h x (List.mem_cons_of_mem _ m)
    rw [List.countP_cons, List.countP_cons]; rcases List.mem_cons.mp hx with e | hx
    · subst e
      have := List.countP_mono_left hl
      simp [h1, h2]
      omega
    · have := countP_lt hl ⟨x, hx, h1, h2⟩
      cases hp : p a with
      | false => cases hq : q a <;> simp <;> omega
      | true => rw [ha hp]; simp; omega
theorem miss_le {m : Nat} {C D : List Int} (h : ∀ v ∈ C, v ∈ D) : miss m D ≤ miss m C := List.countP_mono_left fun k _ hk => by
  simp only [decide_eq_true_eq] at hk ⊢
  exact fun z => hk (h _ z)
theorem miss_lt {m : Nat} {C D : List Int} (h : ∀ v ∈ C, v ∈ D) {v : Int} (h0 : 0 ≤ v) (h1 : v < (m : Int)) (hc : v ∉ C) (hd : v ∈ D) : miss m D < miss m C := countP_lt (fun k _ hk => by
  simp only [decide_eq_true_eq] at hk ⊢
  exact fun z => hk (h _ z)) ⟨v.toNat, List.mem_range.mpr (by omega), by
    have : ((v.toNat : Nat) : Int) = v := by omega
    rw [this]
    simp [hc, hd]⟩
theorem miss_top (m : Nat) (C : List Int) : miss m C ≤ m := by
  have := List.countP_le_length (p := fun k => decide (((k : Nat) : Int) ∉ C)) (l := List.range m)
  rw [List.length_range] at this
  exact this
theorem in_ints (s : Sto) (v : Int) : ∀ M : List Int, inD s (.int v) (.lst (M.map .int)) = some (decide (v ∈ M)) ∧ inD s (.int v) (.tup (M.map .int)) = some (decide (v ∈ M)) := fun M => by
  have h1 : (M.map D.int).all isFlat = true := by simp [isFlat]
  have h2 : (M.map D.int).any (fun d => d.eqv (.int v)) = decide (v ∈ M) := by
    induction M with
    | nil => rfl
    | cons m M ih =>
      rw [List.map_cons, List.any_cons, ih (by simp [isFlat])]
      by_cases c : m = v
      · subst c; simp [D.eqv]
      · simp [D.eqv, c, Ne.symm c]
  constructor
  · show (if isFlat (.int v) && (M.map D.int).all isFlat then some ((M.map D.int).any fun d => d.eqv (.int v)) else none) = _
    rw [h1, h2]; rfl
  · show (if isFlat (.int v) && (M.map D.int).all isFlat then some ((M.map D.int).any fun d => d.eqv (.int v)) else none) = _
    rw [h1, h2]; rfl
/-! ### the program's way: a list that grows while it is read -/
theorem pin_loop (M : List Int) (env : Env) (L : List Int) (n : Nat) (s : Sto) (hs : s[n]? = some (.lst (L.map .int))) (e4 : env[4]? = some (.own (M.map .int))) (h6 : 6 < env.length) : ∀ (l : List Int) (i : Nat), l = L.drop i →
    lcL ⟨L.map .int, some n⟩ (gNm 6) (tVal (eOp2 opNotIn (eBor 6) (eBor 4))) (eVar 6) env i (l.map .int) s = .ok ((l.filter fun v => decide (v ∉ M)).map .int) s
  | [], i, h => by simp [lcL, fin, hs]
  | v :: l, i, h => by
    have hi : L[i]? = some v := by
      rw [← List.head?_drop, ← h]
      rfl
    have hl : l = L.drop (i + 1) := by
      rw [← List.tail_drop, ← h]
      rfl
    have ih := pin_loop M env L n s hs e4 h6 l (i + 1) hl
    have e4' : (env.set 6 (.val (.int v)))[4]? = some (.own (M.map .int)) := by rw [List.getElem?_set_ne (by omega)]; exact e4
    have e6 : (env.set 6 (.val (.int v)))[6]? = some (.val (.int v)) := List.getElem?_set_self h6
    have hin := (in_ints s v M).1
    have hcur : cur ⟨L.map .int, some n⟩ s i (.int v) = some (.int v) := by
      simp [cur, hs, hi]
    simp only [List.map_cons, lcL, hcur, Option.bind_some, s_gNm, Res.ofO_some, Res.bind_ok, s_tVal, s_eOp2, s_eBor, e4', e6, opNotIn, hin, Option.map_some, asB_bl, calm_ok, s_eVar]
    by_cases c : v ∈ M
    · simp [c, ih]
    · simp [c, ih]
def wb : MS := sSeq (sExt 4 (eFrz (lLc (iSeq (eOp2 opIx (eBor 3) (eOp2 opIx (eBor 4) (eBor 5)))) (gNm 6) (tVal (eOp2 opNotIn (eBor 6) (eBor 4))) (eVar 6) [6]))) (sAsg (eOp2 opAdd (eBor 5) (eC (.int 1))) (gNm 5))
def wt : MT := tVal (eOp2 opLt (eBor 5) (eOp1 opLen (eBor 4)))
abbrev wenv (a0 a1 a2 : Slot) (n0 m : Nat) (M : List Int) (a : Nat) : Env := [a0, a1, a2, .val (.lst (refs n0 m)), .own (M.map .int), .val (.int (a : Nat)), .emp]
def more (F : Nat → List Int) (M : List Int) (x : Int) : List Int := (F x.toNat).filter fun v => decide (v ∉ M)
theorem ix_ints {M : List Int} {a : Nat} {x : Int} (h : M[a]? = some x) : ixD (M.map .int) (a : Nat) = some (.int x) := by
  have hl := (List.getElem?_eq_some_iff.mp h).1
  have h1 : ((a : Nat) : Int) < (M.length : Int) := by omega
  have h0 : (0 : Int) ≤ ((a : Nat) : Int) := by omega
  simp [ixD, place, hl]
  exact (List.getElem?_eq_some_iff.mp h).2
theorem wb_step {a0 a1 a2 : Slot} {n0 m : Nat} {F : Nat → List Int} {M : List Int} {a : Nat} {x : Int} (hx : M[a]? = some x) (h0 : 0 ≤ x) (h1 : x < (m : Int)) (s : Sto) (hF : Fnd s n0 m F) (hb : M.length + (F x.toNat).length < cap) :
    wb (wenv a0 a1 a2 n0 m M a) s = .nx (wenv a0 a1 a2 n0 m (M ++ more F M x) (a + 1)) s := by
  have hk : x.toNat < m := by omega
  have e1 := pin_refs (n0 := n0) hk
  have ek : ((x.toNat : Nat) : Int) = x := by omega
  rw [ek] at e1
  have e2 := hF x.toNat hk
  have hl : (F x.toNat).length ≤ cap := by omega
  have lc : lLc (iSeq (eOp2 opIx (eBor 3) (eOp2 opIx (eBor 4) (eBor 5)))) (gNm 6) (tVal (eOp2 opNotIn (eBor 6) (eBor 4))) (eVar 6) [6] (wenv a0 a1 a2 n0 m M a) s = .ok ((more F M x).map .int) s := by
    unfold lLc
    simp only [s_iSeq, s_eOp2, s_eBor, List.getElem?_cons_succ, List.getElem?_cons_zero, Res.bind_ok, opIx, seqOf, Option.bind_some, ix_ints hx, Res.ofO_some, e1, srcOf, e2, List.length_map, hl, if_true]
    exact pin_loop M _ (F x.toNat) _ s e2 (by simp [wipeE]) (by simp [wipeE]) _ 0 rfl
  have hm : (more F M x).length ≤ (F x.toNat).length := List.length_filter_le _ _
  have hc : M.length + (more F M x).length < cap := by omega
  simp [wb, lc, view, hc, opAdd]
structure WI (ps : List Q) (m : Nat) (sm M : List Int) : Prop where
  rng : ∀ v ∈ M, 0 ≤ v ∧ v < (m : Int)
  sub : ∀ v ∈ sm, v ∈ M
  snd : ∀ C, Closed ps C → (∀ v ∈ sm, v ∈ C) → ∀ v ∈ M, v ∈ C
theorem wloop {ps : List Q} {m : Nat} {sm : List Int} {F : Nat → List Int} (hF0 : ∀ j v, v ∈ F j ↔ ∃ q ∈ ps, q.1 = j ∧ v ∈ q.2) (hr : ∀ q ∈ ps, ∀ v ∈ q.2, 0 ≤ v ∧ v < (m : Int)) (hB : ∀ j, (F j).length ≤ 400) {a0 a1 a2 : Slot} {n0 : Nat} (s : Sto) (hF : Fnd s n0 m F) :
    ∀ (n a : Nat) (M : List Int), WI ps m sm M → (∀ j x, j < a → M[j]? = some x → ∀ v ∈ F x.toNat, v ∈ M) → a ≤ M.length → M.length + 400 * miss m M ≤ 9000 → 9001 ≤ n + a →
      ∃ M' a', whL wt wb n (wenv a0 a1 a2 n0 m M a) s = .nx (wenv a0 a1 a2 n0 m M' a') s ∧ WI ps m sm M' ∧ Closed ps M' ∧ M'.length ≤ 9000
  | 0, a, M, w, hd, ha, hl, hn => absurd hn (by omega)
  | n + 1, a, M, w, hd, ha, hl, hn => by
    by_cases c : a < M.length
    · obtain ⟨x, hx⟩ : ∃ x, M[a]? = some x := ⟨_, List.getElem?_eq_getElem c⟩
      have hxm : x ∈ M := List.mem_of_getElem? hx
      obtain ⟨x0, x1⟩ := w.rng x hxm
      have hb := hB x.toNat
      have st := wb_step (a0 := a0) (a1 := a1) (a2 := a2) hx x0 x1 s hF (by unfold cap; omega)
      have hm : (more F M x).length ≤ 400 := Nat.le_trans (List.length_filter_le _ _) hb
      have hmem : ∀ v ∈ more F M x, v ∈ F x.toNat ∧ v ∉ M := fun v hv => by simpa [more] using hv
      have hfx : ∀ v ∈ F x.toNat, v ∈ M ++ more F M x := fun v hv => by
        by_cases cv : v ∈ M
        · exact List.mem_append_left _ cv
        · exact List.mem_append_right _ (by simp [more, hv, cv])
      have w' : WI ps m sm (M ++ more F M x) := ⟨fun v hv => by
          rcases List.mem_append.mp hv with h | h
          · exact w.rng v h
          · obtain ⟨q, hq, _, hv2⟩ := (hF0 x.toNat v).mp (hmem v h).1
            exact hr q hq v hv2, fun v hv => List.mem_append_left _ (w.sub v hv), fun C hC hs v hv => by
          rcases List.mem_append.mp hv with h | h
          · exact w.snd C hC hs v h
          · obtain ⟨q, hq, e, hv2⟩ := (hF0 x.toNat v).mp (hmem v h).1
            refine hC q hq ?_ v hv2
            have : ((q.1 : Nat) : Int) = x := by omega
            rw [this]
            exact w.snd C hC hs x hxm⟩
      have hd' : ∀ j y, j < a + 1 → (M ++ more F M x)[j]? = some y → ∀ v ∈ F y.toNat, v ∈ M ++ more F M x := fun j y hj hy v hv => by
        by_cases cj : j = a
        · subst cj
          rw [List.getElem?_append_left c, hx] at hy
          cases hy
          exact hfx v hv
        · have hja : j < a := by omega
          rw [List.getElem?_append_left (by omega)] at hy
          exact List.mem_append_left _ (hd j y hja hy v hv)
      have hl' : (M ++ more F M x).length + 400 * miss m (M ++ more F M x) ≤ 9000 := by
        rw [List.length_append]
        cases e : more F M x with
        | nil =>
          rw [List.append_nil]
          simpa using hl
        | cons v r =>
          have hv : v ∈ more F M x := by rw [e]; exact List.mem_cons_self
          have := miss_lt (m := m) (C := M) (D := M ++ more F M x) (fun u hu => List.mem_append_left _ hu) (w'.rng v (List.mem_append_right _ hv)).1 (w'.rng v (List.mem_append_right _ hv)).2 (hmem v hv).2 (List.mem_append_right _ hv)
          rw [e] at this hm
          omega
      obtain ⟨M', a', e, r⟩ := wloop hF0 hr hB (a0 := a0) (a1 := a1) (a2 := a2) s hF n (a + 1) (M ++ more F M x) w' hd' (by rw [List.length_append]; omega) hl' (by omega)
      refine ⟨M', a', ?_, r⟩
      rw [← e]
      have ht : wt (wenv a0 a1 a2 n0 m M a) s = .ok true s := by
        simp [wt, opLen, seqOf, opLt, opCmp, c]
      simp only [whL, ht, Res.go_ok, if_true, st]
    · have hae : a = M.length := by omega
      refine ⟨M, a, ?_, w, fun q hq h v hv => ?_, by omega⟩
      · have ht : wt (wenv a0 a1 a2 n0 m M a) s = .ok false s := by
          simp [wt, opLen, seqOf, opLt, opCmp, hae]
        simp only [whL, ht, Res.go_ok, Bool.false_eq_true, if_false]
      · obtain ⟨j, hj⟩ := List.mem_iff_getElem?.mp h
        have hjl := (List.getElem?_eq_some_iff.mp hj).1
        refine hd j _ (by omega) hj v ?_
        exact (hF0 _ v).mpr ⟨q, hq, by simp, hv⟩
/-! ### what words tells -/
def wordOf (sm M : List Int) (k : Int) : D := if k ∈ sm then d_HOLDS else if k ∈ M then d_MAY else d_NEVER
def dueF (sm M : List Int) : D → D
  | .int k => wordOf sm M k
  | d => d
def due (sm M : List Int) (m : Nat) : List D := (intsD 0 m).map (dueF sm M)
theorem due_loop (sm M : List Int) (env : Env) (e2 : env[2]? = some (.val (.tup (sm.map .int)))) (e4 : env[4]? = some (.own (M.map .int))) (h6 : 6 < env.length) : ∀ (l : List D) (s : Sto), (∀ d ∈ l, ∃ k : Int, d = .int k) →
    lcP (gNm 6) tYesM (eIf (tVal (eOp2 opIn (eBor 6) (eBor 2))) (eC d_HOLDS) (eIf (tVal (eOp2 opIn (eBor 6) (eBor 4))) (eC d_MAY) (eC d_NEVER))) env l s = .ok (l.map (dueF sm M)) s
  | [], s, _ => rfl
  | d :: l, s, h => by
    obtain ⟨k, rfl⟩ := h d List.mem_cons_self
    have ih := due_loop sm M env e2 e4 h6 l s fun x m => h x (List.mem_cons_of_mem _ m)
    have e2' : (env.set 6 (.val (.int k)))[2]? = some (.val (.tup (sm.map .int))) := by rw [List.getElem?_set_ne (by omega)]; exact e2
    have e4' : (env.set 6 (.val (.int k)))[4]? = some (.own (M.map .int)) := by rw [List.getElem?_set_ne (by omega)]; exact e4
    have e6 : (env.set 6 (.val (.int k)))[6]? = some (.val (.int k)) := List.getElem?_set_self h6
    have i1 := (in_ints s k sm).2
    have i2 := (in_ints s k M).1
    simp only [lcP, s_gNm, Res.ofO_some, Res.bind_ok, s_tYesM, calm_ok, if_true, s_eIf, s_tVal, s_eOp2, s_eBor, e6, e2', opIn, i1, Option.map_some, asB_bl, ih, List.map_cons, e4', i2, s_eC]
    by_cases c1 : k ∈ sm
    · simp [dueF, wordOf, c1, ih]
    · by_cases c2 : k ∈ M <;> simp [dueF, wordOf, c1, c2, ih]
theorem words_eq : f_words = runB 3 7 (sSeq (sDrop (eCall fk_need_texts_0 (aCons (eVar 0) aNil))) (sSeq (sAsg (eCall f_leads (aCons (eVar 0) (aCons (eVar 1) aNil))) (gNm 3)) (sSeq (sOwn (lOf (eBor 2)) 4) (sSeq (sAsg (eC (.int 0)) (gNm 5)) (sSeq (sWhile 10000 wt wb) (sRet (ePlc (lLc (iRng (eOp1 opLen (eBor 0))) (gNm 6) tYesM (eIf (tVal (eOp2 opIn (eBor 6) (eBor 2))) (eC d_HOLDS) (eIf (tVal (eOp2 opIn (eBor 6) (eBor 4))) (eC d_MAY) (eC d_NEVER))) [6])))))))) := rfl
theorem qs_ok {ts chs : List D} {goods : Int} (ht : ∀ t ∈ ts, TX (ts.length : Int) goods t) (hc : ∀ c ∈ chs, CH (ts.length : Int) c) : ∀ q ∈ qs ts chs, q.1 < ts.length ∧ q.2.length ≤ 12 ∧ ∀ v ∈ q.2, 0 ≤ v ∧ v < (ts.length : Int) := fun q hq => by
  obtain ⟨d, hd, rfl⟩ := List.mem_map.mp hq
  obtain ⟨k, rows, rfl, h0, h1, hl, hr⟩ := prs_ok ht hc d hd
  refine ⟨by show k.toNat < _; omega, Nat.le_trans (calls_len rows) hl, calls_in hr⟩
theorem words_ok {ts chs : List D} {goods : Int} {sm : List Int} (h0 : 1 ≤ ts.length) (h1 : ts.length ≤ 8) (h2 : chs.length ≤ 3) (hg : goods ≤ 4) (ht : ∀ t ∈ ts, TX (ts.length : Int) goods t) (hc : ∀ c ∈ chs, CH (ts.length : Int) c) (hs : ∀ v ∈ sm, 0 ≤ v ∧ v < (ts.length : Int)) (hsl : sm.length ≤ 8) (s : Sto) :
    ∃ r s' M, f_words [.lst ts, .lst chs, .tup (sm.map .int)] s = .ok (.ref r) s' ∧ s'[r]? = some (.lst (due sm M ts.length)) ∧ Gr s s' ∧ s.length ≤ r ∧ WI (qs ts chs) ts.length sm M ∧ Closed (qs ts chs) M := by
  obtain ⟨s1, e1, f1⟩ := need_ok (many := (ts.length : Int)) rfl (by omega) (by omega) hg ht s
  obtain ⟨n0, s2, e2, F2, f2, g2⟩ := leads_ok h1 h2 ht hc s1
  have hF0 : ∀ j v, v ∈ ((qs ts chs).foldl addE fun _ => []) j ↔ ∃ q ∈ qs ts chs, q.1 = j ∧ v ∈ q.2 := fun j v => by rw [addE_mem]; simp
  have hB : ∀ j, (((qs ts chs).foldl addE fun _ => []) j).length ≤ 400 := fun j => by
    have a := addE_len (j := j) (ps := qs ts chs) (F := fun _ => []) fun q hq => (qs_ok ht hc q hq).2.1
    have b : (qs ts chs).length ≤ 32 := by unfold qs; rw [List.length_map]; exact prs_len h1 h2 hc
    simp only [List.length_nil] at a
    omega
  have hm0 := miss_top ts.length sm
  obtain ⟨M, a, e3, w, cl, ml⟩ := wloop (sm := sm) hF0 (fun q hq => (qs_ok ht hc q hq).2.2) hB (a0 := .val (.lst ts)) (a1 := .val (.lst chs)) (a2 := .val (.tup (sm.map .int))) s2 F2 10000 0 sm ⟨hs, fun v h => h, fun C _ h => h⟩ (fun j x hj => absurd hj (by omega)) (Nat.zero_le _) (by omega) (by omega)
  have c1 := s_lLc (iRng (eOp1 opLen (eBor 0))) (gNm 6) tYesM (eIf (tVal (eOp2 opIn (eBor 6) (eBor 2))) (eC d_HOLDS) (eIf (tVal (eOp2 opIn (eBor 6) (eBor 4))) (eC d_MAY) (eC d_NEVER))) [6] (wenv (.val (.lst ts)) (.val (.lst chs)) (.val (.tup (sm.map .int))) n0 ts.length M a) s2 s2 (intsD 0 (ts.length : Int).toNat) (rng (by simp [opLen, seqOf]) (by omega) (by omega)) (by rw [ints_len]; exact len_cap (by omega))
  have hw : wipeE (wenv (.val (.lst ts)) (.val (.lst chs)) (.val (.tup (sm.map .int))) n0 ts.length M a) [6] = wenv (.val (.lst ts)) (.val (.lst chs)) (.val (.tup (sm.map .int))) n0 ts.length M a := rfl
  have hn : (ts.length : Int).toNat = ts.length := by omega
  rw [hw, hn, due_loop sm M _ rfl rfl (by simp) _ s2 fun d hd => let ⟨k, e, _⟩ := ints_mem hd; ⟨k, e⟩] at c1
  have e3' : whL wt wb 10000 [.val (.lst ts), .val (.lst chs), .val (.tup (sm.map .int)), .val (.lst (refs n0 ts.length)), .own (sm.map .int), .val (.int 0), .emp] s2 = .nx (wenv (.val (.lst ts)) (.val (.lst chs)) (.val (.tup (sm.map .int))) n0 ts.length M a) s2 := e3
  have e1' : fk_need_texts_0 [.lst ts] s = .ok .non s1 := e1
  refine ⟨s2.length, s2 ++ [.lst (due sm M ts.length)], M, ?_, by simp, (f1.trans f2).trans (Gr.app _ _), Nat.le_trans f1.1 f2.1, w, cl⟩
  rw [words_eq]
  simp only [wenv] at c1 e3'
  simp [e1', e2, seqOf, sWhile, e3', c1, due]
theorem words_bad {pre rows : List D} {many goods : Int} (hm : ((pre.length + 1 : Nat) : Int) = many) (m1 : many ≤ 8) (ht : goods ≤ 4) (h : ∀ t ∈ pre, TX many goods t) (hl : rows.length < 12) (hg : ∀ d ∈ rows, GR ⟨many, goods, 0, (rows.length : Int) + 2⟩ [] d) (s : Sto) :
    ∃ s', f_words [.lst (pre ++ [.tup (rows ++ [badRow])]), .lst [], .tup []] s = .exc ⟨1, [("row", .int (rows.length : Nat)), ("deed", .int (pre.length : Nat))]⟩ s' ∧ Gr s s' := by
  obtain ⟨s', e, f⟩ := need_bad hm m1 ht h hl hg s
  refine ⟨s', ?_, f⟩
  rw [words_eq]
  simp [e]
theorem words_none (s : Sto) : f_words [.lst [], .lst [], .tup []] s = .exc ⟨1, [("row", .int (-1)), ("deed", .int 0)]⟩ s := by
  rw [words_eq]
  simp [need_none]
end K16

/-! The plain law of k16, part 10: what is told; likeness. Own text. -/
namespace K16
open MP
theorem told_texts (d r : Int) (s : Sto) : h_law_told ((List.replicate 5 .emp).set 1 (.exn ⟨1, [("row", .int r), ("deed", .int d)]⟩)) s = .rt (.tup [.str [114, 101, 102, 117, 115, 101, 100], .str [116, 101, 120, 116, 115], .int d, .int r]) s := rfl
theorem like_word {w : D} (h : w = d_HOLDS ∨ w = d_MAY ∨ w = d_NEVER) (n : Nat) (s : Sto) : f_law_like (n + 1) [w, w] s = .ok (.bl true) s := by
  rcases h with h | h | h <;> subst h <;> rfl
def Words (L : List D) : Prop := ∀ w ∈ L, w = d_HOLDS ∨ w = d_MAY ∨ w = d_NEVER
theorem words_due (sm M : List Int) (m : Nat) : Words (due sm M m) := fun w hw => by
  obtain ⟨d, hd, rfl⟩ := List.mem_map.mp hw
  obtain ⟨k, rfl, _⟩ := ints_mem hd
  have e : dueF sm M (.int k) = wordOf sm M k := rfl
  rw [e]
  unfold wordOf
  split
  · exact .inl rfl
  · split
    · exact .inr (.inl rfl)
    · exact .inr (.inr rfl)
theorem like_loop (n r : Nat) (L : List D) (hw : Words L) (s : Sto) (hs : s[r]? = some (.lst L)) : ∀ (l : List D), (∀ d ∈ l, ∃ k : Int, d = .int k ∧ 0 ≤ k ∧ k < (L.length : Int)) →
    lcP (gNm 2) (tNot (tVal (eCall (f_law_like (n + 1)) (aCons (eOp2 opIx (eBor 0) (eBor 2)) (aCons (eOp2 opIx (eBor 1) (eBor 2)) aNil))))) (eVar 2) [.val (.ref r), .val (.lst L), .emp] l s = .ok [] s
  | [], _ => rfl
  | d :: l, h => by
    obtain ⟨k, rfl, k0, k1⟩ := h d List.mem_cons_self
    have ih := like_loop n r L hw s hs l fun x m => h x (List.mem_cons_of_mem _ m)
    have hk : k.toNat < L.length := by omega
    have e1 : ixD L k = some L[k.toNat] := by simp [ixD, place, k0, k1, hk]
    have e2 := like_word (hw _ (List.getElem_mem hk)) n s
    simp [lcP, opIx, seqOf, hs, e1, e2, ih]
theorem like_ok (n r : Nat) (L : List D) (hl : L.length ≤ 1000) (hw : Words L) (s : Sto) (hs : s[r]? = some (.lst L)) : f_law_like (n + 2) [.ref r, .lst L] s = .ok (.bl true) s := by
  have lc := s_lLc (iRng (eOp1 opLen (eBor 1))) (gNm 2) (tNot (tVal (eCall (f_law_like (n + 1)) (aCons (eOp2 opIx (eBor 0) (eBor 2)) (aCons (eOp2 opIx (eBor 1) (eBor 2)) aNil))))) (eVar 2) [2] [.val (.ref r), .val (.lst L), .emp] s s (intsD 0 (L.length : Int).toNat) (rng (by simp [opLen, seqOf]) (by omega) (by omega)) (by rw [ints_len]; exact len_cap (by omega))
  have hw1 : wipeE [.val (.ref r), .val (.lst L), .emp] [2] = [.val (.ref r), .val (.lst L), .emp] := rfl
  rw [hw1, like_loop n r L hw s hs _ fun d hd => by
    obtain ⟨k, e, a, b⟩ := ints_mem hd
    exact ⟨k, e, a, by omega⟩] at lc
  have e0 : eqD (.lst []) (.lst []) = some true := rfl
  have eb : ∀ b : Bool, eqD (.bl b) (.bl b) = some true := fun b => by cases b <;> rfl
  rw [f_law_like]
  generalize f_law_like (n + 1) = f at lc ⊢
  simp [opKind, kindOf, hs, Ki.isA, opNe, view, eb, opLen, seqOf, eqD_int, lc, opEq, e0]
/-- what fits is like itself -/
theorem eqv_refl : ∀ (n : Nat) (d : D), d.fit n = true → d.eqv d = true := by
  intro n
  induction n with
  | zero =>
    intro d h
    cases d <;> first | rfl | (simp [D.fit] at h; done) | (simp [D.eqv]; done)
  | succ n ih =>
    intro d h
    have all : ∀ ds : List D, D.fits n ds = true → D.eqvs ds ds = true := fun ds => by
      induction ds with
      | nil => intro _; rfl
      | cons x xs ihx =>
        intro h
        simp only [D.fits, Bool.and_eq_true] at h
        simp only [D.eqvs, Bool.and_eq_true]
        exact ⟨ih x h.1, ihx h.2⟩
    cases d <;> first | rfl | (simp [D.fit] at h; done) | (simp only [D.fit] at h; simp only [D.eqv]; exact all _ h) | (simp [D.eqv]; done)
theorem fits_list {n : Nat} {ds : List D} (h : ∀ d ∈ ds, d.fit n = true) : (D.lst ds).fit (n + 1) = true := fits_of h
theorem fits_tup {n : Nat} {ds : List D} (h : ∀ d ∈ ds, d.fit n = true) : (D.tup ds).fit (n + 1) = true := fits_of h
theorem tx_fit {many goods : Int} {t : D} (h : TX many goods t) : t.fit 10 = true := by
  obtain ⟨rows, rfl, _, _, g⟩ := h
  exact fits_tup fun d hd => fit_le (by omega) (g d hd).fit
theorem ch_fit {many : Int} {c : D} (h : CH many c) : c.fit 13 = true := by
  obtain ⟨ps, mk, l1, l2, rfl, _, hp, hm, h1, h2⟩ := h
  refine fits_tup fun d hd => ?_
  have hd : d = .tup ps ∨ d = .tup mk ∨ d = .tup l1 ∨ d = .tup l2 := by simpa using hd
  rcases hd with e | e | e | e <;> subst e
  · refine fits_tup fun p hp' => ?_
    obtain ⟨k, rows, rfl, _, _, _, hr⟩ := hp p hp'
    refine fits_tup (n := 10) fun d hd => ?_
    have hd : d = .int k ∨ d = .tup rows := by simpa using hd
    rcases hd with e | e <;> subst e
    · rfl
    · refine fits_tup (n := 9) fun r hr' => ?_
      obtain ⟨w, ds, _, f, _⟩ := hr r hr'
      exact f
  · exact fits_tup fun d hd => fit_le (by omega) (hm d hd)
  · exact fits_tup fun d hd => fit_le (by omega) (h1 d hd)
  · exact fits_tup fun d hd => fit_le (by omega) (h2 d hd)
theorem same_handed {ts chs : List D} {many goods : Int} (ht : ∀ t ∈ ts, TX many goods t) (hc : ∀ c ∈ chs, CH many c) : eqD (.lst [.lst ts, .lst chs]) (.lst [.lst ts, .lst chs]) = some true := by
  have f : (D.lst [.lst ts, .lst chs]).fit 60 = true := by
    refine fit_le (show 15 ≤ 60 by omega) (fits_list (n := 14) fun d hd => ?_)
    have hd : d = .lst ts ∨ d = .lst chs := by simpa using hd
    rcases hd with e | e <;> subst e
    · exact fits_list fun t h => fit_le (by omega) (tx_fit (ht t h))
    · exact fits_list fun c h => ch_fit (hc c h)
  have e := eqv_refl 60 _ f
  show (if (D.lst [.lst ts, .lst chs]).fit 60 && (D.lst [.lst ts, .lst chs]).fit 60 then some ((D.lst [.lst ts, .lst chs]).eqv (.lst [.lst ts, .lst chs])) else none) = some true
  rw [f, e]
  rfl
end K16

/-! The plain law of k16, part 11: what a turn makes. Own text. -/
namespace K16
open MP
abbrev L (a0 a1 a2 a3 a4 a5 a6 a7 a8 a9 a10 a11 a12 a13 a14 a15 a16 a17 a18 a19 a20 : Slot) : Env := [a0, a1, a2, a3, a4, a5, a6, a7, a8, a9, a10, a11, a12, a13, a14, a15, a16, a17, a18, a19, a20]
theorem seq_nx {a b : MS} {e e1 : Env} {s s1 : Sto} (h : a e s = .nx e1 s1) : sSeq a b e s = b e1 s1 := by rw [s_sSeq, h]; rfl
section
variable {a0 a1 a2 a3 a4 a5 a6 a7 a8 a9 a10 a11 a12 a13 a14 a15 a16 a17 a18 : Slot} {n : Nat}
def B0 : MS := (sAsg (eCall f_law_texts (aCons (eVar 1) aNil)) (gTp [(gNm 3), (gNm 4), (gNm 5)]))
theorem b0_ok (s : Sto) (hd : Dice s n) : ∃ (goods : Int) (z : Slot) (ts : List D) (s' : Sto), B0 (L a0 (.val (.ref n)) a2 a3 a4 a5 a6 a7 a8 a9 a10 a11 a12 a13 a14 a15 a16 a17 a18 .emp .emp) s = .nx (L a0 (.val (.ref n)) a2 (.val (.lst ts)) (.val (.int goods)) z a6 a7 a8 a9 a10 a11 a12 a13 a14 a15 a16 a17 a18 .emp .emp) s' ∧
    1 ≤ goods ∧ goods ≤ 4 ∧ 1 ≤ ts.length ∧ ts.length ≤ 8 ∧ (∀ t ∈ ts, TX (ts.length : Int) goods t) ∧ Fr n s s' := by
  obtain ⟨many, goods, men, ts, s', e, m0, m1, g0, g1, hl, ht, f⟩ := texts_ok s n hd
  subst hl
  exact ⟨goods, .val (.int men), ts, s', by simp [B0, e], g0, g1, by omega, by omega, ht, f⟩
def B1 : MS := (sAsg (eFrz (lLc (iRng (eCall f_law_next (aCons (eVar 1) (aCons (eC (.int 4)) aNil)))) (gNm 19) tYesM (eCall f_law_change (aCons (eVar 1) (aCons (eOp1 opLen (eBor 3)) (aCons (eVar 4) (aCons (eFrz (lLst aNil)) aNil))))) [19])) (gNm 6))
theorem b1_ok {ts : List D} {goods : Int} (g0 : 1 ≤ goods) (g1 : goods ≤ 4) (t0 : 1 ≤ ts.length) (t1 : ts.length ≤ 8) (s : Sto) (hd : Dice s n) : ∃ chs s', B1 (L a0 (.val (.ref n)) a2 (.val (.lst ts)) (.val (.int goods)) a5 a6 a7 a8 a9 a10 a11 a12 a13 a14 a15 a16 a17 a18 .emp .emp) s = .nx (L a0 (.val (.ref n)) a2 (.val (.lst ts)) (.val (.int goods)) a5 (.val (.lst chs)) a7 a8 a9 a10 a11 a12 a13 a14 a15 a16 a17 a18 .emp .emp) s' ∧
    chs.length ≤ 3 ∧ (∀ c ∈ chs, CH (ts.length : Int) c) ∧ Fr n s s' := by
  obtain ⟨r, s1, e1, r0, r1, f1⟩ := nx (m := 4) hd
  obtain ⟨chs, s2, e2, hl, hc, f2⟩ := lc_all (Q := fun _ => True) (P := CH (ts.length : Int)) (n := n) (g := gNm 19) (e := eCall f_law_change (aCons (eVar 1) (aCons (eOp1 opLen (eBor 3)) (aCons (eVar 4) (aCons (eFrz (lLst aNil)) aNil)))))
    (env := L a0 (.val (.ref n)) a2 (.val (.lst ts)) (.val (.int goods)) a5 a6 a7 a8 a9 a10 a11 a12 a13 a14 a15 a16 a17 a18 .emp .emp)
    (fun d s _ hs => by
      obtain ⟨c, s', e, p, f⟩ := change_ok (many := (ts.length : Int)) (by omega) (by omega) g0 g1 s n hs
      exact ⟨_, c, s', rfl, by simp [opLen, seqOf, e], p, f⟩) (intsD 0 r.toNat) s1 (fun _ _ => trivial) f1.1
  rw [ints_len] at hl
  refine ⟨chs, s2, ?_, by omega, hc, f1.trans f2⟩
  have lc := s_lLc (iRng (eCall f_law_next (aCons (eVar 1) (aCons (eC (.int 4)) aNil)))) (gNm 19) tYesM (eCall f_law_change (aCons (eVar 1) (aCons (eOp1 opLen (eBor 3)) (aCons (eVar 4) (aCons (eFrz (lLst aNil)) aNil))))) [19] (L a0 (.val (.ref n)) a2 (.val (.lst ts)) (.val (.int goods)) a5 a6 a7 a8 a9 a10 a11 a12 a13 a14 a15 a16 a17 a18 .emp .emp) s s1 (intsD 0 r.toNat) (rng (by simp [e1]) r0 (by omega)) (by rw [ints_len]; exact len_cap (by omega))
  have hw : wipeE (L a0 (.val (.ref n)) a2 (.val (.lst ts)) (.val (.int goods)) a5 a6 a7 a8 a9 a10 a11 a12 a13 a14 a15 a16 a17 a18 .emp .emp) [19] = L a0 (.val (.ref n)) a2 (.val (.lst ts)) (.val (.int goods)) a5 a6 a7 a8 a9 a10 a11 a12 a13 a14 a15 a16 a17 a18 .emp .emp := rfl
  rw [hw, e2] at lc
  simp [B1, lc]
def B2 : MS := (sAsg (eOp1 opTuple (eFrz (lLc (iRng (eOp1 opLen (eBor 3))) (gNm 12) (tVal (eOp2 opEq (eCall f_law_next (aCons (eVar 1) (aCons (eOp2 opAdd (eC (.int 1)) (eCall f_law_next (aCons (eVar 1) (aCons (eC (.int 4)) aNil)))) aNil))) (eC (.int 0)))) (eVar 12) [12]))) (gNm 7))
theorem b2_ok {ts : List D} (t1 : ts.length ≤ 8) (s : Sto) (hd : Dice s n) : ∃ (sm : List Int) (s' : Sto), B2 (L a0 (.val (.ref n)) a2 (.val (.lst ts)) a4 a5 a6 a7 a8 a9 a10 a11 a12 a13 a14 a15 a16 a17 a18 .emp .emp) s = .nx (L a0 (.val (.ref n)) a2 (.val (.lst ts)) a4 a5 a6 (.val (.tup (sm.map .int))) a8 a9 a10 a11 a12 a13 a14 a15 a16 a17 a18 .emp .emp) s' ∧
    sm.length ≤ 8 ∧ (∀ v ∈ sm, 0 ≤ v ∧ v < (ts.length : Int)) ∧ Fr n s s' := by
  obtain ⟨ds, s1, e1, l1, g1, f1⟩ := lc_pick (Q := fun d => ∃ k : Int, d = .int k) (n := n) (g := gNm 12) (t := tVal (eOp2 opEq (eCall f_law_next (aCons (eVar 1) (aCons (eOp2 opAdd (eC (.int 1)) (eCall f_law_next (aCons (eVar 1) (aCons (eC (.int 4)) aNil)))) aNil))) (eC (.int 0)))) (e := eVar 12)
    (env := L a0 (.val (.ref n)) a2 (.val (.lst ts)) a4 a5 a6 a7 a8 a9 a10 a11 .emp a13 a14 a15 a16 a17 a18 .emp .emp)
    (fun d s _ hs => by
      obtain ⟨r, s1, e1, x1, y1, f1⟩ := nx (m := 4) hs
      obtain ⟨q, s2, e2, x2, y2, f2⟩ := nx (m := 1 + r) f1.1
      exact ⟨_, q == 0, s2, rfl, by simp [e1, opAdd, e2, opEq, view, eqD_int], rfl, f1.trans f2⟩) (intsD 0 (ts.length : Int).toNat) s (fun d m => let ⟨k, e, _⟩ := ints_mem m; ⟨k, e⟩) hd
  obtain ⟨sm, rfl, hs⟩ := ints_list (b := (ts.length : Int)) (l := ds) fun d m => by
    obtain ⟨k, e, x, y⟩ := ints_mem (g1 d m)
    exact ⟨k, e, x, by omega⟩
  rw [ints_len, List.length_map] at l1
  refine ⟨sm, s1, ?_, by omega, hs, f1⟩
  have lc := s_lLc (iRng (eOp1 opLen (eBor 3))) (gNm 12) (tVal (eOp2 opEq (eCall f_law_next (aCons (eVar 1) (aCons (eOp2 opAdd (eC (.int 1)) (eCall f_law_next (aCons (eVar 1) (aCons (eC (.int 4)) aNil)))) aNil))) (eC (.int 0)))) (eVar 12) [12] (L a0 (.val (.ref n)) a2 (.val (.lst ts)) a4 a5 a6 a7 a8 a9 a10 a11 a12 a13 a14 a15 a16 a17 a18 .emp .emp) s s (intsD 0 (ts.length : Int).toNat) (rng (by simp [opLen, seqOf]) (by omega) (by omega)) (by rw [ints_len]; exact len_cap (by omega))
  have hw : wipeE (L a0 (.val (.ref n)) a2 (.val (.lst ts)) a4 a5 a6 a7 a8 a9 a10 a11 a12 a13 a14 a15 a16 a17 a18 .emp .emp) [12] = L a0 (.val (.ref n)) a2 (.val (.lst ts)) a4 a5 a6 a7 a8 a9 a10 a11 .emp a13 a14 a15 a16 a17 a18 .emp .emp := rfl
  rw [hw, e1] at lc
  simp [B2, lc, opTuple, seqOf]
def B3 : MS := (sAsg (eFrz (lLc (iRng (eOp1 opLen (eBor 3))) (gNm 12) tYesM (eTup (aCons (eVar 12) (aCons (eOp2 opIx (eBor 3) (eBor 12)) aNil))) [12])) (gNm 8))
theorem intsD_cons (i n : Nat) : intsD (i : Int) (n + 1) = .int (i : Int) :: intsD ((i + 1 : Nat) : Int) n := by
  unfold intsD
  rw [List.range_succ_eq_map, List.map_cons, List.map_map]; have h0 : (i : Int) + ((0 : Nat) : Int) = (i : Int) := by omega
  rw [h0]
  congr 1
  refine List.map_congr_left fun k _ => ?_; show D.int ((i : Int) + ((k + 1 : Nat) : Int)) = D.int (((i + 1 : Nat) : Int) + (k : Int))
  congr 1
  omega
theorem pairs_loop (env : Env) (ts : List D) (e3 : env[3]? = some (.val (.lst ts))) (h12 : 12 < env.length) (s : Sto) : ∀ (l : List D) (i : Nat), l = ts.drop i → lcP (gNm 12) tYesM (eTup (aCons (eVar 12) (aCons (eOp2 opIx (eBor 3) (eBor 12)) aNil))) env (intsD (i : Int) l.length) s = .ok (en i l) s
  | [], i, _ => rfl
  | t :: l, i, h => by
    have hi : ts[i]? = some t := by
      rw [← List.head?_drop, ← h]
      rfl
    have hl : l = ts.drop (i + 1) := by
      rw [← List.tail_drop, ← h]
      rfl
    have ih := pairs_loop env ts e3 h12 s l (i + 1) hl
    have hlt := (List.getElem?_eq_some_iff.mp hi).1
    have e3' : (env.set 12 (.val (.int (i : Int))))[3]? = some (.val (.lst ts)) := by rw [List.getElem?_set_ne (by omega)]; exact e3
    have e12 : (env.set 12 (.val (.int (i : Int))))[12]? = some (.val (.int (i : Int))) := List.getElem?_set_self h12
    have ix : ixD ts (i : Int) = some t := by
      have h1 : (i : Int) < (ts.length : Int) := by omega
      have h0 : (0 : Int) ≤ (i : Int) := by omega
      simp [ixD, place, hlt]
      exact (List.getElem?_eq_some_iff.mp hi).2
    rw [List.length_cons, intsD_cons, en_cons]
    simp only [lcP, s_gNm, Res.ofO_some, Res.bind_ok, s_tYesM, calm_ok, if_true, s_eTup, s_aCons, s_eVar, e12, s_eOp2, s_eBor, e3', opIx, seqOf, Option.bind_some, ix, s_aNil]
    have h2 : ([D.int (i : Int), t] : List D).length ≤ 1000 := by simp
    rw [if_pos h2]
    simp only [calm_ok, Res.bind_ok, ih]
theorem b3_ok {ts : List D} (t1 : ts.length ≤ 8) (s : Sto) : B3 (L a0 a1 a2 (.val (.lst ts)) a4 a5 a6 a7 a8 a9 a10 a11 a12 a13 a14 a15 a16 a17 a18 .emp .emp) s = .nx (L a0 a1 a2 (.val (.lst ts)) a4 a5 a6 a7 (.val (.lst (en 0 ts))) a9 a10 a11 a12 a13 a14 a15 a16 a17 a18 .emp .emp) s := by
  have lc := s_lLc (iRng (eOp1 opLen (eBor 3))) (gNm 12) tYesM (eTup (aCons (eVar 12) (aCons (eOp2 opIx (eBor 3) (eBor 12)) aNil))) [12] (L a0 a1 a2 (.val (.lst ts)) a4 a5 a6 a7 a8 a9 a10 a11 a12 a13 a14 a15 a16 a17 a18 .emp .emp) s s (intsD 0 (ts.length : Int).toNat) (rng (by simp [opLen, seqOf]) (by omega) (by omega)) (by rw [ints_len]; exact len_cap (by omega))
  have hn : (ts.length : Int).toNat = ts.length := by omega
  have hp := pairs_loop (wipeE (L a0 a1 a2 (.val (.lst ts)) a4 a5 a6 a7 a8 a9 a10 a11 a12 a13 a14 a15 a16 a17 a18 .emp .emp) [12]) ts rfl (by simp [wipeE]) s ts 0 rfl
  have hp' : lcP (gNm 12) tYesM (eTup (aCons (eVar 12) (aCons (eOp2 opIx (eBor 3) (eBor 12)) aNil))) (wipeE (L a0 a1 a2 (.val (.lst ts)) a4 a5 a6 a7 a8 a9 a10 a11 a12 a13 a14 a15 a16 a17 a18 .emp .emp) [12]) (intsD 0 ts.length) s = .ok (en 0 ts) s := hp
  rw [hn, hp'] at lc
  simp [B3, lc]
def b4 : MS := (sAsg (eFrz (lAdd (eBor 8) (eFrz (lOf (eOp2 opIx (eBor 9) (eC (.int 0))))))) (gNm 8))
def B4 : MS := (sFor (iSeq (eVar 6)) (gNm 9) b4)
theorem b4_loop {many : Int} (s : Sto) : ∀ (l : List D) (acc : List D) (z9 : Slot), (∀ c ∈ l, CH many c) → acc.length + 8 * l.length ≤ 1000 → ∃ y9, forP (gNm 9) b4 l (L a0 a1 a2 a3 a4 a5 a6 a7 (.val (.lst acc)) z9 a10 a11 a12 a13 a14 a15 a16 a17 a18 .emp .emp) s = .nx (L a0 a1 a2 a3 a4 a5 a6 a7 (.val (.lst (acc ++ l.flatMap prsOf))) y9 a10 a11 a12 a13 a14 a15 a16 a17 a18 .emp .emp) s
  | [], acc, z9, _, _ => ⟨z9, by simp [forP]⟩
  | c :: l, acc, z9, h, hl => by
    obtain ⟨ps, mk, l1, l2, rfl, hp, _⟩ := h c List.mem_cons_self
    simp only [List.length_cons] at hl
    obtain ⟨y9, e⟩ := b4_loop s l (acc ++ ps) (.val (.tup [.tup ps, .tup mk, .tup l1, .tup l2])) (fun x m => h x (List.mem_cons_of_mem _ m)) (by rw [List.length_append]; omega)
    refine ⟨y9, ?_⟩
    have hc : acc.length + ps.length ≤ cap := len_cap (by omega)
    have st : b4 (L a0 a1 a2 a3 a4 a5 a6 a7 (.val (.lst acc)) (.val (.tup [.tup ps, .tup mk, .tup l1, .tup l2])) a10 a11 a12 a13 a14 a15 a16 a17 a18 .emp .emp) s = .nx (L a0 a1 a2 a3 a4 a5 a6 a7 (.val (.lst (acc ++ ps))) (.val (.tup [.tup ps, .tup mk, .tup l1, .tup l2])) a10 a11 a12 a13 a14 a15 a16 a17 a18 .emp .emp) s := by
      simp [b4, opIx, seqOf, ix0, view, hc]
    have e2 : acc ++ (D.tup [.tup ps, .tup mk, .tup l1, .tup l2] :: l).flatMap prsOf = acc ++ ps ++ l.flatMap prsOf := by simp [prsOf]
    rw [e2, ← e]
    simp only [forP, s_gNm, List.set_cons_succ, List.set_cons_zero, st]
theorem b4_ok {ts chs : List D} {many : Int} (t1 : ts.length ≤ 8) (c1 : chs.length ≤ 3) (hc : ∀ c ∈ chs, CH many c) (s : Sto) : ∃ y9, B4 (L a0 a1 a2 a3 a4 a5 (.val (.lst chs)) a7 (.val (.lst (en 0 ts))) a9 a10 a11 a12 a13 a14 a15 a16 a17 a18 .emp .emp) s = .nx (L a0 a1 a2 a3 a4 a5 (.val (.lst chs)) a7 (.val (.lst (prs ts chs))) y9 a10 a11 a12 a13 a14 a15 a16 a17 a18 .emp .emp) s := by
  obtain ⟨y9, e⟩ := b4_loop (a0 := a0) (a1 := a1) (a2 := a2) (a3 := a3) (a4 := a4) (a5 := a5) (a6 := .val (.lst chs)) (a7 := a7) (a10 := a10) (a11 := a11) (a12 := a12) (a13 := a13) (a14 := a14) (a15 := a15) (a16 := a16) (a17 := a17) (a18 := a18) s chs (en 0 ts) a9 hc (by rw [en_len]; omega)
  exact ⟨y9, (s_sFor (iSeq (eVar 6)) (gNm 9) b4 _ s s chs rfl).trans e⟩
def B5 : MS := (sAsg (eFrz (lOf (eBor 7))) (gNm 10))
theorem b5_ok {sm : List Int} (s : Sto) : B5 (L a0 a1 a2 a3 a4 a5 a6 (.val (.tup (sm.map .int))) a8 a9 a10 a11 a12 a13 a14 a15 a16 a17 a18 .emp .emp) s = .nx (L a0 a1 a2 a3 a4 a5 a6 (.val (.tup (sm.map .int))) a8 a9 (.val (.lst (sm.map .int))) a11 a12 a13 a14 a15 a16 a17 a18 .emp .emp) s := by
  simp [B5, seqOf]
end
end K16

/-! The plain law of k16, part 12: the law's own going along calls. Own text. -/
namespace K16
open MP
def fresh (M : List Int) (l : List Int) : List Int := l.filter fun v => decide (v ∉ M)
def stepM (M : List Int) (q : Q) : List Int := if (q.1 : Int) ∈ M then M ++ fresh M q.2 else M
theorem stepM_sub (M : List Int) (q : Q) : ∀ v ∈ M, v ∈ stepM M q := fun v h => by
  unfold stepM
  split
  · exact List.mem_append_left _ h
  · exact h
theorem stepM_mem {M : List Int} {q : Q} {v : Int} (h : v ∈ stepM M q) : v ∈ M ∨ ((q.1 : Int) ∈ M ∧ v ∈ q.2) := by
  unfold stepM at h
  split at h
  · rename_i c
    rcases List.mem_append.mp h with h | hx
    · exact .inl h
    · have : v ∈ q.2 ∧ v ∉ M := by simpa [fresh] using hx
      exact .inr ⟨c, this.1⟩
  · exact .inl h
theorem stepM_len (M : List Int) (q : Q) (h : q.2.length ≤ 12) : (stepM M q).length ≤ M.length + 12 := by
  unfold stepM
  split
  · rw [List.length_append]
    have : (fresh M q.2).length ≤ q.2.length := List.length_filter_le _ _
    omega
  · omega
theorem fresh_nil {M l : List Int} : fresh M l = [] ↔ ∀ v ∈ l, v ∈ M := by
  unfold fresh
  rw [List.filter_eq_nil_iff]
  simp
section
variable {ps : List Q} {m : Nat} {sm : List Int}
theorem wi_step (hr : ∀ q ∈ ps, ∀ v ∈ q.2, 0 ≤ v ∧ v < (m : Int)) {M : List Int} (w : WI ps m sm M) {q : Q} (hq : q ∈ ps) : WI ps m sm (stepM M q) :=
  ⟨fun v hv => (stepM_mem hv).elim (w.rng v) fun h => hr q hq v h.2, fun v hv => stepM_sub M q v (w.sub v hv), fun C hC hs v hv => (stepM_mem hv).elim (w.snd C hC hs v) fun h => hC q hq (w.snd C hC hs _ h.1) v h.2⟩
theorem wi_fold (hr : ∀ q ∈ ps, ∀ v ∈ q.2, 0 ≤ v ∧ v < (m : Int)) : ∀ (l : List Q) (M : List Int), (∀ q ∈ l, q ∈ ps) → WI ps m sm M → WI ps m sm (l.foldl stepM M)
  | [], M, _, w => w
  | q :: l, M, h, w => wi_fold hr l (stepM M q) (fun x k => h x (List.mem_cons_of_mem _ k)) (wi_step hr w (h q List.mem_cons_self))
theorem fold_sub : ∀ (l : List Q) (M : List Int), ∀ v ∈ M, v ∈ l.foldl stepM M
  | [], M, v, h => h
  | q :: l, M, v, h => fold_sub l (stepM M q) v (stepM_sub M q v h)
theorem fold_len : ∀ (l : List Q) (M : List Int), (∀ q ∈ l, q.2.length ≤ 12) → (l.foldl stepM M).length ≤ M.length + 12 * l.length
  | [], M, _ => by simp
  | q :: l, M, h => by
    have a := fold_len l (stepM M q) fun x k => h x (List.mem_cons_of_mem _ k)
    have b := stepM_len M q (h q List.mem_cons_self)
    simp only [List.foldl_cons, List.length_cons]; omega
/-- a round in which nobody is met anew -/
theorem fold_still : ∀ (l : List Q) (M : List Int), (∀ q ∈ l, ∀ v ∈ q.2, 0 ≤ v ∧ v < (m : Int)) → miss m (l.foldl stepM M) = miss m M → ∀ q ∈ l, (q.1 : Int) ∈ M → ∀ v ∈ q.2, v ∈ M
  | [], M, _, _ => fun _ h => (nomatch h)
  | q :: l, M, h, e => by
    have hq := h q List.mem_cons_self
    have a := miss_le (m := m) (stepM_sub M q)
    have b := miss_le (m := m) (fold_sub l (stepM M q))
    rw [List.foldl_cons] at e
    have e1 : miss m (stepM M q) = miss m M := by omega
    have st : (q.1 : Int) ∈ M → ∀ v ∈ q.2, v ∈ M := fun hm v hv => Decidable.byContradiction fun c => by
      have : v ∈ stepM M q := by
        unfold stepM
        rw [if_pos hm]
        exact List.mem_append_right _ (by simp [fresh, hv, c])
      have := miss_lt (m := m) (stepM_sub M q) (hq v hv).1 (hq v hv).2 c this
      omega
    have same : stepM M q = M := by
      unfold stepM
      split
      · rename_i hm
        rw [fresh_nil.mpr (st hm), List.append_nil]
      · rfl
    rw [same] at e
    intro x hx
    rcases List.mem_cons.mp hx with e2 | hx
    · subst e2; exact st
    · exact fold_still l M (fun y k => h y (List.mem_cons_of_mem _ k)) e x hx
theorem fold_closed : ∀ (l : List Q) (M : List Int), (∀ q ∈ l, (q.1 : Int) ∈ M → ∀ v ∈ q.2, v ∈ M) → l.foldl stepM M = M
  | [], M, _ => rfl
  | q :: l, M, h => by
    have same : stepM M q = M := by
      unfold stepM
      split
      · rename_i hm
        rw [fresh_nil.mpr (h q List.mem_cons_self hm), List.append_nil]
      · rfl
    rw [List.foldl_cons, same]
    exact fold_closed l M fun x k => h x (List.mem_cons_of_mem _ k)
def roundsM (ps : List Q) : Nat → List Int → List Int
  | 0, M => M
  | n + 1, M => roundsM ps n (ps.foldl stepM M)
theorem rounds_end (hr : ∀ q ∈ ps, ∀ v ∈ q.2, 0 ≤ v ∧ v < (m : Int)) : ∀ (n : Nat) (M : List Int), miss m M < n → WI ps m sm M → WI ps m sm (roundsM ps n M) ∧ Closed ps (roundsM ps n M)
  | 0, M, h, _ => absurd h (by omega)
  | n + 1, M, h, w => by
    have w1 := wi_fold hr ps M (fun _ k => k) w
    have a := miss_le (m := m) (fold_sub ps M)
    by_cases c : miss m (ps.foldl stepM M) = miss m M
    · have cl := fold_still ps M hr c
      have same := fold_closed ps M cl
      have all : ∀ k : Nat, roundsM ps k M = M := fun k => by
        induction k with
        | zero => rfl
        | succ k ih => show roundsM ps k (ps.foldl stepM M) = M; rw [same]; exact ih
      rw [all]
      exact ⟨w, cl⟩
    · exact rounds_end hr n _ (by omega) w1
theorem rounds_len (h : ∀ q ∈ ps, q.2.length ≤ 12) : ∀ (n : Nat) (M : List Int), (roundsM ps n M).length ≤ M.length + n * (12 * ps.length)
  | 0, M => by simp [roundsM]
  | n + 1, M => by
    have a := rounds_len h n (ps.foldl stepM M)
    have b := fold_len ps M h
    show (roundsM ps n (ps.foldl stepM M)).length ≤ _
    rw [Nat.succ_mul]
    omega
end
section
variable {a0 a1 a2 a3 a4 a5 a6 a7 a8 a9 a10 a11 a12 a13 a14 a15 a16 a17 a18 : Slot} {n : Nat}
theorem flt_loop {many : Int} (M : List Int) (env : Env) (e10 : env[10]? = some (.val (.lst (M.map .int)))) (h20 : 20 < env.length) : ∀ (rows : List D) (s : Sto), (∀ r ∈ rows, WR many r) →
    lcP (gNm 20) (tAnd (tVal (eOp2 opEq (eOp2 opIx (eBor 20) (eC (.int 0))) (eC (.str [99, 97, 108, 108])))) (tVal (eOp2 opNotIn (eOp2 opIx (eBor 20) (eC (.int 2))) (eBor 10)))) (eOp2 opIx (eBor 20) (eC (.int 2))) env rows s = .ok ((fresh M (callsOf rows)).map .int) s
  | [], s, _ => rfl
  | r :: rows, s, h => by
    have ih := flt_loop M env e10 h20 rows s fun x m => h x (List.mem_cons_of_mem _ m)
    obtain ⟨w, ds, rfl, e, h1, h2⟩ := wr_call (h r List.mem_cons_self)
    have e20 : ∀ d : D, (env.set 20 (.val d))[20]? = some (.val d) := fun d => List.getElem?_set_self h20
    have e10' : ∀ d : D, (env.set 20 (.val d))[10]? = some (.val (.lst (M.map .int))) := fun d => by rw [List.getElem?_set_ne (by omega)]; exact e10
    by_cases c : w = kCall
    · obtain ⟨a, k, b, rfl, _, _, z⟩ := h1 c
      have hc : callsOf (.tup (.str w :: [a, .int k, b]) :: rows) = k :: callsOf rows := by simp [callsOf, z]
      rw [hc]
      have e' : eqD (.str w) (.str kCall) = some true := by rw [e, c]; rfl
      have hin := (in_ints s k M).1
      by_cases ck : k ∈ M
      · have hf : fresh M (k :: callsOf rows) = fresh M (callsOf rows) := by simp [fresh, ck]
        rw [hf]
        simp [lcP, e20, e10', opIx, seqOf, ix0, ix2, opEq, view, e', opNotIn, hin, ck, ih]
      · have hf : fresh M (k :: callsOf rows) = k :: fresh M (callsOf rows) := by simp [fresh, ck]
        rw [hf]
        simp [lcP, e20, e10', opIx, seqOf, ix0, ix2, opEq, view, e', opNotIn, hin, ck, ih]
    · have hc : callsOf (.tup (.str w :: ds) :: rows) = callsOf rows := by simp [callsOf, h2 c]
      rw [hc]
      have e' : eqD (.str w) (.str kCall) = some false := by rw [e]; simp [c]
      simp [lcP, e20, opIx, seqOf, ix0, opEq, view, e', ih]
def mb : MS := (sIf (tVal (eOp2 opIn (eBor 12) (eBor 10))) (sAsg (eFrz (lAdd (eBor 10) (eFrz (lLc (iSeq (eVar 13)) (gNm 20) (tAnd (tVal (eOp2 opEq (eOp2 opIx (eBor 20) (eC (.int 0))) (eC (.str [99, 97, 108, 108])))) (tVal (eOp2 opNotIn (eOp2 opIx (eBor 20) (eC (.int 2))) (eBor 10)))) (eOp2 opIx (eBor 20) (eC (.int 2))) [20])))) (gNm 10)) sNext)
def rb : MS := (sFor (iSeq (eVar 8)) (gTp [(gNm 12), (gNm 13)]) mb)
def B6 : MS := (sFor (iRng (eC (.int 9))) (gNm 11) rb)
theorem mb_step {many k : Int} {rows : List D} (h0 : 0 ≤ k) (hr : ∀ r ∈ rows, WR many r) (hl : rows.length ≤ 12) (M : List Int) (hM : M.length ≤ 9000) (s : Sto) :
    mb (L a0 a1 a2 a3 a4 a5 a6 a7 a8 a9 (.val (.lst (M.map .int))) a11 (.val (.int k)) (.val (.tup rows)) a14 a15 a16 a17 a18 .emp .emp) s = .nx (L a0 a1 a2 a3 a4 a5 a6 a7 a8 a9 (.val (.lst ((stepM M (k.toNat, callsOf rows)).map .int))) a11 (.val (.int k)) (.val (.tup rows)) a14 a15 a16 a17 a18 .emp .emp) s := by
  have hin := (in_ints s k M).1
  have ek : ((k.toNat : Nat) : Int) = k := by omega
  by_cases c : k ∈ M
  · have lc := s_lLc (iSeq (eVar 13)) (gNm 20) (tAnd (tVal (eOp2 opEq (eOp2 opIx (eBor 20) (eC (.int 0))) (eC (.str [99, 97, 108, 108])))) (tVal (eOp2 opNotIn (eOp2 opIx (eBor 20) (eC (.int 2))) (eBor 10)))) (eOp2 opIx (eBor 20) (eC (.int 2))) [20] (L a0 a1 a2 a3 a4 a5 a6 a7 a8 a9 (.val (.lst (M.map .int))) a11 (.val (.int k)) (.val (.tup rows)) a14 a15 a16 a17 a18 .emp .emp) s s rows rfl (len_cap (by omega))
    rw [flt_loop M _ rfl (by simp [wipeE]) rows s hr] at lc
    have hs : stepM M (k.toNat, callsOf rows) = M ++ fresh M (callsOf rows) := by
      unfold stepM
      rw [ek, if_pos c]
    have hc : M.length + (fresh M (callsOf rows)).length ≤ cap := by
      have : (fresh M (callsOf rows)).length ≤ (callsOf rows).length := List.length_filter_le _ _
      have := calls_len rows
      unfold cap; omega
    rw [hs]
    simp [mb, opIn, hin, c, lc, view, hc]
  · have hs : stepM M (k.toNat, callsOf rows) = M := by
      unfold stepM
      rw [ek, if_neg c]
    rw [hs]
    simp [mb, opIn, hin, c]
theorem mb_loop {many : Int} : ∀ (l : List D) (M : List Int) (z12 z13 : Slot) (s : Sto), (∀ d ∈ l, PR' many d) → M.length + 12 * l.length ≤ 9000 →
    ∃ y12 y13, forP (gTp [(gNm 12), (gNm 13)]) mb l (L a0 a1 a2 a3 a4 a5 a6 a7 a8 a9 (.val (.lst (M.map .int))) a11 z12 z13 a14 a15 a16 a17 a18 .emp .emp) s = .nx (L a0 a1 a2 a3 a4 a5 a6 a7 a8 a9 (.val (.lst (((l.map pq).foldl stepM M).map .int))) a11 y12 y13 a14 a15 a16 a17 a18 .emp .emp) s
  | [], M, z12, z13, s, _, _ => ⟨z12, z13, rfl⟩
  | d :: l, M, z12, z13, s, h, hl => by
    obtain ⟨k, rows, rfl, h0, h1, hl2, hr⟩ := h d List.mem_cons_self
    simp only [List.length_cons] at hl
    have sl := stepM_len M (k.toNat, callsOf rows) (Nat.le_trans (calls_len rows) hl2)
    obtain ⟨y12, y13, e⟩ := mb_loop l (stepM M (k.toNat, callsOf rows)) (.val (.int k)) (.val (.tup rows)) s (fun x m => h x (List.mem_cons_of_mem _ m)) (by omega)
    refine ⟨y12, y13, ?_⟩
    have st := mb_step (a0 := a0) (a1 := a1) (a2 := a2) (a3 := a3) (a4 := a4) (a5 := a5) (a6 := a6) (a7 := a7) (a8 := a8) (a9 := a9) (a11 := a11) (a14 := a14) (a15 := a15) (a16 := a16) (a17 := a17) (a18 := a18) h0 hr hl2 M (by omega) s
    have e2 : (List.map pq (D.tup [D.int k, D.tup rows] :: l)).foldl stepM M = (l.map pq).foldl stepM (stepM M (k.toNat, callsOf rows)) := rfl
    rw [e2, ← e]
    simp only [forP, s_gTp, s_gAll1, s_gNm, Option.bind_some, s_gAll0, List.set_cons_succ, List.set_cons_zero, st]
theorem rb_loop {many : Int} {P : List D} (hp : ∀ d ∈ P, PR' many d) (hl : P.length ≤ 32) (hq : ∀ q ∈ P.map pq, q.2.length ≤ 12) : ∀ (l : List D) (M : List Int) (z11 z12 z13 : Slot) (s : Sto), M.length + l.length * (12 * 32) ≤ 8000 →
    ∃ y11 y12 y13, forP (gNm 11) rb l (L a0 a1 a2 a3 a4 a5 a6 a7 (.val (.lst P)) a9 (.val (.lst (M.map .int))) z11 z12 z13 a14 a15 a16 a17 a18 .emp .emp) s = .nx (L a0 a1 a2 a3 a4 a5 a6 a7 (.val (.lst P)) a9 (.val (.lst ((roundsM (P.map pq) l.length M).map .int))) y11 y12 y13 a14 a15 a16 a17 a18 .emp .emp) s
  | [], M, z11, z12, z13, s, _ => ⟨z11, z12, z13, rfl⟩
  | x :: l, M, z11, z12, z13, s, h => by
    simp only [List.length_cons, Nat.succ_mul] at h
    have fl := fold_len (P.map pq) M hq
    rw [List.length_map] at fl
    obtain ⟨y12, y13, e⟩ := mb_loop (a0 := a0) (a1 := a1) (a2 := a2) (a3 := a3) (a4 := a4) (a5 := a5) (a6 := a6) (a7 := a7) (a8 := .val (.lst P)) (a9 := a9) (a11 := .val x) (a14 := a14) (a15 := a15) (a16 := a16) (a17 := a17) (a18 := a18) P M z12 z13 s hp (by omega)
    obtain ⟨w11, w12, w13, e2⟩ := rb_loop hp hl hq l ((P.map pq).foldl stepM M) (.val x) y12 y13 s (by omega)
    refine ⟨w11, w12, w13, ?_⟩
    have st : rb (L a0 a1 a2 a3 a4 a5 a6 a7 (.val (.lst P)) a9 (.val (.lst (M.map .int))) (.val x) z12 z13 a14 a15 a16 a17 a18 .emp .emp) s = _ := (s_sFor (iSeq (eVar 8)) (gTp [(gNm 12), (gNm 13)]) mb _ s s P rfl).trans e
    have e3 : roundsM (P.map pq) (x :: l).length M = roundsM (P.map pq) l.length ((P.map pq).foldl stepM M) := rfl
    rw [e3, ← e2]
    simp only [forP, s_gNm, List.set_cons_succ, List.set_cons_zero, st]
theorem b6_ok {many : Int} {P : List D} (hp : ∀ d ∈ P, PR' many d) (hl : P.length ≤ 32) (hq : ∀ q ∈ P.map pq, q.2.length ≤ 12) (M : List Int) (hM : M.length ≤ 8) (s : Sto) :
    ∃ y11 y12 y13, B6 (L a0 a1 a2 a3 a4 a5 a6 a7 (.val (.lst P)) a9 (.val (.lst (M.map .int))) a11 a12 a13 a14 a15 a16 a17 a18 .emp .emp) s = .nx (L a0 a1 a2 a3 a4 a5 a6 a7 (.val (.lst P)) a9 (.val (.lst ((roundsM (P.map pq) 9 M).map .int))) y11 y12 y13 a14 a15 a16 a17 a18 .emp .emp) s := by
  obtain ⟨y11, y12, y13, e⟩ := rb_loop (a0 := a0) (a1 := a1) (a2 := a2) (a3 := a3) (a4 := a4) (a5 := a5) (a6 := a6) (a7 := a7) (a9 := a9) (a14 := a14) (a15 := a15) (a16 := a16) (a17 := a17) (a18 := a18) hp hl hq (intsD 0 9) M a11 a12 a13 s (by rw [ints_len]; omega)
  rw [ints_len] at e
  exact ⟨y11, y12, y13, (s_sFor (iRng (eC (.int 9))) (gNm 11) rb _ s s (intsD 0 9) (rng (k := 9) rfl (by omega) (by omega))).trans e⟩
end
end K16

/-! The plain law of k16, part 13: a turn to its end. Own text. -/
namespace K16
open MP
section
variable {a0 a1 a2 a3 a4 a5 a6 a7 a8 a9 a10 a11 a12 a13 a14 a15 a16 a17 a18 : Slot} {n : Nat}
def B7 : MS := (sOwn (lLst aNil) 14)
theorem b7_ok (s : Sto) : B7 (L a0 a1 a2 a3 a4 a5 a6 a7 a8 a9 a10 a11 a12 a13 a14 a15 a16 a17 a18 .emp .emp) s = .nx (L a0 a1 a2 a3 a4 a5 a6 a7 a8 a9 a10 a11 a12 a13 (.own []) a15 a16 a17 a18 .emp .emp) s := by simp [B7]
def db : MS := (sApp 14 (eIf (tVal (eOp2 opIn (eBor 12) (eBor 7))) (eC (.str [104, 111, 108, 100, 115])) (eIf (tVal (eOp2 opIn (eBor 12) (eBor 10))) (eC (.str [109, 97, 121])) (eC (.str [110, 101, 118, 101, 114])))))
def B8 : MS := (sFor (iRng (eOp1 opLen (eBor 3))) (gNm 12) db)
theorem db_loop (sm M : List Int) (s : Sto) : ∀ (l : List D) (acc : List D) (z12 : Slot), (∀ d ∈ l, ∃ k : Int, d = .int k) → acc.length + l.length ≤ 100 →
    ∃ y12, forP (gNm 12) db l (L a0 a1 a2 a3 a4 a5 a6 (.val (.tup (sm.map .int))) a8 a9 (.val (.lst (M.map .int))) a11 z12 a13 (.own acc) a15 a16 a17 a18 .emp .emp) s = .nx (L a0 a1 a2 a3 a4 a5 a6 (.val (.tup (sm.map .int))) a8 a9 (.val (.lst (M.map .int))) a11 y12 a13 (.own (acc ++ l.map (dueF sm M))) a15 a16 a17 a18 .emp .emp) s
  | [], acc, z12, _, _ => ⟨z12, by simp [forP]⟩
  | d :: l, acc, z12, h, hl => by
    obtain ⟨k, rfl⟩ := h d List.mem_cons_self
    simp only [List.length_cons] at hl
    obtain ⟨y12, e⟩ := db_loop sm M s l (acc ++ [dueF sm M (.int k)]) (.val (.int k)) (fun x m => h x (List.mem_cons_of_mem _ m)) (by simp; omega)
    refine ⟨y12, ?_⟩
    have i1 := (in_ints s k sm).2
    have i2 := (in_ints s k M).1
    have hc : acc.length < cap := by unfold cap; omega
    have st : db (L a0 a1 a2 a3 a4 a5 a6 (.val (.tup (sm.map .int))) a8 a9 (.val (.lst (M.map .int))) a11 (.val (.int k)) a13 (.own acc) a15 a16 a17 a18 .emp .emp) s = .nx (L a0 a1 a2 a3 a4 a5 a6 (.val (.tup (sm.map .int))) a8 a9 (.val (.lst (M.map .int))) a11 (.val (.int k)) a13 (.own (acc ++ [dueF sm M (.int k)])) a15 a16 a17 a18 .emp .emp) s := by
      by_cases c1 : k ∈ sm
      · simp [db, opIn, i1, c1, hc, dueF, wordOf, d_HOLDS]
      · by_cases c2 : k ∈ M <;> simp [db, opIn, i1, i2, c1, c2, hc, dueF, wordOf, d_MAY, d_NEVER]
    have e2 : acc ++ (D.int k :: l).map (dueF sm M) = acc ++ [dueF sm M (.int k)] ++ l.map (dueF sm M) := by simp
    rw [e2, ← e]
    simp only [forP, s_gNm, List.set_cons_succ, List.set_cons_zero, st]
theorem b8_ok {ts : List D} (t1 : ts.length ≤ 8) (sm M : List Int) (s : Sto) : ∃ y12, B8 (L a0 a1 a2 (.val (.lst ts)) a4 a5 a6 (.val (.tup (sm.map .int))) a8 a9 (.val (.lst (M.map .int))) a11 a12 a13 (.own []) a15 a16 a17 a18 .emp .emp) s = .nx (L a0 a1 a2 (.val (.lst ts)) a4 a5 a6 (.val (.tup (sm.map .int))) a8 a9 (.val (.lst (M.map .int))) a11 y12 a13 (.own (due sm M ts.length)) a15 a16 a17 a18 .emp .emp) s := by
  obtain ⟨y12, e⟩ := db_loop (a0 := a0) (a1 := a1) (a2 := a2) (a3 := .val (.lst ts)) (a4 := a4) (a5 := a5) (a6 := a6) (a8 := a8) (a9 := a9) (a11 := a11) (a13 := a13) (a15 := a15) (a16 := a16) (a17 := a17) (a18 := a18) sm M s (intsD 0 ts.length) [] a12 (fun d m => let ⟨k, e, _⟩ := ints_mem m; ⟨k, e⟩) (by rw [ints_len]; simp; omega)
  have hn : (ts.length : Int).toNat = ts.length := by omega
  have f := s_sFor (iRng (eOp1 opLen (eBor 3))) (gNm 12) db (L a0 a1 a2 (.val (.lst ts)) a4 a5 a6 (.val (.tup (sm.map .int))) a8 a9 (.val (.lst (M.map .int))) a11 a12 a13 (.own []) a15 a16 a17 a18 .emp .emp) s s (intsD 0 (ts.length : Int).toNat) (rng (by simp [opLen, seqOf]) (by omega) (by omega))
  rw [hn] at f
  exact ⟨y12, f.trans e⟩
def B9 : MS := (sFrz 14)
theorem b9_ok {ds : List D} (s : Sto) : B9 (L a0 a1 a2 a3 a4 a5 a6 a7 a8 a9 a10 a11 a12 a13 (.own ds) a15 a16 a17 a18 .emp .emp) s = .nx (L a0 a1 a2 a3 a4 a5 a6 a7 a8 a9 a10 a11 a12 a13 (.val (.lst ds)) a15 a16 a17 a18 .emp .emp) s := by simp [B9]
def B10 : MS := (sAsg (eFrz (lLst (aCons (eFrz (lOf (eBor 3))) (aCons (eFrz (lOf (eBor 6))) aNil)))) (gNm 15))
theorem b10_ok {ts chs : List D} (s : Sto) : B10 (L a0 a1 a2 (.val (.lst ts)) a4 a5 (.val (.lst chs)) a7 a8 a9 a10 a11 a12 a13 a14 a15 a16 a17 a18 .emp .emp) s = .nx (L a0 a1 a2 (.val (.lst ts)) a4 a5 (.val (.lst chs)) a7 a8 a9 a10 a11 a12 a13 a14 (.val (.lst [.lst ts, .lst chs])) a16 a17 a18 .emp .emp) s := by simp [B10, seqOf]
def ab : MS := (sSeq (sAsg (eCall f_words (aCons (eOp2 opIx (eBor 15) (eC (.int 0))) (aCons (eOp2 opIx (eBor 15) (eC (.int 1))) (aCons (eVar 7) aNil)))) (gNm 17)) (sSeq (sIf (tOr (tNot (tVal (eCall (f_law_like 6) (aCons (eVar 17) (aCons (eVar 14) aNil))))) (tVal (eOp2 opNe (eBor 15) (eFrz (lLst (aCons (eVar 3) (aCons (eVar 6) aNil))))))) (sRet (eC (.bl false))) sNext) (sDrop (eClrL (eVar 17)))))
def B11 : MS := (sFor (iRng (eC (.int 2))) (gNm 16) ab)
/-- what is alike of two ways along calls -/
theorem due_same {ps : List Q} {m : Nat} {sm M M' : List Int} (w : WI ps m sm M) (c : Closed ps M) (w' : WI ps m sm M') (c' : Closed ps M') : due sm M m = due sm M' m := by
  unfold due
  refine List.map_congr_left fun d hd => ?_
  obtain ⟨k, rfl, _⟩ := ints_mem hd
  show wordOf sm M k = wordOf sm M' k
  have : k ∈ M ↔ k ∈ M' := ⟨fun h => w.snd M' c' w'.sub k h, fun h => w'.snd M c w.sub k h⟩
  unfold wordOf
  by_cases h : k ∈ M
  · simp [h, this.mp h]
  · have h' : k ∉ M' := fun z => h (this.mpr z)
    simp [h, h']
theorem ix0' (a b : D) : ixD [a, b] 0 = some a := rfl
theorem ix1' (a b : D) : ixD [a, b] 1 = some b := rfl
structure Hyp (ts chs : List D) (sm : List Int) (goods : Int) : Prop where
  t0 : 1 ≤ ts.length
  t1 : ts.length ≤ 8
  c1 : chs.length ≤ 3
  g1 : goods ≤ 4
  tx : ∀ t ∈ ts, TX (ts.length : Int) goods t
  ch : ∀ c ∈ chs, CH (ts.length : Int) c
  sr : ∀ v ∈ sm, 0 ≤ v ∧ v < (ts.length : Int)
  sl : sm.length ≤ 8
theorem ab_step {ts chs : List D} {sm M : List Int} {goods : Int} (h : Hyp ts chs sm goods) (w : WI (qs ts chs) ts.length sm M) (c : Closed (qs ts chs) M) (s : Sto) :
    ∃ y17 s', ab (L a0 a1 a2 (.val (.lst ts)) a4 a5 (.val (.lst chs)) (.val (.tup (sm.map .int))) a8 a9 a10 a11 a12 a13 (.val (.lst (due sm M ts.length))) (.val (.lst [.lst ts, .lst chs])) a16 a17 a18 .emp .emp) s = .nx (L a0 a1 a2 (.val (.lst ts)) a4 a5 (.val (.lst chs)) (.val (.tup (sm.map .int))) a8 a9 a10 a11 a12 a13 (.val (.lst (due sm M ts.length))) (.val (.lst [.lst ts, .lst chs])) a16 y17 a18 .emp .emp) s' ∧ Gr s s' := by
  obtain ⟨r, s1, M', e1, e2, f1, hr, w', c'⟩ := words_ok h.t0 h.t1 h.c1 h.g1 h.tx h.ch h.sr h.sl s
  rw [due_same w' c' w c] at e2
  have hl : (due sm M ts.length).length ≤ 1000 := by
    unfold due
    rw [List.length_map, ints_len]
    have := h.t1
    omega
  have e3 := like_ok 4 r (due sm M ts.length) hl (words_due sm M ts.length) s1 e2
  have e4 := same_handed h.tx h.ch
  have e5 : f_law_like 6 [.ref r, .lst (due sm M ts.length)] s1 = .ok (.bl true) s1 := e3
  refine ⟨.val (.ref r), s1.set r (.lst []), ?_, ⟨by simp only [List.length_set]; exact f1.1, fun j hj => by
    rw [List.getElem?_set_ne (by omega)]
    exact f1.2 j hj⟩⟩
  simp [ab, opIx, seqOf, ix0', ix1', e1, e5, opNe, view, e4, eClrL, plAt, plOf, e2, clrAt, putL]
theorem ab_loop {ts chs : List D} {sm M : List Int} {goods : Int} (h : Hyp ts chs sm goods) (w : WI (qs ts chs) ts.length sm M) (c : Closed (qs ts chs) M) : ∀ (l : List D) (z16 z17 : Slot) (s : Sto),
    ∃ y16 y17 s', forP (gNm 16) ab l (L a0 a1 a2 (.val (.lst ts)) a4 a5 (.val (.lst chs)) (.val (.tup (sm.map .int))) a8 a9 a10 a11 a12 a13 (.val (.lst (due sm M ts.length))) (.val (.lst [.lst ts, .lst chs])) z16 z17 a18 .emp .emp) s = .nx (L a0 a1 a2 (.val (.lst ts)) a4 a5 (.val (.lst chs)) (.val (.tup (sm.map .int))) a8 a9 a10 a11 a12 a13 (.val (.lst (due sm M ts.length))) (.val (.lst [.lst ts, .lst chs])) y16 y17 a18 .emp .emp) s' ∧ Gr s s'
  | [], z16, z17, s => ⟨z16, z17, s, rfl, Gr.refl s⟩
  | x :: l, z16, z17, s => by
    obtain ⟨y17, s1, e1, f1⟩ := ab_step (a0 := a0) (a1 := a1) (a2 := a2) (a4 := a4) (a5 := a5) (a8 := a8) (a9 := a9) (a10 := a10) (a11 := a11) (a12 := a12) (a13 := a13) (a16 := .val x) (a17 := z17) (a18 := a18) h w c s
    obtain ⟨w16, w17, s2, e2, f2⟩ := ab_loop h w c l (.val x) y17 s1
    refine ⟨w16, w17, s2, ?_, f1.trans f2⟩
    rw [← e2]
    simp only [forP, s_gNm, List.set_cons_succ, List.set_cons_zero, e1]
theorem b11_ok {ts chs : List D} {sm M : List Int} {goods : Int} (h : Hyp ts chs sm goods) (w : WI (qs ts chs) ts.length sm M) (c : Closed (qs ts chs) M) (s : Sto) :
    ∃ y16 y17 s', B11 (L a0 a1 a2 (.val (.lst ts)) a4 a5 (.val (.lst chs)) (.val (.tup (sm.map .int))) a8 a9 a10 a11 a12 a13 (.val (.lst (due sm M ts.length))) (.val (.lst [.lst ts, .lst chs])) a16 a17 a18 .emp .emp) s = .nx (L a0 a1 a2 (.val (.lst ts)) a4 a5 (.val (.lst chs)) (.val (.tup (sm.map .int))) a8 a9 a10 a11 a12 a13 (.val (.lst (due sm M ts.length))) (.val (.lst [.lst ts, .lst chs])) y16 y17 a18 .emp .emp) s' ∧ Gr s s' := by
  obtain ⟨y16, y17, s', e, f⟩ := ab_loop (a0 := a0) (a1 := a1) (a2 := a2) (a4 := a4) (a5 := a5) (a8 := a8) (a9 := a9) (a10 := a10) (a11 := a11) (a12 := a12) (a13 := a13) (a18 := a18) h w c (intsD 0 2) a16 a17 s
  exact ⟨y16, y17, s', (s_sFor (iRng (eC (.int 2))) (gNm 16) ab _ s s (intsD 0 2) (rng (k := 2) rfl (by omega) (by omega))).trans e, f⟩
def B12 : MS := (sAsg (eFrz (lAdd (eFrz (lSl (eBor 3) oNone (oSome (eOp1 opNeg (eC (.int 1)))))) (eFrz (lLst (aCons (eOp2 opAdd (eSlT (eOp2 opIx (eBor 3) (eOp1 opNeg (eC (.int 1)))) oNone (oSome (eOp1 opNeg (eC (.int 1))))) (eTup (aCons (eTup (aCons (eC (.str [115, 101, 116])) (aCons (eC (.int 4)) (aCons (eTup (aCons (eC (.str [110, 117, 109])) (aCons (eC (.int 0)) aNil))) aNil)))) aNil))) aNil))))) (gNm 18))
theorem cut_last (l : List D) (x : D) : cutD (l ++ [x]) none (some (-1)) = l := by
  have h1 : ((-1 : Int) + ((l ++ [x]).length : Int)).toNat = l.length := by simp only [List.length_append, List.length_singleton]; omega
  have h2 : (-1 : Int) < 0 := by omega
  simp only [cutD, partIx, h2, if_true, h1]
  simp
theorem ix_last (l : List D) (x : D) : ixD (l ++ [x]) (-1) = some x := by
  have h0 : ¬ (0 ≤ (-1 : Int)) := by omega
  have h1 : -(((l ++ [x]).length : Nat) : Int) ≤ -1 := by simp only [List.length_append, List.length_singleton]; omega
  have h2 : ((-1 : Int) + (((l ++ [x]).length : Nat) : Int)).toNat = l.length := by simp only [List.length_append, List.length_singleton]; omega
  simp only [ixD, place, h0, if_false, h1, if_true, h2, Option.bind_some]
  simp
theorem b12_ok {pre rows : List D} {x : D} (hp : pre.length ≤ 8) (hr : rows.length ≤ 12) (s : Sto) : B12 (L a0 a1 a2 (.val (.lst (pre ++ [.tup (rows ++ [x])]))) a4 a5 a6 a7 a8 a9 a10 a11 a12 a13 a14 a15 a16 a17 a18 .emp .emp) s = .nx (L a0 a1 a2 (.val (.lst (pre ++ [.tup (rows ++ [x])]))) a4 a5 a6 a7 a8 a9 a10 a11 a12 a13 a14 a15 a16 a17 (.val (.lst (pre ++ [.tup (rows ++ [badRow])]))) .emp .emp) s := by
  have h1 : rows.length + 1 ≤ cap := len_cap (by omega)
  have h2 : pre.length + 1 ≤ cap := len_cap (by omega)
  simp [B12, opNeg, view, cut_last, opIx, seqOf, ix_last, opAdd, h1, h2, badRow]
def B13 : MS := (sIf (tVal (eOp2 opNe (eTold (eCall f_words (aCons (eVar 18) (aCons (eFrz (lLst aNil)) (aCons (eTup aNil) aNil)))) h_law_told 5 1 [1]) (eTup (aCons (eC (.str [114, 101, 102, 117, 115, 101, 100])) (aCons (eC (.str [116, 101, 120, 116, 115])) (aCons (eOp2 opSub (eOp1 opLen (eBor 3)) (eC (.int 1))) (aCons (eOp2 opSub (eOp1 opLen (eOp2 opIx (eBor 3) (eOp1 opNeg (eC (.int 1))))) (eC (.int 1))) aNil))))))) (sRet (eC (.bl false))) sNext)
theorem eq_told (d r : Int) : eqD (.tup [.str [114, 101, 102, 117, 115, 101, 100], .str [116, 101, 120, 116, 115], .int d, .int r]) (.tup [.str [114, 101, 102, 117, 115, 101, 100], .str [116, 101, 120, 116, 115], .int d, .int r]) = some true := by
  simp [eqD, D.fit, D.fits, D.eqv, D.eqvs]
theorem b13_ok {pre rows : List D} {x : D} {goods : Int} (m1 : pre.length + 1 ≤ 8) (ht : goods ≤ 4) (h : ∀ t ∈ pre, TX (((pre.length + 1 : Nat) : Int)) goods t) (hl : rows.length < 12) (hg : ∀ d ∈ rows, GR ⟨((pre.length + 1 : Nat) : Int), goods, 0, (rows.length : Int) + 2⟩ [] d) (s : Sto) :
    ∃ s', B13 (L a0 a1 a2 (.val (.lst (pre ++ [.tup (rows ++ [x])]))) a4 a5 a6 a7 a8 a9 a10 a11 a12 a13 a14 a15 a16 a17 (.val (.lst (pre ++ [.tup (rows ++ [badRow])]))) .emp .emp) s = .nx (L a0 a1 a2 (.val (.lst (pre ++ [.tup (rows ++ [x])]))) a4 a5 a6 a7 a8 a9 a10 a11 a12 a13 a14 a15 a16 a17 (.val (.lst (pre ++ [.tup (rows ++ [badRow])]))) .emp .emp) s' ∧ Gr s s' := by
  obtain ⟨s', e, f⟩ := words_bad rfl (by omega) ht h hl hg s
  refine ⟨s', ?_, f⟩
  have t := told_texts (pre.length : Nat) (rows.length : Nat) s'
  have e1 : eTold (eCall f_words (aCons (eVar 18) (aCons (eFrz (lLst aNil)) (aCons (eTup aNil) aNil)))) h_law_told 5 1 [1] (L a0 a1 a2 (.val (.lst (pre ++ [.tup (rows ++ [x])]))) a4 a5 a6 a7 a8 a9 a10 a11 a12 a13 a14 a15 a16 a17 (.val (.lst (pre ++ [.tup (rows ++ [badRow])]))) .emp .emp) s = .ok (.tup [.str [114, 101, 102, 117, 115, 101, 100], .str [116, 101, 120, 116, 115], .int (pre.length : Nat), .int (rows.length : Nat)]) s' := by
    unfold eTold
    simp only [s_eCall, s_aCons, s_eVar, List.getElem?_cons_succ, List.getElem?_cons_zero, Res.bind_ok, s_eFrz, s_lLst, s_aNil, s_eTup, List.length_nil, Nat.zero_le, if_true, e, List.mem_singleton, t]
  have n1 : (pre.length : Int) + 1 - 1 = (pre.length : Int) := by omega
  have n2 : (rows.length : Int) + 1 - 1 = (rows.length : Int) := by omega
  simp [B13, e1, opLen, seqOf, opSub, opIx, opNeg, ix_last, n1, n2, opNe, view, eq_told]
end
end K16

/-! The plain law of k16, whole. Own text. -/
namespace K16
open MP
def tb : MS := sSeq B0 (sSeq B1 (sSeq B2 (sSeq B3 (sSeq B4 (sSeq B5 (sSeq B6 (sSeq B7 (sSeq B8 (sSeq B9 (sSeq B10 (sSeq B11 (sSeq B12 B13))))))))))))
def fin3 : MS := (sRet (eOp2 opEq (eTold (eCall f_words (aCons (eFrz (lLst aNil)) (aCons (eFrz (lLst aNil)) (aCons (eTup aNil) aNil)))) h_law_told 5 1 [1]) (eTup (aCons (eC (.str [114, 101, 102, 117, 115, 101, 100])) (aCons (eC (.str [116, 101, 120, 116, 115])) (aCons (eC (.int 0)) (aCons (eOp1 opNeg (eC (.int 1))) aNil)))))))
theorem law_eq : f_law = runB 1 21 (sSeq (sAsg (eCall f_law_dice (aCons (eVar 0) aNil)) (gNm 1)) (sSeq (sFor (iRng (eC (.int 3))) (gNm 2) tb) fin3)) := rfl
theorem gr_dice {s s' : Sto} {n : Nat} (g : Gr s s') (h : Dice s n) : Dice s' n := by
  obtain ⟨ns, i, c, a, hi, e⟩ := h
  have hn := (List.getElem?_eq_some_iff.mp e).1
  exact ⟨ns, i, c, a, hi, (g.2 n hn).trans e⟩
theorem seq_nx' {a b : MS} {e e1 : Env} {s s1 : Sto} {r : SRes} (h : a e s = .nx e1 s1) (k : b e1 s1 = r) : sSeq a b e s = r := (seq_nx h).trans k
theorem snoc_of {α : Type} : ∀ (l : List α), 1 ≤ l.length → ∃ p x, l = p ++ [x]
  | [], h => by simp at h
  | [a], _ => ⟨[], a, rfl⟩
  | a :: b :: r, _ => by
    obtain ⟨p, x, e⟩ := snoc_of (b :: r) (by simp)
    exact ⟨a :: p, x, by rw [e]; rfl⟩
theorem turn_ok {n : Nat} (a0 a2 a3 a4 a5 a6 a7 a8 a9 a10 a11 a12 a13 a14 a15 a16 a17 a18 : Slot) (s : Sto) (hd : Dice s n) : ∃ (z3 z4 z5 z6 z7 z8 z9 z10 z11 z12 z13 z14 z15 z16 z17 z18 : Slot) (s' : Sto),
    tb (L a0 (.val (.ref n)) a2 a3 a4 a5 a6 a7 a8 a9 a10 a11 a12 a13 a14 a15 a16 a17 a18 .emp .emp) s = .nx (L a0 (.val (.ref n)) a2 z3 z4 z5 z6 z7 z8 z9 z10 z11 z12 z13 z14 z15 z16 z17 z18 .emp .emp) s' ∧ Dice s' n := by
  obtain ⟨goods, z5, ts, s1, e0, g0, g1, t0, t1, tx, f0⟩ := b0_ok (a0 := a0) (a2 := a2) (a3 := a3) (a4 := a4) (a5 := a5) (a6 := a6) (a7 := a7) (a8 := a8) (a9 := a9) (a10 := a10) (a11 := a11) (a12 := a12) (a13 := a13) (a14 := a14) (a15 := a15) (a16 := a16) (a17 := a17) (a18 := a18) s hd
  obtain ⟨chs, s2, e1, c1, ch, f1⟩ := b1_ok (a0 := a0) (a2 := a2) (a5 := z5) (a6 := a6) (a7 := a7) (a8 := a8) (a9 := a9) (a10 := a10) (a11 := a11) (a12 := a12) (a13 := a13) (a14 := a14) (a15 := a15) (a16 := a16) (a17 := a17) (a18 := a18) g0 g1 t0 t1 s1 f0.1
  obtain ⟨sm, s3, e2, sl, sr, f2⟩ := b2_ok (a0 := a0) (a2 := a2) (a4 := .val (.int goods)) (a5 := z5) (a6 := .val (.lst chs)) (a7 := a7) (a8 := a8) (a9 := a9) (a10 := a10) (a11 := a11) (a12 := a12) (a13 := a13) (a14 := a14) (a15 := a15) (a16 := a16) (a17 := a17) (a18 := a18) t1 s2 f1.1
  have e3 := b3_ok (a0 := a0) (a1 := .val (.ref n)) (a2 := a2) (a4 := .val (.int goods)) (a5 := z5) (a6 := .val (.lst chs)) (a7 := .val (.tup (sm.map .int))) (a8 := a8) (a9 := a9) (a10 := a10) (a11 := a11) (a12 := a12) (a13 := a13) (a14 := a14) (a15 := a15) (a16 := a16) (a17 := a17) (a18 := a18) t1 s3
  obtain ⟨y9, e4⟩ := b4_ok (a0 := a0) (a1 := .val (.ref n)) (a2 := a2) (a3 := .val (.lst ts)) (a4 := .val (.int goods)) (a5 := z5) (a7 := .val (.tup (sm.map .int))) (a9 := a9) (a10 := a10) (a11 := a11) (a12 := a12) (a13 := a13) (a14 := a14) (a15 := a15) (a16 := a16) (a17 := a17) (a18 := a18) t1 c1 ch s3
  have e5 := b5_ok (a0 := a0) (a1 := .val (.ref n)) (a2 := a2) (a3 := .val (.lst ts)) (a4 := .val (.int goods)) (a5 := z5) (a6 := .val (.lst chs)) (a8 := .val (.lst (prs ts chs))) (a9 := y9) (a10 := a10) (a11 := a11) (a12 := a12) (a13 := a13) (a14 := a14) (a15 := a15) (a16 := a16) (a17 := a17) (a18 := a18) (sm := sm) s3
  obtain ⟨y11, y12, y13, e6⟩ := b6_ok (a0 := a0) (a1 := .val (.ref n)) (a2 := a2) (a3 := .val (.lst ts)) (a4 := .val (.int goods)) (a5 := z5) (a6 := .val (.lst chs)) (a7 := .val (.tup (sm.map .int))) (a9 := y9) (a11 := a11) (a12 := a12) (a13 := a13) (a14 := a14) (a15 := a15) (a16 := a16) (a17 := a17) (a18 := a18) (prs_ok tx ch) (prs_len t1 c1 ch) (fun q hq => (qs_ok tx ch q hq).2.1) sm sl s3
  obtain ⟨w, cl⟩ := rounds_end (ps := qs ts chs) (m := ts.length) (sm := sm) (fun q hq => (qs_ok tx ch q hq).2.2) 9 sm (by have := miss_top ts.length sm; omega) ⟨sr, fun v h => h, fun C _ h => h⟩
  have H : Hyp ts chs sm goods := ⟨t0, t1, c1, g1, tx, ch, sr, sl⟩
  have e7 := b7_ok (a0 := a0) (a1 := .val (.ref n)) (a2 := a2) (a3 := .val (.lst ts)) (a4 := .val (.int goods)) (a5 := z5) (a6 := .val (.lst chs)) (a7 := .val (.tup (sm.map .int))) (a8 := .val (.lst (prs ts chs))) (a9 := y9) (a10 := .val (.lst ((roundsM (qs ts chs) 9 sm).map .int))) (a11 := y11) (a12 := y12) (a13 := y13) (a14 := a14) (a15 := a15) (a16 := a16) (a17 := a17) (a18 := a18) s3
  obtain ⟨w12, e8⟩ := b8_ok (a0 := a0) (a1 := .val (.ref n)) (a2 := a2) (a4 := .val (.int goods)) (a5 := z5) (a6 := .val (.lst chs)) (a8 := .val (.lst (prs ts chs))) (a9 := y9) (a11 := y11) (a12 := y12) (a13 := y13) (a15 := a15) (a16 := a16) (a17 := a17) (a18 := a18) t1 sm (roundsM (qs ts chs) 9 sm) s3
  have e9 := b9_ok (a0 := a0) (a1 := .val (.ref n)) (a2 := a2) (a3 := .val (.lst ts)) (a4 := .val (.int goods)) (a5 := z5) (a6 := .val (.lst chs)) (a7 := .val (.tup (sm.map .int))) (a8 := .val (.lst (prs ts chs))) (a9 := y9) (a10 := .val (.lst ((roundsM (qs ts chs) 9 sm).map .int))) (a11 := y11) (a12 := w12) (a13 := y13) (a15 := a15) (a16 := a16) (a17 := a17) (a18 := a18) (ds := due sm (roundsM (qs ts chs) 9 sm) ts.length) s3
  have e10 := b10_ok (a0 := a0) (a1 := .val (.ref n)) (a2 := a2) (a4 := .val (.int goods)) (a5 := z5) (a7 := .val (.tup (sm.map .int))) (a8 := .val (.lst (prs ts chs))) (a9 := y9) (a10 := .val (.lst ((roundsM (qs ts chs) 9 sm).map .int))) (a11 := y11) (a12 := w12) (a13 := y13) (a14 := .val (.lst (due sm (roundsM (qs ts chs) 9 sm) ts.length))) (a15 := a15) (a16 := a16) (a17 := a17) (a18 := a18) (ts := ts) (chs := chs) s3
  obtain ⟨y16, y17, s4, e11, f11⟩ := b11_ok (a0 := a0) (a1 := .val (.ref n)) (a2 := a2) (a4 := .val (.int goods)) (a5 := z5) (a8 := .val (.lst (prs ts chs))) (a9 := y9) (a10 := .val (.lst ((roundsM (qs ts chs) 9 sm).map .int))) (a11 := y11) (a12 := w12) (a13 := y13) (a16 := a16) (a17 := a17) (a18 := a18) H w cl s3
  obtain ⟨pre, t, ht⟩ : ∃ pre t, ts = pre ++ [t] := snoc_of ts t0
  subst ht
  have hlen : (pre ++ [t]).length = pre.length + 1 := by simp
  obtain ⟨rows', et, r0, r1, rg⟩ := tx t (by simp)
  subst et
  obtain ⟨rows, x, hr⟩ : ∃ rows x, rows' = rows ++ [x] := snoc_of rows' r0
  subst hr
  have hrl : (rows ++ [x]).length = rows.length + 1 := by simp
  have e12 := b12_ok (a0 := a0) (a1 := .val (.ref n)) (a2 := a2) (a4 := .val (.int goods)) (a5 := z5) (a6 := .val (.lst chs)) (a7 := .val (.tup (sm.map .int))) (a8 := .val (.lst (prs (pre ++ [.tup (rows ++ [x])]) chs))) (a9 := y9) (a10 := .val (.lst ((roundsM (qs (pre ++ [.tup (rows ++ [x])]) chs) 9 sm).map .int))) (a11 := y11) (a12 := w12) (a13 := y13) (a14 := .val (.lst (due sm (roundsM (qs (pre ++ [.tup (rows ++ [x])]) chs) 9 sm) (pre ++ [D.tup (rows ++ [x])]).length))) (a15 := .val (.lst [.lst (pre ++ [.tup (rows ++ [x])]), .lst chs])) (a16 := y16) (a17 := y17) (a18 := a18) (pre := pre) (rows := rows) (x := x) (by omega) (by omega) s4
  obtain ⟨s5, e13, f13⟩ := b13_ok (a0 := a0) (a1 := .val (.ref n)) (a2 := a2) (a4 := .val (.int goods)) (a5 := z5) (a6 := .val (.lst chs)) (a7 := .val (.tup (sm.map .int))) (a8 := .val (.lst (prs (pre ++ [.tup (rows ++ [x])]) chs))) (a9 := y9) (a10 := .val (.lst ((roundsM (qs (pre ++ [.tup (rows ++ [x])]) chs) 9 sm).map .int))) (a11 := y11) (a12 := w12) (a13 := y13) (a14 := .val (.lst (due sm (roundsM (qs (pre ++ [.tup (rows ++ [x])]) chs) 9 sm) (pre ++ [D.tup (rows ++ [x])]).length))) (a15 := .val (.lst [.lst (pre ++ [.tup (rows ++ [x])]), .lst chs])) (a16 := y16) (a17 := y17) (pre := pre) (rows := rows) (x := x) (goods := goods) (by omega) g1 (fun t' m => by
      have := tx t' (List.mem_append_left _ m)
      rw [hlen] at this
      exact this) (by omega) (fun d hd => by
      have := rg d (List.mem_append_left _ hd)
      rw [hrl, hlen] at this
      have e : (((rows.length + 1 : Nat) : Int) + 1) = (rows.length : Int) + 2 := by omega
      rw [e] at this
      exact this) s4
  have run : tb (L a0 (.val (.ref n)) a2 a3 a4 a5 a6 a7 a8 a9 a10 a11 a12 a13 a14 a15 a16 a17 a18 .emp .emp) s = _ := seq_nx' e0 (seq_nx' e1 (seq_nx' e2 (seq_nx' e3 (seq_nx' e4 (seq_nx' e5 (seq_nx' e6 (seq_nx' e7 (seq_nx' e8 (seq_nx' e9 (seq_nx' e10 (seq_nx' e11 (seq_nx' e12 e13))))))))))))
  exact ⟨_, _, _, _, _, _, _, _, _, _, _, _, _, _, _, _, s5, run, gr_dice (f11.trans f13) f2.1⟩
theorem turns_loop {n : Nat} (a0 : Slot) : ∀ (l : List D) (a2 a3 a4 a5 a6 a7 a8 a9 a10 a11 a12 a13 a14 a15 a16 a17 a18 : Slot) (s : Sto), Dice s n → ∃ e' s', forP (gNm 2) tb l (L a0 (.val (.ref n)) a2 a3 a4 a5 a6 a7 a8 a9 a10 a11 a12 a13 a14 a15 a16 a17 a18 .emp .emp) s = .nx e' s'
  | [], a2, a3, a4, a5, a6, a7, a8, a9, a10, a11, a12, a13, a14, a15, a16, a17, a18, s, hd => ⟨_, s, rfl⟩
  | x :: l, a2, a3, a4, a5, a6, a7, a8, a9, a10, a11, a12, a13, a14, a15, a16, a17, a18, s, hd => by
    obtain ⟨z3, z4, z5, z6, z7, z8, z9, z10, z11, z12, z13, z14, z15, z16, z17, z18, s1, e1, d1⟩ := turn_ok a0 (.val x) a3 a4 a5 a6 a7 a8 a9 a10 a11 a12 a13 a14 a15 a16 a17 a18 s hd
    obtain ⟨e', s2, e2⟩ := turns_loop a0 l (.val x) z3 z4 z5 z6 z7 z8 z9 z10 z11 z12 z13 z14 z15 z16 z17 z18 s1 d1
    refine ⟨e', s2, ?_⟩
    rw [← e2]
    simp only [forP, s_gNm, List.set_cons_succ, List.set_cons_zero, e1]
theorem fin_ok (e : Env) (s : Sto) : fin3 e s = .rt (.bl true) s := by
  have t := told_texts 0 (-1) s
  have w := words_none s
  have e1 : eTold (eCall f_words (aCons (eFrz (lLst aNil)) (aCons (eFrz (lLst aNil)) (aCons (eTup aNil) aNil)))) h_law_told 5 1 [1] e s = .ok (.tup [.str [114, 101, 102, 117, 115, 101, 100], .str [116, 101, 120, 116, 115], .int 0, .int (-1)]) s := by
    unfold eTold
    simp only [s_eCall, s_aCons, Res.bind_ok, s_eFrz, s_lLst, s_aNil, s_eTup, List.length_nil, Nat.zero_le, if_true, w, List.mem_singleton, t]
  simp [fin3, e1, opNeg, opEq, view, eq_told]
theorem plain (ns : List Int) (_ : ns.length ≤ 63) : ∃ s, f_law [.scr ns] [] = .ok (.bl true) s := by
  obtain ⟨s0, e0, d0, _, _⟩ := dice_ok ns []
  obtain ⟨e, s', h⟩ := turns_loop (.val (.scr ns)) (intsD 0 3) .emp .emp .emp .emp .emp .emp .emp .emp .emp .emp .emp .emp .emp .emp .emp .emp .emp s0 d0
  refine ⟨s', ?_⟩
  have f := s_sFor (iRng (eC (.int 3))) (gNm 2) tb (L (.val (.scr ns)) (.val (.ref 0)) .emp .emp .emp .emp .emp .emp .emp .emp .emp .emp .emp .emp .emp .emp .emp .emp .emp .emp .emp) s0 s0 (intsD 0 3) (rng (k := 3) rfl (by omega) (by omega))
  have h' : forP (gNm 2) tb (intsD 0 3) (L (.val (.scr ns)) (.val (.ref 0)) .emp .emp .emp .emp .emp .emp .emp .emp .emp .emp .emp .emp .emp .emp .emp .emp .emp .emp .emp) s0 = .nx e s' := h
  rw [h'] at f
  rw [law_eq]
  simp only [s_runB, List.length_cons, List.length_nil, if_true, List.map_cons, List.map_nil, s_sSeq, s_sAsg, s_eCall, s_aCons, s_eVar, List.cons_append, List.nil_append, List.getElem?_cons_zero, Res.bind_ok, s_aNil, e0, Res.go_ok, s_putE, s_gNm, SRes.andThen_nx]
  have f2 : sFor (iRng (eC (.int 3))) (gNm 2) tb ([Slot.val (D.scr ns), Slot.val (D.ref 0)] ++ List.replicate 19 .emp) s0 = .nx e s' := f
  simp only [List.replicate, List.cons_append, List.nil_append, List.set_cons_succ, List.set_cons_zero, List.length_nil] at f2 ⊢
  simp only [f2, SRes.andThen_nx, fin_ok]
end K16

/-! The walk of the law, printed by gen.py. Own text. -/
namespace K16
open PySem L2 TL MP
def top (i : Nat) : Stmt := PySem.Challenge.pw_changemill_k16_which_deeds_lead_where.main.body.getD i (.Pass ⟨0, 0, 0, 0⟩)
def st_law_dice : Stmt := top 40
def N_law_dice : List Str := ["_law_script", "_law_mixed", "_law_cell"]
theorem nd_law_dice : N_law_dice.Nodup := by decide +kernel
def st_law_next : Stmt := top 41
def N_law_next : List Str := ["_law_dice_here", "_law_many", "_law_found", "_law_cell"]
theorem nd_law_next : N_law_next.Nodup := by decide +kernel
def st_law_part : Stmt := top 43
def N_law_part : List Str := ["_law_d", "_law_deep", "_law_g", "_law_way"]
theorem nd_law_part : N_law_part.Nodup := by decide +kernel
def st_law_row : Stmt := top 44
def N_law_row : List Str := ["_law_d", "_law_many", "_law_g", "_law_way", "_law_name"]
theorem nd_law_row : N_law_row.Nodup := by decide +kernel
def st_law_text : Stmt := top 45
def N_law_text : List Str := ["_law_d", "_law_g", "_law_many", "_law_k"]
theorem nd_law_text : N_law_text.Nodup := by decide +kernel
def st_law_texts : Stmt := top 46
def N_law_texts : List Str := ["_law_d", "_law_many", "_law_goods", "_law_texts_here", "_law_k"]
theorem nd_law_texts : N_law_texts.Nodup := by decide +kernel
def st_law_lines : Stmt := top 47
def N_law_lines : List Str := ["_law_d", "_law_g", "_law_is_first", "_law_found", "_law_k", "_law_row_here"]
theorem nd_law_lines : N_law_lines.Nodup := by decide +kernel
def st_law_change : Stmt := top 48
def N_law_change : List Str := ["_law_d", "_law_many", "_law_goods", "_law_owned", "_law_marks", "_law_g", "_law_first", "_law_deeds", "_law_texts_here", "_law_mark", "_law_deed"]
theorem nd_law_change : N_law_change.Nodup := by decide +kernel
def st_BadTexts___init__ : Stmt := inClass (top 3) 0
def N_BadTexts___init__ : List Str := ["self", "deed", "row"]
theorem nd_BadTexts___init__ : N_BadTexts___init__.Nodup := by decide +kernel
def st_Rules___init__ : Stmt := inClass (top 29) 0
def N_Rules___init__ : List Str := ["self", "words", "deeds", "things", "marks", "rows"]
theorem nd_Rules___init__ : N_Rules___init__.Nodup := by decide +kernel
def st_Rules_is_number : Stmt := inClass (top 29) 1
def N_Rules_is_number : List Str := ["self", "kind", "number"]
theorem nd_Rules_is_number : N_Rules_is_number.Nodup := by decide +kernel
def st_Rules_are_good : Stmt := inClass (top 29) 2
def N_Rules_are_good : List Str := ["self", "kinds", "things", "deep", "kind", "thing", "good"]
theorem nd_Rules_are_good : N_Rules_are_good.Nodup := by decide +kernel
def st_Rules_is_part : Stmt := inClass (top 29) 3
def N_Rules_is_part : List Str := ["self", "part", "deep", "word", "things"]
theorem nd_Rules_is_part : N_Rules_is_part.Nodup := by decide +kernel
def st_Rules_is_row : Stmt := inClass (top 29) 4
def N_Rules_is_row : List Str := ["self", "row", "word", "things"]
theorem nd_Rules_is_row : N_Rules_is_row.Nodup := by decide +kernel
def st_first_bad : Stmt := top 30
def N_first_bad : List Str := ["rows", "rules", "most", "number", "row"]
theorem nd_first_bad : N_first_bad.Nodup := by decide +kernel
def st_fault : Stmt := top 31
def N_fault : List Str := ["text", "words", "deeds", "things", "marks", "rules"]
theorem nd_fault : N_fault.Nodup := by decide +kernel
def st_need_texts : Stmt := top 32
def N_need_texts : List Str := ["texts", "things", "deed", "text", "row"]
theorem nd_need_texts : N_need_texts.Nodup := by decide +kernel
def st_leads : Stmt := top 37
def N_leads : List Str := ["texts", "changes", "found", "rows", "deed", "text", "change", "pair", "row"]
theorem nd_leads : N_leads.Nodup := by decide +kernel
def st_words : Stmt := top 38
def N_words : List Str := ["texts", "changes", "some", "further", "met", "at", "deed"]
theorem nd_words : N_words.Nodup := by decide +kernel
def st_law_like : Stmt := top 42
def N_law_like : List Str := ["_law_found", "_law_due", "_law_k"]
theorem nd_law_like : N_law_like.Nodup := by decide +kernel
def st_law : Stmt := top 50
def N_law : List Str := ["_law_script", "_law_d", "_law_turn", "_law_texts_here", "_law_goods", "_law_men", "_law_changes", "_law_some", "_law_pairs", "_law_change_here", "_law_met", "_law_more", "_law_deed", "_law_text_here", "_law_due", "_law_handed", "_law_again", "_law_found", "_law_bad", "_law_k", "_law_row_here"]
theorem nd_law : N_law.Nodup := by decide +kernel
def st_law_told : Stmt := top 49
def N_law_told : List Str := ["_law_work", "e", "_law_kinds", "_law_terms", "_law_term"]
theorem nd_law_told : N_law_told.Nodup := by decide +kernel
def kws_Rules___init__ (K : PySem.W.Frag) : List (Str × V) := [("deeds", V.int 8), ("things", V.int 4), ("marks", V.ref (kdAt ("Rules", some "__init__") "marks" K)), ("rows", V.int 12)]
def kws_first_bad (K : PySem.W.Frag) : List (Str × V) := [("most", V.int 12)]
def kws_fault (K : PySem.W.Frag) : List (Str × V) := [("deeds", V.int 8), ("things", V.int 4), ("marks", V.ref (kdAt ("fault", none) "marks" K))]
def kws_need_texts (K : PySem.W.Frag) : List (Str × V) := [("things", V.int 4)]
structure Tx (K : PySem.W.Frag) (w : World) (mg : Str → Option Value) (base : Heap) (C : MP.Tab) (A : Nat → Addr) : Prop where
  g_law_dice : mg "_law_dice" = some (.ref (A 0))
  k_law_dice : PySem.W.keepIn K (.ref (A 0)) = true
  f_law_dice : ∃ fd, FunD K "_law_dice" "_law_dice" (defArgs st_law_dice) (defBody st_law_dice) (defScope st_law_dice) [] [] (A 0) fd
  g_law_next : mg "_law_next" = some (.ref (A 1))
  k_law_next : PySem.W.keepIn K (.ref (A 1)) = true
  f_law_next : ∃ fd, FunD K "_law_next" "_law_next" (defArgs st_law_next) (defBody st_law_next) (defScope st_law_next) [] [] (A 1) fd
  g_law_part : mg "_law_part" = some (.ref (A 2))
  k_law_part : PySem.W.keepIn K (.ref (A 2)) = true
  f_law_part : ∃ fd, FunD K "_law_part" "_law_part" (defArgs st_law_part) (defBody st_law_part) (defScope st_law_part) [] [] (A 2) fd
  g_law_row : mg "_law_row" = some (.ref (A 3))
  k_law_row : PySem.W.keepIn K (.ref (A 3)) = true
  f_law_row : ∃ fd, FunD K "_law_row" "_law_row" (defArgs st_law_row) (defBody st_law_row) (defScope st_law_row) [] [] (A 3) fd
  g_law_text : mg "_law_text" = some (.ref (A 4))
  k_law_text : PySem.W.keepIn K (.ref (A 4)) = true
  f_law_text : ∃ fd, FunD K "_law_text" "_law_text" (defArgs st_law_text) (defBody st_law_text) (defScope st_law_text) [] [] (A 4) fd
  g_law_texts : mg "_law_texts" = some (.ref (A 5))
  k_law_texts : PySem.W.keepIn K (.ref (A 5)) = true
  f_law_texts : ∃ fd, FunD K "_law_texts" "_law_texts" (defArgs st_law_texts) (defBody st_law_texts) (defScope st_law_texts) [] [] (A 5) fd
  g_law_lines : mg "_law_lines" = some (.ref (A 6))
  k_law_lines : PySem.W.keepIn K (.ref (A 6)) = true
  f_law_lines : ∃ fd, FunD K "_law_lines" "_law_lines" (defArgs st_law_lines) (defBody st_law_lines) (defScope st_law_lines) [] [] (A 6) fd
  g_law_change : mg "_law_change" = some (.ref (A 7))
  k_law_change : PySem.W.keepIn K (.ref (A 7)) = true
  f_law_change : ∃ fd, FunD K "_law_change" "_law_change" (defArgs st_law_change) (defBody st_law_change) (defScope st_law_change) [] [] (A 7) fd
  f_BadTexts___init__ : ∃ fd, FunD K "__init__" "BadTexts.__init__" (defArgs st_BadTexts___init__) (defBody st_BadTexts___init__) (defScope st_BadTexts___init__) [] [] (A 8) fd
  f_Rules___init__ : ∃ fd, FunD K "__init__" "Rules.__init__" (defArgs st_Rules___init__) (defBody st_Rules___init__) (defScope st_Rules___init__) [] (kws_Rules___init__ K) (A 9) fd
  dq_Rules___init___marks : ∀ q : Stt, RD K q (.tup []) (V.ref (kdAt ("Rules", some "__init__") "marks" K))
  me_Rules_is_number : Meth K (C 16) (Str.ofString "is_number") (A 10)
  f_Rules_is_number : ∃ fd, FunD K "is_number" "Rules.is_number" (defArgs st_Rules_is_number) (defBody st_Rules_is_number) (defScope st_Rules_is_number) [] [] (A 10) fd
  me_Rules_are_good : Meth K (C 16) (Str.ofString "are_good") (A 11)
  f_Rules_are_good : ∃ fd, FunD K "are_good" "Rules.are_good" (defArgs st_Rules_are_good) (defBody st_Rules_are_good) (defScope st_Rules_are_good) [] [] (A 11) fd
  me_Rules_is_part : Meth K (C 16) (Str.ofString "is_part") (A 12)
  f_Rules_is_part : ∃ fd, FunD K "is_part" "Rules.is_part" (defArgs st_Rules_is_part) (defBody st_Rules_is_part) (defScope st_Rules_is_part) [] [] (A 12) fd
  me_Rules_is_row : Meth K (C 16) (Str.ofString "is_row") (A 13)
  f_Rules_is_row : ∃ fd, FunD K "is_row" "Rules.is_row" (defArgs st_Rules_is_row) (defBody st_Rules_is_row) (defScope st_Rules_is_row) [] [] (A 13) fd
  g_first_bad : mg "first_bad" = some (.ref (A 14))
  k_first_bad : PySem.W.keepIn K (.ref (A 14)) = true
  f_first_bad : ∃ fd, FunD K "first_bad" "first_bad" (defArgs st_first_bad) (defBody st_first_bad) (defScope st_first_bad) [] (kws_first_bad K) (A 14) fd
  g_fault : mg "fault" = some (.ref (A 15))
  k_fault : PySem.W.keepIn K (.ref (A 15)) = true
  f_fault : ∃ fd, FunD K "fault" "fault" (defArgs st_fault) (defBody st_fault) (defScope st_fault) [] (kws_fault K) (A 15) fd
  dq_fault_marks : ∀ q : Stt, RD K q (.tup []) (V.ref (kdAt ("fault", none) "marks" K))
  g_need_texts : mg "need_texts" = some (.ref (A 16))
  k_need_texts : PySem.W.keepIn K (.ref (A 16)) = true
  f_need_texts : ∃ fd, FunD K "need_texts" "need_texts" (defArgs st_need_texts) (defBody st_need_texts) (defScope st_need_texts) [] (kws_need_texts K) (A 16) fd
  g_leads : mg "leads" = some (.ref (A 17))
  k_leads : PySem.W.keepIn K (.ref (A 17)) = true
  f_leads : ∃ fd, FunD K "leads" "leads" (defArgs st_leads) (defBody st_leads) (defScope st_leads) [] [] (A 17) fd
  g_words : mg "words" = some (.ref (A 18))
  k_words : PySem.W.keepIn K (.ref (A 18)) = true
  f_words : ∃ fd, FunD K "words" "words" (defArgs st_words) (defBody st_words) (defScope st_words) [] [] (A 18) fd
  g_law_like : mg "_law_like" = some (.ref (A 19))
  k_law_like : PySem.W.keepIn K (.ref (A 19)) = true
  f_law_like : ∃ fd, FunD K "_law_like" "_law_like" (defArgs st_law_like) (defBody st_law_like) (defScope st_law_like) [] [] (A 19) fd
  g_law : mg "law" = some (.ref (A 20))
  k_law : PySem.W.keepIn K (.ref (A 20)) = true
  f_law : ∃ fd, FunD K "law" "law" (defArgs st_law) (defBody st_law) (defScope st_law) [] [] (A 20) fd
  aa_law : A 20 = He.fAd K ("law", none)
  tb_law : LamX.TabB base mg (He.codeOf K ("law", none)) (He.tabOf K (He.codeOf K ("law", none)))
  ct_law : (He.tabOf K (He.codeOf K ("law", none)), Str.ofString "law.<locals>.<lambda>") ∈ C.t
  cu_law : ∀ p ∈ C.t, p.1 = He.tabOf K (He.codeOf K ("law", none)) → p.2 = Str.ofString "law.<locals>.<lambda>"
  g_law_told : mg "_law_told" = some (.ref (A 21))
  k_law_told : PySem.W.keepIn K (.ref (A 21)) = true
  f_law_told : ∃ fd, FunD K "_law_told" "_law_told" (defArgs st_law_told) (defBody st_law_told) (defScope st_law_told) [] [] (A 21) fd
  gc_MillError : mg "MillError" = some (.ref (C 0))
  gc_BadTexts : mg "BadTexts" = some (.ref (C 1))
  gc_NoHand : mg "NoHand" = some (.ref (C 2))
  gc_NoRoom : mg "NoRoom" = some (.ref (C 3))
  gc_BadMill : mg "BadMill" = some (.ref (C 4))
  gc_BadNumber : mg "BadNumber" = some (.ref (C 5))
  gc_NoDeed : mg "NoDeed" = some (.ref (C 6))
  gc_Within : mg "Within" = some (.ref (C 7))
  gc_BadChange : mg "BadChange" = some (.ref (C 8))
  gc_Full : mg "Full" = some (.ref (C 9))
  gc_Underway : mg "Underway" = some (.ref (C 10))
  gc_NoCell : mg "NoCell" = some (.ref (C 11))
  gc_NoChange : mg "NoChange" = some (.ref (C 12))
  gc_Unmet : mg "Unmet" = some (.ref (C 13))
  gc_BadText : mg "BadText" = some (.ref (C 14))
  gc_BadBook : mg "BadBook" = some (.ref (C 15))
  gc_Rules : mg "Rules" = some (.ref (C 16))
  cl_Rules : Cls K (C 16)
  mk_Rules : Mk K (C 16) (A 9)
  ba_MillError : BaseI K (C 0)
  xo_BadTexts : ExO K (C 1) ["deed", "row"]
  ii_BadTexts : PySem.W.findIn K (.ref (C 1)) "__init__" = some (some (.ref (A 8))) ∧ PySem.W.typeIn K (.ref (A 8)) = some (.type "function")
  is_NoHand : ∀ c b, ([(1, false)] : List (Nat × Bool)).lookup c = some b → ExcC K (C c) ∧ PySem.W.kitOne K (.ref (C c)) (.ref (C 2)) = some b
  is_NoRoom : ∀ c b, ([(1, false)] : List (Nat × Bool)).lookup c = some b → ExcC K (C c) ∧ PySem.W.kitOne K (.ref (C c)) (.ref (C 3)) = some b
  is_BadTexts : ∀ c b, ([(1, true)] : List (Nat × Bool)).lookup c = some b → ExcC K (C c) ∧ PySem.W.kitOne K (.ref (C c)) (.ref (C 1)) = some b
  is_BadMill : ∀ c b, ([(1, false)] : List (Nat × Bool)).lookup c = some b → ExcC K (C c) ∧ PySem.W.kitOne K (.ref (C c)) (.ref (C 4)) = some b
  is_BadNumber : ∀ c b, ([(1, false)] : List (Nat × Bool)).lookup c = some b → ExcC K (C c) ∧ PySem.W.kitOne K (.ref (C c)) (.ref (C 5)) = some b
  is_NoDeed : ∀ c b, ([(1, false)] : List (Nat × Bool)).lookup c = some b → ExcC K (C c) ∧ PySem.W.kitOne K (.ref (C c)) (.ref (C 6)) = some b
  is_Within : ∀ c b, ([(1, false)] : List (Nat × Bool)).lookup c = some b → ExcC K (C c) ∧ PySem.W.kitOne K (.ref (C c)) (.ref (C 7)) = some b
  is_BadChange : ∀ c b, ([(1, false)] : List (Nat × Bool)).lookup c = some b → ExcC K (C c) ∧ PySem.W.kitOne K (.ref (C c)) (.ref (C 8)) = some b
  is_Full : ∀ c b, ([(1, false)] : List (Nat × Bool)).lookup c = some b → ExcC K (C c) ∧ PySem.W.kitOne K (.ref (C c)) (.ref (C 9)) = some b
  is_Underway : ∀ c b, ([(1, false)] : List (Nat × Bool)).lookup c = some b → ExcC K (C c) ∧ PySem.W.kitOne K (.ref (C c)) (.ref (C 10)) = some b
  is_NoCell : ∀ c b, ([(1, false)] : List (Nat × Bool)).lookup c = some b → ExcC K (C c) ∧ PySem.W.kitOne K (.ref (C c)) (.ref (C 11)) = some b
  is_NoChange : ∀ c b, ([(1, false)] : List (Nat × Bool)).lookup c = some b → ExcC K (C c) ∧ PySem.W.kitOne K (.ref (C c)) (.ref (C 12)) = some b
  is_Unmet : ∀ c b, ([(1, false)] : List (Nat × Bool)).lookup c = some b → ExcC K (C c) ∧ PySem.W.kitOne K (.ref (C c)) (.ref (C 13)) = some b
  is_BadText : ∀ c b, ([(1, false)] : List (Nat × Bool)).lookup c = some b → ExcC K (C c) ∧ PySem.W.kitOne K (.ref (C c)) (.ref (C 14)) = some b
  is_BadBook : ∀ c b, ([(1, false)] : List (Nat × Bool)).lookup c = some b → ExcC K (C c) ∧ PySem.W.kitOne K (.ref (C c)) (.ref (C 15)) = some b
  is_ValueError : ∀ c b, ([(1, true)] : List (Nat × Bool)).lookup c = some b → ExcC K (C c) ∧ PySem.W.kitOne K (.ref (C c)) (.type "ValueError") = some b
  xf_word : ∀ c ∈ ([] : List Nat), XfC K (C c) ∧ PySem.W.findIn K (.ref (C c)) (Str.ofString "word") = some none
  xf_row : ∀ c ∈ ([1] : List Nat), XfC K (C c) ∧ PySem.W.findIn K (.ref (C c)) (Str.ofString "row") = some none
  xf_deed : ∀ c ∈ ([1] : List Nat), XfC K (C c) ∧ PySem.W.findIn K (.ref (C c)) (Str.ofString "deed") = some none
  xf_event : ∀ c ∈ ([] : List Nat), XfC K (C c) ∧ PySem.W.findIn K (.ref (C c)) (Str.ofString "event") = some none
  em_law_told : ∀ c ∈ ([1] : List Nat), PySem.W.exmOne K (.ref (C c)) (.ref (C 0)) = some true
  na_Rules_words : NoAttr K (C 16) (Str.ofString "words")
  na_Rules_marks : NoAttr K (C 16) (Str.ofString "marks")
  na_Rules_limits : NoAttr K (C 16) (Str.ofString "limits")
  b_isinstance : mg "isinstance" = none
  b_ValueError : mg "ValueError" = none
  b_int : mg "int" = none
  b_len : mg "len" = none
  b_tuple : mg "tuple" = none
  b_range : mg "range" = none
  b_sorted : mg "sorted" = none
  b_set : mg "set" = none
  b_zip : mg "zip" = none
  b_enumerate : mg "enumerate" = none
  b_min : mg "min" = none
  b_list : mg "list" = none
  b_bool : mg "bool" = none
  b_str : mg "str" = none
  q_MARKS : ∃ u, mg "MARKS" = some u ∧ KVal K 6 u d_MARKS = true
  q_FIELDS : ∃ u, mg "FIELDS" = some u ∧ KVal K 6 u d_FIELDS = true
  q_NAMES : ∃ u, mg "NAMES" = some u ∧ KVal K 6 u d_NAMES = true
  q_BEYOND : ∃ u, mg "BEYOND" = some u ∧ KVal K 6 u d_BEYOND = true
  q_PARTS : ∃ a, mg "PARTS" = some (.ref a) ∧ KDic K w a t_PARTS
  q_MOST_DEEP : ∃ u, mg "MOST_DEEP" = some u ∧ KVal K 6 u d_MOST_DEEP = true
  q_ROWS : ∃ a, mg "ROWS" = some (.ref a) ∧ KDic K w a t_ROWS
  q_MOST_ROWS : ∃ u, mg "MOST_ROWS" = some u ∧ KVal K 6 u d_MOST_ROWS = true
  q_MOST_DEEDS : ∃ u, mg "MOST_DEEDS" = some u ∧ KVal K 6 u d_MOST_DEEDS = true
  q_OWN_WORDS : ∃ u, mg "OWN_WORDS" = some u ∧ KVal K 6 u d_OWN_WORDS = true
  q_HOLDS : ∃ u, mg "HOLDS" = some u ∧ KVal K 6 u d_HOLDS = true
  q_MAY : ∃ u, mg "MAY" = some u ∧ KVal K 6 u d_MAY = true
  q_NEVER : ∃ u, mg "NEVER" = some u ∧ KVal K 6 u d_NEVER = true
section
variable {P : Program} {w : World} {K : PySem.W.Frag} {mg : Str → Option Value} {base : Heap} {C : MP.Tab} {A : Nat → Addr}
theorem s_law_told (T : Tx K w mg base C A) (cdg : Value) (Ar : Around) (outer : List PySem.Env) (s : Shared) (H : Hp) (a : Addr) (oe : Obj) (cls : Value) (d : Option Addr) (pn : List (Addr × Obj)) (hz : Zc cls d oe) (hf : ∃ vs, oe.data = .fields vs) (hr : Room 0 (Ar.deeper (PyProof.Rows.envOfC "_law_told" (defScope st_law_told) s.heap.objs.size (A 21) cdg))) :
    GSs ((cxOf C8.CX0 P w K mg base N_law_told "_law_told" (defScope st_law_told) (A 21) cdg Ar outer s H C8.E0).nox.suite a ((a, oe) :: pn)) (suiteC C 1 a cls d) W0 (hdBody (defBody st_law_told)) h_law_told := by
  have hu := hr.units
  have hv := hu_of hr
  have hu5 := Room65 hr
  exact (gss_cons (gs_frz (i := 2) (pn_set 2 (gl_lst (ga_cons (ge_isX 1 (v := .ref (C 4)) (cv := .ref (C 4)) [(1, false)] hz hf suiteC_z T.b_isinstance (fun _ h => h) (pe_glob rfl T.gc_BadMill rfl) T.is_BadMill) (ga_cons (ge_isX 1 (v := .ref (C 1)) (cv := .ref (C 1)) [(1, true)] hz hf suiteC_z T.b_isinstance (fun _ h => h) (pe_glob rfl T.gc_BadTexts rfl) T.is_BadTexts) (ga_cons (ge_isX 1 (v := .ref (C 3)) (cv := .ref (C 3)) [(1, false)] hz hf suiteC_z T.b_isinstance (fun _ h => h) (pe_glob rfl T.gc_NoRoom rfl) T.is_NoRoom) (ga_cons (ge_isX 1 (v := .ref (C 2)) (cv := .ref (C 2)) [(1, false)] hz hf suiteC_z T.b_isinstance (fun _ h => h) (pe_glob rfl T.gc_NoHand rfl) T.is_NoHand) ga_nil))))) nd_law_told)) (gss_cons (gs_frz (i := 2) (pn_set 2 (gl_add (gb_var 2) (gb_of (ge_frz (gl_lst (ga_cons (ge_isX 1 (v := .ref (C 7)) (cv := .ref (C 7)) [(1, false)] hz hf suiteC_z T.b_isinstance (fun _ h => h) (pe_glob rfl T.gc_Within rfl) T.is_Within) (ga_cons (ge_isX 1 (v := .ref (C 6)) (cv := .ref (C 6)) [(1, false)] hz hf suiteC_z T.b_isinstance (fun _ h => h) (pe_glob rfl T.gc_NoDeed rfl) T.is_NoDeed) (ga_cons (ge_isX 1 (v := .ref (C 5)) (cv := .ref (C 5)) [(1, false)] hz hf suiteC_z T.b_isinstance (fun _ h => h) (pe_glob rfl T.gc_BadNumber rfl) T.is_BadNumber) ga_nil))))))) nd_law_told)) (gss_cons (gs_frz (i := 2) (pn_set 2 (gl_add (gb_var 2) (gb_of (ge_frz (gl_lst (ga_cons (ge_isX 1 (v := .ref (C 10)) (cv := .ref (C 10)) [(1, false)] hz hf suiteC_z T.b_isinstance (fun _ h => h) (pe_glob rfl T.gc_Underway rfl) T.is_Underway) (ga_cons (ge_isX 1 (v := .ref (C 9)) (cv := .ref (C 9)) [(1, false)] hz hf suiteC_z T.b_isinstance (fun _ h => h) (pe_glob rfl T.gc_Full rfl) T.is_Full) (ga_cons (ge_isX 1 (v := .ref (C 8)) (cv := .ref (C 8)) [(1, false)] hz hf suiteC_z T.b_isinstance (fun _ h => h) (pe_glob rfl T.gc_BadChange rfl) T.is_BadChange) ga_nil))))))) nd_law_told)) (gss_cons (gs_frz (i := 2) (pn_set 2 (gl_add (gb_var 2) (gb_of (ge_frz (gl_lst (ga_cons (ge_isX 1 (v := .ref (C 13)) (cv := .ref (C 13)) [(1, false)] hz hf suiteC_z T.b_isinstance (fun _ h => h) (pe_glob rfl T.gc_Unmet rfl) T.is_Unmet) (ga_cons (ge_isX 1 (v := .ref (C 12)) (cv := .ref (C 12)) [(1, false)] hz hf suiteC_z T.b_isinstance (fun _ h => h) (pe_glob rfl T.gc_NoChange rfl) T.is_NoChange) (ga_cons (ge_isX 1 (v := .ref (C 11)) (cv := .ref (C 11)) [(1, false)] hz hf suiteC_z T.b_isinstance (fun _ h => h) (pe_glob rfl T.gc_NoCell rfl) T.is_NoCell) ga_nil))))))) nd_law_told)) (gss_cons (gs_frz (i := 2) (pn_set 2 (gl_add (gb_var 2) (gb_of (ge_frz (gl_lst (ga_cons (ge_isX 1 (v := .ref (C 15)) (cv := .ref (C 15)) [(1, false)] hz hf suiteC_z T.b_isinstance (fun _ h => h) (pe_glob rfl T.gc_BadBook rfl) T.is_BadBook) (ga_cons (ge_isX 1 (v := .ref (C 14)) (cv := .ref (C 14)) [(1, false)] hz hf suiteC_z T.b_isinstance (fun _ h => h) (pe_glob rfl T.gc_BadText rfl) T.is_BadText) ga_nil)))))) nd_law_told)) (gss_cons (gs_if (gt_w (gw_or (gt_cmp (op_neA hu) simNe rfl (gb_of (ge_cnt hu5 (gb_var 2) ge_bl)) (gb_of ge_int)) (gw_or1 (gt_not (gt_val (ge_isX 1 (v := .ty "ValueError") (cv := .type "ValueError") [(1, true)] hz hf suiteC_z T.b_isinstance (fun _ h => h) (pe_bltn rfl T.b_ValueError (by decide +kernel) rfl) T.is_ValueError)))))) (gss_one (gs_ret (ge_tup (ga_cons (ge_str [114, 101, 102, 117, 115, 101, 100]) (ga_cons (ge_str [111, 116, 104, 101, 114]) ga_nil))))) gss_nil) (gss_cons (gs_frz (i := 3) (pn_set 3 (gl_lst (ga_cons (ge_str [109, 105, 108, 108]) (ga_cons (ge_str [116, 101, 120, 116, 115]) (ga_cons (ge_str [114, 111, 111, 109]) (ga_cons (ge_str [104, 97, 110, 100]) (ga_cons (ge_str [119, 105, 116, 104, 105, 110]) (ga_cons (ge_str [100, 101, 101, 100]) (ga_cons (ge_str [110, 117, 109, 98, 101, 114]) (ga_cons (ge_str [117, 110, 100, 101, 114, 119, 97, 121]) (ga_cons (ge_str [102, 117, 108, 108]) (ga_cons (ge_str [99, 104, 97, 110, 103, 101]) (ga_cons (ge_str [117, 110, 109, 101, 116]) ga_nil)))))))))))) nd_law_told)) (gss_cons (gs_set 4 (ge_ix (gb_of (ge_frz (gl_add (gb_var 3) (gb_of (ge_frz (gl_lst (ga_cons (ge_str [110, 111, 99, 104, 97, 110, 103, 101]) (ga_cons (ge_str [99, 101, 108, 108]) (ga_cons (ge_str [98, 111, 111, 107]) (ga_cons (ge_str [116, 101, 120, 116]) ga_nil)))))))))) (gb_of (ge_idx hu5 (gb_var 2) ge_bl))) nd_law_told) (gss_cons (gs_if (gt_cmp op_inA simIn rfl (gb_var 4) (gb_of (ge_tup (ga_cons (ge_str [109, 105, 108, 108]) (ga_cons (ge_str [99, 104, 97, 110, 103, 101]) ga_nil))))) (gss_one (gs_ret (ge_tup (ga_cons (ge_str [114, 101, 102, 117, 115, 101, 100]) (ga_cons (ge_var 4) (ga_cons (ge_xf 1 "word" [] rfl hz hf suiteC_z T.xf_word) ga_nil)))))) gss_nil) (gss_cons (gs_if (gt_cmp (op_eqA hu) simEq rfl (gb_var 4) (gb_of (ge_str [116, 101, 120, 116, 115]))) (gss_one (gs_ret (ge_tup (ga_cons (ge_str [114, 101, 102, 117, 115, 101, 100]) (ga_cons (ge_var 4) (ga_cons (ge_xf 1 "deed" [1] rfl hz hf suiteC_z T.xf_deed) (ga_cons (ge_xf 1 "row" [1] rfl hz hf suiteC_z T.xf_row) ga_nil))))))) gss_nil) (gss_cons (gs_if (gt_cmp (op_eqA hu) simEq rfl (gb_var 4) (gb_of (ge_str [98, 111, 111, 107]))) (gss_one (gs_ret (ge_tup (ga_cons (ge_str [114, 101, 102, 117, 115, 101, 100]) (ga_cons (ge_var 4) (ga_cons (ge_xf 1 "event" [] rfl hz hf suiteC_z T.xf_event) ga_nil)))))) gss_nil) (gss_one (gs_ret (ge_if (gt_cmp op_inA simIn rfl (gb_var 4) (gb_of (ge_tup (ga_cons (ge_str [117, 110, 109, 101, 116]) (ga_cons (ge_str [116, 101, 120, 116]) ga_nil))))) (ge_tup (ga_cons (ge_str [114, 101, 102, 117, 115, 101, 100]) (ga_cons (ge_var 4) (ga_cons (ge_xf 1 "row" [1] rfl hz hf suiteC_z T.xf_row) ga_nil)))) (ge_tup (ga_cons (ge_str [114, 101, 102, 117, 115, 101, 100]) (ga_cons (ge_var 4) ga_nil)))))))))))))))))
theorem oi_BadTexts (T : Tx K w mg base C A) : ∃ fd, FnOk P w K mg base (L2.CX P w) 1 (A 8) fd ["self", "deed", "row"] (spI K (C 1) ["deed", "row"]) ∧ Binds K fd ["self", "deed", "row"] [] := by
  obtain ⟨fd, F⟩ := T.f_BadTexts___init__
  exact ⟨fd, init2 F (C8.fnScope_by (by decide +kernel)) rfl T.gc_MillError T.ba_MillError T.xo_BadTexts (Or.inl rfl) (Or.inl rfl) (Or.inl rfl) (by decide) (by decide) (by decide) (by decide) (by decide) (fun _ => rfl), F.bindsN fun _ _ _ _ _ _ us hl => match us, hl with | [_, _, _], _ => rfl⟩
theorem b_law_dice (T : Tx K w mg base C A)  (cdv : Value) (Ar : Around) (outer : List PySem.Env) (s : Shared) (H : Hp) (Ex : XK) (hr : Room 0 (Ar.deeper (PyProof.Rows.envOfC "_law_dice" (defScope st_law_dice) s.heap.objs.size (A 0) cdv))) :
    GSs (cxOf (L2.CX P w) P w K mg base N_law_dice "_law_dice" (defScope st_law_dice) (A 0) cdv Ar outer s H Ex) C (fun cls d _ H' => Ex cls d H') (defBody st_law_dice) (sSeq (sAsg (eC (.int 0)) (gNm 1)) (sSeq (sFor (iSeq (eVar 0)) (gNm 2) (sAsg (eOp2 opMod (eOp2 opAdd (eOp2 opAdd (eOp2 opMul (eBor 1) (eC (.int 48271))) (eOp2 opMul (eOp2 opMod (eBor 2) (eC (.int 2147483647))) (eC (.int 69621)))) (eC (.int 11))) (eC (.int 2147483647))) (gNm 1))) (sRet (ePlc (lLst (aCons (eVar 0) (aCons (eC (.int 0)) (aCons (eOp2 opMul (eBor 1) (eOp1 opIntOf (eOp2 opGt (eOp1 opLen (eBor 0)) (eC (.int 2))))) (aCons (eC (.int 0)) aNil))))))))) := by
  have tk : Takes (cxOf (L2.CX P w) P w K mg base N_law_dice "_law_dice" (defScope st_law_dice) (A 0) cdv Ar outer s H Ex) (fun cls d _ H' => Ex cls d H') := takes_of rfl rfl rfl rfl
  have ps : PassesOwn (model P w) (cxOf (L2.CX P w) P w K mg base N_law_dice "_law_dice" (defScope st_law_dice) (A 0) cdv Ar outer s H Ex).A (cxOf (L2.CX P w) P w K mg base N_law_dice "_law_dice" (defScope st_law_dice) (A 0) cdv Ar outer s H Ex).env (cxOf (L2.CX P w) P w K mg base N_law_dice "_law_dice" (defScope st_law_dice) (A 0) cdv Ar outer s H Ex).xe := passes_of rfl
  have hu := hr.units
  have hv := hu_of hr
  have hu5 := Room65 hr
  exact (gss_cons (gs_set 1 ge_int nd_law_dice) (gss_cons (gs_for ps rfl (gi_seq (ge_var 0)) (gg_name 2 nd_law_dice) (gss_one (gs_set 1 (ge_bin op_mod simMod (gb_of (ge_bin op_addA simAdd (gb_of (ge_bin op_addA simAdd (gb_of (ge_bin op_mul simMul (gb_var 1) (gb_of ge_int))) (gb_of (ge_bin op_mul simMul (gb_of (ge_bin op_mod simMod (gb_var 2) (gb_of ge_int))) (gb_of ge_int))))) (gb_of ge_int))) (gb_of ge_int)) nd_law_dice))) (gss_one (gs_ret (ge_plc (gl_lst (ga_cons (ge_var 0) (ga_cons ge_int (ga_cons (ge_bin op_mul simMul (gb_var 1) (gb_of (ge_ty1 call_intA simInt T.b_int (gb_of (ge_cmp op_gt (simCmp _) rfl (gb_of (ge_fun1 call_lenA simLen T.b_len (gb_var 0))) (gb_of ge_int)))))) (ga_cons ge_int ga_nil))))))))))
theorem c_law_dice (T : Tx K w mg base C A) : Cal P w K mg base C 1 (A 0) f_law_dice := by
  obtain ⟨fd, F⟩ := T.f_law_dice
  exact cal_of (fn_calD (ps := ["_law_script"]) (N := N_law_dice) F  (C8.fnScope_by (by decide +kernel)) (by decide) fun cdv Ar outer s H Ex hr => b_law_dice T cdv Ar outer s H Ex hr) (F.bindsN fun _ _ _ _ _ _ us hl => match us, hl with | [_], _ => rfl)
theorem b_law_next (T : Tx K w mg base C A)  (cdv : Value) (Ar : Around) (outer : List PySem.Env) (s : Shared) (H : Hp) (Ex : XK) (hr : Room 0 (Ar.deeper (PyProof.Rows.envOfC "_law_next" (defScope st_law_next) s.heap.objs.size (A 1) cdv))) :
    GSs (cxOf (L2.CX P w) P w K mg base N_law_next "_law_next" (defScope st_law_next) (A 1) cdv Ar outer s H Ex) C (fun cls d _ H' => Ex cls d H') (defBody st_law_next) (sSeq (sIf (tVal (eOp2 opGt (eOp2 opIx (eBor 0) (eC (.int 3))) (eC (.int 0)))) (sSeq (sAsg (eOp2 opMod (eOp2 opIx (eBor 0) (eC (.int 3))) (eBor 1)) (gNm 2)) (sSeq (sSet (eVar 0) (eC (.int 3)) (eOp2 opDiv (eOp2 opIx (eBor 0) (eC (.int 3))) (eBor 1))) (sRet (eVar 2)))) sNext) (sSeq (sSet (eVar 0) (eC (.int 1)) (eOp2 opAdd (eOp2 opIx (eBor 0) (eC (.int 1))) (eC (.int 1)))) (sSeq (sIf (tVal (eOp2 opLe (eOp2 opIx (eBor 0) (eC (.int 1))) (eOp1 opLen (eOp2 opIx (eBor 0) (eC (.int 0)))))) (sSeq (sAsg (eOp2 opIx (eOp2 opIx (eBor 0) (eC (.int 0))) (eOp2 opSub (eOp2 opIx (eBor 0) (eC (.int 1))) (eC (.int 1)))) (gNm 3)) (sSeq (sSet (eVar 0) (eC (.int 3)) (eIf (tVal (eOp2 opGe (eBor 3) (eOp2 opPow (eC (.int 10)) (eC (.int 18))))) (eOp2 opDiv (eBor 3) (eBor 1)) (eC (.int 0)))) (sRet (eOp2 opMod (eBor 3) (eBor 1))))) sNext) (sSeq (sSet (eVar 0) (eC (.int 2)) (eOp2 opMod (eOp2 opMul (eOp2 opIx (eBor 0) (eC (.int 2))) (eC (.int 48271))) (eC (.int 2147483647)))) (sRet (eOp2 opMod (eOp2 opDiv (eOp2 opIx (eBor 0) (eC (.int 2))) (eC (.int 7))) (eBor 1))))))) := by
  have tk : Takes (cxOf (L2.CX P w) P w K mg base N_law_next "_law_next" (defScope st_law_next) (A 1) cdv Ar outer s H Ex) (fun cls d _ H' => Ex cls d H') := takes_of rfl rfl rfl rfl
  have ps : PassesOwn (model P w) (cxOf (L2.CX P w) P w K mg base N_law_next "_law_next" (defScope st_law_next) (A 1) cdv Ar outer s H Ex).A (cxOf (L2.CX P w) P w K mg base N_law_next "_law_next" (defScope st_law_next) (A 1) cdv Ar outer s H Ex).env (cxOf (L2.CX P w) P w K mg base N_law_next "_law_next" (defScope st_law_next) (A 1) cdv Ar outer s H Ex).xe := passes_of rfl
  have hu := hr.units
  have hv := hu_of hr
  have hu5 := Room65 hr
  exact (gss_cons (gs_if (gt_cmp op_gt (simCmp _) rfl (gb_of (ge_ix (gb_var 0) (gb_of ge_int))) (gb_of ge_int)) (gss_cons (gs_set 2 (ge_bin op_mod simMod (gb_of (ge_ix (gb_var 0) (gb_of ge_int))) (gb_var 1)) nd_law_next) (gss_cons (gs_sub (ge_var 0) ge_int (ge_bin op_fdiv simDiv (gb_of (ge_ix (gb_var 0) (gb_of ge_int))) (gb_var 1))) (gss_one (gs_ret (ge_var 2))))) gss_nil) (gss_cons (gs_sub (ge_var 0) ge_int (ge_bin op_addA simAdd (gb_of (ge_ix (gb_var 0) (gb_of ge_int))) (gb_of ge_int))) (gss_cons (gs_if (gt_cmp op_le (simCmp _) rfl (gb_of (ge_ix (gb_var 0) (gb_of ge_int))) (gb_of (ge_fun1 call_lenA simLen T.b_len (gb_of (ge_ix (gb_var 0) (gb_of ge_int)))))) (gss_cons (gs_set 3 (ge_ix (gb_of (ge_ix (gb_var 0) (gb_of ge_int))) (gb_of (ge_bin op_sub simSub (gb_of (ge_ix (gb_var 0) (gb_of ge_int))) (gb_of ge_int)))) nd_law_next) (gss_cons (gs_sub (ge_var 0) ge_int (ge_if (gt_cmp op_ge (simCmp _) rfl (gb_var 3) (gb_of (ge_bin op_pow simPow (gb_of ge_int) (gb_of ge_int)))) (ge_bin op_fdiv simDiv (gb_var 3) (gb_var 1)) ge_int)) (gss_one (gs_ret (ge_bin op_mod simMod (gb_var 3) (gb_var 1)))))) gss_nil) (gss_cons (gs_sub (ge_var 0) ge_int (ge_bin op_mod simMod (gb_of (ge_bin op_mul simMul (gb_of (ge_ix (gb_var 0) (gb_of ge_int))) (gb_of ge_int))) (gb_of ge_int))) (gss_one (gs_ret (ge_bin op_mod simMod (gb_of (ge_bin op_fdiv simDiv (gb_of (ge_ix (gb_var 0) (gb_of ge_int))) (gb_of ge_int))) (gb_var 1))))))))
theorem c_law_next (T : Tx K w mg base C A) : Cal P w K mg base C 1 (A 1) f_law_next := by
  obtain ⟨fd, F⟩ := T.f_law_next
  exact cal_of (fn_calD (ps := ["_law_dice_here", "_law_many"]) (N := N_law_next) F  (C8.fnScope_by (by decide +kernel)) (by decide) fun cdv Ar outer s H Ex hr => b_law_next T cdv Ar outer s H Ex hr) (F.bindsN fun _ _ _ _ _ _ us hl => match us, hl with | [_, _], _ => rfl)
theorem b_law_part (T : Tx K w mg base C A) {n : Nat} (ih_law_part : Cal P w K mg base C (2 + n) (A 2) (f_law_part n)) (cdv : Value) (Ar : Around) (outer : List PySem.Env) (s : Shared) (H : Hp) (Ex : XK) (hr : Room (2 + n) (Ar.deeper (PyProof.Rows.envOfC "_law_part" (defScope st_law_part) s.heap.objs.size (A 2) cdv))) :
    GSs (cxOf (L2.CX P w) P w K mg base N_law_part "_law_part" (defScope st_law_part) (A 2) cdv Ar outer s H Ex) C (fun cls d _ H' => Ex cls d H') (defBody st_law_part) (sSeq (sAsg (eCall f_law_next (aCons (eVar 0) (aCons (eC (.int 10)) aNil))) (gNm 3)) (sSeq (sIf (tOr (tVal (eOp2 opLt (eBor 3) (eC (.int 2)))) (tAnd (tVal (eOp2 opEq (eBor 1) (eC (.int 1)))) (tVal (eOp2 opGt (eBor 3) (eC (.int 7)))))) (sRet (eTup (aCons (eC (.str [110, 117, 109])) (aCons (eOp2 opIx (eFrz (lLst (aCons (eCall f_law_next (aCons (eVar 0) (aCons (eC (.int 3)) aNil))) (aCons (eCall f_law_next (aCons (eVar 0) (aCons (eC (.int 10007)) aNil))) aNil)))) (eOp2 opDiv (eCall f_law_next (aCons (eVar 0) (aCons (eC (.int 4)) aNil))) (eC (.int 3)))) aNil)))) sNext) (sSeq (sIf (tVal (eOp2 opLt (eBor 3) (eC (.int 5)))) (sRet (eTup (aCons (eC (.str [110, 97, 109, 101])) (aCons (eCall f_law_next (aCons (eVar 0) (aCons (eC (.int 4)) aNil))) aNil)))) sNext) (sSeq (sIf (tAnd (tVal (eOp2 opEq (eBor 3) (eC (.int 5)))) (tVal (eOp2 opNe (eOp2 opIx (eBor 2) (eC (.int 2))) (eTup aNil)))) (sRet (eTup (aCons (eC (.str [115, 105, 100, 101])) (aCons (eCall f_law_next (aCons (eVar 0) (aCons (eOp2 opIx (eBor 2) (eC (.int 1))) aNil))) (aCons (eOp2 opIx (eOp2 opIx (eBor 2) (eC (.int 2))) (eCall f_law_next (aCons (eVar 0) (aCons (eOp1 opLen (eOp2 opIx (eBor 2) (eC (.int 2)))) aNil)))) aNil))))) sNext) (sSeq (sIf (tVal (eOp2 opLt (eBor 3) (eC (.int 8)))) (sRet (eTup (aCons (eC (.str [102, 105, 101, 108, 100])) (aCons (eCall f_law_next (aCons (eVar 0) (aCons (eOp2 opIx (eBor 2) (eC (.int 1))) aNil))) (aCons (eCall f_law_next (aCons (eVar 0) (aCons (eC (.int 3)) aNil))) aNil))))) sNext) (sRet (eTup (aCons (eOp2 opIx (eFrz (lLst (aCons (eC (.str [115, 117, 109])) (aCons (eC (.str [108, 101, 115, 115])) aNil)))) (eOp2 opSub (eBor 3) (eC (.int 8)))) (aCons (eCall (f_law_part n) (aCons (eVar 0) (aCons (eOp2 opSub (eBor 1) (eC (.int 1))) (aCons (eVar 2) aNil)))) (aCons (eCall (f_law_part n) (aCons (eVar 0) (aCons (eOp2 opSub (eBor 1) (eC (.int 1))) (aCons (eVar 2) aNil)))) aNil)))))))))) := by
  have tk : Takes (cxOf (L2.CX P w) P w K mg base N_law_part "_law_part" (defScope st_law_part) (A 2) cdv Ar outer s H Ex) (fun cls d _ H' => Ex cls d H') := takes_of rfl rfl rfl rfl
  have ps : PassesOwn (model P w) (cxOf (L2.CX P w) P w K mg base N_law_part "_law_part" (defScope st_law_part) (A 2) cdv Ar outer s H Ex).A (cxOf (L2.CX P w) P w K mg base N_law_part "_law_part" (defScope st_law_part) (A 2) cdv Ar outer s H Ex).env (cxOf (L2.CX P w) P w K mg base N_law_part "_law_part" (defScope st_law_part) (A 2) cdv Ar outer s H Ex).xe := passes_of rfl
  have hu := hr.units
  have hv := hu_of hr
  have hu5 := Room65 hr
  exact (gss_cons (gs_set 3 (ge_call (c_law_next T) (hr.mono (by omega)) tk T.g_law_next T.k_law_next (ga_cons (ge_var 0) (ga_cons ge_int ga_nil))) nd_law_part) (gss_cons (gs_if (gt_w (gw_or (gt_cmp op_lt (simCmp _) rfl (gb_var 3) (gb_of ge_int)) (gw_or1 (gt_w (gw_and (gt_cmp (op_eqA hu) simEq rfl (gb_var 1) (gb_of ge_int)) (gw_and1 (gt_cmp op_gt (simCmp _) rfl (gb_var 3) (gb_of ge_int)))))))) (gss_one (gs_ret (ge_tup (ga_cons (ge_str [110, 117, 109]) (ga_cons (ge_ix (gb_of (ge_frz (gl_lst (ga_cons (ge_call (c_law_next T) (hr.mono (by omega)) tk T.g_law_next T.k_law_next (ga_cons (ge_var 0) (ga_cons ge_int ga_nil))) (ga_cons (ge_call (c_law_next T) (hr.mono (by omega)) tk T.g_law_next T.k_law_next (ga_cons (ge_var 0) (ga_cons ge_int ga_nil))) ga_nil))))) (gb_of (ge_bin op_fdiv simDiv (gb_of (ge_call (c_law_next T) (hr.mono (by omega)) tk T.g_law_next T.k_law_next (ga_cons (ge_var 0) (ga_cons ge_int ga_nil)))) (gb_of ge_int)))) ga_nil))))) gss_nil) (gss_cons (gs_if (gt_cmp op_lt (simCmp _) rfl (gb_var 3) (gb_of ge_int)) (gss_one (gs_ret (ge_tup (ga_cons (ge_str [110, 97, 109, 101]) (ga_cons (ge_call (c_law_next T) (hr.mono (by omega)) tk T.g_law_next T.k_law_next (ga_cons (ge_var 0) (ga_cons ge_int ga_nil))) ga_nil))))) gss_nil) (gss_cons (gs_if (gt_w (gw_and (gt_cmp (op_eqA hu) simEq rfl (gb_var 3) (gb_of ge_int)) (gw_and1 (gt_cmp (op_neA hu) simNe rfl (gb_of (ge_ix (gb_var 2) (gb_of ge_int))) (gb_of (ge_tup ga_nil)))))) (gss_one (gs_ret (ge_tup (ga_cons (ge_str [115, 105, 100, 101]) (ga_cons (ge_call (c_law_next T) (hr.mono (by omega)) tk T.g_law_next T.k_law_next (ga_cons (ge_var 0) (ga_cons (ge_ix (gb_var 2) (gb_of ge_int)) ga_nil))) (ga_cons (ge_ix (gb_of (ge_ix (gb_var 2) (gb_of ge_int))) (gb_of (ge_call (c_law_next T) (hr.mono (by omega)) tk T.g_law_next T.k_law_next (ga_cons (ge_var 0) (ga_cons (ge_fun1 call_lenA simLen T.b_len (gb_of (ge_ix (gb_var 2) (gb_of ge_int)))) ga_nil))))) ga_nil)))))) gss_nil) (gss_cons (gs_if (gt_cmp op_lt (simCmp _) rfl (gb_var 3) (gb_of ge_int)) (gss_one (gs_ret (ge_tup (ga_cons (ge_str [102, 105, 101, 108, 100]) (ga_cons (ge_call (c_law_next T) (hr.mono (by omega)) tk T.g_law_next T.k_law_next (ga_cons (ge_var 0) (ga_cons (ge_ix (gb_var 2) (gb_of ge_int)) ga_nil))) (ga_cons (ge_call (c_law_next T) (hr.mono (by omega)) tk T.g_law_next T.k_law_next (ga_cons (ge_var 0) (ga_cons ge_int ga_nil))) ga_nil)))))) gss_nil) (gss_one (gs_ret (ge_tup (ga_cons (ge_ix (gb_of (ge_frz (gl_lst (ga_cons (ge_str [115, 117, 109]) (ga_cons (ge_str [108, 101, 115, 115]) ga_nil))))) (gb_of (ge_bin op_sub simSub (gb_var 3) (gb_of ge_int)))) (ga_cons (ge_call ih_law_part hr tk T.g_law_part T.k_law_part (ga_cons (ge_var 0) (ga_cons (ge_bin op_sub simSub (gb_var 1) (gb_of ge_int)) (ga_cons (ge_var 2) ga_nil)))) (ga_cons (ge_call ih_law_part hr tk T.g_law_part T.k_law_part (ga_cons (ge_var 0) (ga_cons (ge_bin op_sub simSub (gb_var 1) (gb_of ge_int)) (ga_cons (ge_var 2) ga_nil)))) ga_nil)))))))))))
theorem r_law_part (T : Tx K w mg base C A) : ∀ n : Nat, Cal P w K mg base C (2 + n) (A 2) (f_law_part n)
  | 0 => (by
      obtain ⟨fd, F⟩ := T.f_law_part
      exact cal_of (fn_calD (ps := ["_law_d", "_law_deep", "_law_g"]) (N := N_law_part) F (C8.fnScope_by (by decide +kernel)) (by decide) fun cdv Ar outer s H Ex hr => gss_never) (F.bindsN fun _ _ _ _ _ _ us hl => match us, hl with | [_, _, _], _ => rfl))
  | n + 1 => by
    have ih := r_law_part T n
    have h2 := ih
    exact (by
      obtain ⟨fd, F⟩ := T.f_law_part
      exact cal_of (fn_calD (ps := ["_law_d", "_law_deep", "_law_g"]) (N := N_law_part) F (C8.fnScope_by (by decide +kernel)) (by decide) fun cdv Ar outer s H Ex hr => b_law_part T h2 cdv Ar outer s H Ex hr) (F.bindsN fun _ _ _ _ _ _ us hl => match us, hl with | [_, _, _], _ => rfl))
theorem c_law_part (T : Tx K w mg base C A) (n : Nat) : Cal P w K mg base C (2 + n) (A 2) (f_law_part n) := (r_law_part T n)
theorem b_law_row (T : Tx K w mg base C A)  (cdv : Value) (Ar : Around) (outer : List PySem.Env) (s : Shared) (H : Hp) (Ex : XK) (hr : Room 7 (Ar.deeper (PyProof.Rows.envOfC "_law_row" (defScope st_law_row) s.heap.objs.size (A 3) cdv))) :
    GSs (cxOf (L2.CX P w) P w K mg base N_law_row "_law_row" (defScope st_law_row) (A 3) cdv Ar outer s H Ex) C (fun cls d _ H' => Ex cls d H') (defBody st_law_row) (sSeq (sPar 3 4 (aCons (eCall f_law_next (aCons (eVar 0) (aCons (eC (.int 16)) aNil))) (aCons (eCall f_law_next (aCons (eVar 0) (aCons (eC (.int 4)) aNil))) aNil))) (sSeq (sIf (tVal (eOp2 opLt (eBor 3) (eC (.int 3)))) (sRet (eTup (aCons (eC (.str [115, 101, 116])) (aCons (eVar 4) (aCons (eCall (f_law_part 5) (aCons (eVar 0) (aCons (eC (.int 3)) (aCons (eVar 2) aNil)))) aNil))))) sNext) (sSeq (sIf (tOr (tVal (eOp2 opLt (eBor 3) (eC (.int 6)))) (tAnd (tVal (eOp2 opEq (eBor 3) (eC (.int 6)))) (tVal (eOp2 opEq (eOp2 opIx (eBor 2) (eC (.int 2))) (eTup aNil))))) (sRet (eTup (aCons (eC (.str [112, 117, 116])) (aCons (eCall f_law_next (aCons (eVar 0) (aCons (eOp2 opIx (eBor 2) (eC (.int 1))) aNil))) (aCons (eCall f_law_next (aCons (eVar 0) (aCons (eC (.int 3)) aNil))) (aCons (eCall (f_law_part 5) (aCons (eVar 0) (aCons (eC (.int 3)) (aCons (eVar 2) aNil)))) aNil)))))) sNext) (sSeq (sIf (tVal (eOp2 opEq (eBor 3) (eC (.int 6)))) (sRet (eTup (aCons (eC (.str [115, 105, 100, 101])) (aCons (eCall f_law_next (aCons (eVar 0) (aCons (eOp2 opIx (eBor 2) (eC (.int 1))) aNil))) (aCons (eOp2 opIx (eOp2 opIx (eBor 2) (eC (.int 2))) (eCall f_law_next (aCons (eVar 0) (aCons (eOp1 opLen (eOp2 opIx (eBor 2) (eC (.int 2)))) aNil)))) (aCons (eCall (f_law_part 5) (aCons (eVar 0) (aCons (eC (.int 3)) (aCons (eVar 2) aNil)))) aNil)))))) sNext) (sSeq (sIf (tVal (eOp2 opLt (eBor 3) (eC (.int 11)))) (sRet (eTup (aCons (eC (.str [99, 97, 108, 108])) (aCons (eVar 4) (aCons (eCall f_law_next (aCons (eVar 0) (aCons (eOp2 opIx (eBor 2) (eC (.int 0))) aNil))) (aCons (eCall (f_law_part 5) (aCons (eVar 0) (aCons (eC (.int 2)) (aCons (eVar 2) aNil)))) aNil)))))) sNext) (sSeq (sIf (tVal (eOp2 opLt (eBor 3) (eC (.int 13)))) (sRet (eOp2 opIx (eFrz (lLst (aCons (eTup (aCons (eC (.str [103, 111])) (aCons (eCall f_law_next (aCons (eVar 0) (aCons (eOp2 opAdd (eBor 1) (eC (.int 1))) aNil))) aNil))) (aCons (eTup (aCons (eC (.str [117, 110, 108, 101, 115, 115])) (aCons (eVar 4) (aCons (eCall f_law_next (aCons (eVar 0) (aCons (eOp2 opAdd (eBor 1) (eC (.int 1))) aNil))) aNil)))) aNil)))) (eOp1 opIntOf (eOp2 opGt (eCall f_law_next (aCons (eVar 0) (aCons (eC (.int 4)) aNil))) (eC (.int 0)))))) sNext) (sSeq (sIf (tVal (eOp2 opEq (eBor 3) (eC (.int 13)))) (sRet (eTup (aCons (eC (.str [119, 97, 105, 116])) (aCons (eCall f_law_next (aCons (eVar 0) (aCons (eOp2 opIx (eBor 2) (eC (.int 1))) aNil))) (aCons (eCall f_law_next (aCons (eVar 0) (aCons (eC (.int 3)) aNil))) aNil))))) sNext) (sRet (eIf (tVal (eOp2 opEq (eBor 3) (eC (.int 14)))) (eTup (aCons (eC (.str [97, 110, 115, 119, 101, 114])) (aCons (eCall (f_law_part 5) (aCons (eVar 0) (aCons (eC (.int 2)) (aCons (eVar 2) aNil)))) aNil))) (eTup (aCons (eC (.str [115, 101, 116])) (aCons (eVar 4) (aCons (eTup (aCons (eC (.str [115, 117, 109])) (aCons (eTup (aCons (eC (.str [110, 97, 109, 101])) (aCons (eVar 4) aNil))) (aCons (eTup (aCons (eC (.str [110, 117, 109])) (aCons (eC (.int 1)) aNil))) aNil)))) aNil))))))))))))) := by
  have tk : Takes (cxOf (L2.CX P w) P w K mg base N_law_row "_law_row" (defScope st_law_row) (A 3) cdv Ar outer s H Ex) (fun cls d _ H' => Ex cls d H') := takes_of rfl rfl rfl rfl
  have ps : PassesOwn (model P w) (cxOf (L2.CX P w) P w K mg base N_law_row "_law_row" (defScope st_law_row) (A 3) cdv Ar outer s H Ex).A (cxOf (L2.CX P w) P w K mg base N_law_row "_law_row" (defScope st_law_row) (A 3) cdv Ar outer s H Ex).env (cxOf (L2.CX P w) P w K mg base N_law_row "_law_row" (defScope st_law_row) (A 3) cdv Ar outer s H Ex).xe := passes_of rfl
  have hu := hr.units
  have hv := hu_of hr
  have hu5 := Room65 hr
  exact (gss_cons (gs_par 3 4 rfl nd_law_row (ga_cons (ge_call (c_law_next T) (hr.mono (by omega)) tk T.g_law_next T.k_law_next (ga_cons (ge_var 0) (ga_cons ge_int ga_nil))) (ga_cons (ge_call (c_law_next T) (hr.mono (by omega)) tk T.g_law_next T.k_law_next (ga_cons (ge_var 0) (ga_cons ge_int ga_nil))) ga_nil))) (gss_cons (gs_if (gt_cmp op_lt (simCmp _) rfl (gb_var 3) (gb_of ge_int)) (gss_one (gs_ret (ge_tup (ga_cons (ge_str [115, 101, 116]) (ga_cons (ge_var 4) (ga_cons (ge_call (c_law_part T 5) (hr.mono (by omega)) tk T.g_law_part T.k_law_part (ga_cons (ge_var 0) (ga_cons ge_int (ga_cons (ge_var 2) ga_nil)))) ga_nil)))))) gss_nil) (gss_cons (gs_if (gt_w (gw_or (gt_cmp op_lt (simCmp _) rfl (gb_var 3) (gb_of ge_int)) (gw_or1 (gt_w (gw_and (gt_cmp (op_eqA hu) simEq rfl (gb_var 3) (gb_of ge_int)) (gw_and1 (gt_cmp (op_eqA hu) simEq rfl (gb_of (ge_ix (gb_var 2) (gb_of ge_int))) (gb_of (ge_tup ga_nil))))))))) (gss_one (gs_ret (ge_tup (ga_cons (ge_str [112, 117, 116]) (ga_cons (ge_call (c_law_next T) (hr.mono (by omega)) tk T.g_law_next T.k_law_next (ga_cons (ge_var 0) (ga_cons (ge_ix (gb_var 2) (gb_of ge_int)) ga_nil))) (ga_cons (ge_call (c_law_next T) (hr.mono (by omega)) tk T.g_law_next T.k_law_next (ga_cons (ge_var 0) (ga_cons ge_int ga_nil))) (ga_cons (ge_call (c_law_part T 5) (hr.mono (by omega)) tk T.g_law_part T.k_law_part (ga_cons (ge_var 0) (ga_cons ge_int (ga_cons (ge_var 2) ga_nil)))) ga_nil))))))) gss_nil) (gss_cons (gs_if (gt_cmp (op_eqA hu) simEq rfl (gb_var 3) (gb_of ge_int)) (gss_one (gs_ret (ge_tup (ga_cons (ge_str [115, 105, 100, 101]) (ga_cons (ge_call (c_law_next T) (hr.mono (by omega)) tk T.g_law_next T.k_law_next (ga_cons (ge_var 0) (ga_cons (ge_ix (gb_var 2) (gb_of ge_int)) ga_nil))) (ga_cons (ge_ix (gb_of (ge_ix (gb_var 2) (gb_of ge_int))) (gb_of (ge_call (c_law_next T) (hr.mono (by omega)) tk T.g_law_next T.k_law_next (ga_cons (ge_var 0) (ga_cons (ge_fun1 call_lenA simLen T.b_len (gb_of (ge_ix (gb_var 2) (gb_of ge_int)))) ga_nil))))) (ga_cons (ge_call (c_law_part T 5) (hr.mono (by omega)) tk T.g_law_part T.k_law_part (ga_cons (ge_var 0) (ga_cons ge_int (ga_cons (ge_var 2) ga_nil)))) ga_nil))))))) gss_nil) (gss_cons (gs_if (gt_cmp op_lt (simCmp _) rfl (gb_var 3) (gb_of ge_int)) (gss_one (gs_ret (ge_tup (ga_cons (ge_str [99, 97, 108, 108]) (ga_cons (ge_var 4) (ga_cons (ge_call (c_law_next T) (hr.mono (by omega)) tk T.g_law_next T.k_law_next (ga_cons (ge_var 0) (ga_cons (ge_ix (gb_var 2) (gb_of ge_int)) ga_nil))) (ga_cons (ge_call (c_law_part T 5) (hr.mono (by omega)) tk T.g_law_part T.k_law_part (ga_cons (ge_var 0) (ga_cons ge_int (ga_cons (ge_var 2) ga_nil)))) ga_nil))))))) gss_nil) (gss_cons (gs_if (gt_cmp op_lt (simCmp _) rfl (gb_var 3) (gb_of ge_int)) (gss_one (gs_ret (ge_ix (gb_of (ge_frz (gl_lst (ga_cons (ge_tup (ga_cons (ge_str [103, 111]) (ga_cons (ge_call (c_law_next T) (hr.mono (by omega)) tk T.g_law_next T.k_law_next (ga_cons (ge_var 0) (ga_cons (ge_bin op_addA simAdd (gb_var 1) (gb_of ge_int)) ga_nil))) ga_nil))) (ga_cons (ge_tup (ga_cons (ge_str [117, 110, 108, 101, 115, 115]) (ga_cons (ge_var 4) (ga_cons (ge_call (c_law_next T) (hr.mono (by omega)) tk T.g_law_next T.k_law_next (ga_cons (ge_var 0) (ga_cons (ge_bin op_addA simAdd (gb_var 1) (gb_of ge_int)) ga_nil))) ga_nil)))) ga_nil))))) (gb_of (ge_ty1 call_intA simInt T.b_int (gb_of (ge_cmp op_gt (simCmp _) rfl (gb_of (ge_call (c_law_next T) (hr.mono (by omega)) tk T.g_law_next T.k_law_next (ga_cons (ge_var 0) (ga_cons ge_int ga_nil)))) (gb_of ge_int)))))))) gss_nil) (gss_cons (gs_if (gt_cmp (op_eqA hu) simEq rfl (gb_var 3) (gb_of ge_int)) (gss_one (gs_ret (ge_tup (ga_cons (ge_str [119, 97, 105, 116]) (ga_cons (ge_call (c_law_next T) (hr.mono (by omega)) tk T.g_law_next T.k_law_next (ga_cons (ge_var 0) (ga_cons (ge_ix (gb_var 2) (gb_of ge_int)) ga_nil))) (ga_cons (ge_call (c_law_next T) (hr.mono (by omega)) tk T.g_law_next T.k_law_next (ga_cons (ge_var 0) (ga_cons ge_int ga_nil))) ga_nil)))))) gss_nil) (gss_one (gs_ret (ge_if (gt_cmp (op_eqA hu) simEq rfl (gb_var 3) (gb_of ge_int)) (ge_tup (ga_cons (ge_str [97, 110, 115, 119, 101, 114]) (ga_cons (ge_call (c_law_part T 5) (hr.mono (by omega)) tk T.g_law_part T.k_law_part (ga_cons (ge_var 0) (ga_cons ge_int (ga_cons (ge_var 2) ga_nil)))) ga_nil))) (ge_tup (ga_cons (ge_str [115, 101, 116]) (ga_cons (ge_var 4) (ga_cons (ge_tup (ga_cons (ge_str [115, 117, 109]) (ga_cons (ge_tup (ga_cons (ge_str [110, 97, 109, 101]) (ga_cons (ge_var 4) ga_nil))) (ga_cons (ge_tup (ga_cons (ge_str [110, 117, 109]) (ga_cons ge_int ga_nil))) ga_nil)))) ga_nil))))))))))))))
theorem c_law_row (T : Tx K w mg base C A) : Cal P w K mg base C 8 (A 3) f_law_row := by
  obtain ⟨fd, F⟩ := T.f_law_row
  exact cal_of (fn_calD (ps := ["_law_d", "_law_many", "_law_g"]) (N := N_law_row) F  (C8.fnScope_by (by decide +kernel)) (by decide) fun cdv Ar outer s H Ex hr => b_law_row T cdv Ar outer s H Ex hr) (F.bindsN fun _ _ _ _ _ _ us hl => match us, hl with | [_, _, _], _ => rfl)
theorem b_law_text (T : Tx K w mg base C A)  (cdv : Value) (Ar : Around) (outer : List PySem.Env) (s : Shared) (H : Hp) (Ex : XK) (hr : Room 8 (Ar.deeper (PyProof.Rows.envOfC "_law_text" (defScope st_law_text) s.heap.objs.size (A 4) cdv))) :
    GSs (cxOf (L2.CX P w) P w K mg base N_law_text "_law_text" (defScope st_law_text) (A 4) cdv Ar outer s H Ex) C (fun cls d _ H' => Ex cls d H') (defBody st_law_text) (sSeq (sAsg (eOp2 opAdd (eC (.int 1)) (eCall f_law_next (aCons (eVar 0) (aCons (eOp2 opIx (eFrz (lLst (aCons (eC (.int 3)) (aCons (eC (.int 5)) (aCons (eC (.int 12)) aNil))))) (eCall f_law_next (aCons (eVar 0) (aCons (eC (.int 3)) aNil)))) aNil)))) (gNm 2)) (sRet (eOp1 opTuple (eFrz (lLc (iRng (eVar 2)) (gNm 3) tYesM (eCall f_law_row (aCons (eVar 0) (aCons (eVar 2) (aCons (eVar 1) aNil)))) [3]))))) := by
  have tk : Takes (cxOf (L2.CX P w) P w K mg base N_law_text "_law_text" (defScope st_law_text) (A 4) cdv Ar outer s H Ex) (fun cls d _ H' => Ex cls d H') := takes_of rfl rfl rfl rfl
  have ps : PassesOwn (model P w) (cxOf (L2.CX P w) P w K mg base N_law_text "_law_text" (defScope st_law_text) (A 4) cdv Ar outer s H Ex).A (cxOf (L2.CX P w) P w K mg base N_law_text "_law_text" (defScope st_law_text) (A 4) cdv Ar outer s H Ex).env (cxOf (L2.CX P w) P w K mg base N_law_text "_law_text" (defScope st_law_text) (A 4) cdv Ar outer s H Ex).xe := passes_of rfl
  have hu := hr.units
  have hv := hu_of hr
  have hu5 := Room65 hr
  exact (gss_cons (gs_set 2 (ge_bin op_addA simAdd (gb_of ge_int) (gb_of (ge_call (c_law_next T) (hr.mono (by omega)) tk T.g_law_next T.k_law_next (ga_cons (ge_var 0) (ga_cons (ge_ix (gb_of (ge_frz (gl_lst (ga_cons ge_int (ga_cons ge_int (ga_cons ge_int ga_nil)))))) (gb_of (ge_call (c_law_next T) (hr.mono (by omega)) tk T.g_law_next T.k_law_next (ga_cons (ge_var 0) (ga_cons ge_int ga_nil))))) ga_nil))))) nd_law_text) (gss_one (gs_ret (ge_ty1 call_tuple_of simTuple T.b_tuple (gb_of (ge_frz (by refine gl_lc (own := [("_law_k", 3)]) (gvs := [3]) ?_ ?_ ?_ ?_ (fun s H Ca cl fp => ?_) (fun s H Ca cl fp => ?_) (fun s H Ca cl fp => ?_); (exact rfl); (exact nd_law_text); (exact (gi_range T.b_range (ge_var 2))); (exact (blkOk_by (N := N_law_text) (sc := defScope st_law_text) (own := [("_law_k", 3)]) (by decide +kernel))); (exact (gg_name 3 nd_law_text)); (exact gts_nil); (exact (ge_call (c_law_row T) (hr.mono (by omega)) takes0 T.g_law_row T.k_law_row (ga_cons (ge_var 0) (ga_cons (ge_var 2) (ga_cons (ge_var 1) ga_nil))))))))))))
theorem c_law_text (T : Tx K w mg base C A) : Cal P w K mg base C 9 (A 4) f_law_text := by
  obtain ⟨fd, F⟩ := T.f_law_text
  exact cal_of (fn_calD (ps := ["_law_d", "_law_g"]) (N := N_law_text) F  (C8.fnScope_by (by decide +kernel)) (by decide) fun cdv Ar outer s H Ex hr => b_law_text T cdv Ar outer s H Ex hr) (F.bindsN fun _ _ _ _ _ _ us hl => match us, hl with | [_, _], _ => rfl)
theorem b_law_texts (T : Tx K w mg base C A)  (cdv : Value) (Ar : Around) (outer : List PySem.Env) (s : Shared) (H : Hp) (Ex : XK) (hr : Room 9 (Ar.deeper (PyProof.Rows.envOfC "_law_texts" (defScope st_law_texts) s.heap.objs.size (A 5) cdv))) :
    GSs (cxOf (L2.CX P w) P w K mg base N_law_texts "_law_texts" (defScope st_law_texts) (A 5) cdv Ar outer s H Ex) C (fun cls d _ H' => Ex cls d H') (defBody st_law_texts) (sSeq (sAsg (eTup (aCons (eOp2 opAdd (eC (.int 1)) (eCall f_law_next (aCons (eVar 0) (aCons (eOp2 opIx (eFrz (lLst (aCons (eC (.int 4)) (aCons (eC (.int 8)) aNil)))) (eCall f_law_next (aCons (eVar 0) (aCons (eC (.int 2)) aNil)))) aNil)))) (aCons (eOp2 opAdd (eC (.int 1)) (eCall f_law_next (aCons (eVar 0) (aCons (eC (.int 4)) aNil)))) aNil))) (gTp [(gNm 1), (gNm 2)])) (sSeq (sAsg (eFrz (lLc (iRng (eVar 1)) (gNm 4) tYesM (eCall f_law_text (aCons (eVar 0) (aCons (eTup (aCons (eVar 1) (aCons (eVar 2) (aCons (eTup aNil) aNil)))) aNil))) [4])) (gNm 3)) (sRet (eTup (aCons (eVar 3) (aCons (eVar 2) (aCons (eOp2 opAdd (eC (.int 1)) (eCall f_law_next (aCons (eVar 0) (aCons (eOp2 opIx (eFrz (lLst (aCons (eC (.int 3)) (aCons (eC (.int 4)) aNil)))) (eCall f_law_next (aCons (eVar 0) (aCons (eC (.int 2)) aNil)))) aNil)))) aNil))))))) := by
  have tk : Takes (cxOf (L2.CX P w) P w K mg base N_law_texts "_law_texts" (defScope st_law_texts) (A 5) cdv Ar outer s H Ex) (fun cls d _ H' => Ex cls d H') := takes_of rfl rfl rfl rfl
  have ps : PassesOwn (model P w) (cxOf (L2.CX P w) P w K mg base N_law_texts "_law_texts" (defScope st_law_texts) (A 5) cdv Ar outer s H Ex).A (cxOf (L2.CX P w) P w K mg base N_law_texts "_law_texts" (defScope st_law_texts) (A 5) cdv Ar outer s H Ex).env (cxOf (L2.CX P w) P w K mg base N_law_texts "_law_texts" (defScope st_law_texts) (A 5) cdv Ar outer s H Ex).xe := passes_of rfl
  have hu := hr.units
  have hv := hu_of hr
  have hu5 := Room65 hr
  exact (gss_cons (gs_asg (ge_tup (ga_cons (ge_bin op_addA simAdd (gb_of ge_int) (gb_of (ge_call (c_law_next T) (hr.mono (by omega)) tk T.g_law_next T.k_law_next (ga_cons (ge_var 0) (ga_cons (ge_ix (gb_of (ge_frz (gl_lst (ga_cons ge_int (ga_cons ge_int ga_nil))))) (gb_of (ge_call (c_law_next T) (hr.mono (by omega)) tk T.g_law_next T.k_law_next (ga_cons (ge_var 0) (ga_cons ge_int ga_nil))))) ga_nil))))) (ga_cons (ge_bin op_addA simAdd (gb_of ge_int) (gb_of (ge_call (c_law_next T) (hr.mono (by omega)) tk T.g_law_next T.k_law_next (ga_cons (ge_var 0) (ga_cons ge_int ga_nil))))) ga_nil))) (gg_tup rfl (ggs_cons (gg_name 1 nd_law_texts) (ggs_cons (gg_name 2 nd_law_texts) ggs_nil)))) (gss_cons (gs_frz (i := 3) (by refine pn_lc (own := [("_law_k", 4)]) (gvs := [4]) ?_ ?_ ?_ ?_ (fun s H Ca cl fp => ?_) (fun s H Ca cl fp => ?_) (fun s H Ca cl fp => ?_); (exact rfl); (exact nd_law_texts); (exact (gi_range T.b_range (ge_var 1))); (exact (blkOk_by (N := N_law_texts) (sc := defScope st_law_texts) (own := [("_law_k", 4)]) (by decide +kernel))); (exact (gg_name 4 nd_law_texts)); (exact gts_nil); (exact (ge_call (c_law_text T) (hr.mono (by omega)) takes0 T.g_law_text T.k_law_text (ga_cons (ge_var 0) (ga_cons (ge_tup (ga_cons (ge_var 1) (ga_cons (ge_var 2) (ga_cons (ge_tup ga_nil) ga_nil)))) ga_nil)))))) (gss_one (gs_ret (ge_tup (ga_cons (ge_var 3) (ga_cons (ge_var 2) (ga_cons (ge_bin op_addA simAdd (gb_of ge_int) (gb_of (ge_call (c_law_next T) (hr.mono (by omega)) tk T.g_law_next T.k_law_next (ga_cons (ge_var 0) (ga_cons (ge_ix (gb_of (ge_frz (gl_lst (ga_cons ge_int (ga_cons ge_int ga_nil))))) (gb_of (ge_call (c_law_next T) (hr.mono (by omega)) tk T.g_law_next T.k_law_next (ga_cons (ge_var 0) (ga_cons ge_int ga_nil))))) ga_nil))))) ga_nil))))))))
theorem c_law_texts (T : Tx K w mg base C A) : Cal P w K mg base C 10 (A 5) f_law_texts := by
  obtain ⟨fd, F⟩ := T.f_law_texts
  exact cal_of (fn_calD (ps := ["_law_d"]) (N := N_law_texts) F  (C8.fnScope_by (by decide +kernel)) (by decide) fun cdv Ar outer s H Ex hr => b_law_texts T cdv Ar outer s H Ex hr) (F.bindsN fun _ _ _ _ _ _ us hl => match us, hl with | [_], _ => rfl)
theorem b_law_lines (T : Tx K w mg base C A)  (cdv : Value) (Ar : Around) (outer : List PySem.Env) (s : Shared) (H : Hp) (Ex : XK) (hr : Room 8 (Ar.deeper (PyProof.Rows.envOfC "_law_lines" (defScope st_law_lines) s.heap.objs.size (A 6) cdv))) :
    GSs (cxOf (L2.CX P w) P w K mg base N_law_lines "_law_lines" (defScope st_law_lines) (A 6) cdv Ar outer s H Ex) C (fun cls d _ H' => Ex cls d H') (defBody st_law_lines) (sSeq (sAsg (eFrz (lLst aNil)) (gNm 3)) (sSeq (sFor (iRng (eCall f_law_next (aCons (eVar 0) (aCons (eOp2 opIx (eFrz (lLst (aCons (eC (.int 2)) (aCons (eC (.int 7)) aNil)))) (eCall f_law_next (aCons (eVar 0) (aCons (eC (.int 2)) aNil)))) aNil)))) (gNm 4) (sSeq (sAsg (eCall f_law_row (aCons (eVar 0) (aCons (eC (.int 1)) (aCons (eVar 1) aNil)))) (gNm 5)) (sSeq (sIf (tAnd (tVal (eVar 2)) (tVal (eOp2 opEq (eCall f_law_next (aCons (eVar 0) (aCons (eC (.int 4)) aNil))) (eC (.int 0))))) (sAsg (eTup (aCons (eC (.str [110, 101, 101, 100])) (aCons (eOp2 opIx (eFrz (lLst (aCons (eCall (f_law_part 5) (aCons (eVar 0) (aCons (eC (.int 2)) (aCons (eVar 1) aNil)))) (aCons (eTup (aCons (eC (.str [110, 117, 109])) (aCons (eC (.int 1)) aNil))) aNil)))) (eCall f_law_next (aCons (eVar 0) (aCons (eC (.int 2)) aNil)))) aNil))) (gNm 5)) sNext) (sAsg (eFrz (lAdd (eBor 3) (eFrz (lMul (eFrz (lLst (aCons (eVar 5) aNil))) (eOp1 opIntOf (eOp2 opIn (eOp2 opIx (eBor 5) (eC (.int 0))) (eTup (aCons (eC (.str [115, 101, 116])) (aCons (eC (.str [112, 117, 116])) (aCons (eC (.str [115, 105, 100, 101])) (aCons (eC (.str [110, 101, 101, 100])) aNil))))))))))) (gNm 3))))) (sRet (eOp1 opTuple (eBor 3))))) := by
  have tk : Takes (cxOf (L2.CX P w) P w K mg base N_law_lines "_law_lines" (defScope st_law_lines) (A 6) cdv Ar outer s H Ex) (fun cls d _ H' => Ex cls d H') := takes_of rfl rfl rfl rfl
  have ps : PassesOwn (model P w) (cxOf (L2.CX P w) P w K mg base N_law_lines "_law_lines" (defScope st_law_lines) (A 6) cdv Ar outer s H Ex).A (cxOf (L2.CX P w) P w K mg base N_law_lines "_law_lines" (defScope st_law_lines) (A 6) cdv Ar outer s H Ex).env (cxOf (L2.CX P w) P w K mg base N_law_lines "_law_lines" (defScope st_law_lines) (A 6) cdv Ar outer s H Ex).xe := passes_of rfl
  have hu := hr.units
  have hv := hu_of hr
  have hu5 := Room65 hr
  exact (gss_cons (gs_frz (i := 3) (pn_set 3 (gl_lst ga_nil) nd_law_lines)) (gss_cons (gs_for ps rfl (gi_range T.b_range (ge_call (c_law_next T) (hr.mono (by omega)) tk T.g_law_next T.k_law_next (ga_cons (ge_var 0) (ga_cons (ge_ix (gb_of (ge_frz (gl_lst (ga_cons ge_int (ga_cons ge_int ga_nil))))) (gb_of (ge_call (c_law_next T) (hr.mono (by omega)) tk T.g_law_next T.k_law_next (ga_cons (ge_var 0) (ga_cons ge_int ga_nil))))) ga_nil)))) (gg_name 4 nd_law_lines) (gss_cons (gs_set 5 (ge_call (c_law_row T) (hr.mono (by omega)) tk T.g_law_row T.k_law_row (ga_cons (ge_var 0) (ga_cons ge_int (ga_cons (ge_var 1) ga_nil)))) nd_law_lines) (gss_cons (gs_if (gt_w (gw_and (gt_val (ge_var 2)) (gw_and1 (gt_cmp (op_eqA hu) simEq rfl (gb_of (ge_call (c_law_next T) (hr.mono (by omega)) tk T.g_law_next T.k_law_next (ga_cons (ge_var 0) (ga_cons ge_int ga_nil)))) (gb_of ge_int))))) (gss_one (gs_set 5 (ge_tup (ga_cons (ge_str [110, 101, 101, 100]) (ga_cons (ge_ix (gb_of (ge_frz (gl_lst (ga_cons (ge_call (c_law_part T 5) (hr.mono (by omega)) tk T.g_law_part T.k_law_part (ga_cons (ge_var 0) (ga_cons ge_int (ga_cons (ge_var 1) ga_nil)))) (ga_cons (ge_tup (ga_cons (ge_str [110, 117, 109]) (ga_cons ge_int ga_nil))) ga_nil))))) (gb_of (ge_call (c_law_next T) (hr.mono (by omega)) tk T.g_law_next T.k_law_next (ga_cons (ge_var 0) (ga_cons ge_int ga_nil))))) ga_nil))) nd_law_lines)) gss_nil) (gss_one (gs_frz (i := 3) (pn_set 3 (gl_add (gb_var 3) (gb_of (ge_frz (gl_mul (gb_of (ge_frz (gl_lst (ga_cons (ge_var 5) ga_nil)))) (ge_ty1 call_intA simInt T.b_int (gb_of (ge_cmp op_inA simIn rfl (gb_of (ge_ix (gb_var 5) (gb_of ge_int))) (gb_of (ge_tup (ga_cons (ge_str [115, 101, 116]) (ga_cons (ge_str [112, 117, 116]) (ga_cons (ge_str [115, 105, 100, 101]) (ga_cons (ge_str [110, 101, 101, 100]) ga_nil))))))))))))) nd_law_lines)))))) (gss_one (gs_ret (ge_ty1 call_tuple_of simTuple T.b_tuple (gb_var 3))))))
theorem c_law_lines (T : Tx K w mg base C A) : Cal P w K mg base C 9 (A 6) f_law_lines := by
  obtain ⟨fd, F⟩ := T.f_law_lines
  exact cal_of (fn_calD (ps := ["_law_d", "_law_g", "_law_is_first"]) (N := N_law_lines) F  (C8.fnScope_by (by decide +kernel)) (by decide) fun cdv Ar outer s H Ex hr => b_law_lines T cdv Ar outer s H Ex hr) (F.bindsN fun _ _ _ _ _ _ us hl => match us, hl with | [_, _, _], _ => rfl)
theorem b_law_change (T : Tx K w mg base C A)  (cdv : Value) (Ar : Around) (outer : List PySem.Env) (s : Shared) (H : Hp) (Ex : XK) (hr : Room 9 (Ar.deeper (PyProof.Rows.envOfC "_law_change" (defScope st_law_change) s.heap.objs.size (A 7) cdv))) :
    GSs (cxOf (L2.CX P w) P w K mg base N_law_change "_law_change" (defScope st_law_change) (A 7) cdv Ar outer s H Ex) C (fun cls d _ H' => Ex cls d H') (defBody st_law_change) (sSeq (sAsg (eOp1 opTuple (eFrz (lLc (iRng (eC (.int 10))) (gNm 9) (tVal (eOp2 opEq (eCall f_law_next (aCons (eVar 0) (aCons (eC (.int 6)) aNil))) (eC (.int 0)))) (eVar 9) [9]))) (gNm 4)) (sSeq (sAsg (eTup (aCons (eVar 1) (aCons (eVar 2) (aCons (eOp1 opTuple (eFrz (lSrtS (eOp2 opAdd (eBor 4) (eOp1 opTuple (eBor 3)))))) aNil)))) (gNm 5)) (sSeq (sAsg (eCall f_law_next (aCons (eVar 0) (aCons (eVar 1) aNil))) (gNm 6)) (sSeq (sAsg (eFrz (lLc (iRng (eVar 1)) (gNm 10) (tOr (tVal (eOp2 opEq (eBor 10) (eBor 6))) (tVal (eOp2 opEq (eCall f_law_next (aCons (eVar 0) (aCons (eC (.int 3)) aNil))) (eC (.int 0))))) (eVar 10) [10])) (gNm 7)) (sSeq (sAsg (eOp1 opTuple (eFrz (lLc (iSeq (eVar 7)) (gNm 10) tYesM (eTup (aCons (eVar 10) (aCons (eCall f_law_text (aCons (eVar 0) (aCons (eVar 5) aNil))) aNil))) [10]))) (gNm 8)) (sRet (eTup (aCons (eVar 8) (aCons (eVar 4) (aCons (eCall f_law_lines (aCons (eVar 0) (aCons (eVar 5) (aCons (eC (.bl true)) aNil)))) (aCons (eCall f_law_lines (aCons (eVar 0) (aCons (eVar 5) (aCons (eC (.bl false)) aNil)))) aNil))))))))))) := by
  have tk : Takes (cxOf (L2.CX P w) P w K mg base N_law_change "_law_change" (defScope st_law_change) (A 7) cdv Ar outer s H Ex) (fun cls d _ H' => Ex cls d H') := takes_of rfl rfl rfl rfl
  have ps : PassesOwn (model P w) (cxOf (L2.CX P w) P w K mg base N_law_change "_law_change" (defScope st_law_change) (A 7) cdv Ar outer s H Ex).A (cxOf (L2.CX P w) P w K mg base N_law_change "_law_change" (defScope st_law_change) (A 7) cdv Ar outer s H Ex).env (cxOf (L2.CX P w) P w K mg base N_law_change "_law_change" (defScope st_law_change) (A 7) cdv Ar outer s H Ex).xe := passes_of rfl
  have hu := hr.units
  have hv := hu_of hr
  have hu5 := Room65 hr
  exact (gss_cons (gs_set 4 (ge_ty1 call_tuple_of simTuple T.b_tuple (gb_of (ge_frz (by refine gl_lc (own := [("_law_mark", 9)]) (gvs := [9]) ?_ ?_ ?_ ?_ (fun s H Ca cl fp => ?_) (fun s H Ca cl fp => ?_) (fun s H Ca cl fp => ?_); (exact rfl); (exact nd_law_change); (exact (gi_range T.b_range ge_int)); (exact (blkOk_by (N := N_law_change) (sc := defScope st_law_change) (own := [("_law_mark", 9)]) (by decide +kernel))); (exact (gg_name 9 nd_law_change)); (exact (gts_one (gt_cmp (op_eqA hu) simEq rfl (gb_of (ge_call (c_law_next T) (hr.mono (by omega)) takes0 T.g_law_next T.k_law_next (ga_cons (ge_var 0) (ga_cons ge_int ga_nil)))) (gb_of ge_int)))); (exact (ge_var 9)))))) nd_law_change) (gss_cons (gs_set 5 (ge_tup (ga_cons (ge_var 1) (ga_cons (ge_var 2) (ga_cons (ge_ty1 call_tuple_of simTuple T.b_tuple (gb_of (ge_frz (gl_srtS rfl T.b_sorted T.b_set (ge_bin op_addA simAdd (gb_var 4) (gb_of (ge_ty1 call_tuple_of simTuple T.b_tuple (gb_var 3)))))))) ga_nil)))) nd_law_change) (gss_cons (gs_set 6 (ge_call (c_law_next T) (hr.mono (by omega)) tk T.g_law_next T.k_law_next (ga_cons (ge_var 0) (ga_cons (ge_var 1) ga_nil))) nd_law_change) (gss_cons (gs_frz (i := 7) (by refine pn_lc (own := [("_law_deed", 10)]) (gvs := [10]) ?_ ?_ ?_ ?_ (fun s H Ca cl fp => ?_) (fun s H Ca cl fp => ?_) (fun s H Ca cl fp => ?_); (exact rfl); (exact nd_law_change); (exact (gi_range T.b_range (ge_var 1))); (exact (blkOk_by (N := N_law_change) (sc := defScope st_law_change) (own := [("_law_deed", 10)]) (by decide +kernel))); (exact (gg_name 10 nd_law_change)); (exact (gts_one (gt_w (gw_or (gt_cmp (op_eqA hu) simEq rfl (gb_var 10) (gb_var 6)) (gw_or1 (gt_cmp (op_eqA hu) simEq rfl (gb_of (ge_call (c_law_next T) (hr.mono (by omega)) takes0 T.g_law_next T.k_law_next (ga_cons (ge_var 0) (ga_cons ge_int ga_nil)))) (gb_of ge_int))))))); (exact (ge_var 10)))) (gss_cons (gs_set 8 (ge_ty1 call_tuple_of simTuple T.b_tuple (gb_of (ge_frz (by refine gl_lc (own := [("_law_deed", 10)]) (gvs := [10]) ?_ ?_ ?_ ?_ (fun s H Ca cl fp => ?_) (fun s H Ca cl fp => ?_) (fun s H Ca cl fp => ?_); (exact rfl); (exact nd_law_change); (exact (gi_seq (ge_var 7))); (exact (blkOk_by (N := N_law_change) (sc := defScope st_law_change) (own := [("_law_deed", 10)]) (by decide +kernel))); (exact (gg_name 10 nd_law_change)); (exact gts_nil); (exact (ge_tup (ga_cons (ge_var 10) (ga_cons (ge_call (c_law_text T) (hr.mono (by omega)) takes0 T.g_law_text T.k_law_text (ga_cons (ge_var 0) (ga_cons (ge_var 5) ga_nil))) ga_nil)))))))) nd_law_change) (gss_one (gs_ret (ge_tup (ga_cons (ge_var 8) (ga_cons (ge_var 4) (ga_cons (ge_call (c_law_lines T) (hr.mono (by omega)) tk T.g_law_lines T.k_law_lines (ga_cons (ge_var 0) (ga_cons (ge_var 5) (ga_cons ge_bl ga_nil)))) (ga_cons (ge_call (c_law_lines T) (hr.mono (by omega)) tk T.g_law_lines T.k_law_lines (ga_cons (ge_var 0) (ga_cons (ge_var 5) (ga_cons ge_bl ga_nil)))) ga_nil))))))))))))
theorem c_law_change (T : Tx K w mg base C A) : Cal P w K mg base C 10 (A 7) f_law_change := by
  obtain ⟨fd, F⟩ := T.f_law_change
  exact cal_of (fn_calD (ps := ["_law_d", "_law_many", "_law_goods", "_law_owned"]) (N := N_law_change) F  (C8.fnScope_by (by decide +kernel)) (by decide) fun cdv Ar outer s H Ex hr => b_law_change T cdv Ar outer s H Ex hr) (F.bindsN fun _ _ _ _ _ _ us hl => match us, hl with | [_, _, _, _], _ => rfl)
theorem b_Rules___init__ (T : Tx K w mg base C A)  (cdv : Value) (Ar : Around) (outer : List PySem.Env) (s : Shared) (H : Hp) (Ex : XK) (hr : Room 0 (Ar.deeper (PyProof.Rows.envOfC "Rules.__init__" (defScope st_Rules___init__) s.heap.objs.size (A 9) cdv))) :
    GSs (cxOf (L2.CX P w) P w K mg base N_Rules___init__ "Rules.__init__" (defScope st_Rules___init__) (A 9) cdv Ar outer s H Ex) C (fun cls d _ H' => Ex cls d H') (defBody st_Rules___init__) (sSeq (MP.sFld 16 (eVar 0) (eVar 1) "words") (sSeq (MP.sFld 16 (eVar 0) (eVar 4) "marks") (sSeq (MP.sFld 16 (eVar 0) (eDic (pCons (eC (.str [110, 97, 109, 101])) (eC d_NAMES) (pCons (eC (.str [116, 104, 105, 110, 103])) (eVar 3) (pCons (eC (.str [102, 105, 101, 108, 100])) (eC d_FIELDS) (pCons (eC (.str [109, 97, 114, 107])) (eC d_MARKS) pNil))))) "limits") (sDrop (eUpd (eFld 16 (eVar 0) "limits") (eDic (pCons (eC (.str [100, 101, 101, 100])) (eVar 2) (pCons (eC (.str [114, 111, 119])) (eOp2 opAdd (eBor 5) (eC (.int 1))) (pCons (eC (.str [110, 117, 109, 98, 101, 114])) (eC d_BEYOND) pNil))))))))) := by
  have tk : Takes (cxOf (L2.CX P w) P w K mg base N_Rules___init__ "Rules.__init__" (defScope st_Rules___init__) (A 9) cdv Ar outer s H Ex) (fun cls d _ H' => Ex cls d H') := takes_of rfl rfl rfl rfl
  have ps : PassesOwn (model P w) (cxOf (L2.CX P w) P w K mg base N_Rules___init__ "Rules.__init__" (defScope st_Rules___init__) (A 9) cdv Ar outer s H Ex).A (cxOf (L2.CX P w) P w K mg base N_Rules___init__ "Rules.__init__" (defScope st_Rules___init__) (A 9) cdv Ar outer s H Ex).env (cxOf (L2.CX P w) P w K mg base N_Rules___init__ "Rules.__init__" (defScope st_Rules___init__) (A 9) cdv Ar outer s H Ex).xe := passes_of rfl
  have hu := hr.units
  have hv := hu_of hr
  have hu5 := Room65 hr
  have q_MARKS := T.q_MARKS
  have q_FIELDS := T.q_FIELDS
  have q_NAMES := T.q_NAMES
  have q_BEYOND := T.q_BEYOND
  exact (gss_cons (MP.gs_fld (cn := 16) (nm := "words") (ge_var 0) (ge_var 1) T.cl_Rules T.na_Rules_words) (gss_cons (MP.gs_fld (cn := 16) (nm := "marks") (ge_var 0) (ge_var 4) T.cl_Rules T.na_Rules_marks) (gss_cons (MP.gs_fld (cn := 16) (nm := "limits") (ge_var 0) (ge_dic (gps_cons (ge_str [110, 97, 109, 101]) (ge_kglob 6 d_NAMES q_NAMES.choose_spec.1 q_NAMES.choose_spec.2) (gps_cons (ge_str [116, 104, 105, 110, 103]) (ge_var 3) (gps_cons (ge_str [102, 105, 101, 108, 100]) (ge_kglob 6 d_FIELDS q_FIELDS.choose_spec.1 q_FIELDS.choose_spec.2) (gps_cons (ge_str [109, 97, 114, 107]) (ge_kglob 6 d_MARKS q_MARKS.choose_spec.1 q_MARKS.choose_spec.2) gps_nil))))) T.cl_Rules T.na_Rules_limits) (gss_one (gs_expr (ge_upd (ge_fld (c := 16) (nm := "limits") (ge_var 0) T.cl_Rules T.na_Rules_limits) (ge_dic (gps_cons (ge_str [100, 101, 101, 100]) (ge_var 2) (gps_cons (ge_str [114, 111, 119]) (ge_bin op_addA simAdd (gb_var 5) (gb_of ge_int)) (gps_cons (ge_str [110, 117, 109, 98, 101, 114]) (ge_kglob 6 d_BEYOND q_BEYOND.choose_spec.1 q_BEYOND.choose_spec.2) gps_nil))))))))))
def pl_Rules___init___deeds_things_marks_rows {α : Type} (a b c : List α) : List α := a ++ (c.drop 0).take 1 ++ (c.drop 1).take 1 ++ (c.drop 2).take 1 ++ (c.drop 3).take 1
def ms_Rules___init___deeds_things_marks_rows (K : PySem.W.Frag) : List (Str × V) := []
theorem ck_Rules___init___deeds_things_marks_rows (T : Tx K w mg base C A) : CalK P w K mg base C 1 (A 9) 2 ["deeds", "things", "marks", "rows"] fk_Rules___init___deeds_things_marks_rows := by
  obtain ⟨fd, F⟩ := T.f_Rules___init__
  obtain ⟨mv, hb⟩ := F.kbinds0 (ps := ["self", "words", "deeds", "things", "marks", "rows"]) 2 ["deeds", "things", "marks", "rows"] (ms_Rules___init___deeds_things_marks_rows K) (fun a b c => pl_Rules___init___deeds_things_marks_rows a b c) (List.cons_ne_nil _ _) (by simp [ms_Rules___init___deeds_things_marks_rows, kws_Rules___init__]) (fun ra rb rc => ((((ra.append ((rc.drop 0).take 1)).append ((rc.drop 1).take 1)).append ((rc.drop 2).take 1)).append ((rc.drop 3).take 1))) fun D doc pm an cdv ct us mv ws h1 h2 h3 => match us, mv, ws, h1, h2, h3 with
    | [_, _], [], [_, _, _, _], _, _, _ => rfl
  refine ⟨fd, ["self", "words", "deeds", "things", "marks", "rows"], _, _, f_Rules___init__, arr_Rules___init___deeds_things_marks_rows, fn_calD F (C8.fnScope_by (by decide +kernel)) (by decide) fun cdv Ar outer s H Ex hr => b_Rules___init__ T cdv Ar outer s H Ex hr, hb, ?_, rfl⟩
  intro q as es vs zs r1 r2 l1 l2
  match as, es, l1, l2 with
  | [x0, x1], [y0, y1, y2, y3], _, _ =>
    obtain ⟨v0, v1, rfl, p0, p1⟩ := rds2 r1
    obtain ⟨u0, u1, u2, u3, rfl, o0, o1, o2, o3⟩ := rds4 r2
    exact .cons (p0) (.cons (p1) (.cons (o0) (.cons (o1) (.cons (o2) (.cons (o3) (.nil))))))
theorem b_Rules_is_number (T : Tx K w mg base C A)  (cdv : Value) (Ar : Around) (outer : List PySem.Env) (s : Shared) (H : Hp) (Ex : XK) (hr : Room 0 (Ar.deeper (PyProof.Rows.envOfC "Rules.is_number" (defScope st_Rules_is_number) s.heap.objs.size (A 10) cdv))) :
    GSs (cxOf (L2.CX P w) P w K mg base N_Rules_is_number "Rules.is_number" (defScope st_Rules_is_number) (A 10) cdv Ar outer s H Ex) C (fun cls d _ H' => Ex cls d H') (defBody st_Rules_is_number) (sRet (eAnd (eChain opLe opLt (eC (.int 0)) (eBor 2) (eOp2 opDGet (eFld 16 (eVar 0) "limits") (eVar 1))) (eOr (eOp2 opNe (eBor 1) (eC (.str [109, 97, 114, 107]))) (eOp2 opIn (eBor 2) (eFld 16 (eVar 0) "marks"))))) := by
  have tk : Takes (cxOf (L2.CX P w) P w K mg base N_Rules_is_number "Rules.is_number" (defScope st_Rules_is_number) (A 10) cdv Ar outer s H Ex) (fun cls d _ H' => Ex cls d H') := takes_of rfl rfl rfl rfl
  have ps : PassesOwn (model P w) (cxOf (L2.CX P w) P w K mg base N_Rules_is_number "Rules.is_number" (defScope st_Rules_is_number) (A 10) cdv Ar outer s H Ex).A (cxOf (L2.CX P w) P w K mg base N_Rules_is_number "Rules.is_number" (defScope st_Rules_is_number) (A 10) cdv Ar outer s H Ex).env (cxOf (L2.CX P w) P w K mg base N_Rules_is_number "Rules.is_number" (defScope st_Rules_is_number) (A 10) cdv Ar outer s H Ex).xe := passes_of rfl
  have hu := hr.units
  have hv := hu_of hr
  have hu5 := Room65 hr
  exact (gss_one (gs_ret (ge_and (ge_chain op_le (simCmp _) op_lt (simCmp _) (gb_of ge_int) (gb_var 2) (gb_of (ge_dget hv (ge_fld (c := 16) (nm := "limits") (ge_var 0) T.cl_Rules T.na_Rules_limits) (ge_var 1)))) (ge_one (ge_or (ge_cmp (op_neA hu) simNe rfl (gb_var 1) (gb_of (ge_str [109, 97, 114, 107]))) (ge_one (ge_cmp op_inA simIn rfl (gb_var 2) (gb_of (ge_fld (c := 16) (nm := "marks") (ge_var 0) T.cl_Rules T.na_Rules_marks)))))))))
theorem c_Rules_is_number (T : Tx K w mg base C A) : Cal P w K mg base C 1 (A 10) f_Rules_is_number := by
  obtain ⟨fd, F⟩ := T.f_Rules_is_number
  exact cal_of (fn_calD (ps := ["self", "kind", "number"]) (N := N_Rules_is_number) F  (C8.fnScope_by (by decide +kernel)) (by decide) fun cdv Ar outer s H Ex hr => b_Rules_is_number T cdv Ar outer s H Ex hr) (F.bindsN fun _ _ _ _ _ _ us hl => match us, hl with | [_, _, _], _ => rfl)
theorem b_Rules_are_good (T : Tx K w mg base C A) {n : Nat} (ih_Rules_is_part : Cal P w K mg base C (2 + n) (A 12) (f_Rules_is_part n)) (cdv : Value) (Ar : Around) (outer : List PySem.Env) (s : Shared) (H : Hp) (Ex : XK) (hr : Room (2 + n) (Ar.deeper (PyProof.Rows.envOfC "Rules.are_good" (defScope st_Rules_are_good) s.heap.objs.size (A 11) cdv))) :
    GSs (cxOf (L2.CX P w) P w K mg base N_Rules_are_good "Rules.are_good" (defScope st_Rules_are_good) (A 11) cdv Ar outer s H Ex) C (fun cls d _ H' => Ex cls d H') (defBody st_Rules_are_good) (sSeq (sFor (iZipTL (eVar 1) (eVar 2)) (gTp [(gNm 4), (gNm 5)]) (sSeq (sAsg (eIf (tVal (eOp2 opEq (eBor 4) (eC (.str [112, 97, 114, 116])))) (eMeth 16 "is_part" (f_Rules_is_part n) (eVar 0) (aCons (eVar 5) (aCons (eVar 3) aNil))) (eMeth 16 "is_number" f_Rules_is_number (eVar 0) (aCons (eVar 4) (aCons (eVar 5) aNil)))) (gNm 6)) (sIf (tNot (tVal (eVar 6))) (sRet (eC (.bl false))) sNext))) (sRet (eC (.bl true)))) := by
  have tk : Takes (cxOf (L2.CX P w) P w K mg base N_Rules_are_good "Rules.are_good" (defScope st_Rules_are_good) (A 11) cdv Ar outer s H Ex) (fun cls d _ H' => Ex cls d H') := takes_of rfl rfl rfl rfl
  have ps : PassesOwn (model P w) (cxOf (L2.CX P w) P w K mg base N_Rules_are_good "Rules.are_good" (defScope st_Rules_are_good) (A 11) cdv Ar outer s H Ex).A (cxOf (L2.CX P w) P w K mg base N_Rules_are_good "Rules.are_good" (defScope st_Rules_are_good) (A 11) cdv Ar outer s H Ex).env (cxOf (L2.CX P w) P w K mg base N_Rules_are_good "Rules.are_good" (defScope st_Rules_are_good) (A 11) cdv Ar outer s H Ex).xe := passes_of rfl
  have hu := hr.units
  have hv := hu_of hr
  have hu5 := Room65 hr
  exact (gss_cons (gs_for ps rfl (gi_zipM T.b_zip (ge_var 1) (ge_var 2)) (gg_tup rfl (ggs_cons (gg_name 4 nd_Rules_are_good) (ggs_cons (gg_name 5 nd_Rules_are_good) ggs_nil))) (gss_cons (gs_set 6 (ge_if (gt_cmp (op_eqA hu) simEq rfl (gb_var 4) (gb_of (ge_str [112, 97, 114, 116]))) (ge_meth (c := 16) (nm := "is_part") (ge_var 0) T.cl_Rules T.me_Rules_is_part ih_Rules_is_part hr tk (ga_cons (ge_var 5) (ga_cons (ge_var 3) ga_nil))) (ge_meth (c := 16) (nm := "is_number") (ge_var 0) T.cl_Rules T.me_Rules_is_number (c_Rules_is_number T) (hr.mono (by omega)) tk (ga_cons (ge_var 4) (ga_cons (ge_var 5) ga_nil)))) nd_Rules_are_good) (gss_one (gs_if (gt_not (gt_val (ge_var 6))) (gss_one (gs_ret ge_bl)) gss_nil)))) (gss_one (gs_ret ge_bl)))
theorem b_Rules_is_part (T : Tx K w mg base C A) {n : Nat} (ih_Rules_are_good : Cal P w K mg base C (2 + n) (A 11) (f_Rules_are_good n)) (cdv : Value) (Ar : Around) (outer : List PySem.Env) (s : Shared) (H : Hp) (Ex : XK) (hr : Room (2 + n) (Ar.deeper (PyProof.Rows.envOfC "Rules.is_part" (defScope st_Rules_is_part) s.heap.objs.size (A 12) cdv))) :
    GSs (cxOf (L2.CX P w) P w K mg base N_Rules_is_part "Rules.is_part" (defScope st_Rules_is_part) (A 12) cdv Ar outer s H Ex) C (fun cls d _ H' => Ex cls d H') (defBody st_Rules_is_part) (sSeq (sAsg (eVar 1) (gSt [(gNm 3)] [] 4)) (sRet (eAnd (eOp2 opGt (eBor 2) (eC (.int 0))) (eMeth 16 "are_good" (f_Rules_are_good n) (eVar 0) (aCons (eOp1 (kGet t_PARTS) (eVar 3)) (aCons (eVar 4) (aCons (eOp2 opSub (eBor 2) (eC (.int 1))) aNil))))))) := by
  have tk : Takes (cxOf (L2.CX P w) P w K mg base N_Rules_is_part "Rules.is_part" (defScope st_Rules_is_part) (A 12) cdv Ar outer s H Ex) (fun cls d _ H' => Ex cls d H') := takes_of rfl rfl rfl rfl
  have ps : PassesOwn (model P w) (cxOf (L2.CX P w) P w K mg base N_Rules_is_part "Rules.is_part" (defScope st_Rules_is_part) (A 12) cdv Ar outer s H Ex).A (cxOf (L2.CX P w) P w K mg base N_Rules_is_part "Rules.is_part" (defScope st_Rules_is_part) (A 12) cdv Ar outer s H Ex).env (cxOf (L2.CX P w) P w K mg base N_Rules_is_part "Rules.is_part" (defScope st_Rules_is_part) (A 12) cdv Ar outer s H Ex).xe := passes_of rfl
  have hu := hr.units
  have hv := hu_of hr
  have hu5 := Room65 hr
  have q_PARTS := T.q_PARTS
  exact (gss_cons (gs_asg (ge_var 1) (gg_star (gs := [(gNm 3)]) (hs := []) (j := 4) rfl (ggs_cons (gg_name 3 nd_Rules_is_part) (ggs_star (gg_name 4 nd_Rules_is_part) ggs_nil)))) (gss_one (gs_ret (ge_and (ge_cmp op_gt (simCmp _) rfl (gb_var 2) (gb_of ge_int)) (ge_one (ge_meth (c := 16) (nm := "are_good") (ge_var 0) T.cl_Rules T.me_Rules_are_good ih_Rules_are_good hr tk (ga_cons (ge_kix q_PARTS.choose_spec.1 q_PARTS.choose_spec.2 (ge_var 3)) (ga_cons (ge_var 4) (ga_cons (ge_bin op_sub simSub (gb_var 2) (gb_of ge_int)) ga_nil)))))))))
theorem r_Rules_are_good_Rules_is_part (T : Tx K w mg base C A) : ∀ n : Nat, Cal P w K mg base C (2 + n) (A 11) (f_Rules_are_good n) ∧ Cal P w K mg base C (2 + n) (A 12) (f_Rules_is_part n)
  | 0 => ⟨(by
      obtain ⟨fd, F⟩ := T.f_Rules_are_good
      exact cal_of (fn_calD (ps := ["self", "kinds", "things", "deep"]) (N := N_Rules_are_good) F (C8.fnScope_by (by decide +kernel)) (by decide) fun cdv Ar outer s H Ex hr => gss_never) (F.bindsN fun _ _ _ _ _ _ us hl => match us, hl with | [_, _, _, _], _ => rfl)), (by
      obtain ⟨fd, F⟩ := T.f_Rules_is_part
      exact cal_of (fn_calD (ps := ["self", "part", "deep"]) (N := N_Rules_is_part) F (C8.fnScope_by (by decide +kernel)) (by decide) fun cdv Ar outer s H Ex hr => gss_never) (F.bindsN fun _ _ _ _ _ _ us hl => match us, hl with | [_, _, _], _ => rfl))⟩
  | n + 1 => by
    have ih := r_Rules_are_good_Rules_is_part T n
    obtain ⟨h11, h12⟩ := ih
    exact ⟨(by
      obtain ⟨fd, F⟩ := T.f_Rules_are_good
      exact cal_of (fn_calD (ps := ["self", "kinds", "things", "deep"]) (N := N_Rules_are_good) F (C8.fnScope_by (by decide +kernel)) (by decide) fun cdv Ar outer s H Ex hr => b_Rules_are_good T h12 cdv Ar outer s H Ex hr) (F.bindsN fun _ _ _ _ _ _ us hl => match us, hl with | [_, _, _, _], _ => rfl)), (by
      obtain ⟨fd, F⟩ := T.f_Rules_is_part
      exact cal_of (fn_calD (ps := ["self", "part", "deep"]) (N := N_Rules_is_part) F (C8.fnScope_by (by decide +kernel)) (by decide) fun cdv Ar outer s H Ex hr => b_Rules_is_part T h11 cdv Ar outer s H Ex hr) (F.bindsN fun _ _ _ _ _ _ us hl => match us, hl with | [_, _, _], _ => rfl))⟩
theorem c_Rules_are_good (T : Tx K w mg base C A) (n : Nat) : Cal P w K mg base C (2 + n) (A 11) (f_Rules_are_good n) := (r_Rules_are_good_Rules_is_part T n).1
theorem c_Rules_is_part (T : Tx K w mg base C A) (n : Nat) : Cal P w K mg base C (2 + n) (A 12) (f_Rules_is_part n) := (r_Rules_are_good_Rules_is_part T n).2
theorem b_Rules_is_row (T : Tx K w mg base C A)  (cdv : Value) (Ar : Around) (outer : List PySem.Env) (s : Shared) (H : Hp) (Ex : XK) (hr : Room 14 (Ar.deeper (PyProof.Rows.envOfC "Rules.is_row" (defScope st_Rules_is_row) s.heap.objs.size (A 13) cdv))) :
    GSs (cxOf (L2.CX P w) P w K mg base N_Rules_is_row "Rules.is_row" (defScope st_Rules_is_row) (A 13) cdv Ar outer s H Ex) C (fun cls d _ H' => Ex cls d H') (defBody st_Rules_is_row) (sSeq (sAsg (eVar 1) (gSt [(gNm 2)] [] 3)) (sRet (eAnd (eOp2 opIn (eBor 2) (eFld 16 (eVar 0) "words")) (eMeth 16 "are_good" (f_Rules_are_good 12) (eVar 0) (aCons (eOp1 (kGet t_ROWS) (eVar 2)) (aCons (eVar 3) (aCons (eC d_MOST_DEEP) aNil))))))) := by
  have tk : Takes (cxOf (L2.CX P w) P w K mg base N_Rules_is_row "Rules.is_row" (defScope st_Rules_is_row) (A 13) cdv Ar outer s H Ex) (fun cls d _ H' => Ex cls d H') := takes_of rfl rfl rfl rfl
  have ps : PassesOwn (model P w) (cxOf (L2.CX P w) P w K mg base N_Rules_is_row "Rules.is_row" (defScope st_Rules_is_row) (A 13) cdv Ar outer s H Ex).A (cxOf (L2.CX P w) P w K mg base N_Rules_is_row "Rules.is_row" (defScope st_Rules_is_row) (A 13) cdv Ar outer s H Ex).env (cxOf (L2.CX P w) P w K mg base N_Rules_is_row "Rules.is_row" (defScope st_Rules_is_row) (A 13) cdv Ar outer s H Ex).xe := passes_of rfl
  have hu := hr.units
  have hv := hu_of hr
  have hu5 := Room65 hr
  have q_MOST_DEEP := T.q_MOST_DEEP
  have q_ROWS := T.q_ROWS
  exact (gss_cons (gs_asg (ge_var 1) (gg_star (gs := [(gNm 2)]) (hs := []) (j := 3) rfl (ggs_cons (gg_name 2 nd_Rules_is_row) (ggs_star (gg_name 3 nd_Rules_is_row) ggs_nil)))) (gss_one (gs_ret (ge_and (ge_cmp op_inA simIn rfl (gb_var 2) (gb_of (ge_fld (c := 16) (nm := "words") (ge_var 0) T.cl_Rules T.na_Rules_words))) (ge_one (ge_meth (c := 16) (nm := "are_good") (ge_var 0) T.cl_Rules T.me_Rules_are_good (c_Rules_are_good T 12) (hr.mono (by omega)) tk (ga_cons (ge_kix q_ROWS.choose_spec.1 q_ROWS.choose_spec.2 (ge_var 2)) (ga_cons (ge_var 3) (ga_cons (ge_kglob 6 d_MOST_DEEP q_MOST_DEEP.choose_spec.1 q_MOST_DEEP.choose_spec.2) ga_nil)))))))))
theorem c_Rules_is_row (T : Tx K w mg base C A) : Cal P w K mg base C 15 (A 13) f_Rules_is_row := by
  obtain ⟨fd, F⟩ := T.f_Rules_is_row
  exact cal_of (fn_calD (ps := ["self", "row"]) (N := N_Rules_is_row) F  (C8.fnScope_by (by decide +kernel)) (by decide) fun cdv Ar outer s H Ex hr => b_Rules_is_row T cdv Ar outer s H Ex hr) (F.bindsN fun _ _ _ _ _ _ us hl => match us, hl with | [_, _], _ => rfl)
theorem b_first_bad (T : Tx K w mg base C A)  (cdv : Value) (Ar : Around) (outer : List PySem.Env) (s : Shared) (H : Hp) (Ex : XK) (hr : Room 15 (Ar.deeper (PyProof.Rows.envOfC "first_bad" (defScope st_first_bad) s.heap.objs.size (A 14) cdv))) :
    GSs (cxOf (L2.CX P w) P w K mg base N_first_bad "first_bad" (defScope st_first_bad) (A 14) cdv Ar outer s H Ex) C (fun cls d _ H' => Ex cls d H') (defBody st_first_bad) (sSeq (sFor (iEnumT (eVar 0)) (gTp [(gNm 3), (gNm 4)]) (sIf (tOr (tVal (eOp2 opGe (eBor 3) (eBor 2))) (tNot (tVal (eMeth 16 "is_row" f_Rules_is_row (eVar 1) (aCons (eVar 4) aNil))))) (sRet (eVar 3)) sNext)) (sRet (eC .non))) := by
  have tk : Takes (cxOf (L2.CX P w) P w K mg base N_first_bad "first_bad" (defScope st_first_bad) (A 14) cdv Ar outer s H Ex) (fun cls d _ H' => Ex cls d H') := takes_of rfl rfl rfl rfl
  have ps : PassesOwn (model P w) (cxOf (L2.CX P w) P w K mg base N_first_bad "first_bad" (defScope st_first_bad) (A 14) cdv Ar outer s H Ex).A (cxOf (L2.CX P w) P w K mg base N_first_bad "first_bad" (defScope st_first_bad) (A 14) cdv Ar outer s H Ex).env (cxOf (L2.CX P w) P w K mg base N_first_bad "first_bad" (defScope st_first_bad) (A 14) cdv Ar outer s H Ex).xe := passes_of rfl
  have hu := hr.units
  have hv := hu_of hr
  have hu5 := Room65 hr
  exact (gss_cons (gs_for ps rfl (gi_enumT T.b_enumerate (ge_var 0)) (gg_tup rfl (ggs_cons (gg_name 3 nd_first_bad) (ggs_cons (gg_name 4 nd_first_bad) ggs_nil))) (gss_one (gs_if (gt_w (gw_or (gt_cmp op_ge (simCmp _) rfl (gb_var 3) (gb_var 2)) (gw_or1 (gt_not (gt_val (ge_meth (c := 16) (nm := "is_row") (ge_var 1) T.cl_Rules T.me_Rules_is_row (c_Rules_is_row T) (hr.mono (by omega)) tk (ga_cons (ge_var 4) ga_nil))))))) (gss_one (gs_ret (ge_var 3))) gss_nil))) (gss_one (gs_ret ge_non)))
theorem ck_first_bad_0 (T : Tx K w mg base C A) : Cal P w K mg base C 16 (A 14) fk_first_bad_0 := by
  obtain ⟨fd, F⟩ := T.f_first_bad
  obtain ⟨ds, rv, hb⟩ := F.binds0 (ps := ["rows", "rules", "most"]) 2 (List.cons_ne_nil _ _) rfl fun D doc pm an cdv ct us ks h1 h2 => match us, ks, h1, h2 with
    | [_, _], [_], _, _ => ⟨_, _, _, _, _, _, rfl, rfl, rfl⟩
  exact ⟨fd, ["rows", "rules", "most"], ds, _, [(.int 12)], f_first_bad, fn_calD F (C8.fnScope_by (by decide +kernel)) (by decide) fun cdv Ar outer s H Ex hr => b_first_bad T cdv Ar outer s H Ex hr, hb, rv, fun q => .cons (.int 12) (.nil), rfl⟩
theorem b_fault (T : Tx K w mg base C A)  (cdv : Value) (Ar : Around) (outer : List PySem.Env) (s : Shared) (H : Hp) (Ex : XK) (hr : Room 16 (Ar.deeper (PyProof.Rows.envOfC "fault" (defScope st_fault) s.heap.objs.size (A 15) cdv))) :
    GSs (cxOf (L2.CX P w) P w K mg base N_fault "fault" (defScope st_fault) (A 15) cdv Ar outer s H Ex) C (fun cls d _ H' => Ex cls d H') (defBody st_fault) (sSeq (sIf (tVal (eOp2 opEq (eOp1 opLen (eBor 0)) (eC (.int 0)))) (sRet (eOp1 opNeg (eC (.int 1)))) sNext) (sSeq (sAsg (eNewK 16 fk_Rules___init___deeds_things_marks_rows 1 4 (aCons (eVar 1) aNil) (aCons (eVar 2) (aCons (eVar 3) (aCons (eVar 4) (aCons (eOp2 opMin (eOp1 opLen (eBor 0)) (eC d_MOST_ROWS)) aNil))))) (gNm 5)) (sRet (eCall fk_first_bad_0 (aCons (eVar 0) (aCons (eVar 5) aNil)))))) := by
  have tk : Takes (cxOf (L2.CX P w) P w K mg base N_fault "fault" (defScope st_fault) (A 15) cdv Ar outer s H Ex) (fun cls d _ H' => Ex cls d H') := takes_of rfl rfl rfl rfl
  have ps : PassesOwn (model P w) (cxOf (L2.CX P w) P w K mg base N_fault "fault" (defScope st_fault) (A 15) cdv Ar outer s H Ex).A (cxOf (L2.CX P w) P w K mg base N_fault "fault" (defScope st_fault) (A 15) cdv Ar outer s H Ex).env (cxOf (L2.CX P w) P w K mg base N_fault "fault" (defScope st_fault) (A 15) cdv Ar outer s H Ex).xe := passes_of rfl
  have hu := hr.units
  have hv := hu_of hr
  have hu5 := Room65 hr
  have q_MOST_ROWS := T.q_MOST_ROWS
  exact (gss_cons (gs_if (gt_cmp (op_eqA hu) simEq rfl (gb_of (ge_fun1 call_lenA simLen T.b_len (gb_var 0))) (gb_of ge_int)) (gss_one (gs_ret (ge_neg ge_int))) gss_nil) (gss_cons (gs_set 5 (ge_newK 1 T.mk_Rules (ck_Rules___init___deeds_things_marks_rows T) (hr.mono (by omega)) tk T.gc_Rules (ga_cons (ge_var 1) ga_nil) (gk_cons (ge_var 2) (gk_cons (ge_var 3) (gk_cons (ge_var 4) (gk_cons (ge_min2 rfl T.b_min (ge_fun1 call_lenA simLen T.b_len (gb_var 0)) (ge_kglob 6 d_MOST_ROWS q_MOST_ROWS.choose_spec.1 q_MOST_ROWS.choose_spec.2)) gk_nil))))) nd_fault) (gss_one (gs_ret (ge_call (ck_first_bad_0 T) (hr.mono (by omega)) tk T.g_first_bad T.k_first_bad (ga_cons (ge_var 0) (ga_cons (ge_var 5) ga_nil)))))))
def pl_fault_deeds_things {α : Type} (a b c : List α) : List α := a ++ (c.drop 0).take 1 ++ (c.drop 1).take 1 ++ (b.drop 0).take 1
def ms_fault_deeds_things (K : PySem.W.Frag) : List (Str × V) := [("marks", V.ref (kdAt ("fault", none) "marks" K))]
theorem ck_fault_deeds_things (T : Tx K w mg base C A) : CalK P w K mg base C 17 (A 15) 2 ["deeds", "things"] fk_fault_deeds_things := by
  obtain ⟨fd, F⟩ := T.f_fault
  obtain ⟨mv, hb⟩ := F.kbinds0 (ps := ["text", "words", "deeds", "things", "marks"]) 2 ["deeds", "things"] (ms_fault_deeds_things K) (fun a b c => pl_fault_deeds_things a b c) (List.cons_ne_nil _ _) (by simp [ms_fault_deeds_things, kws_fault]) (fun ra rb rc => (((ra.append ((rc.drop 0).take 1)).append ((rc.drop 1).take 1)).append ((rb.drop 0).take 1))) fun D doc pm an cdv ct us mv ws h1 h2 h3 => match us, mv, ws, h1, h2, h3 with
    | [_, _], [_], [_, _], _, _, _ => ⟨_, _, _, _, _, _, rfl, rfl, rfl⟩
  refine ⟨fd, ["text", "words", "deeds", "things", "marks"], _, _, f_fault, arr_fault_deeds_things, fn_calD F (C8.fnScope_by (by decide +kernel)) (by decide) fun cdv Ar outer s H Ex hr => b_fault T cdv Ar outer s H Ex hr, hb, ?_, rfl⟩
  intro q as es vs zs r1 r2 l1 l2
  match as, es, l1, l2 with
  | [x0, x1], [y0, y1], _, _ =>
    obtain ⟨v0, v1, rfl, p0, p1⟩ := rds2 r1
    obtain ⟨u0, u1, rfl, o0, o1⟩ := rds2 r2
    exact .cons (p0) (.cons (p1) (.cons (o0) (.cons (o1) (.cons (T.dq_fault_marks _) (.nil)))))
theorem b_need_texts (T : Tx K w mg base C A)  (cdv : Value) (Ar : Around) (outer : List PySem.Env) (s : Shared) (H : Hp) (Ex : XK) (hr : Room 17 (Ar.deeper (PyProof.Rows.envOfC "need_texts" (defScope st_need_texts) s.heap.objs.size (A 16) cdv))) :
    GSs (cxOf (L2.CX P w) P w K mg base N_need_texts "need_texts" (defScope st_need_texts) (A 16) cdv Ar outer s H Ex) C (fun cls d _ H' => Ex cls d H') (defBody st_need_texts) (sSeq (sIf (tVal (eOp2 opGt (eOp1 opLen (eBor 0)) (eC d_MOST_DEEDS))) (sRs 1 ["deed", "row"] (aCons (eC d_MOST_DEEDS) (aCons (eOp1 opNeg (eC (.int 1))) aNil))) sNext) (sSeq (sIf (tVal (eOp2 opEq (eOp1 opLen (eBor 0)) (eC (.int 0)))) (sRs 1 ["deed", "row"] (aCons (eC (.int 0)) (aCons (eOp1 opNeg (eC (.int 1))) aNil))) sNext) (sFor (iEnum (eVar 0)) (gTp [(gNm 2), (gNm 3)]) (sSeq (sAsg (eCallK fk_fault_deeds_things 2 2 (aCons (eVar 3) (aCons (eC d_OWN_WORDS) aNil)) (aCons (eOp1 opLen (eBor 0)) (aCons (eVar 1) aNil))) (gNm 4)) (sIf (tVal (eOp1 opNotN (eVar 4))) (sRs 1 ["deed", "row"] (aCons (eVar 2) (aCons (eVar 4) aNil))) sNext))))) := by
  have tk : Takes (cxOf (L2.CX P w) P w K mg base N_need_texts "need_texts" (defScope st_need_texts) (A 16) cdv Ar outer s H Ex) (fun cls d _ H' => Ex cls d H') := takes_of rfl rfl rfl rfl
  have ps : PassesOwn (model P w) (cxOf (L2.CX P w) P w K mg base N_need_texts "need_texts" (defScope st_need_texts) (A 16) cdv Ar outer s H Ex).A (cxOf (L2.CX P w) P w K mg base N_need_texts "need_texts" (defScope st_need_texts) (A 16) cdv Ar outer s H Ex).env (cxOf (L2.CX P w) P w K mg base N_need_texts "need_texts" (defScope st_need_texts) (A 16) cdv Ar outer s H Ex).xe := passes_of rfl
  have hu := hr.units
  have hv := hu_of hr
  have hu5 := Room65 hr
  have q_MOST_DEEDS := T.q_MOST_DEEDS
  have q_OWN_WORDS := T.q_OWN_WORDS
  obtain ⟨_, oi_BadTexts, bi_BadTexts⟩ := oi_BadTexts (P := P) T
  exact (gss_cons (gs_if (gt_cmp op_gt (simCmp _) rfl (gb_of (ge_fun1 call_lenA simLen T.b_len (gb_var 0))) (gb_of (ge_kglob 6 d_MOST_DEEDS q_MOST_DEEDS.choose_spec.1 q_MOST_DEEDS.choose_spec.2))) (gss_one (gs_rs 1 "deed" ["row"] T.xo_BadTexts T.ii_BadTexts.1 T.ii_BadTexts.2 oi_BadTexts (hr.mono (by omega)) bi_BadTexts (by decide) T.gc_BadTexts rfl tk (ga_cons (ge_kglob 6 d_MOST_DEEDS q_MOST_DEEDS.choose_spec.1 q_MOST_DEEDS.choose_spec.2) (ga_cons (ge_neg ge_int) ga_nil)))) gss_nil) (gss_cons (gs_if (gt_cmp (op_eqA hu) simEq rfl (gb_of (ge_fun1 call_lenA simLen T.b_len (gb_var 0))) (gb_of ge_int)) (gss_one (gs_rs 1 "deed" ["row"] T.xo_BadTexts T.ii_BadTexts.1 T.ii_BadTexts.2 oi_BadTexts (hr.mono (by omega)) bi_BadTexts (by decide) T.gc_BadTexts rfl tk (ga_cons ge_int (ga_cons (ge_neg ge_int) ga_nil)))) gss_nil) (gss_one (gs_for ps rfl (gi_enum T.b_enumerate (ge_var 0)) (gg_tup rfl (ggs_cons (gg_name 2 nd_need_texts) (ggs_cons (gg_name 3 nd_need_texts) ggs_nil))) (gss_cons (gs_set 4 (ge_callK 2 (ck_fault_deeds_things T) (hr.mono (by omega)) tk T.g_fault T.k_fault (ga_cons (ge_var 3) (ga_cons (ge_kglob 6 d_OWN_WORDS q_OWN_WORDS.choose_spec.1 q_OWN_WORDS.choose_spec.2) ga_nil)) (gk_cons (ge_fun1 call_lenA simLen T.b_len (gb_var 0)) (gk_cons (ge_var 1) gk_nil))) nd_need_texts) (gss_one (gs_if (gt_notN (ge_var 4)) (gss_one (gs_rs 1 "deed" ["row"] T.xo_BadTexts T.ii_BadTexts.1 T.ii_BadTexts.2 oi_BadTexts (hr.mono (by omega)) bi_BadTexts (by decide) T.gc_BadTexts rfl tk (ga_cons (ge_var 2) (ga_cons (ge_var 4) ga_nil)))) gss_nil)))))))
theorem ck_need_texts_0 (T : Tx K w mg base C A) : Cal P w K mg base C 18 (A 16) fk_need_texts_0 := by
  obtain ⟨fd, F⟩ := T.f_need_texts
  obtain ⟨ds, rv, hb⟩ := F.binds0 (ps := ["texts", "things"]) 1 (List.cons_ne_nil _ _) rfl fun D doc pm an cdv ct us ks h1 h2 => match us, ks, h1, h2 with
    | [_], [_], _, _ => ⟨_, _, _, _, _, _, rfl, rfl, rfl⟩
  exact ⟨fd, ["texts", "things"], ds, _, [(.int 4)], f_need_texts, fn_calD F (C8.fnScope_by (by decide +kernel)) (by decide) fun cdv Ar outer s H Ex hr => b_need_texts T cdv Ar outer s H Ex hr, hb, rv, fun q => .cons (.int 4) (.nil), rfl⟩
theorem b_leads (T : Tx K w mg base C A)  (cdv : Value) (Ar : Around) (outer : List PySem.Env) (s : Shared) (H : Hp) (Ex : XK) (hr : Room 0 (Ar.deeper (PyProof.Rows.envOfC "leads" (defScope st_leads) s.heap.objs.size (A 17) cdv))) :
    GSs (cxOf (L2.CX P w) P w K mg base N_leads "leads" (defScope st_leads) (A 17) cdv Ar outer s H Ex) C (fun cls d _ H' => Ex cls d H') (defBody st_leads) (sSeq (sAsg (eFrz (lLc (iSeq (eVar 0)) (gNm 5) tYesM (ePlc (lLst aNil)) [5])) (gNm 2)) (sSeq (sAsg (eFrz (lAdd (eFrz (lEnum (eVar 0))) (eFrz (lLc2 (iSeq (eVar 1)) (gNm 6) tYesM (iSeq (eOp2 opIx (eBor 6) (eC (.int 0)))) (gNm 7) tYesM (eVar 7) [6, 7] [7])))) (gNm 3)) (sSeq (sFor (iSeq (eVar 3)) (gTp [(gNm 4), (gNm 5)]) (sDrop (eExtL (eOp2 opIx (eBor 2) (eBor 4)) (eFrz (lLc (iSeq (eVar 5)) (gNm 8) (tVal (eOp2 opEq (eOp2 opIx (eBor 8) (eC (.int 0))) (eC (.str [99, 97, 108, 108])))) (eOp2 opIx (eBor 8) (eC (.int 2))) [8]))))) (sRet (eVar 2))))) := by
  have tk : Takes (cxOf (L2.CX P w) P w K mg base N_leads "leads" (defScope st_leads) (A 17) cdv Ar outer s H Ex) (fun cls d _ H' => Ex cls d H') := takes_of rfl rfl rfl rfl
  have ps : PassesOwn (model P w) (cxOf (L2.CX P w) P w K mg base N_leads "leads" (defScope st_leads) (A 17) cdv Ar outer s H Ex).A (cxOf (L2.CX P w) P w K mg base N_leads "leads" (defScope st_leads) (A 17) cdv Ar outer s H Ex).env (cxOf (L2.CX P w) P w K mg base N_leads "leads" (defScope st_leads) (A 17) cdv Ar outer s H Ex).xe := passes_of rfl
  have hu := hr.units
  have hv := hu_of hr
  have hu5 := Room65 hr
  exact (gss_cons (gs_frz (i := 2) (by refine pn_lc (own := [("text", 5)]) (gvs := [5]) ?_ ?_ ?_ ?_ (fun s H Ca cl fp => ?_) (fun s H Ca cl fp => ?_) (fun s H Ca cl fp => ?_); (exact rfl); (exact nd_leads); (exact (gi_seq (ge_var 0))); (exact (blkOk_by (N := N_leads) (sc := defScope st_leads) (own := [("text", 5)]) (by decide +kernel))); (exact (gg_name 5 nd_leads)); (exact gts_nil); (exact (ge_plc (gl_lst ga_nil))))) (gss_cons (gs_frz (i := 3) (pn_set 3 (gl_add (gb_of (ge_frz (gl_enum rfl T.b_list T.b_enumerate (ge_var 0)))) (gb_of (ge_frz (by refine gl_lc2 (own := [("change", 6), ("pair", 7)]) (gvs := [6]) (gvs1 := [7]) (vs1 := [7]) ?_ ?_ ?_ ?_ (fun s H Ca cl fp => ?_) (fun s H Ca cl fp => ?_) (fun s H Ca cl fp => ?_) (fun s H Ca cl fp => ?_) (fun s H Ca cl fp => ?_) (fun s H Ca cl fp => ?_) ?_; (exact rfl); (exact nd_leads); (exact (gi_seq (ge_var 1))); (exact (blkOk_by (N := N_leads) (sc := defScope st_leads) (own := [("change", 6), ("pair", 7)]) (by decide +kernel))); (exact (gg_name 6 nd_leads)); (exact gts_nil); (exact (gi_seq (ge_ix (gb_var 6) (gb_of ge_int)))); (exact (gg_name 7 nd_leads)); (exact gts_nil); (exact (ge_var 7)); (exact (no_nm 6)))))) nd_leads)) (gss_cons (gs_for ps rfl (gi_seq (ge_var 3)) (gg_tup rfl (ggs_cons (gg_name 4 nd_leads) (ggs_cons (gg_name 5 nd_leads) ggs_nil))) (gss_one (gs_expr (ge_extL (ge_ix (gb_var 2) (gb_var 4)) (ge_frz (by refine gl_lc (own := [("row", 8)]) (gvs := [8]) ?_ ?_ ?_ ?_ (fun s H Ca cl fp => ?_) (fun s H Ca cl fp => ?_) (fun s H Ca cl fp => ?_); (exact rfl); (exact nd_leads); (exact (gi_seq (ge_var 5))); (exact (blkOk_by (N := N_leads) (sc := defScope st_leads) (own := [("row", 8)]) (by decide +kernel))); (exact (gg_name 8 nd_leads)); (exact (gts_one (gt_cmp (op_eqA hu) simEq rfl (gb_of (ge_ix (gb_var 8) (gb_of ge_int))) (gb_of (ge_str [99, 97, 108, 108]))))); (exact (ge_ix (gb_var 8) (gb_of ge_int))))))))) (gss_one (gs_ret (ge_var 2))))))
theorem c_leads (T : Tx K w mg base C A) : Cal P w K mg base C 1 (A 17) f_leads := by
  obtain ⟨fd, F⟩ := T.f_leads
  exact cal_of (fn_calD (ps := ["texts", "changes"]) (N := N_leads) F  (C8.fnScope_by (by decide +kernel)) (by decide) fun cdv Ar outer s H Ex hr => b_leads T cdv Ar outer s H Ex hr) (F.bindsN fun _ _ _ _ _ _ us hl => match us, hl with | [_, _], _ => rfl)
theorem b_words (T : Tx K w mg base C A)  (cdv : Value) (Ar : Around) (outer : List PySem.Env) (s : Shared) (H : Hp) (Ex : XK) (hr : Room 18 (Ar.deeper (PyProof.Rows.envOfC "words" (defScope st_words) s.heap.objs.size (A 18) cdv))) :
    GSs (cxOf (L2.CX P w) P w K mg base N_words "words" (defScope st_words) (A 18) cdv Ar outer s H Ex) C (fun cls d _ H' => Ex cls d H') (defBody st_words) (sSeq (sDrop (eCall fk_need_texts_0 (aCons (eVar 0) aNil))) (sSeq (sAsg (eCall f_leads (aCons (eVar 0) (aCons (eVar 1) aNil))) (gNm 3)) (sSeq (sOwn (lOf (eBor 2)) 4) (sSeq (sAsg (eC (.int 0)) (gNm 5)) (sSeq (sWhile 10000 (tVal (eOp2 opLt (eBor 5) (eOp1 opLen (eBor 4)))) (sSeq (sExt 4 (eFrz (lLc (iSeq (eOp2 opIx (eBor 3) (eOp2 opIx (eBor 4) (eBor 5)))) (gNm 6) (tVal (eOp2 opNotIn (eBor 6) (eBor 4))) (eVar 6) [6]))) (sAsg (eOp2 opAdd (eBor 5) (eC (.int 1))) (gNm 5)))) (sRet (ePlc (lLc (iRng (eOp1 opLen (eBor 0))) (gNm 6) tYesM (eIf (tVal (eOp2 opIn (eBor 6) (eBor 2))) (eC d_HOLDS) (eIf (tVal (eOp2 opIn (eBor 6) (eBor 4))) (eC d_MAY) (eC d_NEVER))) [6])))))))) := by
  have tk : Takes (cxOf (L2.CX P w) P w K mg base N_words "words" (defScope st_words) (A 18) cdv Ar outer s H Ex) (fun cls d _ H' => Ex cls d H') := takes_of rfl rfl rfl rfl
  have ps : PassesOwn (model P w) (cxOf (L2.CX P w) P w K mg base N_words "words" (defScope st_words) (A 18) cdv Ar outer s H Ex).A (cxOf (L2.CX P w) P w K mg base N_words "words" (defScope st_words) (A 18) cdv Ar outer s H Ex).env (cxOf (L2.CX P w) P w K mg base N_words "words" (defScope st_words) (A 18) cdv Ar outer s H Ex).xe := passes_of rfl
  have hu := hr.units
  have hv := hu_of hr
  have hu5 := Room65 hr
  have q_HOLDS := T.q_HOLDS
  have q_MAY := T.q_MAY
  have q_NEVER := T.q_NEVER
  exact (gss_cons (gs_expr (ge_call (ck_need_texts_0 T) (hr.mono (by omega)) tk T.g_need_texts T.k_need_texts (ga_cons (ge_var 0) ga_nil))) (gss_cons (gs_set 3 (ge_call (c_leads T) (hr.mono (by omega)) tk T.g_leads T.k_leads (ga_cons (ge_var 0) (ga_cons (ge_var 1) ga_nil))) nd_words) (gss_cons (gs_own (i := 4) (pn_set 4 (gl_of T.b_list (gb_var 2)) nd_words)) (gss_cons (gs_set 5 ge_int nd_words) (gss_cons (gs_while 10000 ps (gt_cmp op_lt (simCmp _) rfl (gb_var 5) (gb_of (ge_fun1 call_lenA simLen T.b_len (gb_var 4)))) (gss_cons (gs_ext 4 (ge_frz (by refine gl_lc (own := [("deed", 6)]) (gvs := [6]) ?_ ?_ ?_ ?_ (fun s H Ca cl fp => ?_) (fun s H Ca cl fp => ?_) (fun s H Ca cl fp => ?_); (exact rfl); (exact nd_words); (exact (gi_seq (ge_ix (gb_var 3) (gb_of (ge_ix (gb_var 4) (gb_var 5)))))); (exact (blkOk_by (N := N_words) (sc := defScope st_words) (own := [("deed", 6)]) (by decide +kernel))); (exact (gg_name 6 nd_words)); (exact (gts_one (gt_cmp op_notInA simNotIn rfl (gb_var 6) (gb_var 4)))); (exact (ge_var 6))))) (gss_one (gs_set 5 (ge_bin op_addA simAdd (gb_var 5) (gb_of ge_int)) nd_words)))) (gss_one (gs_ret (ge_plc (by refine gl_lc (own := [("deed", 6)]) (gvs := [6]) ?_ ?_ ?_ ?_ (fun s H Ca cl fp => ?_) (fun s H Ca cl fp => ?_) (fun s H Ca cl fp => ?_); (exact rfl); (exact nd_words); (exact (gi_range T.b_range (ge_fun1 call_lenA simLen T.b_len (gb_var 0)))); (exact (blkOk_by (N := N_words) (sc := defScope st_words) (own := [("deed", 6)]) (by decide +kernel))); (exact (gg_name 6 nd_words)); (exact gts_nil); (exact (ge_if (gt_cmp op_inA simIn rfl (gb_var 6) (gb_var 2)) (ge_kglob 6 d_HOLDS q_HOLDS.choose_spec.1 q_HOLDS.choose_spec.2) (ge_if (gt_cmp op_inA simIn rfl (gb_var 6) (gb_var 4)) (ge_kglob 6 d_MAY q_MAY.choose_spec.1 q_MAY.choose_spec.2) (ge_kglob 6 d_NEVER q_NEVER.choose_spec.1 q_NEVER.choose_spec.2)))))))))))))
theorem c_words (T : Tx K w mg base C A) : Cal P w K mg base C 19 (A 18) f_words := by
  obtain ⟨fd, F⟩ := T.f_words
  exact cal_of (fn_calD (ps := ["texts", "changes", "some"]) (N := N_words) F  (C8.fnScope_by (by decide +kernel)) (by decide) fun cdv Ar outer s H Ex hr => b_words T cdv Ar outer s H Ex hr) (F.bindsN fun _ _ _ _ _ _ us hl => match us, hl with | [_, _, _], _ => rfl)
theorem b_law_like (T : Tx K w mg base C A) {n : Nat} (ih_law_like : Cal P w K mg base C (1 + n) (A 19) (f_law_like n)) (cdv : Value) (Ar : Around) (outer : List PySem.Env) (s : Shared) (H : Hp) (Ex : XK) (hr : Room (1 + n) (Ar.deeper (PyProof.Rows.envOfC "_law_like" (defScope st_law_like) s.heap.objs.size (A 19) cdv))) :
    GSs (cxOf (L2.CX P w) P w K mg base N_law_like "_law_like" (defScope st_law_like) (A 19) cdv Ar outer s H Ex) C (fun cls d _ H' => Ex cls d H') (defBody st_law_like) (sSeq (sIf (tOr (tVal (eOp1 (opKind .tuple) (eVar 1))) (tVal (eOp1 (opKind .list) (eVar 1)))) (sSeq (sIf (tVal (eOp2 opNe (eOp1 (opKind .tuple) (eVar 0)) (eOp1 (opKind .tuple) (eVar 1)))) (sRet (eC (.bl false))) sNext) (sSeq (sIf (tOr (tVal (eOp2 opNe (eOp1 (opKind .list) (eVar 0)) (eOp1 (opKind .list) (eVar 1)))) (tVal (eOp2 opNe (eOp1 opLen (eBor 0)) (eOp1 opLen (eBor 1))))) (sRet (eC (.bl false))) sNext) (sRet (eOp2 opEq (eFrz (lLc (iRng (eOp1 opLen (eBor 1))) (gNm 2) (tNot (tVal (eCall (f_law_like n) (aCons (eOp2 opIx (eBor 0) (eBor 2)) (aCons (eOp2 opIx (eBor 1) (eBor 2)) aNil))))) (eVar 2) [2])) (eFrz (lLst aNil)))))) sNext) (sSeq (sIf (tVal (eOp2 opNe (eOp1 (opKind .bool) (eVar 0)) (eOp1 (opKind .bool) (eVar 1)))) (sRet (eC (.bl false))) sNext) (sSeq (sIf (tOr (tVal (eOp2 opNe (eOp1 (opKind .int) (eVar 0)) (eOp1 (opKind .int) (eVar 1)))) (tVal (eOp2 opNe (eOp1 (opKind .str) (eVar 0)) (eOp1 (opKind .str) (eVar 1))))) (sRet (eC (.bl false))) sNext) (sRet (eOp2 opEq (eBor 0) (eBor 1)))))) := by
  have tk : Takes (cxOf (L2.CX P w) P w K mg base N_law_like "_law_like" (defScope st_law_like) (A 19) cdv Ar outer s H Ex) (fun cls d _ H' => Ex cls d H') := takes_of rfl rfl rfl rfl
  have ps : PassesOwn (model P w) (cxOf (L2.CX P w) P w K mg base N_law_like "_law_like" (defScope st_law_like) (A 19) cdv Ar outer s H Ex).A (cxOf (L2.CX P w) P w K mg base N_law_like "_law_like" (defScope st_law_like) (A 19) cdv Ar outer s H Ex).env (cxOf (L2.CX P w) P w K mg base N_law_like "_law_like" (defScope st_law_like) (A 19) cdv Ar outer s H Ex).xe := passes_of rfl
  have hu := hr.units
  have hv := hu_of hr
  have hu5 := Room65 hr
  exact (gss_cons (gs_if (gt_w (gw_or (gt_val (ge_isi .tuple T.b_isinstance T.b_tuple (by decide +kernel) (ge_var 1))) (gw_or1 (gt_val (ge_isi .list T.b_isinstance T.b_list (by decide +kernel) (ge_var 1)))))) (gss_cons (gs_if (gt_cmp (op_neA hu) simNe rfl (gb_of (ge_isi .tuple T.b_isinstance T.b_tuple (by decide +kernel) (ge_var 0))) (gb_of (ge_isi .tuple T.b_isinstance T.b_tuple (by decide +kernel) (ge_var 1)))) (gss_one (gs_ret ge_bl)) gss_nil) (gss_cons (gs_if (gt_w (gw_or (gt_cmp (op_neA hu) simNe rfl (gb_of (ge_isi .list T.b_isinstance T.b_list (by decide +kernel) (ge_var 0))) (gb_of (ge_isi .list T.b_isinstance T.b_list (by decide +kernel) (ge_var 1)))) (gw_or1 (gt_cmp (op_neA hu) simNe rfl (gb_of (ge_fun1 call_lenA simLen T.b_len (gb_var 0))) (gb_of (ge_fun1 call_lenA simLen T.b_len (gb_var 1))))))) (gss_one (gs_ret ge_bl)) gss_nil) (gss_one (gs_ret (ge_cmp (op_eqA hu) simEq rfl (gb_of (ge_frz (by refine gl_lc (own := [("_law_k", 2)]) (gvs := [2]) ?_ ?_ ?_ ?_ (fun s H Ca cl fp => ?_) (fun s H Ca cl fp => ?_) (fun s H Ca cl fp => ?_); (exact rfl); (exact nd_law_like); (exact (gi_range T.b_range (ge_fun1 call_lenA simLen T.b_len (gb_var 1)))); (exact (blkOk_by (N := N_law_like) (sc := defScope st_law_like) (own := [("_law_k", 2)]) (by decide +kernel))); (exact (gg_name 2 nd_law_like)); (exact (gts_one (gt_not (gt_val (ge_call ih_law_like hr takes0 T.g_law_like T.k_law_like (ga_cons (ge_ix (gb_var 0) (gb_var 2)) (ga_cons (ge_ix (gb_var 1) (gb_var 2)) ga_nil))))))); (exact (ge_var 2))))) (gb_of (ge_frz (gl_lst ga_nil)))))))) gss_nil) (gss_cons (gs_if (gt_cmp (op_neA hu) simNe rfl (gb_of (ge_isi .bool T.b_isinstance T.b_bool (by decide +kernel) (ge_var 0))) (gb_of (ge_isi .bool T.b_isinstance T.b_bool (by decide +kernel) (ge_var 1)))) (gss_one (gs_ret ge_bl)) gss_nil) (gss_cons (gs_if (gt_w (gw_or (gt_cmp (op_neA hu) simNe rfl (gb_of (ge_isi .int T.b_isinstance T.b_int (by decide +kernel) (ge_var 0))) (gb_of (ge_isi .int T.b_isinstance T.b_int (by decide +kernel) (ge_var 1)))) (gw_or1 (gt_cmp (op_neA hu) simNe rfl (gb_of (ge_isi .str T.b_isinstance T.b_str (by decide +kernel) (ge_var 0))) (gb_of (ge_isi .str T.b_isinstance T.b_str (by decide +kernel) (ge_var 1))))))) (gss_one (gs_ret ge_bl)) gss_nil) (gss_one (gs_ret (ge_cmp (op_eqA hu) simEq rfl (gb_var 0) (gb_var 1)))))))
theorem r_law_like (T : Tx K w mg base C A) : ∀ n : Nat, Cal P w K mg base C (1 + n) (A 19) (f_law_like n)
  | 0 => (by
      obtain ⟨fd, F⟩ := T.f_law_like
      exact cal_of (fn_calD (ps := ["_law_found", "_law_due"]) (N := N_law_like) F (C8.fnScope_by (by decide +kernel)) (by decide) fun cdv Ar outer s H Ex hr => gss_never) (F.bindsN fun _ _ _ _ _ _ us hl => match us, hl with | [_, _], _ => rfl))
  | n + 1 => by
    have ih := r_law_like T n
    have h19 := ih
    exact (by
      obtain ⟨fd, F⟩ := T.f_law_like
      exact cal_of (fn_calD (ps := ["_law_found", "_law_due"]) (N := N_law_like) F (C8.fnScope_by (by decide +kernel)) (by decide) fun cdv Ar outer s H Ex hr => b_law_like T h19 cdv Ar outer s H Ex hr) (F.bindsN fun _ _ _ _ _ _ us hl => match us, hl with | [_, _], _ => rfl))
theorem c_law_like (T : Tx K w mg base C A) (n : Nat) : Cal P w K mg base C (1 + n) (A 19) (f_law_like n) := (r_law_like T n)
theorem b_law (T : Tx K w mg base C A)  (Ar : Around) (outer : List PySem.Env) (s : Shared) (H : Hp) (Ex : XK) (hr : Room 21 (Ar.deeper (PyProof.Rows.envOfC "law" (defScope st_law) s.heap.objs.size (A 20) (.ref (He.codeOf K ("law", none)))))) :
    GSs (cxOf (L2.CX P w) P w K mg base N_law "law" (defScope st_law) (A 20) (.ref (He.codeOf K ("law", none))) Ar outer s H Ex) C (fun cls d _ H' => Ex cls d H') (defBody st_law) (sSeq (sAsg (eCall f_law_dice (aCons (eVar 0) aNil)) (gNm 1)) (sSeq (sFor (iRng (eC (.int 3))) (gNm 2) (sSeq (sAsg (eCall f_law_texts (aCons (eVar 1) aNil)) (gTp [(gNm 3), (gNm 4), (gNm 5)])) (sSeq (sAsg (eFrz (lLc (iRng (eCall f_law_next (aCons (eVar 1) (aCons (eC (.int 4)) aNil)))) (gNm 19) tYesM (eCall f_law_change (aCons (eVar 1) (aCons (eOp1 opLen (eBor 3)) (aCons (eVar 4) (aCons (eFrz (lLst aNil)) aNil))))) [19])) (gNm 6)) (sSeq (sAsg (eOp1 opTuple (eFrz (lLc (iRng (eOp1 opLen (eBor 3))) (gNm 12) (tVal (eOp2 opEq (eCall f_law_next (aCons (eVar 1) (aCons (eOp2 opAdd (eC (.int 1)) (eCall f_law_next (aCons (eVar 1) (aCons (eC (.int 4)) aNil)))) aNil))) (eC (.int 0)))) (eVar 12) [12]))) (gNm 7)) (sSeq (sAsg (eFrz (lLc (iRng (eOp1 opLen (eBor 3))) (gNm 12) tYesM (eTup (aCons (eVar 12) (aCons (eOp2 opIx (eBor 3) (eBor 12)) aNil))) [12])) (gNm 8)) (sSeq (sFor (iSeq (eVar 6)) (gNm 9) (sAsg (eFrz (lAdd (eBor 8) (eFrz (lOf (eOp2 opIx (eBor 9) (eC (.int 0))))))) (gNm 8))) (sSeq (sAsg (eFrz (lOf (eBor 7))) (gNm 10)) (sSeq (sFor (iRng (eC (.int 9))) (gNm 11) (sFor (iSeq (eVar 8)) (gTp [(gNm 12), (gNm 13)]) (sIf (tVal (eOp2 opIn (eBor 12) (eBor 10))) (sAsg (eFrz (lAdd (eBor 10) (eFrz (lLc (iSeq (eVar 13)) (gNm 20) (tAnd (tVal (eOp2 opEq (eOp2 opIx (eBor 20) (eC (.int 0))) (eC (.str [99, 97, 108, 108])))) (tVal (eOp2 opNotIn (eOp2 opIx (eBor 20) (eC (.int 2))) (eBor 10)))) (eOp2 opIx (eBor 20) (eC (.int 2))) [20])))) (gNm 10)) sNext))) (sSeq (sOwn (lLst aNil) 14) (sSeq (sFor (iRng (eOp1 opLen (eBor 3))) (gNm 12) (sApp 14 (eIf (tVal (eOp2 opIn (eBor 12) (eBor 7))) (eC (.str [104, 111, 108, 100, 115])) (eIf (tVal (eOp2 opIn (eBor 12) (eBor 10))) (eC (.str [109, 97, 121])) (eC (.str [110, 101, 118, 101, 114])))))) (sSeq (sFrz 14) (sSeq (sAsg (eFrz (lLst (aCons (eFrz (lOf (eBor 3))) (aCons (eFrz (lOf (eBor 6))) aNil)))) (gNm 15)) (sSeq (sFor (iRng (eC (.int 2))) (gNm 16) (sSeq (sAsg (eCall f_words (aCons (eOp2 opIx (eBor 15) (eC (.int 0))) (aCons (eOp2 opIx (eBor 15) (eC (.int 1))) (aCons (eVar 7) aNil)))) (gNm 17)) (sSeq (sIf (tOr (tNot (tVal (eCall (f_law_like 6) (aCons (eVar 17) (aCons (eVar 14) aNil))))) (tVal (eOp2 opNe (eBor 15) (eFrz (lLst (aCons (eVar 3) (aCons (eVar 6) aNil))))))) (sRet (eC (.bl false))) sNext) (sDrop (eClrL (eVar 17)))))) (sSeq (sAsg (eFrz (lAdd (eFrz (lSl (eBor 3) oNone (oSome (eOp1 opNeg (eC (.int 1)))))) (eFrz (lLst (aCons (eOp2 opAdd (eSlT (eOp2 opIx (eBor 3) (eOp1 opNeg (eC (.int 1)))) oNone (oSome (eOp1 opNeg (eC (.int 1))))) (eTup (aCons (eTup (aCons (eC (.str [115, 101, 116])) (aCons (eC (.int 4)) (aCons (eTup (aCons (eC (.str [110, 117, 109])) (aCons (eC (.int 0)) aNil))) aNil)))) aNil))) aNil))))) (gNm 18)) (sIf (tVal (eOp2 opNe (eTold (eCall f_words (aCons (eVar 18) (aCons (eFrz (lLst aNil)) (aCons (eTup aNil) aNil)))) h_law_told 5 1 [1]) (eTup (aCons (eC (.str [114, 101, 102, 117, 115, 101, 100])) (aCons (eC (.str [116, 101, 120, 116, 115])) (aCons (eOp2 opSub (eOp1 opLen (eBor 3)) (eC (.int 1))) (aCons (eOp2 opSub (eOp1 opLen (eOp2 opIx (eBor 3) (eOp1 opNeg (eC (.int 1))))) (eC (.int 1))) aNil))))))) (sRet (eC (.bl false))) sNext))))))))))))))) (sRet (eOp2 opEq (eTold (eCall f_words (aCons (eFrz (lLst aNil)) (aCons (eFrz (lLst aNil)) (aCons (eTup aNil) aNil)))) h_law_told 5 1 [1]) (eTup (aCons (eC (.str [114, 101, 102, 117, 115, 101, 100])) (aCons (eC (.str [116, 101, 120, 116, 115])) (aCons (eC (.int 0)) (aCons (eOp1 opNeg (eC (.int 1))) aNil))))))))) := by
  have tk : Takes (cxOf (L2.CX P w) P w K mg base N_law "law" (defScope st_law) (A 20) (.ref (He.codeOf K ("law", none))) Ar outer s H Ex) (fun cls d _ H' => Ex cls d H') := takes_of rfl rfl rfl rfl
  have ps : PassesOwn (model P w) (cxOf (L2.CX P w) P w K mg base N_law "law" (defScope st_law) (A 20) (.ref (He.codeOf K ("law", none))) Ar outer s H Ex).A (cxOf (L2.CX P w) P w K mg base N_law "law" (defScope st_law) (A 20) (.ref (He.codeOf K ("law", none))) Ar outer s H Ex).env (cxOf (L2.CX P w) P w K mg base N_law "law" (defScope st_law) (A 20) (.ref (He.codeOf K ("law", none))) Ar outer s H Ex).xe := passes_of rfl
  have hu := hr.units
  have hv := hu_of hr
  have hu5 := Room65 hr
  obtain ⟨fd_law_told, F_law_told⟩ := T.f_law_told
  have bn_law_told := F_law_told.bindsN (ps := ["_law_work"]) fun _ _ _ _ _ _ us hl => match us, hl with | [_], _ => rfl
  obtain ⟨_, _, _, _, _, _, _, cd_law_told, _, _, eq_law_told, lk_law_told, hc_law_told, _, _⟩ := F_law_told.ex
  subst eq_law_told
  exact (gss_cons (gs_set 1 (ge_call (c_law_dice T) (hr.mono (by omega)) tk T.g_law_dice T.k_law_dice (ga_cons (ge_var 0) ga_nil)) nd_law) (gss_cons (gs_for ps rfl (gi_range T.b_range ge_int) (gg_name 2 nd_law) (gss_cons (gs_asg (ge_call (c_law_texts T) (hr.mono (by omega)) tk T.g_law_texts T.k_law_texts (ga_cons (ge_var 1) ga_nil)) (gg_tup rfl (ggs_cons (gg_name 3 nd_law) (ggs_cons (gg_name 4 nd_law) (ggs_cons (gg_name 5 nd_law) ggs_nil))))) (gss_cons (gs_frz (i := 6) (by refine pn_lc (own := [("_law_k", 19)]) (gvs := [19]) ?_ ?_ ?_ ?_ (fun s H Ca cl fp => ?_) (fun s H Ca cl fp => ?_) (fun s H Ca cl fp => ?_); (exact rfl); (exact nd_law); (exact (gi_range T.b_range (ge_call (c_law_next T) (hr.mono (by omega)) tk T.g_law_next T.k_law_next (ga_cons (ge_var 1) (ga_cons ge_int ga_nil))))); (exact (blkOk_by (N := N_law) (sc := defScope st_law) (own := [("_law_k", 19)]) (by decide +kernel))); (exact (gg_name 19 nd_law)); (exact gts_nil); (exact (ge_call (c_law_change T) (hr.mono (by omega)) takes0 T.g_law_change T.k_law_change (ga_cons (ge_var 1) (ga_cons (ge_fun1 call_lenA simLen T.b_len (gb_var 3)) (ga_cons (ge_var 4) (ga_cons (ge_frz (gl_lst ga_nil)) ga_nil)))))))) (gss_cons (gs_set 7 (ge_ty1 call_tuple_of simTuple T.b_tuple (gb_of (ge_frz (by refine gl_lc (own := [("_law_deed", 12)]) (gvs := [12]) ?_ ?_ ?_ ?_ (fun s H Ca cl fp => ?_) (fun s H Ca cl fp => ?_) (fun s H Ca cl fp => ?_); (exact rfl); (exact nd_law); (exact (gi_range T.b_range (ge_fun1 call_lenA simLen T.b_len (gb_var 3)))); (exact (blkOk_by (N := N_law) (sc := defScope st_law) (own := [("_law_deed", 12)]) (by decide +kernel))); (exact (gg_name 12 nd_law)); (exact (gts_one (gt_cmp (op_eqA hu) simEq rfl (gb_of (ge_call (c_law_next T) (hr.mono (by omega)) takes0 T.g_law_next T.k_law_next (ga_cons (ge_var 1) (ga_cons (ge_bin op_addA simAdd (gb_of ge_int) (gb_of (ge_call (c_law_next T) (hr.mono (by omega)) takes0 T.g_law_next T.k_law_next (ga_cons (ge_var 1) (ga_cons ge_int ga_nil))))) ga_nil)))) (gb_of ge_int)))); (exact (ge_var 12)))))) nd_law) (gss_cons (gs_frz (i := 8) (by refine pn_lc (own := [("_law_deed", 12)]) (gvs := [12]) ?_ ?_ ?_ ?_ (fun s H Ca cl fp => ?_) (fun s H Ca cl fp => ?_) (fun s H Ca cl fp => ?_); (exact rfl); (exact nd_law); (exact (gi_range T.b_range (ge_fun1 call_lenA simLen T.b_len (gb_var 3)))); (exact (blkOk_by (N := N_law) (sc := defScope st_law) (own := [("_law_deed", 12)]) (by decide +kernel))); (exact (gg_name 12 nd_law)); (exact gts_nil); (exact (ge_tup (ga_cons (ge_var 12) (ga_cons (ge_ix (gb_var 3) (gb_var 12)) ga_nil)))))) (gss_cons (gs_for ps rfl (gi_seq (ge_var 6)) (gg_name 9 nd_law) (gss_one (gs_frz (i := 8) (pn_set 8 (gl_add (gb_var 8) (gb_of (ge_frz (gl_of T.b_list (gb_of (ge_ix (gb_var 9) (gb_of ge_int))))))) nd_law)))) (gss_cons (gs_frz (i := 10) (pn_set 10 (gl_of T.b_list (gb_var 7)) nd_law)) (gss_cons (gs_for ps rfl (gi_range T.b_range ge_int) (gg_name 11 nd_law) (gss_one (gs_for ps rfl (gi_seq (ge_var 8)) (gg_tup rfl (ggs_cons (gg_name 12 nd_law) (ggs_cons (gg_name 13 nd_law) ggs_nil))) (gss_one (gs_if (gt_cmp op_inA simIn rfl (gb_var 12) (gb_var 10)) (gss_one (gs_frz (i := 10) (pn_set 10 (gl_add (gb_var 10) (gb_of (ge_frz (by refine gl_lc (own := [("_law_row_here", 20)]) (gvs := [20]) ?_ ?_ ?_ ?_ (fun s H Ca cl fp => ?_) (fun s H Ca cl fp => ?_) (fun s H Ca cl fp => ?_); (exact rfl); (exact nd_law); (exact (gi_seq (ge_var 13))); (exact (blkOk_by (N := N_law) (sc := defScope st_law) (own := [("_law_row_here", 20)]) (by decide +kernel))); (exact (gg_name 20 nd_law)); (exact (gts_one (gt_w (gw_and (gt_cmp (op_eqA hu) simEq rfl (gb_of (ge_ix (gb_var 20) (gb_of ge_int))) (gb_of (ge_str [99, 97, 108, 108]))) (gw_and1 (gt_cmp op_notInA simNotIn rfl (gb_of (ge_ix (gb_var 20) (gb_of ge_int))) (gb_var 10))))))); (exact (ge_ix (gb_var 20) (gb_of ge_int))))))) nd_law))) gss_nil))))) (gss_cons (gs_own (i := 14) (pn_set 14 (gl_lst ga_nil) nd_law)) (gss_cons (gs_for ps rfl (gi_range T.b_range (ge_fun1 call_lenA simLen T.b_len (gb_var 3))) (gg_name 12 nd_law) (gss_one (gs_app 14 (ge_if (gt_cmp op_inA simIn rfl (gb_var 12) (gb_var 7)) (ge_str [104, 111, 108, 100, 115]) (ge_if (gt_cmp op_inA simIn rfl (gb_var 12) (gb_var 10)) (ge_str [109, 97, 121]) (ge_str [110, 101, 118, 101, 114])))))) (gss_frz 14 (gss_cons (gs_frz (i := 15) (pn_set 15 (gl_lst (ga_cons (ge_frz (gl_of T.b_list (gb_var 3))) (ga_cons (ge_frz (gl_of T.b_list (gb_var 6))) ga_nil))) nd_law)) (gss_cons (gs_for ps rfl (gi_range T.b_range ge_int) (gg_name 16 nd_law) (gss_cons (gs_set 17 (ge_call (c_words T) (hr.mono (by omega)) tk T.g_words T.k_words (ga_cons (ge_ix (gb_var 15) (gb_of ge_int)) (ga_cons (ge_ix (gb_var 15) (gb_of ge_int)) (ga_cons (ge_var 7) ga_nil)))) nd_law) (gss_cons (gs_if (gt_w (gw_or (gt_not (gt_val (ge_call (c_law_like T 6) (hr.mono (by omega)) tk T.g_law_like T.k_law_like (ga_cons (ge_var 17) (ga_cons (ge_var 14) ga_nil))))) (gw_or1 (gt_cmp (op_neA hu) simNe rfl (gb_var 15) (gb_of (ge_frz (gl_lst (ga_cons (ge_var 3) (ga_cons (ge_var 6) ga_nil))))))))) (gss_one (gs_ret ge_bl)) gss_nil) (gss_one (gs_expr (ge_clrL (ge_var 17))))))) (gss_cons (gs_frz (i := 18) (pn_set 18 (gl_add (gb_of (ge_frz (gl_sl (gb_var 3) go_none (go_some (ge_neg ge_int))))) (gb_of (ge_frz (gl_lst (ga_cons (ge_bin op_addA simAdd (gb_of (ge_slT (ge_ix (gb_var 3) (gb_of (ge_neg ge_int))) go_none (go_some (ge_neg ge_int)))) (gb_of (ge_tup (ga_cons (ge_tup (ga_cons (ge_str [115, 101, 116]) (ga_cons ge_int (ga_cons (ge_tup (ga_cons (ge_str [110, 117, 109]) (ga_cons ge_int ga_nil))) ga_nil)))) ga_nil)))) ga_nil))))) nd_law)) (gss_one (gs_if (gt_cmp (op_neA hu) simNe rfl (gb_of (ge_told (k := 19) (bg := defBody st_law_told) (sg := defScope st_law_told) (Ng := N_law_told) (mh := h_law_told) (a := "_law_work") (CS := C 0) (j := 1) [1] (told_gives (e := "MillError") (n := "e") rfl T.gc_MillError (by decide) nd_law_told rfl rfl (fun s H a oe cls d pn hz hf => s_law_told T _ _ _ s H a oe cls d pn hz hf ((hr.mono (Nat.le_add_left 1 _)).deeper _))) T.g_law_told T.k_law_told lk_law_told hc_law_told bn_law_told (C8.fnScope_by (by decide +kernel)) rfl (Or.inl rfl) T.tb_law rfl T.ct_law T.cu_law (hr.mono (by omega)) (LamX.lamS_by (sc := defScope st_law) (by decide +kernel)) T.em_law_told (fun Al ol sl Hl El fl cl hr => by have hu := hr.units; have hv := hu_of hr; have hu5 := Room65 hr; exact (ge_call (c_words T) (hr.mono (by omega)) (takes_of rfl rfl rfl rfl) T.g_words T.k_words (ga_cons (ge_var 18) (ga_cons (ge_frz (gl_lst ga_nil)) (ga_cons (ge_tup ga_nil) ga_nil))))))) (gb_of (ge_tup (ga_cons (ge_str [114, 101, 102, 117, 115, 101, 100]) (ga_cons (ge_str [116, 101, 120, 116, 115]) (ga_cons (ge_bin op_sub simSub (gb_of (ge_fun1 call_lenA simLen T.b_len (gb_var 3))) (gb_of ge_int)) (ga_cons (ge_bin op_sub simSub (gb_of (ge_fun1 call_lenA simLen T.b_len (gb_of (ge_ix (gb_var 3) (gb_of (ge_neg ge_int)))))) (gb_of ge_int)) ga_nil))))))) (gss_one (gs_ret ge_bl)) gss_nil)))))))))))))))) (gss_one (gs_ret (ge_cmp (op_eqA hu) simEq rfl (gb_of (ge_told (k := 19) (bg := defBody st_law_told) (sg := defScope st_law_told) (Ng := N_law_told) (mh := h_law_told) (a := "_law_work") (CS := C 0) (j := 1) [1] (told_gives (e := "MillError") (n := "e") rfl T.gc_MillError (by decide) nd_law_told rfl rfl (fun s H a oe cls d pn hz hf => s_law_told T _ _ _ s H a oe cls d pn hz hf ((hr.mono (Nat.le_add_left 1 _)).deeper _))) T.g_law_told T.k_law_told lk_law_told hc_law_told bn_law_told (C8.fnScope_by (by decide +kernel)) rfl (Or.inl rfl) T.tb_law rfl T.ct_law T.cu_law (hr.mono (by omega)) (LamX.lamS_by (sc := defScope st_law) (by decide +kernel)) T.em_law_told (fun Al ol sl Hl El fl cl hr => by have hu := hr.units; have hv := hu_of hr; have hu5 := Room65 hr; exact (ge_call (c_words T) (hr.mono (by omega)) (takes_of rfl rfl rfl rfl) T.g_words T.k_words (ga_cons (ge_frz (gl_lst ga_nil)) (ga_cons (ge_frz (gl_lst ga_nil)) (ga_cons (ge_tup ga_nil) ga_nil))))))) (gb_of (ge_tup (ga_cons (ge_str [114, 101, 102, 117, 115, 101, 100]) (ga_cons (ge_str [116, 101, 120, 116, 115]) (ga_cons ge_int (ga_cons (ge_neg ge_int) ga_nil)))))))))))
theorem c_law (T : Tx K w mg base C A) : Cal P w K mg base C 22 (A 20) f_law := by
  obtain ⟨fd, F⟩ := T.f_law
  exact cal_of (fn_calC (ps := ["_law_script"]) (N := N_law) F T.aa_law (C8.fnScope_by (by decide +kernel)) (by decide) fun Ar outer s H Ex hr => b_law T Ar outer s H Ex hr) (F.bindsN fun _ _ _ _ _ _ us hl => match us, hl with | [_], _ => rfl)
end
end K16

/-! Facts of the law, printed by gen2.py. Own text. -/
namespace K16
open PySem L2 TL MP
def dd_law_dice : He.DefD := ⟨("_law_dice", none), "_law_dice", "_law_dice", defArgs st_law_dice, defBody st_law_dice, defScope st_law_dice, [], []⟩
def dd_law_next : He.DefD := ⟨("_law_next", none), "_law_next", "_law_next", defArgs st_law_next, defBody st_law_next, defScope st_law_next, [], []⟩
def dd_law_part : He.DefD := ⟨("_law_part", none), "_law_part", "_law_part", defArgs st_law_part, defBody st_law_part, defScope st_law_part, [], []⟩
def dd_law_row : He.DefD := ⟨("_law_row", none), "_law_row", "_law_row", defArgs st_law_row, defBody st_law_row, defScope st_law_row, [], []⟩
def dd_law_text : He.DefD := ⟨("_law_text", none), "_law_text", "_law_text", defArgs st_law_text, defBody st_law_text, defScope st_law_text, [], []⟩
def dd_law_texts : He.DefD := ⟨("_law_texts", none), "_law_texts", "_law_texts", defArgs st_law_texts, defBody st_law_texts, defScope st_law_texts, [], []⟩
def dd_law_lines : He.DefD := ⟨("_law_lines", none), "_law_lines", "_law_lines", defArgs st_law_lines, defBody st_law_lines, defScope st_law_lines, [], []⟩
def dd_law_change : He.DefD := ⟨("_law_change", none), "_law_change", "_law_change", defArgs st_law_change, defBody st_law_change, defScope st_law_change, [], []⟩
def dd_BadTexts___init__ : He.DefD := ⟨("BadTexts", some "__init__"), "__init__", "BadTexts.__init__", defArgs st_BadTexts___init__, defBody st_BadTexts___init__, defScope st_BadTexts___init__, [], []⟩
def dd_Rules___init__ : He.DefD := ⟨("Rules", some "__init__"), "__init__", "Rules.__init__", defArgs st_Rules___init__, defBody st_Rules___init__, defScope st_Rules___init__, [], [("deeds", .int 8), ("things", .int 4), ("marks", .adr (kdAt ("Rules", some "__init__") "marks")), ("rows", .int 12)]⟩
def dd_Rules_is_number : He.DefD := ⟨("Rules", some "is_number"), "is_number", "Rules.is_number", defArgs st_Rules_is_number, defBody st_Rules_is_number, defScope st_Rules_is_number, [], []⟩
def dd_Rules_are_good : He.DefD := ⟨("Rules", some "are_good"), "are_good", "Rules.are_good", defArgs st_Rules_are_good, defBody st_Rules_are_good, defScope st_Rules_are_good, [], []⟩
def dd_Rules_is_part : He.DefD := ⟨("Rules", some "is_part"), "is_part", "Rules.is_part", defArgs st_Rules_is_part, defBody st_Rules_is_part, defScope st_Rules_is_part, [], []⟩
def dd_Rules_is_row : He.DefD := ⟨("Rules", some "is_row"), "is_row", "Rules.is_row", defArgs st_Rules_is_row, defBody st_Rules_is_row, defScope st_Rules_is_row, [], []⟩
def dd_first_bad : He.DefD := ⟨("first_bad", none), "first_bad", "first_bad", defArgs st_first_bad, defBody st_first_bad, defScope st_first_bad, [], [("most", .int 12)]⟩
def dd_fault : He.DefD := ⟨("fault", none), "fault", "fault", defArgs st_fault, defBody st_fault, defScope st_fault, [], [("deeds", .int 8), ("things", .int 4), ("marks", .adr (kdAt ("fault", none) "marks"))]⟩
def dd_need_texts : He.DefD := ⟨("need_texts", none), "need_texts", "need_texts", defArgs st_need_texts, defBody st_need_texts, defScope st_need_texts, [], [("things", .int 4)]⟩
def dd_leads : He.DefD := ⟨("leads", none), "leads", "leads", defArgs st_leads, defBody st_leads, defScope st_leads, [], []⟩
def dd_words : He.DefD := ⟨("words", none), "words", "words", defArgs st_words, defBody st_words, defScope st_words, [], []⟩
def dd_law_like : He.DefD := ⟨("_law_like", none), "_law_like", "_law_like", defArgs st_law_like, defBody st_law_like, defScope st_law_like, [], []⟩
def dd_law : He.DefD := ⟨("law", none), "law", "law", defArgs st_law, defBody st_law, defScope st_law, [], []⟩
def dd_law_told : He.DefD := ⟨("_law_told", none), "_law_told", "_law_told", defArgs st_law_told, defBody st_law_told, defScope st_law_told, [], []⟩
def fn : List He.DefD := ([dd_law_dice, dd_law_next, dd_law_part, dd_law_row, dd_law_text, dd_law_texts, dd_law_lines, dd_law_change, dd_BadTexts___init__, dd_Rules___init__, dd_Rules_is_number, dd_Rules_are_good, dd_Rules_is_part, dd_Rules_is_row, dd_first_bad, dd_fault, dd_need_texts, dd_leads, dd_words, dd_law_like] : List (He.DefD)) ++ ([dd_law, dd_law_told] : List (He.DefD))
def fa : List He.Fa := ([He.Fa.glo "_law_dice", He.Fa.keep "_law_dice", He.Fa.glo "_law_next", He.Fa.keep "_law_next", He.Fa.glo "_law_part", He.Fa.keep "_law_part", He.Fa.glo "_law_row", He.Fa.keep "_law_row", He.Fa.glo "_law_text", He.Fa.keep "_law_text", He.Fa.glo "_law_texts", He.Fa.keep "_law_texts", He.Fa.glo "_law_lines", He.Fa.keep "_law_lines", He.Fa.glo "_law_change", He.Fa.keep "_law_change", He.Fa.meth "Rules" "is_number", He.Fa.meth "Rules" "are_good", He.Fa.meth "Rules" "is_part", He.Fa.meth "Rules" "is_row"] : List (He.Fa)) ++ ([He.Fa.glo "first_bad", He.Fa.keep "first_bad", He.Fa.glo "fault", He.Fa.keep "fault", He.Fa.glo "need_texts", He.Fa.keep "need_texts", He.Fa.glo "leads", He.Fa.keep "leads", He.Fa.glo "words", He.Fa.keep "words", He.Fa.glo "_law_like", He.Fa.keep "_law_like", He.Fa.glo "law", He.Fa.keep "law", He.Fa.glo "_law_told", He.Fa.keep "_law_told", He.Fa.glo "MillError", He.Fa.glo "BadTexts", He.Fa.glo "NoHand", He.Fa.glo "NoRoom"] : List (He.Fa)) ++ ([He.Fa.glo "BadMill", He.Fa.glo "BadNumber", He.Fa.glo "NoDeed", He.Fa.glo "Within", He.Fa.glo "BadChange", He.Fa.glo "Full", He.Fa.glo "Underway", He.Fa.glo "NoCell", He.Fa.glo "NoChange", He.Fa.glo "Unmet", He.Fa.glo "BadText", He.Fa.glo "BadBook", He.Fa.glo "Rules", He.Fa.cls "Rules", He.Fa.mkr "Rules", He.Fa.noat "Rules" "words", He.Fa.noat "Rules" "marks", He.Fa.noat "Rules" "limits", He.Fa.free "isinstance", He.Fa.free "ValueError"] : List (He.Fa)) ++ ([He.Fa.free "int", He.Fa.free "len", He.Fa.free "tuple", He.Fa.free "range", He.Fa.free "sorted", He.Fa.free "set", He.Fa.free "zip", He.Fa.free "enumerate", He.Fa.free "min", He.Fa.free "list", He.Fa.free "bool", He.Fa.free "str", He.Fa.glo "PARTS", He.Fa.glo "ROWS"] : List (He.Fa))
def ts : List He.Tab := ([(fun K => He.ga K "PARTS", ["num", "name", "field", "side", "sum", "less"]), (fun K => He.ga K "ROWS", ["set", "put", "side", "call", "go", "unless", "wait", "answer", "need"])] : List (He.Tab))
def tf : List He.Defn := ([("law", none)] : List (He.Defn))
def tn : List Str := [Str.ofString "law.<locals>.<lambda>"]
def cls : List Str := (["MillError", "BadTexts", "NoHand", "NoRoom", "BadMill", "BadNumber", "NoDeed", "Within", "BadChange", "Full", "Underway", "NoCell", "NoChange", "Unmet", "BadText", "BadBook", "Rules"] : List (Str))
def ats : List (Str × Option Str) := ([("_law_dice", none), ("_law_next", none), ("_law_part", none), ("_law_row", none), ("_law_text", none), ("_law_texts", none), ("_law_lines", none), ("_law_change", none), ("BadTexts", some "__init__"), ("Rules", some "__init__"), ("Rules", some "is_number"), ("Rules", some "are_good"), ("Rules", some "is_part"), ("Rules", some "is_row"), ("first_bad", none), ("fault", none), ("need_texts", none), ("leads", none), ("words", none), ("_law_like", none)] : List (Str × Option Str)) ++ ([("law", none), ("_law_told", none)] : List (Str × Option Str))
def Cn (K : PySem.W.Frag) : MP.Tab := ⟨fun n => He.ga K (cls.getD n ""), fun _ => none, List.zipWith (fun p y => ((He.cT K p).2, y)) tf tn⟩
def An (K : PySem.W.Frag) (n : Nat) : Addr := He.fAd K (ats.getD n ("", none))
def exs : List (PySem.W.Frag → Bool) := ([fun K => KVal K 2 (.ref (kdAt ("Rules", some "__init__") "marks" K)) (.tup []), fun K => KVal K 2 (.ref (kdAt ("fault", none) "marks" K)) (.tup []), fun K => baseB K (He.ga K "MillError"), fun K => exoB K (He.ga K "BadTexts") ["deed", "row"], fun K => initB K (He.ga K "BadTexts") (He.ma K (He.ga K "BadTexts") "__init__"), fun K => isXB K (Cn K) [(1, false)] (.ref (He.ga K "NoHand")), fun K => isXB K (Cn K) [(1, false)] (.ref (He.ga K "NoRoom")), fun K => isXB K (Cn K) [(1, true)] (.ref (He.ga K "BadTexts")), fun K => isXB K (Cn K) [(1, false)] (.ref (He.ga K "BadMill")), fun K => isXB K (Cn K) [(1, false)] (.ref (He.ga K "BadNumber")), fun K => isXB K (Cn K) [(1, false)] (.ref (He.ga K "NoDeed")), fun K => isXB K (Cn K) [(1, false)] (.ref (He.ga K "Within")), fun K => isXB K (Cn K) [(1, false)] (.ref (He.ga K "BadChange")), fun K => isXB K (Cn K) [(1, false)] (.ref (He.ga K "Full")), fun K => isXB K (Cn K) [(1, false)] (.ref (He.ga K "Underway")), fun K => isXB K (Cn K) [(1, false)] (.ref (He.ga K "NoCell")), fun K => isXB K (Cn K) [(1, false)] (.ref (He.ga K "NoChange")), fun K => isXB K (Cn K) [(1, false)] (.ref (He.ga K "Unmet")), fun K => isXB K (Cn K) [(1, false)] (.ref (He.ga K "BadText")), fun K => isXB K (Cn K) [(1, false)] (.ref (He.ga K "BadBook"))] : List (PySem.W.Frag → Bool)) ++ ([fun K => isXB K (Cn K) [(1, true)] (.type "ValueError"), fun K => xfsB K (Cn K) [] "word", fun K => xfsB K (Cn K) [1] "row", fun K => xfsB K (Cn K) [1] "deed", fun K => xfsB K (Cn K) [] "event", fun K => exmsB K (Cn K) [1] (He.ga K "MillError"), fun K => glB K "MARKS" d_MARKS, fun K => glB K "FIELDS" d_FIELDS, fun K => glB K "NAMES" d_NAMES, fun K => glB K "BEYOND" d_BEYOND, fun K => kdB K "PARTS" t_PARTS, fun K => glB K "MOST_DEEP" d_MOST_DEEP, fun K => kdB K "ROWS" t_ROWS, fun K => glB K "MOST_ROWS" d_MOST_ROWS, fun K => glB K "MOST_DEEDS" d_MOST_DEEDS, fun K => glB K "OWN_WORDS" d_OWN_WORDS, fun K => glB K "HOLDS" d_HOLDS, fun K => glB K "MAY" d_MAY, fun K => glB K "NEVER" d_NEVER] : List (PySem.W.Frag → Bool))
abbrev hk : PySem.W.Hook := hookY 5 fa fn ts tf (fun K => exs.all fun f => f K)
theorem tx {w : World} {K : PySem.W.Frag} {h : Heap} {mg : Str → Option Value} (KX : K.In h) (G : h.Ns mainGlobals mg) (c : He.SaysX fa fn ts tf (fun K => exs.all fun f => f K) w h K) {base : Heap} (tb : ∀ p ∈ tf, LamX.TabB base mg (He.cT K p).1 (He.cT K p).2) : Tx K w mg base (Cn K) (An K) := {
  g_law_dice := He.glo_ok KX G (c.t.d.fact 0 (f := He.Fa.glo "_law_dice") rfl),
  k_law_dice := He.keep_ok (c.t.d.fact 1 (f := He.Fa.keep "_law_dice") rfl),
  f_law_dice := c.t.d.def_ 0 (d := dd_law_dice) rfl,
  g_law_next := He.glo_ok KX G (c.t.d.fact 2 (f := He.Fa.glo "_law_next") rfl),
  k_law_next := He.keep_ok (c.t.d.fact 3 (f := He.Fa.keep "_law_next") rfl),
  f_law_next := c.t.d.def_ 1 (d := dd_law_next) rfl,
  g_law_part := He.glo_ok KX G (c.t.d.fact 4 (f := He.Fa.glo "_law_part") rfl),
  k_law_part := He.keep_ok (c.t.d.fact 5 (f := He.Fa.keep "_law_part") rfl),
  f_law_part := c.t.d.def_ 2 (d := dd_law_part) rfl,
  g_law_row := He.glo_ok KX G (c.t.d.fact 6 (f := He.Fa.glo "_law_row") rfl),
  k_law_row := He.keep_ok (c.t.d.fact 7 (f := He.Fa.keep "_law_row") rfl),
  f_law_row := c.t.d.def_ 3 (d := dd_law_row) rfl,
  g_law_text := He.glo_ok KX G (c.t.d.fact 8 (f := He.Fa.glo "_law_text") rfl),
  k_law_text := He.keep_ok (c.t.d.fact 9 (f := He.Fa.keep "_law_text") rfl),
  f_law_text := c.t.d.def_ 4 (d := dd_law_text) rfl,
  g_law_texts := He.glo_ok KX G (c.t.d.fact 10 (f := He.Fa.glo "_law_texts") rfl),
  k_law_texts := He.keep_ok (c.t.d.fact 11 (f := He.Fa.keep "_law_texts") rfl),
  f_law_texts := c.t.d.def_ 5 (d := dd_law_texts) rfl,
  g_law_lines := He.glo_ok KX G (c.t.d.fact 12 (f := He.Fa.glo "_law_lines") rfl),
  k_law_lines := He.keep_ok (c.t.d.fact 13 (f := He.Fa.keep "_law_lines") rfl),
  f_law_lines := c.t.d.def_ 6 (d := dd_law_lines) rfl,
  g_law_change := He.glo_ok KX G (c.t.d.fact 14 (f := He.Fa.glo "_law_change") rfl),
  k_law_change := He.keep_ok (c.t.d.fact 15 (f := He.Fa.keep "_law_change") rfl),
  f_law_change := c.t.d.def_ 7 (d := dd_law_change) rfl,
  f_BadTexts___init__ := c.t.d.def_ 8 (d := dd_BadTexts___init__) rfl,
  f_Rules___init__ := c.t.d.def_ 9 (d := dd_Rules___init__) rfl,
  dq_Rules___init___marks := kdq_ok (ex_at c.more 0),
  me_Rules_is_number := He.meth_ok (c.t.d.fact 16 (f := He.Fa.meth "Rules" "is_number") rfl),
  f_Rules_is_number := c.t.d.def_ 10 (d := dd_Rules_is_number) rfl,
  me_Rules_are_good := He.meth_ok (c.t.d.fact 17 (f := He.Fa.meth "Rules" "are_good") rfl),
  f_Rules_are_good := c.t.d.def_ 11 (d := dd_Rules_are_good) rfl,
  me_Rules_is_part := He.meth_ok (c.t.d.fact 18 (f := He.Fa.meth "Rules" "is_part") rfl),
  f_Rules_is_part := c.t.d.def_ 12 (d := dd_Rules_is_part) rfl,
  me_Rules_is_row := He.meth_ok (c.t.d.fact 19 (f := He.Fa.meth "Rules" "is_row") rfl),
  f_Rules_is_row := c.t.d.def_ 13 (d := dd_Rules_is_row) rfl,
  g_first_bad := He.glo_ok KX G (c.t.d.fact 20 (f := He.Fa.glo "first_bad") rfl),
  k_first_bad := He.keep_ok (c.t.d.fact 21 (f := He.Fa.keep "first_bad") rfl),
  f_first_bad := c.t.d.def_ 14 (d := dd_first_bad) rfl,
  g_fault := He.glo_ok KX G (c.t.d.fact 22 (f := He.Fa.glo "fault") rfl),
  k_fault := He.keep_ok (c.t.d.fact 23 (f := He.Fa.keep "fault") rfl),
  f_fault := c.t.d.def_ 15 (d := dd_fault) rfl,
  dq_fault_marks := kdq_ok (ex_at c.more 1),
  g_need_texts := He.glo_ok KX G (c.t.d.fact 24 (f := He.Fa.glo "need_texts") rfl),
  k_need_texts := He.keep_ok (c.t.d.fact 25 (f := He.Fa.keep "need_texts") rfl),
  f_need_texts := c.t.d.def_ 16 (d := dd_need_texts) rfl,
  g_leads := He.glo_ok KX G (c.t.d.fact 26 (f := He.Fa.glo "leads") rfl),
  k_leads := He.keep_ok (c.t.d.fact 27 (f := He.Fa.keep "leads") rfl),
  f_leads := c.t.d.def_ 17 (d := dd_leads) rfl,
  g_words := He.glo_ok KX G (c.t.d.fact 28 (f := He.Fa.glo "words") rfl),
  k_words := He.keep_ok (c.t.d.fact 29 (f := He.Fa.keep "words") rfl),
  f_words := c.t.d.def_ 18 (d := dd_words) rfl,
  g_law_like := He.glo_ok KX G (c.t.d.fact 30 (f := He.Fa.glo "_law_like") rfl),
  k_law_like := He.keep_ok (c.t.d.fact 31 (f := He.Fa.keep "_law_like") rfl),
  f_law_like := c.t.d.def_ 19 (d := dd_law_like) rfl,
  g_law := He.glo_ok KX G (c.t.d.fact 32 (f := He.Fa.glo "law") rfl),
  k_law := He.keep_ok (c.t.d.fact 33 (f := He.Fa.keep "law") rfl),
  f_law := c.t.d.def_ 20 (d := dd_law) rfl,
  aa_law := rfl,
  tb_law := tb ("law", none) (by simp [tf]),
  ct_law := by simp [Cn, tf, tn, He.cT],
  cu_law := by simp [Cn, tf, tn, He.cT],
  g_law_told := He.glo_ok KX G (c.t.d.fact 34 (f := He.Fa.glo "_law_told") rfl),
  k_law_told := He.keep_ok (c.t.d.fact 35 (f := He.Fa.keep "_law_told") rfl),
  f_law_told := c.t.d.def_ 21 (d := dd_law_told) rfl,
  gc_MillError := He.glo_ok KX G (c.t.d.fact 36 (f := He.Fa.glo "MillError") rfl),
  gc_BadTexts := He.glo_ok KX G (c.t.d.fact 37 (f := He.Fa.glo "BadTexts") rfl),
  gc_NoHand := He.glo_ok KX G (c.t.d.fact 38 (f := He.Fa.glo "NoHand") rfl),
  gc_NoRoom := He.glo_ok KX G (c.t.d.fact 39 (f := He.Fa.glo "NoRoom") rfl),
  gc_BadMill := He.glo_ok KX G (c.t.d.fact 40 (f := He.Fa.glo "BadMill") rfl),
  gc_BadNumber := He.glo_ok KX G (c.t.d.fact 41 (f := He.Fa.glo "BadNumber") rfl),
  gc_NoDeed := He.glo_ok KX G (c.t.d.fact 42 (f := He.Fa.glo "NoDeed") rfl),
  gc_Within := He.glo_ok KX G (c.t.d.fact 43 (f := He.Fa.glo "Within") rfl),
  gc_BadChange := He.glo_ok KX G (c.t.d.fact 44 (f := He.Fa.glo "BadChange") rfl),
  gc_Full := He.glo_ok KX G (c.t.d.fact 45 (f := He.Fa.glo "Full") rfl),
  gc_Underway := He.glo_ok KX G (c.t.d.fact 46 (f := He.Fa.glo "Underway") rfl),
  gc_NoCell := He.glo_ok KX G (c.t.d.fact 47 (f := He.Fa.glo "NoCell") rfl),
  gc_NoChange := He.glo_ok KX G (c.t.d.fact 48 (f := He.Fa.glo "NoChange") rfl),
  gc_Unmet := He.glo_ok KX G (c.t.d.fact 49 (f := He.Fa.glo "Unmet") rfl),
  gc_BadText := He.glo_ok KX G (c.t.d.fact 50 (f := He.Fa.glo "BadText") rfl),
  gc_BadBook := He.glo_ok KX G (c.t.d.fact 51 (f := He.Fa.glo "BadBook") rfl),
  gc_Rules := He.glo_ok KX G (c.t.d.fact 52 (f := He.Fa.glo "Rules") rfl),
  cl_Rules := He.cls_ok (c.t.d.fact 53 (f := He.Fa.cls "Rules") rfl),
  mk_Rules := He.mkr_ok (c.t.d.fact 54 (f := He.Fa.mkr "Rules") rfl),
  ba_MillError := baseB_ok (ex_at c.more 2),
  xo_BadTexts := exoB_ok (ex_at c.more 3),
  ii_BadTexts := initB_ok (ex_at c.more 4),
  is_NoHand := isXB_ok (ex_at c.more 5),
  is_NoRoom := isXB_ok (ex_at c.more 6),
  is_BadTexts := isXB_ok (ex_at c.more 7),
  is_BadMill := isXB_ok (ex_at c.more 8),
  is_BadNumber := isXB_ok (ex_at c.more 9),
  is_NoDeed := isXB_ok (ex_at c.more 10),
  is_Within := isXB_ok (ex_at c.more 11),
  is_BadChange := isXB_ok (ex_at c.more 12),
  is_Full := isXB_ok (ex_at c.more 13),
  is_Underway := isXB_ok (ex_at c.more 14),
  is_NoCell := isXB_ok (ex_at c.more 15),
  is_NoChange := isXB_ok (ex_at c.more 16),
  is_Unmet := isXB_ok (ex_at c.more 17),
  is_BadText := isXB_ok (ex_at c.more 18),
  is_BadBook := isXB_ok (ex_at c.more 19),
  is_ValueError := isXB_ok (ex_at c.more 20),
  xf_word := xfsB_ok (ex_at c.more 21),
  xf_row := xfsB_ok (ex_at c.more 22),
  xf_deed := xfsB_ok (ex_at c.more 23),
  xf_event := xfsB_ok (ex_at c.more 24),
  em_law_told := exmsB_ok (ex_at c.more 25),
  na_Rules_words := He.noat_ok (c.t.d.fact 55 (f := He.Fa.noat "Rules" "words") rfl),
  na_Rules_marks := He.noat_ok (c.t.d.fact 56 (f := He.Fa.noat "Rules" "marks") rfl),
  na_Rules_limits := He.noat_ok (c.t.d.fact 57 (f := He.Fa.noat "Rules" "limits") rfl),
  b_isinstance := He.free_ok KX G (c.t.d.fact 58 (f := He.Fa.free "isinstance") rfl),
  b_ValueError := He.free_ok KX G (c.t.d.fact 59 (f := He.Fa.free "ValueError") rfl),
  b_int := He.free_ok KX G (c.t.d.fact 60 (f := He.Fa.free "int") rfl),
  b_len := He.free_ok KX G (c.t.d.fact 61 (f := He.Fa.free "len") rfl),
  b_tuple := He.free_ok KX G (c.t.d.fact 62 (f := He.Fa.free "tuple") rfl),
  b_range := He.free_ok KX G (c.t.d.fact 63 (f := He.Fa.free "range") rfl),
  b_sorted := He.free_ok KX G (c.t.d.fact 64 (f := He.Fa.free "sorted") rfl),
  b_set := He.free_ok KX G (c.t.d.fact 65 (f := He.Fa.free "set") rfl),
  b_zip := He.free_ok KX G (c.t.d.fact 66 (f := He.Fa.free "zip") rfl),
  b_enumerate := He.free_ok KX G (c.t.d.fact 67 (f := He.Fa.free "enumerate") rfl),
  b_min := He.free_ok KX G (c.t.d.fact 68 (f := He.Fa.free "min") rfl),
  b_list := He.free_ok KX G (c.t.d.fact 69 (f := He.Fa.free "list") rfl),
  b_bool := He.free_ok KX G (c.t.d.fact 70 (f := He.Fa.free "bool") rfl),
  b_str := He.free_ok KX G (c.t.d.fact 71 (f := He.Fa.free "str") rfl),
  q_MARKS := glB_ok KX G (ex_at c.more 26),
  q_FIELDS := glB_ok KX G (ex_at c.more 27),
  q_NAMES := glB_ok KX G (ex_at c.more 28),
  q_BEYOND := glB_ok KX G (ex_at c.more 29),
  q_PARTS := kdB_ok KX G (c.t.d.fact 72 (f := He.Fa.glo "PARTS") rfl) (c.t.tab 0 (t := (fun K => He.ga K "PARTS", ["num", "name", "field", "side", "sum", "less"])) rfl) (ex_at c.more 30),
  q_MOST_DEEP := glB_ok KX G (ex_at c.more 31),
  q_ROWS := kdB_ok KX G (c.t.d.fact 73 (f := He.Fa.glo "ROWS") rfl) (c.t.tab 1 (t := (fun K => He.ga K "ROWS", ["set", "put", "side", "call", "go", "unless", "wait", "answer", "need"])) rfl) (ex_at c.more 32),
  q_MOST_ROWS := glB_ok KX G (ex_at c.more 33),
  q_MOST_DEEDS := glB_ok KX G (ex_at c.more 34),
  q_OWN_WORDS := glB_ok KX G (ex_at c.more 35),
  q_HOLDS := glB_ok KX G (ex_at c.more 36),
  q_MAY := glB_ok KX G (ex_at c.more 37),
  q_NEVER := glB_ok KX G (ex_at c.more 38) }
theorem law_at {w : World} {h : Heap} {mg : Str → Option Value} {fa0 : Addr} (Y : hk.says w h) (G : h.Ns mainGlobals mg) (hmg : mg "law" = some (.ref fa0)) : ∃ K : PySem.W.Frag, K.In h ∧ LamX.LawAtS PySem.Challenge.rw_changemill_k16_which_deeds_lead_where w K (L2.CX (PySem.Challenge.rw_changemill_k16_which_deeds_lead_where).prog w) 22 63 "_law_script" mg fa0 h := by
  obtain ⟨K, KX, c⟩ := Y
  have e := hmg.symm.trans (He.glo_ok KX G (x := "law") (c.t.d.fact 32 (f := He.Fa.glo "law") rfl))
  cases e
  obtain ⟨fd, F⟩ := c.t.d.def_ 20 (d := dd_law) rfl
  have b := FunD.bindsA (ps := ["_law_script"]) F fun _ _ _ _ _ _ us hl => match us, hl with | [_], _ => rfl
  refine ⟨K, KX, lawAt (T := (Cn K).t) KX c tn rfl rfl (fun s v => b s [v] rfl) fun base b1 b2 b3 => ?_⟩
  have T : Tx K w mg base (Cn K) (An K) := tx KX G c b3
  exact ((fn_calC (P := (PySem.Challenge.rw_changemill_k16_which_deeds_lead_where).prog) (w := w) (mg := mg) (base := base) (C := Cn K) (ps := ["_law_script"]) (N := N_law) F T.aa_law (C8.fnScope_by (by decide +kernel)) (by decide) fun Ar outer s H Ex hr => b_law T Ar outer s H Ex hr)).imp (law_spT plain)
end K16

open PySem PySem.Calls PySem.W PyProof.Rows
set_option maxRecDepth 100001 in
set_option maxHeartbeats 0 in
theorem PySem.Challenge.cw_changemill_k16_which_deeds_lead_where_holds : PySem.Challenge.rw_changemill_k16_which_deeds_lead_where.Holds := by
  w_on; o_law; o_head K16.hk; (case hw => w_witness2)
  refine LamX.walk_ofTsE (l := PySem.Challenge.rw_changemill_k16_which_deeds_lead_where) (n := 63) (k := 22) (x := "_law_script") (CX := fun w => L2.CX (PySem.Challenge.rw_changemill_k16_which_deeds_lead_where).prog w) rfl (by decide) rfl ⟨rfl, by decide, by decide⟩ (fun w mg fa h Y G hmg => ?_) (fun _ _ _ _ _ h => MP.cx_none h)
  exact K16.law_at Y G hmg
#print axioms PySem.Challenge.cw_changemill_k16_which_deeds_lead_where_holds

