import PyProof.Rows.All
import Wide.All
import OpenK.AllK
import Wide.FinOn
import HandS.ForMost
import HandS.Exc
import HandS.ExcOwn
import HandS.CallSlots
import HandS.WordsExc
import HandS.Lambda
import HandS.TupAny
import HandS.IsInst
import HandS.Deep
import PyProof.NeKinds
import KE.IntTextLaws
import KE.KUnpackStar
import HandS.More
import HandS.Text
import HandS.Conv
import HandS.Iter
import HandS.Dict
import HandS.MakeKwOnly
import HandS.Defaults
import HandS.Zip
import HandS.HeadNt
import HandS.Codes
import HandS.EndTab
import HandS.ExcIs
import HandS.ExcField
import HandS.ExcInit
import HandS.ClsMeth
import HandS.SetFor
import KE.DataFind
import HandS.Head0
import HandS.Head1
import HandS.Head2
import HandS.HeadEnd
import HandS.HeadHook4
import HandS.HeadWalk
import PySem.Challenge.RW_changemill_k24_texts_that_write_none
set_option Elab.async false
set_option linter.all false
set_option maxRecDepth 100001
set_option maxHeartbeats 4000001
/-! Mini machine: plain data, a store, results, the words of a small language as functions. Own text. -/
namespace MP

inductive D where
  | non | bl (b : Bool) | int (i : Int) | str (cs : List Nat) | tup (ds : List D) | lst (ds : List D) | ref (n : Nat) | scr (ns : List Int)
  deriving Inhabited

inductive Ob where
  | lst (ds : List D) | ins (c : Nat) (fs : List (String × D)) | dic (kvs : List (D × D))
  deriving Inhabited

abbrev Sto := List Ob
structure Exn where
  cls : Nat
  fs : List (String × D)

inductive Res (α : Type) where
  | ok (a : α) (s : Sto) | exc (x : Exn) (s : Sto) | stk
namespace Res
def bind {α β : Type} (m : Res α) (f : α → Sto → Res β) : Res β :=
  match m with
  | .ok a s => f a s
  | .exc x s => .exc x s
  | .stk => .stk
@[simp] theorem bind_ok {α β : Type} (a : α) (s : Sto) (f : α → Sto → Res β) : (Res.ok a s).bind f = f a s := rfl
@[simp] theorem bind_exc {α β : Type} (x : Exn) (s : Sto) (f : α → Sto → Res β) : (Res.exc x s : Res α).bind f = .exc x s := rfl
@[simp] theorem bind_stk {α β : Type} (f : α → Sto → Res β) : (Res.stk : Res α).bind f = .stk := rfl
/-- an answer that may be wanting -/
def ofO {α : Type} (o : Option α) (s : Sto) : Res α :=
  match o with
  | some a => .ok a s
  | none => .stk
@[simp] theorem ofO_some {α : Type} (a : α) (s : Sto) : ofO (some a) s = .ok a s := rfl
@[simp] theorem ofO_none {α : Type} (s : Sto) : (ofO none s : Res α) = .stk := rfl
end Res

inductive Slot where
  | emp | val (d : D) | own (ds : List D) | exn (x : Exn)
  deriving Inhabited
abbrev Env := List Slot
abbrev ME := Env → Sto → Res D
abbrev MT := Env → Sto → Res Bool
abbrev MA := Env → Sto → Res (List D)

def cap : Nat := 1000000

/-! ### plain data: equality, looks -/
mutual
def D.eqv : D → D → Bool
  | .non, .non => true
  | .bl a, .bl b => a == b
  | .bl a, .int j => (if a then 1 else 0) == j
  | .int i, .bl b => i == (if b then 1 else 0)
  | .int i, .int j => i == j
  | .str x, .str y => decide (x = y)
  | .lst xs, .lst ys => D.eqvs xs ys
  | .tup xs, .tup ys => D.eqvs xs ys
  | _, _ => false
def D.eqvs : List D → List D → Bool
  | [], [] => true
  | x :: xs, y :: ys => D.eqv x y && D.eqvs xs ys
  | _, _ => false
end
mutual
/-- data without references, so deep at most, of written signs -/
def D.fit : Nat → D → Bool
  | _, .non | _, .bl _ | _, .int _ => true
  | _, .str cs => cs.all fun c => decide (c < 1114112)
  | 0, _ => false
  | n + 1, .lst ds | n + 1, .tup ds => D.fits n ds
  | _, .ref _ | _, .scr _ => false
def D.fits : Nat → List D → Bool
  | _, [] => true
  | n, d :: ds => D.fit n d && D.fits n ds
end
/-- the items of a list or tuple, by the store where it is placed -/
def seqOf (s : Sto) : D → Option (List D)
  | .tup ds => some ds
  | .lst ds => some ds
  | .ref n => match s[n]? with
    | some (.lst ds) => some ds
    | _ => none
  | _ => none
/-- a placed list as the list that it is -/
def view (s : Sto) : D → D
  | .ref n => match s[n]? with
    | some (.lst ds) => .lst ds
    | _ => .ref n
  | d => d
def isFlat : D → Bool
  | .non | .bl _ | .int _ | .str _ => true
  | _ => false
/-- the place of an index, from either end -/
def place (n : Nat) (i : Int) : Option Nat :=
  if 0 ≤ i then (if i < n then some i.toNat else none) else if -(n : Int) ≤ i then some (i + n).toNat else none

/-! ### operators -/
abbrev Op2 := Sto → D → D → Option D
abbrev Op1 := Sto → D → Option D
def eqD (a b : D) : Option Bool :=
  match a, b with
  | .lst [], .lst [] => some true
  | .lst [], .lst (_ :: _) => some false
  | .lst (_ :: _), .lst [] => some false
  | a, b => if a.fit 60 && b.fit 60 then some (a.eqv b) else none
def opEq : Op2 := fun s x y => (eqD (view s x) (view s y)).map D.bl
def opNe : Op2 := fun s x y => (eqD (view s x) (view s y)).map fun b => D.bl (!b)
def opAdd : Op2 := fun _ x y =>
  match x, y with
  | .int i, .int j => some (.int (i + j))
  | .str a, .str b => if a.length + b.length ≤ cap then some (.str (a ++ b)) else none
  | .tup a, .tup b => if a.length + b.length ≤ cap then some (.tup (a ++ b)) else none
  | _, _ => none
def opSub : Op2 := fun _ x y =>
  match x, y with
  | .int i, .int j => some (.int (i - j))
  | _, _ => none
def smallI (i : Int) : Bool := decide (-(2 ^ 64) < i) && decide (i < 2 ^ 64)
def opMul : Op2 := fun _ x y =>
  match x, y with
  | .int i, .int j => if smallI i || smallI j then some (.int (i * j)) else none
  | _, _ => none
/-- a divisor that is positive and below 2 ^ 30; the number of any size -/
def opDiv : Op2 := fun _ x y =>
  match x, y with
  | .int i, .int j => if 0 < j ∧ j < 1073741824 then some (.int (i / j)) else none
  | _, _ => none
def opMod : Op2 := fun _ x y =>
  match x, y with
  | .int i, .int j => if 0 < j then some (.int (i % j)) else none
  | _, _ => none
def opPow : Op2 := fun _ x y =>
  match x, y with
  | .int i, .int j => if 0 ≤ j ∧ j ≤ 1000 ∧ i.natAbs < 2 ^ 64 then some (.int (i ^ j.toNat)) else none
  | _, _ => none
def opCmp (p : Int → Int → Bool) : Op2 := fun _ x y =>
  match x, y with
  | .int i, .int j => some (.bl (p i j))
  | _, _ => none
abbrev opLt : Op2 := opCmp fun i j => decide (i < j)
abbrev opLe : Op2 := opCmp fun i j => decide (i ≤ j)
abbrev opGt : Op2 := opCmp fun i j => decide (j < i)
abbrev opGe : Op2 := opCmp fun i j => decide (j ≤ i)
/-- a flat thing in a list or tuple of flat things; one sign in a text -/
def inD (s : Sto) (x y : D) : Option Bool :=
  match x, y with
  | .str [c], .str z => some (decide (c ∈ z))
  | _, _ => match seqOf s y with
    | some ds => if isFlat x && ds.all isFlat then some (ds.any fun d => d.eqv x) else none
    | none => none
def opIn : Op2 := fun s x y => (inD s x y).map D.bl
def opNotIn : Op2 := fun s x y => (inD s x y).map fun b => D.bl (!b)
def isNon : D → Bool | .non => true | _ => false
def opIsN : Op1 := fun _ x => some (.bl (isNon x))
def opNotN : Op1 := fun _ x => some (.bl (!isNon x))
def ixD (ds : List D) (i : Int) : Option D := (place ds.length i).bind fun k => ds[k]?
def opIx : Op2 := fun s x y =>
  match x, y with
  | .str z, .int i => if z.length ≤ cap then (place z.length i).bind fun k => (z[k]?).map fun c => D.str [c] else none
  | .scr ns, .int i => (place ns.length i).bind fun k => (ns[k]?).map D.int
  | _, .int i => (seqOf s x).bind fun ds => ixD ds i
  | _, _ => none
def opLen : Op1 := fun s x =>
  match x with
  | .str z => if z.length ≤ cap then some (.int z.length) else none
  | .scr ns => some (.int ns.length)
  | _ => (seqOf s x).map fun ds => .int ds.length
/-- the number that written figures tell -/
def figs (cs : List Nat) : Nat := cs.foldl (fun n c => n * 10 + (c - 48)) 0
def isFig (c : Nat) : Bool := decide (48 ≤ c) && decide (c ≤ 57)
def opIntOf : Op1 := fun _ x =>
  match x with
  | .int i => some (.int i)
  | .bl b => some (.int (if b then 1 else 0))
  | .str cs => if cs ≠ [] ∧ cs.length ≤ 9 ∧ cs.all isFig = true then some (.int (figs cs : Nat)) else none
  | _ => none
/-- the signs of a number -/
def signs (i : Int) : List Nat := (toString i).toList.map Char.toNat
def opStrOf : Op1 := fun _ x =>
  match x with
  | .int i => if smallI i then some (.str (signs i)) else none
  | _ => none
def kGet (tab : List (List Nat × D)) : Op1 := fun _ x =>
  match x with
  | .str cs => tab.lookup cs
  | _ => none
def kIn (tab : List (List Nat × D)) : Op1 := fun _ x =>
  match x with
  | .str cs => some (.bl (tab.lookup cs).isSome)
  | _ => none
def joinC (sep : List Nat) : List (List Nat) → List Nat
  | [] => []
  | [x] => x
  | x :: y :: r => x ++ sep ++ joinC sep (y :: r)
def strsOf : List D → Option (List (List Nat))
  | [] => some []
  | .str x :: r => (strsOf r).map fun xs => x :: xs
  | _ :: _ => none
def opJoin : Op2 := fun s x y =>
  match x with
  | .str sep => (seqOf s y).bind fun ds => (strsOf ds).bind fun xs => if sep.length ≤ 10 ∧ xs.length ≤ 10000 ∧ (xs.map List.length).sum ≤ cap then some (.str (joinC sep xs)) else none
  | _ => none
/-- cut at each of a sign -/
def cutC (c : Nat) : List Nat → List (List Nat)
  | [] => [[]]
  | x :: r => if x = c then [] :: cutC c r else (match cutC c r with
    | [] => [[x]]
    | y :: ys => (x :: y) :: ys)
def opSplit : Op2 := fun _ x y =>
  match x, y with
  | .str a, .str [c] => if a.length ≤ cap then some (.lst ((cutC c a).map .str)) else none
  | _, _ => none
/-- x[i:], x[:-1] and the like -/
def partIx (n : Nat) (d : Nat) : Option Int → Nat
  | none => d
  | some i => if i < 0 then (i + (n : Int)).toNat else min i.toNat n
def cutD (ds : List D) (lo hi : Option Int) : List D := (ds.drop (partIx ds.length 0 lo)).take (partIx ds.length ds.length hi - partIx ds.length 0 lo)
/-- list(..), of a list or a tuple -/
def opTuple : Op1 := fun s x => (seqOf s x).map .tup
inductive Ki where
  | non | bool | int | str | tuple | list
  deriving DecidableEq
def kindOf (s : Sto) : D → Option Ki
  | .non => some .non
  | .bl _ => some .bool
  | .int _ => some .int
  | .str _ => some .str
  | .tup _ => some .tuple
  | .lst _ => some .list
  | .scr _ => some .list
  | .ref n => match s[n]? with
    | some (.lst _) => some .list
    | _ => none
def Ki.isA : Ki → Ki → Bool
  | .non, .non | .bool, .bool | .int, .int | .str, .str | .tuple, .tuple | .list, .list | .bool, .int => true
  | _, _ => false
def opKind (t : Ki) : Op1 := fun s x => (kindOf s x).map fun k => .bl (k.isA t)

/-! ### expressions -/
def eVar (i : Nat) : ME := fun env s => match env[i]? with | some (.val d) => .ok d s | _ => .stk
def eBor (i : Nat) : ME := fun env s => match env[i]? with | some (.val d) => .ok d s | some (.own ds) => .ok (.lst ds) s | _ => .stk
def eC (d : D) : ME := fun _ s => .ok d s
def eOp2 (g : Op2) (a b : ME) : ME := fun env s => (a env s).bind fun x s1 => (b env s1).bind fun y s2 => .ofO (g s2 x y) s2
def eOp1 (g : Op1) (a : ME) : ME := fun env s => (a env s).bind fun x s1 => .ofO (g s1 x) s1
def aNil : MA := fun _ s => .ok [] s
def aCons (a : ME) (r : MA) : MA := fun env s => (a env s).bind fun x s1 => (r env s1).bind fun xs s2 => .ok (x :: xs) s2
abbrev MO := Env → Sto → Res (Option Int)
def oNone : MO := fun _ s => .ok none s
def oSome (a : ME) : MO := fun env s => (a env s).bind fun x s1 => match x with | .int i => .ok (some i) s1 | _ => .stk
/-- a slice of a list, of a tuple -/
def lSl (a : ME) (lo hi : MO) : MA := fun env s => (a env s).bind fun x s1 => (lo env s1).bind fun l s2 => (hi env s2).bind fun h s3 => match view s3 x with | .lst ds => .ok (cutD ds l h) s3 | _ => .stk
def eSlT (a : ME) (lo hi : MO) : ME := fun env s => (a env s).bind fun x s1 => (lo env s1).bind fun l s2 => (hi env s2).bind fun h s3 => match x with | .tup ds => .ok (.tup (cutD ds l h)) s3 | _ => .stk
/-- list(..) of a list or a tuple -/
def lOf (a : ME) : MA := fun env s => (a env s).bind fun x s1 => .ofO (seqOf s1 x) s1
def eTup (a : MA) : ME := fun env s => (a env s).bind fun ds s1 => if ds.length ≤ 1000 then .ok (.tup ds) s1 else .stk
def lLst (a : MA) : MA := fun env s => (a env s).bind fun ds s1 => if ds.length ≤ 1000 then .ok ds s1 else .stk
def eFrz (l : MA) : ME := fun env s => (l env s).bind fun ds s1 => .ok (.lst ds) s1
def ePlc (l : MA) : ME := fun env s => (l env s).bind fun ds s1 => .ok (.ref s1.length) (s1 ++ [.lst ds])
def asB (d : D) (s : Sto) : Res Bool := match d with | .bl b => .ok b s | _ => .stk
@[simp] theorem asB_bl (b : Bool) (s : Sto) : asB (.bl b) s = .ok b s := rfl
def tVal (a : ME) : MT := fun env s => (a env s).bind asB
def tNot (t : MT) : MT := fun env s => (t env s).bind fun b s1 => .ok (!b) s1
def tAnd (t u : MT) : MT := fun env s => (t env s).bind fun b s1 => if b then u env s1 else .ok false s1
def tOr (t u : MT) : MT := fun env s => (t env s).bind fun b s1 => if b then .ok true s1 else u env s1
def eAnd (a b : ME) : ME := fun env s => ((a env s).bind asB).bind fun c s1 => if c then b env s1 else .ok (.bl false) s1
def eOr (a b : ME) : ME := fun env s => ((a env s).bind asB).bind fun c s1 => if c then .ok (.bl true) s1 else b env s1
def eNot (a : ME) : ME := fun env s => ((a env s).bind asB).bind fun c s1 => .ok (.bl (!c)) s1
def eIf (t : MT) (a b : ME) : ME := fun env s => (t env s).bind fun c s1 => if c then a env s1 else b env s1
/-- a < b < c by two operators -/
def eChain (g h : Op2) (a b c : ME) : ME := fun env s => (a env s).bind fun x s1 => (b env s1).bind fun y s2 => (Res.ofO (g s2 x y) s2).bind fun z s3 => (asB z s3).bind fun k s4 =>
  if k then (c env s4).bind fun w s5 => .ofO (h s5 y w) s5 else .ok (.bl false) s4
abbrev Fn := List D → Sto → Res D
def eCall (g : Fn) (a : MA) : ME := fun env s => (a env s).bind g
def fieldOf (s : Sto) (c : Nat) (f : String) : D → Option D
  | .ref n => match s[n]? with
    | some (.ins c' fs) => if c' = c then fs.lookup f else none
    | _ => none
  | _ => none
def eFld (c : Nat) (o : ME) (f : String) : ME := fun env s => (o env s).bind fun x s1 => .ofO (fieldOf s1 c f x) s1
/-- whether an object is of a class, without a field of a name -/
def isOf (s : Sto) (c : Nat) (m : String) : D → Bool
  | .ref n => match s[n]? with
    | some (.ins c' fs) => decide (c' = c) && (fs.lookup m).isNone
    | _ => false
  | _ => false
def eMeth (c : Nat) (m : String) (g : Fn) (o : ME) (a : MA) : ME := fun env s => (o env s).bind fun x s1 => if isOf s1 c m x then (a env s1).bind fun ds s2 => g (x :: ds) s2 else .stk
def eNew (c : Nat) (g : Fn) (a : MA) : ME := fun env s => (a env s).bind fun ds s1 => (g (.ref s1.length :: ds) (s1 ++ [.ins c []])).bind fun d s2 => match d with | .non => .ok (.ref s1.length) s2 | _ => .stk

/-! ### targets, walked things -/
abbrev MG := D → Env → Option Env
def gNm (i : Nat) : MG := fun d env => some (env.set i (.val d))
def gAll : List MG → List D → Env → Option Env
  | [], [], env => some env
  | g :: gs, d :: ds, env => (g d env).bind fun e => gAll gs ds e
  | _, _, _ => none
def gTp (gs : List MG) : MG := fun d env => match d with | .tup ds => gAll gs ds env | _ => none
/-- a, *b, c = a list or a tuple -/
def gSt (gs hs : List MG) (j : Nat) : MG := fun d env =>
  match d with
  | .tup ds | .lst ds => if gs.length + hs.length ≤ ds.length ∧ ds.length ≤ 16000 then
      (gAll gs (ds.take gs.length) env).bind fun e1 => gAll hs ((ds.drop gs.length).drop (ds.length - gs.length - hs.length)) (e1.set j (.val (.lst ((ds.drop gs.length).take (ds.length - gs.length - hs.length)))))
    else none
  | _ => none
structure Src where
  ds : List D
  pin : Option Nat
/-- the item of a turn: of a placed list the one that lies there now -/
def cur (x : Src) (s : Sto) (i : Nat) (d : D) : Option D :=
  match x.pin with
  | none => some d
  | some n => match s[n]? with
    | some (.lst es) => if es.length = x.ds.length then es[i]? else none
    | _ => none
def fin (x : Src) (s : Sto) : Bool :=
  match x.pin with
  | none => true
  | some n => match s[n]? with
    | some (.lst es) => decide (es.length = x.ds.length)
    | _ => false
abbrev MI := Env → Sto → Res Src
def srcOf (s : Sto) : D → Option Src
  | .tup ds => some ⟨ds, none⟩
  | .lst ds => some ⟨ds, none⟩
  | .scr ns => some ⟨ns.map .int, none⟩
  | .ref n => match s[n]? with
    | some (.lst ds) => some ⟨ds, some n⟩
    | _ => none
  | _ => none
def iSeq (a : ME) : MI := fun env s => (a env s).bind fun x s1 => .ofO (srcOf s1 x) s1
def intsD (lo : Int) (n : Nat) : List D := (List.range n).map fun (k : Nat) => D.int (lo + (k : Int))
def iRng (a : ME) : MI := fun env s => (a env s).bind fun x s1 => match x with | .int j => if -(cap : Int) ≤ j ∧ j ≤ cap then .ok ⟨intsD 0 j.toNat, none⟩ s1 else .stk | _ => .stk
def iEnum (a : ME) : MI := fun env s => (a env s).bind fun x s1 => match x with
  | .lst ds => .ok ⟨ds.mapIdx fun i d => .tup [.int i, d], none⟩ s1
  | _ => .stk
def iZip (a b : ME) : MI := fun env s => (a env s).bind fun x s1 => (b env s1).bind fun y s2 => match seqOf s2 x, seqOf s2 y with
  | some ds, some es => .ok ⟨List.zipWith (fun d e => .tup [d, e]) ds es, none⟩ s2
  | _, _ => .stk
/-- nothing raised within a comprehension -/
def calm {α : Type} (m : Res α) : Res α := match m with | .ok a s => .ok a s | _ => .stk
@[simp] theorem calm_ok {α : Type} (a : α) (s : Sto) : calm (.ok a s) = .ok a s := rfl
def wipeE (env : Env) : List Nat → Env
  | [] => env
  | v :: vs => (wipeE env vs).set v .emp
def lcL (x : Src) (g : MG) (t : MT) (e : ME) (env : Env) : Nat → List D → Sto → Res (List D)
  | _, [], s => if fin x s then .ok [] s else .stk
  | i, d :: ds, s => (Res.ofO ((cur x s i d).bind fun d => g d env) s).bind fun env1 s => (calm (t env1 s)).bind fun b s1 =>
    if b then (calm (e env1 s1)).bind fun y s2 => (lcL x g t e env (i + 1) ds s2).bind fun ys s3 => .ok (y :: ys) s3
    else lcL x g t e env (i + 1) ds s1
def tYesM : MT := fun _ s => .ok true s
def lLc (mi : MI) (g : MG) (t : MT) (e : ME) (vs : List Nat) : MA := fun env s => (mi env s).bind fun x s1 => if x.ds.length ≤ cap then lcL x g t e (wipeE env vs) 0 x.ds s1 else .stk

/-! ### statements -/
inductive SRes where
  | nx (e : Env) (s : Sto) | rt (d : D) (s : Sto) | bk (e : Env) (s : Sto) | ct (e : Env) (s : Sto) | ex (x : Exn) (e : Env) (s : Sto) | stk
abbrev MS := Env → Sto → SRes
/-- an expression's answer, then on -/
def Res.go {α : Type} (m : Res α) (env : Env) (f : α → Sto → SRes) : SRes :=
  match m with
  | .ok a s => f a s
  | .exc x s => .ex x env s
  | .stk => .stk
@[simp] theorem Res.go_ok {α : Type} (a : α) (s : Sto) (env : Env) (f : α → Sto → SRes) : (Res.ok a s).go env f = f a s := rfl
@[simp] theorem Res.go_exc {α : Type} (x : Exn) (s : Sto) (env : Env) (f : α → Sto → SRes) : (Res.exc x s : Res α).go env f = .ex x env s := rfl
def SRes.andThen (r : SRes) (f : Env → Sto → SRes) : SRes :=
  match r with
  | .nx e s => f e s
  | r => r
@[simp] theorem SRes.andThen_nx (e : Env) (s : Sto) (f : Env → Sto → SRes) : (SRes.nx e s).andThen f = f e s := rfl
@[simp] theorem SRes.andThen_rt (d : D) (s : Sto) (f : Env → Sto → SRes) : (SRes.rt d s).andThen f = .rt d s := rfl
@[simp] theorem SRes.andThen_ex (x : Exn) (e : Env) (s : Sto) (f : Env → Sto → SRes) : (SRes.ex x e s).andThen f = .ex x e s := rfl
@[simp] theorem SRes.andThen_bk (e : Env) (s : Sto) (f : Env → Sto → SRes) : (SRes.bk e s).andThen f = .bk e s := rfl
@[simp] theorem SRes.andThen_ct (e : Env) (s : Sto) (f : Env → Sto → SRes) : (SRes.ct e s).andThen f = .ct e s := rfl
def sNext : MS := fun e s => .nx e s
def sBrk : MS := fun e s => .bk e s
def sCnt : MS := fun e s => .ct e s
def sSeq (a b : MS) : MS := fun e s => (a e s).andThen b
def putE (g : MG) (d : D) (e : Env) (s : Sto) : SRes := match g d e with | some e' => .nx e' s | none => .stk
def sAsg (m : ME) (g : MG) : MS := fun e s => (m e s).go e fun d s1 => putE g d e s1
def sOwn (l : MA) (i : Nat) : MS := fun e s => (l e s).go e fun ds s1 => .nx (e.set i (.own ds)) s1
def sApp (i : Nat) (m : ME) : MS := fun e s => match e[i]? with
  | some (.own ds) => (m e s).go e fun d s1 => if ds.length < cap then .nx (e.set i (.own (ds ++ [d]))) s1 else .stk
  | _ => .stk
def sExt (i : Nat) (l : ME) : MS := fun e s => match e[i]? with
  | some (.own ds) => (l e s).go e fun x s1 => match view s1 x with
    | .lst es => if ds.length + es.length < cap then .nx (e.set i (.own (ds ++ es))) s1 else .stk
    | _ => .stk
  | _ => .stk
/-- a list of the frame's own becomes a value -/
def sFrz (i : Nat) : MS := fun e s => match e[i]? with
  | some (.own ds) => .nx (e.set i (.val (.lst ds))) s
  | _ => .stk
def sDrop (m : ME) : MS := fun e s => (m e s).go e fun _ s1 => .nx e s1
def sRet (m : ME) : MS := fun e s => (m e s).go e fun d s1 => .rt d s1
def sIf (t : MT) (a b : MS) : MS := fun e s => (t e s).go e fun c s1 => if c then a e s1 else b e s1
def forL (x : Src) (g : MG) (body : MS) : Nat → List D → Env → Sto → SRes
  | _, [], e, s => if fin x s then .nx e s else .stk
  | i, d :: ds, e, s => match (cur x s i d).bind fun d => g d e with
    | none => .stk
    | some e1 => match body e1 s with
      | .nx e2 s2 => forL x g body (i + 1) ds e2 s2
      | .ct e2 s2 => forL x g body (i + 1) ds e2 s2
      | .bk e2 s2 => .nx e2 s2
      | r => r
def sFor (mi : MI) (g : MG) (body : MS) : MS := fun e s => (mi e s).go e fun x s1 => forL x g body 0 x.ds e s1
def whL (t : MT) (body : MS) : Nat → Env → Sto → SRes
  | 0, _, _ => .stk
  | n + 1, e, s => (t e s).go e fun c s1 => if c then (match body e s1 with
      | .nx e2 s2 => whL t body n e2 s2
      | .ct e2 s2 => whL t body n e2 s2
      | .bk e2 s2 => .nx e2 s2
      | r => r) else .nx e s1
def sWhile (n : Nat) (t : MT) (body : MS) : MS := whL t body n
/-- o.f = e -/
def putF' (f : String) (v : D) : List (String × D) → List (String × D)
  | [] => [(f, v)]
  | (g, w) :: r => if g = f then (g, v) :: r else (g, w) :: putF' f v r
def sFld (c : Nat) (o m : ME) (f : String) : MS := fun e s => (m e s).go e fun d s1 => (o e s1).go e fun x s2 => match x with
  | .ref n => match s2[n]? with
    | some (.ins c' fs) => if c' = c ∧ fs.length < 100 then .nx e (s2.set n (.ins c (putF' f d fs))) else .stk
    | _ => .stk
  | _ => .stk
/-- placed lists: append, pop -/
def eAppP (o m : ME) : ME := fun env s => (o env s).bind fun x s1 => (m env s1).bind fun d s2 => match x with
  | .ref n => match s2[n]? with
    | some (.lst ds) => if ds.length < cap then .ok .non (s2.set n (.lst (ds ++ [d]))) else .stk
    | _ => .stk
  | _ => .stk
def ePopP (o : ME) : ME := fun env s => (o env s).bind fun x s1 => match x with
  | .ref n => match s1[n]? with
    | some (.lst ds) => match ds[ds.length - 1]? with
      | some d => .ok d (s1.set n (.lst ds.dropLast))
      | none => .stk
    | _ => .stk
  | _ => .stk
/-- o[i] = e, of a placed list -/
def sSet (o i m : ME) : MS := fun e s => (m e s).go e fun d s1 => (o e s1).go e fun x s2 => (i e s2).go e fun k s3 => match x, k with
  | .ref n, .int k => match s3[n]? with
    | some (.lst ds) => match place ds.length k with
      | some j => .nx e (s3.set n (.lst (ds.set j d)))
      | none => .stk
    | _ => .stk
  | _, _ => .stk
/-- a def's body run: what it hands back -/
def runB (k n : Nat) (body : MS) : Fn := fun ds s => if ds.length = k then (match body (ds.map .val ++ List.replicate (n - k) .emp) s with
  | .nx _ s => .ok .non s
  | .rt d s => .ok d s
  | .ex x _ s => .exc x s
  | _ => .stk) else .stk
/-! ### more words -/
def opNeg : Op1 := fun _ x => match x with | .int i => some (.int (-i)) | _ => none
/-- each sign of a text -/
def iStrI (a : ME) : MI := fun env s => (a env s).bind fun x s1 => match x with | .str cs => .ok ⟨cs.map fun c => .str [c], none⟩ s1 | _ => .stk
/-- two new lists in one -/
def lAdd (a b : ME) : MA := fun env s => (a env s).bind fun x s1 => (b env s1).bind fun y s2 => match view s2 x, view s2 y with
  | .lst xs, .lst ys => if xs.length + ys.length ≤ cap then .ok (xs ++ ys) s2 else .stk
  | _, _ => .stk
def cutAt (u : List Nat) (y : D) (s : Sto) : Res (List D) := match y with
  | .str [c] => if u.length ≤ cap ∧ c < 256 then .ok ((cutC c u).map D.str) s else .stk
  | _ => .stk
def lSplit (a b : ME) : MA := fun env s => (a env s).bind fun x s1 => match x with | .str u => (b env s1).bind fun y s2 => cutAt u y s2 | _ => .stk
def joinAt (sep : List Nat) (y : D) (s : Sto) : Res D := match seqOf s y with
  | some ds => (match strsOf ds with
    | some xs => if sep.length ≤ 10 ∧ xs.length ≤ 10000 ∧ (xs.map List.length).sum ≤ cap then .ok (.str (joinC sep xs)) s else .stk
    | none => .stk)
  | none => .stk
def eJoin (a b : ME) : ME := fun env s => (a env s).bind fun x s1 => match x with | .str u => (b env s1).bind fun y s2 => joinAt u y s2 | _ => .stk
def eTupRg (a : ME) : ME := fun env s => (a env s).bind fun x s1 => match x with | .int j => if 0 ≤ j ∧ j ≤ cap then .ok (.tup (intsD 0 j.toNat)) s1 else .stk | _ => .stk
/-- never read -/
def sNever : MS := fun _ _ => .stk
/-- two names at once -/
def sPar (i j : Nat) (a : MA) : MS := fun e s => (a e s).go e fun ds s1 => match ds with | [d, b] => .nx ((e.set i (.val d)).set j (.val b)) s1 | _ => .stk
/-- a written dict asked with a default -/
def kGetD (tab : List (List Nat × D)) : Op2 := fun _ x y => match x with | .str cs => some ((tab.lookup cs).getD y) | _ => none
def kNotIn (tab : List (List Nat × D)) : Op1 := fun _ x => match x with | .str cs => some (.bl (!(tab.lookup cs).isSome)) | _ => none
def keyEq : D → D → Bool
  | .int i, .int j => decide (i = j)
  | .str a, .str b => decide (a = b)
  | _, _ => false
def isKey : D → Bool | .int _ | .str _ => true | _ => false
def dLook (kvs : List (D × D)) (x : D) : Option D := (kvs.find? fun kv => keyEq kv.1 x).map (·.2)
def dPut (kvs : List (D × D)) (x y : D) : List (D × D) := if (kvs.any fun kv => keyEq kv.1 x) = true then kvs.map (fun kv => if keyEq kv.1 x then (kv.1, y) else kv) else kvs ++ [(x, y)]
def dMerge (a b : List (D × D)) : List (D × D) := b.foldl (fun acc kv => dPut acc kv.1 kv.2) a
def dicOf (s : Sto) : D → Option (List (D × D))
  | .ref n => match s[n]? with
    | some (.dic kvs) => some kvs
    | _ => none
  | _ => none
def opDGet : Op2 := fun s x y => if isKey y then (dicOf s x).bind fun kvs => dLook kvs y else none
def opDIn : Op2 := fun s x y => if isKey x then (dicOf s y).map fun kvs => .bl (dLook kvs x).isSome else none
def opDNotIn : Op2 := fun s x y => if isKey x then (dicOf s y).map fun kvs => .bl (!(dLook kvs x).isSome) else none
/-- {k: v, ..}, written pairs, placed -/
def pNil : Env → Sto → Res (List (D × D)) := fun _ s => .ok [] s
def pCons (k v : ME) (r : Env → Sto → Res (List (D × D))) : Env → Sto → Res (List (D × D)) := fun env s => (k env s).bind fun x s1 => (v env s1).bind fun y s2 => (r env s2).bind fun ps s3 => .ok ((x, y) :: ps) s3
def eDic (p : Env → Sto → Res (List (D × D))) : ME := fun env s => (p env s).bind fun ps s1 => if ps.all (fun kv => isKey kv.1) && decide (ps.length ≤ 15) then .ok (.ref s1.length) (s1 ++ [.dic (dMerge [] ps)]) else .stk
/-- d.update(e), two placed dicts -/
def refN : D → Option Nat | .ref n => some n | _ => none
def eUpd (a b : ME) : ME := fun env s => (a env s).bind fun x s1 => if (dicOf s1 x).isSome then (b env s1).bind fun y s2 => match refN x, refN y, dicOf s2 x, dicOf s2 y with
  | some n, some m, some p, some r => if n ≠ m ∧ p.length + r.length ≤ 1000 then .ok .non (s2.set n (.dic (dMerge p r))) else .stk
  | _, _, _, _ => .stk else .stk
abbrev FnK := List D → List D → Sto → Res D
/-- the made instance, behind its maker -/
def madeR (n : Nat) (r : Res D) : Res D := r.bind fun d s => match d with | .non => .ok (.ref n) s | _ => .stk
/-- an instance made with keywords -/
def eNewK (c : Nat) (g : FnK) (n m : Nat) (a k : MA) : ME := fun env s => (a env s).bind fun ds s1 => (k env s1).bind fun es s2 => if ds.length = n ∧ es.length = m then madeR s2.length (g (.ref s2.length :: ds) es (s2 ++ [.ins c []])) else .stk
/-- a call with keywords -/
def eCallK (g : FnK) (n m : Nat) (a k : MA) : ME := fun env s => (a env s).bind fun ds s1 => (k env s1).bind fun es s2 => if ds.length = n ∧ es.length = m then g ds es s2 else .stk
/-- zip of a tuple and a list -/
def zipTL (x y : D) (s : Sto) : Res Src := match x, y with
  | .tup ds, .lst es => .ok ⟨List.zipWith (fun d e => .tup [d, e]) ds es, none⟩ s
  | _, _ => .stk
def iZipTL (a b : ME) : MI := fun env s => (a env s).bind fun x s1 => (b env s1).bind fun y s2 => zipTL x y s2
/-! ### words of refusals and readers -/
def cntAt (ds : List D) (y : D) (s : Sto) : Res D := if y.fit 50 && D.fits 50 ds then .ok (.int ((ds.countP fun z => z.eqv y : Nat) : Int)) s else .stk
def idxAt (ds : List D) (y : D) (s : Sto) : Res D := if y.fit 50 && D.fits 50 ds then (match ds.findIdx? fun z => z.eqv y with | some j => .ok (.int (j : Nat)) s | none => .stk) else .stk
/-- x.count(y), x.index(y) of a list -/
def eCnt (a b : ME) : ME := fun env s => (a env s).bind fun x s1 => match x with | .lst ds => (b env s1).bind fun y s2 => cntAt ds y s2 | _ => .stk
def eIdx (a b : ME) : ME := fun env s => (a env s).bind fun x s1 => match x with | .lst ds => (b env s1).bind fun y s2 => idxAt ds y s2 | _ => .stk
def intsOf : List D → Option (List Int)
  | [] => some []
  | .int i :: r => (intsOf r).map fun is => i :: is
  | _ :: _ => none
/-- max(..) of a list of numbers -/
def opMax : Op1 := fun _ x => match x with | .lst ds => (match intsOf ds with | some (n :: ns) => some (.int (ns.foldl max n)) | _ => none) | _ => none
/-- a list so many times -/
def mulAt (x y : D) (s : Sto) : Res (List D) := match view s x, y with | .lst ds, .int k => if ds.length * k.toNat ≤ cap ∧ -1000 ≤ k ∧ k ≤ 1000 then .ok (List.replicate k.toNat ds).flatten s else .stk | _, _ => .stk
def lMul (a b : ME) : MA := fun env s => (a env s).bind fun x s1 => (b env s1).bind fun y s2 => mulAt x y s2
/-- a piece of a text -/
def cutS0 (cs : List Nat) (lo hi : Option Int) : List Nat := (cs.drop (partIx cs.length 0 lo)).take (partIx cs.length cs.length hi - partIx cs.length 0 lo)
def cutSAt (x : D) (l h : Option Int) (s : Sto) : Res D := match x with | .str cs => if cs.length ≤ cap then .ok (.str (cutS0 cs l h)) s else .stk | _ => .stk
def eSlS (a : ME) (lo hi : MO) : ME := fun env s => (a env s).bind fun x s1 => (lo env s1).bind fun l s2 => (hi env s2).bind fun h s3 => cutSAt x l h s3
/-- d[k] = e, of a placed dict -/
def putAt (e : Env) (x k d : D) (s : Sto) : SRes := match x with
  | .ref n => (match s[n]? with
    | some (.dic kvs) => if isKey k = true ∧ kvs.length < 1000 then .nx e (s.set n (.dic (dPut kvs k d))) else .stk
    | _ => .stk)
  | _ => .stk
def sSetD (o i m : ME) : MS := fun e s => (m e s).go e fun d s1 => (o e s1).go e fun x s2 => (i e s2).go e fun k s3 => putAt e x k d s3
/-- two names at once, the first one a list of the frame's own -/
def sParO (i j : Nat) (l : MA) (m : ME) : MS := fun e s => (l e s).go e fun ds s1 => (m e s1).go e fun b s2 => .nx ((e.set i (.own ds)).set j (.val b)) s2
/-! ### refusals -/
def eIsX (i : Nat) (tab : List (Nat × Bool)) : ME := fun env s => match env[i]? with
  | some (.exn x) => (match tab.lookup x.cls with | some b => .ok (.bl b) s | none => .stk)
  | _ => .stk
def eXf (i : Nat) (f : String) (cs : List Nat) : ME := fun env s => match env[i]? with
  | some (.exn x) => if x.cls ∈ cs then (match x.fs.lookup f with | some d => .ok d s | none => .stk) else .stk
  | _ => .stk
def eTold (me : ME) (mh : MS) (N j : Nat) (cs : List Nat) : ME := fun env s => match me env s with
  | .ok d s1 => .ok d s1
  | .exc x s1 => if x.cls ∈ cs then (match mh ((List.replicate N .emp).set j (.exn x)) s1 with | .rt d s2 => .ok d s2 | _ => .stk) else .stk
  | .stk => .stk
def sRz (c : Nat) : MS := fun e s => .ex ⟨c, []⟩ e s
def sRs (c : Nat) (fs : List String) (ma : MA) : MS := fun e s => (ma e s).go e fun ds s1 => if ds.length = fs.length then .ex ⟨c, (fs.zip ds).reverse⟩ e s1 else .stk
end MP

/-! How the mini machine's data stand in the abstract heap of the layer, and what it means that a reading follows it. Own text. -/
namespace MP
open PySem L2

/-- an abstract state: the tracked heap, what trees keep away from, where the placed objects lie -/
structure Stt where
  H : Hp
  L : Addr → Prop
  r : List Addr

/-- not a table of code objects: such grow -/
def NT (o : HO) : Prop := ∀ ps, o ≠ .tbl ps
/-- untracked, or a table of code objects -/
def Fr (q : Stt) (a : Addr) : Prop := ∀ o, q.H a = some o → ¬ NT o
theorem Fr.of {q : Stt} {a : Addr} (h : q.H a = none) : Fr q a := fun o e => by rw [h] at e; cases e
theorem Fr.ne {q : Stt} {p a : Addr} {o : HO} (f : Fr q p) (e : q.H a = some o) (t : NT o) : a ≠ p := fun z => by subst z; exact f o e t
structure Ext (q q' : Stt) : Prop where
  keep : ∀ a o, q.H a = some o → a ∉ q.r → NT o → q'.H a = some o
  mono : ∀ a, q.L a → q'.L a
  u : ∀ a o, q.H a = some o → ¬ q.L a → NT o → q'.H a = some o ∧ ¬ q'.L a
  pre : ∃ t, q'.r = q.r ++ t
  new : ∀ a, a ∈ q'.r → a ∈ q.r ∨ Fr q a
  th : ∀ a o, q.H a = some o → NT o → ∃ o', q'.H a = some o' ∧ NT o'
structure WF (q : Stt) : Prop where
  nd : q.r.Nodup
  live : ∀ a, a ∈ q.r → q.L a
  trk : ∀ a, q.L a → ∃ o, q.H a = some o ∧ NT o
/-- what trees lean on is kept -/
structure Kp (q q' : Stt) : Prop where
  u : ∀ a o, q.H a = some o → ¬ q.L a → NT o → q'.H a = some o ∧ ¬ q'.L a
  pre : ∃ t, q'.r = q.r ++ t

theorem pre_trans {a b c : List Addr} (x : ∃ t, b = a ++ t) (y : ∃ t, c = b ++ t) : ∃ t, c = a ++ t := by
  obtain ⟨t, e⟩ := x
  obtain ⟨u, f⟩ := y
  exact ⟨t ++ u, by rw [f, e, List.append_assoc]⟩
theorem Ext.refl (q : Stt) : Ext q q := ⟨fun _ _ h _ _ => h, fun _ h => h, fun _ _ h n _ => ⟨h, n⟩, ⟨[], by simp⟩, fun _ h => .inl h, fun _ o h t => ⟨o, h, t⟩⟩
theorem Ext.trans {a b c : Stt} (x : Ext a b) (y : Ext b c) : Ext a c where
  keep := fun p o h n t => y.keep p o (x.keep p o h n t) (fun hb => (x.new p hb).elim n fun z => z o h t) t
  mono := fun p h => y.mono p (x.mono p h)
  u := fun p o h n t => y.u p o (x.u p o h n t).1 (x.u p o h n t).2 t
  pre := pre_trans x.pre y.pre
  new := fun p h => (y.new p h).elim (fun z => x.new p z) fun z => by
    refine .inr fun o e t => ?_
    obtain ⟨o', e', t'⟩ := x.th p o e t
    exact z o' e' t'
  th := fun p o h t => let ⟨o', h', t'⟩ := x.th p o h t; y.th p o' h' t'
theorem Ext.kp {a b : Stt} (x : Ext a b) : Kp a b := ⟨x.u, x.pre⟩
theorem Kp.refl (q : Stt) : Kp q q := ⟨fun _ _ h n _ => ⟨h, n⟩, ⟨[], by simp⟩⟩
theorem Kp.trans {a b c : Stt} (x : Kp a b) (y : Kp b c) : Kp a c :=
  ⟨fun p o h n t => y.u p o (x.u p o h n t).1 (x.u p o h n t).2 t, pre_trans x.pre y.pre⟩
theorem WF.no {q : Stt} (w : WF q) {a : Addr} (h : q.H a = none) : ¬ q.L a := fun z => by
  obtain ⟨o, e, _⟩ := w.trk a z
  rw [h] at e; cases e
theorem WF.noF {q : Stt} (w : WF q) {a : Addr} (h : Fr q a) : ¬ q.L a := fun z => let ⟨o, e, t⟩ := w.trk a z; h o e t
theorem WF.norF {q : Stt} (w : WF q) {a : Addr} (h : Fr q a) : a ∉ q.r := fun z => w.noF h (w.live a z)
theorem WF.nor {q : Stt} (w : WF q) {a : Addr} (h : q.H a = none) : a ∉ q.r := fun z => w.no h (w.live a z)
theorem WF.nor' {q : Stt} (w : WF q) {a : Addr} (h : ¬ q.L a) : a ∉ q.r := fun z => h (w.live a z)
/-- a new object of no concern -/
theorem Ext.new1 {q : Stt} (w : WF q) {p : Addr} {o : HO} (h : q.H p = none) : Ext q ⟨upd q.H p o, q.L, q.r⟩ :=
  ⟨fun a u e _ _ => by show upd q.H p o a = _; rw [upd_ne (ne_of_none e h)]; exact e, fun _ x => x,
   fun a u e n _ => ⟨by show upd q.H p o a = _; rw [upd_ne (ne_of_none e h)]; exact e, n⟩, ⟨[], by simp⟩, fun _ x => .inl x, fun a u e t => ⟨u, by show upd q.H p o a = _; rw [upd_ne (ne_of_none e h)]; exact e, t⟩⟩
theorem WF.new1 {q : Stt} (w : WF q) {p : Addr} {o : HO} (h : q.H p = none) : WF ⟨upd q.H p o, q.L, q.r⟩ :=
  ⟨w.nd, w.live, fun a l => by
    obtain ⟨u, e, t⟩ := w.trk a l
    exact ⟨u, by show upd q.H p o a = _; rw [upd_ne (ne_of_none e h)]; exact e, t⟩⟩

/-! ### data in the heap -/
def FT (K : PySem.W.Frag) (q : Stt) (a : Addr) (vs : List V) : Prop := (q.H a = some (.tup vs) ∧ ¬ q.L a) ∨ SqT K (fun _ => none) a vs
def FL (q : Stt) (a : Addr) (vs : List V) : Prop := q.H a = some (.lst vs) ∧ ¬ q.L a
def FS (K : PySem.W.Frag) (q : Stt) (a : Addr) (vs : List V) : Prop := (∃ o, q.H a = some (.frz o (.lst vs)) ∧ ¬ q.L a) ∨ FL q a vs ∨ SqL K (fun _ => none) a vs
theorem FS.sq {K : PySem.W.Frag} {q : Stt} {a : Addr} {vs : List V} (h : FS K q a vs) : SqL K q.H a vs := by
  rcases h with ⟨o, h, _⟩ | ⟨h, _⟩ | h
  · exact .inl (.inr ⟨o, h⟩)
  · exact .inl (.inl h)
  · rcases h with (h | ⟨_, h⟩) | h
    · cases h
    · cases h
    · exact .inr h
theorem FT.sq {K : PySem.W.Frag} {q : Stt} {a : Addr} {vs : List V} (h : FT K q a vs) : SqT K q.H a vs := by
  rcases h with ⟨h, _⟩ | h
  · exact .inl (.inl h)
  · rcases h with (h | ⟨_, h⟩) | h
    · cases h
    · cases h
    · exact .inr h
mutual
inductive RD (K : PySem.W.Frag) (q : Stt) : D → V → Prop
  | non : RD K q .non .non
  | bl (b : Bool) : RD K q (.bl b) (.bl b)
  | int (i : Int) : RD K q (.int i) (.int i)
  | str (cs : List Nat) : RD K q (.str cs) (.str ⟨cs.toArray⟩)
  | tup {a : Addr} {vs : List V} {ds : List D} : FT K q a vs → RDs K q ds vs → RD K q (.tup ds) (.ref a)
  | lst {a : Addr} {vs : List V} {ds : List D} : FL q a vs → RDs K q ds vs → RD K q (.lst ds) (.ref a)
  | ref {n : Nat} {a : Addr} : q.r[n]? = some a → RD K q (.ref n) (.ref a)
  | scr {ns : List Int} {a : Addr} : FS K q a (ns.map V.int) → RD K q (.scr ns) (.ref a)
inductive RDs (K : PySem.W.Frag) (q : Stt) : List D → List V → Prop
  | nil : RDs K q [] []
  | cons {d : D} {v : V} {ds : List D} {vs : List V} : RD K q d v → RDs K q ds vs → RDs K q (d :: ds) (v :: vs)
end
section
variable {K : PySem.W.Frag} {q q' : Stt}
theorem FT.mono {a : Addr} {vs : List V} (k : Kp q q') (h : FT K q a vs) : FT K q' a vs := by
  rcases h with ⟨h, n⟩ | h
  · exact .inl (k.u _ _ h n fun _ z => nomatch z)
  · exact .inr h
theorem FL.mono {a : Addr} {vs : List V} (k : Kp q q') (h : FL q a vs) : FL q' a vs := k.u _ _ h.1 h.2 fun _ z => nomatch z
theorem FS.mono {a : Addr} {vs : List V} (k : Kp q q') (h : FS K q a vs) : FS K q' a vs := by
  rcases h with ⟨o, h, n⟩ | h | h
  · exact .inl ⟨o, (k.u _ _ h n fun _ z => nomatch z).1, (k.u _ _ h n fun _ z => nomatch z).2⟩
  · exact .inr (.inl (h.mono k))
  · exact .inr (.inr h)
theorem pre_get {r r' : List Addr} (p : ∃ t, r' = r ++ t) {n : Nat} {a : Addr} (h : r[n]? = some a) : r'[n]? = some a := by
  obtain ⟨t, e⟩ := p
  have hn := (List.getElem?_eq_some_iff.mp h).1
  rw [e, List.getElem?_append_left hn]; exact h
mutual
theorem RD.mono (k : Kp q q') : ∀ (d : D) {v : V}, RD K q d v → RD K q' d v
  | .non, _, h => by cases h; exact .non
  | .bl b, _, h => by cases h; exact .bl b
  | .int i, _, h => by cases h; exact .int i
  | .str cs, _, h => by cases h; exact .str cs
  | .tup ds, _, h => by cases h with | tup f r => exact .tup (f.mono k) (RDs.mono k ds r)
  | .lst ds, _, h => by cases h with | lst f r => exact .lst (f.mono k) (RDs.mono k ds r)
  | .ref n, _, h => by cases h with | ref e => exact .ref (pre_get k.pre e)
  | .scr ns, _, h => by cases h with | scr f => exact .scr (f.mono k)
theorem RDs.mono (k : Kp q q') : ∀ (ds : List D) {vs : List V}, RDs K q ds vs → RDs K q' ds vs
  | [], _, h => by cases h; exact .nil
  | d :: ds, _, h => by cases h with | cons a b => exact .cons (RD.mono k d a) (RDs.mono k ds b)
end
theorem RDs.length : ∀ {ds : List D} {vs : List V}, RDs K q ds vs → vs.length = ds.length
  | [], _, h => by cases h; rfl
  | _ :: _, _, h => by cases h with | cons _ b => simp [RDs.length b]
theorem RDs.append : ∀ {ds es : List D} {vs us : List V}, RDs K q ds vs → RDs K q es us → RDs K q (ds ++ es) (vs ++ us)
  | [], _, _, _, h, g => by cases h; exact g
  | _ :: _, _, _, _, h, g => by cases h with | cons a b => exact .cons a (RDs.append b g)
theorem RDs.get : ∀ {ds : List D} {vs : List V} {i : Nat} {d : D}, RDs K q ds vs → ds[i]? = some d → ∃ v, vs[i]? = some v ∧ RD K q d v
  | [], _, _, _, h, e => by simp at e
  | _ :: _, _, 0, _, h, e => by cases h with | cons a b => simp at e; subst e; exact ⟨_, rfl, a⟩
  | _ :: ds, _, i + 1, _, h, e => by
    cases h with
    | cons a b =>
      rw [List.getElem?_cons_succ] at e
      obtain ⟨v, h1, h2⟩ := RDs.get b e
      exact ⟨v, by rw [List.getElem?_cons_succ]; exact h1, h2⟩
theorem RDs.get' : ∀ {ds : List D} {vs : List V} {i : Nat} {v : V}, RDs K q ds vs → vs[i]? = some v → ∃ d, ds[i]? = some d ∧ RD K q d v
  | [], _, _, _, h, e => by cases h; simp at e
  | _ :: _, _, 0, _, h, e => by cases h with | cons a b => simp at e; subst e; exact ⟨_, rfl, a⟩
  | _ :: _, _, i + 1, _, h, e => by
    cases h with
    | cons a b =>
      rw [List.getElem?_cons_succ] at e
      obtain ⟨d, h1, h2⟩ := RDs.get' b e
      exact ⟨d, by rw [List.getElem?_cons_succ]; exact h1, h2⟩
theorem RDs.set : ∀ {ds : List D} {vs : List V} {i : Nat} {d : D} {v : V}, RDs K q ds vs → RD K q d v → RDs K q (ds.set i d) (vs.set i v)
  | [], _, _, _, _, h, _ => by cases h; exact .nil
  | _ :: _, _, 0, _, _, h, g => by cases h with | cons a b => exact .cons g b
  | _ :: _, _, i + 1, _, _, h, g => by cases h with | cons a b => exact .cons a (RDs.set b g)
theorem RDs.take : ∀ {ds : List D} {vs : List V} (n : Nat), RDs K q ds vs → RDs K q (ds.take n) (vs.take n)
  | _, _, 0, _ => by simp; exact .nil
  | [], _, n + 1, h => by cases h; exact .nil
  | _ :: _, _, n + 1, h => by cases h with | cons a b => exact .cons a (RDs.take n b)
theorem RDs.drop : ∀ {ds : List D} {vs : List V} (n : Nat), RDs K q ds vs → RDs K q (ds.drop n) (vs.drop n)
  | _, _, 0, h => by simpa using h
  | [], _, n + 1, h => by cases h; exact .nil
  | _ :: _, _, n + 1, h => by cases h with | cons a b => exact RDs.drop n b
theorem RDs.ints : ∀ (ns : List Int), RDs K q (ns.map D.int) (ns.map V.int)
  | [] => .nil
  | n :: ns => .cons (.int n) (RDs.ints ns)
end

/-- the table of classes and what the placed objects are -/
structure Tab where
  f : Nat → Addr
  /-- which slots hold a caught exception: its place, its class, its dict -/
  z : Nat → Option (Addr × Value × Option Addr) := fun _ => none
  /-- the tables of code objects, and the name that their objects bear -/
  t : List (Addr × Str) := []
instance : CoeFun Tab fun _ => Nat → Addr := ⟨Tab.f⟩
inductive RF (K : PySem.W.Frag) (q : Stt) : List (String × D) → List (Str × V) → Prop
  | nil : RF K q [] []
  | cons {f : String} {d : D} {v : V} {fs : List (String × D)} {gs : List (Str × V)} : RD K q d v → RF K q fs gs → RF K q ((f, d) :: fs) ((Str.ofString f, v) :: gs)
def keyOf : D → Option Key
  | .int i => some (.inl i)
  | .str cs => some (.inr ⟨cs.toArray⟩)
  | _ => none
inductive RK (K : PySem.W.Frag) (q : Stt) : List (D × D) → List (Key × V) → Prop
  | nil : RK K q [] []
  | cons {k : D} {d : D} {y : Key} {v : V} {fs : List (D × D)} {gs : List (Key × V)} : keyOf k = some y → RD K q d v → RK K q fs gs → RK K q ((k, d) :: fs) ((y, v) :: gs)
def RO (K : PySem.W.Frag) (C : Nat → Addr) (q : Stt) (a : Addr) : Ob → Prop
  | .lst ds => ∃ vs, q.H a = some (.lst vs) ∧ RDs K q ds vs
  | .ins c fs => ∃ dx gs, q.H a = some (.ins (C c) dx gs) ∧ RF K q fs gs
  | .dic kvs => ∃ ks, q.H a = some (.dK ks) ∧ RK K q kvs ks
/-- the tables of code objects -/
def TB (T : List (Addr × Str)) (H : Hp) : Prop := LamX.Tabs T H
theorem TB.new {T : List (Addr × Str)} {H : Hp} {p : Addr} {o : HO} (t : TB T H) (h : H p = none) (nt : NT o) : TB T (upd H p o) :=
  LamX.Tabs.ext t fun b u e => by rw [upd_ne (ne_of_none e h)]; exact e
structure Rel0 (K : PySem.W.Frag) (C : Nat → Addr) (T : List (Addr × Str)) (s : Sto) (q : Stt) : Prop where
  wf : WF q
  len : q.r.length = s.length
  obs : ∀ (n : Nat) (o : Ob) (a : Addr), s[n]? = some o → q.r[n]? = some a → RO K C q a o
  tb : TB T q.H

abbrev Rel (K : PySem.W.Frag) (C : Tab) (s : Sto) (q : Stt) : Prop := Rel0 K C.f C.t s q

section
variable {K : PySem.W.Frag} {C : Tab} {q q' : Stt}
theorem RF.mono (k : Kp q q') : ∀ {fs : List (String × D)} {gs : List (Str × V)}, RF K q fs gs → RF K q' fs gs
  | _, _, .nil => .nil
  | _, _, .cons a b => .cons (RD.mono k _ a) (RF.mono k b)
theorem RK.mono (k : Kp q q') : ∀ {fs : List (D × D)} {gs : List (Key × V)}, RK K q fs gs → RK K q' fs gs
  | _, _, .nil => .nil
  | _, _, .cons e a b => .cons e (RD.mono k _ a) (RK.mono k b)
/-- an object whose own place is kept -/
theorem RO.mono {a : Addr} (k : Kp q q') (h : q'.H a = q.H a) : ∀ {o : Ob}, RO K C q a o → RO K C q' a o
  | .lst ds, ⟨vs, e, r⟩ => ⟨vs, h.trans e, RDs.mono k ds r⟩
  | .ins c fs, ⟨dx, gs, e, r⟩ => ⟨dx, gs, h.trans e, r.mono k⟩
  | .dic kvs, ⟨ks, e, r⟩ => ⟨ks, h.trans e, r.mono k⟩
theorem RO.there {a : Addr} {o : Ob} (h : RO K C q a o) : ∃ u, q.H a = some u := by
  cases o with
  | lst ds => obtain ⟨vs, e, _⟩ := h; exact ⟨_, e⟩
  | ins c fs => obtain ⟨dx, gs, e, _⟩ := h; exact ⟨_, e⟩
  | dic kvs => obtain ⟨ks, e, _⟩ := h; exact ⟨_, e⟩
theorem RO.kind {a : Addr} {o : Ob} (h : RO K C q a o) : ∃ u, q.H a = some u ∧ NT u ∧ ∀ f, u ≠ .ext f := by
  cases o with
  | lst ds => obtain ⟨vs, e, _⟩ := h; exact ⟨_, e, (fun _ z => nomatch z), fun _ z => nomatch z⟩
  | ins c fs => obtain ⟨dx, gs, e, _⟩ := h; exact ⟨_, e, (fun _ z => nomatch z), fun _ z => nomatch z⟩
  | dic kvs => obtain ⟨ks, e, _⟩ := h; exact ⟨_, e, (fun _ z => nomatch z), fun _ z => nomatch z⟩
theorem Rel.new1 {s : Sto} (R : Rel K C s q) {p : Addr} {o : HO} (h : q.H p = none) (nt : NT o := by exact fun _ z => nomatch z) : Rel K C s ⟨upd q.H p o, q.L, q.r⟩ :=
  ⟨R.wf.new1 h, R.len, fun n ob a e f => by
    have x := R.obs n ob a e f
    obtain ⟨u, hu⟩ := x.there
    exact x.mono (Ext.new1 R.wf h).kp (by show upd q.H p o a = _; rw [upd_ne (ne_of_none hu h)]), R.tb.new h nt⟩
/-- a write at what is no table and no code object -/
theorem tabs_upd {T : List (Addr × Str)} {H : Hp} {a : Addr} {u ho : HO} (t : TB T H) (h : H a = some u) (n1 : NT u) (n2 : ∀ f, u ≠ .ext f) (n3 : NT ho := by exact fun _ z => nomatch z) : TB T (upd H a ho) := by
  intro p hp
  obtain ⟨ps, h1, h2, h3⟩ := t p hp
  refine ⟨ps, ?_, h2, fun pos cv hc => ?_⟩
  · rw [upd_ne fun z => ?_]
    · exact h1
    · rw [z, h] at h1
      exact n1 ps (Option.some.inj h1)
  · obtain ⟨c, e1, e2⟩ := h3 pos cv hc
    refine ⟨c, e1, ?_⟩
    rw [upd_ne fun z => ?_]
    · exact e2
    · rw [z, h] at e2
      unfold LamX.CodeO at e2
      exact n2 _ (Option.some.inj e2)
end

/-! ### the frame's names -/
/-- an exception as it stands: its class, its dict -/
def RX (q : Stt) (C : Tab) (K : PySem.W.Frag) (x : Exn) (cls : Value) (d : Option Addr) : Prop :=
  cls = .ref (C x.cls) ∧ match x.fs with
    | [] => d = none
    | fs => ∃ a gs, d = some a ∧ q.H a = some (.xd gs) ∧ ¬ q.L a ∧ RF K q fs gs
theorem RX.mono {q q' : Stt} {C : Tab} {K : PySem.W.Frag} {x : Exn} {cls : Value} {d : Option Addr} (k : Kp q q') (h : RX q C K x cls d) : RX q' C K x cls d := by
  refine ⟨h.1, ?_⟩
  have h2 := h.2
  split
  · rename_i e; rw [e] at h2; exact h2
  · rename_i fs hne
    split at h2
    · rename_i e; exact absurd e hne
    · obtain ⟨a, gs, e, h1, h3, h4⟩ := h2
      obtain ⟨g1, g2⟩ := k.u _ _ h1 h3 fun _ z => nomatch z
      exact ⟨a, gs, e, g1, g2, h4.mono k⟩
structure RE (K : PySem.W.Frag) (C : Tab) (q0 q : Stt) (env : Env) (σ : St) : Prop where
  len : env.length = σ.length
  val : ∀ (i : Nat) (d : D), env[i]? = some (.val d) → ∃ v, σ[i]? = some (some v) ∧ RD K q d v
  own : ∀ (i : Nat) (ds : List D), env[i]? = some (.own ds) → ∃ a vs, σ[i]? = some (some (.ref a)) ∧ q.H a = some (.lst vs) ∧ q.L a ∧ a ∉ q.r ∧ RDs K q ds vs ∧ Fr q0 a
  inj : ∀ (i j : Nat) (ds es : List D) (a : Addr), env[i]? = some (.own ds) → env[j]? = some (.own es) → σ[i]? = some (some (.ref a)) → σ[j]? = some (some (.ref a)) → i = j
  w0 : WF q0
  exn : ∀ (i : Nat) (x : Exn), env[i]? = some (.exn x) → ∃ a cls d, C.z i = some (a, cls, d) ∧ σ[i]? = some (some (.ref a)) ∧ RX q C K x cls d
theorem RE.ext {K : PySem.W.Frag} {C : Tab} {q0 q q' : Stt} {env : Env} {σ : St} (E : RE K C q0 q env σ) (x : Ext q q') : RE K C q0 q' env σ where
  len := E.len
  val := fun i d e => by
    obtain ⟨v, h, r⟩ := E.val i d e
    exact ⟨v, h, RD.mono x.kp d r⟩
  own := fun i ds e => by
    obtain ⟨a, vs, h1, h2, h3, h4, h5, h6⟩ := E.own i ds e
    exact ⟨a, vs, h1, x.keep a _ h2 h4 (fun _ z => nomatch z), x.mono a h3, (fun z => (x.new a z).elim h4 fun n => n _ h2 fun _ z => nomatch z), RDs.mono x.kp ds h5, h6⟩
  inj := E.inj
  w0 := E.w0
  exn := fun i y e => let ⟨a, cl, d, h1, h2, h3⟩ := E.exn i y e; ⟨a, cl, d, h1, h2, h3.mono x.kp⟩

/-! ### a reading follows a function -/
abbrev Wx := WX
/-- what is asked behind: of a value that stands for the answer, of an exception that stands for the exception -/
def Post {α β : Type} (K : PySem.W.Frag) (C : Tab) (W : Wx) (R : Stt → Stt → α → β → Prop) (q : Stt) (σ : St) (Q : β → Hp → Prop) : Res α → Prop
  | .ok a s => ∀ b q', Ext q q' → Rel K C s q' → R q q' a b → Q b q'.H
  | .exc x s => ∀ cls d q', Ext q q' → Rel K C s q' → RX q' C K x cls d → W cls d σ q'.H
  | .stk => False
def Sim {α β : Type} (K : PySem.W.Frag) (C : Tab) (W : Wx) (R : Stt → Stt → α → β → Prop) (t : St → Hp → (β → Hp → Prop) → Prop) (m : Env → Sto → Res α) : Prop :=
  ∀ (q0 q : Stt) (env : Env) (σ : St) (s : Sto) (Q : β → Hp → Prop), RE K C q0 q env σ → Rel K C s q → Post K C W R q σ Q (m env s) → t σ q.H Q

/-- readable: a value, or a list that is borrowed -/
def RB (K : PySem.W.Frag) (q : Stt) (d : D) (v : V) : Prop := RD K q d v ∨ ∃ a vs ds, d = .lst ds ∧ v = .ref a ∧ q.H a = some (.lst vs) ∧ a ∉ q.r ∧ RDs K q ds vs
theorem RB.ext {K : PySem.W.Frag} {q q' : Stt} {d : D} {v : V} (x : Ext q q') (h : RB K q d v) : RB K q' d v := by
  rcases h with h | ⟨a, vs, ds, e1, e2, h1, h2, h3⟩
  · exact .inl (RD.mono x.kp d h)
  · exact .inr ⟨a, vs, ds, e1, e2, x.keep a _ h1 h2 (fun _ z => nomatch z), (fun z => (x.new a z).elim h2 fun n => n _ h1 fun _ z => nomatch z), RDs.mono x.kp ds h3⟩
/-- a list just made: tracked, kept from trees, not placed -/
def RN (K : PySem.W.Frag) (q q' : Stt) (ds : List D) (v : V) : Prop := ∃ p vs, v = .ref p ∧ Fr q p ∧ q'.H p = some (.lst vs) ∧ q'.L p ∧ p ∉ q'.r ∧ RDs K q' ds vs
abbrev rD (K : PySem.W.Frag) : Stt → Stt → D → V → Prop := fun _ q' d v => RD K q' d v
abbrev rB (K : PySem.W.Frag) : Stt → Stt → D → V → Prop := fun _ q' d v => RB K q' d v
abbrev rA (K : PySem.W.Frag) : Stt → Stt → List D → List V → Prop := fun _ q' d v => RDs K q' d v
abbrev rT : Stt → Stt → Bool → Bool → Prop := fun _ _ b c => b = c

section
variable {K : PySem.W.Frag} {C : Tab} {W : Wx}
theorem Sim.imp {α β : Type} {R R' : Stt → Stt → α → β → Prop} {t : St → Hp → (β → Hp → Prop) → Prop} {m : Env → Sto → Res α} (h : Sim K C W R t m) (hi : ∀ q q' a b, R q q' a b → R' q q' a b) : Sim K C W R' t m := by
  intro q0 q env σ s Q E R1 P
  refine h q0 q env σ s Q E R1 ?_
  cases e : m env s with
  | ok a s' => rw [e] at P; exact fun b q' x r y => P b q' x r (hi _ _ _ _ y)
  | exc x s' => rw [e] at P; exact P
  | stk => rw [e] at P; exact P
/-- after a first part -/
theorem Post.bind {α β γ δ : Type} {R : Stt → Stt → α → β → Prop} {R' : Stt → Stt → γ → δ → Prop} {q : Stt} {σ : St} {Q : δ → Hp → Prop} {P : β → Hp → Prop} {m : Res α} {f : α → Sto → Res γ} (h : Post K C W R' q σ Q (m.bind f))
    (k : ∀ a s, m = .ok a s → ∀ b q', Ext q q' → Rel K C s q' → R q q' a b → Post K C W R' q σ Q (f a s) → P b q'.H) : Post K C W R q σ P m := by
  cases m with
  | ok a s => exact fun b q' x r y => k a s rfl b q' x r y h
  | exc x s => exact h
  | stk => exact h
/-- what is asked from a later state -/
theorem Post.later {γ δ : Type} {R : Stt → Stt → γ → δ → Prop} {q q1 : Stt} {σ : St} {Q : δ → Hp → Prop} {m : Res γ} (x : Ext q q1) (h : Post K C W R q σ Q m) (hR : ∀ q2 a b, Ext q1 q2 → R q1 q2 a b → R q q2 a b) : Post K C W R q1 σ Q m := by
  cases m with
  | ok a s => exact fun b q' y r z => h b q' (x.trans y) r (hR _ _ _ y z)
  | exc e s => exact fun c d q' y r z => h c d q' (x.trans y) r z
  | stk => exact h
end
end MP

/-! Expressions of the text and their functions. Own text. -/
namespace MP
open PySem L2

theorem PE.imp {X : Cx} {e : Expr} {t t' : TE} (h : PE X e t) (hi : ∀ σ H Q, t' σ H Q → t σ H Q) : PE X e t' := ⟨fun pins s σ H Q I z => h.run pins s σ H Q I (hi σ H Q z)⟩
theorem PT.imp {X : Cx} {e : Expr} {t t' : TT} (h : PT X e t) (hi : ∀ σ H Q, t' σ H Q → t σ H Q) : PT X e t' := ⟨fun pins s σ H Q I z => h.run pins s σ H Q I (hi σ H Q z)⟩
theorem PW.imp {X : Cx} {e : Expr} {t t' : TT} (h : PW X e t) (hi : ∀ σ H Q, t' σ H Q → t σ H Q) : PW X e t' := ⟨fun wh pins s σ H Q I z => h.run wh pins s σ H Q I (hi σ H Q z)⟩
theorem PA.imp {X : Cx} {es : List Expr} {t t' : TA} (h : PA X es t) (hi : ∀ σ H Q, t' σ H Q → t σ H Q) : PA X es t' := ⟨fun pos pins s σ H Q I z => h.run pos pins s σ H Q I (hi σ H Q z)⟩
theorem PS.imp {X : Cx} {st : Stmt} {t t' : TS} (h : PS X st t) (hi : ∀ D σ H, t' D σ H → t D σ H) : PS X st t' := ⟨fun pins s σ H D I z => h.run pins s σ H D I (hi D σ H z)⟩
theorem PSs.imp {X : Cx} {st : List Stmt} {t t' : TS} (h : PSs X st t) (hi : ∀ D σ H, t' D σ H → t D σ H) : PSs X st t' := ⟨fun pins s σ H D I z => h.run pins s σ H D I (hi D σ H z)⟩
theorem PG.imp {X : Cx} {g : Expr} {t t' : TG} (h : PG X g t) (hi : ∀ v σ H Q, t' v σ H Q → t v σ H Q) : PG X g t' := ⟨fun pins s σ H v u Q I r z => h.run pins s σ H v u Q I r (hi v σ H Q z)⟩
theorem PI.imp {X : Cx} {tg it : Expr} {t t' : TI} (h : PI X tg it t) (hi : ∀ σ H R, t' σ H R → t σ H R) : PI X tg it t' := ⟨fun pins s σ H R I z => h.run pins s σ H R I (hi σ H R z)⟩

/-- the reading by a function -/
def tM {α β : Type} (K : PySem.W.Frag) (C : Tab) (W : Wx) (R : Stt → Stt → α → β → Prop) (m : MP.Env → Sto → Res α) : St → Hp → (β → Hp → Prop) → Prop := fun σ H Q =>
  ∃ (q0 q : Stt) (env : MP.Env) (s : Sto), q.H = H ∧ RE K C q0 q env σ ∧ Rel K C s q ∧ Post K C W R q σ Q (m env s)
def GE (X : Cx) (C : Tab) (W : Wx) (e : Expr) (m : ME) : Prop := PE X e (tM X.K C W (rD X.K) m)
def GB (X : Cx) (C : Tab) (W : Wx) (e : Expr) (m : ME) : Prop := PE X e (tM X.K C W (rB X.K) m)
def GL (X : Cx) (C : Tab) (W : Wx) (e : Expr) (m : MA) : Prop := PE X e (tM X.K C W (RN X.K) m)
def GA (X : Cx) (C : Tab) (W : Wx) (es : List Expr) (m : MA) : Prop := PA X es (tM X.K C W (rA X.K) m)
def GT (X : Cx) (C : Tab) (W : Wx) (e : Expr) (m : MT) : Prop := PT X e (tM X.K C W rT m)
def GW (X : Cx) (C : Tab) (W : Wx) (e : Expr) (m : MT) : Prop := PW X e (tM X.K C W rT m)

section
variable {K : PySem.W.Frag} {C : Tab} {W : Wx} {α β γ δ : Type} {R : Stt → Stt → α → β → Prop} {R' : Stt → Stt → γ → δ → Prop} {q0 q : Stt} {env : MP.Env} {s : Sto} {σ : St} {Q : δ → Hp → Prop} {P : β → Hp → Prop}
/-- a first part, its answer, then what follows from there -/
theorem tM.first {m : MP.Env → Sto → Res α} {f : α → Sto → Res γ} (E : RE K C q0 q env σ) (L : Rel K C s q) (h : Post K C W R' q σ Q ((m env s).bind f)) (hR : ∀ q1, Ext q q1 → ∀ q2 a b, R' q1 q2 a b → R' q q2 a b)
    (k : ∀ a s1, ∀ b q1, Ext q q1 → RE K C q0 q1 env σ → Rel K C s1 q1 → R q q1 a b → Post K C W R' q1 σ Q (f a s1) → P b q1.H) : tM K C W R m σ q.H P :=
  ⟨q0, q, env, s, rfl, E, L, Post.bind h fun a s1 _ b q1 x r y z => k a s1 b q1 x (E.ext x) r y (z.later x fun q2 c d _ w => hR q1 x q2 c d w)⟩
theorem tM.same {m : MP.Env → Sto → Res γ} (E : RE K C q0 q env σ) (L : Rel K C s q) (h : Post K C W R' q σ Q (m env s)) : tM K C W R' m σ q.H Q := ⟨q0, q, env, s, rfl, E, L, h⟩
end
theorem rD_any {K : PySem.W.Frag} {q : Stt} : ∀ q1, Ext q q1 → ∀ q2 a b, rD K q1 q2 a b → rD K q q2 a b := fun _ _ _ _ _ h => h
theorem rB_any {K : PySem.W.Frag} {q : Stt} : ∀ q1, Ext q q1 → ∀ q2 a b, rB K q1 q2 a b → rB K q q2 a b := fun _ _ _ _ _ h => h
theorem rA_any {K : PySem.W.Frag} {q : Stt} : ∀ q1, Ext q q1 → ∀ q2 a b, rA K q1 q2 a b → rA K q q2 a b := fun _ _ _ _ _ h => h
theorem rT_any {q : Stt} : ∀ q1, Ext q q1 → ∀ q2 a b, rT q1 q2 a b → rT q q2 a b := fun _ _ _ _ _ h => h
theorem Ext.free {q q' : Stt} (w : WF q) (x : Ext q q') {p : Addr} (h : q'.H p = none) (hp : p ∉ q.r) : Fr q p := fun o e t => by
  obtain ⟨o', e', _⟩ := x.th p o e t
  rw [e'] at h; cases h
theorem Ext.free' {K : PySem.W.Frag} {C : Tab} {s : Sto} {q q' : Stt} (x : Ext q q') {p : Addr} (h : Fr q' p) (L : Rel K C s q') : Fr q p := fun o e t => by
  obtain ⟨o', e', t'⟩ := x.th p o e t
  exact h o' e' t'
section
variable {X : Cx} {C : Tab} {W : Wx} {pos : Pos} {e a b c o : Expr} {es : List Expr} {m ma mb mc mo : ME}

/-! ### from one to another -/
theorem gb_of (h : GE X C W e m) : GB X C W e m := PE.imp h fun σ H Q ⟨q0, q, env, s, e, E, L, p⟩ => ⟨q0, q, env, s, e, E, L, by
  cases z : m env s with
  | ok d s' => rw [z] at p; exact fun v q' x r y => p v q' x r (.inl y)
  | exc x s' => rw [z] at p; exact p
  | stk => rw [z] at p; exact p⟩
/-- a list just made becomes a value -/
theorem freeze {K : PySem.W.Frag} {q q' : Stt} {s : Sto} {p : Addr} {vs : List V} {ds : List D} (w : WF q) (x : Ext q q') (r : Rel K C s q') (hp : Fr q p) (h : q'.H p = some (.lst vs)) (hl : q'.L p) (hr : p ∉ q'.r) (rd : RDs K q' ds vs) :
    Ext q ⟨q'.H, fun a => q'.L a ∧ a ≠ p, q'.r⟩ ∧ Rel K C s ⟨q'.H, fun a => q'.L a ∧ a ≠ p, q'.r⟩ ∧ RD K ⟨q'.H, fun a => q'.L a ∧ a ≠ p, q'.r⟩ (.lst ds) (.ref p) := by
  have k : Kp q' ⟨q'.H, fun a => q'.L a ∧ a ≠ p, q'.r⟩ := ⟨fun a u e n _ => ⟨e, fun z => n z.1⟩, ⟨[], by simp⟩⟩
  have nq : ¬ q.L p := w.noF hp
  refine ⟨⟨x.keep, fun a l => ⟨x.mono a l, fun z => nq (z ▸ l)⟩, fun a u e n t => ⟨(x.u a u e n t).1, fun z => (x.u a u e n t).2 z.1⟩, x.pre, x.new, x.th⟩,
    ⟨⟨r.wf.nd, fun a h => ⟨r.wf.live a h, fun z => hr (z ▸ h)⟩, fun a l => r.wf.trk a l.1⟩, r.len, fun n ob a e1 e2 => (r.obs n ob a e1 e2).mono k rfl, r.tb⟩, ?_⟩
  exact .lst ⟨h, fun z => z.2 rfl⟩ (RDs.mono k ds rd)
theorem tM.first0 {K : PySem.W.Frag} {α β γ δ : Type} {R : Stt → Stt → α → β → Prop} {R' : Stt → Stt → γ → δ → Prop} {q0 q : Stt} {env : MP.Env} {s : Sto} {σ : St} {Q : δ → Hp → Prop} {P : β → Hp → Prop} {m : MP.Env → Sto → Res α} {f : α → Sto → Res γ}
    (E : RE K C q0 q env σ) (L : Rel K C s q) (h : Post K C W R' q σ Q ((m env s).bind f)) (k : ∀ a s1, ∀ b q1, Ext q q1 → Rel K C s1 q1 → R q q1 a b → Post K C W R' q σ Q (f a s1) → P b q1.H) : tM K C W R m σ q.H P :=
  ⟨q0, q, env, s, rfl, E, L, Post.bind h fun a s1 _ b q1 x r y z => k a s1 b q1 x r y z⟩
theorem ge_frz {l : MA} (h : GL X C W e l) : GE X C W e (eFrz l) := PE.imp h fun σ H Q ⟨q0, q, env, s, eq, E, L, p⟩ => by
  subst eq
  refine tM.first0 (f := fun ds s1 => (Res.ok (D.lst ds) s1 : Res D)) E L p fun ds s1 v q1 x L1 y z => ?_
  obtain ⟨p, vs, rfl, h1, h2, h3, h4, h5⟩ := y
  obtain ⟨e1, e2, e3⟩ := freeze L.wf x L1 h1 h2 h3 h4 h5
  exact z (.ref p) ⟨q1.H, fun a => q1.L a ∧ a ≠ p, q1.r⟩ e1 e2 e3
/-- a list just made is placed -/
theorem placed {K : PySem.W.Frag} {q q' : Stt} {s : Sto} {p : Addr} {vs : List V} {ds : List D} (w : WF q) (x : Ext q q') (r : Rel K C s q') (hp : Fr q p) (h : q'.H p = some (.lst vs)) (hl : q'.L p) (hr : p ∉ q'.r) (rd : RDs K q' ds vs) :
    Ext q ⟨q'.H, q'.L, q'.r ++ [p]⟩ ∧ Rel K C (s ++ [.lst ds]) ⟨q'.H, q'.L, q'.r ++ [p]⟩ ∧ RD K ⟨q'.H, q'.L, q'.r ++ [p]⟩ (.ref s.length) (.ref p) := by
  have k : Kp q' ⟨q'.H, q'.L, q'.r ++ [p]⟩ := ⟨fun a u e n _ => ⟨e, n⟩, ⟨[p], rfl⟩⟩
  refine ⟨⟨x.keep, x.mono, x.u, pre_trans x.pre ⟨[p], rfl⟩, fun a ha => ?_, x.th⟩, ⟨⟨?_, fun a ha => ?_, r.wf.trk⟩, by simp [r.len], fun n ob a e1 e2 => ?_, r.tb⟩, .ref ?_⟩
  · rcases List.mem_append.mp ha with z | z
    · exact x.new a z
    · obtain rfl : a = p := by simpa using z
      exact .inr hp
  · exact List.nodup_append.mpr ⟨r.wf.nd, by simp, fun a ha b hb => by
      obtain rfl : b = p := by simpa using hb
      exact fun z => hr (z ▸ ha)⟩
  · rcases List.mem_append.mp ha with z | z
    · exact r.wf.live a z
    · obtain rfl : a = p := by simpa using z
      exact hl
  · by_cases hn : n < s.length
    · rw [List.getElem?_append_left hn] at e1
      have e2 : (q'.r ++ [p])[n]? = some a := e2
      rw [List.getElem?_append_left (by rw [r.len]; exact hn)] at e2
      exact (r.obs n ob a e1 e2).mono k rfl
    · have hz : n = s.length := by
        have := (List.getElem?_eq_some_iff.mp e1).1
        simp at this; omega
      subst hz
      simp at e1
      have e2 : (q'.r ++ [p])[s.length]? = some a := e2
      rw [← r.len] at e2
      simp at e2
      subst e1 e2
      exact ⟨vs, h, RDs.mono k ds rd⟩
  · show (q'.r ++ [p])[s.length]? = some p
    rw [← r.len]; simp
theorem ge_plc {l : MA} (h : GL X C W e l) : GE X C W e (ePlc l) := PE.imp h fun σ H Q ⟨q0, q, env, s, eq, E, L, p⟩ => by
  subst eq
  refine tM.first0 (f := fun ds s1 => (Res.ok (D.ref s1.length) (s1 ++ [Ob.lst ds]) : Res D)) E L p fun ds s1 v q1 x L1 y z => ?_
  obtain ⟨p, vs, rfl, h1, h2, h3, h4, h5⟩ := y
  obtain ⟨e1, e2, e3⟩ := placed L.wf x L1 h1 h2 h3 h4 h5
  exact z (.ref p) ⟨q1.H, q1.L, q1.r ++ [p]⟩ e1 e2 e3

/-! ### names, constants -/
theorem ge_var (i : Nat) {x : Str} (hN : X.N[i]? = some x := by rfl) (hv : Vis X.env.scope x := by first | exact Or.inl rfl | exact Or.inr (Or.inl rfl) | exact Or.inr (Or.inr rfl)) (hd : (x == ("__debug__" : Str)) = false := by decide)
    (hc : (x == ("__classdict__" : Str)) = false := by decide) : GE X C W (.Name x pos) (eVar i) := PE.imp (pe_var (i := i) hN hv hd hc) fun σ H Q ⟨q0, q, env, s, eq, E, L, p⟩ => by
  subst eq
  unfold eVar at p
  split at p
  · rename_i d e
    obtain ⟨v, h1, h2⟩ := E.val i d e
    exact ⟨v, h1, p v q (Ext.refl q) L h2⟩
  · exact p.elim
theorem gb_var (i : Nat) {x : Str} (hN : X.N[i]? = some x := by rfl) (hv : Vis X.env.scope x := by first | exact Or.inl rfl | exact Or.inr (Or.inl rfl) | exact Or.inr (Or.inr rfl)) (hd : (x == ("__debug__" : Str)) = false := by decide)
    (hc : (x == ("__classdict__" : Str)) = false := by decide) : GB X C W (.Name x pos) (eBor i) := PE.imp (pe_var (i := i) hN hv hd hc) fun σ H Q ⟨q0, q, env, s, eq, E, L, p⟩ => by
  subst eq
  unfold eBor at p
  split at p
  · rename_i d e
    obtain ⟨v, h1, h2⟩ := E.val i d e
    exact ⟨v, h1, p v q (Ext.refl q) L (.inl h2)⟩
  · rename_i ds e
    obtain ⟨a, vs, h1, h2, h3, h4, h5, h6⟩ := E.own i ds e
    exact ⟨.ref a, h1, p _ q (Ext.refl q) L (.inr ⟨a, vs, ds, rfl, rfl, h2, h4, h5⟩)⟩
  · exact p.elim
/-- a reading that gives a value at once -/
theorem ge_of_c {v : V} {d : D} (h : PE X e (tC v)) (r : ∀ q : Stt, RD X.K q d v) : GE X C W e (eC d) := PE.imp h fun σ H Q ⟨q0, q, env, s, eq, E, L, p⟩ => by
  subst eq
  exact p v q (Ext.refl q) L (r q)
theorem ge_int {i : Int} {j} : GE X C W (.Constant (.int i) j pos) (eC (.int i)) := ge_of_c pe_int fun _ => .int i
theorem ge_bl {b : Bool} {j} : GE X C W (.Constant (.bool b) j pos) (eC (.bl b)) := ge_of_c pe_bl fun _ => .bl b
theorem ge_non {j} : GE X C W (.Constant .none j pos) (eC .non) := ge_of_c pe_non fun _ => .non
theorem ge_str {x : Str} {j} (cs : List Nat) (h : x = ⟨cs.toArray⟩ := by decide +kernel) : GE X C W (.Constant (.str x) j pos) (eC (.str cs)) := ge_of_c pe_str fun _ => by subst h; exact .str cs
theorem ge_glob {x : Str} {u : Value} {v : V} (d : D) (hg : Gl X x) (hm : X.mg x = some u) (r : RelV v u) (hr : ∀ q : Stt, RD X.K q d v) (hd : (x == ("__debug__" : Str)) = false := by decide) : GE X C W (.Name x pos) (eC d) := ge_of_c (pe_glob hg hm r hd) hr

/-! ### operators -/
def SimOp (K : PySem.W.Frag) (C : Tab) (r : R2) (g : Op2) : Prop := ∀ (q : Stt) (s : Sto) (x y : D) (vx vy : V) (z : D) (Q : VK), Rel K C s q → RB K q x vx → RB K q y vy → g s x y = some z →
  (∀ v q', Ext q q' → Rel K C s q' → RD K q' z v → Q v q'.H) → r vx vy q.H Q
theorem op2_imp {K : PySem.W.Frag} {r : R2} {g : Op2} (hs : SimOp K C r g) (σ : St) (H : Hp) (Q : VK) (h : tM K C W (rD K) (eOp2 g ma mb) σ H Q) : tOp r (tM K C W (rB K) ma) (tM K C W (rB K) mb) σ H Q := by
  obtain ⟨q0, q, env, s, eq, E, L, p⟩ := h
  subst eq
  refine tM.first (f := fun x s1 => (mb env s1).bind fun y s2 => .ofO (g s2 x y) s2) E L p rD_any fun x s1 vx q1 x1 E1 L1 y1 p1 => ?_
  refine tM.first (f := fun y s2 => .ofO (g s2 x y) s2) E1 L1 p1 rD_any fun y s2 vy q2 x2 E2 L2 y2 p2 => ?_
  cases e : g s2 x y with
  | none => rw [e] at p2; exact p2.elim
  | some z => rw [e] at p2; exact hs q2 s2 x y vx vy z Q L2 (y1.ext x2) y2 e fun v q3 x3 r3 d3 => p2 v q3 x3 r3 d3
theorem ge_bin {op : Operator} {r : R2} {g : Op2} (ho : OpR X (binaryOp op) r) (hs : SimOp X.K C r g) (ha : GB X C W a ma) (hb : GB X C W b mb) : GE X C W (.BinOp a op b pos) (eOp2 g ma mb) := PE.imp (pe_op ho ha hb) (op2_imp hs)
theorem ge_cmp {op : CmpOp} {r : R2} {g : Op2} (ho : OpR X (compareOp op) r) (hs : SimOp X.K C r g) (hm : behindInMarks op b = false) (ha : GB X C W a ma) (hb : GB X C W b mb) : GE X C W (.Compare a [op] [b] pos) (eOp2 g ma mb) := PE.imp (pe_cmpR ho ha hb hm) (op2_imp hs)
theorem test_imp {K : PySem.W.Frag} {t : TE} {m : ME} (h : ∀ σ H Q, tM K C W (rD K) m σ H Q → t σ H Q) (σ : St) (H : Hp) (Q : Bool → Hp → Prop) (p : tM K C W rT (tVal m) σ H Q) : tTest t σ H Q := by
  obtain ⟨q0, q, env, s, eq, E, L, p⟩ := p
  subst eq
  refine h σ q.H _ (tM.first (f := asB) E L p rT_any fun d s1 v q1 x1 E1 L1 y1 p1 => ?_)
  cases y1 with
  | bl b => exact ⟨b, rfl, p1 b q1 (Ext.refl q1) L1 rfl⟩
  | _ => exact p1.elim
theorem gt_cmp {op : CmpOp} {r : R2} {g : Op2} (ho : OpR X (compareOp op) r) (hs : SimOp X.K C r g) (hm : behindInMarks op b = false) (ha : GB X C W a ma) (hb : GB X C W b mb) : GT X C W (.Compare a [op] [b] pos) (tVal (eOp2 g ma mb)) :=
  PT.imp (pt_cmpR ho ha hb hm) (test_imp (op2_imp hs))
theorem gt_val (h : GE X C W e m) (he : ∀ whole, isTrue e X.env whole = (do let v ← whole; standAt e.pos; holding [v] (truthy v)) := by intro _; rfl) : GT X C W e (tVal m) :=
  PT.imp (pt_val h he) (test_imp fun _ _ _ z => z)
def SimU (K : PySem.W.Frag) (C : Tab) (r : V → Hp → VK → Prop) (g : Op1) : Prop := ∀ (q : Stt) (s : Sto) (x : D) (vx : V) (z : D) (Q : VK), Rel K C s q → RB K q x vx → g s x = some z →
  (∀ v q', Ext q q' → Rel K C s q' → RD K q' z v → Q v q'.H) → r vx q.H Q
theorem op1_imp {K : PySem.W.Frag} {r : V → Hp → VK → Prop} {g : Op1} (hs : SimU K C r g) (σ : St) (H : Hp) (Q : VK) (h : tM K C W (rD K) (eOp1 g ma) σ H Q) : tM K C W (rB K) ma σ H fun x H1 => r x H1 Q := by
  obtain ⟨q0, q, env, s, eq, E, L, p⟩ := h
  subst eq
  refine tM.first (f := fun x s1 => .ofO (g s1 x) s1) E L p rD_any fun x s1 vx q1 x1 E1 L1 y1 p1 => ?_
  cases e : g s1 x with
  | none => rw [e] at p1; exact p1.elim
  | some z => rw [e] at p1; exact hs q1 s1 x vx z Q L1 y1 e fun v q3 x3 r3 d3 => p1 v q3 x3 r3 d3
theorem tM.mono {α β : Type} {K : PySem.W.Frag} {R : Stt → Stt → α → β → Prop} {m : MP.Env → Sto → Res α} {σ : St} {H : Hp} {Q Q' : β → Hp → Prop} (h : tM K C W R m σ H Q) (hq : ∀ b H', Q b H' → Q' b H') : tM K C W R m σ H Q' := by
  obtain ⟨q0, q, env, s, eq, E, L, p⟩ := h
  refine ⟨q0, q, env, s, eq, E, L, ?_⟩
  cases z : m env s with
  | ok d s' => rw [z] at p; exact fun v q' x r y => hq _ _ (p v q' x r y)
  | exc x s' => rw [z] at p; exact p
  | stk => rw [z] at p; exact p
/-- x is None -/
theorem ge_isN {j p'} (ha : GE X C W a ma) : GE X C W (.Compare a [.Is] [.Constant .none j p'] pos) (eOp1 opIsN ma) := PE.imp (pe_cmp (pc_isN ha) rfl) fun σ H Q ⟨q0, q, env, s, eq, E, L, p⟩ => by
  subst eq
  refine tM.first (f := fun x s1 => .ofO (opIsN s1 x) s1) E L p rD_any fun x s1 vx q1 x1 E1 L1 y1 p1 => ?_
  have e : decide (vx = .non) = isNon x := by cases y1 <;> first | rfl | simp [isNon]
  rw [e]
  exact p1 _ q1 (Ext.refl q1) L1 (.bl _)
theorem ge_notN {j p'} (ha : GE X C W a ma) : GE X C W (.Compare a [.IsNot] [.Constant .none j p'] pos) (eOp1 opNotN ma) := PE.imp (pe_cmp (pc_notN ha) rfl) fun σ H Q ⟨q0, q, env, s, eq, E, L, p⟩ => by
  subst eq
  refine tM.first (f := fun x s1 => .ofO (opNotN s1 x) s1) E L p rD_any fun x s1 vx q1 x1 E1 L1 y1 p1 => ?_
  have e : (!decide (vx = .non)) = !isNon x := by cases y1 <;> first | rfl | simp [isNon]
  rw [e]
  exact p1 _ q1 (Ext.refl q1) L1 (.bl _)
theorem gt_isN {j p'} (ha : GE X C W a ma) : GT X C W (.Compare a [.Is] [.Constant .none j p'] pos) (tVal (eOp1 opIsN ma)) := PT.imp (pt_cmp (pc_isN ha) rfl) fun σ H Q ⟨q0, q, env, s, eq, E, L, p⟩ => by
  subst eq
  unfold tVal eOp1 at p
  cases z : ma env s with
  | ok x s1 =>
    rw [z] at p
    refine ⟨q0, q, env, s, rfl, E, L, ?_⟩
    rw [z]
    intro vx q1 x1 L1 y1
    have e : decide (vx = .non) = isNon x := by cases y1 <;> first | rfl | simp [isNon]
    exact ⟨_, rfl, by rw [e]; exact p _ q1 x1 L1 rfl⟩
  | exc x s1 => rw [z] at p; exact ⟨q0, q, env, s, rfl, E, L, by rw [z]; exact p⟩
  | stk => rw [z] at p; exact p.elim
theorem gt_notN {j p'} (ha : GE X C W a ma) : GT X C W (.Compare a [.IsNot] [.Constant .none j p'] pos) (tVal (eOp1 opNotN ma)) := PT.imp (pt_cmp (pc_notN ha) rfl) fun σ H Q ⟨q0, q, env, s, eq, E, L, p⟩ => by
  subst eq
  unfold tVal eOp1 at p
  cases z : ma env s with
  | ok x s1 =>
    rw [z] at p
    refine ⟨q0, q, env, s, rfl, E, L, ?_⟩
    rw [z]
    intro vx q1 x1 L1 y1
    have e : (!decide (vx = .non)) = !isNon x := by cases y1 <;> first | rfl | simp [isNon]
    exact ⟨_, rfl, by rw [e]; exact p _ q1 x1 L1 rfl⟩
  | exc x s1 => rw [z] at p; exact ⟨q0, q, env, s, rfl, E, L, by rw [z]; exact p⟩
  | stk => rw [z] at p; exact p.elim

/-! ### arguments, displays -/
theorem ga_nil : GA X C W [] aNil := PA.imp pa_nil fun σ H Q ⟨q0, q, env, s, eq, E, L, p⟩ => by
  subst eq
  exact p [] q (Ext.refl q) L .nil
theorem ga_cons {mr : MA} (ha : GE X C W e ma) (hr : GA X C W es mr) (hs : starEach (e :: es) X.env = (false, eval e X.env) :: starEach es X.env := by rfl) : GA X C W (e :: es) (aCons ma mr) := PA.imp (pa_cons ha hr hs) fun σ H Q ⟨q0, q, env, s, eq, E, L, p⟩ => by
  subst eq
  refine tM.first (f := fun x s1 => (mr env s1).bind fun xs s2 => .ok (x :: xs) s2) E L p rA_any fun x s1 vx q1 x1 E1 L1 y1 p1 => ?_
  refine tM.first (f := fun xs s2 => .ok (x :: xs) s2) E1 L1 p1 rA_any fun xs s2 vs q2 x2 E2 L2 y2 p2 => ?_
  exact p2 _ q2 (Ext.refl q2) L2 (.cons (RD.mono x2.kp x y1) y2)
theorem lenS {n : Nat} (h : n ≤ cap) : n ≤ sizeLine := by
  have : cap ≤ sizeLine := by rw [sizeLine_eq]; decide
  omega
theorem ge_tup {x1} {l : MA} (h : GA X C W es l) : GE X C W (.Tuple es x1 pos) (eTup l) := PE.imp (pe_tup h) fun σ H Q ⟨q0, q, env, s, eq, E, L, p⟩ => by
  subst eq
  refine tM.first (f := fun ds s1 => if ds.length ≤ 1000 then .ok (.tup ds) s1 else .stk) E L p rD_any fun ds s1 vs q1 x1 E1 L1 y1 p1 => ?_
  by_cases hl : ds.length ≤ 1000
  · rw [if_pos hl] at p1
    refine ⟨lenS (by rw [y1.length]; unfold cap; omega), fun a ha => ?_⟩
    have x2 := Ext.new1 (o := .tup vs) L1.wf ha
    exact p1 _ _ x2 (L1.new1 ha) (.tup (.inl ⟨upd_same, L1.wf.no ha⟩) (RDs.mono x2.kp ds y1))
  · rw [if_neg hl] at p1; exact p1.elim
/-- a new list, protected -/
theorem Ext.newL {q : Stt} (w : WF q) {p : Addr} {o : HO} (h : q.H p = none) : Ext q ⟨upd q.H p o, fun a => q.L a ∨ a = p, q.r⟩ :=
  ⟨fun a u e _ _ => by show upd q.H p o a = _; rw [upd_ne (ne_of_none e h)]; exact e, fun _ x => .inl x,
   fun a u e n _ => ⟨by show upd q.H p o a = _; rw [upd_ne (ne_of_none e h)]; exact e, fun z => z.elim n (ne_of_none e h)⟩, ⟨[], by simp⟩, fun _ x => .inl x, fun a u e t => ⟨u, by show upd q.H p o a = _; rw [upd_ne (ne_of_none e h)]; exact e, t⟩⟩
theorem Rel.newL {K : PySem.W.Frag} {q : Stt} {s : Sto} (R : Rel K C s q) {p : Addr} {o : HO} (h : q.H p = none) (nt : NT o := by exact fun _ z => nomatch z) : Rel K C s ⟨upd q.H p o, fun a => q.L a ∨ a = p, q.r⟩ :=
  ⟨⟨R.wf.nd, fun a z => .inl (R.wf.live a z), fun a l => by
    rcases l with l | rfl
    · obtain ⟨u, e, t⟩ := R.wf.trk a l
      exact ⟨u, by show upd q.H p o a = _; rw [upd_ne (ne_of_none e h)]; exact e, t⟩
    · exact ⟨o, upd_same, nt⟩⟩, R.len, fun n ob a e f => by
    have x := R.obs n ob a e f
    obtain ⟨u, hu⟩ := x.there
    exact x.mono (Ext.newL R.wf h).kp (by show upd q.H p o a = _; rw [upd_ne (ne_of_none hu h)]), R.tb.new h nt⟩
theorem RN.newL {K : PySem.W.Frag} {q q1 : Stt} {s : Sto} {ds : List D} {vs : List V} {p : Addr} (w : WF q) (x : Ext q q1) (L1 : Rel K C s q1) (h : q1.H p = none) (r : RDs K q1 ds vs) : RN K q ⟨upd q1.H p (.lst vs), fun a => q1.L a ∨ a = p, q1.r⟩ ds (.ref p) :=
  ⟨p, vs, rfl, x.free w h fun z => by
    obtain ⟨t, e⟩ := x.pre
    exact L1.wf.nor h (by rw [e]; exact List.mem_append_left _ z), upd_same, .inr rfl, L1.wf.nor h, RDs.mono (Ext.newL L1.wf h).kp ds r⟩
theorem gl_lst {l : MA} (h : GA X C W es l) : GL X C W (.List es pos) (lLst l) := PE.imp (pe_lst h) fun σ H Q ⟨q0, q, env, s, eq, E, L, p⟩ => by
  subst eq
  refine tM.first0 (f := fun ds s1 => if ds.length ≤ 1000 then .ok ds s1 else .stk) E L p fun ds s1 vs q1 x1 L1 y1 p1 => ?_
  by_cases hl : ds.length ≤ 1000
  · rw [if_pos hl] at p1
    refine ⟨lenS (by rw [y1.length]; unfold cap; omega), fun a ha => ?_⟩
    exact p1 _ _ (x1.trans (Ext.newL L1.wf ha)) (L1.newL ha) (RN.newL L.wf x1 L1 ha y1)
  · rw [if_neg hl] at p1; exact p1.elim

/-! ### and, or, not, if -/
theorem gt_not {mt : MT} (h : GT X C W a mt) : GT X C W (.UnaryOp .Not a pos) (tNot mt) := PT.imp (pt_not h) fun σ H Q ⟨q0, q, env, s, eq, E, L, p⟩ => by
  subst eq
  refine tM.first (f := fun b s1 => .ok (!b) s1) E L p rT_any fun b s1 c q1 x1 E1 L1 y1 p1 => ?_
  cases y1
  exact p1 _ q1 (Ext.refl q1) L1 rfl
theorem gw_and1 {mt : MT} (h : GT X C W a mt) : GW X C W (.BoolOp .And [a] pos) mt := pw_and1 h
theorem gw_or1 {mt : MT} (h : GT X C W a mt) : GW X C W (.BoolOp .Or [a] pos) mt := pw_or1 h
theorem gw_and {mt mu : MT} (ha : GT X C W a mt) (hb : GW X C W (.BoolOp .And (b :: es) pos) mu) : GW X C W (.BoolOp .And (a :: b :: es) pos) (tAnd mt mu) := PW.imp (pw_and ha hb) fun σ H Q ⟨q0, q, env, s, eq, E, L, p⟩ => by
  subst eq
  refine tM.first (f := fun b s1 => if b then mu env s1 else .ok false s1) E L p rT_any fun b s1 c q1 x1 E1 L1 y1 p1 => ?_
  cases y1
  cases b with
  | true => exact iteT (tM.same E1 L1 p1)
  | false => exact iteF (p1 _ q1 (Ext.refl q1) L1 rfl)
theorem gw_or {mt mu : MT} (ha : GT X C W a mt) (hb : GW X C W (.BoolOp .Or (b :: es) pos) mu) : GW X C W (.BoolOp .Or (a :: b :: es) pos) (tOr mt mu) := PW.imp (pw_or ha hb) fun σ H Q ⟨q0, q, env, s, eq, E, L, p⟩ => by
  subst eq
  refine tM.first (f := fun b s1 => if b then .ok true s1 else mu env s1) E L p rT_any fun b s1 c q1 x1 E1 L1 y1 p1 => ?_
  cases y1
  cases b with
  | true => exact iteT (p1 _ q1 (Ext.refl q1) L1 rfl)
  | false => exact iteF (tM.same E1 L1 p1)
theorem gt_w {mt : MT} (h : GW X C W e mt) : GT X C W e mt := h.pt
theorem ge_one {op} (h : GE X C W a ma) : GE X C W (.BoolOp op [a] pos) ma := pe_one h
theorem ge_and (ha : GE X C W a ma) (hb : GE X C W (.BoolOp .And (b :: es) pos) mb) : GE X C W (.BoolOp .And (a :: b :: es) pos) (eAnd ma mb) := PE.imp (pe_and ha hb) fun σ H Q ⟨q0, q, env, s, eq, E, L, p⟩ => by
  subst eq
  unfold eAnd at p
  cases z : ma env s with
  | stk => rw [z] at p; exact p.elim
  | exc x s1 => rw [z] at p; exact ⟨q0, q, env, s, rfl, E, L, by rw [z]; exact p⟩
  | ok d s1 =>
    refine ⟨q0, q, env, s, rfl, E, L, ?_⟩
    rw [z] at p ⊢
    intro v q1 x1 L1 y1
    cases y1 with
    | bl c =>
      refine ⟨c, rfl, ?_⟩
      cases c with
      | true =>
        refine iteT ⟨q0, q1, env, s1, rfl, E.ext x1, L1, ?_⟩
        exact Post.later x1 p fun _ _ _ _ w => w
      | false => exact iteF (p _ q1 x1 L1 (.bl false))
    | _ => exact p.elim
theorem ge_or (ha : GE X C W a ma) (hb : GE X C W (.BoolOp .Or (b :: es) pos) mb) : GE X C W (.BoolOp .Or (a :: b :: es) pos) (eOr ma mb) := PE.imp (pe_or ha hb) fun σ H Q ⟨q0, q, env, s, eq, E, L, p⟩ => by
  subst eq
  unfold eOr at p
  cases z : ma env s with
  | stk => rw [z] at p; exact p.elim
  | exc x s1 => rw [z] at p; exact ⟨q0, q, env, s, rfl, E, L, by rw [z]; exact p⟩
  | ok d s1 =>
    refine ⟨q0, q, env, s, rfl, E, L, ?_⟩
    rw [z] at p ⊢
    intro v q1 x1 L1 y1
    cases y1 with
    | bl c =>
      refine ⟨c, rfl, ?_⟩
      cases c with
      | false =>
        refine iteF ⟨q0, q1, env, s1, rfl, E.ext x1, L1, ?_⟩
        exact Post.later x1 p fun _ _ _ _ w => w
      | true => exact iteT (p _ q1 x1 L1 (.bl true))
    | _ => exact p.elim
theorem ge_not (ha : GE X C W a ma) : GE X C W (.UnaryOp .Not a pos) (eNot ma) := PE.imp (pe_not ha) fun σ H Q ⟨q0, q, env, s, eq, E, L, p⟩ => by
  subst eq
  unfold eNot at p
  cases z : ma env s with
  | stk => rw [z] at p; exact p.elim
  | exc x s1 => rw [z] at p; exact ⟨q0, q, env, s, rfl, E, L, by rw [z]; exact p⟩
  | ok d s1 =>
    refine ⟨q0, q, env, s, rfl, E, L, ?_⟩
    rw [z] at p ⊢
    intro v q1 x1 L1 y1
    cases y1 with
    | bl c => exact ⟨c, rfl, p _ q1 x1 L1 (.bl _)⟩
    | _ => exact p.elim
theorem ge_if {mt : MT} (hc : GT X C W c mt) (ha : GE X C W a ma) (hb : GE X C W b mb) : GE X C W (.IfExp c a b pos) (eIf mt ma mb) := PE.imp (pe_ifExp hc ha hb) fun σ H Q ⟨q0, q, env, s, eq, E, L, p⟩ => by
  subst eq
  refine tM.first (f := fun c s1 => if c then ma env s1 else mb env s1) E L p rD_any fun b s1 c q1 x1 E1 L1 y1 p1 => ?_
  cases y1
  cases b with
  | true => exact iteT (tM.same E1 L1 p1)
  | false => exact iteF (tM.same E1 L1 p1)
end
end MP

/-! Operators by values: each rule of the layer and the function beside it. Own text. -/
namespace MP
open PySem L2
variable {C : Tab}

/-! ### data as the model's data -/
mutual
def toP : D → PyData
  | .non => .none
  | .bl b => .bool b
  | .int i => .int i
  | .str cs => .str ⟨cs.toArray⟩
  | .tup ds => .tuple (toPs ds)
  | .lst ds => .list (toPs ds)
  | .ref _ => .none
  | .scr _ => .none
def toPs : List D → List PyData
  | [] => []
  | d :: ds => toP d :: toPs ds
end
mutual
theorem RD.dp {K : PySem.W.Frag} {q : Stt} : ∀ (n : Nat) (d : D) {v : V}, RD K q d v → d.fit n = true → Dp K q.H v (toP d)
  | _, .non, _, h, _ => by cases h; exact .non
  | _, .bl b, _, h, _ => by cases h; exact .bl b
  | _, .int b, _, h, _ => by cases h; exact .int b
  | _, .str b, _, h, _ => by cases h; exact .str _
  | n + 1, .tup ds, _, h, f => by
    cases h with
    | tup g r => exact .tup g.sq (RDs.dp n ds r (by simpa [D.fit] using f))
  | n + 1, .lst ds, _, h, f => by
    cases h with
    | lst g r => exact .lst (SqL.of g.1) (RDs.dp n ds r (by simpa [D.fit] using f))
  | 0, .tup ds, _, h, f => by simp [D.fit] at f
  | 0, .lst ds, _, h, f => by simp [D.fit] at f
  | 0, .ref n, _, h, f => by simp [D.fit] at f
  | _ + 1, .ref n, _, h, f => by simp [D.fit] at f
  | 0, .scr n, _, h, f => by simp [D.fit] at f
  | _ + 1, .scr n, _, h, f => by simp [D.fit] at f
theorem RDs.dp {K : PySem.W.Frag} {q : Stt} : ∀ (n : Nat) (ds : List D) {vs : List V}, RDs K q ds vs → D.fits n ds = true → DpAll K q.H vs (toPs ds)
  | _, [], _, h, _ => by cases h; exact .nil
  | n, d :: ds, _, h, f => by
    simp only [D.fits, Bool.and_eq_true] at f
    cases h with
    | cons a b => exact .cons (RD.dp n d a f.1) (RDs.dp n ds b f.2)
end
mutual
theorem eqv_toP : ∀ (n m : Nat) (a b : D), a.fit n = true → b.fit m = true → PyData.eqv (toP a) (toP b) = a.eqv b
  | n, m, .non, b, _, g => by cases b <;> simp [toP, D.eqv, PyData.eqv]; all_goals (cases m <;> simp [D.fit] at g)
  | n, m, .bl x, b, _, g => by cases b <;> simp [toP, D.eqv, PyData.eqv]
  | n, m, .int x, b, _, g => by cases b <;> simp [toP, D.eqv, PyData.eqv]
  | n, m, .str x, b, _, g => by
    cases b <;> simp only [toP, D.eqv, PyData.eqv]
    rw [Bool.beq_eq_decide_eq]
    simp
  | n, m, .tup xs, b, f, g => by
    cases n with
    | zero => simp [D.fit] at f
    | succ n =>
      cases b with
      | tup ys =>
        cases m with
        | zero => simp [D.fit] at g
        | succ m =>
          simp only [toP, D.eqv, PyData.eqv]
          exact eqvs_toP n m xs ys (by simpa [D.fit] using f) (by simpa [D.fit] using g)
      | _ => simp [toP, D.eqv, PyData.eqv]
  | n, m, .lst xs, b, f, g => by
    cases n with
    | zero => simp [D.fit] at f
    | succ n =>
      cases b with
      | lst ys =>
        cases m with
        | zero => simp [D.fit] at g
        | succ m =>
          simp only [toP, D.eqv, PyData.eqv]
          exact eqvs_toP n m xs ys (by simpa [D.fit] using f) (by simpa [D.fit] using g)
      | _ => simp [toP, D.eqv, PyData.eqv]
  | n, m, .ref _, b, f, g => by cases n <;> simp [D.fit] at f
  | n, m, .scr _, b, f, g => by cases n <;> simp [D.fit] at f
theorem eqvs_toP : ∀ (n m : Nat) (a b : List D), D.fits n a = true → D.fits m b = true → PyData.eqvAll (toPs a) (toPs b) = D.eqvs a b
  | n, m, [], [], _, _ => by simp [toPs, D.eqvs, PyData.eqvAll]
  | n, m, [], _ :: _, _, _ => by simp [toPs, D.eqvs, PyData.eqvAll]
  | n, m, _ :: _, [], _, _ => by simp [toPs, D.eqvs, PyData.eqvAll]
  | n, m, x :: xs, y :: ys, f, g => by
    simp only [D.fits, Bool.and_eq_true] at f g
    simp only [toPs, D.eqvs, PyData.eqvAll]
    rw [eqv_toP n m x y f.1 g.1, eqvs_toP n m xs ys f.2 g.2]
end
mutual
theorem lay_toP : ∀ (n : Nat) (d : D), d.fit n = true → (toP d).canLay0 = true ∧ (toP d).depth ≤ n + 1
  | n, .non, _ => by simp [toP, PyData.canLay0, PyData.depth]
  | n, .bl _, _ => by simp [toP, PyData.canLay0, PyData.depth]
  | n, .int _, _ => by simp [toP, PyData.canLay0, PyData.depth]
  | n, .str cs, f => by
    refine ⟨?_, by simp [toP, PyData.depth]⟩
    have f' : (cs.all fun c => decide (c < 1114112)) = true := by cases n <;> simpa [D.fit] using f
    simpa [toP, PyData.canLay0, PyData.strOk] using f'
  | n + 1, .tup ds, f => by
    obtain ⟨a, b⟩ := lay_toPs n ds (by simpa [D.fit] using f)
    exact ⟨by simpa [toP, PyData.canLay0] using a, by simp only [toP, PyData.depth]; omega⟩
  | n + 1, .lst ds, f => by
    obtain ⟨a, b⟩ := lay_toPs n ds (by simpa [D.fit] using f)
    exact ⟨by simpa [toP, PyData.canLay0] using a, by simp only [toP, PyData.depth]; omega⟩
  | 0, .tup ds, f => by simp [D.fit] at f
  | 0, .lst ds, f => by simp [D.fit] at f
  | n, .ref _, f => by cases n <;> simp [D.fit] at f
  | n, .scr _, f => by cases n <;> simp [D.fit] at f
theorem lay_toPs : ∀ (n : Nat) (ds : List D), D.fits n ds = true → PyData.canLayAll0 (toPs ds) = true ∧ PyData.depthAll (toPs ds) ≤ n + 1
  | n, [], _ => by simp [toPs, PyData.canLayAll0, PyData.depthAll]
  | n, d :: ds, f => by
    simp only [D.fits, Bool.and_eq_true] at f
    obtain ⟨a, b⟩ := lay_toP n d f.1
    obtain ⟨a', b'⟩ := lay_toPs n ds f.2
    exact ⟨by simp only [toPs, PyData.canLayAll0, a, a', Bool.and_self], by simp only [toPs, PyData.depthAll]; omega⟩
end
theorem shaped_toP {d : D} (f : d.fit 60 = true) : SeqAt.shaped (toP d) = true := by
  obtain ⟨a, b⟩ := lay_toP 60 d f
  unfold SeqAt.shaped
  rw [a, decide_eq_true (by omega)]
  rfl

/-! ### what is readable -/
theorem RB.flat {K : PySem.W.Frag} {q : Stt} {d : D} {v : V} (h : RB K q d v) (f : isFlat d = true) : RD K q d v := by
  rcases h with h | ⟨a, vs, ds, rfl, rfl, _⟩
  · exact h
  · simp [isFlat] at f
theorem RB.nl {K : PySem.W.Frag} {q : Stt} {d : D} {v : V} (h : RB K q d v) (f : ∀ ds, d ≠ .lst ds) : RD K q d v := by
  rcases h with h | ⟨a, vs, ds, rfl, rfl, _⟩
  · exact h
  · exact absurd rfl (f ds)
theorem RB.lst {K : PySem.W.Frag} {q : Stt} {ds : List D} {v : V} (h : RB K q (.lst ds) v) : ∃ a vs, v = .ref a ∧ q.H a = some (.lst vs) ∧ RDs K q ds vs := by
  rcases h with h | ⟨a, vs, ds', e, rfl, h1, _, h3⟩
  · cases h with | lst g r => exact ⟨_, _, rfl, g.1, r⟩
  · injection e with e; subst e; exact ⟨a, vs, rfl, h1, h3⟩
/-- a list or tuple by its items -/
theorem RB.seq {K : PySem.W.Frag} {q : Stt} {s : Sto} {d : D} {v : V} {ds : List D} (R : Rel K C s q) (h : RB K q d v) (f : seqOf s d = some ds) : ∃ a vs, v = .ref a ∧ (q.H a = some (.lst vs) ∨ SqT K q.H a vs) ∧ RDs K q ds vs := by
  cases d with
  | tup es =>
    simp only [seqOf, Option.some.injEq] at f
    subst f
    cases h.nl (by intro _ z; cases z) with | tup g r => exact ⟨_, _, rfl, .inr g.sq, r⟩
  | lst es =>
    simp only [seqOf, Option.some.injEq] at f
    subst f
    obtain ⟨a, vs, e, g, r⟩ := h.lst
    exact ⟨a, vs, e, .inl g, r⟩
  | ref n =>
    simp only [seqOf] at f
    split at f
    · rename_i es e
      simp only [Option.some.injEq] at f
      subst f
      cases h.nl (by intro _ z; cases z) with
      | ref g =>
        obtain ⟨vs, h1, h2⟩ := R.obs n _ _ e g
        exact ⟨_, _, rfl, .inl h1, h2⟩
    · cases f
  | _ => simp [seqOf] at f
/-- a list, placed or not -/
theorem RB.seqL {K : PySem.W.Frag} {q : Stt} {s : Sto} {d : D} {v : V} {ds : List D} (R : Rel K C s q) (h : RB K q d v) (f : seqOf s d = some ds) (nt : ∀ es, d ≠ .tup es) : ∃ a vs, v = .ref a ∧ q.H a = some (.lst vs) ∧ RDs K q ds vs := by
  cases d with
  | tup es => exact absurd rfl (nt es)
  | lst es =>
    simp only [seqOf, Option.some.injEq] at f
    subst f
    exact h.lst
  | ref n =>
    simp only [seqOf] at f
    split at f
    · rename_i es e
      simp only [Option.some.injEq] at f
      subst f
      cases h.nl (by intro _ z; cases z) with
      | ref g =>
        obtain ⟨vs, h1, h2⟩ := R.obs n _ _ e g
        exact ⟨_, _, rfl, h1, h2⟩
    · cases f
  | _ => simp [seqOf] at f
theorem sqOr {K : PySem.W.Frag} {H : Hp} {a : Addr} {vs : List V} (h : H a = some (.lst vs) ∨ SqT K H a vs) : SqL K H a vs ∨ SqT K H a vs := h.imp SqL.of id
/-- a list that is placed, as what it is -/
theorem RB.view {K : PySem.W.Frag} {q : Stt} {s : Sto} {d : D} {v : V} (R : Rel K C s q) (h : RB K q d v) : (∃ ds a vs, view s d = .lst ds ∧ v = .ref a ∧ q.H a = some (.lst vs) ∧ RDs K q ds vs) ∨ (view s d = d ∧ RD K q d v ∧ ∀ ds, d ≠ .lst ds) := by
  cases d with
  | lst ds =>
    obtain ⟨a, vs, e, g, r⟩ := h.lst
    exact .inl ⟨ds, a, vs, rfl, e, g, r⟩
  | ref n =>
    have h' := h.nl (by intro _ z; cases z)
    unfold MP.view
    simp only
    split
    · rename_i ds e
      cases h' with
      | ref g =>
        obtain ⟨vs, h1, h2⟩ := R.obs n _ _ e g
        exact .inl ⟨ds, _, vs, rfl, rfl, h1, h2⟩
    · exact .inr ⟨rfl, h', by intro _ z; cases z⟩
  | _ => exact .inr ⟨rfl, h.nl (by intro _ z; cases z), by intro _ z; cases z⟩
theorem RB.dp {K : PySem.W.Frag} {q : Stt} {s : Sto} {d : D} {v : V} (R : Rel K C s q) (h : RB K q d v) (f : (MP.view s d).fit 60 = true) : Dp K q.H v (toP (MP.view s d)) := by
  rcases h.view R with ⟨ds, a, vs, e, rfl, g, r⟩ | ⟨e, r, _⟩
  · rw [e] at f ⊢
    exact .lst (SqL.of g) (RDs.dp 59 ds r (by simpa [D.fit] using f))
  · rw [e] at f ⊢
    exact RD.dp 60 d r f

/-! ### numbers -/
theorem simI {K : PySem.W.Frag} {P : Int → Int → Prop} {f : Int → Int → V} {g : Op2} (h : ∀ s x y z, g s x y = some z → ∃ i j, x = .int i ∧ y = .int j ∧ P i j ∧ ∀ q : Stt, RD K q z (f i j)) : SimOp K C (rI P f) g := by
  intro q s x y vx vy z Q R bx bY e k
  obtain ⟨i, j, rfl, rfl, p, r⟩ := h s x y z e
  cases bx.flat rfl
  cases bY.flat rfl
  exact ⟨i, j, rfl, rfl, p, k _ q (Ext.refl q) R (r q)⟩
theorem simI0 {K : PySem.W.Frag} {f : Int → Int → V} {g : Op2} (h : ∀ s x y z, g s x y = some z → ∃ i j, x = .int i ∧ y = .int j ∧ ∀ q : Stt, RD K q z (f i j)) : SimOp K C (rI0 f) g := by
  intro q s x y vx vy z Q R bx bY e k
  obtain ⟨i, j, rfl, rfl, r⟩ := h s x y z e
  cases bx.flat rfl
  cases bY.flat rfl
  exact ⟨i, j, rfl, rfl, k _ q (Ext.refl q) R (r q)⟩
theorem simSub {K : PySem.W.Frag} : SimOp K C (rI0 fun i j => .int (i - j)) opSub := simI0 fun s x y z e => by
  unfold opSub at e
  split at e
  · cases e; exact ⟨_, _, rfl, rfl, fun _ => .int _⟩
  · cases e
theorem smallI_iff {i : Int} (h : smallI i = true) : -(2 ^ 64) < i ∧ i < 2 ^ 64 := by
  unfold smallI at h
  simpa using h
theorem simMul {K : PySem.W.Frag} : SimOp K C (rI CMul fun i j => .int (i * j)) opMul := simI fun s x y z e => by
  unfold opMul at e
  split at e
  · split at e
    · rename_i hc
      cases e
      refine ⟨_, _, rfl, rfl, ?_, fun _ => .int _⟩
      rw [Bool.or_eq_true] at hc
      exact hc.imp smallI_iff smallI_iff
    · cases e
  · cases e
theorem simDiv {K : PySem.W.Frag} : SimOp K C (rI CDiv fun i j => .int (i / j)) opDiv := simI fun s x y z e => by
  unfold opDiv at e
  split at e
  · split at e
    · rename_i hc
      cases e
      exact ⟨_, _, rfl, rfl, hc, fun _ => .int _⟩
    · cases e
  · cases e
theorem simMod {K : PySem.W.Frag} : SimOp K C (rI (fun _ j => 0 < j) fun i j => .int (i % j)) opMod := simI fun s x y z e => by
  unfold opMod at e
  split at e
  · split at e
    · rename_i hc
      cases e
      exact ⟨_, _, rfl, rfl, hc, fun _ => .int _⟩
    · cases e
  · cases e
theorem simPow {K : PySem.W.Frag} : SimOp K C (rI CPow fun i j => .int (i ^ j.toNat)) opPow := simI fun s x y z e => by
  unfold opPow at e
  split at e
  · split at e
    · rename_i hc
      cases e
      exact ⟨_, _, rfl, rfl, ⟨hc.1, by omega, hc.2.2⟩, fun _ => .int _⟩
    · cases e
  · cases e
theorem simCmp {K : PySem.W.Frag} (p : Int → Int → Bool) : SimOp K C (rI0 fun i j => .bl (p i j)) (opCmp p) := simI0 fun s x y z e => by
  unfold opCmp at e
  split at e
  · cases e; exact ⟨_, _, rfl, rfl, fun _ => .bl _⟩
  · cases e

/-! ### sums -/
def rAddA (K : PySem.W.Frag) : R2 := fun x y H Q => (rI0 fun i j => .int (i + j)) x y H Q ∨ (∃ i j, x = .str i ∧ y = .str j ∧ i.length + j.length ≤ sizeLine ∧ Q (.str (i ++ j)) H) ∨ rCatA K x y H Q
theorem op_addA {X : Cx} : OpR X (binaryOp .Add) (rAddA X.K) := op_add.or (op_add_str.or op_catA)
theorem simAdd {K : PySem.W.Frag} : SimOp K C (rAddA K) opAdd := by
  intro q s x y vx vy z Q R bx bY e k
  unfold opAdd at e
  split at e
  · cases e
    cases bx.flat rfl
    cases bY.flat rfl
    exact .inl ⟨_, _, rfl, rfl, k _ q (Ext.refl q) R (.int _)⟩
  · rename_i a b
    split at e
    · rename_i hl
      cases e
      cases bx.flat rfl
      cases bY.flat rfl
      refine .inr (.inl ⟨_, _, rfl, rfl, ?_, ?_⟩)
      · exact lenS (by simpa [Str.length] using hl)
      · refine k _ q (Ext.refl q) R ?_
        have : (⟨a.toArray⟩ ++ ⟨b.toArray⟩ : Str) = ⟨(a ++ b).toArray⟩ := by
          show Str.append _ _ = _
          unfold Str.append
          simp
        rw [this]
        exact .str _
    · cases e
  · rename_i a b
    split at e
    · rename_i hl
      cases e
      cases bx.nl (by intro _ z; cases z) with
      | @tup a1 v1 _ gx rx =>
        cases bY.nl (by intro _ z; cases z) with
        | @tup a2 v2 _ gy ry =>
          refine .inr (.inr ⟨_, _, _, _, rfl, rfl, gx.sq, gy.sq, lenS (by rw [rx.length, ry.length]; exact hl), fun h0 => ?_, fun _ h0 => ?_, fun _ _ p hp => ?_⟩)
          · subst h0
            have : a = [] := by have := rx.length; simpa using this.symm
            subst this
            exact k _ q (Ext.refl q) R (.tup gy ry)
          · subst h0
            have : b = [] := by have := ry.length; simpa using this.symm
            subst this
            rw [List.append_nil] at k
            exact k _ q (Ext.refl q) R (.tup gx rx)
          · have x2 := Ext.new1 (o := .tup (v1 ++ v2)) R.wf hp
            exact k _ _ x2 (R.new1 hp) (.tup (.inl ⟨upd_same, R.wf.no hp⟩) (RDs.mono x2.kp _ (rx.append ry)))
    · cases e
  · cases e

/-! ### equality -/
/-- lists, one of them empty -/
def rLenE (K : PySem.W.Frag) (neg : Bool) : R2 := fun x y H Q => ∃ a b xs ys, x = .ref a ∧ y = .ref b ∧ H a = some (.lst xs) ∧ H b = some (.lst ys) ∧ xs.length ≠ ys.length ∧ Q (.bl neg) H
theorem vals_size {xs : List V} {its : List Value} (r : Vals xs its) : its.toArray.size = xs.length := by rw [List.size_toArray]; exact r.length.symm
theorem op_eqLen {X : Cx} (hu : X.A.units + 64 < cLine) : OpR X (compareOp .Eq) (rLenE X.K false) := by
  intro pins s σ H x y v u Q I rx ry h; obtain ⟨a, b, xs, ys, rfl, rfl, ha, hb, hn, q⟩ := h
  cases rx
  cases ry
  obtain ⟨its, r, p, _⟩ := I.list (SqL.of ha)
  obtain ⟨its2, r2, p2, _⟩ := I.list (SqL.of hb)
  refine SeqAt.eq_list_lengthsAt p.isList p2.isList ?_ (by omega) ⟨.bl false, H, I, rfl, q⟩
  rw [vals_size r, vals_size r2]
  simpa using hn
theorem op_neLen {X : Cx} (hu : X.A.units + 64 < cLine) : OpR X (compareOp .NotEq) (rLenE X.K true) := by
  intro pins s σ H x y v u Q I rx ry h; obtain ⟨a, b, xs, ys, rfl, rfl, ha, hb, hn, q⟩ := h
  cases rx
  cases ry
  obtain ⟨its, r, p, _⟩ := I.list (SqL.of ha)
  obtain ⟨its2, r2, p2, _⟩ := I.list (SqL.of hb)
  refine SeqAt.RcNeAt.lists_lengths p.isList p2.isList ?_ (by omega) X.prog X.w X.xe _ ⟨.bl true, H, I, rfl, q⟩
  rw [vals_size r, vals_size r2]
  simpa using hn
def rEqA (K : PySem.W.Frag) : R2 := fun x y H Q => rLenE K false x y H Q ∨ rEqD K x y H Q
def rNeA (K : PySem.W.Frag) : R2 := fun x y H Q => rLenE K true x y H Q ∨ rNeD K x y H Q
theorem op_eqA {X : Cx} (hu : X.A.units + 64 < cLine) : OpR X (compareOp .Eq) (rEqA X.K) := (op_eqLen hu).or (op_eqD hu)
theorem op_neA {X : Cx} (hu : X.A.units + 64 < cLine) : OpR X (compareOp .NotEq) (rNeA X.K) := (op_neLen hu).or (op_neD hu)
theorem eqD_cases {a b : D} {k : Bool} (h : eqD a b = some k) : (∃ ds es, a = .lst ds ∧ b = .lst es ∧ ds.length ≠ es.length ∧ k = false) ∨ (a = .lst [] ∧ b = .lst [] ∧ k = true) ∨ (a.fit 60 = true ∧ b.fit 60 = true ∧ k = a.eqv b) := by
  unfold eqD at h
  split at h
  · cases h; exact .inr (.inl ⟨rfl, rfl, rfl⟩)
  · cases h; exact .inl ⟨_, _, rfl, rfl, by simp, rfl⟩
  · cases h; exact .inl ⟨_, _, rfl, rfl, by simp, rfl⟩
  · split at h
    · rename_i hf
      cases h
      rw [Bool.and_eq_true] at hf
      exact .inr (.inr ⟨hf.1, hf.2, rfl⟩)
    · cases h
theorem eq_core {K : PySem.W.Frag} {q : Stt} {s : Sto} {x y : D} {vx vy : V} {k : Bool} (R : Rel K C s q) (bx : RB K q x vx) (bY : RB K q y vy) (e : eqD (view s x) (view s y) = some k) :
    (k = false ∧ ∃ a b xs ys, vx = .ref a ∧ vy = .ref b ∧ q.H a = some (.lst xs) ∧ q.H b = some (.lst ys) ∧ xs.length ≠ ys.length) ∨
      ∃ d e, Dp K q.H vx d ∧ Dp K q.H vy e ∧ SeqAt.shaped d = true ∧ SeqAt.shaped e = true ∧ PyData.eqv d e = k := by
  have lists : ∀ ds es, view s x = .lst ds → view s y = .lst es → ∃ a b xs ys, vx = .ref a ∧ vy = .ref b ∧ q.H a = some (.lst xs) ∧ q.H b = some (.lst ys) ∧ RDs K q ds xs ∧ RDs K q es ys := by
    intro ds es e1 e2
    rcases bx.view R with ⟨ds', a, xs, f1, rfl, g1, r1⟩ | ⟨f1, _, n1⟩
    · rcases bY.view R with ⟨es', b, ys, f2, rfl, g2, r2⟩ | ⟨f2, _, n2⟩
      · rw [f1] at e1; injection e1 with e1; subst e1
        rw [f2] at e2; injection e2 with e2; subst e2
        exact ⟨a, b, xs, ys, rfl, rfl, g1, g2, r1, r2⟩
      · rw [f2] at e2; exact absurd e2 (n2 _)
    · rw [f1] at e1; exact absurd e1 (n1 _)
  rcases eqD_cases e with ⟨ds, es, e1, e2, hn, rfl⟩ | ⟨e1, e2, rfl⟩ | ⟨f1, f2, rfl⟩
  · obtain ⟨a, b, xs, ys, h1, h2, h3, h4, r1, r2⟩ := lists ds es e1 e2
    exact .inl ⟨rfl, a, b, xs, ys, h1, h2, h3, h4, by rw [r1.length, r2.length]; exact hn⟩
  · obtain ⟨a, b, xs, ys, h1, h2, h3, h4, r1, r2⟩ := lists [] [] e1 e2
    subst h1 h2
    cases r1
    cases r2
    exact .inr ⟨.list [], .list [], .lst (SqL.of h3) .nil, .lst (SqL.of h4) .nil, by decide +kernel, by decide +kernel, by decide +kernel⟩
  · exact .inr ⟨_, _, bx.dp R f1, bY.dp R f2, shaped_toP f1, shaped_toP f2, eqv_toP 60 60 _ _ f1 f2⟩
theorem simEq {K : PySem.W.Frag} : SimOp K C (rEqA K) opEq := by
  intro q s x y vx vy z Q R bx bY e k
  unfold opEq at e
  cases h : eqD (view s x) (view s y) with
  | none => rw [h] at e; cases e
  | some b =>
    rw [h] at e
    cases e
    have kk := k (.bl b) q (Ext.refl q) R (.bl b)
    rcases eq_core R bx bY h with ⟨rfl, a, b, xs, ys, h1, h2, h3, h4, hn⟩ | ⟨d, e, h1, h2, h3, h4, rfl⟩
    · exact .inl ⟨a, b, xs, ys, h1, h2, h3, h4, hn, kk⟩
    · exact .inr ⟨d, e, h1, h2, h3, h4, kk⟩
theorem simNe {K : PySem.W.Frag} : SimOp K C (rNeA K) opNe := by
  intro q s x y vx vy z Q R bx bY e k
  unfold opNe at e
  cases h : eqD (view s x) (view s y) with
  | none => rw [h] at e; cases e
  | some b =>
    rw [h] at e
    cases e
    have kk := k (.bl (!b)) q (Ext.refl q) R (.bl _)
    rcases eq_core R bx bY h with ⟨rfl, a, b, xs, ys, h1, h2, h3, h4, hn⟩ | ⟨d, e, h1, h2, h3, h4, rfl⟩
    · exact .inl ⟨a, b, xs, ys, h1, h2, h3, h4, hn, kk⟩
    · exact .inr ⟨d, e, h1, h2, h3, h4, kk⟩
end MP

/-! More operators: membership, items, lengths, texts, kinds, slices. Own text. -/
namespace MP
open PySem L2
variable {C : Tab}

/-! ### membership -/
theorem RD.flatV {K : PySem.W.Frag} {q : Stt} {d : D} {v : V} (h : RD K q d v) (f : isFlat d = true) : flatV v = true := by cases h <;> first | rfl | simp [isFlat] at f
theorem RDs.flatV {K : PySem.W.Frag} {q : Stt} : ∀ {ds : List D} {vs : List V}, RDs K q ds vs → ds.all isFlat = true → vs.all L2.flatV = true
  | [], _, h, _ => by cases h; rfl
  | d :: ds, _, h, f => by
    rw [List.all_cons, Bool.and_eq_true] at f; cases h with
    | cons a b => rw [List.all_cons, a.flatV f.1, RDs.flatV b f.2]; rfl
theorem eqV_flat {K : PySem.W.Frag} {q : Stt} {d e : D} {v u : V} (h : RD K q d v) (g : RD K q e u) (fd : isFlat d = true) (fe : isFlat e = true) : eqV v u = d.eqv e := by
  cases h <;> first | (simp [isFlat] at fd; done) | skip
  all_goals cases g <;> first | (simp [isFlat] at fe; done) | skip
  all_goals simp only [eqV, D.eqv]
  rw [Bool.beq_eq_decide_eq]
  simp
theorem inV_flat {K : PySem.W.Frag} {q : Stt} {x : D} {vx : V} (h : RD K q x vx) (fx : isFlat x = true) : ∀ {ds : List D} {vs : List V}, RDs K q ds vs → ds.all isFlat = true → inV vx vs = ds.any fun d => d.eqv x
  | [], _, r, _ => by cases r; rfl
  | d :: ds, _, r, f => by
    rw [List.all_cons, Bool.and_eq_true] at f; cases r with
    | cons a b =>
      have ih := inV_flat h fx b f.2
      unfold inV at ih ⊢
      rw [List.any_cons, List.any_cons, ih, eqV_flat a h f.1 fx]
def rInA (K : PySem.W.Frag) (neg : Bool) : R2 := fun x y H Q => (∃ (c : Nat) (z : Str), x = .str ⟨#[c]⟩ ∧ y = .str z ∧ Q (.bl (if neg then !decide (c ∈ z.cps.toList) else decide (c ∈ z.cps.toList))) H) ∨ rIn K neg x y H Q
theorem op_inA {X : Cx} : OpR X (compareOp .In) (rInA X.K false) := op_in_sign.or op_in_seq
theorem op_notInA {X : Cx} : OpR X (compareOp .NotIn) (rInA X.K true) := op_notIn_sign.or op_notIn_seq
theorem in_core {K : PySem.W.Frag} {q : Stt} {s : Sto} {x y : D} {vx vy : V} {k : Bool} {neg : Bool} {Q : VK} (R : Rel K C s q) (bx : RB K q x vx) (bY : RB K q y vy) (e : inD s x y = some k) (kk : Q (.bl (if neg then !k else k)) q.H) : rInA K neg vx vy q.H Q := by
  unfold inD at e
  split at e
  · rename_i c z
    cases e
    cases bx.flat rfl
    cases bY.flat rfl
    exact .inl ⟨c, _, rfl, rfl, kk⟩
  · split at e
    · rename_i ds hs
      split at e
      · rename_i hf
        cases e
        rw [Bool.and_eq_true] at hf
        obtain ⟨a, vs, rfl, h1, r⟩ := bY.seq R hs
        have rx := bx.flat hf.1
        refine .inr ⟨a, vs, rfl, sqOr h1, rx.flatV hf.1, r.flatV hf.2, ?_⟩
        rw [inV_flat rx hf.1 r hf.2]
        exact kk
      · cases e
    · cases e
theorem simIn {K : PySem.W.Frag} : SimOp K C (rInA K false) opIn := by
  intro q s x y vx vy z Q R bx bY e k
  unfold opIn at e
  cases h : inD s x y with
  | none => rw [h] at e; cases e
  | some b => rw [h] at e; cases e; exact in_core R bx bY h (k _ q (Ext.refl q) R (.bl b))
theorem simNotIn {K : PySem.W.Frag} : SimOp K C (rInA K true) opNotIn := by
  intro q s x y vx vy z Q R bx bY e k
  unfold opNotIn at e
  cases h : inD s x y with
  | none => rw [h] at e; cases e
  | some b => rw [h] at e; cases e; exact in_core R bx bY h (k _ q (Ext.refl q) R (.bl (!b)))

/-! ### items -/
theorem place_ix (n : Nat) (i : Int) : place n i = ixN n i := rfl
theorem ixD_get {K : PySem.W.Frag} {q : Stt} {ds : List D} {vs : List V} {i : Int} {d : D} (r : RDs K q ds vs) (e : ixD ds i = some d) : ∃ v, atI vs i = some v ∧ RD K q d v := by
  unfold ixD at e
  cases h : place ds.length i with
  | none => rw [h] at e; cases e
  | some k =>
    rw [h] at e
    obtain ⟨v, h1, h2⟩ := RDs.get r e
    refine ⟨v, ?_, h2⟩
    unfold atI
    rw [r.length, ← place_ix, h]
    exact h1
theorem simIx {K : PySem.W.Frag} : SimOp K C (rIx K) opIx := by
  intro q s x y vx vy z Q R bx bY e k
  unfold opIx at e
  split at e
  · rename_i z' i
    split at e
    · rename_i hl
      cases bx.flat rfl
      cases bY.flat rfl
      cases h : place z'.length i with
      | none => rw [h] at e; cases e
      | some j =>
        rw [h] at e
        simp only [Option.bind] at e
        cases h2 : z'[j]? with
        | none => rw [h2] at e; cases e
        | some c =>
          rw [h2] at e
          cases e
          refine .inr (.inr ⟨_, i, c, rfl, rfl, ?_, ?_, k _ q (Ext.refl q) R (.str [c])⟩)
          · exact lenS (by simpa [Str.length] using hl)
          · show atI z' i = some c
            unfold atI
            rw [← place_ix, h]
            exact h2
    · cases e
  · rename_i ns i
    cases bY.flat rfl
    cases bx.nl (by intro _ z; cases z) with
    | @scr _ a g =>
      cases h : place ns.length i with
      | none => rw [h] at e; cases e
      | some j =>
        rw [h] at e
        simp only [Option.bind] at e
        cases h2 : ns[j]? with
        | none => rw [h2] at e; cases e
        | some c =>
          rw [h2] at e
          cases e
          refine .inl ⟨a, _, i, .int c, rfl, rfl, g.sq, ?_, k _ q (Ext.refl q) R (.int c)⟩
          unfold atI
          rw [List.length_map, ← place_ix, h]
          simp [h2]
  · rename_i i _ _
    cases bY.flat rfl
    cases h : seqOf s x with
    | none => rw [h] at e; cases e
    | some ds =>
      rw [h] at e
      obtain ⟨a, vs, rfl, h1, r⟩ := bx.seq R h
      obtain ⟨v, h2, h3⟩ := ixD_get r e
      rcases h1 with h1 | h1
      · exact .inl ⟨a, vs, i, v, rfl, rfl, SqL.of h1, h2, k v q (Ext.refl q) R h3⟩
      · exact .inr (.inl ⟨a, vs, i, v, rfl, rfl, h1, h2, k v q (Ext.refl q) R h3⟩)
  · cases e

section
variable {X : Cx} {W : Wx} {pos p apos : Pos} {e a b o : Expr} {es : List Expr} {m ma mb : ME}
theorem PE.ix {r : R2} {g : Op2} (hr : IxR X r) (hs : SimOp X.K C r g) (ha : GB X C W a ma) (hb : GB X C W b mb) (hp : PlainIx b) : GE X C W (.Subscript a b pos) (eOp2 g ma mb) := PE.imp (pe_ix hr ha hb hp) (op2_imp hs)
theorem ge_ix (ha : GB X C W a ma) (hb : GB X C W b mb) (hp : PlainIx b := by exact fun _ _ => rfl) : GE X C W (.Subscript a b pos) (eOp2 opIx ma mb) := PE.ix ix_seq simIx ha hb hp

/-! ### built-in functions of one thing -/
theorem CallR.or {f : Value} {r r' : List V → Hp → VK → Prop} (h : CallR X f r) (h' : CallR X f r') : CallR X f (fun x H Q => r x H Q ∨ r' x H Q) := by
  intro pins s σ H xs us Q I rr q
  rcases q with q | q
  · exact h pins s σ H xs us Q I rr q
  · exact h' pins s σ H xs us Q I rr q
theorem pa1 (ha : GB X C W e ma) (hs : starEach [e] X.env = (false, eval e X.env) :: starEach [] X.env := by rfl) : PA X [e] (tCons (tM X.K C W (rB X.K) ma) tNil) := pa_cons ha pa_nil hs
theorem fun1_imp {K : PySem.W.Frag} {r : List V → Hp → VK → Prop} {g : Op1} (hs : SimU K C (fun v H Q => r [v] H Q) g) (σ : St) (H : Hp) (Q : VK) (h : tM K C W (rD K) (eOp1 g ma) σ H Q) : tCB r (tCons (tM K C W (rB K) ma) tNil) σ H Q := op1_imp hs σ H Q h
theorem ge_fun1 {x : Str} {id : String} {r : List V → Hp → VK → Prop} {g : Op1} (hc : CallR X (.builtin id) r) (hs : SimU X.K C (fun v H Q => r [v] H Q) g) (hm : X.mg x = none) (ha : GB X C W e ma) (hg : Gl X x := by rfl) (hv : bootBuiltins x = some (.builtin id) := by decide +kernel)
    (hn : x ≠ "__name__" := by decide) (hd : (x == ("__debug__" : Str)) = false := by decide) (h1 : starEach [e] X.env = (false, eval e X.env) :: starEach [] X.env := by rfl) : GE X C W (.Call (.Name x p) [e] [] pos) (eOp1 g ma) :=
  PE.imp (pe_callB hc hg hm hv (pa1 ha h1) hn hd (he := h1)) (fun1_imp hs)
theorem ge_ty1 {x : Str} {T : String} {r : List V → Hp → VK → Prop} {g : Op1} (hc : CallR X (.type T) r) (hs : SimU X.K C (fun v H Q => r [v] H Q) g) (hm : X.mg x = none) (ha : GB X C W e ma) (hg : Gl X x := by rfl) (hv : bootBuiltins x = some (.type T) := by decide +kernel)
    (hn : x ≠ "__name__" := by decide) (hd : (x == ("__debug__" : Str)) = false := by decide) (h1 : starEach [e] X.env = (false, eval e X.env) :: starEach [] X.env := by rfl) : GE X C W (.Call (.Name x p) [e] [] pos) (eOp1 g ma) :=
  PE.imp (pe_callTy hc hg hm hv (pa1 ha h1) hn hd (he := h1)) (fun1_imp hs)
def rLenA (K : PySem.W.Frag) : List V → Hp → VK → Prop := fun xs H Q => (∃ p ys, xs = [.ref p] ∧ (SqL K H p ys ∨ SqT K H p ys) ∧ Q (.int ys.length) H) ∨ ∃ z, xs = [.str z] ∧ z.length ≤ sizeLine ∧ Q (.int z.length) H
theorem call_lenA : CallR X (.builtin "len") (rLenA X.K) := CallR.or call_len_seq call_len_str
theorem simLen {K : PySem.W.Frag} : SimU K C (fun v H Q => rLenA K [v] H Q) opLen := by
  intro q s x vx z Q R bx e k
  unfold opLen at e
  split at e
  · rename_i z'
    split at e
    · rename_i hl
      cases e
      cases bx.flat rfl
      have := k (.int (z'.length : Nat)) q (Ext.refl q) R (.int _)
      exact .inr ⟨_, rfl, lenS (by simpa [Str.length] using hl), by simpa [Str.length] using this⟩
    · cases e
  · rename_i ns
    cases e
    cases bx.nl (by intro _ z; cases z) with
    | @scr _ a g =>
      have := k (.int (ns.length : Nat)) q (Ext.refl q) R (.int _)
      exact .inl ⟨a, ns.map V.int, rfl, .inl g.sq, by rw [List.length_map]; exact this⟩
  · cases h : seqOf s x with
    | none => rw [h] at e; cases e
    | some ds =>
      rw [h] at e
      cases e
      obtain ⟨a, vs, rfl, h1, r⟩ := bx.seq R h
      have := k (.int (ds.length : Nat)) q (Ext.refl q) R (.int _)
      exact .inl ⟨a, vs, rfl, sqOr h1, by rw [r.length]; exact this⟩
def rIntA : List V → Hp → VK → Prop := fun xs H Q => ((∃ i, xs = [.int i] ∧ Q (.int i) H) ∨ ∃ k, xs = [.bl k] ∧ Q (.int (if k then 1 else 0)) H) ∨ ∃ a n, xs = [.str a] ∧ PySem.intText? a = some n ∧ a.length ≤ 640 ∧ Q (.int n) H
theorem call_intA : CallR X (.type "int") rIntA := CallR.or call_int1 call_int_str
theorem figs_text {cs : List Nat} (h1 : cs ≠ []) (h2 : cs.length ≤ 9) (h3 : cs.all isFig = true) : PySem.intText? ⟨cs.toArray⟩ = some ((figs cs : Nat) : Int) := by
  refine intText_digits (x := ⟨cs.toArray⟩) (fun c hc => ?_) (by simpa using h1) (by simp [Str.length]; omega)
  have := List.all_eq_true.mp h3 c (by simpa using hc)
  simpa [isFig] using this
theorem simInt {K : PySem.W.Frag} : SimU K C (fun v H Q => rIntA [v] H Q) opIntOf := by
  intro q s x vx z Q R bx e k
  unfold opIntOf at e
  split at e
  · cases e; cases bx.flat rfl; exact .inl (.inl ⟨_, rfl, k _ q (Ext.refl q) R (.int _)⟩)
  · cases e; cases bx.flat rfl; exact .inl (.inr ⟨_, rfl, k _ q (Ext.refl q) R (.int _)⟩)
  · split at e
    · rename_i cs hc
      cases e
      cases bx.flat rfl
      exact .inr ⟨_, _, rfl, figs_text hc.1 hc.2.1 hc.2.2, by simp [Str.length]; omega, k _ q (Ext.refl q) R (.int _)⟩
    · cases e
  · cases e
theorem ofS (z : String) : Str.ofString z = ⟨(z.toList.map Char.toNat).toArray⟩ := Str.ofString_eq_toList z
theorem simStr {K : PySem.W.Frag} : SimU K C (fun v H Q => ∃ i, [v] = [V.int i] ∧ i.natAbs.log2 < 1920 ∧ Q (.str (Str.ofString (toString i))) H) opStrOf := by
  intro q s x vx z Q R bx e k
  unfold opStrOf at e
  split at e
  · rename_i i
    split at e
    · rename_i hs
      cases e
      cases bx.flat rfl
      have h := smallI_iff hs
      refine ⟨i, rfl, ?_, ?_⟩
      · rcases Nat.eq_zero_or_pos i.natAbs with h0 | h0
        · rw [h0]; decide
        · exact Nat.lt_of_lt_of_le ((Nat.log2_lt (by omega)).mpr (show i.natAbs < 2 ^ 64 by omega)) (by decide)
      · rw [ofS]
        exact k _ q (Ext.refl q) R (.str _)
    · cases e
  · cases e
theorem simTuple {K : PySem.W.Frag} : SimU K C (fun v H Q => ∃ p ys, [v] = [V.ref p] ∧ ((SqL K H p ys ∧ ∀ l, H l = none → Q (.ref l) (upd H l (.tup ys))) ∨ (SqT K H p ys ∧ Q (.ref p) H))) opTuple := by
  intro q s x vx z Q R bx e k
  unfold opTuple at e
  cases h : seqOf s x with
  | none => rw [h] at e; cases e
  | some ds =>
    rw [h] at e
    cases e
    cases x with
    | tup es =>
      simp only [seqOf, Option.some.injEq] at h
      subst h
      have b := bx.nl (by intro _ z; cases z)
      cases id b with
      | tup g r => exact ⟨_, _, rfl, .inr ⟨g.sq, k _ q (Ext.refl q) R b⟩⟩
    | _ =>
      obtain ⟨a, vs, rfl, h1', r⟩ := bx.seqL R h (by intro _ z; cases z)
      refine ⟨a, vs, rfl, .inl ⟨SqL.of h1', fun l hl => ?_⟩⟩
      have x2 := Ext.new1 (o := .tup vs) R.wf hl
      exact k _ _ x2 (R.new1 hl) (.tup (.inl ⟨upd_same, R.wf.no hl⟩) (RDs.mono x2.kp _ r))
end
end MP

/-! Calls, objects, kinds, slices, texts. Own text. -/
namespace MP
open PySem L2

/-! ### calls -/
/-- what a def promises by its function -/
def spM (K : PySem.W.Frag) (C : Tab) (g : Fn) : Sp := fun vs H Q E => ∃ (q : Stt) (s : Sto) (ds : List D), q.H = H ∧ Rel K C s q ∧ RDs K q ds vs ∧ Post K C (fun cls d _ H' => E cls d H') (rD K) q [] Q (g ds s)
/-- a def at f that may be called: g from the arguments that are written -/
def Cal (P : Program) (w : World) (K : PySem.W.Frag) (mg : Str → Option Value) (base : Heap) (C : Tab) (k : Nat) (f : Addr) (g : Fn) : Prop :=
  ∃ (fd : FuncData) (ps : List Str) (ds : List Value) (dvs : List V) (dD : List D) (g' : Fn), FnOk P w K mg base (L2.CX P w) k f fd ps (spM K C g') ∧ Binds K fd ps ds ∧ Vals dvs ds ∧ (∀ q : Stt, RDs K q dD dvs) ∧ g = fun as => g' (as ++ dD)
theorem Cal.mono {P : Program} {w : World} {K : PySem.W.Frag} {mg : Str → Option Value} {base : Heap} {C : Tab} {j k : Nat} {f : Addr} {g : Fn} (h : Cal P w K mg base C j f g) (hk : j ≤ k) : Cal P w K mg base C k f g := by
  obtain ⟨fd, ps, ds, dvs, dD, g', F, b, d, r, e⟩ := h
  exact ⟨fd, ps, ds, dvs, dD, g', F.mono hk, b, d, r, e⟩
section
variable {X : Cx} {C : Tab} {W : Wx} {k : Nat} {f Ca : Addr} {g : Fn} {pos p apos : Pos} {x : Str} {e a b o : Expr} {es : List Expr} {m ma mb mo : ME} {ml : MA}
/-- what a call asks of its arguments -/
def Asked (K : PySem.W.Frag) (C : Tab) (W : Wx) (g : Fn) (σ : St) (vs : List V) (H : Hp) (Q : VK) : Prop := ∃ (q : Stt) (s : Sto) (ds : List D), q.H = H ∧ Rel K C s q ∧ RDs K q ds vs ∧ Post K C W (rD K) q σ Q (g ds s)
theorem post_sig {K : PySem.W.Frag} {q : Stt} {σ : St} {Q : VK} {r : Res D} (h : Post K C W (rD K) q σ Q r) : Post K C (fun cls d _ H' => W cls d σ H') (rD K) q [] Q r := by
  cases r with
  | ok d s => exact h
  | exc x s => exact h
  | stk => exact h
theorem run_cal {pins : List (Addr × Obj)} {σ : St} {H : Hp} {s : Shared} {Q : VK} {us : List Value} {vs : List V} (F : Cal X.prog X.w X.K X.mg X.base C k f g) (hr : Room k X.A) (tk : Takes X W) (I : Inv X pins σ H s) (r : Vals vs us) (h : Asked X.K C W g σ vs H Q) : wpAny (model X.prog X.w) X.A (call (.ref f) us) (EP X pins σ Q) X.xe s := by
  obtain ⟨fd, ps, ds, dvs, dD, g', F, b, d, rd, rfl⟩ := F
  obtain ⟨q, st, as, e, L, ra, p⟩ := h
  refine run_fnSD (E := WE W) F hr b d (passAt tk σ) I r ?_
  exact ⟨q, st, as ++ dD, e, L, ra.append (rd q), post_sig p⟩
def tAsk (K : PySem.W.Frag) (C : Tab) (W : Wx) (g : Fn) (t : TA) : TE := fun σ H Q => t σ H fun vs H1 => Asked K C W g σ vs H1 Q
theorem call_imp {K : PySem.W.Frag} (σ : St) (H : Hp) (Q : VK) (h : tM K C W (rD K) (eCall g ml) σ H Q) : tAsk K C W g (tM K C W (rA K) ml) σ H Q := by
  obtain ⟨q0, q, env, s, eq, E, L, p⟩ := h
  subst eq
  exact tM.first (f := g) E L p rD_any fun ds s1 vs q1 x1 E1 L1 y1 p1 => ⟨q1, s1, ds, rfl, L1, y1, p1⟩
theorem ge_call (F : Cal X.prog X.w X.K X.mg X.base C k f g) (hr : Room k X.A) (tk : Takes X W) (hm : X.mg x = some (.ref f)) (hk : PySem.W.keepIn X.K (.ref f) = true) (ha : GA X C W (e :: es) ml) (hg : Gl X x := by rfl)
    (hdb : (x == ("__debug__" : Str)) = false := by decide) (he : starEach (e :: es) X.env = (false, eval e X.env) :: starEach es X.env := by rfl) (hpl : (backTo pos (starEach es X.env)).any (·.1) = false := by rfl) : GE X C W (.Call (.Name x p) (e :: es) [] pos) (eCall g ml) := by
  refine PE.imp (t := tAsk X.K C W g (tM X.K C W (rA X.K) ml)) ⟨fun pins s σ H Q I h => ?_⟩ call_imp
  refine wpAny_Call_Name_kw (ld_glob I hg hm ?_ hdb); exact PySem.W.callWith_K (h₀ := X.base) I.ok.mod.kin hk (thn (ha.run pos pins s σ H _ I h) fun us s1 ⟨vs, H1, I1, r, q⟩ => ⟨I1.kIn, run_cal F hr tk I1 r q⟩) he hpl
theorem ge_call0 (F : Cal X.prog X.w X.K X.mg X.base C k f g) (hr : Room k X.A) (tk : Takes X W) (hm : X.mg x = some (.ref f)) (hk : PySem.W.keepIn X.K (.ref f) = true) (hg : Gl X x := by rfl) (hdb : (x == ("__debug__" : Str)) = false := by decide) :
    GE X C W (.Call (.Name x p) [] [] pos) (eCall g aNil) := by
  refine PE.imp (t := fun σ H Q => Asked X.K C W g σ [] H Q) ⟨fun pins s σ H Q I h => ?_⟩ fun σ H Q ⟨q0, q, env, s, eq, E, L, p⟩ => ⟨q, s, [], eq, L, .nil, p⟩
  refine wpAny_Call_Name_kw (ld_glob I hg hm ?_ hdb); exact PySem.W.callWith_K0 I.kIn hk (run_cal F hr tk I .nil h)
/-- a method of an object of a class -/
def tAskM (K : PySem.W.Frag) (C : Tab) (W : Wx) (Ca : Addr) (m : Str) (g : Fn) (to : TE) (t : TA) : TE := fun σ H Q => to σ H fun x H1 => ∃ a dx fs, x = .ref a ∧ H1 a = some (.ins Ca dx fs) ∧ fs.lookup m = none ∧ t σ H1 fun vs H2 => Asked K C W g σ (x :: vs) H2 Q
theorem ofS_inj {x y : String} (h : Str.ofString x = Str.ofString y) : x = y := by
  rw [ofS, ofS] at h
  injection h with h
  have h2 : x.toList.map Char.toNat = y.toList.map Char.toNat := by simpa using h
  have h3 : x.toList = y.toList := (List.map_inj_right fun a b (e : a.toNat = b.toNat) => Char.ext (UInt32.toNat_inj.mp e)).mp h2
  exact String.toList_inj.mp h3
theorem RF.look {K : PySem.W.Frag} {q : Stt} (f : String) : ∀ {fs : List (String × D)} {gs : List (Str × V)}, RF K q fs gs → (∀ d, fs.lookup f = some d → ∃ v, gs.lookup (Str.ofString f) = some v ∧ RD K q d v) ∧ (fs.lookup f = none → gs.lookup (Str.ofString f) = none)
  | _, _, .nil => ⟨fun _ h => by simp at h, fun _ => rfl⟩
  | _, _, .cons (f := g) (d := d) a b => by
    have ih := RF.look f b
    by_cases e : f = g
    · subst e
      refine ⟨fun d' h => ?_, fun h => ?_⟩
      · rw [List.lookup_cons_self] at h ⊢; cases h; exact ⟨_, rfl, a⟩
      · rw [List.lookup_cons_self] at h; cases h
    · have e1 : (f == g) = false := by simpa using e
      have e2 : (Str.ofString f == Str.ofString g) = false := by simpa using fun z => e (ofS_inj z)
      rw [List.lookup_cons, List.lookup_cons, e1, e2]
      exact ih
theorem isOf_at {K : PySem.W.Frag} {q : Stt} {s : Sto} {c : Nat} {nm : String} {d : D} {v : V} (R : Rel K C s q) (h : RD K q d v) (f : isOf s c nm d = true) : ∃ a dx gs, v = .ref a ∧ q.H a = some (.ins (C c) dx gs) ∧ gs.lookup (Str.ofString nm) = none := by
  unfold isOf at f
  split at f
  · rename_i n
    split at f
    · rename_i c' fs e
      rw [Bool.and_eq_true] at f
      have ec : c' = c := by simpa using f.1
      subst ec
      cases h with
      | ref g =>
        obtain ⟨dx, gs, h1, h2⟩ := R.obs n _ _ e g
        refine ⟨_, dx, gs, rfl, h1, (RF.look nm h2).2 ?_⟩
        simpa using f.2
    · cases f
  · cases f
theorem meth_imp {K : PySem.W.Frag} {c : Nat} {nm : String} (σ : St) (H : Hp) (Q : VK) (h : tM K C W (rD K) (eMeth c nm g mo ml) σ H Q) : tAskM K C W (C c) (Str.ofString nm) g (tM K C W (rD K) mo) (tM K C W (rA K) ml) σ H Q := by
  obtain ⟨q0, q, env, s, eq, E, L, p⟩ := h
  subst eq
  refine tM.first (f := fun x s1 => if isOf s1 c nm x then (ml env s1).bind fun ds s2 => g (x :: ds) s2 else .stk) E L p rD_any fun x s1 vx q1 x1 E1 L1 y1 p1 => ?_
  cases f : isOf s1 c nm x with
  | false => rw [f] at p1; exact p1.elim
  | true =>
    rw [f] at p1
    obtain ⟨a, dx, gs, rfl, h1, h2⟩ := isOf_at L1 y1 f
    refine ⟨a, dx, gs, rfl, h1, h2, ?_⟩
    exact tM.first (f := fun ds s2 => g (x :: ds) s2) E1 L1 p1 rD_any fun ds s2 vs q2 x2 E2 L2 y2 p2 => ⟨q2, s2, x :: ds, rfl, L2, .cons (RD.mono x2.kp x y1) y2, p2⟩
theorem ge_meth {pl : Sem Bool} {c : Nat} {nm : String} (ho : GE X C W o mo) (hc : Cls X.K (C c)) (hM : Meth X.K (C c) (Str.ofString nm) f) (F : Cal X.prog X.w X.K X.mg X.base C k f g) (hr : Room k X.A) (tk : Takes X W) (ha : GA X C W (e :: es) ml)
    (hst : starEach (e :: es) X.env = (false, eval e X.env) :: starEach es X.env := by rfl) (hpl : (backTo pos (starEach es X.env)).any (·.1) = false := by rfl) (ht : eval (.Call (.Attribute o (Str.ofString nm) apos) (e :: es) [] pos) X.env = (eval o X.env >>= fun ov => standAt apos.atName >>= fun _ => holding [ov] (getMethod ov (Str.ofString nm) pl) >>= fun y => callWith pos y.1 y.2 (backTo pos (starEach (e :: es) X.env)) (backToKw pos (keywordEach [] X.env))) := by rfl) :
    GE X C W (.Call (.Attribute o (Str.ofString nm) apos) (e :: es) [] pos) (eMeth c nm g mo ml) := by
  refine PE.imp (t := tAskM X.K C W (C c) (Str.ofString nm) g (tM X.K C W (rD X.K) mo) (tM X.K C W (rA X.K) ml)) ⟨fun pins s σ H Q I h => ?_⟩ meth_imp
  refine PySem.W.methodCall_KW (pl := pl) (thn (ho.run pins s σ H _ I h) fun u s1 ⟨x, H1, I1, rx, a, dx, fs, ex, ea, l, q⟩ => ?_) ht
  subst ex
  obtain rfl : u = Value.ref a := rx; refine getmeth_ok I1 ea hc hM l ?_
  exact PySem.W.callWith_K (first := [.ref a]) (h₀ := X.base) I.ok.mod.kin hM.kp (thn (ha.run pos pins s1 σ H1 _ I1 q) fun us s2 ⟨vs, H2, I2, r, q2⟩ => ⟨I2.kIn, run_cal (us := .ref a :: us) (vs := .ref a :: vs) F hr tk I2 (.cons rfl r) q2⟩) hst hpl
theorem ge_meth0 {pl : Sem Bool} {c : Nat} {nm : String} (ho : GE X C W o mo) (hc : Cls X.K (C c)) (hM : Meth X.K (C c) (Str.ofString nm) f) (F : Cal X.prog X.w X.K X.mg X.base C k f g) (hr : Room k X.A) (tk : Takes X W)
    (ht : eval (.Call (.Attribute o (Str.ofString nm) apos) [] [] pos) X.env = (eval o X.env >>= fun ov => standAt apos.atName >>= fun _ => holding [ov] (getMethod ov (Str.ofString nm) pl) >>= fun y => callWith pos y.1 y.2 (backTo pos (starEach [] X.env)) (backToKw pos (keywordEach [] X.env))) := by rfl) :
    GE X C W (.Call (.Attribute o (Str.ofString nm) apos) [] [] pos) (eMeth c nm g mo aNil) := by
  refine PE.imp (t := tAskM X.K C W (C c) (Str.ofString nm) g (tM X.K C W (rD X.K) mo) (tM X.K C W (rA X.K) aNil)) ⟨fun pins s σ H Q I h => ?_⟩ meth_imp
  refine PySem.W.methodCall_KW (pl := pl) (thn (ho.run pins s σ H _ I h) fun u s1 ⟨x, H1, I1, rx, a, dx, fs, ex, ea, l, q⟩ => ?_) ht
  subst ex
  obtain rfl : u = Value.ref a := rx; refine getmeth_ok I1 ea hc hM l ?_
  obtain ⟨q0, q1, env, st, eq, E, L, p⟩ := q
  subst eq
  exact PySem.W.callWith_K0 (first := [.ref a]) I1.kIn hM.kp (run_cal (us := [.ref a]) (vs := [.ref a]) F hr tk I1 (.cons rfl .nil) (p [] q1 (Ext.refl q1) L .nil))

/-! ### fields -/
theorem field_at {K : PySem.W.Frag} {q : Stt} {s : Sto} {c : Nat} {nm : String} {d z : D} {v : V} (R : Rel K C s q) (h : RD K q d v) (f : fieldOf s c nm d = some z) : ∃ a dx gs u, v = .ref a ∧ q.H a = some (.ins (C c) dx gs) ∧ gs.lookup (Str.ofString nm) = some u ∧ RD K q z u := by
  unfold fieldOf at f
  split at f
  · rename_i n
    split at f
    · rename_i c' fs e
      split at f
      · rename_i ec
        subst ec
        cases h with
        | ref g =>
          obtain ⟨dx, gs, h1, h2⟩ := R.obs n _ _ e g
          obtain ⟨u, h3, h4⟩ := (RF.look nm h2).1 z f
          exact ⟨_, dx, gs, u, rfl, h1, h3, h4⟩
      · cases f
    · cases f
  · cases f
theorem ge_fld {c : Nat} {nm : String} (ho : GE X C W o mo) (hc : Cls X.K (C c)) (hn : NoAttr X.K (C c) (Str.ofString nm)) (hb : attributeBase o (Str.ofString nm) X.env (eval o X.env) = eval o X.env := by rfl) :
    GE X C W (.Attribute o (Str.ofString nm) pos) (eFld c mo nm) := PE.imp (pe_fld ho hb) fun σ H Q ⟨q0, q, env, s, eq, E, L, p⟩ => by
  subst eq
  refine tM.first (f := fun x s1 => .ofO (fieldOf s1 c nm x) s1) E L p rD_any fun x s1 vx q1 x1 E1 L1 y1 p1 => ?_
  cases f : fieldOf s1 c nm x with
  | none => rw [f] at p1; exact p1.elim
  | some z =>
    rw [f] at p1
    obtain ⟨a, dx, gs, u, rfl, h1, h2, h3⟩ := field_at L1 y1 f
    exact ⟨a, C c, dx, gs, u, rfl, h1, hc, hn, h2, p1 u q1 (Ext.refl q1) L1 h3⟩

/-! ### kinds -/
def Ki.nm : Ki → String
  | .non => "NoneType" | .bool => "bool" | .int => "int" | .str => "str" | .tuple => "tuple" | .list => "list"
theorem ki_ty : ∀ a b : Ki, kitB a.nm b.nm = some (a.isA b) := by
  intro a b
  cases a <;> cases b <;> decide +kernel
theorem kind_at {K : PySem.W.Frag} {q : Stt} {s : Sto} {d : D} {v : V} {k : Ki} (R : Rel K C s q) (h : RD K q d v) (f : kindOf s d = some k) : TyX K q.H v (.type k.nm) := by
  unfold kindOf at f
  split at f
  · cases f; cases h; exact .base .non
  · cases f; cases h; exact .base (.bl _)
  · cases f; cases h; exact .base (.int _)
  · cases f; cases h; exact .base (.str _)
  · cases f
    cases h with
    | tup g r =>
      rcases g with ⟨g, _⟩ | g
      · exact .base (.tup g)
      · rcases g with (g | ⟨_, g⟩) | ⟨o, its, n, h1, h2, _⟩
        · cases g
        · cases g
        · exact .kTuple h1 h2
  · cases f; cases h with | lst g r => exact .base (.lst g.1)
  · cases f; cases h with
    | scr g =>
      rcases g with ⟨o, g, _⟩ | ⟨g, _⟩ | (g | ⟨_, g⟩) | ⟨o, its, n, h1, h2, _⟩
      · exact .base (.frz g)
      · exact .base (.lst g)
      · cases g
      · cases g
      · exact .kList h1 h2
  · split at f
    · rename_i e
      cases f
      cases h with
      | ref g =>
        obtain ⟨vs, h1, _⟩ := R.obs _ _ _ e g
        exact .base (.lst h1)
    · cases f
/-- isinstance(e, T) -/
theorem ge_isi (t : Ki) {x1 : Str} {p2 : Pos} (hm : X.mg "isinstance" = none) (hmt : X.mg x1 = none) (hvt : bootBuiltins x1 = some (.type t.nm)) (ha : GE X C W e ma) (hg : Gl X "isinstance" := by rfl) (hgt : Gl X x1 := by rfl) (hv : bootBuiltins "isinstance" = some (.builtin "isinstance") := by decide +kernel)
    (hn : x1 ≠ "__name__" := by decide) (hd : (x1 == ("__debug__" : Str)) = false := by decide) (h1 : starEach [e, .Name x1 p2] X.env = (false, eval e X.env) :: starEach [.Name x1 p2] X.env := by rfl) (h2 : starEach [.Name x1 p2] X.env = (false, eval (.Name x1 p2) X.env) :: starEach [] X.env := by rfl)
    (hpl : (backTo pos (starEach [.Name x1 p2] X.env)).any (·.1) = false := by rfl) :
    GE X C W (.Call (.Name "isinstance" p) [e, .Name x1 p2] [] pos) (eOp1 (opKind t) ma) :=
  PE.imp (pe_callB call_isi hg hm hv (pa_cons ha (pa_cons (pe_bltn (v := .ty t.nm) hgt hmt hvt rfl hn hd) pa_nil h2) h1) (he := h1) (hpl := hpl)) fun σ H Q ⟨q0, q, env, s, eq, E, L, p⟩ => by
    subst eq
    refine tM.first (f := fun x s1 => .ofO (opKind t s1 x) s1) E L p rD_any fun x s1 vx q1 x1 E1 L1 y1 p1 => ?_
    unfold opKind at p1
    cases f : kindOf s1 x with
    | none => rw [f] at p1; exact p1.elim
    | some k =>
      rw [f] at p1
      exact ⟨vx, .ty t.nm, _, _, k.isA t, rfl, .ty t.nm, kind_at L1 y1 f, kit_ty (ki_ty k t), p1 _ q1 (Ext.refl q1) L1 (.bl _)⟩

/-! ### parts of lists, of tuples -/
def GO (X : Cx) (C : Tab) (W : Wx) (e : Option Expr) (m : MO) : Prop := PO X e (tM X.K C W (fun _ _ a b => a = b) m)
theorem go_none : GO X C W none oNone := ⟨fun pins s σ H Q I ⟨q0, q, env, st, eq, E, L, p⟩ => po_none.run pins s σ H Q I (by subst eq; exact p none q (Ext.refl q) L rfl)⟩
theorem go_some (h : GE X C W e ma) : GO X C W (some e) (oSome ma) := ⟨fun pins s σ H Q I ⟨q0, q, env, st, eq, E, L, p⟩ => (po_some h).run pins s σ H Q I (by
  subst eq
  refine tM.first (f := fun x s1 => match x with | .int i => .ok (some i) s1 | _ => .stk) E L p (fun _ _ _ _ _ w => w) fun x s1 vx q1 x1 E1 L1 y1 p1 => ?_
  cases y1 with
  | int i => exact ⟨i, rfl, p1 _ q1 (Ext.refl q1) L1 rfl⟩
  | _ => exact p1.elim)⟩
theorem cut_rel {K : PySem.W.Frag} {q : Stt} {ds : List D} {vs : List V} (lo hi : Option Int) (r : RDs K q ds vs) : RDs K q (cutD ds lo hi) (cutV vs lo hi) := by
  have e : ∀ (n d : Nat) (o : Option Int), partIx n d o = HT.sIx n d o := fun n d o => by cases o <;> rfl
  unfold cutD cutV
  rw [e, e, r.length]
  exact (r.drop _).take _
theorem gl_sl {p2 : Pos} {lo hi : Option Expr} {l h : MO} (ha : GB X C W a ma) (hl : GO X C W lo l) (hh : GO X C W hi h) : GL X C W (.Subscript a (.Slice lo hi none p2) pos) (lSl ma l h) := PE.imp (pe_slice sl_list ha hl hh) fun σ H Q ⟨q0, q, env, s, eq, E, L, p⟩ => by
  subst eq
  refine tM.first0 (f := fun x s1 => (l env s1).bind fun l s2 => (h env s2).bind fun h s3 => match MP.view s3 x with | .lst ds => .ok (cutD ds l h) s3 | _ => .stk) E L p fun x s1 vx q1 x1 L1 y1 p1 => ?_
  refine ⟨q0, q1, env, s1, rfl, E.ext x1, L1, ?_⟩
  cases e1 : l env s1 with
  | stk => rw [e1] at p1; exact p1.elim
  | exc z t => rw [e1] at p1; exact fun c d q' w r => p1 c d q' (x1.trans w) r
  | ok lo' s2 =>
    rw [e1] at p1
    intro lo'' q2 x2 L2 e2
    subst e2
    refine ⟨q0, q2, env, s2, rfl, (E.ext x1).ext x2, L2, ?_⟩
    simp only [Res.bind_ok] at p1
    cases e2 : h env s2 with
    | stk => rw [e2] at p1; exact p1.elim
    | exc z t => rw [e2] at p1; exact fun c d q' w r => p1 c d q' ((x1.trans x2).trans w) r
    | ok hi' s3 =>
      rw [e2] at p1
      intro hi'' q3 x3 L3 e3
      subst e3
      simp only [Res.bind_ok] at p1
      rcases ((y1.ext x2).ext x3).view L3 with ⟨ds, a, vs, ev, rfl, g, r⟩ | ⟨ev, r, nl⟩
      · rw [ev] at p1
        refine ⟨a, vs, rfl, SqL.of g, fun p' hp => ?_⟩
        exact p1 _ _ (((x1.trans x2).trans x3).trans (Ext.newL L3.wf hp)) (L3.newL hp) (RN.newL L.wf ((x1.trans x2).trans x3) L3 hp (cut_rel lo' hi' r))
      · cases x with
        | lst ds => exact absurd rfl (nl ds)
        | _ => rw [ev] at p1; exact p1.elim
theorem cut_whole {ds : List D} {lo hi : Option Int} (h : HT.sIx ds.length 0 lo = 0 ∧ HT.sIx ds.length ds.length hi = ds.length) : cutD ds lo hi = ds := by
  have e : ∀ (n d : Nat) (o : Option Int), partIx n d o = HT.sIx n d o := fun n d o => by cases o <;> rfl
  unfold cutD
  rw [e, e, h.1, h.2]
  simp
theorem ge_slT {p2 : Pos} {lo hi : Option Expr} {l h : MO} (ha : GE X C W a ma) (hl : GO X C W lo l) (hh : GO X C W hi h) : GE X C W (.Subscript a (.Slice lo hi none p2) pos) (eSlT ma l h) := PE.imp (pe_slice sl_tupA ha hl hh) fun σ H Q ⟨q0, q, env, s, eq, E, L, p⟩ => by
  subst eq
  refine tM.first (f := fun x s1 => (l env s1).bind fun l s2 => (h env s2).bind fun h s3 => match x with | .tup ds => .ok (.tup (cutD ds l h)) s3 | _ => .stk) E L p rD_any fun x s1 vx q1 x1 E1 L1 y1 p1 => ?_
  refine tM.first (f := fun l s2 => (h env s2).bind fun h s3 => match x with | .tup ds => .ok (.tup (cutD ds l h)) s3 | _ => .stk) E1 L1 p1 rD_any fun lo' s2 lo'' q2 x2 E2 L2 y2 p2 => ?_
  refine tM.first (f := fun h s3 => match x with | .tup ds => .ok (.tup (cutD ds lo' h)) s3 | _ => .stk) E2 L2 p2 rD_any fun hi' s3 hi'' q3 x3 E3 L3 y3 p3 => ?_
  subst y2 y3
  cases RD.mono (x2.trans x3).kp x y1 with
  | @tup a vs ds g r =>
    refine ⟨a, vs, rfl, g.sq, fun hw => ?_, fun _ pp hp => ?_⟩
    · have hw' := hw
      rw [r.length] at hw'
      have pz := p3 (.ref a) q3 (Ext.refl q3) L3
      simp only [cut_whole hw'] at pz
      exact pz (.tup g r)
    · have x4 := Ext.new1 (o := .tup (cutV vs lo' hi')) L3.wf hp
      exact p3 _ _ x4 (L3.new1 hp) (.tup (.inl ⟨upd_same, L3.wf.no hp⟩) (RDs.mono x4.kp _ (cut_rel lo' hi' r)))
  | _ => exact p3.elim
/-- list(e) -/
theorem gl_of {x : Str} (hm : X.mg x = none) (ha : GB X C W e ma) (hg : Gl X x := by rfl) (hv : bootBuiltins x = some (.type "list") := by decide +kernel) (hn : x ≠ "__name__" := by decide) (hd : (x == ("__debug__" : Str)) = false := by decide)
    (h1 : starEach [e] X.env = (false, eval e X.env) :: starEach [] X.env := by rfl) : GL X C W (.Call (.Name x p) [e] [] pos) (lOf ma) := PE.imp (pe_callTy call_list_of hg hm hv (pa1 ha h1) hn hd (he := h1)) fun σ H Q ⟨q0, q, env, s, eq, E, L, p⟩ => by
  subst eq
  refine tM.first0 (f := fun x s1 => .ofO (seqOf s1 x) s1) E L p fun x s1 vx q1 x1 L1 y1 p1 => ?_
  cases f : seqOf s1 x with
  | none => rw [f] at p1; exact p1.elim
  | some ds =>
    rw [f] at p1
    obtain ⟨a, vs, rfl, h2, r⟩ := y1.seq L1 f
    refine ⟨a, vs, rfl, sqOr h2, fun l hl => ?_⟩
    exact p1 _ _ (x1.trans (Ext.newL L1.wf hl)) (L1.newL hl) (RN.newL L.wf x1 L1 hl r)
end
end MP

/-! Targets, walked things, comprehensions, statements, bodies. Own text. -/
namespace MP
open PySem L2

/-! ### names are stored -/
theorem RE.set {K : PySem.W.Frag} {C : Tab} {q0 q : Stt} {env : MP.Env} {σ : St} (E : RE K C q0 q env σ) (i : Nat) {d : D} {v : V} (r : RD K q d v) : RE K C q0 q (env.set i (.val d)) (σ.set i (some v)) where
  len := by simp [E.len]
  val := fun j d' h => by
    by_cases e : i = j
    · subst e
      have hi : i < env.length := by
        have := (List.getElem?_eq_some_iff.mp h).1
        simpa using this
      rw [List.getElem?_set_self hi] at h
      cases h
      exact ⟨v, List.getElem?_set_self (by rw [← E.len]; exact hi), r⟩
    · rw [List.getElem?_set_ne e] at h ⊢
      exact E.val j d' h
  own := fun j ds h => by
    by_cases e : i = j
    · subst e
      have hi : i < env.length := by
        have := (List.getElem?_eq_some_iff.mp h).1
        simpa using this
      rw [List.getElem?_set_self hi] at h
      cases h
    · rw [List.getElem?_set_ne e] at h ⊢
      exact E.own j ds h
  inj := fun j k ds es a h1 h2 h3 h4 => by
    have ne : ∀ {l : Nat} {xs : List D}, (env.set i (.val d))[l]? = some (.own xs) → i ≠ l := fun {l xs} h e => by
      subst e
      have hi : i < env.length := by
        have := (List.getElem?_eq_some_iff.mp h).1
        simpa using this
      rw [List.getElem?_set_self hi] at h
      cases h
    have n1 := ne h1
    have n2 := ne h2
    rw [List.getElem?_set_ne n1] at h1 h3
    rw [List.getElem?_set_ne n2] at h2 h4
    exact E.inj j k ds es a h1 h2 h3 h4
  w0 := E.w0
  exn := fun j y h => by
    by_cases e : i = j
    · subst e
      have hi : i < env.length := by
        have := (List.getElem?_eq_some_iff.mp h).1
        simpa using this
      rw [List.getElem?_set_self hi] at h
      cases h
    · rw [List.getElem?_set_ne e] at h ⊢
      exact E.exn j y h
/-- a target's reading by its function; vs: the slots that it may change -/
def tG (K : PySem.W.Frag) (C : Tab) (g : MG) (vs : List Nat) : TG := fun v σ H Q => ∃ (q0 q : Stt) (env env' : MP.Env) (s : Sto) (d : D), q.H = H ∧ RE K C q0 q env σ ∧ Rel K C s q ∧ RD K q d v ∧ g d env = some env' ∧
  ∀ (σ' : St) (q' : Stt), Ext q q' → Rel K C s q' → RE K C q0 q' env' σ' → σ'.length = σ.length → (∀ j, j ∉ vs → σ'[j]? = σ[j]?) → Q σ' q'.H
def GG (X : Cx) (C : Tab) (e : Expr) (g : MG) (vs : List Nat) : Prop := PG X e (tG X.K C g vs)
def tGs (K : PySem.W.Frag) (C : Tab) (gs : List MG) (vs : List Nat) : TGs := fun us σ H Q => ∃ (q0 q : Stt) (env env' : MP.Env) (s : Sto) (ds : List D), q.H = H ∧ RE K C q0 q env σ ∧ Rel K C s q ∧ RDs K q ds us ∧ gAll gs ds env = some env' ∧
  ∀ (σ' : St) (q' : Stt), Ext q q' → Rel K C s q' → RE K C q0 q' env' σ' → σ'.length = σ.length → (∀ j, j ∉ vs → σ'[j]? = σ[j]?) → Q σ' q'.H
def GGs (X : Cx) (C : Tab) (es : List Expr) (gs : List MG) (vs : List Nat) : Prop := PGs X es (tGs X.K C gs vs)
theorem PGs.imp {X : Cx} {es : List Expr} {t t' : TGs} (h : PGs X es t) (hi : ∀ vs σ H Q, t' vs σ H Q → t vs σ H Q) : PGs X es t' := ⟨fun pins s σ H vs us Q I r z => h.run pins s σ H vs us Q I r (hi vs σ H Q z)⟩
section
variable {X : Cx} {C : Tab} {pos : Pos}
theorem gg_name (i : Nat) {x : Str} (hN : X.N.Nodup) (hi : X.N[i]? = some x := by rfl) (hx : Loc X.env.scope x := by first | exact Or.inl rfl | exact Or.inr rfl) (hf : X.fn x = true ∨ X.env.scope.names.lookup x = some .local := by first | exact .inl rfl | exact .inr rfl) : GG X C (.Name x pos) (gNm i) [i] :=
  PG.imp (pg_name (i := i) hN hi hx hf) fun v σ H Q ⟨q0, q, env, env', s, d, e, E, L, r, g, k⟩ => by
    subst e
    cases g
    exact k _ q (Ext.refl q) L (E.set i r) (by simp) fun j hj => by
      rw [List.getElem?_set_ne]
      intro z
      exact hj (by simp [z])
theorem ggs_nil : GGs X C [] [] [] := PGs.imp pgs_nil fun us σ H Q ⟨q0, q, env, env', s, ds, e, E, L, r, g, k⟩ => by
  subst e
  cases r with
  | nil =>
    cases g
    exact ⟨rfl, k σ q (Ext.refl q) L E rfl fun _ _ => rfl⟩
  | cons _ _ => cases g
theorem ggs_cons {e : Expr} {es : List Expr} {g : MG} {gs : List MG} {vs ws : List Nat} (h1 : GG X C e g vs) (h2 : GGs X C es gs ws) (hs : (assignEach (e :: es) X.env).map (·.2) = assign e X.env :: (assignEach es X.env).map (·.2) := by rfl) : GGs X C (e :: es) (g :: gs) (vs ++ ws) :=
  PGs.imp (pgs_cons h1 h2 hs) fun us σ H Q ⟨q0, q, env, env', s, ds, eq, E, L, r, gg, k⟩ => by
    subst eq
    cases r with
    | nil => cases gg
    | @cons d v ds us r1 r2 =>
      simp only [gAll] at gg
      cases g1 : g d env with
      | none => rw [g1] at gg; cases gg
      | some env1 =>
        rw [g1] at gg
        refine ⟨v, us, rfl, q0, q, env, env1, s, d, rfl, E, L, r1, g1, fun σ1 q1 x1 L1 E1 n1 w1 => ?_⟩
        refine ⟨q0, q1, env1, env', s, ds, rfl, E1, L1, RDs.mono x1.kp _ r2, gg, fun σ2 q2 x2 L2 E2 n2 w2 => ?_⟩
        refine k σ2 q2 (x1.trans x2) L2 E2 (n2.trans n1) fun j hj => ?_
        rw [List.mem_append] at hj
        rw [w2 j fun z => hj (.inr z), w1 j fun z => hj (.inl z)]
theorem gg_tup {es : List Expr} {kk : Nat} {gs : List MG} {vs : List Nat} (hc : X.calm = true) (h : GGs X C es gs vs) (hl : (assignEach es X.env).length = gs.length := by rfl) (hst : (assignEach es X.env).findIdx? (·.1) = none := by rfl) : GG X C (.Tuple es kk pos) (gTp gs) vs :=
  PG.imp (pg_tup hc h hl hst) fun v σ H Q ⟨q0, q, env, env', s, d, e, E, L, r, g, k⟩ => by
    subst e
    cases r with
    | @tup a us ds f r =>
      have e : gAll gs ds env = some env' := g
      have len : ∀ (gs : List MG) (ds : List D) (env : MP.Env), gAll gs ds env = some env' → ds.length = gs.length := by
        intro gs
        induction gs with
        | nil => intro ds env e; cases ds <;> first | rfl | cases e
        | cons g gs ih =>
          intro ds env e
          cases ds with
          | nil => cases e
          | cons d ds =>
            simp only [gAll] at e
            cases g1 : g d env with
            | none => rw [g1] at e; cases e
            | some env1 => rw [g1] at e; simp [ih ds env1 e]
      exact ⟨a, us, rfl, f.sq, by rw [r.length]; exact len gs ds env e, q0, q, env, env', s, ds, rfl, E, L, r, e, k⟩
    | _ => cases g
end

/-! ### walked things -/
def ItOk (K : PySem.W.Frag) (C : Tab) (J : It) (x : Src) (q : Stt) : Prop := ∀ (q2 : Stt) (s2 : Sto) (i : Nat), Kp q q2 → Rel K C s2 q2 →
  (∀ d d', x.ds[i]? = some d → cur x s2 i d = some d' → J.go i q2.H ∧ ∀ v H3, J.yld i q2.H v H3 → ∃ q3, q3.H = H3 ∧ Ext q2 q3 ∧ Rel K C s2 q3 ∧ RD K q3 d' v) ∧ (i = x.ds.length → MP.fin x s2 = true → J.stop i q2.H)
theorem ItOk.mono {K : PySem.W.Frag} {C : Tab} {J : It} {x : Src} {q q' : Stt} (k : Kp q q') (h : ItOk K C J x q) : ItOk K C J x q' := fun q2 s2 i k2 R => h q2 s2 i (k.trans k2) R
abbrev rI' (K : PySem.W.Frag) (C : Tab) : Stt → Stt → Src → It → Prop := fun _ q' x J => ItOk K C J x q'
def GI (X : Cx) (C : Tab) (W : Wx) (tg e : Expr) (m : MI) : Prop := PI X tg e (tM X.K C W (rI' X.K C) m)
section
variable {X : Cx} {C : Tab} {W : Wx} {tg l a b : Expr} {p pos : Pos} {ml ma mb : ME}
/-- a list or a tuple, walked -/
def tAny (K : PySem.W.Frag) (tl : TE) : TI := fun σ H R => tl σ H fun x H1 => ∃ a, x = .ref a ∧ (((∃ xs, SqL K H1 a xs) ∧ R (Itl K a) H1) ∨ ((∃ xs, SqT K H1 a xs) ∧ R (Itt K a) H1))
theorem pi_any {tl : TE} (hl : PE X l tl) : PI X tg l (tAny X.K tl) := by
  constructor
  intro pins s σ H R I h
  refine thn (hl.run pins s σ H _ I h) ?_
  rintro v s1 ⟨x, H1, I1, r1, a, rfl, q⟩
  cases r1
  have kept : ∀ o, Inv X pins σ H1 { s1 with heap := s1.heap.push o } := fun o => I1.kept (t' := s1.toks) fun b u e => Heap.get?_push_of_some _ e
  have fp : ∀ b ∈ [s1.heap.objs.size], FpOk X pins H1 b := fun b hb => by
    obtain rfl : b = s1.heap.objs.size := by simpa using hb
    exact I1.fpOk Nat.le.refl (I1.hok.fresh Nat.le.refl)
  rcases q with ⟨⟨xs, hq⟩, q⟩ | ⟨⟨xs, hq⟩, q⟩
  · obtain ⟨its, _, pl, _⟩ := I1.list hq
    exact wpAny_pyIter_list pl.isList ⟨_, [_], _, _, H1, rfl, kept _, turn_list a _, ⟨_, Heap.get?_push_size _ rfl, rfl, rfl⟩, fp, q⟩
  · obtain ⟨its, _, pl, _⟩ := I1.tuple hq
    exact wpAny_pyIter_tuple (show s1.heap.IsTuple a its.toArray from pl) ⟨_, [_], _, _, H1, rfl, kept _, turn_tuple a _, ⟨_, Heap.get?_push_size _ rfl, rfl, rfl⟩, fp, q⟩
theorem seqL_inj {K : PySem.W.Frag} {H : Hp} {a : Addr} {xs ys : List V} (h : H a = some (.lst xs)) (g : Rd H a (.lst ys)) : ys = xs := by
  rcases g with g | ⟨o, g⟩
  · rw [h] at g; cases g; rfl
  · rw [h] at g; cases g
theorem gi_seq (hl : GE X C W l ml) : GI X C W tg l (iSeq ml) := PI.imp (pi_any hl) fun σ H R ⟨q0, q, env, s, eq, E, L, p⟩ => by
  subst eq
  refine tM.first (f := fun x s1 => .ofO (srcOf s1 x) s1) E L p (fun q1 x1 q2 a b w => w) fun x s1 vx q1 x1 E1 L1 y1 p1 => ?_
  cases f : srcOf s1 x with
  | none => rw [f] at p1; exact p1.elim
  | some src =>
    rw [f] at p1
    have go := fun J (ok : ItOk X.K C J src q1) => p1 J q1 (Ext.refl q1) L1 ok
    cases y1 with
    | @tup a vs ds g r =>
      cases f
      refine ⟨a, rfl, .inr ⟨⟨vs, g.sq⟩, go _ fun q2 s2 i k R2 => ⟨fun d d' h1 h2 => ?_, fun hi _ => ?_⟩⟩⟩
      · cases h2
        have g2 := (g.mono k).sq
        obtain ⟨v, h3, h4⟩ := RDs.get (RDs.mono k _ r) h1
        exact ⟨⟨vs, v, g2, h3⟩, fun u H3 ⟨e1, e2⟩ => ⟨q2, e1.symm, Ext.refl q2, R2, by
          have := e2 vs g2
          rw [h3] at this
          cases this
          exact h4⟩⟩
      · exact ⟨vs, (g.mono k).sq, by rw [r.length]; exact Nat.le_of_eq hi.symm⟩
    | @lst a vs ds g r =>
      cases f
      refine ⟨a, rfl, .inl ⟨⟨vs, SqL.of g.1⟩, go _ fun q2 s2 i k R2 => ⟨fun d d' h1 h2 => ?_, fun hi _ => ?_⟩⟩⟩
      · cases h2
        have g2 : SqL X.K q2.H a vs := SqL.of (g.mono k).1
        obtain ⟨v, h3, h4⟩ := RDs.get (RDs.mono k _ r) h1
        exact ⟨⟨vs, v, g2, h3⟩, fun u H3 ⟨e1, e2⟩ => ⟨q2, e1.symm, Ext.refl q2, R2, by
          have := e2 vs g2
          rw [h3] at this
          cases this
          exact h4⟩⟩
      · exact ⟨vs, SqL.of (g.mono k).1, by rw [r.length]; exact Nat.le_of_eq hi.symm⟩
    | @scr ns a g =>
      cases f
      have r : RDs X.K q1 (ns.map D.int) (ns.map V.int) := RDs.ints ns
      refine ⟨a, rfl, .inl ⟨⟨_, g.sq⟩, go _ fun q2 s2 i k R2 => ⟨fun d d' h1 h2 => ?_, fun hi _ => ?_⟩⟩⟩
      · cases h2
        have g2 : SqL X.K q2.H a (ns.map V.int) := (g.mono k).sq
        obtain ⟨v, h3, h4⟩ := RDs.get (RDs.mono k _ r) h1
        exact ⟨⟨_, v, g2, h3⟩, fun u H3 ⟨e1, e2⟩ => ⟨q2, e1.symm, Ext.refl q2, R2, by
          have := e2 _ g2
          rw [h3] at this
          cases this
          exact h4⟩⟩
      · exact ⟨_, (g.mono k).sq, by rw [r.length]; exact Nat.le_of_eq hi.symm⟩
    | @ref n a g =>
      simp only [srcOf] at f
      split at f
      · rename_i ds e
        cases f
        obtain ⟨vs, h1, r⟩ := L1.obs n _ a e g
        refine ⟨a, rfl, .inl ⟨⟨vs, SqL.of h1⟩, go _ fun q2 s2 i k R2 => ⟨fun d d' h1 h2 => ?_, fun hi hf => ?_⟩⟩⟩
        · simp only [cur] at h2
          split at h2
          · rename_i es ee
            split at h2
            · obtain ⟨us, h3, r3⟩ := R2.obs n _ a ee (pre_get k.pre g)
              obtain ⟨v, h4, h5⟩ := RDs.get r3 h2
              exact ⟨⟨us, v, SqL.of h3, h4⟩, fun u H3 ⟨e1, e2⟩ => ⟨q2, e1.symm, Ext.refl q2, R2, by
                have := e2 us (SqL.of h3)
                rw [h4] at this
                cases this
                exact h5⟩⟩
            · cases h2
          · cases h2
        · simp only [MP.fin] at hf
          split at hf
          · rename_i es ee
            obtain ⟨us, h3, r3⟩ := R2.obs n _ a ee (pre_get k.pre g)
            have hf' : es.length = ds.length := by simpa using hf
            exact ⟨us, SqL.of h3, by rw [r3.length, hf']; exact Nat.le_of_eq hi.symm⟩
          · cases hf
      · cases f
    | _ => cases f
/-- an iterator's turns that change nothing -/
theorem itOk_still {K : PySem.W.Frag} {J : It} {ds : List D} {q : Stt} (h : ∀ (q2 : Stt) (i : Nat), Kp q q2 → (∀ d, ds[i]? = some d → J.go i q2.H ∧ ∀ v H3, J.yld i q2.H v H3 → H3 = q2.H ∧ RD K q2 d v) ∧ (i = ds.length → J.stop i q2.H)) : ItOk K C J ⟨ds, none⟩ q :=
  fun q2 s2 i k R => ⟨fun d d' h1 h2 => by
    cases h2
    obtain ⟨g, y⟩ := (h q2 i k).1 d h1
    exact ⟨g, fun v H3 e => ⟨q2, (y v H3 e).1.symm, Ext.refl q2, R, (y v H3 e).2⟩⟩, fun hi _ => (h q2 i k).2 hi⟩
theorem intsD_get {lo : Int} {n i : Nat} {d : D} (h : (intsD lo n)[i]? = some d) : i < n ∧ d = .int (lo + (i : Int)) := by
  unfold intsD at h
  rw [List.getElem?_map] at h
  cases e : (List.range n)[i]? with
  | none => rw [e] at h; exact nomatch h
  | some j =>
    rw [e] at h
    cases h
    obtain ⟨h1, h2⟩ := List.getElem?_eq_some_iff.mp e
    simp at h1 h2
    subst h2
    exact ⟨h1, rfl⟩
theorem intsD_len (lo : Int) (n : Nat) : (intsD lo n).length = n := by simp [intsD]
theorem gi_range (hm : X.mg "range" = none) (ha : GE X C W a ma) (hg : Gl X "range" := by rfl) (h1 : starEach [a] X.env = (false, eval a X.env) :: starEach [] X.env := by rfl) (hs : starEach [a] X.env = [(false, eval a X.env)] := by rfl) :
    GI X C W tg (.Call (.Name "range" p) [a] [] pos) (iRng ma) := PI.imp (pi_range1 hg hm (pa_cons ha pa_nil h1) hs) fun σ H R ⟨q0, q, env, s, eq, E, L, p⟩ => by
  subst eq
  refine tM.first (f := fun x s1 => (match x with | .int j => if -(cap : Int) ≤ j ∧ j ≤ cap then Res.ok (⟨intsD 0 j.toNat, none⟩ : Src) s1 else .stk | _ => .stk : Res Src)) E L p (fun q1 x1 q2 a b w => w) fun x s1 vx q1 x1 E1 L1 y1 p1 => ?_
  cases y1 with
  | int j =>
    simp only at p1
    by_cases hj : -(cap : Int) ≤ j ∧ j ≤ cap
    · rw [if_pos hj] at p1
      have hc : (cap : Int) < 2 ^ 62 := by unfold cap; omega
      refine ⟨j, rfl, by omega, by omega, p1 _ q1 (Ext.refl q1) L1 (itOk_still fun q2 i k => ⟨fun d h => ?_, fun h => ?_⟩)⟩
      · obtain ⟨h2, rfl⟩ := intsD_get h
        exact ⟨h2, fun v H3 ⟨e1, e2⟩ => ⟨e1, by rw [e2]; exact .int _⟩⟩
      · rw [intsD_len] at h
        exact Nat.le_of_eq h.symm
    · rw [if_neg hj] at p1; exact p1.elim
  | _ => exact p1.elim
end

/-! ### comprehensions -/
def GTs (X : Cx) (C : Tab) (W : Wx) (es : List Expr) (m : MT) : Prop := PTs X es (tM X.K C W rT m)
theorem PTs.imp {X : Cx} {es : List Expr} {t t' : TT} (h : PTs X es t) (hi : ∀ σ H Q, t' σ H Q → t σ H Q) : PTs X es t' := ⟨fun pins s σ H Q I z => h.run pins s σ H Q I (hi σ H Q z)⟩
theorem gts_nil {X : Cx} {C : Tab} {W : Wx} : GTs X C W [] tYesM := PTs.imp pts_nil fun σ H Q ⟨q0, q, env, s, eq, E, L, p⟩ => by
  subst eq
  exact p true q (Ext.refl q) L rfl
theorem gts_one {X : Cx} {C : Tab} {W : Wx} {c : Expr} {mt : MT} (h : GT X C W c mt) : GTs X C W [c] mt := pts_one h
theorem wipe_get {σ : St} {j : Nat} : ∀ {vs : List Nat}, j ∈ vs → (wipe σ vs)[j]? = none ∨ (wipe σ vs)[j]? = some none
  | v :: vs, h => by
    unfold wipe
    by_cases e : v = j
    · subst e
      by_cases hv : v < List.length (wipe σ vs)
      · exact .inr (List.getElem?_set_self hv)
      · exact .inl (by rw [List.getElem?_eq_none]; simpa using hv)
    · rw [List.getElem?_set_ne e]
      rcases (List.mem_cons.mp h) with z | z
      · exact absurd z.symm e
      · exact wipe_get z
theorem wipe_out {σ : St} {j : Nat} : ∀ {vs : List Nat}, j ∉ vs → (wipe σ vs)[j]? = σ[j]?
  | [], _ => rfl
  | v :: vs, h => by
    unfold wipe
    rw [List.getElem?_set_ne (fun e => h (by simp [e]))]
    exact wipe_out fun z => h (List.mem_cons_of_mem _ z)
/-- what differs from the wiped at wiped places alone is wiped to the same -/
theorem wipe_eq {σ σ' : St} {vs : List Nat} (hl : σ'.length = σ.length) (h : ∀ j, j ∉ vs → σ'[j]? = (wipe σ vs)[j]?) : wipe σ' vs = wipe σ vs := by
  apply List.ext_getElem?
  intro j
  by_cases hj : j ∈ vs
  · have a := wipe_get (σ := σ') hj
    have b := wipe_get (σ := σ) hj
    have la : (wipe σ' vs).length = (wipe σ vs).length := by rw [wipe_length, wipe_length, hl]
    rcases a with a | a <;> rcases b with b | b
    · rw [a, b]
    · exfalso
      have h1 := (List.getElem?_eq_some_iff.mp b).1
      have h2 := List.getElem?_eq_none_iff.mp a
      omega
    · exfalso
      have h1 := (List.getElem?_eq_some_iff.mp a).1
      have h2 := List.getElem?_eq_none_iff.mp b
      omega
    · rw [a, b]
  · rw [wipe_out hj, h j hj]
theorem RE.wipe {K : PySem.W.Frag} {C : Tab} {q0 q : Stt} {env : MP.Env} {σ : St} (E : RE K C q0 q env σ) : ∀ vs : List Nat, RE K C q0 q (wipeE env vs) (L2.wipe σ vs)
  | [] => E
  | v :: vs => by
    have E := E.wipe vs
    show RE K C q0 q ((wipeE env vs).set v .emp) ((L2.wipe σ vs).set v none)
    have ne : ∀ {l : Nat} {o : Slot}, ((wipeE env vs).set v .emp)[l]? = some o → o ≠ .emp → v ≠ l := fun {l o} h n e => by
      subst e
      have hi : v < (wipeE env vs).length := by
        have := (List.getElem?_eq_some_iff.mp h).1
        simpa using this
      rw [List.getElem?_set_self hi] at h
      cases h
      exact n rfl
    refine ⟨by simp [E.len], fun i d h => ?_, fun i ds h => ?_, fun i j ds es a h1 h2 h3 h4 => ?_, E.w0, fun i y h => ?_⟩
    · have n := ne h (by intro z; cases z)
      rw [List.getElem?_set_ne n] at h ⊢
      exact E.val i d h
    · have n := ne h (by intro z; cases z)
      rw [List.getElem?_set_ne n] at h ⊢
      exact E.own i ds h
    · have n1 := ne h1 (by intro z; cases z)
      have n2 := ne h2 (by intro z; cases z)
      rw [List.getElem?_set_ne n1] at h1 h3
      rw [List.getElem?_set_ne n2] at h2 h4
      exact E.inj i j ds es a h1 h2 h3 h4
    · have n := ne h (by intro z; cases z)
      rw [List.getElem?_set_ne n] at h ⊢
      exact E.exn i y h
/-- nothing may be raised -/
abbrev W0 : Wx := fun _ _ _ _ => False
theorem Post.calm {α β γ δ : Type} {K : PySem.W.Frag} {C : Tab} {W : Wx} {R : Stt → Stt → α → β → Prop} {R' : Stt → Stt → γ → δ → Prop} {q q4 : Stt} {σ τ : St} {Q : δ → Hp → Prop} {P : β → Hp → Prop} {m : Res α} {f : α → Sto → Res γ} (h : Post K C W R' q σ Q ((MP.calm m).bind f))
    (k : ∀ a s, m = .ok a s → ∀ b q', Ext q4 q' → Rel K C s q' → R q4 q' a b → Post K C W R' q σ Q (f a s) → P b q'.H) : Post K C W0 R q4 τ P m := by
  cases m with
  | ok a s => exact fun b q' x r y => k a s rfl b q' x r y h
  | exc x s => exact h.elim
  | stk => exact h.elim
theorem Res.bind_assoc {α β γ : Type} (m : Res α) (f : α → Sto → Res β) (g : β → Sto → Res γ) : (m.bind f).bind g = m.bind fun a s => (f a s).bind g := by cases m <;> rfl
/-- an object of one's own is written -/
theorem Ext.own {q q' : Stt} {p : Addr} {o : HO} (x : Ext q q') (h : Fr q p) : Ext q ⟨upd q'.H p o, q'.L, q'.r⟩ :=
  ⟨fun a u e n t => by show upd q'.H p o a = _; rw [upd_ne (h.ne e t)]; exact x.keep a u e n t, x.mono, fun a u e n t => ⟨by show upd q'.H p o a = _; rw [upd_ne (h.ne e t)]; exact (x.u a u e n t).1, (x.u a u e n t).2⟩, x.pre, x.new,
    fun a u e t => by obtain ⟨o', h', t'⟩ := x.th a u e t; exact ⟨o', by show upd q'.H p o a = _; rw [upd_ne (h.ne e t)]; exact h', t'⟩⟩
theorem Kp.own {q q' : Stt} {p : Addr} {o : HO} (x : Kp q q') (h : Fr q p) : Kp q ⟨upd q'.H p o, q'.L, q'.r⟩ :=
  ⟨fun a u e n t => ⟨by show upd q'.H p o a = _; rw [upd_ne (h.ne e t)]; exact (x.u a u e n t).1, (x.u a u e n t).2⟩, x.pre⟩
theorem Kp.wr {q : Stt} {p : Addr} {o : HO} (h : q.L p) : Kp q ⟨upd q.H p o, q.L, q.r⟩ :=
  ⟨fun a u e n _ => ⟨by
    have ne : a ≠ p := fun z => by subst z; exact n h
    show upd q.H p o a = _
    rw [upd_ne ne]; exact e, n⟩, ⟨[], by simp⟩⟩
theorem Rel.wr {K : PySem.W.Frag} {C : Tab} {q : Stt} {s : Sto} {p : Addr} {o w : HO} (R : Rel K C s q) (h : q.L p) (n : p ∉ q.r) (hw : q.H p = some w) (n1 : NT w) (n2 : ∀ f, w ≠ .ext f) (nt : NT o := by exact fun _ z => nomatch z) : Rel K C s ⟨upd q.H p o, q.L, q.r⟩ :=
  ⟨⟨R.wf.nd, R.wf.live, fun a l => by
    by_cases e : a = p
    · exact ⟨o, by show upd q.H p o a = _; rw [e]; exact upd_same, nt⟩
    · obtain ⟨u, hu, t⟩ := R.wf.trk a l
      exact ⟨u, by show upd q.H p o a = _; rw [upd_ne e]; exact hu, t⟩⟩, R.len, fun k ob a e f => (R.obs k ob a e f).mono (Kp.wr h) (by
        have ne : a ≠ p := fun z => by subst z; exact n (List.mem_of_getElem? f)
        show upd q.H p o a = _
        rw [upd_ne ne]), tabs_upd R.tb hw n1 n2 nt⟩
section
variable {K : PySem.W.Frag} {C : Tab} {W : Wx}
theorem lc_imp {mi : MI} {g : MG} {mt : MT} {me : ME} {gvs vs : List Nat} (hsub : ∀ j ∈ gvs, j ∈ vs) (σ : St) (H : Hp) (Q : VK) (h : tM K C W (RN K) (lLc mi g mt me vs) σ H Q) :
    tLc (tM K C W (rI' K C) mi) (tG K C g gvs) (tM K C W0 rT mt) (tM K C W0 (rD K) me) vs σ H Q := by
  obtain ⟨q0, q, env, s, eq, E, L, p⟩ := h
  subst eq
  refine tM.first0 (f := fun x s1 => if x.ds.length ≤ cap then lcL x g mt me (wipeE env vs) 0 x.ds s1 else .stk) E L p fun x s1 J q1 x1 L1 ok p1 => ?_
  by_cases hsz : x.ds.length ≤ cap
  · rw [if_pos hsz] at p1
    intro Dl hD
    have hq : Fr q Dl := x1.free L.wf hD fun z => by
      obtain ⟨t, e⟩ := x1.pre
      exact L1.wf.nor hD (by rw [e]; exact List.mem_append_left _ z)
    refine ⟨fun i m H => ∃ (q' : Stt) (s' : Sto) (acc : List D) (av : List V), H = q'.H ∧ i ≤ x.ds.length ∧ m = x.ds.length - i ∧ acc.length ≤ i ∧ Ext q q' ∧ Kp q1 q' ∧ Rel K C s' q' ∧ q'.H Dl = some (.lst av) ∧ q'.L Dl ∧ Dl ∉ q'.r ∧ RDs K q' acc av ∧
      Post K C W (RN K) q σ Q ((lcL x g mt me (wipeE env vs) i (x.ds.drop i) s').bind fun ys s3 => .ok (acc ++ ys) s3),
      ⟨x.ds.length, ⟨upd q1.H Dl (.lst []), fun a => q1.L a ∨ a = Dl, q1.r⟩, s1, [], [], rfl, Nat.zero_le _, rfl, Nat.zero_le _, x1.trans (Ext.newL L1.wf hD), (Ext.newL L1.wf hD).kp, L1.newL hD, upd_same, .inr rfl, L1.wf.nor hD, .nil, by
        rw [List.drop_zero]
        cases e : lcL x g mt me (wipeE env vs) 0 x.ds s1 with
        | ok a s => rw [e] at p1; exact p1
        | exc a s => rw [e] at p1; exact p1
        | stk => rw [e] at p1; exact p1⟩, ?_⟩
    rintro i m H ⟨q', s', acc, av, rfl, hi, rfl, hacc, X1, K1, R1, hDl, hL, hr, racc, P⟩
    obtain ⟨okI, okE⟩ := ok q' s' i K1 R1
    rcases Nat.lt_or_ge i x.ds.length with hlt | hge
    · obtain ⟨d, hd⟩ : ∃ d, x.ds[i]? = some d := ⟨_, List.getElem?_eq_getElem hlt⟩
      have hdrop : x.ds.drop i = d :: x.ds.drop (i + 1) := by
        rw [List.drop_eq_getElem_cons hlt]; have := List.getElem?_eq_getElem hlt
        rw [hd] at this
        cases this
        rfl
      rw [hdrop] at P
      simp only [lcL] at P
      cases hcur : cur x s' i d with
      | none => rw [hcur] at P; exact P.elim
      | some d' =>
        rw [hcur] at P
        simp only [Option.bind_some] at P
        cases hg : g d' (wipeE env vs) with
        | none => rw [hg] at P; exact P.elim
        | some env1 =>
          rw [hg] at P
          simp only [Res.ofO_some, Res.bind_ok] at P
          obtain ⟨go, yl⟩ := okI d d' hd hcur
          refine .inr ⟨go, fun H' => ∃ (q' : Stt) (s' : Sto) (acc : List D) (av : List V), H' = q'.H ∧ i + 1 ≤ x.ds.length ∧ acc.length ≤ i + 1 ∧ Ext q q' ∧ Kp q1 q' ∧ Rel K C s' q' ∧ q'.H Dl = some (.lst av) ∧ q'.L Dl ∧ Dl ∉ q'.r ∧ RDs K q' acc av ∧
            Post K C W (RN K) q σ Q ((lcL x g mt me (wipeE env vs) (i + 1) (x.ds.drop (i + 1)) s').bind fun ys s3 => .ok (acc ++ ys) s3),
            fun H' ⟨q', s', acc, av, h1, h2, h3, h4, h5, h6, h7, h8, h9, h10, h11⟩ => ⟨x.ds.length - (i + 1), by omega, q', s', acc, av, h1, h2, rfl, h3, h4, h5, h6, h7, h8, h9, h10, h11⟩, fun v H3 hy => ?_⟩
          obtain ⟨q3, rfl, X3, R3, rd⟩ := yl v H3 hy
          refine ⟨q0, q3, wipeE env vs, env1, s', d', rfl, (E.wipe vs).ext (X1.trans X3), R3, rd, hg, fun σ2 q4 X4 R4 E4 n4 w4 => ⟨wipe_eq (by rw [n4, wipe_length]) fun j hj => w4 j fun z => hj (hsub j z), ?_⟩⟩
          refine ⟨q0, q4, env1, s', rfl, E4, R4, ?_⟩
          rw [Res.bind_assoc] at P
          refine Post.calm P fun b s5 _ b' q5 X5 R5 e5 P5 => ?_
          subst e5
          have X15 := ((X1.trans X3).trans X4).trans X5
          have X35 := (X3.trans X4).trans X5
          cases b with
          | false =>
            refine iteF ⟨q5, s5, acc, av, rfl, hlt, by omega, X15, K1.trans X35.kp, R5, X35.keep Dl _ hDl hr (fun _ z => nomatch z), X35.mono Dl hL, (fun z => (X35.new Dl z).elim hr fun n => by exact n _ hDl fun _ z => nomatch z), RDs.mono X35.kp _ racc, ?_⟩
            simpa using P5
          | true =>
            refine iteT ⟨q0, q5, env1, s5, rfl, E4.ext X5, R5, ?_⟩
            simp only [if_true] at P5
            rw [Res.bind_assoc] at P5
            refine Post.calm P5 fun y s6 _ yv q6 X6 R6 e6 P6 => ?_
            have X36 := X35.trans X6
            have X16 := X15.trans X6
            have hD6 := X36.keep Dl _ hDl hr (fun _ z => nomatch z)
            have hL6 := X36.mono Dl hL
            have hr6 : Dl ∉ q6.r := fun z => (X36.new Dl z).elim hr fun n => by exact n _ hDl fun _ z => nomatch z
            refine ⟨av, hD6, ?_, ?_⟩
            · rw [racc.length]
              exact Nat.lt_of_lt_of_le (show acc.length < cap by omega) (lenS (Nat.le_refl _))
            · have kw : Kp q6 ⟨upd q6.H Dl (.lst (av ++ [yv])), q6.L, q6.r⟩ := Kp.wr hL6
              refine ⟨⟨upd q6.H Dl (.lst (av ++ [yv])), q6.L, q6.r⟩, s6, acc ++ [y], av ++ [yv], rfl, hlt, by simp; omega, X16.own hq, (K1.trans X36.kp).own (Fr.of hD), R6.wr hL6 hr6 hD6 (fun _ z => nomatch z) (fun _ z => nomatch z), upd_same, hL6, hr6, RDs.mono kw _ ((RDs.mono X36.kp _ racc).append (.cons e6 .nil)), ?_⟩
              rw [Res.bind_assoc] at P6
              simp only [Res.bind_ok] at P6
              simpa using P6
    · have hz : i = x.ds.length := by omega
      subst hz
      rw [List.drop_length] at P
      simp only [lcL] at P
      cases hf : MP.fin x s' with
      | false => rw [hf] at P; exact P.elim
      | true =>
        rw [hf] at P
        simp only [if_true, Res.bind_ok, List.append_nil] at P
        exact .inl ⟨okE rfl hf, P (.ref Dl) q' X1 R1 ⟨Dl, av, rfl, hq, hDl, hL, hr, racc⟩⟩
  · rw [if_neg hsz] at p1
    exact p1.elim
end
end MP

/-! Statements and bodies. Own text. -/
namespace MP
open PySem L2

/-! ### a statement follows its function -/
def PostS (K : PySem.W.Frag) (C : Tab) (W : Wx) (q0 q : Stt) (D : Ends) : SRes → Prop
  | .nx e s => ∀ σ' q', Ext q0 q' → Kp q q' → Rel K C s q' → RE K C q0 q' e σ' → D.nx σ' q'.H
  | .rt d s => ∀ v q', Ext q0 q' → Kp q q' → Rel K C s q' → RD K q' d v → D.rt v q'.H
  | .bk e s => ∀ σ' q', Ext q0 q' → Kp q q' → Rel K C s q' → RE K C q0 q' e σ' → D.bk σ' q'.H
  | .ct e s => ∀ σ' q', Ext q0 q' → Kp q q' → Rel K C s q' → RE K C q0 q' e σ' → D.ct σ' q'.H
  | .ex x e s => ∀ cls d σ' q', Ext q0 q' → Kp q q' → Rel K C s q' → RE K C q0 q' e σ' → RX q' C K x cls d → W cls d σ' q'.H
  | .stk => False
def tS (K : PySem.W.Frag) (C : Tab) (W : Wx) (m : MS) : TS := fun D σ H => ∃ (q0 q : Stt) (env : MP.Env) (s : Sto), q.H = H ∧ Ext q0 q ∧ RE K C q0 q env σ ∧ Rel K C s q ∧ PostS K C W q0 q D (m env s)
def GS (X : Cx) (C : Tab) (W : Wx) (st : Stmt) (m : MS) : Prop := PS X st (tS X.K C W m)
def GSs (X : Cx) (C : Tab) (W : Wx) (sts : List Stmt) (m : MS) : Prop := PSs X sts (tS X.K C W m)
section
variable {K : PySem.W.Frag} {C : Tab} {W : Wx} {q0 q q1 : Stt} {De : Ends} {σ : St} {env : MP.Env} {s : Sto}
theorem PostS.later {r : SRes} (k : Kp q q1) (h : PostS K C W q0 q De r) : PostS K C W q0 q1 De r := by
  cases r with
  | nx e s => exact fun a b c d f g => h a b c (k.trans d) f g
  | rt e s => exact fun a b c d f g => h a b c (k.trans d) f g
  | bk e s => exact fun a b c d f g => h a b c (k.trans d) f g
  | ct e s => exact fun a b c d f g => h a b c (k.trans d) f g
  | ex x e s => exact fun a b c d f g i j l => h a b c d f (k.trans g) i j l
  | stk => exact h
/-- an expression's answer, then on -/
theorem tS.first {α β : Type} {R : Stt → Stt → α → β → Prop} {m : MP.Env → Sto → Res α} {f : α → Sto → SRes} {P : β → Hp → Prop} (X0 : Ext q0 q) (E : RE K C q0 q env σ) (L : Rel K C s q) (h : PostS K C W q0 q De ((m env s).go env f))
    (k : ∀ a s1 b q1, Ext q q1 → Ext q0 q1 → RE K C q0 q1 env σ → Rel K C s1 q1 → R q q1 a b → PostS K C W q0 q1 De (f a s1) → P b q1.H) : tM K C W R m σ q.H P := by
  refine ⟨q0, q, env, s, rfl, E, L, ?_⟩
  cases e : m env s with
  | stk => rw [e] at h; exact h
  | exc x s' => rw [e] at h; exact fun cls d q' x1 r1 rx => h cls d σ q' (X0.trans x1) x1.kp r1 (E.ext x1) rx
  | ok a s' => rw [e] at h; exact fun b q' x1 r1 y => k a s' b q' x1 (X0.trans x1) (E.ext x1) r1 y (h.later x1.kp)
/-- a placed object is written -/
theorem wr_placed {n : Nat} {a : Addr} {o o' : Ob} {ho : HO} (L : Rel K C s q) (h1 : s[n]? = some o) (h2 : q.r[n]? = some a) (h3 : RO K C ⟨upd q.H a ho, q.L, q.r⟩ a o') : Ext q ⟨upd q.H a ho, q.L, q.r⟩ ∧ Rel K C (s.set n o') ⟨upd q.H a ho, q.L, q.r⟩ := by
  have ha : a ∈ q.r := List.mem_of_getElem? h2
  have la : q.L a := L.wf.live a ha
  have kp := Kp.wr (o := ho) la
  obtain ⟨w0, k0, k1, k2⟩ := (L.obs n o a h1 h2).kind
  obtain ⟨w3, k3, k4, _⟩ := h3.kind
  obtain rfl : ho = w3 := Option.some.inj (upd_same.symm.trans k3)
  refine ⟨⟨fun b u e n _ => ?_, fun _ z => z, kp.u, kp.pre, fun _ z => .inl z, fun b u e t => ?_⟩, ⟨⟨L.wf.nd, L.wf.live, fun b l => ?_⟩, by simp [L.len], fun k ob b e f => ?_, tabs_upd L.tb k0 k1 k2 k4⟩⟩
  · have ne : b ≠ a := fun z => by subst z; exact n ha
    show upd q.H a ho b = _
    rw [upd_ne ne]; exact e
  · by_cases z : b = a
    · exact ⟨ho, by show upd q.H a ho b = _; rw [z]; exact upd_same, k4⟩
    · exact ⟨u, by show upd q.H a ho b = _; rw [upd_ne z]; exact e, t⟩
  · by_cases e : b = a
    · exact ⟨ho, by show upd q.H a ho b = _; rw [e]; exact upd_same, k4⟩
    · obtain ⟨u, hu, t⟩ := L.wf.trk b l
      exact ⟨u, by show upd q.H a ho b = _; rw [upd_ne e]; exact hu, t⟩
  · have hn : n < s.length := (List.getElem?_eq_some_iff.mp h1).1
    by_cases ek : n = k
    · subst ek
      rw [List.getElem?_set_self hn] at e
      cases e
      have f : q.r[n]? = some b := f
      rw [h2] at f
      cases f
      exact h3
    · rw [List.getElem?_set_ne ek] at e
      refine (L.obs k ob b e f).mono kp ?_
      have ne : b ≠ a := fun z => by
        subst z
        have h4 := (List.getElem?_eq_some_iff.mp h2)
        have h5 := (List.getElem?_eq_some_iff.mp (show q.r[k]? = some b from f))
        exact ek ((List.getElem_inj L.wf.nd).mp (h4.2.trans h5.2.symm))
      show upd q.H a ho b = _
      rw [upd_ne ne]
theorem RE.setOwn (E : RE K C q0 q1 env σ) (X0 : Ext q0 q) (L : Rel K C s q) (i : Nat) {p : Addr} {vs : List V} {ds : List D} (hE : RE K C q0 q env σ) (h1 : Fr q p) (h2 : q1.H p = some (.lst vs)) (h3 : q1.L p) (h4 : p ∉ q1.r) (h5 : RDs K q1 ds vs) :
    RE K C q0 q1 (env.set i (.own ds)) (σ.set i (some (.ref p))) := by
  have self : ∀ {l : Nat} {o : Slot}, (env.set i (.own ds))[l]? = some o → i = l → o = .own ds ∧ i < env.length := fun {l o} h e => by
    subst e
    have hi : i < env.length := by
      have := (List.getElem?_eq_some_iff.mp h).1
      simpa using this
    rw [List.getElem?_set_self hi] at h
    cases h
    exact ⟨rfl, hi⟩
  have h0 : Fr q0 p := X0.free' h1 L
  refine ⟨by simp [E.len], fun j d h => ?_, fun j es h => ?_, fun j k es fs a g1 g2 g3 g4 => ?_, E.w0, fun j y h => ?_⟩
  · by_cases e : i = j
    · cases (self h e).1
    · rw [List.getElem?_set_ne e] at h ⊢
      exact E.val j d h
  · by_cases e : i = j
    · obtain ⟨e1, e2⟩ := self h e
      cases e1
      subst e
      exact ⟨p, vs, List.getElem?_set_self (by rw [← E.len]; exact e2), h2, h3, h4, h5, h0⟩
    · rw [List.getElem?_set_ne e] at h ⊢
      exact E.own j es h
  · have old : ∀ {l : Nat} {xs : List D}, env[l]? = some (.own xs) → σ[l]? ≠ some (some (.ref p)) := fun {l xs} h z => by
      obtain ⟨a, us, z1, z2, _⟩ := hE.own l xs h
      rw [z] at z1
      cases z1
      exact h1 _ z2 fun _ z => nomatch z
    by_cases ej : i = j
    · by_cases ek : i = k
      · rw [← ej, ← ek]
      · obtain ⟨e1, e2⟩ := self g1 ej
        subst ej
        rw [List.getElem?_set_self (by rw [← E.len]; exact e2)] at g3
        cases g3
        rw [List.getElem?_set_ne ek] at g2 g4
        exact absurd g4 (old g2)
    · rw [List.getElem?_set_ne ej] at g1 g3
      by_cases ek : i = k
      · obtain ⟨e1, e2⟩ := self g2 ek
        subst ek
        rw [List.getElem?_set_self (by rw [← E.len]; exact e2)] at g4
        cases g4
        exact absurd g3 (old g1)
      · rw [List.getElem?_set_ne ek] at g2 g4
        exact E.inj j k es fs a g1 g2 g3 g4
  · by_cases e : i = j
    · cases (self h e).1
    · rw [List.getElem?_set_ne e] at h ⊢
      exact E.exn j y h
end

section
variable {X : Cx} {C : Tab} {W : Wx} {pos p' apos cpos : Pos} {e a b c o : Expr} {m mo mk : ME} {ml : MA} {st : Stmt} {rest body sa sb : List Stmt} {ms mu : MS} {mt : MT} {x : Str}
theorem gss_nil : GSs X C W [] sNext := PSs.imp pss_nil fun D σ H ⟨q0, q, env, s, eq, X0, E, L, p⟩ => by
  subst eq
  exact p σ q X0 (Kp.refl q) L E
theorem gss_one (h : GS X C W st ms) : GSs X C W [st] ms := pss_one h
theorem gss_cons (h : GS X C W st ms) (hr : GSs X C W rest mu) : GSs X C W (st :: rest) (sSeq ms mu) := PSs.imp (pss_cons h hr) fun D σ H ⟨q0, q, env, s, eq, X0, E, L, p⟩ => by
  subst eq
  refine ⟨q0, q, env, s, rfl, X0, E, L, ?_⟩
  unfold sSeq at p
  cases z : ms env s with
  | nx e' s' => rw [z] at p; exact fun σ' q' x1 k1 L1 E1 => ⟨q0, q', e', s', rfl, x1, E1, L1, PostS.later k1 p⟩
  | rt d s' => rw [z] at p; exact p
  | bk e' s' => rw [z] at p; exact p
  | ct e' s' => rw [z] at p; exact p
  | ex x e' s' => rw [z] at p; exact p
  | stk => rw [z] at p; exact p
theorem gs_pass : GS X C W (.Pass pos) sNext := PS.imp ps_pass fun D σ H ⟨q0, q, env, s, eq, X0, E, L, p⟩ => by
  subst eq
  exact p σ q X0 (Kp.refl q) L E
theorem gs_break : GS X C W (.Break pos) sBrk := PS.imp ps_break fun D σ H ⟨q0, q, env, s, eq, X0, E, L, p⟩ => by
  subst eq
  exact p σ q X0 (Kp.refl q) L E
theorem gs_continue : GS X C W (.Continue pos) sCnt := PS.imp ps_continue fun D σ H ⟨q0, q, env, s, eq, X0, E, L, p⟩ => by
  subst eq
  exact p σ q X0 (Kp.refl q) L E
theorem gs_expr (h : GE X C W e m) (hs : swapsWith e none pos.line X.env = pure false := by rfl) : GS X C W (.Expr e pos) (sDrop m) := PS.imp (ps_expr h hs) fun D σ H ⟨q0, q, env, s, eq, X0, E, L, p⟩ => by
  subst eq
  exact tS.first X0 E L p fun d s1 v q1 x1 X1 E1 L1 y p1 => p1 σ q1 X1 (Kp.refl q1) L1 E1
theorem gs_ret (h : GE X C W e m) : GS X C W (.Return (some e) pos) (sRet m) := PS.imp (ps_ret h) fun D σ H ⟨q0, q, env, s, eq, X0, E, L, p⟩ => by
  subst eq
  exact tS.first X0 E L p fun d s1 v q1 x1 X1 E1 L1 y p1 => p1 v q1 X1 (Kp.refl q1) L1 y
theorem gs_if (hc : GT X C W c mt) (ha : GSs X C W sa ms) (hb : GSs X C W sb mu) : GS X C W (.If c sa sb pos) (sIf mt ms mu) := PS.imp (ps_if hc ha hb) fun D σ H ⟨q0, q, env, s, eq, X0, E, L, p⟩ => by
  subst eq
  refine tS.first X0 E L p fun d s1 v q1 x1 X1 E1 L1 y p1 => ?_
  cases y
  cases d with
  | true => exact iteT ⟨q0, q1, env, s1, rfl, X1, E1, L1, p1⟩
  | false => exact iteF ⟨q0, q1, env, s1, rfl, X1, E1, L1, p1⟩
/-- a name's store, whatever its value's rule -/
theorem set_imp {K : PySem.W.Frag} (i : Nat) (D : Ends) (σ : St) (H : Hp) (h : tS K C W (sAsg m (gNm i)) D σ H) : tAsg (tM K C W (rD K) m) (gName i) D σ H := by
  obtain ⟨q0, q, env, s, eq, X0, E, L, p⟩ := h
  subst eq
  exact tS.first X0 E L p fun d s1 v q1 x1 X1 E1 L1 y p1 => p1 _ q1 X1 (Kp.refl q1) L1 (E1.set i y)
theorem gs_set (i : Nat) (h : GE X C W e m) (hN : X.N.Nodup) (hi : X.N[i]? = some x := by rfl) (hx : Loc X.env.scope x := by first | exact Or.inl rfl | exact Or.inr rfl) (hs : swapsWith e (some (.Name x p')) pos.line X.env = pure false := by rfl) (hf : X.fn x = true ∨ X.env.scope.names.lookup x = some .local := by first | exact .inl rfl | exact .inr rfl) :
    GS X C W (.Assign [.Name x p'] e pos) (sAsg m (gNm i)) := PS.imp (ps_set hN hi hx h hs hf) (set_imp i)
theorem asg_imp {K : PySem.W.Frag} {g : MG} {vs : List Nat} (D : Ends) (σ : St) (H : Hp) (h : tS K C W (sAsg m g) D σ H) : tAsg (tM K C W (rD K) m) (tG K C g vs) D σ H := by
  obtain ⟨q0, q, env, s, eq, X0, E, L, p⟩ := h
  subst eq
  refine tS.first X0 E L p fun d s1 v q1 x1 X1 E1 L1 y p1 => ?_
  unfold putE at p1
  cases z : g d env with
  | none => rw [z] at p1; exact p1.elim
  | some env' => rw [z] at p1; exact ⟨q0, q1, env, env', s1, d, rfl, E1, L1, y, z, fun σ' q' x2 L2 E2 _ _ => p1 σ' q' (X1.trans x2) x2.kp L2 E2⟩
theorem gs_asg {tg : Expr} {g : MG} {vs : List Nat} (h : GE X C W e m) (hg : GG X C tg g vs) (hs : swapsWithSole [tg] e pos.line X.env = pure false := by rfl) (hw : swappedStores [tg] e X.env = pure none := by rfl) (h1 : (assignEach [tg] X.env).map (·.2) = [assign tg X.env] := by rfl) :
    GS X C W (.Assign [tg] e pos) (sAsg m g) := PS.imp (ps_asg h hg hs hw h1) asg_imp
/-- a list just made goes to a name: as a value, as the frame's own, placed -/
theorem new_own {K : PySem.W.Frag} (i : Nat) (D : Ends) (σ : St) (H : Hp) (h : tS K C W (sOwn ml i) D σ H) : tAsg (tM K C W (RN K) ml) (gName i) D σ H := by
  obtain ⟨q0, q, env, s, eq, X0, E, L, p⟩ := h
  subst eq
  refine tS.first X0 E L p fun d s1 v q1 x1 X1 E1 L1 y p1 => ?_
  obtain ⟨pp, vs, rfl, h1, h2, h3, h4, h5⟩ := y
  exact p1 _ q1 X1 (Kp.refl q1) L1 (RE.setOwn E1 X0 L i E h1 h2 h3 h4 h5)
theorem new_frz {K : PySem.W.Frag} (i : Nat) (D : Ends) (σ : St) (H : Hp) (h : tS K C W (sAsg (eFrz ml) (gNm i)) D σ H) : tAsg (tM K C W (RN K) ml) (gName i) D σ H := by
  obtain ⟨q0, q, env, s, eq, X0, E, L, p⟩ := h
  subst eq
  refine ⟨q0, q, env, s, rfl, E, L, ?_⟩
  unfold sAsg eFrz at p
  cases e : ml env s with
  | stk => rw [e] at p; exact p
  | exc z s' => rw [e] at p; exact fun cls d q' x1 r1 rx => p cls d σ q' (X0.trans x1) x1.kp r1 (E.ext x1) rx
  | ok ds s' =>
    rw [e] at p
    intro v q1 x1 L1 y
    obtain ⟨pp, vs, rfl, h1, h2, h3, h4, h5⟩ := y
    obtain ⟨e1, e2, e3⟩ := freeze L.wf x1 L1 h1 h2 h3 h4 h5
    exact p _ ⟨q1.H, fun a => q1.L a ∧ a ≠ pp, q1.r⟩ (X0.trans e1) e1.kp e2 ((E.ext e1).set i e3)
theorem new_plc {K : PySem.W.Frag} (i : Nat) (D : Ends) (σ : St) (H : Hp) (h : tS K C W (sAsg (ePlc ml) (gNm i)) D σ H) : tAsg (tM K C W (RN K) ml) (gName i) D σ H := by
  obtain ⟨q0, q, env, s, eq, X0, E, L, p⟩ := h
  subst eq
  refine ⟨q0, q, env, s, rfl, E, L, ?_⟩
  unfold sAsg ePlc at p
  cases e : ml env s with
  | stk => rw [e] at p; exact p
  | exc z s' => rw [e] at p; exact fun cls d q' x1 r1 rx => p cls d σ q' (X0.trans x1) x1.kp r1 (E.ext x1) rx
  | ok ds s' =>
    rw [e] at p
    intro v q1 x1 L1 y
    obtain ⟨pp, vs, rfl, h1, h2, h3, h4, h5⟩ := y
    obtain ⟨e1, e2, e3⟩ := placed L.wf x1 L1 h1 h2 h3 h4 h5
    exact p _ ⟨q1.H, q1.L, q1.r ++ [pp]⟩ (X0.trans e1) e1.kp e2 ((E.ext e1).set i e3)
/-- a statement that stores a new list under a name -/
def PN (X : Cx) (C : Tab) (W : Wx) (i : Nat) (st : Stmt) (l : MA) : Prop := PS X st (tAsg (tM X.K C W (RN X.K) l) (gName i))
theorem pn_set (i : Nat) (h : GL X C W e ml) (hN : X.N.Nodup) (hi : X.N[i]? = some x := by rfl) (hx : Loc X.env.scope x := by first | exact Or.inl rfl | exact Or.inr rfl) (hs : swapsWith e (some (.Name x p')) pos.line X.env = pure false := by rfl) (hf : X.fn x = true ∨ X.env.scope.names.lookup x = some .local := by first | exact .inl rfl | exact .inr rfl) :
    PN X C W i (.Assign [.Name x p'] e pos) ml := ps_set hN hi hx h hs hf
theorem gs_own {i : Nat} (h : PN X C W i st ml) : GS X C W st (sOwn ml i) := PS.imp h (new_own i)
theorem gs_frz {i : Nat} (h : PN X C W i st ml) : GS X C W st (sAsg (eFrz ml) (gNm i)) := PS.imp h (new_frz i)
theorem gs_plc {i : Nat} (h : PN X C W i st ml) : GS X C W st (sAsg (ePlc ml) (gNm i)) := PS.imp h (new_plc i)
/-- comprehensions -/
theorem gl_lc {elt tg iter : Expr} {ifs : List Expr} {scope : Scope} {own : List (Str × Nat)} {mi : MI} {g : MG} {me : ME} {gvs : List Nat} (hc : X.calm = true) (hN : X.N.Nodup) (hi : GI X C W tg iter mi) (ok : BlkOk X.N X.env.scope scope own)
    (hg : ∀ (s : Shared) (H : Hp) (Ca : Addr) (cl : List (Str × Addr)) (fp : List Addr), GG (X.blk s H scope (compEnvC scope cl Ca X.env) fp) C tg g gvs) (ht : ∀ (s : Shared) (H : Hp) (Ca : Addr) (cl : List (Str × Addr)) (fp : List Addr), GTs (X.blk s H scope (compEnvC scope cl Ca X.env) fp) C W0 ifs mt)
    (he : ∀ (s : Shared) (H : Hp) (Ca : Addr) (cl : List (Str × Addr)) (fp : List Addr), GE (X.blk s H scope (compEnvC scope cl Ca X.env) fp) C W0 elt me) (hsub : ∀ j ∈ gvs, j ∈ own.map (·.2) := by decide) (hs : ∀ x, foldedSetIterable iter X.env x = pure x := by intro _; rfl) :
    GL X C W (.ListComp elt [⟨tg, iter, ifs, 0⟩] scope pos) (lLc mi g mt me (own.map (·.2))) := PE.imp (pe_lc (g := tG X.K C g gvs) (tt := tM X.K C W0 rT mt) (te := tM X.K C W0 (rD X.K) me) hc hN hi ok hg ht he hs) (lc_imp hsub)
theorem pn_lc {i : Nat} {elt tg iter : Expr} {ifs : List Expr} {scope : Scope} {own : List (Str × Nat)} {mi : MI} {g : MG} {me : ME} {gvs : List Nat} (hc : X.calm = true) (hN : X.N.Nodup) (hi : GI X C W tg iter mi) (ok : BlkOk X.N X.env.scope scope own)
    (hg : ∀ (s : Shared) (H : Hp) (Ca : Addr) (cl : List (Str × Addr)) (fp : List Addr), GG (X.blk s H scope (compEnvC scope cl Ca X.env) fp) C tg g gvs) (ht : ∀ (s : Shared) (H : Hp) (Ca : Addr) (cl : List (Str × Addr)) (fp : List Addr), GTs (X.blk s H scope (compEnvC scope cl Ca X.env) fp) C W0 ifs mt)
    (he : ∀ (s : Shared) (H : Hp) (Ca : Addr) (cl : List (Str × Addr)) (fp : List Addr), GE (X.blk s H scope (compEnvC scope cl Ca X.env) fp) C W0 elt me) (hy : X.N[i]? = some x := by rfl) (hyl : X.env.scope.names.lookup x = some .local := by rfl)
    (hsw : swapsWith (.ListComp elt [⟨tg, iter, ifs, 0⟩] scope pos) (some (.Name x p')) cpos.line X.env = pure true := by exact sw_true rfl rfl rfl (by decide +kernel)) (hsub : ∀ j ∈ gvs, j ∈ own.map (·.2) := by decide) (hs : ∀ x, foldedSetIterable iter X.env x = pure x := by intro _; rfl) :
    PN X C W i (.Assign [.Name x p'] (.ListComp elt [⟨tg, iter, ifs, 0⟩] scope pos) cpos) (lLc mi g mt me (own.map (·.2))) :=
  PS.imp (ps_setLc (g := tG X.K C g gvs) (tt := tM X.K C W0 rT mt) (te := tM X.K C W0 (rD X.K) me) hc hN hy hyl hsw hi ok hg ht he hs) fun D σ H h => lc_imp hsub σ H _ h
end
end MP

/-! Loops, lists that grow, objects' fields, bodies of defs. Own text. -/
namespace MP
open PySem L2
section
variable {X : Cx} {C : Tab} {W : Wx} {pos p' apos cpos : Pos} {e a b c o : Expr} {m mo mk : ME} {ml : MA} {st : Stmt} {rest body sa sb : List Stmt} {ms mu : MS} {mt : MT} {x : Str}

/-! ### loops -/
theorem for_turns {K : PySem.W.Frag} {J : It} {xs : Src} {g : MG} {gvs : List Nat} {q0 qs : Stt} {D : Ends} (ok : ItOk K C J xs qs) :
    ∀ (m : Nat) (i : Nat) (q : Stt) (env : MP.Env) (s : Sto) (σ : St), m = xs.ds.length - i → i ≤ xs.ds.length → Ext q0 q → Kp qs q → RE K C q0 q env σ → Rel K C s q → PostS K C W q0 q D (forL xs g ms i (xs.ds.drop i) env s) →
      (J.stop i q.H ∧ D.nx σ q.H) ∨ (J.go i q.H ∧ ∀ v H', J.yld i q.H v H' → tG K C g gvs v σ H' fun σ2 H2 => tS K C W ms { D with
        nx := fun σ3 H3 => ∃ q3 env3 s3, q3.H = H3 ∧ i + 1 ≤ xs.ds.length ∧ Ext q0 q3 ∧ Kp qs q3 ∧ RE K C q0 q3 env3 σ3 ∧ Rel K C s3 q3 ∧ PostS K C W q0 q3 D (forL xs g ms (i + 1) (xs.ds.drop (i + 1)) env3 s3),
        ct := fun σ3 H3 => ∃ q3 env3 s3, q3.H = H3 ∧ i + 1 ≤ xs.ds.length ∧ Ext q0 q3 ∧ Kp qs q3 ∧ RE K C q0 q3 env3 σ3 ∧ Rel K C s3 q3 ∧ PostS K C W q0 q3 D (forL xs g ms (i + 1) (xs.ds.drop (i + 1)) env3 s3),
        bk := D.nx } σ2 H2) := by
  intro m i q env s σ hm hi X0 K1 E R P
  obtain ⟨okI, okE⟩ := ok q s i K1 R
  rcases Nat.lt_or_ge i xs.ds.length with hlt | hge
  · obtain ⟨d, hd⟩ : ∃ d, xs.ds[i]? = some d := ⟨_, List.getElem?_eq_getElem hlt⟩
    have hdrop : xs.ds.drop i = d :: xs.ds.drop (i + 1) := by
      rw [List.drop_eq_getElem_cons hlt]; have := List.getElem?_eq_getElem hlt
      rw [hd] at this
      cases this
      rfl
    rw [hdrop] at P
    simp only [forL] at P
    cases hcur : cur xs s i d with
    | none => rw [hcur] at P; exact P.elim
    | some d' =>
      rw [hcur] at P
      simp only [Option.bind_some] at P
      cases hg : g d' env with
      | none => rw [hg] at P; exact P.elim
      | some env1 =>
        rw [hg] at P
        simp only at P
        obtain ⟨go, yl⟩ := okI d d' hd hcur
        refine .inr ⟨go, fun v H' hy => ?_⟩
        obtain ⟨q3, rfl, X3, R3, rd⟩ := yl v H' hy
        refine ⟨q0, q3, env, env1, s, d', rfl, E.ext X3, R3, rd, hg, fun σ2 q4 X4 R4 E4 _ _ => ?_⟩
        refine ⟨q0, q4, env1, s, rfl, (X0.trans X3).trans X4, E4, R4, ?_⟩
        have k4 : Kp q q4 := (X3.trans X4).kp
        cases hb : ms env1 s with
        | nx e2 s2 => rw [hb] at P; exact fun σ' q' x1 k1 L1 E1 => ⟨q', e2, s2, rfl, hlt, x1, (K1.trans k4).trans k1, E1, L1, PostS.later (k4.trans k1) P⟩
        | ct e2 s2 => rw [hb] at P; exact fun σ' q' x1 k1 L1 E1 => ⟨q', e2, s2, rfl, hlt, x1, (K1.trans k4).trans k1, E1, L1, PostS.later (k4.trans k1) P⟩
        | bk e2 s2 => rw [hb] at P; exact fun σ' q' x1 k1 L1 E1 => P σ' q' x1 (k4.trans k1) L1 E1
        | rt d s2 => rw [hb] at P; exact fun v q' x1 k1 L1 r1 => P v q' x1 (k4.trans k1) L1 r1
        | ex z e2 s2 => rw [hb] at P; exact fun cls d σ' q' x1 k1 L1 E1 r1 => P cls d σ' q' x1 (k4.trans k1) L1 E1 r1
        | stk => rw [hb] at P; exact P.elim
  · have hz : i = xs.ds.length := by omega
    subst hz
    rw [List.drop_length] at P
    simp only [forL] at P
    cases hf : MP.fin xs s with
    | false => rw [hf] at P; exact P.elim
    | true =>
      rw [hf] at P
      exact .inl ⟨okE rfl hf, P σ q X0 (Kp.refl q) R E⟩
theorem gs_for {tg iter : Expr} {mi : MI} {g : MG} {gvs : List Nat} (hp : PassesOwn (model X.prog X.w) X.A X.env X.xe) (hc : X.calm = true) (hi : GI X C W tg iter mi) (hg : GG X C tg g gvs) (hb : GSs X C W body ms) (hs : ∀ x, foldedSetIterable iter X.env x = pure x := by intro _; rfl) :
    GS X C W (.For tg iter body [] pos) (sFor mi g ms) := PS.imp (ps_for hp hc hi hg hb hs) fun D σ H ⟨q0, q, env, s, eq, X0, E, L, p⟩ => by
  subst eq
  refine tS.first X0 E L p fun xs s1 J q1 x1 X1 E1 L1 ok p1 => ?_
  refine ⟨fun i m σ H => ∃ q3 env3 s3, q3.H = H ∧ m = xs.ds.length - i ∧ i ≤ xs.ds.length ∧ Ext q0 q3 ∧ Kp q1 q3 ∧ RE X.K C q0 q3 env3 σ ∧ Rel X.K C s3 q3 ∧ PostS X.K C W q0 q3 D (forL xs g ms i (xs.ds.drop i) env3 s3),
    ⟨_, q1, env, s1, rfl, rfl, Nat.zero_le _, X1, Kp.refl q1, E1, L1, by rw [List.drop_zero]; exact p1⟩, ?_⟩
  rintro i m σ' H ⟨q3, env3, s3, rfl, hm, hi, X3, K3, E3, L3, P3⟩
  rcases for_turns (gvs := gvs) ok m i q3 env3 s3 σ' hm hi X3 K3 E3 L3 P3 with h | ⟨go, h⟩
  · exact .inl h
  · exact .inr ⟨go, _, fun σ4 H4 ⟨q4, env4, s4, h1, h2, h3, h4, h5, h6, h7⟩ => ⟨xs.ds.length - (i + 1), by omega, q4, env4, s4, h1, rfl, h2, h3, h4, h5, h6, h7⟩, h⟩
theorem gs_while (n : Nat) (hp : PassesOwn (model X.prog X.w) X.A X.env X.xe) (hc : GT X C W c mt) (hb : GSs X C W body ms) : GS X C W (.While c body [] pos) (sWhile n mt ms) := PS.imp (ps_while hp hc hb) fun D σ H ⟨q0, q, env, s, eq, X0, E, L, p⟩ => by
  subst eq
  refine ⟨fun m σ H => ∃ q3 env3 s3, q3.H = H ∧ Ext q0 q3 ∧ RE X.K C q0 q3 env3 σ ∧ Rel X.K C s3 q3 ∧ PostS X.K C W q0 q3 D (whL mt ms m env3 s3), ⟨n, q, env, s, rfl, X0, E, L, p⟩, ?_⟩
  rintro m σ' H ⟨q3, env3, s3, rfl, X3, E3, L3, P3⟩
  cases m with
  | zero => exact P3.elim
  | succ m =>
    simp only [whL] at P3
    refine tS.first X3 E3 L3 P3 fun d s4 v q4 x4 X4 E4 L4 y p4 => ?_
    cases y
    cases d with
    | false => exact iteF (p4 σ' q4 X4 (Kp.refl q4) L4 E4)
    | true =>
      refine iteT ⟨fun σ H => ∃ q3 env3 s3, q3.H = H ∧ Ext q0 q3 ∧ RE X.K C q0 q3 env3 σ ∧ Rel X.K C s3 q3 ∧ PostS X.K C W q0 q3 D (whL mt ms m env3 s3), fun σ' H' h => ⟨m, Nat.lt_succ_self m, h⟩, q0, q4, env3, s4, rfl, X4, E4, L4, ?_⟩
      simp only [if_true] at p4
      cases hb : ms env3 s4 with
      | nx e2 s2 => rw [hb] at p4; exact fun σ' q' x1 k1 L1 E1 => ⟨q', e2, s2, rfl, x1, E1, L1, PostS.later k1 p4⟩
      | ct e2 s2 => rw [hb] at p4; exact fun σ' q' x1 k1 L1 E1 => ⟨q', e2, s2, rfl, x1, E1, L1, PostS.later k1 p4⟩
      | bk e2 s2 => rw [hb] at p4; exact p4
      | rt d s2 => rw [hb] at p4; exact p4
      | ex z e2 s2 => rw [hb] at p4; exact p4
      | stk => rw [hb] at p4; exact p4.elim

/-! ### lists that grow -/
/-- the frame's own list gets another content -/
theorem own_write {K : PySem.W.Frag} {q0 q : Stt} {env : MP.Env} {σ : St} {s : Sto} {i : Nat} {p : Addr} {vs ws : List V} {ds es : List D} (X0 : Ext q0 q) (E : RE K C q0 q env σ) (L : Rel K C s q) (ho : env[i]? = some (.own ds)) (hs : σ[i]? = some (some (.ref p))) (h1 : q.H p = some (.lst vs)) (hL : q.L p) (hr : p ∉ q.r) (h0 : Fr q0 p)
    (r : RDs K q es ws) : Ext q0 ⟨upd q.H p (.lst ws), q.L, q.r⟩ ∧ Kp q ⟨upd q.H p (.lst ws), q.L, q.r⟩ ∧ Rel K C s ⟨upd q.H p (.lst ws), q.L, q.r⟩ ∧ RE K C q0 ⟨upd q.H p (.lst ws), q.L, q.r⟩ (env.set i (.own es)) σ := by
  have kw : Kp q ⟨upd q.H p (.lst ws), q.L, q.r⟩ := Kp.wr hL
  have hi : i < env.length := (List.getElem?_eq_some_iff.mp ho).1
  refine ⟨X0.own h0, kw, L.wr hL hr h1 (fun _ z => nomatch z) (fun _ z => nomatch z), ⟨by simp [E.len], fun j d h => ?_, fun j fs h => ?_, fun j k fs gs a g1 g2 g3 g4 => ?_, E.w0, fun j y h => ?_⟩⟩
  · by_cases e : i = j
    · subst e
      rw [List.getElem?_set_self hi] at h
      cases h
    · rw [List.getElem?_set_ne e] at h
      obtain ⟨v, h2, h3⟩ := E.val j d h
      exact ⟨v, h2, RD.mono kw d h3⟩
  · by_cases e : i = j
    · subst e
      rw [List.getElem?_set_self hi] at h
      cases h
      exact ⟨p, ws, hs, upd_same, hL, hr, RDs.mono kw _ r, h0⟩
    · rw [List.getElem?_set_ne e] at h
      obtain ⟨a, us, h2, h3, h4, h5, h6, h7⟩ := E.own j fs h
      have ne : a ≠ p := fun z => by
        subst z
        exact e (E.inj i j ds fs a ho h hs h2)
      exact ⟨a, us, h2, by show upd q.H p _ a = _; rw [upd_ne ne]; exact h3, h4, h5, RDs.mono kw _ h6, h7⟩
  · have old : ∀ {l : Nat} {xs : List D}, (env.set i (.own es))[l]? = some (.own xs) → ∃ ys, env[l]? = some (.own ys) := fun {l xs} h => by
      by_cases e : i = l
      · subst e; exact ⟨ds, ho⟩
      · rw [List.getElem?_set_ne e] at h; exact ⟨xs, h⟩
    obtain ⟨ys, y1⟩ := old g1
    obtain ⟨zs, z1⟩ := old g2
    exact E.inj j k ys zs a y1 z1 g3 g4
  · by_cases e : i = j
    · subst e
      rw [List.getElem?_set_self hi] at h
      cases h
    · rw [List.getElem?_set_ne e] at h
      obtain ⟨a, cl, d, h2, h3, h4⟩ := E.exn j y h
      exact ⟨a, cl, d, h2, h3, h4.mono kw⟩
theorem tyL {K : PySem.W.Frag} {H : Hp} {a : Addr} {vs : List V} (h : H a = some (.lst vs)) : tyV K "list" (.ref a) H := Or.inl ⟨rfl, vs, SqL.of h⟩
/-- xs.append(e) as a statement, xs the frame's own -/
theorem gs_app (i : Nat) (h : GE X C W e m) (hN : X.N[i]? = some x := by rfl) (hv : Vis X.env.scope x := by first | exact Or.inl rfl | exact Or.inr (Or.inl rfl) | exact Or.inr (Or.inr rfl)) (hd : (x == ("__debug__" : Str)) = false := by decide) (hcd : (x == ("__classdict__" : Str)) = false := by decide)
    (h1 : starEach [e] X.env = (false, eval e X.env) :: starEach [] X.env := by rfl) (hbase : attributeBase (.Name x p') "append" X.env (eval (.Name x p') X.env) = eval (.Name x p') X.env := by rfl)
    (hfew : ((backTo cpos (starEach [e] X.env)).all (fun x => !x.1) && (backToKw cpos (keywordEach [] X.env)).all (fun x => x.1.isSome) && decide (([e] : List Expr).length + ([] : List Keyword).length + (if ([] : List Keyword).isEmpty then 0 else 1) < 30)) = true := by rfl)
    (hline : (apos.endLine == cpos.line) = true := by rfl) (hs : swapsWith (.Call (.Attribute (.Name x p') "append" apos) [e] [] cpos) none pos.line X.env = pure false := by rfl) :
    GS X C W (.Expr (.Call (.Attribute (.Name x p') "append" apos) [e] [] cpos) pos) (sApp i m) :=
  PS.imp (ps_expr (pe_bm PySem.F.plainAttrs_list PySem.F.slot_list_append PySem.F.type_list_append mt_append (pe_var (i := i) hN hv hd hcd) (pa_cons h pa_nil h1) hbase hfew hline h1) hs) fun D σ H ⟨q0, q, env, s, eq, X0, E, L, p⟩ => by
    subst eq
    unfold sApp at p
    split at p
    · rename_i ds ho
      obtain ⟨a, vs, o1, o2, o3, o4, o5, o6⟩ := E.own i ds ho
      refine ⟨.ref a, o1, tyL o2, ?_⟩
      refine tS.first X0 E L p fun d s1 v q1 x1 X1 E1 L1 y p1 => ?_
      by_cases hl : ds.length < cap
      · rw [if_pos hl] at p1
        obtain ⟨a', vs', u1, u2, u3, u4, u5, u6⟩ := E1.own i ds ho
        rw [o1] at u1
        cases u1
        refine ⟨a, vs', v, rfl, rfl, u2, ?_, ?_⟩
        · rw [u5.length]
          exact Nat.lt_of_lt_of_le hl (lenS (Nat.le_refl _))
        · obtain ⟨w1, w2, w3, w4⟩ := own_write X1 E1 L1 ho o1 u2 u3 u4 u6 (u5.append (.cons y .nil))
          exact p1 σ _ w1 w2 w3 w4
      · rw [if_neg hl] at p1; exact p1.elim
    · exact p.elim
/-- xs.extend(e) as a statement, e a list -/
theorem gs_ext (i : Nat) (h : GE X C W e m) (hN : X.N[i]? = some x := by rfl) (hv : Vis X.env.scope x := by first | exact Or.inl rfl | exact Or.inr (Or.inl rfl) | exact Or.inr (Or.inr rfl)) (hd : (x == ("__debug__" : Str)) = false := by decide) (hcd : (x == ("__classdict__" : Str)) = false := by decide)
    (h1 : starEach [e] X.env = (false, eval e X.env) :: starEach [] X.env := by rfl) (hbase : attributeBase (.Name x p') "extend" X.env (eval (.Name x p') X.env) = eval (.Name x p') X.env := by rfl)
    (hfew : ((backTo cpos (starEach [e] X.env)).all (fun x => !x.1) && (backToKw cpos (keywordEach [] X.env)).all (fun x => x.1.isSome) && decide (([e] : List Expr).length + ([] : List Keyword).length + (if ([] : List Keyword).isEmpty then 0 else 1) < 30)) = true := by rfl)
    (hline : (apos.endLine == cpos.line) = true := by rfl) (hs : swapsWith (.Call (.Attribute (.Name x p') "extend" apos) [e] [] cpos) none pos.line X.env = pure false := by rfl) :
    GS X C W (.Expr (.Call (.Attribute (.Name x p') "extend" apos) [e] [] cpos) pos) (sExt i m) :=
  PS.imp (ps_expr (pe_bm PySem.F.plainAttrs_list PySem.F.slot_list_extend PySem.F.type_list_extend mt_extend (pe_var (i := i) hN hv hd hcd) (pa_cons h pa_nil h1) hbase hfew hline h1) hs) fun D σ H ⟨q0, q, env, s, eq, X0, E, L, p⟩ => by
    subst eq
    unfold sExt at p
    split at p
    · rename_i ds ho
      obtain ⟨a, vs, o1, o2, o3, o4, o5, o6⟩ := E.own i ds ho
      refine ⟨.ref a, o1, tyL o2, ?_⟩
      refine tS.first X0 E L p fun d s1 v q1 x1 X1 E1 L1 y p1 => ?_
      obtain ⟨a', vs', u1, u2, u3, u4, u5, u6⟩ := E1.own i ds ho
      rw [o1] at u1
      cases u1
      rcases RB.view L1 (.inl y) with ⟨es, b, us, ev, rfl, g, r⟩ | ⟨ev, r, nl⟩
      · rw [ev] at p1
        simp only at p1
        by_cases hl : ds.length + es.length < cap
        · rw [if_pos hl] at p1
          refine ⟨a, b, vs', us, rfl, rfl, u2, g, ?_, ?_⟩
          · rw [u5.length, r.length]
            exact lenS (Nat.le_of_lt hl)
          · obtain ⟨w1, w2, w3, w4⟩ := own_write X1 E1 L1 ho o1 u2 u3 u4 u6 (u5.append r)
            exact p1 σ _ w1 w2 w3 w4
        · rw [if_neg hl] at p1; exact p1.elim
      · rw [ev] at p1
        cases d with
        | lst es => exact absurd rfl (nl es)
        | _ => exact p1.elim
    · exact p.elim
/-- an own list becomes a value, ahead of a block -/
theorem gss_frz (i : Nat) {sts : List Stmt} (h : GSs X C W sts ms) : GSs X C W sts (sSeq (sFrz i) ms) := PSs.imp h fun D σ H ⟨q0, q, env, s, eq, X0, E, L, p⟩ => by
  subst eq
  unfold sSeq sFrz at p
  split at p
  · rename_i r ds ho
    simp only [SRes.andThen_nx] at p
    obtain ⟨a, vs, o1, o2, o3, o4, o5, o6⟩ := E.own i ds ho
    have kp : Kp q ⟨q.H, fun b => q.L b ∧ b ≠ a, q.r⟩ := ⟨fun b u e n _ => ⟨e, fun z => n z.1⟩, ⟨[], by simp⟩⟩
    have na : ¬ q0.L a := E.w0.noF o6
    refine ⟨q0, ⟨q.H, fun b => q.L b ∧ b ≠ a, q.r⟩, env.set i (.val (.lst ds)), s, rfl, ⟨X0.keep, fun b l => ⟨X0.mono b l, fun z => by subst z; exact na l⟩, fun b u e n t => ⟨(X0.u b u e n t).1, fun z => (X0.u b u e n t).2 z.1⟩, X0.pre, X0.new, X0.th⟩, ?_, ⟨⟨L.wf.nd, fun b h => ⟨L.wf.live b h, fun z => by subst z; exact o4 h⟩, fun b l => L.wf.trk b l.1⟩, L.len, fun n ob b e1 e2 => (L.obs n ob b e1 e2).mono kp rfl, L.tb⟩, PostS.later kp p⟩
    have E' : RE X.K C q0 ⟨q.H, fun b => q.L b ∧ b ≠ a, q.r⟩ (env.set i .emp) σ := by
      have ne : ∀ {l : Nat} {o : Slot}, (env.set i .emp)[l]? = some o → o ≠ .emp → i ≠ l := fun {l o} h n e => by
        subst e
        have hi : i < env.length := by
          have := (List.getElem?_eq_some_iff.mp h).1
          simpa using this
        rw [List.getElem?_set_self hi] at h
        cases h
        exact n rfl
      refine ⟨by simp [E.len], fun j d h => ?_, fun j es h => ?_, fun j k es fs b g1 g2 g3 g4 => ?_, E.w0, fun j y h => ?_⟩
      · rw [List.getElem?_set_ne (ne h (by intro z; cases z))] at h
        obtain ⟨v, h2, h3⟩ := E.val j d h
        exact ⟨v, h2, RD.mono kp d h3⟩
      · have n := ne h (by intro z; cases z)
        rw [List.getElem?_set_ne n] at h
        obtain ⟨b, us, h2, h3, h4, h5, h6, h7⟩ := E.own j es h
        refine ⟨b, us, h2, h3, ⟨h4, fun z => ?_⟩, h5, RDs.mono kp _ h6, h7⟩
        subst z
        exact n (E.inj i j ds es b ho h o1 h2)
      · rw [List.getElem?_set_ne (ne g1 (by intro z; cases z))] at g1
        rw [List.getElem?_set_ne (ne g2 (by intro z; cases z))] at g2
        exact E.inj j k es fs b g1 g2 g3 g4
      · rw [List.getElem?_set_ne (ne h (by intro z; cases z))] at h
        obtain ⟨a', cl, d, h2, h3, h4⟩ := E.exn j y h
        exact ⟨a', cl, d, h2, h3, h4.mono kp⟩
    have r := E'.set i (d := .lst ds) (v := .ref a) (.lst ⟨o2, fun z => z.2 rfl⟩ (RDs.mono kp _ o5))
    rw [List.set_set] at r
    have e : σ.set i (some (.ref a)) = σ := by
      apply List.ext_getElem?
      intro j
      by_cases hj : i = j
      · subst hj
        rw [List.getElem?_set_self (List.getElem?_eq_some_iff.mp o1).1, o1]
      · rw [List.getElem?_set_ne hj]
    rw [e] at r
    exact r
  · exact p.elim

/-! ### objects -/
theorem RF.put {K : PySem.W.Frag} {q : Stt} (f : String) {d : D} {v : V} (r : RD K q d v) : ∀ {fs : List (String × D)} {gs : List (Str × V)}, RF K q fs gs → RF K q (putF' f d fs) (putF (Str.ofString f) v gs)
  | _, _, .nil => .cons r .nil
  | _, _, .cons (f := g) (d := dg) a b => by
    unfold putF' putF
    by_cases e : g = f
    · subst e
      rw [if_pos rfl, if_pos rfl]
      exact .cons r b
    · rw [if_neg e, if_neg fun z => e (ofS_inj z)]
      exact .cons a (RF.put f r b)
theorem RF.length {K : PySem.W.Frag} {q : Stt} : ∀ {fs : List (String × D)} {gs : List (Str × V)}, RF K q fs gs → gs.length = fs.length
  | _, _, .nil => rfl
  | _, _, .cons _ b => by simp [RF.length b]
/-- o.f = e -/
theorem gs_fld {cn : Nat} {nm : String} (ho : GE X C W o mo) (hv : GE X C W e m) (hc : Cls X.K (C cn)) (hn : NoAttr X.K (C cn) (Str.ofString nm)) (hs : swapsWith e (some (.Attribute o (Str.ofString nm) p')) pos.line X.env = pure false := by rfl) :
    GS X C W (.Assign [.Attribute o (Str.ofString nm) p'] e pos) (MP.sFld cn mo m nm) := PS.imp (ps_fld ho hv hs) fun D σ H ⟨q0, q, env, s, eq, X0, E, L, p⟩ => by
  subst eq
  refine tS.first X0 E L p fun d s1 v q1 x1 X1 E1 L1 y p1 => ?_
  refine tS.first X1 E1 L1 p1 fun ob s2 u q2 x2 X2 E2 L2 z p2 => ?_
  cases z with
  | @ref n a h2 =>
    simp only at p2
    split at p2
    · rename_i c' fs hn1
      split at p2
      · rename_i hh
        obtain ⟨rfl, hl⟩ := hh
        obtain ⟨dx, gs, e1, r1⟩ := L2.obs n _ a hn1 h2
        refine ⟨a, C c', dx, gs, rfl, e1, hc, hn, by rw [r1.length]; omega, ?_⟩
        have kw : Kp q2 ⟨upd q2.H a (.ins (C c') dx (putF (Str.ofString nm) v gs)), q2.L, q2.r⟩ := Kp.wr (L2.wf.live a (List.mem_of_getElem? h2))
        obtain ⟨w1, w2⟩ := wr_placed (o' := .ins c' (putF' nm d fs)) (ho := .ins (C c') dx (putF (Str.ofString nm) v gs)) L2 hn1 h2 ⟨dx, _, upd_same, RF.put nm (RD.mono kw d (RD.mono x2.kp d y)) (r1.mono kw)⟩
        exact p2 σ _ (X2.trans w1) w1.kp w2 (E2.ext w1)
      · exact p2.elim
    · exact p2.elim
  | _ => exact p2.elim
/-- o[i] = e, o a placed list -/
theorem gs_sub (ho : GE X C W o mo) (hi : GE X C W a mk) (hv : GE X C W e m) (hs : swapsWithSole [.Subscript o a p'] e pos.line X.env = pure false := by rfl) (hw : swappedStores [.Subscript o a p'] e X.env = pure none := by rfl)
    (h1 : (assignEach [.Subscript o a p'] X.env).map (·.2) = [assign (.Subscript o a p') X.env] := by rfl)
    (ha : ∀ v, assign (.Subscript o a p') X.env v = (do
      let ov ← holding [v] (eval o X.env); let iv ← holding [v, ov] (eval a X.env)
      standAt p'
      holding [v, ov, iv] (setItem ov iv v); release [v, ov, iv] []) := by intro _; rfl) :
    GS X C W (.Assign [.Subscript o a p'] e pos) (sSet mo mk m) := PS.imp (ps_asg hv (pg_sub ho hi set_list ha) hs hw h1) fun D σ H ⟨q0, q, env, s, eq, X0, E, L, p⟩ => by
  subst eq
  refine tS.first X0 E L p fun d s1 v q1 x1 X1 E1 L1 y p1 => ?_
  refine tS.first X1 E1 L1 p1 fun ob s2 u q2 x2 X2 E2 L2 z p2 => ?_
  refine tS.first X2 E2 L2 p2 fun ix s3 iv q3 x3 X3 E3 L3 w p3 => ?_
  have z' := RD.mono x3.kp _ z
  cases z' with
  | @ref n b h2 =>
    cases w with
    | int k =>
      simp only at p3
      split at p3
      · rename_i ds hn1
        split at p3
        · rename_i j hj
          obtain ⟨vs, e1, r1⟩ := L3.obs n _ b hn1 h2
          refine ⟨b, vs, k, j, rfl, rfl, e1, by rw [r1.length, ← place_ix]; exact hj, ?_⟩
          have kw : Kp q3 ⟨upd q3.H b (.lst (vs.set j v)), q3.L, q3.r⟩ := Kp.wr (L3.wf.live b (List.mem_of_getElem? h2))
          obtain ⟨w1, w2⟩ := wr_placed (o' := .lst (ds.set j d)) (ho := .lst (vs.set j v)) L3 hn1 h2 ⟨_, upd_same, (RDs.mono kw _ r1).set (RD.mono kw d (RD.mono (x2.trans x3).kp d y))⟩
          exact p3 σ _ (X3.trans w1) w1.kp w2 (E3.ext w1)
        · exact p3.elim
      · exact p3.elim
    | _ => exact p3.elim
  | _ => cases w <;> exact p3.elim
end

/-! ### a def's body, its promise -/
section
variable {P : Program} {w : World} {K : PySem.W.Frag} {mg : Str → Option Value} {base : Heap} {C : Tab}
theorem RE.start {q : Stt} {s : Sto} {ds : List D} {vs : List V} {N : List Str} (n : Nat) (L : Rel K C s q) (r : RDs K q ds vs) (hn : n = N.length - ds.length) : RE K C q q (ds.map .val ++ List.replicate n .emp) (start N vs) := by
  have hl := r.length
  subst hn
  unfold L2.start
  refine ⟨by simp [hl], fun i d h => ?_, fun i es h => ?_, fun i j es fs a h => ?_, L.wf, fun i y h => ?_⟩
  · by_cases hi : i < ds.length
    · rw [List.getElem?_append_left (by simpa using hi), List.getElem?_map] at h
      cases e : ds[i]? with
      | none => rw [e] at h; exact nomatch h
      | some d' =>
        rw [e] at h
        cases h
        obtain ⟨v, h1, h2⟩ := RDs.get r e
        refine ⟨v, ?_, h2⟩
        rw [List.getElem?_append_left (by simp [hl, hi]), List.getElem?_map, h1]
        rfl
    · rw [List.getElem?_append_right (by simpa using hi)] at h
      have := List.mem_of_getElem? h
      simp at this
  · exfalso
    have := List.mem_of_getElem? h
    simp at this
  · exfalso
    have := List.mem_of_getElem? h
    simp at this
  · exfalso
    have := List.mem_of_getElem? h
    simp at this
theorem fn_cal {x qual : Str} {st : Stmt} {f : Addr} {fd : FuncData} {N ps : List Str} {k : Nat} {ms : MS} (F : Fun K x qual st f fd) (S : FnScope N ps (defScope st)) (hN : ps.length ≤ N.length)
    (hb : ∀ (cdv : Value) (A : Around) (outer : List PySem.Env) (s : Shared) (H : Hp) (E : XK), Room k (A.deeper (PyProof.Rows.envOfC qual (defScope st) s.heap.objs.size f cdv)) →
      GSs (cxOf (L2.CX P w) P w K mg base N qual (defScope st) f cdv A outer s H E) C (fun cls d _ H' => E cls d H') (defBody st) ms) : FnOk P w K mg base (L2.CX P w) (k + 1) f fd ps (spM K C (runB ps.length N.length ms)) := by
  refine F.okX S (fun vs H Q E h => ?_) fun cdv A outer s H vs Q E hr h => ⟨_, hb cdv A outer s H E hr, ?_⟩
  · obtain ⟨q, s, ds, e, L, r, p⟩ := h
    rw [r.length]
    unfold runB at p
    split at p
    · rename_i h; exact h
    · exact p.elim
  · obtain ⟨q, s, ds, e, L, r, p⟩ := h
    subst e
    unfold runB at p
    split at p
    · rename_i hk
      refine ⟨q, q, _, s, rfl, Ext.refl q, RE.start (N.length - ps.length) L r (by rw [hk]), L, ?_⟩
      cases z : ms (ds.map .val ++ List.replicate (N.length - ps.length) .emp) s with
      | nx e s' => rw [z] at p; exact fun σ' q' x1 k1 L1 E1 => p .non q' x1 L1 .non
      | rt d s' => rw [z] at p; exact fun v q' x1 k1 L1 r1 => p v q' x1 L1 r1
      | ex y e s' => rw [z] at p; exact fun cls d σ' q' x1 k1 L1 E1 r1 => p cls d q' x1 L1 r1
      | bk e s' => rw [z] at p; exact p.elim
      | ct e s' => rw [z] at p; exact p.elim
      | stk => rw [z] at p; exact p.elim
    · exact p.elim
end
end MP

/-! A star in targets. Own text. -/
namespace MP
open PySem L2
open PyProof.Rows (assignInOrder_cons)
section
variable {X : Cx} {σ : St} {H : Hp} {s : Shared} {pins : List (Addr × Obj)}
theorem ns_fun {h : Heap} {a : Addr} {m m' : Str → Option Value} (x : h.Ns a m) (y : h.Ns a m') : m = m' := by
  obtain ⟨o, es, ep, e1, d1, _, r1⟩ := x
  obtain ⟨o', es', ep', e2, d2, _, r2⟩ := y
  rw [e1] at e2
  cases e2
  rw [d1] at d2
  cases d2
  exact funext fun z => (r1 z).symm.trans (r2 z)
/-- behind a rule of the library's that made one list -/
theorem inv_one {h' : Heap} {tk : Nat} {D : Addr} {its : List Value} {vs : List V} {m : Str → Option Value} (I : Inv X pins σ H s) (F : PyProof.Rows.Fr X.base X.env.locals s.heap m) (F' : PyProof.Rows.Fr X.base X.env.locals h' m)
    (N' : PyProof.Rows.News X.base X.env.locals h' ((D, W.listOf its.toArray 0) :: allNews X.base s.heap X.env.locals)) (lt : ∀ p ∈ allNews X.base s.heap X.env.locals, p.1 < D) (r : Vals vs its) (hl : vs.length ≤ sizeLine) :
    H D = none ∧ Inv X pins σ (upd H D (.lst vs)) { s with heap := h', toks := tk } := by
  obtain ⟨nD, DL, Dg⟩ := N' (D, _) List.mem_cons_self
  have old : ∀ b o, b ≠ X.env.locals → s.heap.get? b = some o → h'.get? b = some o := fun b o hb e => by
    cases q : X.base.get? b with
    | some u =>
      have h1 := F.keep b u q
      have h2 := F'.keep b u q
      rw [e] at h1
      cases h1
      exact h2
    | none => exact (N' (b, o) (List.mem_cons_of_mem _ (mem_allNews hb q e))).1
  have fresh : s.heap.get? D = none := by
    cases q : s.heap.get? D with
    | none => rfl
    | some o => exact absurd (lt (D, o) (mem_allNews DL Dg q)) (Nat.lt_irrefl _)
  have hD : H D = none := I.hok.gone fresh
  have ne : ∀ b o, H b = some o → b ≠ D := fun b o e z => by subst z; rw [hD] at e; cases e
  have hok : HOk X.prog X.w (upd H D (.lst vs)) h' := fun b u e => by
    by_cases hb : b = D
    · subst hb
      rw [upd_same] at e
      cases e
      exact ⟨hl, its, 0, r, nD⟩
    · rw [upd_ne hb] at e
      refine (I.hok b u e).stay (fun c v hc q => old c v (fun z => ?_) q) (fun c q => by rw [upd_ne (ne c _ q)]; exact q) fun c xs q => by rw [upd_ne (ne c _ q)]; exact q
      subst z
      have n := I.free
      rcases hc with rfl | hc
      · rw [n] at e; cases e
      · rw [n] at hc; cases hc
  have there : ∀ b o, s.heap.get? b = some o → ∃ o', h'.get? b = some o' := fun b o e => by
    by_cases hb : b = X.env.locals
    · subst hb
      obtain ⟨o', _, _, e', _⟩ := F'.ns
      exact ⟨o', e'⟩
    · exact ⟨o, old b o hb e⟩
  refine ⟨hD, I.step (g' := s.gens) (d' := s.drawn) (ch := []) (fun _ z => absurd z (by simp)) (fun b o hb _ _ e _ => old b o hb e) (fun b o hb _ _ e _ => ⟨o.slots, old b o hb e⟩) (fun b o _ e n => ?_) (fun b o _ e => there b o e) (fun b xs e => ?_) (fun b o u e => ?_)
    (fun b ps e => ⟨#[], ?_⟩) (fun m' hm => ?_) hok I.bare⟩
  · have z : b ≠ D := fun z => by subst z; rw [fresh] at e; cases e
    rw [upd_ne z]; exact n
  · rw [upd_ne (ne b _ e)]; exact e
  · rw [upd_ne (ne b _ e)]; exact e
  · rw [upd_ne (ne b _ e), e]; simp
  · rw [ns_fun hm F.ns]; exact F'.ns
/-- the middle of a list or tuple goes to a new list -/
def gStar (K : PySem.W.Frag) (n i : Nat) (t : TGs) : TG := fun v σ H Q => ∃ a xs, v = .ref a ∧ (SqL K H a xs ∨ SqT K H a xs) ∧ i < n ∧ n ≤ xs.length + 1 ∧ xs.length ≤ 16000 ∧
  ∀ p, H p = none → t (xs.take i ++ [.ref p] ++ (xs.drop i).drop (xs.length + 1 - n)) σ (upd H p (.lst ((xs.drop i).take (xs.length + 1 - n)))) Q
theorem pg_star {es : List Expr} {k n i : Nat} {pos : Pos} {t : TGs} (hc : X.calm = true) (h : PGs X es t) (hn : (assignEach es X.env).length = n := by rfl) (hst : (assignEach es X.env).findIdx? (·.1) = some i := by rfl) : PG X (.Tuple es k pos) (gStar X.K n i t) := by
  constructor
  intro pins s σ H v u Q I r ⟨a, xs, e, hq, h1, h2, h3, q⟩
  subst e
  cases r
  obtain ⟨m, F⟩ := I.fr
  have mids : ∀ {its : List Value}, Vals xs its → Vals (xs.take i) (its.take i) ∧ Vals ((xs.drop i).take (xs.length + 1 - n)) ((its.drop i).take (xs.length + 1 - n)) ∧ Vals ((xs.drop i).drop (xs.length + 1 - n)) ((its.drop i).drop (xs.length + 1 - n)) := fun r => ⟨r.take i, (r.drop i).take _, (r.drop i).drop _⟩
  have fin : ∀ {its : List Value}, Vals xs its → ∀ (D : Addr) (h' : Heap) (tk : Nat), PyProof.Rows.Fr X.base X.env.locals h' m → PyProof.Rows.News X.base X.env.locals h' ((D, W.listOf ((its.drop i).take (xs.length + 1 - n)).toArray 0) :: allNews X.base s.heap X.env.locals) → (∀ p ∈ allNews X.base s.heap X.env.locals, p.1 < D) →
      wpAny (model X.prog X.w) X.A (assignInOrder ((assignEach es X.env).map (·.2)) (its.take i ++ [Value.ref D] ++ (its.drop i).drop (xs.length + 1 - n))) (fun _ s' => ∃ σ' H', Inv X pins σ' H' s' ∧ Q σ' H') X.xe { s with heap := h', toks := tk } := fun {its} rv D h' tk F' N' lt => by
    obtain ⟨m1, m2, m3⟩ := mids rv
    have hl : ((xs.drop i).take (xs.length + 1 - n)).length ≤ sizeLine := by
      rw [List.length_take, List.length_drop]; exact lenS (by unfold cap; omega)
    obtain ⟨hD, I'⟩ := inv_one (tk := tk) I F F' N' lt m2 hl
    exact h.run pins _ σ _ _ _ Q I' ((m1.append (.cons (show RelV (V.ref D) (Value.ref D) from rfl) .nil)).append m3) (q D hD)
  rcases hq with hq | hq
  · obtain ⟨its, rv, ⟨o, no, ho, hcl, _, hd⟩, hz⟩ := I.list hq
    have hs : its.toArray.size = xs.length := vals_size rv
    refine W.kun_assignL F news_all (items := its.toArray) ⟨o, ho, hcl, no, hd⟩ (I.ok.hd hc) hn hst h1 (by rw [hs]; exact h2) (by rw [hs]; omega) rfl rfl rfl fun D h' tk F' N' lt => ?_
    rw [hs] at N' ⊢
    exact fin rv D h' tk F' N' lt
  · obtain ⟨its, rv, ht, hz⟩ := I.tuple hq
    have hs : its.toArray.size = xs.length := vals_size rv
    refine W.kun_assignT F news_all (items := its.toArray) ht (I.ok.hd hc) hn hst h1 (by rw [hs]; exact h2) (by rw [hs]; omega) rfl rfl rfl fun D h' tk F' N' lt => ?_
    rw [hs] at N' ⊢
    exact fin rv D h' tk F' N' lt
end
section
variable {X : Cx} {C : Tab} {pos p2 : Pos}
theorem ggs_star {e : Expr} {es : List Expr} {g : MG} {gs : List MG} {vs ws : List Nat} (h1 : GG X C e g vs) (h2 : GGs X C es gs ws) (hs : (assignEach (.Starred e p2 :: es) X.env).map (·.2) = assign e X.env :: (assignEach es X.env).map (·.2) := by rfl) : GGs X C (.Starred e p2 :: es) (g :: gs) (vs ++ ws) := by
  constructor
  intro pins s σ H us zs Q I r ⟨q0, q, env, env', st, ds, eq, E, L, rd, gg, k⟩
  subst eq
  cases rd with
  | nil => cases gg
  | @cons d v ds us r1 r2 =>
    simp only [gAll] at gg
    cases g1 : g d env with
    | none => rw [g1] at gg; cases gg
    | some env1 =>
      rw [g1] at gg
      cases r with
      | cons ra rb =>
        rw [hs]
        refine assignInOrder_cons (thn (h1.run pins s σ q.H v _ (fun σ1 H1 => ∃ q1, q1.H = H1 ∧ Ext q q1 ∧ Rel X.K C st q1 ∧ RE X.K C q0 q1 env1 σ1 ∧ σ1.length = σ.length ∧ ∀ j, j ∉ vs → σ1[j]? = σ[j]?) I ra
          ⟨q0, q, env, env1, st, d, rfl, E, L, r1, g1, fun σ1 q1 x1 L1 E1 n1 w1 => ⟨q1, rfl, x1, L1, E1, n1, w1⟩⟩) ?_)
        rintro _ s1 ⟨σ1, H1, I1, q1, rfl, x1, L1, E1, n1, w1⟩
        refine h2.run pins s1 σ1 q1.H us _ Q I1 rb ⟨q0, q1, env1, env', st, ds, rfl, E1, L1, RDs.mono x1.kp _ r2, gg, fun σ2 q2 x2 L2 E2 n2 w2 => ?_⟩
        refine k σ2 q2 (x1.trans x2) L2 E2 (n2.trans n1) fun j hj => ?_
        rw [List.mem_append] at hj
        rw [w2 j fun z => hj (.inr z), w1 j fun z => hj (.inl z)]
theorem gAll_append : ∀ (gs : List MG) (hs : List MG) (ds es : List D) (env : MP.Env), gs.length = ds.length → gAll (gs ++ hs) (ds ++ es) env = (gAll gs ds env).bind fun e => gAll hs es e
  | [], hs, [], es, env, _ => rfl
  | g :: gs, hs, d :: ds, es, env, h => by
    simp only [List.cons_append, gAll]
    cases g d env with
    | none => rfl
    | some e => exact gAll_append gs hs ds es e (by simpa using h)
  | [], _, _ :: _, _, _, h => by simp at h
  | _ :: _, _, [], _, _, h => by simp at h
/-- a, *b, c = .. -/
theorem gg_star {es : List Expr} {kk : Nat} {gs hs : List MG} {j : Nat} {vs : List Nat} (hc : X.calm = true) (h : GGs X C es (gs ++ gNm j :: hs) vs) (hn : (assignEach es X.env).length = gs.length + hs.length + 1 := by rfl) (hst : (assignEach es X.env).findIdx? (·.1) = some gs.length := by rfl) :
    GG X C (.Tuple es kk pos) (gSt gs hs j) vs := PG.imp (pg_star hc h hn hst) fun v σ H Q ⟨q0, q, env, env', s, d, e, E, L, r, g, k⟩ => by
  subst e
  have main : ∀ (ds : List D) (a : Addr) (us : List V), v = .ref a → (SqL X.K q.H a us ∨ SqT X.K q.H a us) → RDs X.K q ds us → (if gs.length + hs.length ≤ ds.length ∧ ds.length ≤ 16000 then
      (gAll gs (ds.take gs.length) env).bind fun e1 => gAll hs ((ds.drop gs.length).drop (ds.length - gs.length - hs.length)) (e1.set j (.val (.lst ((ds.drop gs.length).take (ds.length - gs.length - hs.length))))) else none) = some env' →
      gStar X.K (gs.length + hs.length + 1) gs.length (tGs X.K C (gs ++ gNm j :: hs) vs) v σ q.H Q := by
    intro ds a us e1 hq rs g
    subst e1
    split at g
    · rename_i hh
      have hl := rs.length
      refine ⟨a, us, rfl, hq, by omega, by omega, by omega, fun p hp => ?_⟩
      have em : us.length + 1 - (gs.length + hs.length + 1) = ds.length - gs.length - hs.length := by omega
      rw [em]
      have L2 := L.new1 (o := .lst ((us.drop gs.length).take (ds.length - gs.length - hs.length))) hp
      have x2 := Ext.new1 (o := .lst ((us.drop gs.length).take (ds.length - gs.length - hs.length))) L.wf hp
      have r2 := RDs.mono x2.kp _ rs
      refine ⟨q0, _, env, env', s, ds.take gs.length ++ [D.lst ((ds.drop gs.length).take (ds.length - gs.length - hs.length))] ++ (ds.drop gs.length).drop (ds.length - gs.length - hs.length), rfl, E.ext x2, L2, ?_, ?_, fun σ' q' x' L' E' n' w' => k σ' q' (x2.trans x') L' E' n' w'⟩
      · exact ((r2.take _).append (.cons (.lst ⟨upd_same, L.wf.no hp⟩ ((r2.drop _).take _)) .nil)).append ((r2.drop _).drop _)
      · rw [List.append_assoc, gAll_append gs (gNm j :: hs) _ _ env (by rw [List.length_take]; omega), ← g]
        rfl
    · cases g
  cases r with
  | @tup a us ds f r => exact main ds a us rfl (.inr f.sq) r g
  | @lst a us ds f r => exact main ds a us rfl (.inl (SqL.of f.1)) r g
  | _ => cases g
end
end MP

/-! More words: signs of a text, enumerate, join, split, sums of lists, chains. Own text. -/
namespace MP
open PySem L2 TL
section
variable {X : Cx} {C : Tab} {W : Wx} {pos p p2 apos tpos : Pos} {tg e a b c o : Expr} {es elts : List Expr} {m ma mb mc mo : ME} {st : Stmt}
theorem gi_str (h : GE X C W e m) : GI X C W tg e (iStrI m) := PI.imp (pi_str h) fun σ H R ⟨q0, q, env, s, eq, E, L, p⟩ => by
  subst eq
  refine tM.first (f := fun x s1 => (match x with | .str cs => Res.ok (⟨cs.map fun c => .str [c], none⟩ : Src) s1 | _ => .stk : Res Src)) E L p (fun q1 x1 q2 a b w => w) fun x s1 vx q1 x1 E1 L1 y1 p1 => ?_
  cases y1 with
  | str cs =>
    refine ⟨_, rfl, p1 _ q1 (Ext.refl q1) L1 (itOk_still fun q2 i k => ⟨fun d h => ?_, fun h => ?_⟩)⟩
    · rw [List.getElem?_map] at h
      cases e : cs[i]? with
      | none => rw [e] at h; exact nomatch h
      | some c =>
        rw [e] at h
        cases h
        have hi : i < cs.length := (List.getElem?_eq_some_iff.mp e).1
        refine ⟨by simpa [Its] using hi, fun v H3 ⟨e1, c', e2, e3⟩ => ⟨e1, ?_⟩⟩
        have e2 : cs[i]? = some c' := by simpa using e2
        rw [e] at e2
        cases e2
        rw [e3]
        exact .str [c]
    · rw [List.length_map] at h
      show cs.toArray.size ≤ i
      simp [h]
  | _ => exact p1.elim
theorem mapIdx_get {ds : List D} {i : Nat} {d : D} (h : (ds.mapIdx fun i d => D.tup [.int i, d])[i]? = some d) : ∃ d0, ds[i]? = some d0 ∧ d = .tup [.int i, d0] := by
  rw [List.getElem?_mapIdx] at h
  cases e : ds[i]? with
  | none => rw [e] at h; exact nomatch h
  | some d0 => rw [e] at h; cases h; exact ⟨d0, rfl, rfl⟩
theorem gi_enum {kk : Nat} (hm : X.mg "enumerate" = none) (h : GE X C W e m) (hg : Gl X "enumerate" := by rfl) (h1 : starEach [e] X.env = (false, eval e X.env) :: starEach [] X.env := by rfl) (hs : starEach [e] X.env = [(false, eval e X.env)] := by rfl) :
    GI X C W (.Tuple elts kk tpos) (.Call (.Name "enumerate" p) [e] [] pos) (iEnum m) := PI.imp (pi_enum hg hm (pa_cons h pa_nil h1) hs) fun σ H R ⟨q0, q, env, s, eq, E, L, p⟩ => by
  subst eq
  refine tM.first (f := fun x s1 => (match x with | .lst ds => Res.ok (⟨ds.mapIdx fun i d => .tup [.int i, d], none⟩ : Src) s1 | _ => .stk : Res Src)) E L p (fun q1 x1 q2 a b w => w) fun x s1 vx q1 x1 E1 L1 y1 p1 => ?_
  cases y1 with
  | @lst a vs ds g r =>
    refine ⟨a, vs, rfl, SqL.of g.1, p1 _ q1 (Ext.refl q1) L1 fun q2 s2 i k R2 => ⟨fun d d' h1 h2 => ?_, fun hi _ => ?_⟩⟩
    · cases h2
      obtain ⟨d0, h3, rfl⟩ := mapIdx_get h1
      have g2 : SqL X.K q2.H a vs := SqL.of (g.mono k).1
      obtain ⟨v, h4, h5⟩ := RDs.get (RDs.mono k _ r) h3
      refine ⟨⟨vs, v, g2, h4⟩, fun u H3 ⟨T, x, e1, e2, e3, e4⟩ => ?_⟩
      have := e4 vs g2
      rw [h4] at this
      cases this
      subst e1 e3
      have x2 := Ext.new1 (o := .tup [.int (i : Nat), v]) R2.wf e2
      exact ⟨⟨upd q2.H T (.tup [.int (i : Nat), v]), q2.L, q2.r⟩, rfl, x2, R2.new1 e2, .tup (.inl ⟨upd_same, R2.wf.no e2⟩) (.cons (.int _) (.cons (RD.mono x2.kp _ h5) .nil))⟩
    · have hi : i = ds.length := by simpa using hi
      exact ⟨vs, SqL.of (g.mono k).1, by rw [r.length]; exact Nat.le_of_eq hi.symm⟩
  | _ => exact p1.elim
theorem ge_neg (h : GE X C W e m) : GE X C W (.UnaryOp .USub e pos) (eOp1 opNeg m) := PE.imp (pe_un un_neg h) fun σ H Q ⟨q0, q, env, s, eq, E, L, p⟩ => by
  subst eq
  refine tM.first (f := fun x s1 => .ofO (opNeg s1 x) s1) E L p rD_any fun x s1 vx q1 x1 E1 L1 y1 p1 => ?_
  cases y1 with
  | int i => exact ⟨i, rfl, p1 _ q1 (Ext.refl q1) L1 (.int _)⟩
  | _ => exact p1.elim
theorem chain_imp {K : PySem.W.Frag} {r r' : R2} {g h : Op2} (hs : SimOp K C r g) (hs' : SimOp K C r' h) (σ : St) (H : Hp) (Q : VK) (z : tM K C W (rD K) (eChain g h ma mb mc) σ H Q) : tChain r r' (tM K C W (rB K) ma) (tM K C W (rB K) mb) (tM K C W (rB K) mc) σ H Q := by
  obtain ⟨q0, q, env, s, eq, E, L, p⟩ := z
  subst eq
  refine tM.first (f := fun x s1 => (mb env s1).bind fun y s2 => (Res.ofO (g s2 x y) s2).bind fun z s3 => (asB z s3).bind fun k s4 => if k then (mc env s4).bind fun w s5 => .ofO (h s5 y w) s5 else .ok (.bl false) s4) E L p rD_any fun x s1 vx q1 x1 E1 L1 y1 p1 => ?_
  refine tM.first (f := fun y s2 => (Res.ofO (g s2 x y) s2).bind fun z s3 => (asB z s3).bind fun k s4 => if k then (mc env s4).bind fun w s5 => .ofO (h s5 y w) s5 else .ok (.bl false) s4) E1 L1 p1 rD_any fun y s2 vy q2 x2 E2 L2 y2 p2 => ?_
  cases e : g s2 x y with
  | none => rw [e] at p2; exact p2.elim
  | some z =>
    rw [e] at p2
    refine hs q2 s2 x y vx vy z _ L2 (y1.ext x2) y2 e fun v q3 x3 r3 d3 => ?_
    cases d3 with
    | bl k =>
      refine ⟨k, rfl, ?_⟩
      simp only [Res.ofO_some, Res.bind_ok, asB_bl] at p2
      cases k with
      | false => exact iteF (p2 (.bl false) q3 x3 r3 (.bl false))
      | true =>
        refine iteT ?_
        simp only [if_true] at p2
        refine tM.first (f := fun w s5 => .ofO (h s5 y w) s5) (E2.ext x3) r3 (Post.later x3 p2 fun _ _ _ _ w => w) rD_any fun w s5 vw q4 x4 E4 L4 y4 p4 => ?_
        cases e4 : h s5 y w with
        | none => rw [e4] at p4; exact p4.elim
        | some z => rw [e4] at p4; exact hs' q4 s5 y w vy vw z _ L4 (y2.ext (x3.trans x4)) y4 e4 fun v q5 x5 r5 d5 => p4 v q5 x5 r5 d5
    | _ => exact p2.elim
theorem ge_chain {op op' : CmpOp} {r r' : R2} {g h : Op2} (ho : OpR X (compareOp op) r) (hs : SimOp X.K C r g) (ho' : OpR X (compareOp op') r') (hs' : SimOp X.K C r' h) (ha : GB X C W a ma) (hb : GB X C W b mb) (hc : GB X C W c mc)
    (hm : lastMarks [op, op'] [b, c] = false := by with_unfolding_all rfl) : GE X C W (.Compare a [op, op'] [b, c] pos) (eChain g h ma mb mc) := PE.imp (pe_chain ho ho' ha hb hc hm) (chain_imp hs hs')
theorem gt_chain {op op' : CmpOp} {r r' : R2} {g h : Op2} (ho : OpR X (compareOp op) r) (hs : SimOp X.K C r g) (ho' : OpR X (compareOp op') r') (hs' : SimOp X.K C r' h) (ha : GB X C W a ma) (hb : GB X C W b mb) (hc : GB X C W c mc)
    (hm : lastMarks [op, op'] [b, c] = false := by with_unfolding_all rfl) : GT X C W (.Compare a [op, op'] [b, c] pos) (tVal (eChain g h ma mb mc)) := PT.imp (pt_chain ho ho' ha hb hc hm) (test_imp (chain_imp hs hs'))

/-! ### texts -/
theorem cutC_spl (c : Nat) : ∀ (l acc : List Nat), spl [c] 0 acc l = (match cutC c l with | [] => [acc] | y :: ys => (acc ++ y) :: ys)
  | [], acc => by rw [spl_nil]; simp [cutC]
  | x :: r, acc => by
    by_cases h : x = c
    · subst h
      rw [spl_hit (by simp [pre])]
      simp only [cutC, List.length_cons, List.length_nil, Nat.zero_add, Nat.sub_self, if_true]
      rw [cutC_spl x r []]
      cases e : cutC x r with
      | nil => cases r <;> simp [cutC] at e; split at e <;> first | (cases e) | (split at e <;> cases e)
      | cons y ys => simp
    · rw [spl_miss (by simp [pre]; intro z; exact h z)]
      rw [cutC_spl c r (acc ++ [x])]
      simp only [cutC, if_neg h]
      cases e : cutC c r with
      | nil => simp
      | cons y ys => simp
theorem cutC_ne (c : Nat) (l : List Nat) : cutC c l ≠ [] := by
  cases l with
  | nil => simp [cutC]
  | cons x r =>
    simp only [cutC]
    split
    · simp
    · split <;> simp
theorem split_cutC (u : List Nat) (c : Nat) (hc : c < 256) : (Txt.split ⟨u.toArray⟩ ⟨#[c]⟩) = (cutC c u).map fun l => (⟨l.toArray⟩ : Str) := by
  have h := split_spl ⟨u.toArray⟩ ⟨#[c]⟩ (by simp) (kind_ok (by simp [hc]))
  have e : spl (tl ⟨#[c]⟩) 0 [] (tl ⟨u.toArray⟩) = cutC c u := by
    show spl [c] 0 [] u = _
    rw [cutC_spl]
    cases e : cutC c u with
    | nil => exact absurd e (cutC_ne c u)
    | cons y ys => simp
  rw [e] at h
  rw [← h, List.map_map]
  have : (fun l => (⟨l.toArray⟩ : Str)) ∘ tl = id := funext fun x => mk_tl x
  rw [this, List.map_id]
theorem RDs.strs {K : PySem.W.Frag} {q : Stt} : ∀ (ls : List (List Nat)), RDs K q (ls.map D.str) ((ls.map fun l => (⟨l.toArray⟩ : Str)).map V.str)
  | [] => .nil
  | l :: ls => .cons (.str l) (RDs.strs ls)
theorem cutC_len (c : Nat) : ∀ l : List Nat, (cutC c l).length ≤ l.length + 1
  | [] => by simp [cutC]
  | x :: r => by
    have ih := cutC_len c r
    simp only [cutC]
    split
    · simp; omega
    · cases e : cutC c r with
      | nil => simp
      | cons y ys => rw [e] at ih; simp at ih ⊢; omega
theorem gl_split (ho : GE X C W o mo) (he : GE X C W e m) (hs : starEach [e] X.env = [(false, eval e X.env)] := by rfl) (hbase : attributeBase o "split" X.env (eval o X.env) = eval o X.env := by rfl) (hline : (apos.endLine == pos.line) = true := by rfl) :
    GL X C W (.Call (.Attribute o "split" apos) [e] [] pos) (lSplit mo m) := PE.imp (pe_split ho he hs hbase hline) fun σ H Q ⟨q0, q, env, s, eq, E, L, p⟩ => by
  subst eq
  refine tM.first0 (f := fun x s1 => match x with | .str u => (m env s1).bind fun y s2 => cutAt u y s2 | _ => .stk) E L p fun x s1 vx q1 x1 L1 y1 p1 => ?_
  cases y1 with
  | str u =>
    refine ⟨⟨_, rfl⟩, q0, q1, env, s1, rfl, E.ext x1, L1, ?_⟩
    simp only at p1
    cases e1 : m env s1 with
    | stk => rw [e1] at p1; exact p1.elim
    | exc z t => rw [e1] at p1; exact fun c d q' w r => p1 c d q' (x1.trans w) r
    | ok y s2 =>
      rw [e1] at p1
      intro vy q2 x2 L2 y2
      simp only [Res.bind_ok] at p1
      unfold cutAt at p1
      split at p1
      · rename_i c
        split at p1
        · rename_i hl
          cases y2
          refine ⟨_, _, rfl, rfl, by simp [Str.length], ?_, fun l hl' => ?_⟩
          · have : cap + 2 ≤ sizeLine := by rw [sizeLine_eq]; decide
            simp only [Str.length, List.size_toArray]; omega
          · rw [split_cutC u c hl.2]
            exact p1 _ _ ((x1.trans x2).trans (Ext.newL L2.wf hl')) (L2.newL hl') (RN.newL L.wf (x1.trans x2) L2 hl' (RDs.strs _))
        · exact p1.elim
      · exact p1.elim
  | _ => exact p1.elim
theorem joinC_L (S : List Nat) : ∀ ls : List (List Nat), joinL S ls = joinC S ls
  | [] => rfl
  | [_] => rfl
  | x :: y :: r => by
    show x ++ (S ++ joinL S (y :: r)) = x ++ S ++ joinC S (y :: r)
    rw [joinC_L S (y :: r), List.append_assoc]
theorem strsOf_vals {K : PySem.W.Frag} {q : Stt} : ∀ {ds : List D} {vs : List V} {ls : List (List Nat)}, RDs K q ds vs → strsOf ds = some ls → vs = (ls.map fun l => (⟨l.toArray⟩ : Str)).map V.str
  | [], _, _, h, e => by cases h; cases e; rfl
  | d :: ds, _, ls, h, e => by
    cases h with
    | cons a b =>
      cases a with
      | str x =>
        simp only [strsOf] at e
        cases e2 : strsOf ds with
        | none => rw [e2] at e; cases e
        | some xs =>
          rw [e2] at e
          cases e
          rw [strsOf_vals b e2]
          rfl
      | _ => cases e
theorem join_of (sep : List Nat) (ls : List (List Nat)) : Txt.join ⟨sep.toArray⟩ (ls.map fun l => (⟨l.toArray⟩ : Str)) = ⟨(joinC sep ls).toArray⟩ := by
  rw [join_eq]
  have h := tl_join ⟨sep.toArray⟩ (ls.map fun l => (⟨l.toArray⟩ : Str))
  rw [List.map_map] at h
  have e : tl ∘ (fun l => (⟨l.toArray⟩ : Str)) = (id : List Nat → List Nat) := funext fun l => rfl
  rw [e, List.map_id] at h
  rw [show tl (⟨sep.toArray⟩ : Str) = sep from rfl, joinC_L] at h
  rw [← h, mk_tl]
theorem ge_join (ho : GE X C W o mo) (he : GB X C W e m) (hs : starEach [e] X.env = [(false, eval e X.env)] := by rfl) (hbase : attributeBase o "join" X.env (eval o X.env) = eval o X.env := by rfl) (hline : (apos.endLine == pos.line) = true := by rfl) :
    GE X C W (.Call (.Attribute o "join" apos) [e] [] pos) (eJoin mo m) := PE.imp (pe_join ho he hs hbase hline) fun σ H Q ⟨q0, q, env, s, eq, E, L, p⟩ => by
  subst eq
  refine tM.first (f := fun x s1 => match x with | .str u => (m env s1).bind fun y s2 => joinAt u y s2 | _ => .stk) E L p rD_any fun x s1 vx q1 x1 E1 L1 y1 p1 => ?_
  cases y1 with
  | str u =>
    refine ⟨⟨_, rfl⟩, tM.first (f := fun y s2 => joinAt u y s2) E1 L1 p1 rD_any fun y s2 vy q2 x2 E2 L2 y2 p2 => ?_⟩
    unfold joinAt at p2
    split at p2
    · rename_i ds hs
      split at p2
      · rename_i xs hx
        split at p2
        · rename_i hl
          obtain ⟨a, vs, rfl, h1, r⟩ := y2.seq L2 hs
          have ev := strsOf_vals r hx
          subst ev
          refine ⟨_, a, xs.map fun l => (⟨l.toArray⟩ : Str), rfl, rfl, sqOr h1, ?_, ?_⟩
          · have e1 : ((xs.map fun l => (⟨l.toArray⟩ : Str)).map (·.length)) = xs.map List.length := by
              rw [List.map_map]
              exact List.map_congr_left fun l _ => by simp [Str.length]
            rw [e1, List.length_map]
            have e2 : xs.length * (⟨u.toArray⟩ : Str).length ≤ 10000 * 10 := Nat.mul_le_mul hl.2.1 (by simpa [Str.length] using hl.1)
            have := hl.2.2
            unfold cap at this
            omega
          · rw [join_of]
            exact p2 _ q2 (Ext.refl q2) L2 (.str _)
        · exact p2.elim
      · exact p2.elim
    · exact p2.elim
  | _ => exact p1.elim

/-! ### sums of lists, ranges -/
theorem gl_add (ha : GB X C W a ma) (hb : GB X C W b mb) : GL X C W (.BinOp a .Add b pos) (lAdd ma mb) := PE.imp (pe_op op_cat ha hb) fun σ H Q ⟨q0, q, env, s, eq, E, L, p⟩ => by
  subst eq
  refine tM.first0 (f := fun x s1 => (mb env s1).bind fun y s2 => match MP.view s2 x, MP.view s2 y with | .lst xs, .lst ys => if xs.length + ys.length ≤ cap then .ok (xs ++ ys) s2 else .stk | _, _ => .stk) E L p fun x s1 vx q1 x1 L1 y1 p1 => ?_
  refine ⟨q0, q1, env, s1, rfl, E.ext x1, L1, ?_⟩
  cases e1 : mb env s1 with
  | stk => rw [e1] at p1; exact p1.elim
  | exc z t => rw [e1] at p1; exact fun c d q' w r => p1 c d q' (x1.trans w) r
  | ok y s2 =>
    rw [e1] at p1
    intro vy q2 x2 L2 y2
    simp only [Res.bind_ok] at p1
    rcases (y1.ext x2).view L2 with ⟨ds, u, vs, ev, rfl, g, r⟩ | ⟨ev, r, nl⟩
    · rcases y2.view L2 with ⟨ds', u', vs', ev', rfl, g', r'⟩ | ⟨ev', r', nl'⟩
      · rw [ev, ev'] at p1
        simp only at p1
        by_cases hl : ds.length + ds'.length ≤ cap
        · rw [if_pos hl] at p1
          refine ⟨u, u', vs, vs', rfl, rfl, g, g', by rw [r.length, r'.length]; exact lenS hl, fun l hl' => ?_⟩
          exact p1 _ _ ((x1.trans x2).trans (Ext.newL L2.wf hl')) (L2.newL hl') (RN.newL L.wf (x1.trans x2) L2 hl' (r.append r'))
        · rw [if_neg hl] at p1; exact p1.elim
      · rw [ev, ev'] at p1
        cases y with
        | lst ds => exact absurd rfl (nl' ds)
        | _ => exact p1.elim
    · rw [ev] at p1
      cases x with
      | lst ds => exact absurd rfl (nl ds)
      | _ => exact p1.elim
theorem rgV_D {K : PySem.W.Frag} {q : Stt} (n : Int) (h : 0 ≤ n) : RDs K q (intsD 0 n.toNat) (rgV 0 n) := by
  unfold intsD rgV
  rw [Int.sub_zero]
  generalize List.range n.toNat = l
  induction l with
  | nil => exact .nil
  | cons a l ih => exact .cons (.int _) ih
theorem ge_tupRg (hc : X.calm = true) (hm : X.mg "tuple" = none) (hr : X.mg "range" = none) (ha : GE X C W a ma) (hg : Gl X "tuple" := by rfl) (hgr : Gl X "range" := by rfl) (na : starEach [a] X.env = (false, eval a X.env) :: starEach [] X.env := by rfl)
    (nb : starEach [.Call (.Name "range" p2) [a] [] apos] X.env = (false, eval (.Call (.Name "range" p2) [a] [] apos) X.env) :: starEach [] X.env := by rfl) :
    GE X C W (.Call (.Name "tuple" p) [.Call (.Name "range" p2) [a] [] apos] [] pos) (eTupRg ma) := PE.imp (pe_tupRg hc hg hm (prg_1 hgr hr ha na) nb) fun σ H Q ⟨q0, q, env, s, eq, E, L, p⟩ => by
  subst eq
  refine tM.first (f := fun x s1 => match x with | .int j => if 0 ≤ j ∧ j ≤ cap then .ok (.tup (intsD 0 j.toNat)) s1 else .stk | _ => .stk) E L p rD_any fun x s1 vx q1 x1 E1 L1 y1 p1 => ?_
  cases y1 with
  | int j =>
    simp only at p1
    by_cases hj : 0 ≤ j ∧ j ≤ cap
    · rw [if_pos hj] at p1
      have hc : (cap : Int) = 1000000 := rfl
      refine ⟨j, rfl, RgOk.of_le (Int.le_refl 0) (by omega) (by omega) hj.1, fun u hu => ?_⟩
      have x2 := Ext.new1 (o := .tup (rgV 0 j)) L1.wf hu
      exact p1 _ _ x2 (L1.new1 hu) (.tup (.inl ⟨upd_same, L1.wf.no hu⟩) (rgV_D j hj.1))
    · rw [if_neg hj] at p1; exact p1.elim
  | _ => exact p1.elim

/-! ### never; two names at once -/
theorem gs_never : GS X C W st sNever := ⟨fun pins s σ H D I ⟨q0, q, env, t, eq, X0, E, L, p⟩ => p.elim⟩
theorem gss_never {sts : List Stmt} : GSs X C W sts sNever := ⟨fun pins s σ H D I ⟨q0, q, env, t, eq, X0, E, L, p⟩ => p.elim⟩
theorem gs_par (i j : Nat) {x y : Str} {ml : MA} {px py pt pt2 : Pos} {kt k2} (hc : X.calm = true) (hN : X.N.Nodup) (ha : GA X C W [a, b] ml) (hi : X.N[i]? = some x := by rfl) (hj : X.N[j]? = some y := by rfl) (hij : i ≠ j := by decide)
    (hx : X.env.scope.names.lookup x = some .local := by rfl) (hy : X.env.scope.names.lookup y = some .local := by rfl)
    (hw : swappedStores [.Tuple [.Name x px, .Name y py] kt pt] (.Tuple [a, b] k2 pt2) X.env = pure (some [x, y]) := by rfl)
    (hs : swapsWithSole [.Tuple [.Name x px, .Name y py] kt pt] (.Tuple [a, b] k2 pt2) pos.line X.env = pure false := by rfl) : GS X C W (.Assign [.Tuple [.Name x px, .Name y py] kt pt] (.Tuple [a, b] k2 pt2) pos) (sPar i j ml) := PS.imp (ps_par hc hN hi hj hij hx hy ha hw hs) fun D σ H ⟨q0, q, env, s, eq, X0, E, L, p⟩ => by
  subst eq
  refine tS.first X0 E L p fun ds s1 vs q1 x1 X1 E1 L1 y1 p1 => ?_
  cases y1 with
  | nil => exact p1.elim
  | cons r1 rr =>
    cases rr with
    | nil => exact p1.elim
    | cons r2 rr =>
      cases rr with
      | nil => exact ⟨_, _, rfl, p1 _ q1 X1 (Kp.refl q1) L1 ((E1.set i r1).set j r2)⟩
      | cons r3 rr => exact p1.elim
end
end MP

/-! Written values of the module, written dicts, dicts of one's own, instances made with keywords. Own text. -/
namespace MP
open PySem L2 TL

/-! ### a written value is a tree -/
def all2 (f : Value → D → Bool) : List Value → List D → Bool
  | [], [] => true
  | u :: us, d :: ds => f u d && all2 f us ds
  | _, _ => false
def KFlat : Value → D → Bool
  | .none, .non => true
  | .bool a, .bl b => a == b
  | .int i _, .int j => i == j
  | .str x _, .str cs => decide (x.cps.toList = cs)
  | _, _ => false
def KVal (K : PySem.W.Frag) : Nat → Value → D → Bool
  | 0, u, d => KFlat u d
  | n + 1, u, d => match u, d with
    | .ref a, .tup ds => (match K.lookup a with
      | some o => decide (o.cls = .type "tuple") && (match o.data with | .seq its _ => decide (its.size ≤ 1000) && all2 (KVal K n) its.toList ds | _ => false)
      | none => false)
    | u, d => KFlat u d
theorem kflat {K : PySem.W.Frag} {u : Value} {d : D} (h : KFlat u d = true) : ∃ v, RelV v u ∧ ∀ q : Stt, RD K q d v := by
  unfold KFlat at h
  split at h
  · exact ⟨.non, rfl, fun _ => .non⟩
  · rename_i a b
    have : a = b := by simpa using h
    subst this
    exact ⟨.bl a, rfl, fun _ => .bl a⟩
  · rename_i i t j
    have : i = j := by simpa using h
    subst this
    exact ⟨.int i, ⟨t, rfl⟩, fun _ => .int i⟩
  · rename_i x t cs
    have : x.cps.toList = cs := by simpa using h
    subst this
    refine ⟨.str ⟨x.cps.toList.toArray⟩, ⟨t, ?_⟩, fun _ => .str _⟩
    obtain ⟨l⟩ := x
    rfl
  · cases h
theorem kall {K : PySem.W.Frag} {f : Value → D → Bool} (hf : ∀ u d, f u d = true → ∃ v, RelV v u ∧ ∀ q : Stt, RD K q d v) : ∀ (us : List Value) (ds : List D), all2 f us ds = true → ∃ vs, Vals vs us ∧ ∀ q : Stt, RDs K q ds vs
  | [], [], _ => ⟨[], .nil, fun _ => .nil⟩
  | u :: us, d :: ds, h => by
    unfold all2 at h
    rw [Bool.and_eq_true] at h
    obtain ⟨v, h1, h2⟩ := hf u d h.1
    obtain ⟨vs, h3, h4⟩ := kall hf us ds h.2
    exact ⟨v :: vs, .cons h1 h3, fun q => .cons (h2 q) (h4 q)⟩
  | [], _ :: _, h => by cases h
  | _ :: _, [], h => by cases h
theorem kval {K : PySem.W.Frag} : ∀ (n : Nat) (u : Value) (d : D), KVal K n u d = true → ∃ v, RelV v u ∧ ∀ q : Stt, RD K q d v
  | 0, u, d, h => kflat h
  | n + 1, u, d, h => by
    unfold KVal at h
    split at h
    · rename_i a ds
      split at h
      · rename_i o ho
        rw [Bool.and_eq_true] at h
        obtain ⟨h1, h2⟩ := h
        split at h2
        · rename_i its c hd
          rw [Bool.and_eq_true] at h2
          obtain ⟨vs, h3, h4⟩ := kall (kval n) _ _ h2.2
          refine ⟨.ref a, rfl, fun q => .tup (.inr (.inr ⟨o, its, c, ho, by simpa using h1, hd, ?_, h3⟩)) (h4 q)⟩
          have := of_decide_eq_true h2.1
          exact lenS (by unfold cap; omega)
        · cases h2
      · cases h
    · exact kflat h
def KEnts (K : PySem.W.Frag) (n : Nat) : List DictEntry → List (List Nat × D) → Bool
  | [], [] => true
  | e :: es, (cs, d) :: tab => (match e.key with | .str x _ => decide (x.cps.toList = cs) | _ => false) && (KVal K n e.val d && KEnts K n es tab)
  | _, _ => false
/-- at d a written dict with text keys -/
def KDic (K : PySem.W.Frag) (w : World) (d : Addr) (tab : List (List Nat × D)) : Prop := ∃ es n, K.lookup d = some ⟨.type "dict", none, .dict es n, #[]⟩ ∧ PySem.W.KeysLit w.params es.toList ∧ (d == sysModules) = false ∧ KEnts K 6 es.toList tab = true
theorem kents {K : PySem.W.Frag} (n : Nat) (cs : List Nat) : ∀ (es : List DictEntry) (tab : List (List Nat × D)), KEnts K n es tab = true →
    es.any (·.refKey) = false ∧ ((tab.lookup cs = none ∧ es.find? (·.key.isStr ⟨cs.toArray⟩) = none) ∨ ∃ d e v, tab.lookup cs = some d ∧ es.find? (·.key.isStr ⟨cs.toArray⟩) = some e ∧ RelV v e.val ∧ ∀ q : Stt, RD K q d v)
  | [], [], _ => ⟨rfl, .inl ⟨rfl, rfl⟩⟩
  | e :: es, (c, d) :: tab, h => by
    unfold KEnts at h
    rw [Bool.and_eq_true, Bool.and_eq_true] at h
    obtain ⟨h1, h2, h3⟩ := h
    obtain ⟨r, ih⟩ := kents n cs es tab h3
    obtain ⟨hash, key, val⟩ := e
    cases key with
    | str x t =>
      have hx : x.cps.toList = c := by simpa using h1
      refine ⟨by rw [List.any_cons, r]; rfl, ?_⟩
      have ek : (Value.str x t).isStr ⟨cs.toArray⟩ = decide (cs = c) := by
        rw [← hx]
        obtain ⟨⟨l⟩⟩ := x
        show ((⟨⟨l⟩⟩ : Str) == ⟨cs.toArray⟩) = decide (cs = l)
        by_cases e : cs = l
        · subst e; simp
        · have : ¬ ((⟨⟨l⟩⟩ : Str) = ⟨cs.toArray⟩) := fun z => e (by injection z with z; exact (Array.mk.inj z).symm)
          simp [e, this]
      by_cases e : cs = c
      · obtain ⟨v, h4, h5⟩ := kval n val d h2
        refine .inr ⟨d, ⟨hash, .str x t, val⟩, v, ?_, ?_, h4, h5⟩
        · rw [List.lookup_cons, e]; simp
        · rw [List.find?_cons]
          simp only [ek, e, decide_true]
          rw [e] at ek
          rw [ek]
          simp
      · have e1 : (cs == c) = false := by simpa using e
        rw [List.lookup_cons, e1, List.find?_cons]
        simp only [ek, e, decide_false]
        exact ih
    | _ => cases h1
  | [], _ :: _, h => by cases h
  | _ :: _, [], h => by cases h
theorem kdic {K : PySem.W.Frag} {w : World} {d : Addr} {tab : List (List Nat × D)} (D : KDic K w d tab) (cs : List Nat) :
    (tab.lookup cs = none ∧ PySem.W.nsIn K d ⟨cs.toArray⟩ = some none) ∨ ∃ dd u v, tab.lookup cs = some dd ∧ PySem.W.nsIn K d ⟨cs.toArray⟩ = some (some u) ∧ RelV v u ∧ ∀ q : Stt, RD K q dd v := by
  obtain ⟨es, n, h1, h2, h3, h4⟩ := D
  obtain ⟨r, h⟩ := kents 6 cs es.toList tab h4
  unfold PySem.W.nsIn
  rw [h1]
  dsimp only
  rcases h with ⟨a, b⟩ | ⟨dd, e, v, a, b, c, f⟩
  · rw [b]
    exact .inl ⟨a, by simp [r]⟩
  · rw [b]
    exact .inr ⟨dd, e.val, v, a, rfl, c, f⟩
section
variable {X : Cx} {C : Tab} {W : Wx} {pos p p2 apos tpos cpos : Pos} {tg e a b c o f : Expr} {es elts : List Expr} {m ma mb mc mo mf : ME} {st : Stmt} {x : Str} {d : Addr} {tab : List (List Nat × D)}
theorem ge_kglob {u : Value} (n : Nat) (dd : D) (hm : X.mg x = some u) (k : KVal X.K n u dd = true) (hg : Gl X x := by rfl) (hd : (x == ("__debug__" : Str)) = false := by decide) : GE X C W (.Name x pos) (eC dd) := by
  obtain ⟨v, h1, h2⟩ := kval n u dd k
  exact ge_glob dd hg hm h1 h2 hd
theorem kd_of (D : KDic X.K X.w d tab) : ∃ es n, KDict X.K X.w d es n := by
  obtain ⟨es, n, h1, h2, h3, h4⟩ := D
  exact ⟨es, n, h1, h2, h3⟩
theorem ge_kix (hm : X.mg x = some (.ref d)) (D : KDic X.K X.w d tab) (hb : GE X C W b mb) (hp : PlainIx b := by exact fun _ _ => rfl) (hg : Gl X x := by rfl) (hd : (x == ("__debug__" : Str)) = false := by decide) : GE X C W (.Subscript (.Name x p) b pos) (eOp1 (kGet tab) mb) :=
  PE.imp (pe_ix ix_kdict (pe_glob (v := .ref d) hg hm rfl hd) hb hp) fun σ H Q ⟨q0, q, env, s, eq, E, L, p⟩ => by
    subst eq
    refine tM.first (f := fun x s1 => .ofO (kGet tab s1 x) s1) E L p rD_any fun x s1 vx q1 x1 E1 L1 y1 p1 => ?_
    cases y1 with
    | str cs =>
      unfold kGet at p1; dsimp only at p1
      obtain ⟨es, n, h1, h2, h3, h4⟩ := id D
      rcases kdic D cs with ⟨k1, k2⟩ | ⟨dd, u, v, k1, k2, k3, k4⟩
      · rw [k1] at p1; exact p1.elim
      · rw [k1] at p1
        exact ⟨d, _, v, rfl, rfl, ⟨es, n, u, h1, h2, k2, k3⟩, p1 v q1 (Ext.refl q1) L1 (k4 q1)⟩
    | _ => exact p1.elim
theorem ge_kin (hm : X.mg x = some (.ref d)) (D : KDic X.K X.w d tab) (ha : GE X C W a ma) (hk : behindInMarks .In (.Name x p) = false := by with_unfolding_all rfl) (hg : Gl X x := by rfl) (hd : (x == ("__debug__" : Str)) = false := by decide) : GE X C W (.Compare a [.In] [.Name x p] pos) (eOp1 (kIn tab) ma) := by
  obtain ⟨es, n, D'⟩ := kd_of D
  refine PE.imp (pe_cmpR (op_in_kd D') ha (pe_glob (v := .ref d) hg hm rfl hd) hk) fun σ H Q ⟨q0, q, env, s, eq, E, L, p⟩ => ?_
  subst eq
  refine tM.first (f := fun x s1 => .ofO (kIn tab s1 x) s1) E L p rD_any fun x s1 vx q1 x1 E1 L1 y1 p1 => ?_
  cases y1 with
  | str cs =>
    unfold kIn at p1; dsimp only at p1
    rcases kdic D cs with ⟨k1, k2⟩ | ⟨dd, u, v, k1, k2, k3, k4⟩
    · rw [k1] at p1; exact ⟨_, _, rfl, rfl, k2, p1 _ q1 (Ext.refl q1) L1 (.bl _)⟩
    · rw [k1] at p1; exact ⟨_, _, rfl, rfl, k2, p1 _ q1 (Ext.refl q1) L1 (.bl _)⟩
  | _ => exact p1.elim
theorem ge_knotin (hm : X.mg x = some (.ref d)) (D : KDic X.K X.w d tab) (ha : GE X C W a ma) (hk : behindInMarks .NotIn (.Name x p) = false := by with_unfolding_all rfl) (hg : Gl X x := by rfl) (hd : (x == ("__debug__" : Str)) = false := by decide) : GE X C W (.Compare a [.NotIn] [.Name x p] pos) (eOp1 (kNotIn tab) ma) := by
  obtain ⟨es, n, D'⟩ := kd_of D
  refine PE.imp (pe_cmpR (op_notIn_kd D') ha (pe_glob (v := .ref d) hg hm rfl hd) hk) fun σ H Q ⟨q0, q, env, s, eq, E, L, p⟩ => ?_
  subst eq
  refine tM.first (f := fun x s1 => .ofO (kNotIn tab s1 x) s1) E L p rD_any fun x s1 vx q1 x1 E1 L1 y1 p1 => ?_
  cases y1 with
  | str cs =>
    unfold kNotIn at p1; dsimp only at p1
    rcases kdic D cs with ⟨k1, k2⟩ | ⟨dd, u, v, k1, k2, k3, k4⟩
    · rw [k1] at p1; exact ⟨_, _, rfl, rfl, k2, p1 _ q1 (Ext.refl q1) L1 (.bl _)⟩
    · rw [k1] at p1; exact ⟨_, _, rfl, rfl, k2, p1 _ q1 (Ext.refl q1) L1 (.bl _)⟩
  | _ => exact p1.elim
theorem gt_kin (hm : X.mg x = some (.ref d)) (D : KDic X.K X.w d tab) (ha : GE X C W a ma) (hk : behindInMarks .In (.Name x p) = false := by with_unfolding_all rfl) (hg : Gl X x := by rfl) (hd : (x == ("__debug__" : Str)) = false := by decide) : GT X C W (.Compare a [.In] [.Name x p] pos) (tVal (eOp1 (kIn tab) ma)) := by
  obtain ⟨es, n, D'⟩ := kd_of D
  refine PT.imp (pt_cmpR (op_in_kd D') ha (pe_glob (v := .ref d) hg hm rfl hd) hk) (test_imp fun σ H Q ⟨q0, q, env, s, eq, E, L, p⟩ => ?_)
  subst eq
  refine tM.first (f := fun x s1 => .ofO (kIn tab s1 x) s1) E L p rD_any fun x s1 vx q1 x1 E1 L1 y1 p1 => ?_
  cases y1 with
  | str cs =>
    unfold kIn at p1; dsimp only at p1
    rcases kdic D cs with ⟨k1, k2⟩ | ⟨dd, u, v, k1, k2, k3, k4⟩
    · rw [k1] at p1; exact ⟨_, _, rfl, rfl, k2, p1 _ q1 (Ext.refl q1) L1 (.bl _)⟩
    · rw [k1] at p1; exact ⟨_, _, rfl, rfl, k2, p1 _ q1 (Ext.refl q1) L1 (.bl _)⟩
  | _ => exact p1.elim
theorem gt_knotin (hm : X.mg x = some (.ref d)) (D : KDic X.K X.w d tab) (ha : GE X C W a ma) (hk : behindInMarks .NotIn (.Name x p) = false := by with_unfolding_all rfl) (hg : Gl X x := by rfl) (hd : (x == ("__debug__" : Str)) = false := by decide) : GT X C W (.Compare a [.NotIn] [.Name x p] pos) (tVal (eOp1 (kNotIn tab) ma)) := by
  obtain ⟨es, n, D'⟩ := kd_of D
  refine PT.imp (pt_cmpR (op_notIn_kd D') ha (pe_glob (v := .ref d) hg hm rfl hd) hk) (test_imp fun σ H Q ⟨q0, q, env, s, eq, E, L, p⟩ => ?_)
  subst eq
  refine tM.first (f := fun x s1 => .ofO (kNotIn tab s1 x) s1) E L p rD_any fun x s1 vx q1 x1 E1 L1 y1 p1 => ?_
  cases y1 with
  | str cs =>
    unfold kNotIn at p1; dsimp only at p1
    rcases kdic D cs with ⟨k1, k2⟩ | ⟨dd, u, v, k1, k2, k3, k4⟩
    · rw [k1] at p1; exact ⟨_, _, rfl, rfl, k2, p1 _ q1 (Ext.refl q1) L1 (.bl _)⟩
    · rw [k1] at p1; exact ⟨_, _, rfl, rfl, k2, p1 _ q1 (Ext.refl q1) L1 (.bl _)⟩
  | _ => exact p1.elim
/-- D.get(k, e), D a written dict -/
theorem ge_kget2 (hm : X.mg x = some (.ref d)) (D : KDic X.K X.w d tab) (ha : GE X C W a ma) (hf : GE X C W f mf) (hg : Gl X x := by rfl) (hdb : (x == ("__debug__" : Str)) = false := by decide)
    (hM : M2 X (.Name x p) "get" apos a f cpos := by exact ⟨rfl, rfl, rfl, rfl⟩) : GE X C W (.Call (.Attribute (.Name x p) "get" apos) [a, f] [] cpos) (eOp2 (kGetD tab) ma mf) := by
  refine PE.imp (t := fun σ H Q => tM X.K C W (rD X.K) ma σ H fun y H1 => tM X.K C W (rD X.K) mf σ H1 fun z H2 => ∃ (cs : Str) (r : Option Value) (v : V), y = .str cs ∧ PySem.W.nsIn X.K d cs = some r ∧ (∀ u, RelV z u → RelV v (r.getD u)) ∧ Q v H2) ⟨fun pins s σ H Q I h => ?_⟩ fun σ H Q ⟨q0, q, env, s, eq, E, L, p⟩ => ?_
  · obtain ⟨es, n, h1, h2, h3, h4⟩ := D
    refine wpAny_Call_method hM.base hM.few hM.line PySem.F.plainAttrs_dict PySem.F.slot_dict_get PySem.F.type_dict_get (thn ((pe_glob (v := .ref d) hg hm rfl hdb).run pins s σ H (fun x H1 => x = .ref d ∧ H1 = H) I ⟨rfl, rfl⟩) fun u s1 ⟨x, H1, I1, rx, ex, eh⟩ => ?_)
    subst ex eh
    obtain rfl : u = Value.ref d := rx; have hmap := PySem.W.mapOf_K (prog := X.prog) (w := X.w) I1.kIn h1 h2
    refine ⟨hmap.typeIs, fun b z => by cases z; exact ⟨_, I1.kIn _ _ h1, rfl⟩, ?_⟩
    rw [hM.trees]
    refine Calls.callWith_builtin rfl (Calls.evalArgs_plain (Calls.spliced_cons (thn (ha.run pins s1 σ _ _ I1 h) fun iv s2 ⟨y, H2, I2, ry, q2⟩ => Calls.spliced_cons (thn (hf.run pins s2 σ H2 _ I2 q2) fun fv s3 ⟨z, H3, I3, rz, cs, r, v, ey, hn, hv, q3⟩ => Calls.spliced_nil ?_))))
    subst ey
    obtain ⟨t, rfl⟩ := (show ∃ t, iv = Value.str cs t from ry)
    have hmap3 := PySem.W.mapOf_K (prog := X.prog) (w := X.w) I3.kIn h1 h2
    refine call_meetsIn PySem.F.slot_dict_get hmap3.typeIs PySem.F.entry_dict_get (PySem.F.args_dict_get_3 _ _ _) (meets_dict_get_default (strKind X.prog X.w) d (PySem.strKind_is X.prog X.w cs t) h3 fv) ⟨_, hmap3, v, H3, I3.tok _, ?_, q3⟩
    rw [PySem.W.find_K h1 hn]
    exact hv fv rz
  · subst eq
    refine tM.first (f := fun x s1 => (mf env s1).bind fun y s2 => .ofO (kGetD tab s2 x y) s2) E L p rD_any fun y s1 vy q1 x1 E1 L1 y1 p1 => ?_
    refine tM.first (f := fun z s2 => .ofO (kGetD tab s2 y z) s2) E1 L1 p1 rD_any fun z s2 vz q2 x2 E2 L2 y2 p2 => ?_
    cases y1 with
    | str cs =>
      unfold kGetD at p2; dsimp only at p2
      rcases kdic D cs with ⟨k1, k2⟩ | ⟨dd, u, v, k1, k2, k3, k4⟩
      · rw [k1] at p2
        exact ⟨_, none, vz, rfl, k2, fun u r => r, p2 vz q2 (Ext.refl q2) L2 y2⟩
      · rw [k1] at p2
        exact ⟨_, some u, v, rfl, k2, fun _ _ => k3, p2 v q2 (Ext.refl q2) L2 (k4 q2)⟩
    | _ => exact p2.elim
end
end MP

/-! Dicts of one's own; new instances. Own text. -/
namespace MP
open PySem L2 TL

theorem keyEq_iff {a b : D} {y : Key} (h : keyOf b = some y) {z : Key} (g : keyOf a = some z) : keyEq a b = decide (z = y) := by
  unfold keyOf at h g
  split at h <;> split at g <;> first | (cases h; done) | (cases g; done) | skip
  all_goals cases h
  all_goals cases g
  · simp [keyEq]
  · simp [keyEq]
  · simp [keyEq]
  · simp [keyEq]
theorem isKey_of {d : D} (h : isKey d = true) : ∃ k, keyOf d = some k := by
  cases d <;> first | exact ⟨_, rfl⟩ | cases h
theorem kV_of {K : PySem.W.Frag} {q : Stt} {d : D} {v : V} {k : Key} (r : RD K q d v) (h : keyOf d = some k) : v = kV k := by
  cases r <;> first | (cases h; done) | skip
  · cases h; rfl
  · cases h; rfl
section
variable {K : PySem.W.Frag} {q : Stt}
theorem RK.look {x : D} {k : Key} (hk : keyOf x = some k) : ∀ {kvs : List (D × D)} {ks : List (Key × V)}, RK K q kvs ks → (∀ d, dLook kvs x = some d → ∃ v, valV ks k = some v ∧ RD K q d v) ∧ (dLook kvs x = none → valV ks k = none)
  | _, _, .nil => ⟨fun d h => by simp [dLook] at h, fun _ => rfl⟩
  | _, _, .cons (k := a) (d := d) (y := y) (v := v) e r t => by
    have ih := RK.look hk t
    have he := keyEq_iff hk e
    by_cases z : y = k
    · rw [valV_pos z]
      refine ⟨fun d' h => ⟨v, rfl, ?_⟩, fun h => ?_⟩
      · simp only [dLook, List.find?_cons, he, z, decide_true, Option.map_some] at h
        cases h
        exact r
      · simp only [dLook, List.find?_cons, he, z, decide_true, Option.map_some] at h
        cases h
    · rw [valV_neg z]
      have e2 : ∀ r, dLook ((a, d) :: r) x = dLook r x := fun r => by simp [dLook, List.find?_cons, he, z]
      rw [e2]
      exact ih
theorem RK.any {x : D} {k : Key} (hk : keyOf x = some k) : ∀ {kvs : List (D × D)} {ks : List (Key × V)}, RK K q kvs ks → (kvs.any fun kv => keyEq kv.1 x) = ks.any fun kv => decide (kv.1 = k)
  | _, _, .nil => rfl
  | _, _, .cons e r t => by rw [List.any_cons, List.any_cons, RK.any hk t, keyEq_iff hk e]
theorem RK.repl {x y : D} {k : Key} {v : V} (hk : keyOf x = some k) (ry : RD K q y v) : ∀ {kvs : List (D × D)} {ks : List (Key × V)}, RK K q kvs ks → RK K q (kvs.map fun kv => if keyEq kv.1 x then (kv.1, y) else kv) (ks.map fun kv => if kv.1 = k then (kv.1, v) else kv)
  | _, _, .nil => .nil
  | _, _, .cons (y := z) e r t => by
    have he := keyEq_iff hk e
    rw [List.map_cons, List.map_cons]; by_cases w : z = k
    · simp only [he, w, decide_true, if_true]
      exact .cons (by rw [← w]; exact e) ry (RK.repl hk ry t)
    · simp only [he, w, decide_false, if_false]
      exact .cons e r (RK.repl hk ry t)
theorem RK.snoc {x y : D} {k : Key} {v : V} (hk : keyOf x = some k) (ry : RD K q y v) : ∀ {kvs : List (D × D)} {ks : List (Key × V)}, RK K q kvs ks → RK K q (kvs ++ [(x, y)]) (ks ++ [(k, v)])
  | _, _, .nil => .cons hk ry .nil
  | _, _, .cons e r t => .cons e r (RK.snoc hk ry t)
theorem RK.put {x y : D} {k : Key} {v : V} (hk : keyOf x = some k) (ry : RD K q y v) {kvs : List (D × D)} {ks : List (Key × V)} (r : RK K q kvs ks) : RK K q (dPut kvs x y) (putK ks k v) := by
  unfold dPut putK
  rw [r.any hk]
  split
  · exact r.repl hk ry
  · exact r.snoc hk ry
theorem RK.merge : ∀ {more : List (D × D)} {ms : List (Key × V)} {kvs : List (D × D)} {ks : List (Key × V)}, RK K q more ms → RK K q kvs ks → RK K q (dMerge kvs more) (mergeK ks ms)
  | _, _, _, _, .nil, r => r
  | _, _, _, _, .cons (fs := fs) (gs := gs) e a t, r => RK.merge (more := fs) (ms := gs) t (r.put e a)
theorem RK.length : ∀ {kvs : List (D × D)} {ks : List (Key × V)}, RK K q kvs ks → ks.length = kvs.length
  | _, _, .nil => rfl
  | _, _, .cons e a t => by simp [RK.length t]
theorem dic_at {C : Tab} {s : Sto} {d : D} {v : V} {kvs : List (D × D)} (R : Rel K C s q) (h : RD K q d v) (f : dicOf s d = some kvs) : ∃ n a ks, d = .ref n ∧ v = .ref a ∧ s[n]? = some (.dic kvs) ∧ q.r[n]? = some a ∧ q.H a = some (.dK ks) ∧ RK K q kvs ks := by
  unfold dicOf at f
  split at f
  · rename_i n
    split at f
    · rename_i kvs' e
      cases f
      cases h with
      | ref g =>
        obtain ⟨ks, h1, h2⟩ := R.obs n _ _ e g
        exact ⟨n, _, ks, rfl, rfl, e, g, h1, h2⟩
    · cases f
  · cases f
end
section
variable {X : Cx} {C : Tab} {W : Wx} {pos p p2 apos tpos cpos : Pos} {tg e a b c o f i : Expr} {es elts : List Expr} {m ma mb mc mo mf mi : ME} {st : Stmt} {x : Str}
/-- d[k], d a dict of one's own -/
theorem ge_dget (hu : X.A.units + 1 < cLine) (ho : GE X C W o mo) (hi : GE X C W i mi) (hs : NoSl i := by exact fun _ _ => rfl) : GE X C W (.Subscript o i pos) (eOp2 opDGet mo mi) := PE.imp (pe_dget hu ho hi hs) fun σ H Q ⟨q0, q, env, s, eq, E, L, p⟩ => by
  subst eq
  refine tM.first (f := fun x s1 => (mi env s1).bind fun y s2 => .ofO (opDGet s2 x y) s2) E L p rD_any fun x s1 vx q1 x1 E1 L1 y1 p1 => ?_
  refine tM.first (f := fun y s2 => .ofO (opDGet s2 x y) s2) E1 L1 p1 rD_any fun y s2 vy q2 x2 E2 L2 y2 p2 => ?_
  unfold opDGet at p2
  split at p2
  · rename_i hk
    obtain ⟨k, hk⟩ := isKey_of hk
    cases e1 : dicOf s2 x with
    | none => rw [e1] at p2; exact p2.elim
    | some kvs =>
      rw [e1] at p2
      obtain ⟨n, u, ks, rfl, rfl, h1, h2, h3, h4⟩ := dic_at L2 (RD.mono x2.kp x y1) e1
      simp only [Option.bind_some] at p2
      cases e2 : dLook kvs y with
      | none => rw [e2] at p2; exact p2.elim
      | some d =>
        rw [e2] at p2
        obtain ⟨v, h5, h6⟩ := (h4.look hk).1 d e2
        obtain rfl := kV_of y2 hk
        refine ⟨u, v, rfl, ?_, p2 v q2 (Ext.refl q2) L2 h6⟩
        rw [← h5]
        exact DGet.k h3
  · exact p2.elim
theorem din_imp (σ : St) (H : Hp) (Q : VK) (z : tM X.K C W (rD X.K) (eOp2 opDIn mi mo) σ H Q) : tDIn (tM X.K C W (rD X.K) mi) (tM X.K C W (rD X.K) mo) σ H Q := by
  obtain ⟨q0, q, env, s, eq, E, L, p⟩ := z
  subst eq
  refine tM.first (f := fun x s1 => (mo env s1).bind fun y s2 => .ofO (opDIn s2 x y) s2) E L p rD_any fun y s1 vy q1 x1 E1 L1 y1 p1 => ?_
  refine tM.first (f := fun x s2 => .ofO (opDIn s2 y x) s2) E1 L1 p1 rD_any fun x s2 vx q2 x2 E2 L2 y2 p2 => ?_
  unfold opDIn at p2
  split at p2
  · rename_i hk
    obtain ⟨k, hk⟩ := isKey_of hk
    cases e1 : dicOf s2 x with
    | none => rw [e1] at p2; exact p2.elim
    | some kvs =>
      rw [e1] at p2
      obtain ⟨n, u, ks, rfl, rfl, h1, h2, h3, h4⟩ := dic_at L2 y2 e1
      obtain rfl := kV_of y1 hk
      have e3 : (dLook kvs y).isSome = (valV ks k).isSome := by
        cases e2 : dLook kvs y with
        | none => rw [(h4.look hk).2 e2]; rfl
        | some d => obtain ⟨v, h5, _⟩ := (h4.look hk).1 d e2; rw [h5]; rfl
      simp only [Option.map_some, e3] at p2
      exact ⟨u, _, rfl, DGet.k h3, p2 _ q2 (Ext.refl q2) L2 (.bl _)⟩
  · exact p2.elim
theorem ge_din (hu : X.A.units + 1 < cLine) (hi : GE X C W i mi) (ho : GE X C W o mo) (hk : behindInMarks .In o = false := by with_unfolding_all rfl) : GE X C W (.Compare i [.In] [o] pos) (eOp2 opDIn mi mo) := PE.imp (pe_cmp (pc_din hu hi ho) hk) din_imp
theorem gt_din (hu : X.A.units + 1 < cLine) (hi : GE X C W i mi) (ho : GE X C W o mo) (hk : behindInMarks .In o = false := by with_unfolding_all rfl) : GT X C W (.Compare i [.In] [o] pos) (tVal (eOp2 opDIn mi mo)) := PT.imp (pt_cmp (pc_din hu hi ho) hk) (test_imp din_imp)
theorem dnotin_imp (σ : St) (H : Hp) (Q : VK) (z : tM X.K C W (rD X.K) (eOp2 opDNotIn mi mo) σ H Q) : tDNotIn (tM X.K C W (rD X.K) mi) (tM X.K C W (rD X.K) mo) σ H Q := by
  obtain ⟨q0, q, env, s, eq, E, L, p⟩ := z
  subst eq
  refine tM.first (f := fun x s1 => (mo env s1).bind fun y s2 => .ofO (opDNotIn s2 x y) s2) E L p rD_any fun y s1 vy q1 x1 E1 L1 y1 p1 => ?_
  refine tM.first (f := fun x s2 => .ofO (opDNotIn s2 y x) s2) E1 L1 p1 rD_any fun x s2 vx q2 x2 E2 L2 y2 p2 => ?_
  unfold opDNotIn at p2
  split at p2
  · rename_i hk
    obtain ⟨k, hk⟩ := isKey_of hk
    cases e1 : dicOf s2 x with
    | none => rw [e1] at p2; exact p2.elim
    | some kvs =>
      rw [e1] at p2
      obtain ⟨n, u, ks, rfl, rfl, h1, h2, h3, h4⟩ := dic_at L2 y2 e1
      obtain rfl := kV_of y1 hk
      have e3 : (dLook kvs y).isSome = (valV ks k).isSome := by
        cases e2 : dLook kvs y with
        | none => rw [(h4.look hk).2 e2]; rfl
        | some d => obtain ⟨v, h5, _⟩ := (h4.look hk).1 d e2; rw [h5]; rfl
      simp only [Option.map_some, e3] at p2
      exact ⟨u, _, rfl, DGet.k h3, p2 _ q2 (Ext.refl q2) L2 (.bl _)⟩
  · exact p2.elim
theorem ge_dnotin (hu : X.A.units + 1 < cLine) (hi : GE X C W i mi) (ho : GE X C W o mo) (hk : behindInMarks .NotIn o = false := by with_unfolding_all rfl) : GE X C W (.Compare i [.NotIn] [o] pos) (eOp2 opDNotIn mi mo) := PE.imp (pe_cmp (pc_dnotin hu hi ho) hk) dnotin_imp
theorem gt_dnotin (hu : X.A.units + 1 < cLine) (hi : GE X C W i mi) (ho : GE X C W o mo) (hk : behindInMarks .NotIn o = false := by with_unfolding_all rfl) : GT X C W (.Compare i [.NotIn] [o] pos) (tVal (eOp2 opDNotIn mi mo)) := PT.imp (pt_cmp (pc_dnotin hu hi ho) hk) (test_imp dnotin_imp)

/-! ### a dict display -/
/-- a new object, placed at once -/
theorem Ext.newP {q : Stt} (w : WF q) {p : Addr} {o : HO} (h : q.H p = none) : Ext q ⟨upd q.H p o, fun a => q.L a ∨ a = p, q.r ++ [p]⟩ :=
  ⟨fun a u e _ _ => by show upd q.H p o a = _; rw [upd_ne (ne_of_none e h)]; exact e, fun _ x => .inl x,
   fun a u e n _ => ⟨by show upd q.H p o a = _; rw [upd_ne (ne_of_none e h)]; exact e, fun z => z.elim n (ne_of_none e h)⟩, ⟨[p], rfl⟩, fun a ha => (List.mem_append.mp ha).imp id fun z => by
      obtain rfl : a = p := by simpa using z
      exact Fr.of h, fun a u e t => ⟨u, by show upd q.H p o a = _; rw [upd_ne (ne_of_none e h)]; exact e, t⟩⟩
/-- what is protected and of nobody else is placed -/
theorem place_own {K : PySem.W.Frag} {q0 q : Stt} {s : Sto} {p : Addr} {ho : HO} {ob : Ob} (x : Ext q0 q) (R : Rel K C s q) (h0 : Fr q0 p) (hl : q.L p) (hr : p ∉ q.r) (hk : ∃ u, q.H p = some u ∧ NT u ∧ ∀ f, u ≠ .ext f) (nt : NT ho) (h : RO K C ⟨upd q.H p ho, q.L, q.r ++ [p]⟩ p ob) :
    Ext q0 ⟨upd q.H p ho, q.L, q.r ++ [p]⟩ ∧ Kp q ⟨upd q.H p ho, q.L, q.r ++ [p]⟩ ∧ Rel K C (s ++ [ob]) ⟨upd q.H p ho, q.L, q.r ++ [p]⟩ ∧ RD K ⟨upd q.H p ho, q.L, q.r ++ [p]⟩ (.ref s.length) (.ref p) := by
  have k : Kp q ⟨upd q.H p ho, q.L, q.r ++ [p]⟩ := ⟨(Kp.wr hl).u, ⟨[p], rfl⟩⟩
  have xo := Ext.own (o := ho) x h0
  refine ⟨⟨xo.keep, xo.mono, xo.u, pre_trans x.pre ⟨[p], rfl⟩, fun a ha => ?_, xo.th⟩, k, ⟨⟨?_, fun a ha => ?_, fun a l => ?_⟩, by simp [R.len], fun n o a e1 e2 => ?_, let ⟨_, h1, h2, h3⟩ := hk; tabs_upd R.tb h1 h2 h3 nt⟩, .ref ?_⟩
  · rcases List.mem_append.mp ha with z | z
    · exact x.new a z
    · obtain rfl : a = p := by simpa using z
      exact .inr h0
  · exact List.nodup_append.mpr ⟨R.wf.nd, by simp, fun a ha b hb => by
      obtain rfl : b = p := by simpa using hb
      exact fun z => hr (z ▸ ha)⟩
  · rcases List.mem_append.mp ha with z | z
    · exact R.wf.live a z
    · obtain rfl : a = p := by simpa using z
      exact hl
  · by_cases e : a = p
    · exact ⟨ho, by show upd q.H p ho a = _; rw [e]; exact upd_same, nt⟩
    · obtain ⟨u, hu, t⟩ := R.wf.trk a l
      exact ⟨u, by show upd q.H p ho a = _; rw [upd_ne e]; exact hu, t⟩
  · by_cases hn : n < s.length
    · rw [List.getElem?_append_left hn] at e1
      have e3 : (q.r ++ [p])[n]? = some a := e2
      rw [List.getElem?_append_left (by rw [R.len]; exact hn)] at e3
      have hm := List.mem_of_getElem? e3
      have ne : a ≠ p := fun z => hr (z ▸ hm)
      refine (R.obs n o a e1 e3).mono k ?_
      show upd q.H p ho a = _
      rw [upd_ne ne]
    · have hz : n = s.length := by
        have := (List.getElem?_eq_some_iff.mp e1).1
        simp at this; omega
      subst hz
      simp at e1
      have e2 : (q.r ++ [p])[s.length]? = some a := e2
      rw [← R.len] at e2
      simp at e2
      subst e1 e2
      exact h
  · show (q.r ++ [p])[s.length]? = some p
    rw [← R.len]; simp
/-- pairs read follow a function -/
inductive RPs (K : PySem.W.Frag) (q : Stt) : List (D × D) → List (V × V) → Prop
  | nil : RPs K q [] []
  | cons {k d : D} {x y : V} {ps : List (D × D)} {vs : List (V × V)} : RD K q k x → RD K q d y → RPs K q ps vs → RPs K q ((k, d) :: ps) ((x, y) :: vs)
theorem RPs.rk {K : PySem.W.Frag} {q : Stt} : ∀ {ps : List (D × D)} {vs : List (V × V)}, RPs K q ps vs → ps.all (fun kv => isKey kv.1) = true → ∃ ks : List (Key × V), vs = ks.map (fun kv => (kV kv.1, kv.2)) ∧ RK K q ps ks
  | _, _, .nil, _ => ⟨[], rfl, .nil⟩
  | _, _, .cons (y := y) a b t, h => by
    rw [List.all_cons, Bool.and_eq_true] at h; obtain ⟨k, hk⟩ := isKey_of h.1
    obtain ⟨ks, e, r⟩ := RPs.rk t h.2
    exact ⟨(k, y) :: ks, by rw [kV_of a hk, e]; rfl, .cons hk b r⟩
abbrev rP (K : PySem.W.Frag) : Stt → Stt → List (D × D) → List (V × V) → Prop := fun _ q' d v => RPs K q' d v
/-- the trees of a display and their function -/
def GPs (X : Cx) (C : Tab) (W : Wx) (pos : Pos) (keys : List (Option Expr)) (values : List Expr) (m : MP.Env → Sto → Res (List (D × D))) : Prop := ∃ trs, PPs X pos keys values trs ∧ ∀ σ H Q, tM X.K C W (rP X.K) m σ H Q → tPairs trs σ H Q
theorem gps_nil : GPs X C W pos [] [] pNil := ⟨[], pps_nil, fun σ H Q ⟨q0, q, env, s, eq, E, L, p⟩ => by subst eq; exact p [] q (Ext.refl q) L .nil⟩
theorem gps_cons {k v : Expr} {ks : List (Option Expr)} {vs : List Expr} {mk mv : ME} {mr : MP.Env → Sto → Res (List (D × D))} (hk : GE X C W k mk) (hv : GE X C W v mv) (hr : GPs X C W pos ks vs mr) : GPs X C W pos (some k :: ks) (v :: vs) (pCons mk mv mr) := by
  obtain ⟨trs, h1, h2⟩ := hr
  refine ⟨_, pps_cons hk hv h1, fun σ H Q ⟨q0, q, env, s, eq, E, L, p⟩ => ?_⟩
  subst eq
  refine tM.first (f := fun x s1 => (mv env s1).bind fun y s2 => (mr env s2).bind fun ps s3 => .ok ((x, y) :: ps) s3) E L p (fun _ _ _ _ _ h => h) fun x s1 vx q1 x1 E1 L1 y1 p1 => ?_
  refine tM.first (f := fun y s2 => (mr env s2).bind fun ps s3 => .ok ((x, y) :: ps) s3) E1 L1 p1 (fun _ _ _ _ _ h => h) fun y s2 vy q2 x2 E2 L2 y2 p2 => ?_
  refine h2 σ q2.H _ (tM.first (f := fun ps s3 => .ok ((x, y) :: ps) s3) E2 L2 p2 (fun _ _ _ _ _ h => h) fun ps s3 vs q3 x3 E3 L3 y3 p3 => ?_)
  exact p3 _ q3 (Ext.refl q3) L3 (.cons (RD.mono (x2.trans x3).kp _ y1) (RD.mono x3.kp _ y2) y3)
theorem ge_dic {keys : List (Option Expr)} {values : List Expr} {mp : MP.Env → Sto → Res (List (D × D))} (h : GPs X C W pos keys values mp) (hall : keys.all (·.isSome) = true := by rfl) (hl : keys.length = values.length := by rfl) (h0 : keys ≠ [] := by exact List.cons_ne_nil _ _) (h15 : keys.length ≤ 15 := by decide) :
    GE X C W (.Dict keys values pos) (eDic mp) := by
  obtain ⟨trs, h1, h2⟩ := h
  refine PE.imp (pe_disp h1 hall hl h0 h15) fun σ H Q ⟨q0, q, env, s, eq, E, L, p⟩ pa hpa => ?_
  subst eq
  have x0 := Ext.newL (o := .dK []) L.wf hpa
  refine h2 σ _ _ ⟨q0, ⟨upd q.H pa (.dK []), fun a => q.L a ∨ a = pa, q.r⟩, env, s, rfl, E.ext x0, L.newL hpa, ?_⟩
  unfold eDic at p
  cases e1 : mp env s with
  | stk => rw [e1] at p; exact p.elim
  | exc z t => rw [e1] at p; exact fun c d q' w r => p c d q' (x0.trans w) r
  | ok ps s1 =>
    rw [e1] at p
    intro vs q1 x1 L1 r1
    simp only [Res.bind_ok] at p
    split at p
    · rename_i hc
      rw [Bool.and_eq_true] at hc
      obtain ⟨ks, ev, rk⟩ := r1.rk hc.1
      have nr : pa ∉ q.r := L.wf.nor hpa
      have hk : q1.H pa = some (.dK []) := x1.keep pa _ upd_same nr (fun _ z => nomatch z)
      have hL : q1.L pa := x1.mono pa (.inr rfl)
      have hr : pa ∉ q1.r := fun z => (x1.new pa z).elim nr fun n => n _ upd_same fun _ z => nomatch z
      have kp : Kp q1 ⟨upd q1.H pa (.dK (mergeK [] ks)), q1.L, q1.r ++ [pa]⟩ := ⟨(Kp.wr hL).u, ⟨[pa], rfl⟩⟩
      obtain ⟨z1, z2, z3, z4⟩ := place_own (ho := .dK (mergeK [] ks)) (ob := .dic (dMerge [] ps)) (x0.trans x1) L1 (Fr.of hpa) hL hr ⟨_, hk, (fun _ z => nomatch z), fun _ z => nomatch z⟩ (fun _ z => nomatch z) ⟨_, upd_same, (rk.mono kp).merge .nil⟩
      refine ⟨hk, ks, ev, ?_, p _ _ z1 z3 z4⟩
      rw [rk.length]
      exact of_decide_eq_true hc.2
    · exact p.elim

/-! ### d.update(e) -/
theorem d_update {pins : List (Addr × Obj)} {σ : St} {H : Hp} {s : Shared} {a b : Addr} {kvs more : List (Key × V)} {A : Around} {E : Value → Shared → Prop} {Q : Value → Shared → Prop} (I : Inv X pins σ H s) (e : H a = some (.dK kvs)) (e2 : H b = some (.dK more)) (hab : a ≠ b)
    (hl : kvs.length + more.length ≤ sizeLine) (h : ∀ s', Inv X pins σ (upd H a (.dK (mergeK kvs more))) s' → Q .none s') : wpAny (model X.prog X.w) A (call (.builtin "dict.update") [.ref a, .ref b]) Q E s := by
  obtain ⟨z, hd, vs, rel, dd⟩ := dk_of I.hok e; obtain ⟨z2, hd2, vs2, rel2, dd2⟩ := dk_of I.hok e2
  refine call_meetsIn PySem.F.slot_dict_update dd.typeIs PySem.F.entry_dict_update (PySem.F.args_dict_update_2 _ _) (meets_dict_update (mixKind X.prog X.w) a b hab hd2) ⟨vs, vs2, dd, dd2, by rw [← rel.length, ← rel2.length]; exact hl, fun h' dd' _ sb => ?_⟩
  have hz : (mergeK kvs more).length ≤ sizeLine := Nat.le_trans (length_mergeK more kvs) hl
  have he : ∃ q, h'.get? a = some q := let ⟨q, _, _, hq, _⟩ := dd'; ⟨q, hq⟩; exact h _ (d_write (t' := s.toks) I (by rw [e]; exact True.intro) sb he (dk_new hz hd (rel2.merge rel) dd'))
def tUpd (td te : TE) : TE := fun σ H Q => td σ H fun x H1 => ∃ a, x = .ref a ∧ IsD H1 a ∧ te σ H1 fun y H2 => ∃ b kvs more, y = .ref b ∧ a ≠ b ∧ H2 a = some (.dK kvs) ∧ H2 b = some (.dK more) ∧ kvs.length + more.length ≤ sizeLine ∧ Q .non (upd H2 a (.dK (mergeK kvs more)))
theorem pe_dupd {td te : TE} (ho : PE X o td) (he : PE X e te) (hM : M1 X o "update" apos e cpos) : PE X (.Call (.Attribute o "update" apos) [e] [] cpos) (tUpd td te) := by
  refine ⟨fun pins s σ H Q I h => ?_⟩; refine wpAny_Call_method hM.base hM.few hM.line PySem.F.plainAttrs_dict PySem.F.slot_dict_update PySem.F.type_dict_update (thn (ho.run pins s σ H _ I h) fun u s1 ⟨x, H1, I1, rx, a, ex, d, q1⟩ => ?_)
  subst ex
  obtain rfl : u = Value.ref a := rx; obtain ⟨t1, t2, _⟩ := isD_at I1 d
  refine ⟨t1, t2, ?_⟩
  rw [hM.trees]
  refine Calls.callWith_builtin rfl (Calls.evalArgs_plain (Calls.spliced_cons (thn (he.run pins s1 σ H1 _ I1 q1) fun iv s2 ⟨y, H2, I2, ry, b, kvs, more, ey, hab, e1, e2, hl, q2⟩ => Calls.spliced_nil ?_)))
  subst ey
  obtain rfl : iv = Value.ref b := ry
  exact d_update I2 e1 e2 hab hl fun s3 I3 => ⟨.non, _, I3, rfl, q2⟩
theorem ge_upd (ho : GE X C W o mo) (he : GE X C W e m) (hM : M1 X o "update" apos e cpos := by exact ⟨rfl, rfl, rfl, rfl⟩) : GE X C W (.Call (.Attribute o "update" apos) [e] [] cpos) (eUpd mo m) := PE.imp (pe_dupd ho he hM) fun σ H Q ⟨q0, q, env, s, eq, E, L, p⟩ => by
  subst eq
  refine tM.first (f := fun x s1 => if (dicOf s1 x).isSome then (m env s1).bind fun y s2 => match refN x, refN y, dicOf s2 x, dicOf s2 y with | some n, some m, some p, some r => if n ≠ m ∧ p.length + r.length ≤ 1000 then .ok .non (s2.set n (.dic (dMerge p r))) else .stk | _, _, _, _ => .stk else .stk) E L p rD_any fun x s1 vx q1 x1 E1 L1 y1 p1 => ?_
  split at p1
  · rename_i hs
    obtain ⟨kv0, hs⟩ := Option.isSome_iff_exists.mp hs
    obtain ⟨n, u, ks0, rfl, rfl, a1, a2, a3, a4⟩ := dic_at L1 y1 hs
    refine ⟨u, rfl, .inl ⟨ks0, .inl a3⟩, ?_⟩
    refine tM.first (f := fun y s2 => match refN (.ref n), refN y, dicOf s2 (.ref n), dicOf s2 y with | some n, some m, some p, some r => if n ≠ m ∧ p.length + r.length ≤ 1000 then .ok .non (s2.set n (.dic (dMerge p r))) else .stk | _, _, _, _ => .stk) E1 L1 p1 rD_any fun y s2 vy q2 x2 E2 L2 y2 p2 => ?_
    split at p2
    · rename_i n' m' kv1 kv2 g1 g2 g3 g4
      cases g1
      split at p2
      · rename_i hc
        obtain ⟨n1, u1, ks1, z1, z2, b1, b2, b3, b4⟩ := dic_at L2 (RD.mono x2.kp _ y1) g3
        cases z1
        cases z2
        obtain ⟨n2, u2, ks2, rfl, rfl, c1, c2, c3, c4⟩ := dic_at L2 y2 g4
        cases g2
        have hab : u ≠ u2 := fun z => by
          subst z
          have h4 := (List.getElem?_eq_some_iff.mp b2)
          have h5 := (List.getElem?_eq_some_iff.mp c2)
          exact hc.1 ((List.getElem_inj L2.wf.nd).mp (h4.2.trans h5.2.symm))
        have lu : q2.L u := L2.wf.live u (List.mem_of_getElem? b2)
        obtain ⟨w1, w2⟩ := wr_placed (ho := .dK (mergeK ks1 ks2)) (o' := .dic (dMerge kv1 kv2)) L2 b1 b2 ⟨_, upd_same, (c4.merge b4).mono (Kp.wr lu)⟩
        refine ⟨u2, ks1, ks2, rfl, hab, b3, c3, ?_, p2 .non _ w1 w2 .non⟩
        rw [b4.length, c4.length]
        exact lenS (by unfold cap; omega)
      · exact p2.elim
    · exact p2.elim
  · exact p1.elim
end
end MP

/-! Instances made; calls with keywords; bodies of defs with defaults. Own text. -/
namespace MP
open PySem L2 TL

/-- a fresh instance, placed -/
theorem new_ins {K : PySem.W.Frag} {C : Tab} {q : Stt} {s : Sto} {x dx : Addr} (c : Nat) (R : Rel K C s q) (hx : q.H x = none) (hd : q.H dx = none) (ne : dx ≠ x) :
    ∃ q' : Stt, q'.H = upd (upd q.H dx (.own x)) x (.ins (C c) dx []) ∧ Ext q q' ∧ Rel K C (s ++ [.ins c []]) q' ∧ RD K q' (.ref s.length) (.ref x) := by
  have x1 := Ext.new1 (o := .own x) R.wf hd
  have R1 := R.new1 (o := .own x) hd
  have hx1 : (upd q.H dx (.own x)) x = none := by rw [upd_ne (Ne.symm ne)]; exact hx
  have x2 := Ext.newL (q := ⟨upd q.H dx (.own x), q.L, q.r⟩) (o := .ins (C c) dx []) R1.wf hx1
  have R2 := R1.newL (o := .ins (C c) dx []) hx1
  obtain ⟨z1, z2, z3, z4⟩ := place_own (ho := .ins (C c) dx []) (ob := .ins c []) x2 R2 (Fr.of hx1) (.inr rfl) (R1.wf.nor hx1) ⟨_, upd_same, (fun _ z => nomatch z), fun _ z => nomatch z⟩ (fun _ z => nomatch z) ⟨dx, [], upd_same, .nil⟩
  refine ⟨_, ?_, x1.trans z1, z3, z4⟩
  show upd (upd (upd q.H dx (.own x)) x (.ins (C c) dx [])) x (.ins (C c) dx []) = _
  rw [L2.upd_upd]
/-- what a maker asks -/
theorem asked_made {K : PySem.W.Frag} {C : Tab} {W : Wx} {q1 q2 : Stt} {σ : St} {Q : VK} {n : Nat} {x : Addr} {r : Res D} (x2 : Ext q1 q2) (hn : RD K q2 (.ref n) (.ref x)) (p : Post K C W (rD K) q1 σ Q (madeR n r)) :
    Post K C W (rD K) q2 σ (fun v H2 => v = .non ∧ Q (.ref x) H2) r := by
  cases r with
  | ok d s3 =>
    intro v q3 x3 R3 rd
    unfold madeR at p
    simp only [Res.bind_ok] at p
    cases rd with
    | non => exact ⟨rfl, p (.ref x) q3 (x2.trans x3) R3 (RD.mono x3.kp _ hn)⟩
    | _ => exact p.elim
  | exc y s3 => exact fun cls d q' w R r => p cls d q' (x2.trans w) R r
  | stk => exact p.elim
/-- a def at f with keywords: n values by place, those named ks -/
def CalK (P : Program) (w : World) (K : PySem.W.Frag) (mg : Str → Option Value) (base : Heap) (C : Tab) (k : Nat) (f : Addr) (n : Nat) (ks : List Str) (g : FnK) : Prop :=
  ∃ (fd : FuncData) (ps : List Str) (gu : List Value → List Value → List Value) (gV : List V → List V → List V) (g' : Fn) (arr : List D → List D → List D), FnOk P w K mg base (L2.CX P w) k f fd ps (spM K C g') ∧ KBn K fd ps n ks gu gV ∧
    (∀ (q : Stt) (as es : List D) (vs zs : List V), RDs K q as vs → RDs K q es zs → as.length = n → es.length = ks.length → RDs K q (arr as es) (gV vs zs)) ∧ g = fun as es => g' (arr as es)
def AskedK (K : PySem.W.Frag) (C : Tab) (W : Wx) (n m : Nat) (g : FnK) (σ : St) (vs zs : List V) (H : Hp) (Q : VK) : Prop := ∃ (q : Stt) (s : Sto) (ds es : List D), q.H = H ∧ Rel K C s q ∧ RDs K q ds vs ∧ RDs K q es zs ∧ ds.length = n ∧ es.length = m ∧ Post K C W (rD K) q σ Q (g ds es s)
section
variable {X : Cx} {C : Tab} {W : Wx} {k n c : Nat} {f Ca : Addr} {g : Fn} {gk : FnK} {pos p apos : Pos} {x : Str} {e a b o : Expr} {es : List Expr} {kws : List Keyword} {ks : List Str} {m ma mb mo : ME} {ml mk : MA}
theorem run_new {pins : List (Addr × Obj)} {σ : St} {H : Hp} {s : Shared} {Q : VK} {us : List Value} {vs : List V} (M : Mk X.K Ca f) (F : Cal X.prog X.w X.K X.mg X.base C k f g) (hr : Room (k + 1) X.A) (tk : Takes X W) (I : Inv X pins σ H s) (r : Vals vs us)
    (h : ∀ x dx, H x = none → H dx = none → dx ≠ x → Asked X.K C W g σ (.ref x :: vs) (upd (upd H dx (.own x)) x (.ins Ca dx [])) (fun v H2 => v = .non ∧ Q (.ref x) H2)) :
    wpAny (model X.prog X.w) X.A (call (.ref Ca) us) (EP X pins σ Q) X.xe s := by
  obtain ⟨fd, ps, ds, dvs, dD, g', F, hb, hd, rd, rfl⟩ := F
  have hq := h (s.heap.objs.size + 1) s.heap.objs.size (I.hok.fresh (Nat.le_succ _)) (I.hok.fresh (Nat.le_refl _)) (Nat.ne_of_lt (Nat.lt_succ_self _)); have I2 := Inv.made (C := Ca) I
  obtain ⟨q, st, as, e, L, ra, pz⟩ := hq
  have hs : spM X.K C g' (.ref (s.heap.objs.size + 1) :: vs ++ dvs) _ _ (WE W σ) := ⟨q, st, as ++ dD, e, L, ra.append (rd q), post_sig pz⟩
  have r1 : Vals (V.ref (s.heap.objs.size + 1) :: vs) (Value.ref (s.heap.objs.size + 1) :: us) := .cons rfl r; have r2 := r1.append hd
  have hl : (Value.ref (s.heap.objs.size + 1) :: us ++ ds).length = ps.length := r2.length.symm.trans (F.len _ _ _ _ hs)
  have hbd := hb { s with heap := (s.heap.push PySem.W.emptyDict).push (PySem.W.instObj Ca s.heap.objs.size) } (Value.ref (s.heap.objs.size + 1) :: us) I2.kIn hl
  have hrun := F.run _ X.stack _ _ ⟨Value.ref (s.heap.objs.size + 1) :: us, []⟩ _ _ _ _ (hr.make Ca us []) (I2.env0.make Ca us []) hbd r2 hs
  refine wpAny_call (make_map (f := f) I.kIn M.makes M.init (beq_iff_eq.mp M.fn) (codeAny_mono hrun fun r s' hq' => ?_))
  cases r with
  | error e => exact passAt tk σ pins _ _ e s' I2 hq'
  | ok fl =>
    cases fl with
    | ret u =>
      obtain ⟨v, H', I3, rv, ev, q3⟩ := I2.after hq'; subst ev; exact ⟨rv, ⟨V.ref (s.heap.objs.size + 1), H', I3, rfl, q3⟩⟩
    | _ => exact hq'.elim
theorem ge_new (M : Mk X.K (C c) f) (F : Cal X.prog X.w X.K X.mg X.base C k f g) (hr : Room (k + 1) X.A) (tk : Takes X W) (hm : X.mg x = some (.ref (C c))) (ha : GA X C W (e :: es) ml) (hg : Gl X x := by rfl) (hdb : (x == ("__debug__" : Str)) = false := by decide)
    (he : starEach (e :: es) X.env = (false, eval e X.env) :: starEach es X.env := by rfl) (hpl : (backTo pos (starEach es X.env)).any (·.1) = false := by rfl) : GE X C W (.Call (.Name x p) (e :: es) [] pos) (eNew c g ml) := by
  refine PE.imp (t := fun σ H Q => tM X.K C W (rA X.K) ml σ H fun vs H1 => ∀ x dx, H1 x = none → H1 dx = none → dx ≠ x → Asked X.K C W g σ (.ref x :: vs) (upd (upd H1 dx (.own x)) x (.ins (C c) dx [])) (fun v H2 => v = .non ∧ Q (.ref x) H2)) ⟨fun pins s σ H Q I h => ?_⟩ fun σ H Q ⟨q0, q, env, s, eq, E, L, p⟩ => ?_
  · refine wpAny_Call_Name_kw (ld_glob I hg hm ?_ hdb)
    exact PySem.W.callWith_K (h₀ := X.base) I.ok.mod.kin M.kp (thn (ha.run pos pins s σ H _ I h) fun us s1 ⟨vs, H1, I1, r, q⟩ => ⟨I1.kIn, run_new M F hr tk I1 r q⟩) he hpl
  · subst eq
    refine tM.first (f := fun ds s1 => madeR s1.length (g (.ref s1.length :: ds) (s1 ++ [.ins c []]))) E L p rD_any fun ds s1 vs q1 x1 E1 L1 y1 p1 x dx hx hd ne => ?_
    obtain ⟨q2, e2, x2, L2, n2⟩ := new_ins c L1 hx hd ne
    exact ⟨q2, _, _, e2, L2, .cons n2 (RDs.mono x2.kp _ y1), asked_made x2 n2 p1⟩
theorem ge_new0 (M : Mk X.K (C c) f) (F : Cal X.prog X.w X.K X.mg X.base C k f g) (hr : Room (k + 1) X.A) (tk : Takes X W) (hm : X.mg x = some (.ref (C c))) (hg : Gl X x := by rfl) (hdb : (x == ("__debug__" : Str)) = false := by decide) : GE X C W (.Call (.Name x p) [] [] pos) (eNew c g aNil) := by
  refine PE.imp (t := fun σ H Q => ∀ x dx, H x = none → H dx = none → dx ≠ x → Asked X.K C W g σ [.ref x] (upd (upd H dx (.own x)) x (.ins (C c) dx [])) (fun v H2 => v = .non ∧ Q (.ref x) H2)) ⟨fun pins s σ H Q I h => ?_⟩ fun σ H Q ⟨q0, q, env, s, eq, E, L, p⟩ => ?_
  · refine wpAny_Call_Name_kw (ld_glob I hg hm ?_ hdb)
    exact PySem.W.callWith_K0 I.kIn M.kp (run_new (us := []) M F hr tk I .nil h)
  · subst eq
    intro x dx hx hd ne
    obtain ⟨q2, e2, x2, L2, n2⟩ := new_ins c L hx hd ne
    exact ⟨q2, _, _, e2, L2, .cons n2 .nil, asked_made x2 n2 p⟩

/-! ### keywords -/
def GK (X : Cx) (C : Tab) (W : Wx) (kws : List Keyword) (m : MA) : Prop := PK X kws (tM X.K C W (rA X.K) m)
theorem gk_nil : GK X C W [] aNil := ⟨fun pos pins s σ H Q I ⟨q0, q, env, t, eq, E, L, p⟩ => pk_nil.run pos pins s σ H Q I (by subst eq; exact p [] q (Ext.refl q) L .nil)⟩
theorem gk_cons {nm : Option Str} {kpos : Pos} {mr : MA} (ha : GE X C W e m) (hr : GK X C W kws mr) : GK X C W (⟨nm, e, kpos⟩ :: kws) (aCons m mr) := ⟨fun pos pins s σ H Q I ⟨q0, q, env, t, eq, E, L, p⟩ => (pk_cons ha hr).run pos pins s σ H Q I (by
  subst eq
  refine tM.first (f := fun x s1 => (mr env s1).bind fun xs s2 => .ok (x :: xs) s2) E L p rA_any fun x s1 vx q1 x1 E1 L1 y1 p1 => ?_
  refine tM.first (f := fun xs s2 => .ok (x :: xs) s2) E1 L1 p1 rA_any fun xs s2 vs q2 x2 E2 L2 y2 p2 => ?_
  exact p2 _ q2 (Ext.refl q2) L2 (.cons (RD.mono x2.kp x y1) y2))⟩
theorem run_calK {pins : List (Addr × Obj)} {σ : St} {H : Hp} {s : Shared} {Q : VK} {us ws : List Value} {vs zs : List V} (F : CalK X.prog X.w X.K X.mg X.base C k f n ks gk) (hr : Room k X.A) (tk : Takes X W) (I : Inv X pins σ H s) (r : Vals vs us) (rz : Vals zs ws)
    (h : AskedK X.K C W n ks.length gk σ vs zs H Q) : wpAny (model X.prog X.w) X.A (call (.ref f) us (ks.zip ws)) (EP X pins σ Q) X.xe s := by
  obtain ⟨fd, ps, gu, gV, g', arr, F, hb, hA, rfl⟩ := F
  obtain ⟨q, st, ds, es, e, L, r1, r2, l1, l2, pz⟩ := h
  have hs : spM X.K C g' (gV vs zs) H Q (WE W σ) := ⟨q, st, _, e, L, hA q ds es vs zs r1 r2 l1 l2, post_sig pz⟩
  refine wpAny_call (codeAny_mono (F.run X.A X.stack s H ⟨us, ks.zip ws⟩ (gu us ws) (gV vs zs) Q (WE W σ) hr I.env0 (hb.to s us ws I.kIn (r.length.symm.trans (r1.length.trans l1)) (rz.length.symm.trans (r2.length.trans l2))) (hb.rel r rz) hs) fun r s' hq => ?_)
  cases r with
  | error e => exact passAt tk σ pins H s e s' I hq
  | ok fl =>
    cases fl with
    | ret u => exact I.after hq
    | _ => exact hq.elim
theorem run_newK {pins : List (Addr × Obj)} {σ : St} {H : Hp} {s : Shared} {Q : VK} {us ws : List Value} {vs zs : List V} (M : Mk X.K Ca f) (F : CalK X.prog X.w X.K X.mg X.base C k f (n + 1) ks gk) (hr : Room (k + 1) X.A) (tk : Takes X W) (I : Inv X pins σ H s) (r : Vals vs us) (rz : Vals zs ws)
    (h : ∀ x dx, H x = none → H dx = none → dx ≠ x → AskedK X.K C W (n + 1) ks.length gk σ (.ref x :: vs) zs (upd (upd H dx (.own x)) x (.ins Ca dx [])) (fun v H2 => v = .non ∧ Q (.ref x) H2)) :
    wpAny (model X.prog X.w) X.A (call (.ref Ca) us (ks.zip ws)) (EP X pins σ Q) X.xe s := by
  obtain ⟨fd, ps, gu, gV, g', arr, F, hb, hA, rfl⟩ := F
  have hq := h (s.heap.objs.size + 1) s.heap.objs.size (I.hok.fresh (Nat.le_succ _)) (I.hok.fresh (Nat.le_refl _)) (Nat.ne_of_lt (Nat.lt_succ_self _)); have I2 := Inv.made (C := Ca) I
  obtain ⟨q, st, ds, es, e, L, ra, rb, l1, l2, pz⟩ := hq
  have hs : spM X.K C g' (gV (.ref (s.heap.objs.size + 1) :: vs) zs) _ _ (WE W σ) := ⟨q, st, _, e, L, hA q ds es _ zs ra rb l1 l2, post_sig pz⟩
  have r1 : Vals (V.ref (s.heap.objs.size + 1) :: vs) (Value.ref (s.heap.objs.size + 1) :: us) := .cons rfl r; have n1 : (Value.ref (s.heap.objs.size + 1) :: us).length = n + 1 := by rw [← r1.length, ra.length, l1]
  have hrun := F.run _ X.stack _ _ ⟨Value.ref (s.heap.objs.size + 1) :: us, ks.zip ws⟩ _ _ _ _ (hr.make Ca us (ks.zip ws)) (I2.env0.make Ca us (ks.zip ws)) (hb.to _ _ ws I2.kIn n1 (rz.length.symm.trans (rb.length.trans l2))) (hb.rel r1 rz) hs
  refine wpAny_call (make_map (f := f) I.kIn M.makes M.init (beq_iff_eq.mp M.fn) (codeAny_mono hrun fun r s' hq' => ?_))
  cases r with
  | error e => exact passAt tk σ pins _ _ e s' I2 hq'
  | ok fl =>
    cases fl with
    | ret u =>
      obtain ⟨v, H', I3, rv, ev, q3⟩ := I2.after hq'; subst ev; exact ⟨rv, ⟨V.ref (s.heap.objs.size + 1), H', I3, rfl, q3⟩⟩
    | _ => exact hq'.elim
theorem ge_newK (n : Nat) (M : Mk X.K (C c) f) (F : CalK X.prog X.w X.K X.mg X.base C k f (n + 1) ks gk) (hr : Room (k + 1) X.A) (tk : Takes X W) (hm : X.mg x = some (.ref (C c))) (ha : GA X C W (e :: es) ml) (hkw : GK X C W kws mk) (hg : Gl X x := by rfl) (hdb : (x == ("__debug__" : Str)) = false := by decide)
    (hall : (backToKw pos (keywordEach kws X.env)).all (·.1.isSome) = true := by rfl) (hks : (backToKw pos (keywordEach kws X.env)).filterMap (·.1) = ks := by rfl) (he : starEach (e :: es) X.env = (false, eval e X.env) :: starEach es X.env := by rfl)
    (hpl : ((backTo pos (starEach (e :: es) X.env)).any (·.1) || (backToKw pos (keywordEach kws X.env)).any (·.1.isNone)) = false := by rfl) : GE X C W (.Call (.Name x p) (e :: es) kws pos) (eNewK c gk n ks.length ml mk) := by
  refine PE.imp (t := fun σ H Q => tM X.K C W (rA X.K) ml σ H fun vs H1 => tM X.K C W (rA X.K) mk σ H1 fun zs H2 => ∀ x dx, H2 x = none → H2 dx = none → dx ≠ x → AskedK X.K C W (n + 1) ks.length gk σ (.ref x :: vs) zs (upd (upd H2 dx (.own x)) x (.ins (C c) dx [])) (fun v H3 => v = .non ∧ Q (.ref x) H3)) ⟨fun pins s σ H Q I h => ?_⟩ fun σ H Q ⟨q0, q, env, s, eq, E, L, p⟩ => ?_
  · refine wpAny_Call_Name_kw (ld_glob I hg hm ?_ hdb)
    refine PySem.W.callWith_KW (h₀ := X.base) I.ok.mod.kin M.kp hall (thn (ha.run pos pins s σ H _ I h) fun us s1 ⟨vs, H1, I1, r, q⟩ => ?_) hpl he; refine thn (hkw.run pos pins s1 σ H1 _ I1 q) fun ws s2 ⟨zs, H2, I2, rz, q2⟩ => ⟨I2.kIn, ?_⟩
    rw [hks]
    exact run_newK M F hr tk I2 r rz q2
  · subst eq
    refine tM.first (f := fun ds s1 => (mk env s1).bind fun es s2 => if ds.length = n ∧ es.length = ks.length then madeR s2.length (gk (.ref s2.length :: ds) es (s2 ++ [.ins c []])) else .stk) E L p rD_any fun ds s1 vs q1 x1 E1 L1 y1 p1 => ?_
    refine tM.first (f := fun es s2 => if ds.length = n ∧ es.length = ks.length then madeR s2.length (gk (.ref s2.length :: ds) es (s2 ++ [.ins c []])) else .stk) E1 L1 p1 rD_any fun es s2 zs q2 x2 E2 L2 y2 p2 x dx hx hd ne => ?_
    split at p2
    · rename_i hl
      obtain ⟨q3, e3, x3, L3, n3⟩ := new_ins c L2 hx hd ne
      exact ⟨q3, _, _, _, e3, L3, .cons n3 (RDs.mono (x2.trans x3).kp _ y1), RDs.mono x3.kp _ y2, by rw [List.length_cons, hl.1], hl.2, asked_made x3 n3 p2⟩
    · exact p2.elim
theorem ge_callK (n : Nat) (F : CalK X.prog X.w X.K X.mg X.base C k f n ks gk) (hr : Room k X.A) (tk : Takes X W) (hm : X.mg x = some (.ref f)) (hk : PySem.W.keepIn X.K (.ref f) = true) (ha : GA X C W (e :: es) ml) (hkw : GK X C W kws mk) (hg : Gl X x := by rfl) (hdb : (x == ("__debug__" : Str)) = false := by decide)
    (hall : (backToKw pos (keywordEach kws X.env)).all (·.1.isSome) = true := by rfl) (hks : (backToKw pos (keywordEach kws X.env)).filterMap (·.1) = ks := by rfl) (he : starEach (e :: es) X.env = (false, eval e X.env) :: starEach es X.env := by rfl)
    (hpl : ((backTo pos (starEach (e :: es) X.env)).any (·.1) || (backToKw pos (keywordEach kws X.env)).any (·.1.isNone)) = false := by rfl) : GE X C W (.Call (.Name x p) (e :: es) kws pos) (eCallK gk n ks.length ml mk) := by
  refine PE.imp (t := fun σ H Q => tM X.K C W (rA X.K) ml σ H fun vs H1 => tM X.K C W (rA X.K) mk σ H1 fun zs H2 => AskedK X.K C W n ks.length gk σ vs zs H2 Q) ⟨fun pins s σ H Q I h => ?_⟩ fun σ H Q ⟨q0, q, env, s, eq, E, L, p⟩ => ?_
  · refine wpAny_Call_Name_kw (ld_glob I hg hm ?_ hdb)
    refine PySem.W.callWith_KW (h₀ := X.base) I.ok.mod.kin hk hall (thn (ha.run pos pins s σ H _ I h) fun us s1 ⟨vs, H1, I1, r, q⟩ => ?_) hpl he; refine thn (hkw.run pos pins s1 σ H1 _ I1 q) fun ws s2 ⟨zs, H2, I2, rz, q2⟩ => ⟨I2.kIn, ?_⟩
    rw [hks]
    exact run_calK F hr tk I2 r rz q2
  · subst eq
    refine tM.first (f := fun ds s1 => (mk env s1).bind fun es s2 => if ds.length = n ∧ es.length = ks.length then gk ds es s2 else .stk) E L p rD_any fun ds s1 vs q1 x1 E1 L1 y1 p1 => ?_
    refine tM.first (f := fun es s2 => if ds.length = n ∧ es.length = ks.length then gk ds es s2 else .stk) E1 L1 p1 rD_any fun es s2 zs q2 x2 E2 L2 y2 p2 => ?_
    split at p2
    · rename_i hl
      exact ⟨q2, _, _, _, rfl, L2, RDs.mono x2.kp _ y1, y2, hl.1, hl.2, p2⟩
    · exact p2.elim
end

/-! ### bodies of defs with defaults -/
section
variable {P : Program} {w : World} {K : PySem.W.Frag} {mg : Str → Option Value} {base : Heap} {C : Tab}
theorem body_sim {X : Cx} {N : List Str} {n : Nat} {ms : MS} {g : Fn} {body : List Stmt} {H : Hp} {vs : List V} {Q : VK} {E : XK} (hN : n ≤ N.length) (hg : g = runB n N.length ms) (hb : GSs X C (fun cls d _ H' => E cls d H') body ms) (h : spM X.K C g vs H Q E) :
    ∃ t, PSs X body t ∧ t { nx := fun _ H' => Q .non H', rt := Q } (start N vs) H := by
  subst hg
  refine ⟨_, hb, ?_⟩
  obtain ⟨q, s, ds, e, L, r, p⟩ := h
  subst e
  unfold runB at p
  split at p
  · rename_i hk
    refine ⟨q, q, _, s, rfl, Ext.refl q, RE.start (N.length - n) L r (by rw [hk]), L, ?_⟩
    cases z : ms (ds.map .val ++ List.replicate (N.length - n) .emp) s with
    | nx e s' => rw [z] at p; exact fun σ' q' x1 k1 L1 E1 => p .non q' x1 L1 .non
    | rt d s' => rw [z] at p; exact fun v q' x1 k1 L1 r1 => p v q' x1 L1 r1
    | ex y e s' => rw [z] at p; exact fun cls d σ' q' x1 k1 L1 E1 r1 => p cls d q' x1 L1 r1
    | bk e s' => rw [z] at p; exact p.elim
    | ct e s' => rw [z] at p; exact p.elim
    | stk => rw [z] at p; exact p.elim
  · exact p.elim
theorem spM_len {n m : Nat} {ms : MS} {vs : List V} {H : Hp} {Q : VK} {E : XK} (h : spM K C (runB n m ms) vs H Q E) : vs.length = n := by
  obtain ⟨q, s, ds, e, L, r, p⟩ := h
  rw [r.length]
  unfold runB at p
  split at p
  · rename_i h; exact h
  · exact p.elim
theorem fn_calD {x qual : Str} {params : Arguments} {body : List Stmt} {scope : Scope} {dvs : List V} {kws : List (Str × V)} {f : Addr} {fd : FuncData} {N ps : List Str} {k : Nat} {ms : MS} (F : FunD K x qual params body scope dvs kws f fd) (S : FnScope N ps scope) (hN : ps.length ≤ N.length)
    (hb : ∀ (cdv : Value) (A : Around) (outer : List PySem.Env) (s : Shared) (H : Hp) (E : XK), Room k (A.deeper (PyProof.Rows.envOfC qual scope s.heap.objs.size f cdv)) →
      GSs (cxOf (L2.CX P w) P w K mg base N qual scope f cdv A outer s H E) C (fun cls d _ H' => E cls d H') body ms) : FnOk P w K mg base (L2.CX P w) (k + 1) f fd ps (spM K C (runB ps.length N.length ms)) :=
  F.ok S (fun vs H Q E h => spM_len h) fun cdv A outer s H vs Q E hr h => body_sim hN rfl (hb cdv A outer s H E hr) h
end
end MP

/-! zip of a tuple and a list (the library has it of two lists, of two tuples): the same walk with the other iterator in the second place. Own text. -/
namespace MP
open PySem.Spec PySem PyProof.Rows L2
open PySem.Sem (wp)
section
variable {prog : Program} {w : World} {A : Around} {Er : Value → Shared → Prop} {s : Shared}
theorem zipM_next_item {zo tA tB ia ib la lb : Addr} {na nb : Nat} {us ws : Array Value} {x0 y0 pa pb : Value} {R : Value → Shared → Prop} (dA : ZipApart zo tA tB ia ib la lb)
    (gz : IsZip s.heap zo tA tB .none) (gA : IsPair s.heap tA (.ref ia) (.ref ib)) (gB : IsPair s.heap tB pa pb)
    (j1 : s.heap.IsTupleIter ia la na) (j2 : s.heap.IsListIter ib lb nb) (t1 : s.heap.IsTuple la us) (t2 : s.heap.IsList lb ws) (ex : us[na]? = some x0) (ey : ws[nb]? = some y0)
    (kQ : ∀ h', IsZip h' zo tA tB (rawInt s.heap.objs.size) → IsPair h' tB x0 y0 → h'.IsTupleIter ia la (na + 1) → h'.IsListIter ib lb (nb + 1) → IsPair h' s.heap.objs.size x0 y0 → h'.objs.size = s.heap.objs.size + 1 →
      (∀ cc ob, cc ≠ zo → cc ≠ tB → cc ≠ ia → cc ≠ ib → s.heap.get? cc = some ob → h'.get? cc = some ob) → R (.ref s.heap.objs.size) { s with heap := h' }) :
    wpAny (model prog w) A (Builtin.«zip.__next__» ⟨[.ref zo], []⟩) (fun fin s' => ∃ v, fin = .done (.ret v) ∧ R v s') Er s := by
  show wpAny _ _ (field (.ref zo) 2 >>= _) _ _ _
  refine wpAny_bind (wpAny_field gz rfl (x := .bool false) rfl ?_)
  show wpAny _ _ (field (.ref zo) 3 >>= _) _ _ _
  refine wpAny_bind (wpAny_field gz rfl (x := .ref tA) rfl ?_)
  refine wpAny_bind (wpAny_seqItems gA rfl ?_)
  show wpAny _ _ (Builtin.SmallTypes.ownedTupleIsFree (.ref zo) >>= _) _ _ _
  refine wpAny_bind ?_
  unfold Builtin.SmallTypes.ownedTupleIsFree; refine wpAny_bind (wpAny_field gz rfl (x := .none) rfl (wpAny_pure ?_))
  simp only [if_true]
  refine wpAny_bind (wpAny_rule ?_); refine wpAny_bind (wpAny_field gz rfl (x := .ref tB) rfl ?_)
  refine wpAny_bind (wpAny_setField_rec gz (by simp) fun m₁ gz₁ s₁ => ?_)
  replace gz₁ : IsZip m₁ zo tA tB .ellipsis := gz₁
  refine wpAny_bind ?_; simp only [List.zipIdx_cons, List.zipIdx_nil, List.forIn_cons, List.forIn_nil]

  refine wpAny_bind (wpAny_bind (wpAny_onRaise ?_)); show wpAny _ _ (Builtin.SmallTypes.nextOf (.ref ia) >>= _) _ _ _
  refine wpAny_bind (RZ.nextOf_tuple_item (j1.extBut s₁.extBut dA.i1z) (t1.extBut s₁.extBut dA.l1z) ex fun m₂ j1₂ s₂ => wpAny_pure ?_)
  have gB₂ : IsPair m₂ tB pa pb := s₂.extBut _ _ dA.TOi1 (s₁.extBut _ _ dA.TOz gB)
  refine wpAny_bind (wpAny_seqItems gB₂ rfl ?_)
  refine wpAny_bind (wpAny_updateSeq_pair gB₂ fun m₃ gB₃ s₃ => ?_)
  replace gB₃ : IsPair m₃ tB x0 pb := gB₃; refine wpAny_bind (wpAny_letGo (wpAny_pure ?_))

  refine wpAny_bind (wpAny_bind (wpAny_onRaise ?_)); show wpAny _ _ (Builtin.SmallTypes.nextOf (.ref ib) >>= _) _ _ _
  refine wpAny_bind (wpAny_nextOf_list_item (((j2.extBut s₁.extBut dA.i2z).extBut s₂.extBut dA.i12.symm).extBut s₃.extBut dA.TOi2.symm)
    (((t2.extBut s₁.extBut dA.l2z).extBut s₂.extBut dA.l2i1).extBut s₃.extBut dA.l2TO) ey fun m₄ j2₄ s₄ => wpAny_pure ?_)
  have gB₄ : IsPair m₄ tB x0 pb := s₄.extBut _ _ dA.TOi2 gB₃
  refine wpAny_bind (wpAny_seqItems gB₄ rfl ?_)
  refine wpAny_bind (wpAny_updateSeq_pair gB₄ fun m₅ gB₅ s₅ => ?_)
  replace gB₅ : IsPair m₅ tB x0 y0 := gB₅; refine wpAny_bind (wpAny_letGo (wpAny_pure (wpAny_pure ?_)))

  refine wpAny_bind (wpAny_seqItems gB₅ rfl ?_)
  refine wpAny_bind (wpAny_newTuple ?_); have gs : m₅.objs.size = s.heap.objs.size := by rw [s₅.1, s₄.1, s₃.1, s₂.1, s₁.1]
  have gz₅ : IsZip m₅ zo tA tB .ellipsis := s₅.extBut _ _ dA.TOz.symm (s₄.extBut _ _ dA.i2z.symm (s₃.extBut _ _ dA.TOz.symm (s₂.extBut _ _ dA.i1z.symm gz₁)))
  have hk₅ : ∀ cc ob, cc ≠ zo → cc ≠ tB → cc ≠ ia → cc ≠ ib → s.heap.get? cc = some ob → m₅.get? cc = some ob := fun cc ob c1 c2 c3 c4 er =>
    s₅.extBut _ _ c2 (s₄.extBut _ _ c4 (s₃.extBut _ _ c2 (s₂.extBut _ _ c3 (s₁.extBut _ _ c1 er))))
  have j1₅ : m₅.IsTupleIter ia la (na + 1) := ((j1₂.extBut s₃.extBut dA.TOi1.symm).extBut s₄.extBut dA.i12).extBut s₅.extBut dA.TOi1.symm
  have j2₅ : m₅.IsListIter ib lb (nb + 1) := j2₄.extBut s₅.extBut dA.TOi2.symm
  have gl : zo < m₅.objs.size := Heap.lt_size gz₅
  have glB : tB < m₅.objs.size := Heap.lt_size gB₅
  have gl1 : ia < m₅.objs.size := by obtain ⟨_, er, _⟩ := j1₅; exact Heap.lt_size er
  have gl2 : ib < m₅.objs.size := by obtain ⟨_, er, _⟩ := j2₅; exact Heap.lt_size er
  show wpAny _ _ (Builtin.SmallTypes.ownedTupleHandOut (.ref zo) (.ref m₅.objs.size) >>= _) _ _ _
  refine wpAny_bind ?_
  unfold Builtin.SmallTypes.ownedTupleHandOut; have gz₆ : IsZip (m₅.push { cls := .type "tuple", data := .seq #[x0, y0] }) zo tA tB .ellipsis := Heap.get?_push_of_some _ gz₅
  refine wpAny_bind (wpAny_setField_rec gz₆ (by simp) fun m₇ gz₇ s₇ => ?_)
  replace gz₇ : IsZip m₇ zo tA tB (rawInt m₅.objs.size) := gz₇
  refine wpAny_setField_rec gz₇ (by simp) fun m₈ gz₈ s₈ => ?_
  replace gz₈ : IsZip m₈ zo tA tB (rawInt m₅.objs.size) := gz₈
  have kp : ∀ cc ob, cc ≠ zo → m₅.get? cc = some ob → m₈.get? cc = some ob := fun cc ob c1 er => s₈.extBut _ _ c1 (s₇.extBut _ _ c1 (Heap.get?_push_of_some _ er))
  have gT₈ : IsPair m₈ m₅.objs.size x0 y0 := s₈.extBut _ _ (Nat.ne_of_gt gl) (s₇.extBut _ _ (Nat.ne_of_gt gl) (Heap.get?_push_size _ rfl))
  have gz8 : m₈.objs.size = m₅.objs.size + 1 := by rw [s₈.1, s₇.1, Heap.size_push]
  rw [gs] at gz₈ gT₈ gz8
  refine wpAny_pure ⟨_, rfl, ?_⟩; show R (.ref m₅.objs.size) _
  rw [gs]
  exact kQ m₈ gz₈ (kp _ _ dA.TOz gB₅) (j1₅.at fun ob er => kp _ ob dA.i1z er) (j2₅.at fun ob er => kp _ ob dA.i2z er) gT₈ gz8 fun cc ob c1 c2 c3 c4 er => kp cc ob c1 (hk₅ cc ob c1 c2 c3 c4 er)

theorem zipM_next_end {zo tA tB ia ib la lb : Addr} {na nb : Nat} {us ws : Array Value} {pa pb : Value} {R : Fin → Shared → Prop} (hn : A.handled = none) (dA : ZipApart zo tA tB ia ib la lb)
    (gz : IsZip s.heap zo tA tB .none) (gA : IsPair s.heap tA (.ref ia) (.ref ib)) (gB : IsPair s.heap tB pa pb)
    (j1 : s.heap.IsTupleIter ia la na) (j2 : s.heap.IsListIter ib lb nb) (t1 : s.heap.IsTuple la us) (t2 : s.heap.IsList lb ws) (fe : us[na]? = none ∨ ws[nb]? = none)
    (kE : ∀ h' er, (∀ cc ob, cc ≠ zo → cc ≠ tB → cc ≠ ia → cc ≠ ib → s.heap.get? cc = some ob → h'.get? cc = some ob) → (∃ ob, h'.get? er = some ob ∧ ob.cls = .type "StopIteration") → Er (.ref er) { s with heap := h' }) :
    wpAny (model prog w) A (Builtin.«zip.__next__» ⟨[.ref zo], []⟩) R Er s := by
  show wpAny _ _ (field (.ref zo) 2 >>= _) _ _ _
  refine wpAny_bind (wpAny_field gz rfl (x := .bool false) rfl ?_)
  show wpAny _ _ (field (.ref zo) 3 >>= _) _ _ _
  refine wpAny_bind (wpAny_field gz rfl (x := .ref tA) rfl ?_)
  refine wpAny_bind (wpAny_seqItems gA rfl ?_)
  show wpAny _ _ (Builtin.SmallTypes.ownedTupleIsFree (.ref zo) >>= _) _ _ _
  refine wpAny_bind ?_
  unfold Builtin.SmallTypes.ownedTupleIsFree; refine wpAny_bind (wpAny_field gz rfl (x := .none) rfl (wpAny_pure ?_))
  simp only [if_true]
  refine wpAny_bind (wpAny_rule ?_); refine wpAny_bind (wpAny_field gz rfl (x := .ref tB) rfl ?_)
  refine wpAny_bind (wpAny_setField_rec gz (by simp) fun m₁ gz₁ s₁ => ?_)
  replace gz₁ : IsZip m₁ zo tA tB .ellipsis := gz₁
  refine wpAny_bind ?_
  simp only [List.zipIdx_cons, List.zipIdx_nil, List.forIn_cons, List.forIn_nil]; refine wpAny_bind (wpAny_bind (wpAny_onRaise ?_))
  show wpAny _ _ (Builtin.SmallTypes.nextOf (.ref ia) >>= _) _ _ _
  cases ex : us[na]? with
  | none =>
    refine wpAny_bind (RZ.nextOf_tuple_end hn (j1.extBut s₁.extBut dA.i1z) (t1.extBut s₁.extBut dA.l1z) ex fun m₂ er s₂ hr => ?_)
    obtain ⟨ob1, oe1, ce1⟩ := hr
    have gz₂ : IsZip m₂ zo tA tB .ellipsis := s₂ _ _ dA.i1z.symm gz₁
    have ez : er ≠ zo := fun x0 => by subst x0; rw [gz₂] at oe1; cases oe1; simp at ce1
    refine wpAny_setField_rec gz₂ (by simp) fun m₃ _ s₃ => kE m₃ er (fun cc ob c1 _ c3 _ x0 => s₃.extBut _ _ c1 (s₂ _ _ c3 (s₁.extBut _ _ c1 x0))) ⟨ob1, s₃.extBut _ _ ez oe1, ce1⟩
  | some x0 =>
    have ey : ws[nb]? = none := by rcases fe with h | h; rw [ex] at h; cases h; exact h
    refine wpAny_bind (RZ.nextOf_tuple_item (j1.extBut s₁.extBut dA.i1z) (t1.extBut s₁.extBut dA.l1z) ex fun m₂ j1₂ s₂ => wpAny_pure ?_)
    have gB₂ : IsPair m₂ tB pa pb := s₂.extBut _ _ dA.TOi1 (s₁.extBut _ _ dA.TOz gB)
    refine wpAny_bind (wpAny_seqItems gB₂ rfl ?_)
    refine wpAny_bind (wpAny_updateSeq_pair gB₂ fun m₃ gB₃ s₃ => ?_)
    refine wpAny_bind (wpAny_letGo (wpAny_pure ?_)); refine wpAny_bind (wpAny_bind (wpAny_onRaise ?_))
    show wpAny _ _ (Builtin.SmallTypes.nextOf (.ref ib) >>= _) _ _ _
    refine wpAny_bind (wpAny_nextOf_list_end hn (((j2.extBut s₁.extBut dA.i2z).extBut s₂.extBut dA.i12.symm).extBut s₃.extBut dA.TOi2.symm)
      (((t2.extBut s₁.extBut dA.l2z).extBut s₂.extBut dA.l2i1).extBut s₃.extBut dA.l2TO) ey fun m₄ er s₄ hr => ?_)
    obtain ⟨ob1, oe1, ce1⟩ := hr
    have gz₄ : IsZip m₄ zo tA tB .ellipsis := s₄ _ _ dA.i2z.symm (s₃.extBut _ _ dA.TOz.symm (s₂.extBut _ _ dA.i1z.symm gz₁))
    have ez : er ≠ zo := fun x0 => by subst x0; rw [gz₄] at oe1; cases oe1; simp at ce1
    refine wpAny_setField_rec gz₄ (by simp) fun m₅ _ s₅ => kE m₅ er (fun cc ob c1 c2 c3 c4 x0 => s₅.extBut _ _ c1 (s₄ _ _ c4 (s₃.extBut _ _ c2 (s₂.extBut _ _ c3 (s₁.extBut _ _ c1 x0))))) ⟨ob1, s₅.extBut _ _ ez oe1, ce1⟩

theorem pyNext_zipM_item {zo tA tB ia ib la lb : Addr} {na nb : Nat} {us ws : Array Value} {x0 y0 pa pb : Value} {R : Option Value → Shared → Prop} (dA : ZipApart zo tA tB ia ib la lb)
    (gz : IsZip s.heap zo tA tB .none) (gA : IsPair s.heap tA (.ref ia) (.ref ib)) (gB : IsPair s.heap tB pa pb)
    (j1 : s.heap.IsTupleIter ia la na) (j2 : s.heap.IsListIter ib lb nb) (t1 : s.heap.IsTuple la us) (t2 : s.heap.IsList lb ws) (ex : us[na]? = some x0) (ey : ws[nb]? = some y0)
    (kQ : ∀ h', IsZip h' zo tA tB (rawInt s.heap.objs.size) → IsPair h' tB x0 y0 → h'.IsTupleIter ia la (na + 1) → h'.IsListIter ib lb (nb + 1) → IsPair h' s.heap.objs.size x0 y0 → h'.objs.size = s.heap.objs.size + 1 →
      (∀ cc ob, cc ≠ zo → cc ≠ tB → cc ≠ ia → cc ≠ ib → s.heap.get? cc = some ob → h'.get? cc = some ob) → R (some (.ref s.heap.objs.size)) { s with heap := h' }) :
    wpAny (model prog w) A (pyNext (.ref zo)) R Er s := by
  have gT : s.TypeIs (.ref zo) "zip" := ⟨_, gz, rfl⟩
  unfold pyNext
  exact wpAny_bind (wpAny_attempt (wpAny_callSpecial?_slot (name := Str.ofString "__next__") gT F.slot_zip_next
    (wpAny_call_entry F.slot_zip_next gT F.entry_zip_next
      (zipM_next_item dA gz gA gB j1 j2 t1 t2 ex ey fun h' a1 a2 a3 a4 a5 a6 a7 => wpAny_pure (kQ h' a1 a2 a3 a4 a5 a6 a7)) (F.args_zip_next_1 _))))

theorem pyNext_zipM_end {zo tA tB ia ib la lb : Addr} {na nb : Nat} {us ws : Array Value} {pa pb : Value} {R : Option Value → Shared → Prop} (hn : A.handled = none) (dA : ZipApart zo tA tB ia ib la lb)
    (gz : IsZip s.heap zo tA tB .none) (gA : IsPair s.heap tA (.ref ia) (.ref ib)) (gB : IsPair s.heap tB pa pb)
    (j1 : s.heap.IsTupleIter ia la na) (j2 : s.heap.IsListIter ib lb nb) (t1 : s.heap.IsTuple la us) (t2 : s.heap.IsList lb ws) (fe : us[na]? = none ∨ ws[nb]? = none)
    (kQ : ∀ h', (∀ cc ob, cc ≠ zo → cc ≠ tB → cc ≠ ia → cc ≠ ib → s.heap.get? cc = some ob → h'.get? cc = some ob) → R none { s with heap := h' }) : wpAny (model prog w) A (pyNext (.ref zo)) R Er s := by
  have gT : s.TypeIs (.ref zo) "zip" := ⟨_, gz, rfl⟩
  unfold pyNext
  refine wpAny_bind (wpAny_attempt (wpAny_callSpecial?_slot (name := Str.ofString "__next__") gT F.slot_zip_next
    (wpAny_call_entry F.slot_zip_next gT F.entry_zip_next (zipM_next_end hn dA gz gA gB j1 j2 t1 t2 fe fun h' er hk1 hr => ?_) (F.args_zip_next_1 _))))
  obtain ⟨ob, ho, hc⟩ := hr
  refine wpAny_bind (wpAny_isInstance (T := "StopIteration") (b := true) ⟨ob, ho, hc⟩ isSubtype_stop ?_)
  exact wpAny_pure (kQ _ hk1)
end
abbrev zmH1 (h : Heap) (la : Addr) : Heap := h.push { cls := .type "tuple_iterator", data := .fields #[.ref la, .int 0 0] }
abbrev zmH2 (h : Heap) (la lb : Addr) : Heap := (zmH1 h la).push { cls := .type "list_iterator", data := .fields #[.ref lb, .int 0 0] }
abbrev zmH3 (h : Heap) (la lb : Addr) : Heap := (zmH2 h la lb).push { cls := .type "tuple", data := .seq #[.ref h.objs.size, .ref (zmH1 h la).objs.size] }
abbrev zmH4 (h : Heap) (la lb : Addr) : Heap := (zmH3 h la lb).push { cls := .type "tuple", data := .seq #[.none, .none] }
abbrev zmH5 (h : Heap) (la lb : Addr) : Heap := (zmH4 h la lb).push { cls := .type "zip", data := .fields #[.none, .bool false, .bool false, .ref (zmH2 h la lb).objs.size, .ref (zmH3 h la lb).objs.size] }

theorem meets_zipM_new (la lb : Addr) (us ws : Array Value) :
    Meets (Builtin.«zip.__new__» ⟨[.type "zip", .ref la, .ref lb], []⟩) (fun _ R s => s.heap.IsTuple la us ∧ s.heap.IsList lb ws ∧
      R (.ok (.ret (.ref (zmH4 s.heap la lb).objs.size))) { s with heap := zmH5 s.heap la lb }) :=
  .of_wp fun pg w A R s h => by
    obtain ⟨hw, g, d, tk, os⟩ := s; obtain ⟨t1, t2, h⟩ := h
    have gsub := sub_zip
    have gL1 : Heap.IsTuple (Shared.heap ⟨hw, g, d, tk, os⟩) la us := t1
    have gL2 : Heap.IsList (Shared.heap ⟨hw.push { cls := .type "tuple_iterator", data := .fields #[.ref la, .int 0 0] }, g, d, tk, os⟩) lb ws := Heap.IsList.push t2 _
    wp_walk using wpAny_pyIter_tuple gL1, wpAny_pyIter_list gL2
    exact ⟨_, rfl, h⟩

section
variable {prog : Program} {w : World} {A : Around} {Er : Value → Shared → Prop}  {s : Shared}

theorem call_zipM {la lb : Addr} {us ws : Array Value} {R : Value → Shared → Prop} (t1 : s.heap.IsTuple la us) (t2 : s.heap.IsList lb ws)
    (h : ∀ h', IsZip h' (s.heap.objs.size + 4) (s.heap.objs.size + 2) (s.heap.objs.size + 3) .none → IsPair h' (s.heap.objs.size + 2) (.ref s.heap.objs.size) (.ref (s.heap.objs.size + 1)) → IsPair h' (s.heap.objs.size + 3) .none .none → h'.IsTupleIter s.heap.objs.size la 0 → h'.IsListIter (s.heap.objs.size + 1) lb 0 → h'.objs.size = s.heap.objs.size + 5 →
      (∀ cc ob, s.heap.get? cc = some ob → h'.get? cc = some ob) → R (.ref (s.heap.objs.size + 4)) { s with heap := h' }) :
    wpAny (model prog w) A (call (.type "zip") [.ref la, .ref lb]) R Er s := by
  refine callType_new F.called_zip (by decide) (F.typeCall_zip_2 _ _) (F.newCall_zip_2 _ _) (fun it => F.args_object_init_3 it _ _) F.entry_zip_new
    (meets_zipM_new la lb us ws) ⟨t1, t2, ?_⟩
  have z1 : (zmH1 s.heap la).objs.size = s.heap.objs.size + 1 := Heap.size_push ..
  have z2 : (zmH2 s.heap la lb).objs.size = s.heap.objs.size + 2 := by rw [Heap.size_push, z1]
  have z3 : (zmH3 s.heap la lb).objs.size = s.heap.objs.size + 3 := by rw [Heap.size_push, z2]
  have z4 : (zmH4 s.heap la lb).objs.size = s.heap.objs.size + 4 := by rw [Heap.size_push, z3]
  have z5 : (zmH5 s.heap la lb).objs.size = s.heap.objs.size + 5 := by rw [Heap.size_push, z4]
  have g5 : (zmH5 s.heap la lb).get? (zmH4 s.heap la lb).objs.size = some _ := Heap.get?_push_size _ rfl
  have g4 : (zmH5 s.heap la lb).get? (zmH3 s.heap la lb).objs.size = some _ := Heap.get?_push_of_some _ (Heap.get?_push_size _ rfl)
  have g3 : (zmH5 s.heap la lb).get? (zmH2 s.heap la lb).objs.size = some _ := Heap.get?_push_of_some _ (Heap.get?_push_of_some _ (Heap.get?_push_size _ rfl))
  have g2 : (zmH5 s.heap la lb).get? (zmH1 s.heap la).objs.size = some _ := Heap.get?_push_of_some _ (Heap.get?_push_of_some _ (Heap.get?_push_of_some _ (Heap.get?_push_size _ rfl)))
  have g1 : (zmH5 s.heap la lb).get? s.heap.objs.size = some _ := Heap.get?_push_of_some _ (Heap.get?_push_of_some _ (Heap.get?_push_of_some _ (Heap.get?_push_of_some _ (Heap.get?_push_size _ rfl))))
  show _ ∧ _
  rw [z2, z3, z4] at g5
  rw [z1, z2] at g3
  rw [z3] at g4
  rw [z1] at g2
  rw [z4]
  exact ⟨⟨_, g5, rfl⟩, h _ g5 g3 g4 ⟨_, g1, rfl, rfl⟩ ⟨_, g2, rfl, rfl⟩ z5 fun cc ob x0 =>
    Heap.get?_push_of_some _ (Heap.get?_push_of_some _ (Heap.get?_push_of_some _ (Heap.get?_push_of_some _ (Heap.get?_push_of_some _ x0))))⟩
end

/-- the tuple at pa and the list at pb as they stand at each turn, the items in new pairs -/
def ItzM (K : PySem.W.Frag) (pa pb : Addr) : It :=
  ⟨fun i H => ∃ (us ws : List V) (x0 y0 : V), SqT K H pa us ∧ SqL K H pb ws ∧ us[i]? = some x0 ∧ ws[i]? = some y0,
    fun i H v H' => ∃ T x0 y0, v = .ref T ∧ H T = none ∧ H' = upd H T (.tup [x0, y0]) ∧ (∀ us, SqT K H pa us → us[i]? = some x0) ∧ ∀ ws, SqL K H pb ws → ws[i]? = some y0,
    fun i H => ∃ us ws : List V, SqT K H pa us ∧ SqL K H pb ws ∧ (us.length ≤ i ∨ ws.length ≤ i)⟩
theorem turn_zipM {P : Program} {w : World} {K : PySem.W.Frag} {elts : List Expr} {kk : Nat} {tpos : Pos} {pa pb zo tA tB ia ib : Addr} (dA : ZipApart zo tA tB ia ib pa pb) :
    Turn P w K (.Tuple elts kk tpos) (ItzM K pa pb) [zo, tA, tB, ia, ib] zo (fun i h => IsZip h zo tA tB .none ∧ IsPair h tA (.ref ia) (.ref ib) ∧ (∃ x0 y0, IsPair h tB x0 y0) ∧ h.IsTupleIter ia pa i ∧ h.IsListIter ib pb i) where
  mem := by simp
  obj := fun i h st cc hc => by
    obtain ⟨gz, gA, ⟨x0, y0, gB⟩, ⟨o1, e1, _, d1⟩, ⟨o2, e2, _, d2⟩⟩ := st
    have e' : cc = zo ∨ cc = tA ∨ cc = tB ∨ cc = ia ∨ cc = ib := by simpa using hc
    rcases e' with (q | q | q | q | q)
    · rw [q]; exact ⟨_, gz, fun v q => nomatch q⟩
    · rw [q]; exact ⟨_, gA, fun v q => nomatch q⟩
    · rw [q]; exact ⟨_, gB, fun v q => nomatch q⟩
    · rw [q]; exact ⟨o1, e1, fun v y => by rw [d1] at y; cases y⟩
    · rw [q]; exact ⟨o2, e2, fun v y => by rw [d2] at y; cases y⟩
  keep := fun i h h' st k => by
    obtain ⟨gz, gA, ⟨x0, y0, gB⟩, j1, j2⟩ := st
    exact ⟨k zo (by simp) _ gz, k tA (by simp) _ gA, ⟨x0, y0, k tB (by simp) _ gB⟩, j1.at fun ob q => k ia (by simp) ob q, j2.at fun ob q => k ib (by simp) ob q⟩
  item := by
    intro X hP hw hK hc i pins s σ H Er I hf st hg
    subst hP hw hK
    obtain ⟨gz, gA, ⟨x0, y0, gB⟩, j1, j2⟩ := st
    obtain ⟨us, ws, x0, y0, hqx, hqy, ex, ey⟩ := hg
    obtain ⟨its, rv, p, _⟩ := I.tuple hqx; obtain ⟨its2, rv2, p2, _⟩ := I.list hqy
    obtain ⟨u, hu, ru⟩ := rv.get ex
    obtain ⟨u2, hu2, ru2⟩ := rv2.get ey
    have hzl : zo < s.heap.objs.size := Heap.lt_size gz
    refine pyNext_zipM_item dA gz gA gB j1 j2 p p2.isList (x0 := u) (y0 := u2) (by simpa using hu) (by simpa using hu2) fun h' z' TO' h1' h2' gT gs hk1 => ?_
    refine ⟨_, rfl, wpAny_letOwnedTupleGo_zip (s := { s with heap := h' }) z' fun h'' z'' sb => ?_⟩; have hT2 : h''.get? s.heap.objs.size = some { cls := .type "tuple", data := .seq #[u, u2] } := (sb.2 _ (Nat.ne_of_gt hzl)).trans gT
    have new : ObjOk X.prog X.w (upd H s.heap.objs.size (.tup [x0, y0])) h'' s.heap.objs.size (.tup [x0, y0]) :=
      ⟨(show 2 ≤ sizeLine by decide), [u, u2], .cons ru (.cons ru2 .nil), ⟨_, hT2, rfl, _, rfl⟩⟩
    have I1 : Inv X pins σ (upd H s.heap.objs.size (.tup [x0, y0])) { s with heap := h'' } :=
      I.turnedNew (t' := s.toks) (ch := [zo, tA, tB, ia, ib]) (fun cc ob hb q => (sb.2 cc (fun q' => hb (by simp [q']))).trans (hk1 cc ob (fun q' => hb (by simp [q'])) (fun q' => hb (by simp [q'])) (fun q' => hb (by simp [q'])) (fun q' => hb (by simp [q'])) q)) hf (Nat.le_refl _) new
    refine ⟨.ref s.heap.objs.size, _, I1, rfl, ⟨_, x0, y0, rfl, I.hok.fresh (Nat.le_refl _), rfl, fun l hl => by rw [I.tuple_inj hl hqx]; exact ex, fun l hl => by rw [I.list_inj hl hqy]; exact ey⟩, ⟨z'', ?_, ⟨u, u2, ?_⟩, ?_, ?_⟩, fun cc hcm => ?_⟩
    · exact (sb.2 _ dA.TIz).trans (hk1 _ _ dA.TIz dA.TITO dA.TIi1 dA.TIi2 gA)
    · exact (sb.2 _ dA.TOz).trans TO'
    · exact h1'.at fun ob q => (sb.2 _ dA.i1z).trans q
    · exact h2'.at fun ob q => (sb.2 _ dA.i2z).trans q
    · have hlt : cc < s.heap.objs.size := by
        have e' : cc = zo ∨ cc = tA ∨ cc = tB ∨ cc = ia ∨ cc = ib := by simpa using hcm
        rcases e' with (q | q | q | q | q)
        · rw [q]; exact hzl
        · rw [q]; exact Heap.lt_size gA
        · rw [q]; exact Heap.lt_size gB
        · rw [q]; obtain ⟨_, e1, _⟩ := j1; exact Heap.lt_size e1
        · rw [q]; obtain ⟨_, e2, _⟩ := j2; exact Heap.lt_size e2
      rw [upd_ne (Nat.ne_of_lt hlt)]; exact (hf cc hcm).1
  done := by
    intro X hP hw hK hc i pins s σ H Er I hf st hg
    subst hP hw hK
    obtain ⟨gz, gA, ⟨x0, y0, gB⟩, j1, j2⟩ := st
    obtain ⟨us, ws, hqx, hqy, fe⟩ := hg
    obtain ⟨its, rv, p, _⟩ := I.tuple hqx; obtain ⟨its2, rv2, p2, _⟩ := I.list hqy
    have la := rv.length
    have lb := rv2.length
    have hr : its.toArray[i]? = none ∨ its2.toArray[i]? = none := by
      rcases fe with q | q
      · exact .inl (by simp; omega)
      · exact .inr (by simp; omega)
    exact pyNext_zipM_end (I.ok.hd hc) dA gz gA gB j1 j2 p p2.isList hr fun h' hk1 => ⟨rfl, I.turnedL (t' := s.toks) (ch := [zo, tA, tB, ia, ib]) (fun cc ob hb q =>
      hk1 cc ob (fun q' => hb (by simp [q'])) (fun q' => hb (by simp [q'])) (fun q' => hb (by simp [q'])) (fun q' => hb (by simp [q'])) q) hf⟩
  self := fun A i s R Er st h => wpAny_pyIter_zip st.1 h


def iZipM (K : PySem.W.Frag) (ta : TA) : TI := fun σ H R => ta σ H fun vs H1 => ∃ a b xs ys, vs = [.ref a, .ref b] ∧ SqT K H1 a xs ∧ SqL K H1 b ys ∧ R (ItzM K a b) H1
theorem pi_zipM {X : Cx} {e e2 : Expr} {ta : TA} {p pos tpos : Pos} {elts : List Expr} {kk : Nat} (hg : Gl X "zip") (hm : X.mg "zip" = none) (ha : PA X [e, e2] ta) (hs : starEach [e, e2] X.env = (false, eval e X.env) :: starEach [e2] X.env := by rfl)
    (hpl : (backTo pos (starEach [e2] X.env)).any (·.1) = false := by rfl) : PI X (.Tuple elts kk tpos) (.Call (.Name "zip" p) [e, e2] [] pos) (iZipM X.K ta) := by
  refine ⟨fun pins s σ H R I h => Call_ (ld_blt I hg hm PyProof.Rows.boot_zip (PyProof.Rows.callWith_type1 (thn (ha.run pos pins s σ H _ I h) fun us s1 ⟨vs, H1, I1, r1, a, b, xs, ys, ex, hqx, hqy, q⟩ => ?_) hs hpl))⟩
  subst ex
  obtain ⟨u1, u2, rfl, r, r'⟩ : ∃ u1 u2, us = [u1, u2] ∧ RelV (.ref a) u1 ∧ RelV (.ref b) u2 := by
    cases r1 with
    | cons r rr =>
      cases rr with
      | cons r' rr => cases rr; exact ⟨_, _, rfl, r, r'⟩
  obtain rfl : u1 = Value.ref a := r
  obtain rfl : u2 = Value.ref b := r'
  obtain ⟨its, rv, p1, _⟩ := I1.tuple hqx
  obtain ⟨its2, rv2, p2, _⟩ := I1.list hqy; obtain ⟨o1, ho1, _⟩ := id p1
  refine call_zipM (show s1.heap.IsTuple a its.toArray from p1) p2.isList fun h' hz hTI hTO h1 h2 hsz hk => wpAny_pyIter_zip hz ?_
  have I2 : Inv X pins σ H1 { s1 with heap := h' } := I1.kept (t' := s1.toks) hk; refine ⟨s1.heap.objs.size + 4, [s1.heap.objs.size + 4, s1.heap.objs.size + 2, s1.heap.objs.size + 3, s1.heap.objs.size, s1.heap.objs.size + 1], _, _, H1, rfl, I2, turn_zipM (PySem.W.ktu_apart s1.heap.objs.size a b (Heap.lt_size ho1) p2.lt), ⟨hz, hTI, ⟨_, _, hTO⟩, h1, h2⟩, fun c hc => ?_, q⟩
  have hge : s1.heap.objs.size ≤ c := by
    simp only [List.mem_cons, List.not_mem_nil, or_false] at hc
    rcases hc with z | z | z | z | z <;> rw [z] <;> first | exact Nat.le_refl _ | exact Nat.le_add_right _ _
  exact I1.fpOk hge (I1.hok.fresh hge)
/-- zip of any two of lists and tuples but list and tuple -/
def iZipB (K : PySem.W.Frag) (ta : TA) : TI := fun σ H R => ta σ H fun vs H1 => ∃ a b xs ys, vs = [.ref a, .ref b] ∧ ((SqL K H1 a xs ∧ SqL K H1 b ys ∧ R (Itz K a b) H1) ∨ (SqT K H1 a xs ∧ SqT K H1 b ys ∧ R (RZ.ItzT K a b) H1))
section
variable {X : Cx} {C : Tab} {W : Wx} {pos p tpos : Pos} {a b : Expr} {elts : List Expr} {ma mb : ME} {kk : Nat}
/-- zip(tuple, list) -/
theorem gi_zipM (hm : X.mg "zip" = none) (ha : GE X C W a ma) (hb : GE X C W b mb) (hg : Gl X "zip" := by rfl) (hs : starEach [a, b] X.env = (false, eval a X.env) :: starEach [b] X.env := by rfl) (h1 : starEach [b] X.env = (false, eval b X.env) :: starEach [] X.env := by rfl)
    (hpl : (backTo pos (starEach [b] X.env)).any (·.1) = false := by rfl) : GI X C W (.Tuple elts kk tpos) (.Call (.Name "zip" p) [a, b] [] pos) (iZipTL ma mb) := PI.imp (pi_zipM hg hm (pa_cons ha (pa_cons hb pa_nil h1) hs) hs hpl) fun σ H R ⟨q0, q, env, s, eq, E, L, pz⟩ => by
  subst eq
  refine tM.first (f := fun x s1 => (mb env s1).bind fun y s2 => zipTL x y s2) E L pz (fun q1 x1 q2 a b w => w) fun x s1 vx q1 x1 E1 L1 y1 p1 => ?_
  refine tM.first (f := fun y s2 => zipTL x y s2) E1 L1 p1 (fun q1 x1 q2 a b w => w) fun y s2 vy q2 x2 E2 L2 y2 p2 => ?_
  have y1 := RD.mono x2.kp x y1
  cases y1 with
    | @tup u us ds g r =>
      cases y2 with
      | @lst v vs es g' r' =>
        refine ⟨u, v, us, vs, rfl, g.sq, SqL.of g'.1, p2 _ q2 (Ext.refl q2) L2 fun q3 s3 i k R3 => ⟨fun d d' h1 h2 => ?_, fun hi _ => ?_⟩⟩
        · cases h2
          have gT := (g.mono k).sq
          have gL : SqL X.K q3.H v vs := SqL.of (g'.mono k).1
          rw [List.getElem?_zipWith] at h1
          cases e1 : ds[i]? with
          | none => rw [e1] at h1; simp at h1
          | some d1 =>
            cases e2 : es[i]? with
            | none => rw [e1, e2] at h1; simp at h1
            | some d2 =>
              rw [e1, e2] at h1
              simp only [Option.some.injEq] at h1
              subst h1
              obtain ⟨w1, h3, h4⟩ := RDs.get (RDs.mono k _ r) e1
              obtain ⟨w2, h5, h6⟩ := RDs.get (RDs.mono k _ r') e2
              refine ⟨⟨us, vs, w1, w2, gT, gL, h3, h5⟩, fun z H3 ⟨T, x', y', z1, z2, z3, z4, z5⟩ => ?_⟩
              have e3 := z4 us gT
              have e4 := z5 vs gL
              rw [h3] at e3
              rw [h5] at e4
              cases e3
              cases e4
              subst z1 z3
              have x2 := Ext.new1 (o := .tup [w1, w2]) R3.wf z2
              exact ⟨⟨upd q3.H T (.tup [w1, w2]), q3.L, q3.r⟩, rfl, x2, R3.new1 z2, .tup (.inl ⟨upd_same, R3.wf.no z2⟩) (.cons (RD.mono x2.kp _ h4) (.cons (RD.mono x2.kp _ h6) .nil))⟩
        · have hi : i = min ds.length es.length := by simpa using hi
          refine ⟨us, vs, (g.mono k).sq, SqL.of (g'.mono k).1, ?_⟩
          rw [r.length, r'.length]
          omega
      | _ => exact p2.elim
    | _ => exact p2.elim
end

end MP

/-! From bodies to callees. Own text. -/
namespace MP
open PySem L2 TL
theorem rds1 {K : PySem.W.Frag} {q : Stt} {x0 : D} {vs : List V} (r : RDs K q [x0] vs) : ∃ v0, vs = [v0] ∧ RD K q x0 v0 := by
  cases r with
  | cons a r => cases r; exact ⟨_, rfl, a⟩
theorem rds2 {K : PySem.W.Frag} {q : Stt} {x0 x1 : D} {vs : List V} (r : RDs K q [x0, x1] vs) : ∃ v0 v1, vs = [v0, v1] ∧ RD K q x0 v0 ∧ RD K q x1 v1 := by
  cases r with
  | cons a r => obtain ⟨v1, rfl, b⟩ := rds1 r; exact ⟨_, v1, rfl, a, b⟩
theorem rds3 {K : PySem.W.Frag} {q : Stt} {x0 x1 x2 : D} {vs : List V} (r : RDs K q [x0, x1, x2] vs) : ∃ v0 v1 v2, vs = [v0, v1, v2] ∧ RD K q x0 v0 ∧ RD K q x1 v1 ∧ RD K q x2 v2 := by
  cases r with
  | cons a r => obtain ⟨v1, v2, rfl, b, c⟩ := rds2 r; exact ⟨_, v1, v2, rfl, a, b, c⟩
section
variable {P : Program} {w : World} {K : PySem.W.Frag} {mg : Str → Option Value} {base : Heap} {C : Tab}
theorem cal_of {k : Nat} {f : Addr} {fd : FuncData} {ps : List Str} {g : Fn} (F : FnOk P w K mg base (L2.CX P w) k f fd ps (spM K C g)) (b : Binds K fd ps []) : Cal P w K mg base C k f g :=
  ⟨fd, ps, [], [], [], g, F, b, .nil, fun _ => .nil, funext fun as => by rw [List.append_nil]⟩
end
end MP

/-! The law's call from the plain law. Own text. -/
namespace MP
open PySem L2 TL
/-- what the law's def promises -/
def spLaw (K : PySem.W.Frag) : Sp := fun vs H Q _ => ∃ (a : Addr) (ns : List Int), vs = [.ref a] ∧ SqL K H a (ns.map V.int) ∧ Only H ∧ ns.length ≤ 63 ∧ ∀ H', Q (.bl true) H'
theorem law_sp {K : PySem.W.Frag} {C : Tab} {g : Fn} (hT : C.t = []) (hg : ∀ ns : List Int, ns.length ≤ 63 → ∃ s, g [.scr ns] [] = .ok (.bl true) s) (vs : List V) (H : Hp) (Q : VK) (E : XK) (h : spLaw K vs H Q E) : spM K C g vs H Q E := by
  obtain ⟨a, ns, rfl, hS, hO, hl, hQ⟩ := h
  obtain ⟨s, e⟩ := hg ns hl
  refine ⟨⟨H, fun _ => False, []⟩, [], [.scr ns], rfl, ⟨⟨List.nodup_nil, fun a ha => (nomatch ha), fun a ha => ha.elim⟩, rfl, fun n o a e => by simp at e, fun p hp => by rw [hT] at hp; exact absurd hp (by simp)⟩, .cons (.scr ?_) .nil, ?_⟩
  · rcases hS with (h | ⟨o, h⟩) | h
    · rcases hO a with z | ⟨o, xs, z⟩
      · rw [h] at z; cases z
      · rw [h] at z; cases z
    · exact .inl ⟨o, h, fun z => z⟩
    · exact .inr (.inr (.inr h))
  · rw [e]
    intro b q' x r rd
    cases rd with
    | bl => exact hQ _
theorem walk63 {l : PySem.W.OpenLaw} {q : Program} {loose : List Str} {XP : (Str → Option Value) → Heap → Prop} {YP : World → Heap → Prop} {d : DefRec} {K : Params → PySem.W.Frag} (hn : l.most = some 63) (hdf : d.params.defaults = [])
    (hY : ∀ (w : World) (h : Heap), YP w h → (K w.params).In h) (F : ∀ (w : World) (mg : Str → Option Value) (fa : Addr) (h : Heap), (K w.params).In h → h.Ns mainGlobals mg → mg d.name = some (.ref fa) →
      ∃ fd : FuncData, (∀ (s : Shared) (u : Value), BindsTo s fd ⟨[u], []⟩ [("_law_script", u)]) ∧ ∀ base : Heap, (K w.params).In base → base.Ns mainGlobals mg → FnOk l.prog w (K w.params) mg base (L2.CX l.prog w) 60 fa fd ["_law_script"] (spLaw (K w.params))) : PySem.W.WalkO q loose XP YP l.row.toRowW d [] (fun f vs => PySem.call f vs) :=
  L2.walk_of (n := 63) (k := 60) (x := "_law_script") (CX := fun w => L2.CX l.prog w) (sp := fun w => spLaw (K w.params)) hn (by decide) hdf ⟨rfl, by decide, by decide⟩ hY F (fun _ _ a ns hl hO hS => ⟨a, ns, rfl, hS, hO, hl, fun _ => rfl⟩) fun _ _ _ _ _ h => by
    obtain ⟨_, _, _, _, _, _, _, _, _, _, _, _, z⟩ := h; exact z.elim
/-! ### laws with tables of code objects -/
/-- what the law's def promises, its tables empty -/
def spLawT (K : PySem.W.Frag) (T : List (Addr × Str)) (n : Nat) : Sp := fun vs H Q _ => ∃ (a : Addr) (ns : List Int), vs = [.ref a] ∧ SqL K H a (ns.map V.int) ∧ (∀ p ∈ T, H p.1 = some (.tbl #[])) ∧ ns.length ≤ n ∧ (∀ z ∈ ns, Builtin.Int.intBits z ≤ 1048576) ∧ ∀ H', Q (.bl true) H'
theorem law_spT {K : PySem.W.Frag} {C : Tab} {g : Fn} {n : Nat} (hg : ∀ ns : List Int, ns.length ≤ n → ∃ s, g [.scr ns] [] = .ok (.bl true) s) (vs : List V) (H : Hp) (Q : VK) (E : XK) (h : spLawT K C.t n vs H Q E) : spM K C g vs H Q E := by
  obtain ⟨a, ns, rfl, hS, hT, hl, _, hQ⟩ := h
  obtain ⟨s, e⟩ := hg ns hl
  refine ⟨⟨H, fun _ => False, []⟩, [], [.scr ns], rfl, ⟨⟨List.nodup_nil, fun a ha => (nomatch ha), fun a ha => ha.elim⟩, rfl, fun n o a e => by simp at e, fun p hp => LamX.TabS.nil (hT p hp)⟩, .cons (.scr ?_) .nil, ?_⟩
  · rcases hS with (h | ⟨o, h⟩) | h
    · exact .inr (.inl ⟨h, fun z => z⟩)
    · exact .inl ⟨o, h, fun z => z⟩
    · exact .inr (.inr (.inr h))
  · rw [e]
    intro b q' x r rd
    cases rd with
    | bl => exact hQ _
/-- the facts of a def, of a class, of written values -/
theorem gl_mk {K : PySem.W.Frag} {h : Heap} {mg : Str → Option Value} {x : Str} {u : Value} {d : D} (X : K.In h) (G : h.Ns mainGlobals mg) (a : PySem.W.nsIn K mainGlobals x = some (some u)) (b : KVal K 6 u d = true) : ∃ u, mg x = some u ∧ KVal K 6 u d = true := ⟨u, PySem.W.mg_of X G a, b⟩
theorem kd_mk {K : PySem.W.Frag} {w : World} {h : Heap} {mg : Str → Option Value} {x : Str} {d : Addr} {es : Array DictEntry} {n : Nat} {tab : List (List Nat × D)} (X : K.In h) (G : h.Ns mainGlobals mg) (a : PySem.W.nsIn K mainGlobals x = some (some (.ref d))) (l : K.lookup d = some ⟨.type "dict", none, .dict es n, #[]⟩)
    (k : PySem.W.KeysLit w.params es.toList) (lo : (d == sysModules) = false) (e : KEnts K 6 es.toList tab = true) : ∃ a, mg x = some (.ref a) ∧ KDic K w a tab := ⟨d, PySem.W.mg_of X G a, es, n, l, k, lo, e⟩
end MP

/-! The machine read by simp; walks over plain lists. Own text. -/
namespace MP
@[simp] theorem s_eVar (i : Nat) (env : Env) (s : Sto) : eVar i env s = match env[i]? with | some (.val d) => .ok d s | _ => .stk := rfl
@[simp] theorem s_eBor (i : Nat) (env : Env) (s : Sto) : eBor i env s = match env[i]? with | some (.val d) => .ok d s | some (.own ds) => .ok (.lst ds) s | _ => .stk := rfl
@[simp] theorem s_eC (d : D) (env : Env) (s : Sto) : eC d env s = .ok d s := rfl
@[simp] theorem s_eOp2 (g : Op2) (a b : ME) (env : Env) (s : Sto) : eOp2 g a b env s = (a env s).bind fun x s1 => (b env s1).bind fun y s2 => .ofO (g s2 x y) s2 := rfl
@[simp] theorem s_eOp1 (g : Op1) (a : ME) (env : Env) (s : Sto) : eOp1 g a env s = (a env s).bind fun x s1 => .ofO (g s1 x) s1 := rfl
@[simp] theorem s_aNil (env : Env) (s : Sto) : aNil env s = .ok [] s := rfl
@[simp] theorem s_aCons (a : ME) (r : MA) (env : Env) (s : Sto) : aCons a r env s = (a env s).bind fun x s1 => (r env s1).bind fun xs s2 => .ok (x :: xs) s2 := rfl
@[simp] theorem s_oNone (env : Env) (s : Sto) : oNone env s = .ok none s := rfl
@[simp] theorem s_oSome (a : ME) (env : Env) (s : Sto) : oSome a env s = (a env s).bind fun x s1 => match x with | .int i => .ok (some i) s1 | _ => .stk := rfl
@[simp] theorem s_lSl (a : ME) (lo hi : MO) (env : Env) (s : Sto) : lSl a lo hi env s = (a env s).bind fun x s1 => (lo env s1).bind fun l s2 => (hi env s2).bind fun h s3 => match view s3 x with | .lst ds => .ok (cutD ds l h) s3 | _ => .stk := rfl
@[simp] theorem s_eSlT (a : ME) (lo hi : MO) (env : Env) (s : Sto) : eSlT a lo hi env s = (a env s).bind fun x s1 => (lo env s1).bind fun l s2 => (hi env s2).bind fun h s3 => match x with | .tup ds => .ok (.tup (cutD ds l h)) s3 | _ => .stk := rfl
@[simp] theorem s_lOf (a : ME) (env : Env) (s : Sto) : lOf a env s = (a env s).bind fun x s1 => .ofO (seqOf s1 x) s1 := rfl
@[simp] theorem s_eTup (a : MA) (env : Env) (s : Sto) : eTup a env s = (a env s).bind fun ds s1 => if ds.length ≤ 1000 then .ok (.tup ds) s1 else .stk := rfl
@[simp] theorem s_lLst (a : MA) (env : Env) (s : Sto) : lLst a env s = (a env s).bind fun ds s1 => if ds.length ≤ 1000 then .ok ds s1 else .stk := rfl
@[simp] theorem s_eFrz (l : MA) (env : Env) (s : Sto) : eFrz l env s = (l env s).bind fun ds s1 => .ok (.lst ds) s1 := rfl
@[simp] theorem s_ePlc (l : MA) (env : Env) (s : Sto) : ePlc l env s = (l env s).bind fun ds s1 => .ok (.ref s1.length) (s1 ++ [.lst ds]) := rfl
@[simp] theorem s_tVal (a : ME) (env : Env) (s : Sto) : tVal a env s = (a env s).bind asB := rfl
@[simp] theorem s_tNot (t : MT) (env : Env) (s : Sto) : tNot t env s = (t env s).bind fun b s1 => .ok (!b) s1 := rfl
@[simp] theorem s_tAnd (t u : MT) (env : Env) (s : Sto) : tAnd t u env s = (t env s).bind fun b s1 => if b then u env s1 else .ok false s1 := rfl
@[simp] theorem s_tOr (t u : MT) (env : Env) (s : Sto) : tOr t u env s = (t env s).bind fun b s1 => if b then .ok true s1 else u env s1 := rfl
@[simp] theorem s_eAnd (a b : ME) (env : Env) (s : Sto) : eAnd a b env s = ((a env s).bind asB).bind fun c s1 => if c then b env s1 else .ok (.bl false) s1 := rfl
@[simp] theorem s_eOr (a b : ME) (env : Env) (s : Sto) : eOr a b env s = ((a env s).bind asB).bind fun c s1 => if c then .ok (.bl true) s1 else b env s1 := rfl
@[simp] theorem s_eNot (a : ME) (env : Env) (s : Sto) : eNot a env s = ((a env s).bind asB).bind fun c s1 => .ok (.bl (!c)) s1 := rfl
@[simp] theorem s_eIf (t : MT) (a b : ME) (env : Env) (s : Sto) : eIf t a b env s = (t env s).bind fun c s1 => if c then a env s1 else b env s1 := rfl
@[simp] theorem s_eChain (g h : Op2) (a b c : ME) (env : Env) (s : Sto) : eChain g h a b c env s = (a env s).bind fun x s1 => (b env s1).bind fun y s2 => (Res.ofO (g s2 x y) s2).bind fun z s3 => (asB z s3).bind fun k s4 => if k then (c env s4).bind fun w s5 => .ofO (h s5 y w) s5 else .ok (.bl false) s4 := rfl
@[simp] theorem s_eCall (g : Fn) (a : MA) (env : Env) (s : Sto) : eCall g a env s = (a env s).bind g := rfl
@[simp] theorem s_eFld (c : Nat) (o : ME) (f : String) (env : Env) (s : Sto) : eFld c o f env s = (o env s).bind fun x s1 => .ofO (fieldOf s1 c f x) s1 := rfl
@[simp] theorem s_eMeth (c : Nat) (m : String) (g : Fn) (o : ME) (a : MA) (env : Env) (s : Sto) : eMeth c m g o a env s = (o env s).bind fun x s1 => if isOf s1 c m x then (a env s1).bind fun ds s2 => g (x :: ds) s2 else .stk := rfl
@[simp] theorem s_iSeq (a : ME) (env : Env) (s : Sto) : iSeq a env s = (a env s).bind fun x s1 => .ofO (srcOf s1 x) s1 := rfl
@[simp] theorem s_iRng (a : ME) (env : Env) (s : Sto) : iRng a env s = (a env s).bind fun x s1 => match x with | .int j => if -(cap : Int) ≤ j ∧ j ≤ cap then .ok ⟨intsD 0 j.toNat, none⟩ s1 else .stk | _ => .stk := rfl
@[simp] theorem s_iEnum (a : ME) (env : Env) (s : Sto) : iEnum a env s = (a env s).bind fun x s1 => match x with | .lst ds => .ok ⟨ds.mapIdx fun i d => .tup [.int i, d], none⟩ s1 | _ => .stk := rfl
@[simp] theorem s_iStrI (a : ME) (env : Env) (s : Sto) : iStrI a env s = (a env s).bind fun x s1 => match x with | .str cs => .ok ⟨cs.map fun c => .str [c], none⟩ s1 | _ => .stk := rfl
@[simp] theorem s_iZipTL (a b : ME) (env : Env) (s : Sto) : iZipTL a b env s = (a env s).bind fun x s1 => (b env s1).bind fun y s2 => zipTL x y s2 := rfl
@[simp] theorem s_eTupRg (a : ME) (env : Env) (s : Sto) : eTupRg a env s = (a env s).bind fun x s1 => match x with | .int j => if 0 ≤ j ∧ j ≤ cap then .ok (.tup (intsD 0 j.toNat)) s1 else .stk | _ => .stk := rfl
@[simp] theorem s_lAdd (a b : ME) (env : Env) (s : Sto) : lAdd a b env s = (a env s).bind fun x s1 => (b env s1).bind fun y s2 => match view s2 x, view s2 y with | .lst xs, .lst ys => if xs.length + ys.length ≤ cap then .ok (xs ++ ys) s2 else .stk | _, _ => .stk := rfl
@[simp] theorem s_eJoin (a b : ME) (env : Env) (s : Sto) : eJoin a b env s = (a env s).bind fun x s1 => match x with | .str u => (b env s1).bind fun y s2 => joinAt u y s2 | _ => .stk := rfl
@[simp] theorem s_lSplit (a b : ME) (env : Env) (s : Sto) : lSplit a b env s = (a env s).bind fun x s1 => match x with | .str u => (b env s1).bind fun y s2 => cutAt u y s2 | _ => .stk := rfl
@[simp] theorem s_tYesM (env : Env) (s : Sto) : tYesM env s = .ok true s := rfl
@[simp] theorem s_sNext (e : Env) (s : Sto) : sNext e s = .nx e s := rfl
@[simp] theorem s_sSeq (a b : MS) (e : Env) (s : Sto) : sSeq a b e s = (a e s).andThen b := rfl
@[simp] theorem s_putE (g : MG) (d : D) (e : Env) (s : Sto) : putE g d e s = match g d e with | some e' => .nx e' s | none => .stk := rfl
@[simp] theorem s_sAsg (m : ME) (g : MG) (e : Env) (s : Sto) : sAsg m g e s = (m e s).go e fun d s1 => putE g d e s1 := rfl
@[simp] theorem s_gNm (i : Nat) (d : D) (env : Env) : gNm i d env = some (env.set i (.val d)) := rfl
@[simp] theorem s_sOwn (l : MA) (i : Nat) (e : Env) (s : Sto) : sOwn l i e s = (l e s).go e fun ds s1 => .nx (e.set i (.own ds)) s1 := rfl
@[simp] theorem s_sFrz (i : Nat) (e : Env) (s : Sto) : sFrz i e s = match e[i]? with | some (.own ds) => .nx (e.set i (.val (.lst ds))) s | _ => .stk := rfl
@[simp] theorem s_sApp (i : Nat) (m : ME) (e : Env) (s : Sto) : sApp i m e s = match e[i]? with | some (.own ds) => (m e s).go e fun d s1 => if ds.length < cap then .nx (e.set i (.own (ds ++ [d]))) s1 else .stk | _ => .stk := rfl
@[simp] theorem s_sExt (i : Nat) (l : ME) (e : Env) (s : Sto) : sExt i l e s = match e[i]? with | some (.own ds) => (l e s).go e fun x s1 => (match view s1 x with | .lst es => if ds.length + es.length < cap then .nx (e.set i (.own (ds ++ es))) s1 else .stk | _ => .stk) | _ => .stk := rfl
@[simp] theorem s_sDrop (m : ME) (e : Env) (s : Sto) : sDrop m e s = (m e s).go e fun _ s1 => .nx e s1 := rfl
@[simp] theorem s_sRet (m : ME) (e : Env) (s : Sto) : sRet m e s = (m e s).go e fun d s1 => .rt d s1 := rfl
@[simp] theorem s_sIf (t : MT) (a b : MS) (e : Env) (s : Sto) : sIf t a b e s = (t e s).go e fun c s1 => if c then a e s1 else b e s1 := rfl
@[simp] theorem s_sPar (i j : Nat) (a : MA) (e : Env) (s : Sto) : sPar i j a e s = (a e s).go e fun ds s1 => match ds with | [d, b] => .nx ((e.set i (.val d)).set j (.val b)) s1 | _ => .stk := rfl
@[simp] theorem s_sSet (o i m : ME) (e : Env) (s : Sto) : sSet o i m e s = (m e s).go e fun d s1 => (o e s1).go e fun x s2 => (i e s2).go e fun k s3 => match x, k with
  | .ref n, .int k => (match s3[n]? with
    | some (.lst ds) => (match place ds.length k with
      | some j => .nx e (s3.set n (.lst (ds.set j d)))
      | none => .stk)
    | _ => .stk)
  | _, _ => .stk := rfl
@[simp] theorem s_sFld (c : Nat) (o m : ME) (f : String) (e : Env) (s : Sto) : sFld c o m f e s = (m e s).go e fun d s1 => (o e s1).go e fun x s2 => match x with
  | .ref n => (match s2[n]? with
    | some (.ins c' fs) => if c' = c ∧ fs.length < 100 then .nx e (s2.set n (.ins c (putF' f d fs))) else .stk
    | _ => .stk)
  | _ => .stk := rfl
@[simp] theorem s_gTp (gs : List MG) (ds : List D) (env : Env) : gTp gs (.tup ds) env = gAll gs ds env := rfl
@[simp] theorem s_gAll0 (env : Env) : gAll [] [] env = some env := rfl
@[simp] theorem s_gAll1 (g : MG) (gs : List MG) (d : D) (ds : List D) (env : Env) : gAll (g :: gs) (d :: ds) env = (g d env).bind fun e => gAll gs ds e := rfl
@[simp] theorem s_runB (k n : Nat) (body : MS) (ds : List D) (s : Sto) : runB k n body ds s = if ds.length = k then (match body (ds.map .val ++ List.replicate (n - k) .emp) s with
  | .nx _ s => .ok .non s
  | .rt d s => .ok d s
  | .ex x _ s => .exc x s
  | _ => .stk) else .stk := rfl
/-- a, *b = a list or tuple not empty -/
theorem star1 (i j : Nat) (d : D) (ds : List D) (env : Env) (h : ds.length + 1 ≤ 16000) : gSt [gNm i] [] j (.tup (d :: ds)) env = some ((env.set i (.val d)).set j (.val (.lst ds))) := by
  simp [gSt, h]
theorem star1L (i j : Nat) (d : D) (ds : List D) (env : Env) (h : ds.length + 1 ≤ 16000) : gSt [gNm i] [] j (.lst (d :: ds)) env = some ((env.set i (.val d)).set j (.val (.lst ds))) := by
  simp [gSt, h]
/-! ### walks over lists that nothing changes -/
def forP (g : MG) (body : MS) : List D → Env → Sto → SRes
  | [], e, s => .nx e s
  | d :: ds, e, s => match g d e with
    | none => .stk
    | some e1 => match body e1 s with
      | .nx e2 s2 => forP g body ds e2 s2
      | .ct e2 s2 => forP g body ds e2 s2
      | .bk e2 s2 => .nx e2 s2
      | r => r
theorem forL_none (g : MG) (body : MS) (d0 : List D) : ∀ (ds : List D) (i : Nat) (e : Env) (s : Sto), forL ⟨d0, none⟩ g body i ds e s = forP g body ds e s
  | [], i, e, s => by simp [forL, forP, fin]
  | d :: ds, i, e, s => by
    simp only [forL, forP, cur, Option.bind_some]
    cases g d e with
    | none => rfl
    | some e1 =>
      simp only
      cases body e1 s <;> simp only [forL_none g body d0 ds]
def lcP (g : MG) (t : MT) (e : ME) (env : Env) : List D → Sto → Res (List D)
  | [], s => .ok [] s
  | d :: ds, s => (Res.ofO (g d env) s).bind fun env1 s => (calm (t env1 s)).bind fun b s1 =>
    if b then (calm (e env1 s1)).bind fun y s2 => (lcP g t e env ds s2).bind fun ys s3 => .ok (y :: ys) s3
    else lcP g t e env ds s1
theorem lcL_none (g : MG) (t : MT) (m : ME) (env : Env) (d0 : List D) : ∀ (ds : List D) (i : Nat) (s : Sto), lcL ⟨d0, none⟩ g t m env i ds s = lcP g t m env ds s
  | [], i, s => by simp [lcL, lcP, fin]
  | d :: ds, i, s => by
    simp only [lcL, lcP, cur, Option.bind_some]
    simp only [lcL_none g t m env d0 ds]
theorem s_sFor (mi : MI) (g : MG) (body : MS) (e : Env) (s s1 : Sto) (ds : List D) (h : mi e s = .ok ⟨ds, none⟩ s1) : sFor mi g body e s = forP g body ds e s1 := by
  show (mi e s).go e _ = _
  rw [h]
  exact forL_none g body ds ds 0 e s1
theorem s_lLc (mi : MI) (g : MG) (t : MT) (m : ME) (vs : List Nat) (env : Env) (s s1 : Sto) (ds : List D) (h : mi env s = .ok ⟨ds, none⟩ s1) (hl : ds.length ≤ cap) : lLc mi g t m vs env s = lcP g t m (wipeE env vs) ds s1 := by
  show (mi env s).bind _ = _
  rw [h]
  show (if ds.length ≤ cap then _ else _) = _
  rw [if_pos hl]
  exact lcL_none g t m _ ds ds 0 s1
@[simp] theorem Res.ok_match {α β : Type} (a : α) (s : Sto) (f : α → Sto → β) (g : Exn → Sto → β) (h : β) : (match (Res.ok a s : Res α) with | .ok a s => f a s | .exc x s => g x s | .stk => h) = f a s := rfl
end MP

/-! More of the machine read by simp. Own text. -/
namespace MP
@[simp] theorem s_sParO (i j : Nat) (l : MA) (m : ME) (e : Env) (s : Sto) : sParO i j l m e s = (l e s).go e fun ds s1 => (m e s1).go e fun b s2 => .nx ((e.set i (.own ds)).set j (.val b)) s2 := rfl
@[simp] theorem s_lMul (a b : ME) (env : Env) (s : Sto) : lMul a b env s = (a env s).bind fun x s1 => (b env s1).bind fun y s2 => mulAt x y s2 := rfl
@[simp] theorem s_eSlS (a : ME) (lo hi : MO) (env : Env) (s : Sto) : eSlS a lo hi env s = (a env s).bind fun x s1 => (lo env s1).bind fun l s2 => (hi env s2).bind fun h s3 => cutSAt x l h s3 := rfl
@[simp] theorem s_sSetD (o i m : ME) (e : Env) (s : Sto) : sSetD o i m e s = (m e s).go e fun d s1 => (o e s1).go e fun x s2 => (i e s2).go e fun k s3 => putAt e x k d s3 := rfl
@[simp] theorem s_eCnt (a b : ME) (env : Env) (s : Sto) : eCnt a b env s = (a env s).bind fun x s1 => match x with | .lst ds => (b env s1).bind fun y s2 => cntAt ds y s2 | _ => .stk := rfl
@[simp] theorem s_eIdx (a b : ME) (env : Env) (s : Sto) : eIdx a b env s = (a env s).bind fun x s1 => match x with | .lst ds => (b env s1).bind fun y s2 => idxAt ds y s2 | _ => .stk := rfl
@[simp] theorem s_eIsX (i : Nat) (tab : List (Nat × Bool)) (env : Env) (s : Sto) : eIsX i tab env s = match env[i]? with | some (.exn x) => (match tab.lookup x.cls with | some b => .ok (.bl b) s | none => .stk) | _ => .stk := rfl
@[simp] theorem s_eXf (i : Nat) (f : String) (cs : List Nat) (env : Env) (s : Sto) : eXf i f cs env s = match env[i]? with | some (.exn x) => if x.cls ∈ cs then (match x.fs.lookup f with | some d => .ok d s | none => .stk) else .stk | _ => .stk := rfl
@[simp] theorem s_sRs (c : Nat) (fs : List String) (ma : MA) (e : Env) (s : Sto) : sRs c fs ma e s = (ma e s).go e fun ds s1 => if ds.length = fs.length then .ex ⟨c, (fs.zip ds).reverse⟩ e s1 else .stk := rfl
@[simp] theorem s_sRz (c : Nat) (e : Env) (s : Sto) : sRz c e s = .ex ⟨c, []⟩ e s := rfl
end MP

/-! Refusals: raised, caught, asked. Own text. -/
namespace MP
open PySem L2 TL
section
open PyProof.Rows PySem.Calls PySem.W
variable {ox : Obj} {x D : Addr} {prog : Program} {w : World} {A : Around} {E : Value → Shared → Prop} {s : Shared} {K : Frag}
theorem find_cls (od : Option Obj) (h : ExcC K D) : findObj K D od "__class__" = some (.bind (.builtin "getset_descriptor.__get__") (.builtin "object.__class__")) := by
  obtain ⟨cd, hc, _⟩ := any_some h.hd
  have hn := h.hn
  have ht := h.ht
  unfold findObj
  rw [hc, Option.bind_some, h.ha, Option.bind_some]
  simp [hn, ht]
/-- the class of an exception that may have fields -/
theorem cls_told {Q : Option Value → Shared → Prop} {od : Option Obj} (F : ExcC K D) (X : K.In s.heap) (I : InstAt s.heap x ox D od) (h : Q (some (.ref D)) { s with toks := s.toks + 1 }) : wpAny (model prog w) A (getAttr? (.ref x) "__class__") Q E s := by
  have G := looks_findIn (M := model prog w) X F.hg
  have N := looks_findIn (M := model prog w) X F.hk
  have V := looks_find (M := model prog w) X I (find_cls od F)
  obtain ⟨hp, g, dr, t, os⟩ := s
  have T := I.type (M := model prog w)
  have B : Looks (model prog w) hp (isInstance (.ref x) (.type "BaseException")) true := T.andThen (looks_subIn X F.hs)
  have n2 : (Value.builtin "BaseException.__getattribute__" == Value.builtin "object.__getattribute__") = false := by decide +kernel
  have n1 : (onTheHeap (Value.ref D) && Value.builtin "BaseException.__getattribute__" == Value.builtin "object.__getattribute__") = false := by rw [n2]; rfl
  unfold getAttr? getAttrBy? getAttrBy; refine wpAny_bind (wpAny_mkText (wpAny_bind (wpAny_attempt (wpAny_holding (wpAny_bind (T.at (wpAny_bind (G.at ?_))))))))
  show wpAny _ _ (if (onTheHeap (Value.ref D) && Value.builtin "BaseException.__getattribute__" == Value.builtin "object.__getattribute__") = true then _ else _) _ _ _; rw [n1, if_neg Bool.false_ne_true]
  unfold getAttrByItsOwn hookBefore; refine wpAny_bind ?_
  rw [if_pos (show onTheHeap (Value.ref D) = true from rfl)]; refine N.at (wpAny_bind (wpAny_attempt (wpAny_holding ?_)))
  unfold callGetattribute
  rw [show (false && onTheHeap (Value.builtin "BaseException.__getattribute__")) = false from rfl, if_neg Bool.false_ne_true]
  unfold boundAndCalled
  rw [PySem.F.excAttr_ValueError.ga.bind (.ref x)]; refine wpAny_bind (wpAny_pure ?_)
  show wpAny _ _ (call (.builtin "BaseException.__getattribute__") [.ref x, .str "__class__" t]) _ _ _; refine wpAny_call (codeAny_call_builtin PySem.F.excAttr_ValueError.ga.plain PySem.F.entry_bexc_ga (@check_slot (model prog w) _ _ ⟨hp, g, dr, t + 1, os⟩ "BaseException.__getattribute__" "BaseException" "__getattribute__" (.ref x) [.str "__class__" t] [] _ (by decide +kernel) (by decide +kernel) B (PySem.F.args_bexc_ga (.ref x) (.str "__class__" t)) ?_))
  unfold Builtin.«object.__getattribute__»; refine wpAny_bind (wpAny_of_eq (a := ((Value.ref x : Value), [Value.str "__class__" t])) (by first | rfl | (simp only [slotArgs]; rfl)) ?_)
  refine wpAny_bind (wpAny_pure (wpAny_bind (T.at (wpAny_bind (V.at ?_)))))
  show wpAny _ _ (holding [Value.builtin "object.__class__"] (call (.builtin "getset_descriptor.__get__") [.builtin "object.__class__", .ref x, .ref D]) >>= ret) _ _ _; refine wpAny_bind (wpAny_holding (wpAny_call (class_get (s := ⟨hp, g, dr, t + 1, os⟩) (ox := ox) (od := od) X I F.hm (wpAny_pure ?_))))
  show wpAny _ _ (handedOut (.ref D)) _ _ _; rw [handedOut_of (v := .ref D) rfl]
  first | exact wpAny_pure (wpAny_pure h) | exact wpAny_pure h | exact wpAny_pure (wpAny_bind (wpAny_pure (wpAny_pure h)))
theorem kitE {od : Option Obj} (F : ExcC K D) : KitX K (.ref x) (.ref D) (fun h => InstAt h x ox D od) := by
  have Z := handS_kitx_exc (x := x) (ox := ox) F.hg F.hk F.hs F.hd F.ha F.hn F.ht F.hm
  refine ⟨fun _ _ _ I => I.type, fun M h X I => ?_, Z.ne, fun X I k => cls_told F X I k⟩
  obtain ⟨cd, hc, _⟩ := any_some F.hd
  unfold clsIn at hc
  split at hc
  · rename_i c' d' cd' sl' ho
    intro A' Q' E' s' k q
    unfold isType loadHead; exact wpAny_bind (wpAny_loadPart (k _ _ (X _ _ ho)) (wpAny_pure q))
  · cases hc
end
/-- isinstance(e, c), e the refusal that the suite holds -/
def rIsX (K : PySem.W.Frag) (a : Addr) (cls : Value) (d : Option Addr) : List V → Hp → VK → Prop := fun xs H Q => ∃ (D : Addr) (c : V) (cv : Value) (b : Bool), cls = .ref D ∧ ExcC K D ∧ xs = [.ref a, c] ∧ (∀ u, L2.RelV c u → u = cv) ∧ PySem.W.kitOne K (.ref D) cv = some b ∧
  (d = none ∨ ∃ dd fs, d = some dd ∧ H dd = some (.xd fs)) ∧ Q (.bl b) H
theorem call_isX {X : Cx} {a : Addr} {oe : Obj} {pn : List (Addr × Obj)} {cls : Value} {d : Option Addr} (hz : Zc cls d oe) (hf : ∃ vs, oe.data = .fields vs) : CallR (X.suite a ((a, oe) :: pn)) (.builtin "isinstance") (rIsX X.K a cls d) := by
  intro pins s σ H xs us Q I r h; obtain ⟨D, c, cv, b, rfl, F, rfl, hcv, e, hd, q⟩ := h
  cases r with
  | cons rx rr =>
    cases rr with
    | cons rt rr =>
      cases rr
      cases rx
      have ec := hcv _ rt
      subst ec
      obtain ⟨hget, _⟩ := I.pin (a, oe) (List.mem_append.mpr (.inl List.mem_cons_self)); obtain ⟨vs, hv⟩ := hf
      have nc : PySem.W.notCls oe := by unfold PySem.W.notCls; rw [hv] <;> rfl
      have J : ∃ od, PySem.W.InstAt s.heap a oe D od := by
        rcases hd with rfl | ⟨dd, fs, rfl, hx⟩
        · exact ⟨none, hget, hz.1, nc, by rw [hz.2]; trivial⟩
        · have ho : ObjOk X.prog X.w H s.heap dd (.xd fs) := I.hok dd _ hx
          obtain ⟨mA, hns, _⟩ := ho
          obtain ⟨o', h1, _⟩ := lookIn_ns hns
          exact ⟨some o', hget, hz.1, nc, by rw [hz.2]; exact h1⟩
      obtain ⟨od, J⟩ := J
      exact PySem.W.kia_one (kitE F) I.kIn J e (fun z => nomatch z) fun tk => ⟨.bl b, H, I.kept (t' := tk) fun _ _ z => z, rfl, q⟩
theorem RX.dict {q : Stt} {C : Tab} {K : PySem.W.Frag} {x : Exn} {cls : Value} {d : Option Addr} (h : RX q C K x cls d) : d = none ∨ ∃ dd gs, d = some dd ∧ q.H dd = some (.xd gs) := by
  have h2 := h.2
  split at h2
  · exact .inl h2
  · obtain ⟨a, gs, e, h1, _⟩ := h2
    exact .inr ⟨a, gs, e, h1⟩
section
variable {X : Cx} {C : Tab} {W : Wx} {i : Nat} {a : Addr} {oe : Obj} {pn : List (Addr × Obj)} {cls : Value} {d : Option Addr} {x x1 : Str} {p p1 p2 pos : Pos} {tab : List (Nat × Bool)}
/-- the reading of the refusal's name -/
theorem pe_exn (i : Nat) {Y : Cx} (hN : Y.N[i]? = some x) (hv : Vis Y.env.scope x) (hd : (x == ("__debug__" : Str)) = false) (hc : (x == ("__classdict__" : Str)) = false) (hz : C.z i = some (a, cls, d)) : PE Y (.Name x p) (fun σ H Q => ∃ (q0 q : Stt) (env : MP.Env) (s : Sto) (y : Exn), q.H = H ∧ RE Y.K C q0 q env σ ∧ Rel Y.K C s q ∧ env[i]? = some (.exn y) ∧ (RX q C Y.K y cls d → Q (.ref a) H)) := PE.imp (pe_var (i := i) hN hv hd hc) fun σ H Q ⟨q0, q, env, s, y, eq, E, L, e, p⟩ => by
  subst eq
  obtain ⟨a', cls', d', h1, h2, h3⟩ := E.exn i y e
  rw [hz] at h1
  cases h1
  exact ⟨.ref a, h2, p h3⟩
theorem ge_isX (i : Nat) {v : V} {cv : Value} (tab : List (Nat × Bool)) (hzo : Zc cls d oe) (hf : ∃ vs, oe.data = .fields vs) (hz : C.z i = some (a, cls, d)) (hm : X.mg "isinstance" = none) (hv : ∀ u, L2.RelV v u → u = cv) (he : PE (X.suite a ((a, oe) :: pn)) (.Name x1 p1) (tC v))
    (hK : ∀ c b, tab.lookup c = some b → ExcC X.K (C c) ∧ PySem.W.kitOne X.K (.ref (C c)) cv = some b)
    (hN : X.N[i]? = some x := by rfl) (hvis : Vis X.env.scope x := by first | exact Or.inl rfl | exact Or.inr (Or.inl rfl) | exact Or.inr (Or.inr rfl)) (hd : (x == ("__debug__" : Str)) = false := by decide) (hc : (x == ("__classdict__" : Str)) = false := by decide)
    (hg : Gl X "isinstance" := by rfl) (hvb : bootBuiltins "isinstance" = some (.builtin "isinstance") := by decide +kernel)
    (h1 : starEach [.Name x p2, .Name x1 p1] X.env = (false, eval (.Name x p2) X.env) :: starEach [.Name x1 p1] X.env := by rfl) (h2 : starEach [.Name x1 p1] X.env = (false, eval (.Name x1 p1) X.env) :: starEach [] X.env := by rfl)
    (hpl : (backTo pos (starEach [.Name x1 p1] X.env)).any (·.1) = false := by rfl) :
    GE (X.suite a ((a, oe) :: pn)) C W (.Call (.Name "isinstance" p) [.Name x p2, .Name x1 p1] [] pos) (eIsX i tab) :=
  PE.imp (pe_callB (X := X.suite a ((a, oe) :: pn)) (call_isX hzo hf) hg hm hvb (pa_cons (pe_exn (Y := X.suite a ((a, oe) :: pn)) (C := C) i hN hvis hd hc hz) (pa_cons he pa_nil h2) h1) (he := h1) (hpl := hpl)) fun σ H Q ⟨q0, q, env, s, eq, E, L, p⟩ => by
    subst eq
    unfold eIsX at p
    cases e : env[i]? with
    | none => rw [e] at p; exact p.elim
    | some sl =>
      rw [e] at p
      cases sl with
      | exn y =>
        simp only at p
        cases l : tab.lookup y.cls with
        | none => rw [l] at p; exact p.elim
        | some b =>
          rw [l] at p
          obtain ⟨k1, k2⟩ := hK _ _ l
          exact ⟨q0, q, env, s, y, rfl, E, L, e, fun rx => ⟨C y.cls, v, cv, b, rx.1, k1, rfl, hv, k2, rx.dict, p _ q (Ext.refl q) L (.bl b)⟩⟩
      | _ => exact p.elim
/-- e.f, e the refusal that the suite holds -/
theorem ge_xf (i : Nat) (f : String) (cs : List Nat) {n : Str} (hn : n = Str.ofString f) (hzo : Zc cls d oe) (hf : ∃ vs, oe.data = .fields vs) (hz : C.z i = some (a, cls, d)) (hK : ∀ c ∈ cs, XfC X.K (C c) ∧ PySem.W.findIn X.K (.ref (C c)) n = some none)
    (hN : X.N[i]? = some x := by rfl) (hvis : Vis X.env.scope x := by first | exact Or.inl rfl | exact Or.inr (Or.inl rfl) | exact Or.inr (Or.inr rfl)) (hd : (x == ("__debug__" : Str)) = false := by decide) (hc : (x == ("__classdict__" : Str)) = false := by decide)
    (hb : attributeBase (.Name x p) n X.env (eval (.Name x p) X.env) = eval (.Name x p) X.env := by rfl) :
    GE (X.suite a ((a, oe) :: pn)) C W (.Attribute (.Name x p) n pos) (eXf i f cs) := by
  refine ⟨fun pins s σ H Q I h => ?_⟩; obtain ⟨q0, q, env, s1, eq, E, L, p⟩ := h
  subst eq
  unfold eXf at p
  cases e : env[i]? with
  | none => rw [e] at p; exact p.elim
  | some sl =>
    rw [e] at p
    cases sl with
    | exn y =>
      simp only at p
      split at p
      · rename_i hm
        obtain ⟨k1, k2⟩ := hK _ hm
        refine (pe_xf (pos := pos) k1 k2 hzo hf (pe_exn (Y := X.suite a ((a, oe) :: pn)) (C := C) i hN hvis hd hc hz) hb).run pins s σ q.H Q I ⟨q0, q, env, s1, y, rfl, E, L, e, fun rx => ⟨rfl, rx.1, ?_⟩⟩
        have h2 := rx.2
        split at h2
        · rename_i z; rw [z] at p; exact p.elim
        · obtain ⟨dd, gs, e1, e2, _, rf⟩ := h2
          cases l : y.fs.lookup f with
          | none => rw [l] at p; exact p.elim
          | some b =>
            rw [l] at p
            obtain ⟨v, l2, r⟩ := (rf.look f).1 b l
            exact ⟨dd, gs, v, e1, e2, by rw [hn]; exact l2, p v q (Ext.refl q) L r⟩
      · exact p.elim
    | _ => exact p.elim
end
end MP

/-! A lambda's answer, or what is told of its refusal. Own text. -/
namespace MP
open PySem L2 TL LamX
/-- the table within the suite of a clause whose name has the slot j -/
def suiteC (C : Tab) (j : Nat) (a : Addr) (cls : Value) (d : Option Addr) : Tab := { C with z := fun i => if i = j then some (a, cls, d) else none }
theorem suiteC_z {C : Tab} {j : Nat} {a : Addr} {cls : Value} {d : Option Addr} : (suiteC C j a cls d).z j = some (a, cls, d) := if_pos rfl
/-- what is asked of the suite -/
def PostH (K : PySem.W.Frag) (C : Tab) (q : Stt) (Q : VK) : SRes → Prop
  | .rt d s => ∀ v q', Ext q q' → Rel K C s q' → RD K q' d v → Q v q'.H
  | _ => False
def EH (K : PySem.W.Frag) (C : Tab) (CS : Addr) (mh : MS) (N j : Nat) (Q : VK) : XK := fun cls d H => ∃ (q : Stt) (s : Sto) (x : Exn), q.H = H ∧ Rel K C s q ∧ RX q C K x cls d ∧ PySem.W.exmOne K cls (.ref CS) = some true ∧ PostH K C q Q (mh ((List.replicate N .emp).set j (.exn x)) s)
def TTm (K : PySem.W.Frag) (C : Tab) (CS : Addr) (mh : MS) (N j : Nat) : (XK → Hp → VK → Prop) → Hp → VK → Prop := fun tl H Q => tl (EH K C CS mh N j Q) H Q
theorem RE.caught {K : PySem.W.Frag} {C : Tab} {q : Stt} {N j : Nat} {σ : St} {x : Exn} {a : Addr} {cls : Value} {d : Option Addr} (w : WF q) (hl : σ.length = N) (hj : j < N) (rx : RX q C K x cls d) :
    RE K (suiteC C j a cls d) q q ((List.replicate N .emp).set j (.exn x)) (σ.set j (some (.ref a))) := by
  have at_ : ∀ (i : Nat) (sl : Slot), ((List.replicate N Slot.emp).set j (.exn x))[i]? = some sl → (i = j ∧ sl = .exn x) ∨ sl = .emp := fun i sl h => by
    by_cases e : j = i
    · subst e
      rw [List.getElem?_set_self (by simpa using hj)] at h
      exact .inl ⟨rfl, (Option.some.inj h).symm⟩
    · rw [List.getElem?_set_ne e] at h
      exact .inr (List.eq_of_mem_replicate (List.mem_of_getElem? h))
  refine ⟨by simp [hl], fun i d h => ?_, fun i ds h => ?_, fun i k ds es b h => ?_, w, fun i y h => ?_⟩
  · rcases at_ i _ h with ⟨_, e⟩ | e <;> cases e
  · rcases at_ i _ h with ⟨_, e⟩ | e <;> cases e
  · rcases at_ i _ h with ⟨_, e⟩ | e <;> cases e
  · rcases at_ i _ h with ⟨e1, e⟩ | e
    · cases e
      subst e1
      exact ⟨a, cls, d, suiteC_z, by rw [List.getElem?_set_self (by rw [hl]; exact hj)], rx⟩
    · cases e
theorem told_gives {X : Cx} {C : Tab} {Ng : List Str} {x a e n q : Str} {sg : Scope} {g CS : Addr} {cdg : Value} {j : Nat} {b₀ : Stmt} {suite : List Stmt} {mh : MS} {p1 p2 p3 p4 p7 p8 : Pos}
    (hge : sg.names.lookup e = some .globalImplicit) (hme : X.mg e = some (.ref CS)) (hde : (e == ("__debug__" : Str)) = false) (hN : Ng.Nodup) (hj : Ng[j]? = some n) (hln : sg.names.lookup n = some .local)
    (hsu : ∀ (s : Shared) (H : Hp) (a : Addr) (oe : Obj) (cls : Value) (d : Option Addr) (pn : List (Addr × Obj)), Zc cls d oe → (∃ vs, oe.data = .fields vs) →
      GSs ((cxOf C8.CX0 X.prog X.w X.K X.mg X.base Ng x sg g cdg X.A X.stack s H C8.E0).nox.suite a ((a, oe) :: pn)) (suiteC C j a cls d) W0 (b₀ :: suite) mh) :
    GivesTo X Ng x sg g cdg [.Try [.Return (some (.Call (.Name a p1) [] [] p2)) p3] [.ExceptHandler (some (.Name e p4)) (some n) (b₀ :: suite) p7] [] [] p8] a q (TTm X.K C CS mh Ng.length j) := by
  intro f c' s H Q tl act hc h
  have hgl : Gl (cxOf C8.CX0 X.prog X.w X.K X.mg X.base Ng x sg g cdg X.A X.stack s H C8.E0).nox e := hge; have hjl : j < Ng.length := (List.getElem?_eq_some_iff.mp hj).1
  refine ⟨_, pss_one (ps_try_as (X := (cxOf C8.CX0 X.prog X.w X.K X.mg X.base Ng x sg g cdg X.A X.stack s H C8.E0).nox) (c := .ref CS) (i := j) (Wout := fun _ _ _ _ => False)
      (ts := fun a cls d => tS X.K (suiteC C j a cls d) W0 mh)
      (tb := fun W D σ H => ∃ Ech : XK, (∀ cls d σ' H', Ech cls d H' → σ'.length = Ng.length → W cls d σ' H') ∧ σ[0]? = some (some (.ref f)) ∧ H c' = some (CodeO c' q) ∧ tl Ech H D.rt)
      rfl rfl hN hj hln ⟨hgl, hde, .inl hme⟩ LamX.takes0 (fun W pn xe tk _ => ?_) (fun a oe cls d pn hz hf => hsu s H a oe cls d pn hz hf)), ?_⟩
  · refine ⟨fun pins s' σ H' D I hh => ?_⟩
    obtain ⟨Ech, hW, h1, h2, h3⟩ := hh
    have tk' : Takes ((cxOf C8.CX0 X.prog X.w X.K X.mg X.base Ng x sg g cdg X.A X.stack s H C8.E0).tr pn xe) (fun cls d σ H => σ.length = Ng.length → W cls d σ H) := fun u s' ⟨a, B, sI, pins, σ, H, cls, d, e, I, nb, up, sky, na, os, ag, w⟩ =>
      tk u s' ⟨a, B, sI, pins, σ, H, cls, d, e, I, nb, up, sky, na, os, ag, w I.len⟩
    have hp := act (fun cls d σ H => σ.length = Ng.length → W cls d σ H) pn xe Ech p1 p2 tk' hW
    exact (pss_one (ps_ret (pos := p3) hp)).run pins s' σ H' D I ⟨h1, h2, h3⟩
  · refine ⟨EH X.K C CS mh Ng.length j Q, fun cls d σ' H' ⟨q', s', y, e1, e2, e3, e4, e5⟩ hl => ⟨true, e4, fun _ a na => ?_, fun z => nomatch z⟩, ?_, hc, h⟩
    · subst e1
      refine ⟨q', q', _, s', rfl, Ext.refl q', RE.caught e2.wf hl hjl e3, e2, ?_⟩
      cases z : mh ((List.replicate Ng.length .emp).set j (.exn y)) s' with
      | rt d s2 => rw [z] at e5; exact fun v q2 x2 k r rd => e5 v q2 x2 r rd
      | _ => rw [z] at e5; exact e5.elim
    · cases Ng with
      | nil => simp at hjl
      | cons _ _ => rfl
/-- x(lambda: body) -/
theorem ge_told {X : Cx} {C : Tab} {W : Wx} {x a : Str} {g c P CS : Addr} {k j : Nat} {pg : Arguments} {bg : List Stmt} {sg : Scope} {dV kV doc pm cdv ct oc : Value} {an od : Option Addr} {osl : Array (Option Value)} {Ng : List Str}
    {params : Arguments} {body : Expr} {scope : Scope} {me : ME} {mh : MS} (cs : List Nat) {p lpos pos : Pos} (hG : GivesTo X Ng x sg g cdv bg a (X.env.qual ++ "<lambda>") (TTm X.K C CS mh Ng.length j)) (hm : X.mg x = some (.ref g)) (hk : PySem.W.keepIn X.K (.ref g) = true)
    (lk : X.K.lookup g = some ⟨oc, od, .func (PySem.W.fnOf x x pg bg sg dV kV doc pm an cdv ct), osl⟩) (hcg : PySem.W.codeIn X.K cdv x = true) (hb : L2.Binds X.K (PySem.W.fnOf x x pg bg sg dV kV doc pm an cdv ct) [a] []) (Sg : FnScope Ng [a] sg) (hNg : Ng[0]? = some a) (hva : Vis sg a) (TBx : TabB X.base X.mg c P) (hcode : X.env.code = .ref c) (hmT : (P, X.env.qual ++ "<lambda>") ∈ C.t) (hu : ∀ p ∈ C.t, p.1 = P → p.2 = X.env.qual ++ "<lambda>") (hr : Room (k + 2) X.A) (L : LamS X.env.scope scope)
    (hcs : ∀ c ∈ cs, PySem.W.exmOne X.K (.ref (C c)) (.ref CS) = some true)
    (hbody : ∀ (A : Around) (outer : List PySem.Env) (s : Shared) (H : Hp) (E : XK) (f c' : Addr), Room k (A.deeper (lamEnv X scope s.heap.objs.size f c')) → GE (lamCx X A outer s H E scope f c') C (fun cls d _ H' => E cls d H') body me)
    (hg : Gl X x := by rfl) (hdef : defaultsOf params X.env = ([], []) := by rfl) (hbind : ∀ (q : Str) (cl : List (Str × Addr)) (pm cv ctv : Value), bindArgs (PySem.W.kla_fn "<lambda>" q params body scope cl pm cv ctv) ⟨[], []⟩ = pure [] := by intros; rfl)
    (hdb : (x == ("__debug__" : Str)) = false := by decide) (hd : (a == ("__debug__" : Str)) = false := by decide) (hcd : (a == ("__classdict__" : Str)) = false := by decide) : GE X C W (.Call (.Name x p) [.Lambda params body scope lpos] [] pos) (eTold me mh Ng.length j cs) :=
  PE.imp (pe_lamcall (T := C.t) (TT := TTm X.K C CS mh Ng.length j) (t := fun E => tM X.K C (fun cls d _ H' => E cls d H') (rD X.K) me) hg hm hk lk hcg hb Sg hNg hva hG TBx hcode hmT hu hr L hdef hbind hbody hdb hd hcd) fun σ H Q ⟨q0, q, env, s, eq, E, L, p⟩ => by
    subst eq
    refine ⟨L.tb, fun H1 eN T1 => ?_⟩
    have x1 : Ext q ⟨H1, q.L, q.r⟩ := ⟨fun a o e _ t => eN a o e t, fun _ z => z, fun a o e n t => ⟨eN a o e t, n⟩, ⟨[], by simp⟩, fun _ z => .inl z, fun a o e t => ⟨o, eN a o e t, t⟩⟩
    have L1 : Rel X.K C s ⟨H1, q.L, q.r⟩ := ⟨⟨L.wf.nd, L.wf.live, fun a l => let ⟨o, e, t⟩ := L.wf.trk a l; ⟨o, eN a o e t, t⟩⟩, L.len, fun n ob a e f => (L.obs n ob a e f).mono x1.kp (by
      obtain ⟨u, h1, h2, _⟩ := (L.obs n ob a e f).kind
      exact (eN a u h1 h2).trans h1.symm), T1⟩
    refine ⟨q0, ⟨H1, q.L, q.r⟩, env, s, rfl, E.ext x1, L1, ?_⟩
    unfold eTold at p
    cases z : me env s with
    | ok d s1 => rw [z] at p; exact fun v q' x r y => p v q' (x1.trans x) r y
    | stk => rw [z] at p; exact p
    | exc y s1 =>
      rw [z] at p
      intro cls d q' x r rx
      simp only at p
      split at p
      · rename_i hm
        refine ⟨q', s1, y, rfl, r, rx, by rw [rx.1]; exact hcs _ hm, ?_⟩
        cases z2 : mh ((List.replicate Ng.length .emp).set j (.exn y)) s1 with
        | rt d s2 => rw [z2] at p; exact fun v q2 x2 r2 y2 => p v q2 ((x1.trans x).trans x2) r2 y2
        | _ => rw [z2] at p; exact p.elim
      · exact p.elim
end MP

/-! Refusals raised. Own text. -/
namespace MP
open PySem L2 TL
section
variable {X : Cx} {C : Tab} {W : Wx} {x m : Str} {c : Nat} {j : Int} {p p1 p2 pos pos' : Pos} {e : Expr} {es : List Expr} {ta : TA}
theorem gs_rz {bmB : List Value} {B newId initId : String} {j : Nat} (c : Nat) (F : ExcBaseFacts B newId initId bmB) (q : PySem.W.excIn X.K (C c) bmB newId = true) (gC : X.mg x = some (.ref (C c))) (kC : PySem.W.keepIn X.K (.ref (C c)) = true) (r : Raises X (.ref (C c))) (hc : X.calm = true) (tk : Takes X W) (hg : Gl X x := by rfl)
    (hdb : (x == ("__debug__" : Str)) = false := by decide) : GS X C W (.Raise (some (.Call (.Name x p) [.Constant (.str m) j p2] [] pos)) none pos') (sRz c) :=
  PS.imp (ps_raise hc tk (pmk_own F q gC kC r hg hdb)) fun D σ H ⟨q0, q, env, s, eq, X0, E, L, p⟩ => by
    subst eq
    exact p (.ref (C c)) none σ q X0 (Kp.refl q) L E ⟨rfl, rfl⟩
/-- B.__init__(self, ..), B an own class over ValueError without an own __init__ -/
theorem pe_basei {CM : Addr} {pl : Sem Bool} (hg : Gl X x) (hm : X.mg x = some (.ref CM)) (hr : ClX.CRead X.K CM (.type "type")) (vV : PySem.W.findCls X.K (.ref CM) (.type "type") "__init__" = some (.val (.builtin "ValueError.__init__"))) (ha : PA X (e :: es) ta)
    (hdb : (x == ("__debug__" : Str)) = false := by decide)
    (hc : eval (.Call (.Attribute (.Name x p1) "__init__" p2) (e :: es) [] pos) X.env = (do
      let ov ← eval (.Name x p1) X.env
      standAt p2.atName
      let (f, first) ← holding [ov] (getMethod ov "__init__" pl); callWith pos f first (backTo pos (starEach (e :: es) X.env)) (backToKw pos (keywordEach [] X.env))) := by rfl)
    (he : starEach (e :: es) X.env = (false, eval e X.env) :: starEach es X.env := by rfl) (hpl : (backTo pos (starEach es X.env)).any (·.1) = false := by rfl) : PE X (.Call (.Attribute (.Name x p1) "__init__" p2) (e :: es) [] pos) (tVeI X.K ta) := by
  refine ⟨fun pins s σ H Q I h => ?_⟩; refine PySem.W.methodCall_KW (ld_glob I hg hm ?_ hdb) hc
  refine PySem.W.method_cls I.kIn hr.ga (PySem.W.cls_value I.kIn hr.rd vV (by decide +kernel) ?_)
  show wpAny _ _ (callWith pos (Value.builtin "ValueError.__init__") [] (backTo pos (starEach (e :: es) X.env)) []) _ _ _; refine PyProof.Rows.callWith_method1 (thn (ha.run pos pins _ σ H _ (I.tok _) h) fun us s1 ⟨vs, H1, I1, r1, a, D, ws, ev, hl, T, ea, q⟩ => ?_) he hpl
  subst ev
  cases r1 with
  | @cons _ u0 _ ur ra rw' =>
    obtain rfl : u0 = Value.ref a := ra; have hlen : ur.length ≤ sizeLine := by
      rw [← Paired.length rw', sizeLine_eq]; omega
    exact oinit_ok T I1 ea hlen fun s2 J2 => ⟨.non, H1, J2, rfl, q⟩
end
end MP

/-! Refusals with fields: their makers, raised. Own text. -/
namespace MP
open PySem L2 TL
/-- what the maker of a refusal promises: its fields by the values handed -/
def spI (K : PySem.W.Frag) (Ca : Addr) (fs : List Str) : Sp := fun vs H Q _ => ∃ (a : Addr) (ws : List V), vs = .ref a :: ws ∧ ws.length = fs.length ∧ H a = some (exo a Ca none) ∧
  ∀ dx H', H dx = none → dx ≠ a → H' a = some (exo a Ca (some dx)) → H' dx = some (exd dx (fs.zip ws).reverse) → (∀ b, b ≠ a → b ≠ dx → H' b = H b) → Q .non H'
/-- a class of refusals with fields -/
structure ExO (K : PySem.W.Frag) (Ca : Addr) (fs : List Str) : Prop where
  ox : OexC K Ca
  nf : ∀ f ∈ fs, PySem.W.findIn K (.ref Ca) f = some none
/-- the class that the makers call by its name -/
structure BaseI (K : PySem.W.Frag) (CM : Addr) : Prop where
  rd : ClX.CRead K CM (.type "type")
  vV : PySem.W.findCls K (.ref CM) (.type "type") "__init__" = some (.val (.builtin "ValueError.__init__"))
section
variable {P : Program} {w : World} {K : PySem.W.Frag} {mg : Str → Option Value} {base : Heap} {CX : CXT} {bn f g x y qual m : Str} {params : Arguments} {scope : Scope} {fI CM Ca : Addr} {fd : FuncData} {kws : List (Str × V)} {pl : PySem.Env → Sem Bool} {j : Nat} {p1 p2 p3 p4 p5 p6 p7 p8 p9 p10 p11 p12 p13 p14 : Pos}
theorem init1 (F : FunD K "__init__" qual params [.Expr (.Call (.Attribute (.Name bn p1) "__init__" p2) [.Name "self" p3, .Constant (.str m) j p4] [] p5) p6, .Assign [.Attribute (.Name "self" p7) f p8] (.Name x p9) p10] scope [] kws fI fd)
    (S : FnScope ["self", x] ["self", x] scope) (hg : scope.names.lookup bn = some .globalImplicit) (hm : mg bn = some (.ref CM)) (B : BaseI K CM) (T : ExO K Ca [f])
    (v0 : Vis scope "self") (v1 : Vis scope x) (d1 : (x == ("__debug__" : Str)) = false) (c1 : (x == ("__classdict__" : Str)) = false) (db : (bn == ("__debug__" : Str)) = false)
    (hc : ∀ env : PySem.Env, eval (.Call (.Attribute (.Name bn p1) "__init__" p2) [.Name "self" p3, .Constant (.str m) j p4] [] p5) env = (do
      let ov ← eval (.Name bn p1) env
      standAt p2.atName
      let (f, first) ← holding [ov] (getMethod ov "__init__" (pl env))
      callWith p5 f first (backTo p5 (starEach [.Name "self" p3, .Constant (.str m) j p4] env)) (backToKw p5 (keywordEach [] env)))) : FnOk P w K mg base CX 1 fI fd ["self", x] (spI K Ca [f]) := by
  refine F.ok S (fun vs H Q E h => ?_) fun cdv A outer s H vs Q E hr h => ?_
  · obtain ⟨a, ws, rfl, e, _⟩ := h
    simp [e]
  · obtain ⟨a, ws, rfl, e, ha, q⟩ := h
    match ws, e with
    | [u], _ =>
      refine ⟨_, pss_cons (ps_expr (pe_basei hg hm B.rd B.vV (pa_cons (pe_var (i := 0) rfl v0) (pa_cons pe_str pa_nil)) db (hc _))) (pss_one (ps_ost (pe_var (i := 0) rfl v0) (pe_var (i := 1) rfl v1 d1 c1))), ?_⟩
      refine ⟨.ref a, rfl, a, Ca, [.str m], rfl, by simp, T.ox, ha, u, rfl, .ref a, rfl, a, Ca, rfl, T.ox, T.nf f (by simp), .inl ⟨ha, fun dx n ne => q dx _ n ne upd_same ?_ fun b b1 b2 => ?_⟩⟩
      · rw [upd_ne ne]; exact upd_same
      · rw [upd_ne b1, upd_ne b2]
theorem init2 (F : FunD K "__init__" qual params [.Expr (.Call (.Attribute (.Name bn p1) "__init__" p2) [.Name "self" p3, .Constant (.str m) j p4] [] p5) p6, .Assign [.Attribute (.Name "self" p7) f p8] (.Name x p9) p10, .Assign [.Attribute (.Name "self" p11) g p12] (.Name y p13) p14] scope [] kws fI fd)
    (S : FnScope ["self", x, y] ["self", x, y] scope) (hg : scope.names.lookup bn = some .globalImplicit) (hm : mg bn = some (.ref CM)) (B : BaseI K CM) (T : ExO K Ca [f, g])
    (v0 : Vis scope "self") (v1 : Vis scope x) (v2 : Vis scope y) (d1 : (x == ("__debug__" : Str)) = false) (c1 : (x == ("__classdict__" : Str)) = false) (d2 : (y == ("__debug__" : Str)) = false) (c2 : (y == ("__classdict__" : Str)) = false) (db : (bn == ("__debug__" : Str)) = false)
    (hc : ∀ env : PySem.Env, eval (.Call (.Attribute (.Name bn p1) "__init__" p2) [.Name "self" p3, .Constant (.str m) j p4] [] p5) env = (do
      let ov ← eval (.Name bn p1) env
      standAt p2.atName
      let (f, first) ← holding [ov] (getMethod ov "__init__" (pl env))
      callWith p5 f first (backTo p5 (starEach [.Name "self" p3, .Constant (.str m) j p4] env)) (backToKw p5 (keywordEach [] env)))) : FnOk P w K mg base CX 1 fI fd ["self", x, y] (spI K Ca [f, g]) := by
  refine F.ok S (fun vs H Q E h => ?_) fun cdv A outer s H vs Q E hr h => ?_
  · obtain ⟨a, ws, rfl, e, _⟩ := h
    simp [e]
  · obtain ⟨a, ws, rfl, e, ha, q⟩ := h
    match ws, e with
    | [u, z], _ =>
      refine ⟨_, pss_cons (ps_expr (pe_basei hg hm B.rd B.vV (pa_cons (pe_var (i := 0) rfl v0) (pa_cons pe_str pa_nil)) db (hc _))) (pss_cons (ps_ost (pe_var (i := 0) rfl v0) (pe_var (i := 1) rfl v1 d1 c1)) (pss_one (ps_ost (pe_var (i := 0) rfl v0) (pe_var (i := 2) rfl v2 d2 c2)))), ?_⟩
      refine ⟨.ref a, rfl, a, Ca, [.str m], rfl, by simp, T.ox, ha, u, rfl, .ref a, rfl, a, Ca, rfl, T.ox, T.nf f (by simp), .inl ⟨ha, fun dx n ne => ⟨z, rfl, .ref a, rfl, a, Ca, rfl, T.ox, T.nf g (by simp), .inr ⟨dx, [(f, u)], upd_same, ?_, by simp, q dx _ n ne ?_ upd_same fun b b1 b2 => ?_⟩⟩⟩⟩
      · rw [upd_ne ne]; exact upd_same
      · rw [upd_ne (Ne.symm ne)]; exact upd_same
      · rw [upd_ne b2, upd_ne b1, upd_ne b2]
end
theorem passes_false {P : Program} {w : World} {X : Cx} : Passes (L2.CX P w) X (fun _ _ _ => False) := fun _ _ _ _ _ _ _ h => by
  obtain ⟨_, _, _, _, _, _, _, _, _, _, _, _, z⟩ := h; exact z.elim
theorem RF.append {K : PySem.W.Frag} {q : Stt} : ∀ {fs fs' : List (String × D)} {gs gs' : List (Str × V)}, RF K q fs gs → RF K q fs' gs' → RF K q (fs ++ fs') (gs ++ gs')
  | _, _, _, _, .nil, h => h
  | _, _, _, _, .cons a b, h => .cons a (RF.append b h)
theorem RF.rev {K : PySem.W.Frag} {q : Stt} : ∀ {fs : List (String × D)} {gs : List (Str × V)}, RF K q fs gs → RF K q fs.reverse gs.reverse
  | _, _, .nil => .nil
  | _, _, .cons a b => by rw [List.reverse_cons, List.reverse_cons]; exact RF.append (RF.rev b) (.cons a .nil)
theorem RF.zip {K : PySem.W.Frag} {q : Stt} : ∀ (fs : List String) {ds : List D} {vs : List V}, RDs K q ds vs → RF K q (fs.zip ds) ((fs.map Str.ofString).zip vs)
  | [], _, _, _ => by simp; exact .nil
  | f :: fs, _, _, .nil => by simp; exact .nil
  | f :: fs, _, _, .cons a b => .cons a (RF.zip fs b)
section
variable {X : Cx} {C : Tab} {W : Wx} {x : Str} {c k : Nat} {p pos pos' : Pos} {e : Expr} {es : List Expr} {ma : MA} {fI : Addr} {fd : FuncData} {ps : List Str}
theorem gs_rs (c : Nat) (f : String) (fs : List String) (T : ExO X.K (C c) ((f :: fs).map Str.ofString)) (iC : PySem.W.findIn X.K (.ref (C c)) "__init__" = some (some (.ref fI))) (tI : PySem.W.typeIn X.K (.ref fI) = some (.type "function"))
    (F : FnOk X.prog X.w X.K X.mg X.base (L2.CX X.prog X.w) k fI fd ps (spI X.K (C c) ((f :: fs).map Str.ofString))) (hr : Room (k + 1) X.A) (hb : Binds X.K fd ps []) (hl : (f :: fs).length ≤ 900) (hm : X.mg x = some (.ref (C c))) (hc : X.calm = true) (tk : Takes X W) (ha : GA X C W (e :: es) ma) (hg : Gl X x := by rfl)
    (hdb : (x == ("__debug__" : Str)) = false := by decide) (he : starEach (e :: es) X.env = (false, eval e X.env) :: starEach es X.env := by rfl) (hpl : (backTo pos (starEach es X.env)).any (·.1) = false := by rfl) : GS X C W (.Raise (some (.Call (.Name x p) (e :: es) [] pos)) none pos') (sRs c (f :: fs) ma) :=
  PS.imp (ps_raise hc tk (pmk_oex (dvs := []) T.ox iC tI F hr hb .nil passes_false hg hm ha hdb he hpl)) fun D σ H ⟨q0, q, env, s, eq, X0, E, L, p⟩ => by
    subst eq
    refine tS.first (f := fun ds s1 => if ds.length = (f :: fs).length then SRes.ex ⟨c, ((f :: fs).zip ds).reverse⟩ env s1 else .stk) X0 E L p fun ds s1 vs q1 x1 X1 E1 L1 y1 p1 => ?_
    split at p1
    · rename_i hlen
      have hlv : vs.length = ((f :: fs).map Str.ofString).length := by rw [y1.length, hlen]; simp
      refine ⟨by rw [hlv]; simp at hl ⊢; omega, fun a na => ⟨a, vs, by rw [List.append_nil], hlv, upd_same, fun dx H' n ne h1 h2 h3 => ⟨rfl, dx, _, h1, h2, ?_, ?_⟩⟩⟩
      · rw [upd_ne ne] at n; exact n
      · have n' : q1.H dx = none := by rw [upd_ne ne] at n; exact n
        have eH : upd (del H' a) dx (.xd (((f :: fs).map Str.ofString).zip vs).reverse) = upd q1.H dx (.xd (((f :: fs).map Str.ofString).zip vs).reverse) := by
          funext b
          by_cases b1 : b = dx
          · subst b1; rw [upd_same, upd_same]
          · rw [upd_ne b1, upd_ne b1]
            by_cases b2 : b = a
            · subst b2; rw [del_same, na]
            · rw [del_ne b2, h3 b b2 b1, upd_ne b2]
        rw [eH]
        have x2 := Ext.new1 (o := .xd (((f :: fs).map Str.ofString).zip vs).reverse) L1.wf n'
        have L2 := L1.new1 (o := .xd (((f :: fs).map Str.ofString).zip vs).reverse) n'
        refine p1 (.ref (C c)) (some dx) σ ⟨_, q1.L, q1.r⟩ (X1.trans x2) x2.kp L2 (E1.ext x2) ⟨rfl, ?_⟩
        have rf := ((RF.zip (f :: fs) y1).rev).mono x2.kp
        have hne : ((f :: fs).zip ds).reverse ≠ [] := by
          intro z
          have := congrArg List.length z
          rw [List.length_reverse, List.length_zip, hlen] at this
          simp at this
        show match ((f :: fs).zip ds).reverse with
          | [] => some dx = none
          | fs => ∃ a gs, some dx = some a ∧ _ ∧ _ ∧ _
        split
        · rename_i z; exact absurd z hne
        · exact ⟨dx, _, rfl, upd_same, L1.wf.no n', rf⟩
    · exact p1.elim
end
end MP

/-! Counts, places, greatest ones, pieces of texts, items put. Own text. -/
namespace MP
open PySem L2 TL PyProof.Rows
section
variable {X : Cx} {C : Tab} {W : Wx} {pos apos p2 p' : Pos} {e a b o i : Expr} {m ma mb mo mi : ME} {l h : MO} {lo hi : Option Expr}
/-! ### count, index -/
def rCntD (K : PySem.W.Frag) : V → List V → Hp → VK → Prop := fun x xs H Q => ∃ (a : Addr) (ys : List V) (y : V) (d : PyData) (ds : List PyData), x = .ref a ∧ xs = [y] ∧ SqL K H a ys ∧ DpAll K H ys ds ∧ Dp K H y d ∧ SeqAt.shaped (.list ds) = true ∧ SeqAt.shaped d = true ∧
  Q (.int ((ds.countP fun z => PyData.eqv z d : Nat) : Int)) H
theorem mt_countD (hu : X.A.units + 65 < cLine) : MtR X "list.count" (rCntD X.K) := by
  intro pins s σ H x xs v us Q I rx rxs h; obtain ⟨a, ys, y, d, ds, rfl, rfl, hs, ha, hy, sl, sd, q⟩ := h
  cases rx
  obtain ⟨uy, rfl, ry⟩ := rxs.one
  obtain ⟨bs, r1⟩ := Dp.reads I d y uy hy ry; have hxs : PyData.canLayAll0 ds = true := SeqAt.canLay_of_shaped sl
  have hroom : X.A.units + 1 + min (PyData.depthAll ds) d.depth < cLine := PyProof.Rows.room_in_shaped sd hu
  obtain ⟨its, rv, ⟨⟨cls, dd, data, sls⟩, n, ho, hc, hdn, hdt⟩, hlen⟩ := I.list hs; simp only at hc hdt
  subst hc hdt
  obtain ⟨as, h4⟩ := Dp.readsAll I ds _ its ha rv; have hmap : its.map (SeqAt.readOf s.heap) = ds := SeqAt.readsAll_map ds its as hxs h4; refine call_meets PySem.F.slot_list_count ⟨_, ho, rfl⟩ PySem.F.entry_list_count (PySem.F.args_list_count_2 _ _)
    (SeqAt.list_countAt a its.toArray n dd sls uy (fun u => PyData.eqv (SeqAt.readOf s.heap u) d)) ⟨ho, SeqAt.items_eqAt (vs := its.toArray) (show ReadsAll s.heap its.toArray.toList ds as from h4) r1 hxs (SeqAt.canLay_of_shaped sd) hroom, ?_⟩
  have ec : its.toArray.toList.countP (fun u => PyData.eqv (SeqAt.readOf s.heap u) d) = ds.countP fun z => PyData.eqv z d := by
    rw [← hmap, List.countP_map]; rfl
  rw [ec]
  exact ⟨.int _, H, I.tok _, ⟨_, rfl⟩, q⟩
theorem toPs_map : ∀ ds : List D, toPs ds = ds.map toP
  | [] => rfl
  | d :: ds => by simp [toPs, toPs_map ds]
theorem fits_all {n : Nat} : ∀ {ds : List D}, D.fits n ds = true → ∀ d ∈ ds, d.fit n = true
  | d :: ds, h, x, hx => by
    simp only [D.fits, Bool.and_eq_true] at h; rcases List.mem_cons.mp hx with e | hx
    · subst e; exact h.1
    · exact fits_all h.2 x hx
theorem fit_up : ∀ (n : Nat) (d : D), d.fit n = true → d.fit (n + 1) = true := by
  intro n
  induction n with
  | zero => intro d h; cases d <;> simp_all [D.fit]
  | succ n ih =>
    have ihs : ∀ ds : List D, D.fits n ds = true → D.fits (n + 1) ds = true := by
      intro ds
      induction ds with
      | nil => intro _; rfl
      | cons d ds ih2 =>
        intro h
        simp only [D.fits, Bool.and_eq_true] at h ⊢
        exact ⟨ih d h.1, ih2 h.2⟩
    intro d h
    cases d <;> simp_all [D.fit]
theorem fit_le {n k : Nat} {d : D} (h : d.fit n = true) (l : n ≤ k) : d.fit k = true := by
  induction l with
  | refl => exact h
  | step _ ih => exact fit_up _ _ ih
theorem ge_cnt (hu : X.A.units + 65 < cLine) (ho : GB X C W o mo) (he : GE X C W e m)
    (hbase : attributeBase o "count" X.env (eval o X.env) = eval o X.env := by rfl)
    (hfew : ((backTo pos (starEach [e] X.env)).all (fun x => !x.1) && (backToKw pos (keywordEach [] X.env)).all (fun x => x.1.isSome)
      && decide ([e].length + ([] : List Keyword).length + (if ([] : List Keyword).isEmpty then 0 else 1) < 30)) = true := by rfl)
    (hline : (apos.endLine == pos.line) = true := by rfl) (hs : starEach [e] X.env = (false, eval e X.env) :: starEach [] X.env := by rfl) (hplain : (backTo pos (starEach [] X.env)).any (·.1) = false := by rfl) :
    GE X C W (.Call (.Attribute o "count" apos) [e] [] pos) (eCnt mo m) := PE.imp (pe_bm PySem.F.plainAttrs_list PySem.F.slot_list_count PySem.F.type_list_count (mt_countD hu) ho (pa_cons he pa_nil hs) hbase hfew hline hs hplain) fun σ H Q ⟨q0, q, env, s, eq, E, L, p⟩ => by
  subst eq
  refine tM.first (f := fun x s1 => match x with | .lst ds => (m env s1).bind fun y s2 => cntAt ds y s2 | _ => .stk) E L p rD_any fun x s1 vx q1 x1 E1 L1 y1 p1 => ?_
  cases x with
  | lst ds =>
    obtain ⟨a, vs, rfl, g, r⟩ := y1.lst
    simp only at p1
    have y1' : RB X.K q1 (.lst ds) (.ref a) := y1
    refine ⟨.inl ⟨rfl, _, SqL.of g⟩, ?_⟩
    refine tM.first (f := fun y s2 => cntAt ds y s2) E1 L1 p1 rD_any fun y s2 vy q2 x2 E2 L2 y2 p2 => ?_
    unfold cntAt at p2
    split at p2
    · rename_i hf
      simp only [Bool.and_eq_true] at hf
      obtain ⟨a', vs', e', g', r'⟩ := (y1'.ext x2).lst
      cases e'
      refine ⟨a, vs', vy, toP y, toPs ds, rfl, rfl, SqL.of g', RDs.dp 50 ds r' hf.2, RD.dp 50 y y2 hf.1, shaped_toP (d := .lst ds) (fit_le (n := 51) (k := 60) (d := .lst ds) (by simpa [D.fit] using hf.2) (by omega)), shaped_toP (fit_le hf.1 (by omega)), ?_⟩
      · have ec : (toPs ds).countP (fun z => PyData.eqv z (toP y)) = ds.countP fun z => z.eqv y := by
          rw [toPs_map, List.countP_map]
          exact List.countP_congr fun z hz => by
            rw [Function.comp, eqv_toP 50 50 z y (fits_all hf.2 z hz) hf.1]
        rw [ec]
        exact p2 _ q2 (Ext.refl q2) L2 (.int _)
    · exact p2.elim
  | _ => exact p1.elim
theorem ge_idx (hu : X.A.units + 65 < cLine) (ho : GB X C W o mo) (he : GE X C W e m)
    (hbase : attributeBase o "index" X.env (eval o X.env) = eval o X.env := by rfl)
    (hfew : ((backTo pos (starEach [e] X.env)).all (fun x => !x.1) && (backToKw pos (keywordEach [] X.env)).all (fun x => x.1.isSome)
      && decide ([e].length + ([] : List Keyword).length + (if ([] : List Keyword).isEmpty then 0 else 1) < 30)) = true := by rfl)
    (hline : (apos.endLine == pos.line) = true := by rfl) (hs : starEach [e] X.env = (false, eval e X.env) :: starEach [] X.env := by rfl) (hplain : (backTo pos (starEach [] X.env)).any (·.1) = false := by rfl) :
    GE X C W (.Call (.Attribute o "index" apos) [e] [] pos) (eIdx mo m) := PE.imp (pe_bm PySem.F.plainAttrs_list PySem.F.slot_list_index PySem.F.type_list_index (mt_indexD hu) ho (pa_cons he pa_nil hs) hbase hfew hline hs hplain) fun σ H Q ⟨q0, q, env, s, eq, E, L, p⟩ => by
  subst eq
  refine tM.first (f := fun x s1 => match x with | .lst ds => (m env s1).bind fun y s2 => idxAt ds y s2 | _ => .stk) E L p rD_any fun x s1 vx q1 x1 E1 L1 y1 p1 => ?_
  cases x with
  | lst ds =>
    obtain ⟨a, vs, rfl, g, r⟩ := y1.lst
    simp only at p1
    have y1' : RB X.K q1 (.lst ds) (.ref a) := y1
    refine ⟨.inl ⟨rfl, _, SqL.of g⟩, ?_⟩
    refine tM.first (f := fun y s2 => idxAt ds y s2) E1 L1 p1 rD_any fun y s2 vy q2 x2 E2 L2 y2 p2 => ?_
    unfold idxAt at p2
    split at p2
    · rename_i hf
      simp only [Bool.and_eq_true] at hf
      obtain ⟨a', vs', e', g', r'⟩ := (y1'.ext x2).lst
      cases e'
      cases hj : ds.findIdx? (fun z => z.eqv y) with
      | none => rw [hj] at p2; exact p2.elim
      | some j =>
        rw [hj] at p2
        obtain ⟨h1, h2, h3⟩ := List.findIdx?_eq_some_iff_getElem.mp hj
        have at_ : ∀ (k : Nat) (hk : k < ds.length), (toPs ds)[k]? = some (toP ds[k]) ∧ PyData.eqv (toP ds[k]) (toP y) = ds[k].eqv y := fun k hk => by
          refine ⟨by rw [toPs_map, List.getElem?_map, List.getElem?_eq_getElem hk]; rfl, eqv_toP 50 50 _ _ (fits_all hf.2 _ (List.getElem_mem hk)) hf.1⟩
        refine ⟨a, vy, toP y, toPs ds, j, toP ds[j], rfl, rfl, .lst (SqL.of g') (RDs.dp 50 ds r' hf.2), RD.dp 50 y y2 hf.1, shaped_toP (d := .lst ds) ?_, shaped_toP (fit_le hf.1 (by omega)), (at_ j h1).1, (at_ j h1).2.trans h2, fun k z hk hz => ?_, p2 _ q2 (Ext.refl q2) L2 (.int _)⟩
        · exact (fit_le (n := 51) (k := 60) (d := .lst ds) (by simpa [D.fit] using hf.2) (by omega))
        · have hkl : k < ds.length := by omega
          rw [(at_ k hkl).1] at hz
          cases hz
          rw [(at_ k hkl).2]
          simpa using h3 k hk
    · exact p2.elim
  | _ => exact p1.elim
/-! ### max of a list of numbers -/
theorem intsOf_vals {K : PySem.W.Frag} {q : Stt} : ∀ {ds : List D} {vs : List V} {ns : List Int}, RDs K q ds vs → intsOf ds = some ns → vs = ns.map V.int
  | [], _, _, h, e => by cases h; cases e; rfl
  | d :: ds, _, ns, h, e => by
    cases h with
    | cons a b =>
      cases a with
      | int i =>
        simp only [intsOf] at e
        cases e2 : intsOf ds with
        | none => rw [e2] at e; cases e
        | some is =>
          rw [e2] at e
          cases e
          rw [intsOf_vals b e2]
          rfl
      | _ => cases e
theorem foldl_max_ge : ∀ (ns : List Int) (n : Int), n ≤ ns.foldl max n ∧ ∀ m ∈ ns, m ≤ ns.foldl max n
  | [], n => ⟨Int.le_refl _, fun _ h => nomatch h⟩
  | k :: ns, n => by
    obtain ⟨h1, h2⟩ := foldl_max_ge ns (max n k)
    simp only [List.foldl_cons]
    refine ⟨by omega, fun m hm => ?_⟩; rcases List.mem_cons.mp hm with e | hm
    · subst e; omega
    · exact h2 m hm
theorem foldl_max_mem : ∀ (ns : List Int) (n : Int), ns.foldl max n ∈ n :: ns
  | [], n => by simp
  | k :: ns, n => by
    have h := foldl_max_mem ns (max n k)
    simp only [List.foldl_cons]; rcases List.mem_cons.mp h with e | h
    · rw [e]
      rcases Int.le_total n k with l | l
      · rw [Int.max_eq_right l]; simp
      · rw [Int.max_eq_left l]; simp
    · simp [h]
theorem ge_max {x : Str} (hc : X.calm = true) (hm : X.mg x = none) (ha : GE X C W e m) (hg : Gl X x := by rfl) (hv : bootBuiltins x = some (.builtin "max") := by decide +kernel) (hn : x ≠ "__name__" := by decide) (hd : (x == ("__debug__" : Str)) = false := by decide)
    (h1 : starEach [e] X.env = (false, eval e X.env) :: starEach [] X.env := by rfl) : GE X C W (.Call (.Name x p2) [e] [] pos) (eOp1 opMax m) := PE.imp (pe_callB (cr_max hc) hg hm hv (pa_cons ha pa_nil h1) hn hd (he := h1)) fun σ H Q ⟨q0, q, env, s, eq, E, L, p⟩ => by
  subst eq
  refine tM.first (f := fun x s1 => .ofO (opMax s1 x) s1) E L p rD_any fun x s1 vx q1 x1 E1 L1 y1 p1 => ?_
  cases x with
  | lst ds =>
    cases y1 with
    | @lst a vs _ g r =>
      simp only [opMax] at p1
      split at p1
      · rename_i n ns hi
        have ev := intsOf_vals r hi
        subst ev
        refine ⟨a, n :: ns, rfl, SqL.of g.1, by simp, fun k hk hle => ?_⟩
        have e1 : k = ns.foldl max n := by
          have h1 := foldl_max_ge ns n
          have h2 := hle _ (foldl_max_mem ns n)
          rcases List.mem_cons.mp hk with e | h
          · subst e; omega
          · have := h1.2 k h; omega
        subst e1
        exact p1 _ q1 (Ext.refl q1) L1 (.int _)
      · exact p1.elim
  | _ => exact p1.elim
/-! ### a list so many times -/
theorem RDs.flat {K : PySem.W.Frag} {q : Stt} {ds : List D} {vs : List V} (r : RDs K q ds vs) : ∀ n : Nat, RDs K q (List.replicate n ds).flatten (List.replicate n vs).flatten
  | 0 => .nil
  | n + 1 => by
    rw [List.replicate_succ, List.replicate_succ, List.flatten_cons, List.flatten_cons]; exact r.append (RDs.flat r n)
theorem gl_mul (ha : GB X C W a ma) (hb : GE X C W b mb) : GL X C W (.BinOp a .Mult b pos) (lMul ma mb) := PE.imp (pe_op op_rep ha hb) fun σ H Q ⟨q0, q, env, s, eq, E, L, p⟩ => by
  subst eq
  refine tM.first0 (f := fun x s1 => (mb env s1).bind fun y s2 => mulAt x y s2) E L p fun x s1 vx q1 x1 L1 y1 p1 => ?_
  refine ⟨q0, q1, env, s1, rfl, E.ext x1, L1, ?_⟩
  cases e1 : mb env s1 with
  | stk => rw [e1] at p1; exact p1.elim
  | exc z t => rw [e1] at p1; exact fun c d q' w r => p1 c d q' (x1.trans w) r
  | ok y s2 =>
    rw [e1] at p1
    intro vy q2 x2 L2 y2
    simp only [Res.bind_ok] at p1
    unfold mulAt at p1
    rcases (y1.ext x2).view L2 with ⟨ds, u, vs, ev, rfl, g, r⟩ | ⟨ev, r, nl⟩
    · rw [ev] at p1
      cases y2 with
      | int k =>
        simp only at p1
        split at p1
        · rename_i hl
          refine ⟨u, k, vs, rfl, rfl, g, by omega, by omega, by rw [r.length]; exact lenS hl.1, fun l hl' => ?_⟩
          exact p1 _ _ ((x1.trans x2).trans (Ext.newL L2.wf hl')) (L2.newL hl') (RN.newL L.wf (x1.trans x2) L2 hl' (r.flat _))
        · exact p1.elim
      | _ => exact p1.elim
    · rw [ev] at p1
      cases x with
      | lst ds => exact absurd rfl (nl ds)
      | _ => exact p1.elim
/-! ### a piece of a text -/
theorem partIx_sIx0 (n d : Nat) (i : Option Int) : partIx n d i = HT.sIx n d i := by
  cases i <;> rfl
theorem ge_slS {p2 : Pos} {lo hi : Option Expr} {l h : MO} (ha : GE X C W a ma) (hl : GO X C W lo l) (hh : GO X C W hi h) : GE X C W (.Subscript a (.Slice lo hi none p2) pos) (eSlS ma l h) := PE.imp (pe_slice sl_str ha hl hh) fun σ H Q ⟨q0, q, env, s, eq, E, L, p⟩ => by
  subst eq
  refine tM.first (f := fun x s1 => (l env s1).bind fun l s2 => (h env s2).bind fun h s3 => cutSAt x l h s3) E L p rD_any fun x s1 vx q1 x1 E1 L1 y1 p1 => ?_
  refine tM.first (f := fun l s2 => (h env s2).bind fun h s3 => cutSAt x l h s3) E1 L1 p1 rD_any fun lo' s2 lo'' q2 x2 E2 L2 y2 p2 => ?_
  refine tM.first (f := fun h s3 => cutSAt x lo' h s3) E2 L2 p2 rD_any fun hi' s3 hi'' q3 x3 E3 L3 y3 p3 => ?_
  subst y2 y3
  unfold cutSAt at p3
  cases y1 with
  | str cs =>
    simp only at p3
    split at p3
    · rename_i hl
      refine ⟨_, rfl, by simp only [Str.length, List.size_toArray]; exact lenS hl, ?_⟩
      have ec : cutS ⟨cs.toArray⟩ lo' hi' = ⟨(cutS0 cs lo' hi').toArray⟩ := by
        unfold cutS cutS0
        simp only [Str.length, List.size_toArray, partIx_sIx0]
      rw [ec]
      exact p3 _ q3 (Ext.refl q3) L3 (.str _)
    · exact p3.elim
  | _ => exact p3.elim
/-! ### an item put in a dict -/
theorem gs_subD (hu : X.A.units + 1 < cLine) (ho : GE X C W o mo) (hi : GE X C W a mi) (hv : GE X C W e m) (hs : swapsWith e (some (.Subscript o a p')) pos.line X.env = pure false := by rfl) :
    GS X C W (.Assign [.Subscript o a p'] e pos) (sSetD mo mi m) := PS.imp (ps_dput hu ho hi hv hs) fun D σ H ⟨q0, q, env, s, eq, X0, E, L, p⟩ => by
  subst eq
  refine tS.first X0 E L p fun d s1 v q1 x1 X1 E1 L1 y p1 => ?_
  refine tS.first X1 E1 L1 p1 fun ob s2 u q2 x2 X2 E2 L2 z p2 => ?_
  refine tS.first X2 E2 L2 p2 fun ix s3 iv q3 x3 X3 E3 L3 w p3 => ?_
  have z' := RD.mono x3.kp _ z
  have y' := RD.mono (x2.trans x3).kp _ y
  unfold putAt at p3
  cases z' with
  | @ref n b h2 =>
    simp only at p3
    split at p3
    · rename_i kvs hn
      split at p3
      · rename_i hk
        obtain ⟨k, hkk⟩ := isKey_of hk.1
        obtain ⟨ks, e1, r1⟩ := L3.obs n _ b hn h2
        have ev := kV_of w hkk
        subst ev
        have lu : q3.L b := L3.wf.live b (List.mem_of_getElem? h2)
        obtain ⟨w1, w2⟩ := wr_placed (ho := .dK (putK ks k v)) (o' := .dic (dPut kvs ix d)) L3 hn h2 ⟨_, upd_same, (r1.put hkk y').mono (Kp.wr lu)⟩
        refine ⟨b, _, rfl, DPut.k e1 (by rw [r1.length]; exact Nat.lt_of_lt_of_le hk.2 (lenS (by unfold cap; omega))), ?_⟩
        exact p3 σ _ (X3.trans w1) w1.kp w2 (E3.ext w1)
      · exact p3.elim
    · exact p3.elim
  | _ => exact p3.elim
theorem gs_parO (i j : Nat) {x y : Str} {ml : MA} {px py pt pt2 : Pos} {kt k2} (hc : X.calm = true) (hN : X.N.Nodup) (ha : GL X C W a ml) (hb : GE X C W b mb) (hi : X.N[i]? = some x := by rfl) (hj : X.N[j]? = some y := by rfl) (hij : i ≠ j := by decide)
    (hx : X.env.scope.names.lookup x = some .local := by rfl) (hy : X.env.scope.names.lookup y = some .local := by rfl)
    (hw : swappedStores [.Tuple [.Name x px, .Name y py] kt pt] (.Tuple [a, b] k2 pt2) X.env = pure (some [x, y]) := by rfl)
    (hs : swapsWithSole [.Tuple [.Name x px, .Name y py] kt pt] (.Tuple [a, b] k2 pt2) pos.line X.env = pure false := by rfl)
    (h1 : starEach [a, b] X.env = (false, eval a X.env) :: starEach [b] X.env := by rfl) (h2 : starEach [b] X.env = (false, eval b X.env) :: starEach [] X.env := by rfl) :
    GS X C W (.Assign [.Tuple [.Name x px, .Name y py] kt pt] (.Tuple [a, b] k2 pt2) pos) (sParO i j ml mb) := PS.imp (ps_par hc hN hi hj hij hx hy (pa_cons ha (pa_cons hb pa_nil h2) h1) hw hs) fun D σ H ⟨q0, q, env, s, eq, X0, E, L, p⟩ => by
  subst eq
  refine tS.first (f := fun ds s1 => (mb env s1).go env fun b s2 => SRes.nx ((env.set i (.own ds)).set j (.val b)) s2) X0 E L p fun ds s1 v q1 x1 X1 E1 L1 y1 p1 => ?_
  obtain ⟨pp, vs, rfl, g1, g2, g3, g4, g5⟩ := y1
  refine tS.first (f := fun b s2 => SRes.nx ((env.set i (.own ds)).set j (.val b)) s2) X1 E1 L1 p1 fun d s2 w q2 x2 X2 E2 L2 y2 p2 => ?_
  refine ⟨_, _, rfl, p2 _ q2 X2 (Kp.refl q2) L2 ((RE.setOwn E2 X0 L i E g1 (x2.keep _ _ g2 g4 fun _ z => nomatch z) (x2.mono _ g3) (fun z => (x2.new _ z).elim g4 fun n => n _ g2 fun _ z => nomatch z) (RDs.mono x2.kp _ g5)).set j y2)⟩
end
end MP

/-! What the head tells, as Bools. Own text. -/
namespace MP
open PySem L2 TL He
section
variable {K : PySem.W.Frag}
/-! ### refusals -/
def oexB (K : PySem.W.Frag) (Ca : Addr) : Bool := (match K.lookup Ca with
  | some ⟨.type "type", _, .cls cd, sl0⟩ => (match cd.mro, sl0.toList with
    | .ref C' :: bm, [_, _, _, _, some (.builtin n), _] => decide (C' = Ca) && (decide (n = "ValueError.__new__") && (!cd.hasDel && (cd.hasDict && PySem.HandSPX.refsVE bm)))
    | _, _ => false)
  | _ => false) && (eqO (PySem.W.findIn K (.ref Ca) "__setattr__") (some (some (.builtin "object.__setattr__"))) && (decide (PySem.W.subIn K (.ref Ca) (.type "BaseException") = some true) &&
    (decide (PySem.W.typeIn K (.ref Ca) = some (.type "type")) && PySem.W.keepIn K (.ref Ca))))
theorem oexB_ok {Ca : Addr} (h : oexB K Ca = true) : OexC K Ca := by
  obtain ⟨h1, h⟩ := ba h
  obtain ⟨h2, h⟩ := ba h
  obtain ⟨h3, h⟩ := ba h
  obtain ⟨h4, h5⟩ := ba h
  refine ⟨?_, eqO_ok h2, of_decide_eq_true h3, of_decide_eq_true h4, h5⟩
  split at h1
  · rename_i dd cd sl ho
    split at h1
    · rename_i C' bm q0 q1 q2 q3 n q5 hm hs
      obtain ⟨a1, h1⟩ := ba h1
      obtain ⟨a2, h1⟩ := ba h1
      obtain ⟨a3, h1⟩ := ba h1
      obtain ⟨a4, a5⟩ := ba h1
      have e1 : C' = Ca := of_decide_eq_true a1
      have e2 : n = "ValueError.__new__" := of_decide_eq_true a2
      obtain ⟨nm, bs, mro, ns, qn, hd, sn, sub, ab, col, del⟩ := cd; dsimp only at hm a3 a4
      have e3 : del = false := by simpa using a3
      subst hm e1 e2 e3 a4
      have hsl : sl = #[q0, q1, q2, q3, some (.builtin "ValueError.__new__"), q5] := by
        obtain ⟨l⟩ := sl
        simp only at hs
        rw [hs]
      subst hsl
      exact ⟨_, _, _, _, _, _, _, _, _, _, _, _, _, _, _, ho, a5⟩
    · cases h1
  · cases h1
def exoB (K : PySem.W.Frag) (Ca : Addr) (fs : List Str) : Bool := oexB K Ca && fs.all fun f => eqO (PySem.W.findIn K (.ref Ca) f) (some none)
theorem exoB_ok {Ca : Addr} {fs : List Str} (h : exoB K Ca fs = true) : ExO K Ca fs := by
  obtain ⟨h1, h2⟩ := ba h
  exact ⟨oexB_ok h1, fun f hf => eqO_ok (List.all_eq_true.mp h2 f hf)⟩
def baseB (K : PySem.W.Frag) (CM : Addr) : Bool := PySem.W.readsIn K CM (.type "type") && (decide (PySem.W.specialIn K (.ref CM) "__getattribute__" = some (some (.builtin "type.__getattribute__"))) &&
  (match PySem.W.findCls K (.ref CM) (.type "type") "__init__" with
    | some (.val v) => decide (v = .builtin "ValueError.__init__")
    | _ => false))
theorem baseB_ok {CM : Addr} (h : baseB K CM = true) : BaseI K CM := by
  obtain ⟨h1, h⟩ := ba h
  obtain ⟨h2, h3⟩ := ba h
  refine ⟨⟨h1, of_decide_eq_true h2⟩, ?_⟩
  split at h3
  · rename_i v q
    rw [q, of_decide_eq_true h3]
  · cases h3
def excCB (K : PySem.W.Frag) (D : Addr) : Bool := eqO (PySem.W.findIn K (.ref D) "__getattribute__") (some (some (.builtin "BaseException.__getattribute__"))) && (eqO (PySem.W.findIn K (.ref D) "__getattr__") (some none) && (decide (PySem.W.subIn K (.ref D) (.type "BaseException") = some true) &&
  (PySem.W.hasDictIn K D && (eqO (PySem.W.findIn K (.ref D) "__class__") (some (some (.builtin "object.__class__"))) && (eqO (PySem.W.specialIn K (.builtin "object.__class__") "__get__") (some (some (.builtin "getset_descriptor.__get__"))) &&
  (decide (PySem.W.takesIn K (.builtin "object.__class__") = some true) && decide (PySem.W.mroIn K D (.type "object") = some true)))))))
theorem excCB_ok {D : Addr} (h : excCB K D = true) : ExcC K D := by
  obtain ⟨h1, h⟩ := ba h
  obtain ⟨h2, h⟩ := ba h
  obtain ⟨h3, h⟩ := ba h
  obtain ⟨h4, h⟩ := ba h
  obtain ⟨h5, h⟩ := ba h
  obtain ⟨h6, h⟩ := ba h
  obtain ⟨h7, h8⟩ := ba h
  exact ⟨eqO_ok h1, eqO_ok h2, of_decide_eq_true h3, h4, eqO_ok h5, eqO_ok h6, of_decide_eq_true h7, of_decide_eq_true h8⟩
/-- isinstance of refusals of the classes told, by one class -/
def isXB (K : PySem.W.Frag) (C : Nat → Addr) (tab : List (Nat × Bool)) (cv : Value) : Bool := tab.all fun p => excCB K (C p.1) && decide (PySem.W.kitOne K (.ref (C p.1)) cv = some p.2)
theorem lookup_mem' {α : Type} {c : Nat} {b : α} : ∀ {tab : List (Nat × α)}, tab.lookup c = some b → (c, b) ∈ tab
  | [], h => by cases h
  | (d, e) :: r, h => by
    rw [List.lookup_cons] at h
    split at h
    · rename_i q
      cases h
      rw [beq_iff_eq.mp q]
      exact List.mem_cons_self
    · exact List.mem_cons_of_mem _ (lookup_mem' h)
theorem isXB_ok {C : Nat → Addr} {tab : List (Nat × Bool)} {cv : Value} (h : isXB K C tab cv = true) : ∀ c b, tab.lookup c = some b → ExcC K (C c) ∧ PySem.W.kitOne K (.ref (C c)) cv = some b := fun c b hl => by
  obtain ⟨h1, h2⟩ := ba (List.all_eq_true.mp h _ (lookup_mem' hl))
  exact ⟨excCB_ok h1, of_decide_eq_true h2⟩
def xfsB (K : PySem.W.Frag) (C : Nat → Addr) (cs : List Nat) (f : Str) : Bool := cs.all fun c => xfB K (C c) && eqO (PySem.W.findIn K (.ref (C c)) f) (some none)
theorem xfsB_ok {C : Nat → Addr} {cs : List Nat} {f : Str} (h : xfsB K C cs f = true) : ∀ c ∈ cs, XfC K (C c) ∧ PySem.W.findIn K (.ref (C c)) f = some none := fun c hc => by
  obtain ⟨h1, h2⟩ := ba (List.all_eq_true.mp h c hc)
  exact ⟨xfB_ok h1, eqO_ok h2⟩
def exmsB (K : PySem.W.Frag) (C : Nat → Addr) (cs : List Nat) (CS : Addr) : Bool := cs.all fun c => decide (PySem.W.exmOne K (.ref (C c)) (.ref CS) = some true)
theorem exmsB_ok {C : Nat → Addr} {cs : List Nat} {CS : Addr} (h : exmsB K C cs CS = true) : ∀ c ∈ cs, PySem.W.exmOne K (.ref (C c)) (.ref CS) = some true := fun c hc => of_decide_eq_true (List.all_eq_true.mp h c hc)
/-- a maker of refusals is a function -/
def initB (K : PySem.W.Frag) (Ca f : Addr) : Bool := eqO (PySem.W.findIn K (.ref Ca) "__init__") (some (some (.ref f))) && decide (PySem.W.typeIn K (.ref f) = some (.type "function"))
theorem initB_ok {Ca f : Addr} (h : initB K Ca f = true) : PySem.W.findIn K (.ref Ca) "__init__" = some (some (.ref f)) ∧ PySem.W.typeIn K (.ref f) = some (.type "function") := by
  obtain ⟨h1, h2⟩ := ba h
  exact ⟨eqO_ok h1, of_decide_eq_true h2⟩
def rzB (K : PySem.W.Frag) (Ca : Addr) : Bool := PySem.W.excIn K Ca veBase "ValueError.__new__" && (PySem.W.keepIn K (.ref Ca) && (decide (PySem.W.subIn K (.ref Ca) (.type "BaseException") = some true) && decide (PySem.W.typeIn K (.ref Ca) = some (.type "type"))))
structure Rz (K : PySem.W.Frag) (Ca : Addr) : Prop where
  q : PySem.W.excIn K Ca veBase "ValueError.__new__" = true
  kC : PySem.W.keepIn K (.ref Ca) = true
  sub : PySem.W.subIn K (.ref Ca) (.type "BaseException") = some true
  ty : PySem.W.typeIn K (.ref Ca) = some (.type "type")
theorem rzB_ok {Ca : Addr} (h : rzB K Ca = true) : Rz K Ca := by
  obtain ⟨h1, h⟩ := ba h
  obtain ⟨h2, h⟩ := ba h
  obtain ⟨h3, h4⟩ := ba h
  exact ⟨h1, h2, of_decide_eq_true h3, of_decide_eq_true h4⟩
/-! ### written values -/
def glB (K : PySem.W.Frag) (x : Str) (d : D) : Bool := match PySem.W.nsIn K mainGlobals x with
  | some (some u) => KVal K 6 u d
  | _ => false
theorem glB_ok {h : Heap} {mg : Str → Option Value} {x : Str} {d : D} (X : K.In h) (G : h.Ns mainGlobals mg) (e : glB K x d = true) : ∃ u, mg x = some u ∧ KVal K 6 u d = true := by
  unfold glB at e
  split at e
  · rename_i u q; exact ⟨u, PySem.W.mg_of X G q, e⟩
  · cases e
def kdB (K : PySem.W.Frag) (x : Str) (tab : List (List Nat × D)) : Bool := match K.lookup (ga K x) with
  | some ⟨.type "dict", none, .dict es _, _⟩ => KEnts K 6 es.toList tab
  | _ => false
theorem kdB_ok {w : World} {h : Heap} {mg : Str → Option Value} {x : Str} {tab : List (List Nat × D)} (X : K.In h) (G : h.Ns mainGlobals mg) (g : (Fa.glo x).ok K = true) (kd : ∃ es n, KDict K w (ga K x) es n) (e : kdB K x tab = true) : ∃ a, mg x = some (.ref a) ∧ KDic K w a tab := by
  obtain ⟨es, n, l, k, lo⟩ := kd
  unfold kdB at e
  rw [l] at e
  exact ⟨_, glo_ok X G g, es, n, l, k, lo, e⟩
/-! ### the hook: what the module's names reach, and the statics -/
def asY (g : Addr → Option Obj) (n : Nat) : List Addr := asD g n ++ [PySem.cStatics]
def obsY (n : Nat) (fa : List Fa) (fn : List DefD) (ts : List He.Tab) (tf : List Defn) (ex : PySem.W.Frag → Bool) (g : Addr → Option Obj) : AlX := (fun K => (obsT fa fn ts K, ex K && tabsB g tf K)) (frT g (asY g n))
theorem saysY_of {as : List Addr} {fa : List Fa} {fn : List DefD} {ts : List He.Tab} {tf : List Defn} {ex : PySem.W.Frag → Bool} {w : World} {h : Heap} (e : (fun K => ((obsT fa fn ts K, ex K && tabsB h.get? tf K) : AlX)) (frT h.get? as) = valX fn ts w) : SaysX fa fn ts tf ex w h (frT h.get? as) := by
  have e1 : obsT fa fn ts (frT h.get? as) = valT fn ts w := congrArg (fun z : AlX => z.1) e
  obtain ⟨h1, h2⟩ := ba (show (ex (frT h.get? as) && tabsB h.get? tf (frT h.get? as)) = true from congrArg (fun z : AlX => z.2) e)
  have k : ∀ p ∈ tf, PySem.W.codeHdIn (frT h.get? as) (cT (frT h.get? as) p).1 (cT (frT h.get? as) p).2 = true ∧ ∃ o, h.get? (cT (frT h.get? as) p).2 = some o ∧ emptyTab o = true := fun p hp => by
    obtain ⟨h3, h4⟩ := ba (List.all_eq_true.mp h2 p hp); refine ⟨h3, ?_⟩
    split at h4
    · rename_i o q; exact ⟨o, q, h4⟩
    · cases h4
  refine ⟨e1, h1, fun p hp => (k p hp).1, fun p hp => ?_, fun p hp => ?_⟩
  · obtain ⟨_, o, q, z⟩ := k p hp; exact frT_none q z
  · obtain ⟨_, o, q, z⟩ := k p hp; rw [q, emptyTab_eq z]
def hookY (n : Nat) (fa : List Fa) (fn : List DefD) (ts : List He.Tab) (tf : List Defn) (ex : PySem.W.Frag → Bool) : PySem.W.Hook where
  α := AlX
  obs := fun s => obsY n fa fn ts tf ex s.heap.get?
  val := fun w => valX fn ts w
  says := fun w h => ∃ K : PySem.W.Frag, K.In h ∧ SaysX fa fn ts tf ex w h K; of := fun _ _ e => ⟨_, frT_in, saysY_of e⟩
  keeps := fun _ _ _ ⟨K, hK, c⟩ k => ⟨K, PySem.W.Frag.In.keeps hK k, c.t, c.more, c.hd, c.out, fun p hp => k _ _ (c.empty p hp)⟩
/-! ### a def's code object -/
section
variable {P : Program} {w : World} {mg : Str → Option Value} {base : Heap} {C : MP.Tab} {x qual : Str} {params : Arguments} {body : List Stmt} {scope : Scope} {kws : List (Str × V)} {fd : FuncData} {N ps : List Str} {k : Nat} {ms : MS} {p : Defn}
theorem fn_calC {f : Addr} (F : FunD K x qual params body scope [] kws f fd) (hf : f = fAd K p) (S : FnScope N ps scope) (hN : ps.length ≤ N.length)
    (hb : ∀ (A : Around) (outer : List PySem.Env) (s : Shared) (H : Hp) (E : XK), Room k (A.deeper (PyProof.Rows.envOfC qual scope s.heap.objs.size f (.ref (codeOf K p)))) →
      GSs (cxOf (L2.CX P w) P w K mg base N qual scope f (.ref (codeOf K p)) A outer s H E) C (fun cls d _ H' => E cls d H') body ms) : FnOk P w K mg base (L2.CX P w) (k + 1) f fd ps (spM K C (runB ps.length N.length ms)) := by
  subst hf
  obtain ⟨oc, od, dV, kV, doc, pm, an, cdv, ct, osl, rfl, lk, hcd, _, _⟩ := F.ex; obtain ⟨c, rfl⟩ := codeIn_ref hcd
  have e : codeOf K p = c := codeOf_eq lk rfl
  subst e
  exact fn_of lk hcd S (fun vs H Q E h => spM_len h) fun A outer s H vs Q E hr h => body_sim hN rfl (hb A outer s H E hr) h
end
theorem Room65 {k : Nat} {A : Around} (r : Room k A) : A.units + 65 < cLine := by have := r.un; omega
/-- the suite of the clause that a body begins with -/
def hdBody : List Stmt → List Stmt
  | .Try _ [.ExceptHandler _ _ b _] _ _ _ :: _ => b
  | _ => []
/-- what one of several facts says -/
theorem ex_at {exs : List (PySem.W.Frag → Bool)} (h : (exs.all fun f => f K) = true) (i : Nat) {f : PySem.W.Frag → Bool} (e : exs[i]? = some f := by rfl) : f K = true := List.all_eq_true.mp h f (List.mem_of_getElem? e)
/-- the head's answer -/
theorem lawAt {l : PySem.W.OpenLaw} {w : World} {n k : Nat} {mg : Str → Option Value} {fa : Addr} {h : Heap} {x : Str} {fa0 : List Fa} {fn : List DefD} {ts : List He.Tab} {tf : List Defn} {ex : PySem.W.Frag → Bool} {T : List (Addr × Str)} {fd : FuncData} (KX : K.In h) (c : SaysX fa0 fn ts tf ex w h K) (nm : List Str) (hnm : nm.length = tf.length)
    (hT : T = List.zipWith (fun p y => ((cT K p).2, y)) tf nm) (hb : ∀ (s : Shared) (u : Value), BindsTo s fd ⟨[u], []⟩ [(x, u)])
    (hF : ∀ base : Heap, K.In base → base.Ns mainGlobals mg → (∀ p ∈ tf, LamX.TabB base mg (cT K p).1 (cT K p).2) → FnOk l.prog w K mg base (L2.CX l.prog w) k fa fd [x] (spLawT K T n)) : LamX.LawAtS l w K (L2.CX l.prog w) k n x mg fa h := by
  refine ⟨fd, tf.map (cT K), spLawT K T n, fun p hp => ?_, fun p hp => ?_, fun p hp => ?_, hb, fun H a ns l1 l2 h1 hS => ⟨a, ns, rfl, hS, fun p hp => ?_, l1, l2, fun _ => rfl⟩, fun base b1 b2 b3 => hF base b1 b2 fun p hp => b3 _ (List.mem_map.mpr ⟨p, hp, rfl⟩)⟩
  · obtain ⟨u, hu, rfl⟩ := List.mem_map.mp hp; exact c.empty u hu
  · obtain ⟨u, hu, rfl⟩ := List.mem_map.mp hp; exact c.out u hu
  · obtain ⟨u, hu, rfl⟩ := List.mem_map.mp hp; exact PySem.W.codeHd_of_K KX (c.hd u hu)
  · subst hT
    rw [List.zipWith_eq_zipWith_take_min] at hp
    obtain ⟨i, hi, e⟩ := List.mem_iff_getElem.mp hp
    rw [List.getElem_zipWith] at e
    subst e
    have hi' : i < tf.length := by simp at hi; omega
    refine h1 _ (List.mem_map.mpr ⟨tf[i], List.getElem_mem hi', ?_⟩)
    simp
theorem cx_none {P : Program} {w : World} {H : Hp} {s : Shared} {e : Value} {s' : Shared} (h : L2.CX P w [] H s (fun _ _ _ => False) e s') : False := by
  obtain ⟨_, _, _, _, _, _, _, _, _, _, _, _, z⟩ := h; exact z.elim
end
end MP

/-! The functions of the law, printed by gen2.py. Own text. -/
namespace K24
open MP
def d_MARKS : D := (.int 10)
def d_FIELDS : D := (.int 3)
def d_NAMES : D := (.int 4)
def d_BEYOND : D := (.int 10007)
def d_FIGURES : D := (.str [48, 49, 50, 51, 52, 53, 54, 55, 56, 57])
def t_PARTS : List (List Nat × D) := [([110, 117, 109], (.tup [(.str [110, 117, 109, 98, 101, 114])])), ([110, 97, 109, 101], (.tup [(.str [110, 97, 109, 101])])), ([102, 105, 101, 108, 100], (.tup [(.str [116, 104, 105, 110, 103]), (.str [102, 105, 101, 108, 100])])), ([115, 105, 100, 101], (.tup [(.str [116, 104, 105, 110, 103]), (.str [109, 97, 114, 107])])), ([115, 117, 109], (.tup [(.str [112, 97, 114, 116]), (.str [112, 97, 114, 116])])), ([108, 101, 115, 115], (.tup [(.str [112, 97, 114, 116]), (.str [112, 97, 114, 116])]))]
def d_ALL_WORDS : D := (.tup [(.str [115, 101, 116]), (.str [112, 117, 116]), (.str [99, 97, 108, 108]), (.str [103, 111]), (.str [117, 110, 108, 101, 115, 115]), (.str [119, 97, 105, 116]), (.str [97, 110, 115, 119, 101, 114]), (.str [115, 105, 100, 101])])
def t_ROWS : List (List Nat × D) := [([115, 101, 116], (.tup [(.str [110, 97, 109, 101]), (.str [112, 97, 114, 116])])), ([112, 117, 116], (.tup [(.str [116, 104, 105, 110, 103]), (.str [102, 105, 101, 108, 100]), (.str [112, 97, 114, 116])])), ([115, 105, 100, 101], (.tup [(.str [116, 104, 105, 110, 103]), (.str [109, 97, 114, 107]), (.str [112, 97, 114, 116])])), ([99, 97, 108, 108], (.tup [(.str [110, 97, 109, 101]), (.str [100, 101, 101, 100]), (.str [112, 97, 114, 116])])), ([103, 111], (.tup [(.str [114, 111, 119])])), ([117, 110, 108, 101, 115, 115], (.tup [(.str [110, 97, 109, 101]), (.str [114, 111, 119])])), ([119, 97, 105, 116], (.tup [(.str [116, 104, 105, 110, 103]), (.str [102, 105, 101, 108, 100])])), ([97, 110, 115, 119, 101, 114], (.tup [(.str [112, 97, 114, 116])])), ([110, 101, 101, 100], (.tup [(.str [112, 97, 114, 116])]))]
def d_MOST_DEEP : D := (.int 3)
def d_MOST_ROWS : D := (.int 12)
def h_law_told : MS := (sSeq (sAsg (eFrz (lLst (aCons (eIsX 1 [(1, false)]) (aCons (eIsX 1 [(1, false)]) (aCons (eIsX 1 [(1, false)]) (aCons (eIsX 1 [(1, false)]) aNil)))))) (gNm 2)) (sSeq (sAsg (eFrz (lAdd (eBor 2) (eFrz (lLst (aCons (eIsX 1 [(1, false)]) (aCons (eIsX 1 [(1, false)]) (aCons (eIsX 1 [(1, false)]) aNil))))))) (gNm 2)) (sSeq (sAsg (eFrz (lAdd (eBor 2) (eFrz (lLst (aCons (eIsX 1 [(1, false)]) (aCons (eIsX 1 [(1, false)]) (aCons (eIsX 1 [(1, false)]) aNil))))))) (gNm 2)) (sSeq (sAsg (eFrz (lAdd (eBor 2) (eFrz (lLst (aCons (eIsX 1 [(1, false)]) (aCons (eIsX 1 [(1, false)]) (aCons (eIsX 1 [(1, false)]) aNil))))))) (gNm 2)) (sSeq (sAsg (eFrz (lAdd (eBor 2) (eFrz (lLst (aCons (eIsX 1 [(1, false)]) (aCons (eIsX 1 [(1, true)]) aNil)))))) (gNm 2)) (sSeq (sIf (tOr (tVal (eOp2 opNe (eCnt (eBor 2) (eC (.bl true))) (eC (.int 1)))) (tNot (tVal (eIsX 1 [(1, true)])))) (sRet (eTup (aCons (eC (.str [114, 101, 102, 117, 115, 101, 100])) (aCons (eC (.str [111, 116, 104, 101, 114])) aNil)))) sNext) (sSeq (sAsg (eFrz (lLst (aCons (eC (.str [109, 105, 108, 108])) (aCons (eC (.str [116, 101, 120, 116, 115])) (aCons (eC (.str [114, 111, 111, 109])) (aCons (eC (.str [104, 97, 110, 100])) (aCons (eC (.str [119, 105, 116, 104, 105, 110])) (aCons (eC (.str [100, 101, 101, 100])) (aCons (eC (.str [110, 117, 109, 98, 101, 114])) (aCons (eC (.str [117, 110, 100, 101, 114, 119, 97, 121])) (aCons (eC (.str [102, 117, 108, 108])) (aCons (eC (.str [99, 104, 97, 110, 103, 101])) (aCons (eC (.str [117, 110, 109, 101, 116])) aNil))))))))))))) (gNm 3)) (sSeq (sAsg (eOp2 opIx (eFrz (lAdd (eBor 3) (eFrz (lLst (aCons (eC (.str [110, 111, 99, 104, 97, 110, 103, 101])) (aCons (eC (.str [99, 101, 108, 108])) (aCons (eC (.str [98, 111, 111, 107])) (aCons (eC (.str [116, 101, 120, 116])) aNil)))))))) (eIdx (eBor 2) (eC (.bl true)))) (gNm 4)) (sSeq (sIf (tVal (eOp2 opIn (eBor 4) (eTup (aCons (eC (.str [109, 105, 108, 108])) (aCons (eC (.str [99, 104, 97, 110, 103, 101])) aNil))))) (sRet (eTup (aCons (eC (.str [114, 101, 102, 117, 115, 101, 100])) (aCons (eVar 4) (aCons (eXf 1 "word" []) aNil))))) sNext) (sSeq (sIf (tVal (eOp2 opEq (eBor 4) (eC (.str [116, 101, 120, 116, 115])))) (sRet (eTup (aCons (eC (.str [114, 101, 102, 117, 115, 101, 100])) (aCons (eVar 4) (aCons (eXf 1 "deed" []) (aCons (eXf 1 "row" [1]) aNil)))))) sNext) (sSeq (sIf (tVal (eOp2 opEq (eBor 4) (eC (.str [98, 111, 111, 107])))) (sRet (eTup (aCons (eC (.str [114, 101, 102, 117, 115, 101, 100])) (aCons (eVar 4) (aCons (eXf 1 "event" []) aNil))))) sNext) (sRet (eIf (tVal (eOp2 opIn (eBor 4) (eTup (aCons (eC (.str [117, 110, 109, 101, 116])) (aCons (eC (.str [116, 101, 120, 116])) aNil))))) (eTup (aCons (eC (.str [114, 101, 102, 117, 115, 101, 100])) (aCons (eVar 4) (aCons (eXf 1 "row" [1]) aNil)))) (eTup (aCons (eC (.str [114, 101, 102, 117, 115, 101, 100])) (aCons (eVar 4) aNil))))))))))))))))
def f_law_dice : Fn := runB 1 3 (sSeq (sAsg (eC (.int 0)) (gNm 1)) (sSeq (sFor (iSeq (eVar 0)) (gNm 2) (sAsg (eOp2 opMod (eOp2 opAdd (eOp2 opAdd (eOp2 opMul (eBor 1) (eC (.int 48271))) (eOp2 opMul (eOp2 opMod (eBor 2) (eC (.int 2147483647))) (eC (.int 69621)))) (eC (.int 11))) (eC (.int 2147483647))) (gNm 1))) (sRet (ePlc (lLst (aCons (eVar 0) (aCons (eC (.int 0)) (aCons (eOp2 opMul (eBor 1) (eOp1 opIntOf (eOp2 opGt (eOp1 opLen (eBor 0)) (eC (.int 2))))) (aCons (eC (.int 0)) aNil)))))))))
def f_words_of : Nat → Fn
  | 0 => runB 1 5 sNever
  | n + 1 => runB 1 5 (sSeq (sAsg (eVar 0) (gSt [(gNm 1)] [] 2)) (sSeq (sOwn (lLst (aCons (eVar 1) aNil)) 3) (sSeq (sFor (iSeq (eVar 2)) (gNm 4) (sExt 3 (eIf (tVal (eOp1 (opKind .tuple) (eVar 4))) (eCall (f_words_of n) (aCons (eVar 4) aNil)) (eFrz (lLst (aCons (eOp1 opStrOf (eBor 4)) aNil)))))) (sSeq (sFrz 3) (sRet (eVar 3))))))
def f_written : Fn := runB 1 2 (sRet (eJoin (eC (.str [10])) (eFrz (lLc (iSeq (eVar 0)) (gNm 1) tYesM (eJoin (eC (.str [32])) (eCall (f_words_of 6) (aCons (eVar 1) aNil))) [1]))))
def f_law_next : Fn := runB 2 4 (sSeq (sIf (tVal (eOp2 opGt (eOp2 opIx (eBor 0) (eC (.int 3))) (eC (.int 0)))) (sSeq (sAsg (eOp2 opMod (eOp2 opIx (eBor 0) (eC (.int 3))) (eBor 1)) (gNm 2)) (sSeq (sSet (eVar 0) (eC (.int 3)) (eOp2 opDiv (eOp2 opIx (eBor 0) (eC (.int 3))) (eBor 1))) (sRet (eVar 2)))) sNext) (sSeq (sSet (eVar 0) (eC (.int 1)) (eOp2 opAdd (eOp2 opIx (eBor 0) (eC (.int 1))) (eC (.int 1)))) (sSeq (sIf (tVal (eOp2 opLe (eOp2 opIx (eBor 0) (eC (.int 1))) (eOp1 opLen (eOp2 opIx (eBor 0) (eC (.int 0)))))) (sSeq (sAsg (eOp2 opIx (eOp2 opIx (eBor 0) (eC (.int 0))) (eOp2 opSub (eOp2 opIx (eBor 0) (eC (.int 1))) (eC (.int 1)))) (gNm 3)) (sSeq (sSet (eVar 0) (eC (.int 3)) (eIf (tVal (eOp2 opGe (eBor 3) (eOp2 opPow (eC (.int 10)) (eC (.int 18))))) (eOp2 opDiv (eBor 3) (eBor 1)) (eC (.int 0)))) (sRet (eOp2 opMod (eBor 3) (eBor 1))))) sNext) (sSeq (sSet (eVar 0) (eC (.int 2)) (eOp2 opMod (eOp2 opMul (eOp2 opIx (eBor 0) (eC (.int 2))) (eC (.int 48271))) (eC (.int 2147483647)))) (sRet (eOp2 opMod (eOp2 opDiv (eOp2 opIx (eBor 0) (eC (.int 2))) (eC (.int 7))) (eBor 1)))))))
def f_law_part : Nat → Fn
  | 0 => runB 3 4 sNever
  | n + 1 => runB 3 4 (sSeq (sAsg (eCall f_law_next (aCons (eVar 0) (aCons (eC (.int 10)) aNil))) (gNm 3)) (sSeq (sIf (tOr (tVal (eOp2 opLt (eBor 3) (eC (.int 2)))) (tAnd (tVal (eOp2 opEq (eBor 1) (eC (.int 1)))) (tVal (eOp2 opGt (eBor 3) (eC (.int 7)))))) (sRet (eTup (aCons (eC (.str [110, 117, 109])) (aCons (eOp2 opIx (eFrz (lLst (aCons (eCall f_law_next (aCons (eVar 0) (aCons (eC (.int 3)) aNil))) (aCons (eCall f_law_next (aCons (eVar 0) (aCons (eC (.int 10007)) aNil))) aNil)))) (eOp2 opDiv (eCall f_law_next (aCons (eVar 0) (aCons (eC (.int 4)) aNil))) (eC (.int 3)))) aNil)))) sNext) (sSeq (sIf (tVal (eOp2 opLt (eBor 3) (eC (.int 5)))) (sRet (eTup (aCons (eC (.str [110, 97, 109, 101])) (aCons (eCall f_law_next (aCons (eVar 0) (aCons (eC (.int 4)) aNil))) aNil)))) sNext) (sSeq (sIf (tAnd (tVal (eOp2 opEq (eBor 3) (eC (.int 5)))) (tVal (eOp2 opNe (eOp2 opIx (eBor 2) (eC (.int 2))) (eTup aNil)))) (sRet (eTup (aCons (eC (.str [115, 105, 100, 101])) (aCons (eCall f_law_next (aCons (eVar 0) (aCons (eOp2 opIx (eBor 2) (eC (.int 1))) aNil))) (aCons (eOp2 opIx (eOp2 opIx (eBor 2) (eC (.int 2))) (eCall f_law_next (aCons (eVar 0) (aCons (eOp1 opLen (eOp2 opIx (eBor 2) (eC (.int 2)))) aNil)))) aNil))))) sNext) (sSeq (sIf (tVal (eOp2 opLt (eBor 3) (eC (.int 8)))) (sRet (eTup (aCons (eC (.str [102, 105, 101, 108, 100])) (aCons (eCall f_law_next (aCons (eVar 0) (aCons (eOp2 opIx (eBor 2) (eC (.int 1))) aNil))) (aCons (eCall f_law_next (aCons (eVar 0) (aCons (eC (.int 3)) aNil))) aNil))))) sNext) (sRet (eTup (aCons (eOp2 opIx (eFrz (lLst (aCons (eC (.str [115, 117, 109])) (aCons (eC (.str [108, 101, 115, 115])) aNil)))) (eOp2 opSub (eBor 3) (eC (.int 8)))) (aCons (eCall (f_law_part n) (aCons (eVar 0) (aCons (eOp2 opSub (eBor 1) (eC (.int 1))) (aCons (eVar 2) aNil)))) (aCons (eCall (f_law_part n) (aCons (eVar 0) (aCons (eOp2 opSub (eBor 1) (eC (.int 1))) (aCons (eVar 2) aNil)))) aNil))))))))))
def f_law_row : Fn := runB 3 5 (sSeq (sPar 3 4 (aCons (eCall f_law_next (aCons (eVar 0) (aCons (eC (.int 16)) aNil))) (aCons (eCall f_law_next (aCons (eVar 0) (aCons (eC (.int 4)) aNil))) aNil))) (sSeq (sIf (tVal (eOp2 opLt (eBor 3) (eC (.int 3)))) (sRet (eTup (aCons (eC (.str [115, 101, 116])) (aCons (eVar 4) (aCons (eCall (f_law_part 5) (aCons (eVar 0) (aCons (eC (.int 3)) (aCons (eVar 2) aNil)))) aNil))))) sNext) (sSeq (sIf (tOr (tVal (eOp2 opLt (eBor 3) (eC (.int 6)))) (tAnd (tVal (eOp2 opEq (eBor 3) (eC (.int 6)))) (tVal (eOp2 opEq (eOp2 opIx (eBor 2) (eC (.int 2))) (eTup aNil))))) (sRet (eTup (aCons (eC (.str [112, 117, 116])) (aCons (eCall f_law_next (aCons (eVar 0) (aCons (eOp2 opIx (eBor 2) (eC (.int 1))) aNil))) (aCons (eCall f_law_next (aCons (eVar 0) (aCons (eC (.int 3)) aNil))) (aCons (eCall (f_law_part 5) (aCons (eVar 0) (aCons (eC (.int 3)) (aCons (eVar 2) aNil)))) aNil)))))) sNext) (sSeq (sIf (tVal (eOp2 opEq (eBor 3) (eC (.int 6)))) (sRet (eTup (aCons (eC (.str [115, 105, 100, 101])) (aCons (eCall f_law_next (aCons (eVar 0) (aCons (eOp2 opIx (eBor 2) (eC (.int 1))) aNil))) (aCons (eOp2 opIx (eOp2 opIx (eBor 2) (eC (.int 2))) (eCall f_law_next (aCons (eVar 0) (aCons (eOp1 opLen (eOp2 opIx (eBor 2) (eC (.int 2)))) aNil)))) (aCons (eCall (f_law_part 5) (aCons (eVar 0) (aCons (eC (.int 3)) (aCons (eVar 2) aNil)))) aNil)))))) sNext) (sSeq (sIf (tVal (eOp2 opLt (eBor 3) (eC (.int 11)))) (sRet (eTup (aCons (eC (.str [99, 97, 108, 108])) (aCons (eVar 4) (aCons (eCall f_law_next (aCons (eVar 0) (aCons (eOp2 opIx (eBor 2) (eC (.int 0))) aNil))) (aCons (eCall (f_law_part 5) (aCons (eVar 0) (aCons (eC (.int 2)) (aCons (eVar 2) aNil)))) aNil)))))) sNext) (sSeq (sIf (tVal (eOp2 opLt (eBor 3) (eC (.int 13)))) (sRet (eOp2 opIx (eFrz (lLst (aCons (eTup (aCons (eC (.str [103, 111])) (aCons (eCall f_law_next (aCons (eVar 0) (aCons (eOp2 opAdd (eBor 1) (eC (.int 1))) aNil))) aNil))) (aCons (eTup (aCons (eC (.str [117, 110, 108, 101, 115, 115])) (aCons (eVar 4) (aCons (eCall f_law_next (aCons (eVar 0) (aCons (eOp2 opAdd (eBor 1) (eC (.int 1))) aNil))) aNil)))) aNil)))) (eOp1 opIntOf (eOp2 opGt (eCall f_law_next (aCons (eVar 0) (aCons (eC (.int 4)) aNil))) (eC (.int 0)))))) sNext) (sSeq (sIf (tVal (eOp2 opEq (eBor 3) (eC (.int 13)))) (sRet (eTup (aCons (eC (.str [119, 97, 105, 116])) (aCons (eCall f_law_next (aCons (eVar 0) (aCons (eOp2 opIx (eBor 2) (eC (.int 1))) aNil))) (aCons (eCall f_law_next (aCons (eVar 0) (aCons (eC (.int 3)) aNil))) aNil))))) sNext) (sRet (eIf (tVal (eOp2 opEq (eBor 3) (eC (.int 14)))) (eTup (aCons (eC (.str [97, 110, 115, 119, 101, 114])) (aCons (eCall (f_law_part 5) (aCons (eVar 0) (aCons (eC (.int 2)) (aCons (eVar 2) aNil)))) aNil))) (eTup (aCons (eC (.str [115, 101, 116])) (aCons (eVar 4) (aCons (eTup (aCons (eC (.str [115, 117, 109])) (aCons (eTup (aCons (eC (.str [110, 97, 109, 101])) (aCons (eVar 4) aNil))) (aCons (eTup (aCons (eC (.str [110, 117, 109])) (aCons (eC (.int 1)) aNil))) aNil)))) aNil)))))))))))))
def f_law_text : Fn := runB 2 4 (sSeq (sAsg (eOp2 opAdd (eC (.int 1)) (eCall f_law_next (aCons (eVar 0) (aCons (eOp2 opIx (eFrz (lLst (aCons (eC (.int 3)) (aCons (eC (.int 5)) (aCons (eC (.int 12)) aNil))))) (eCall f_law_next (aCons (eVar 0) (aCons (eC (.int 3)) aNil)))) aNil)))) (gNm 2)) (sRet (eOp1 opTuple (eFrz (lLc (iRng (eVar 2)) (gNm 3) tYesM (eCall f_law_row (aCons (eVar 0) (aCons (eVar 2) (aCons (eVar 1) aNil)))) [3])))))
def f_law_spoilt : Fn := runB 2 11 (sSeq (sAsg (eCall f_law_next (aCons (eVar 0) (aCons (eOp1 opLen (eBor 1)) aNil))) (gNm 2)) (sSeq (sAsg (eFrz (lSplit (eOp2 opIx (eBor 1) (eBor 2)) (eC (.str [32])))) (gNm 3)) (sSeq (sAsg (eCall f_law_next (aCons (eVar 0) (aCons (eOp1 opLen (eBor 3)) aNil))) (gNm 4)) (sSeq (sAsg (eFrz (lLst (aCons (eC (.str [])) (aCons (eC (.str [48])) (aCons (eC (.str [48, 48])) (aCons (eC (.str [51])) (aCons (eC (.str [52])) (aCons (eC (.str [56])) (aCons (eC (.str [49, 48])) (aCons (eC (.str [49, 50])) (aCons (eC (.str [49, 51])) (aCons (eC (.str [49, 48, 48, 48, 54])) (aCons (eC (.str [49, 48, 48, 48, 55])) (aCons (eC (.str [45, 49])) (aCons (eC (.str [110, 117, 109])) (aCons (eC (.str [115, 117, 109])) (aCons (eC (.str [115, 105, 100, 101])) (aCons (eC (.str [103, 111])) aNil)))))))))))))))))) (gNm 5)) (sSeq (sPar 6 5 (aCons (eCall f_law_next (aCons (eVar 0) (aCons (eC (.int 7)) aNil))) (aCons (eOp2 opIx (eBor 5) (eCall f_law_next (aCons (eVar 0) (aCons (eC (.int 16)) aNil)))) aNil))) (sSeq (sIf (tVal (eOp2 opLt (eBor 6) (eC (.int 4)))) (sSeq (sAsg (eFrz (lLst (aCons (eFrz (lAdd (eFrz (lSl (eBor 3) oNone (oSome (eVar 4)))) (eFrz (lSl (eBor 3) (oSome (eOp2 opAdd (eBor 4) (eC (.int 1)))) oNone)))) (aCons (eFrz (lAdd (eFrz (lAdd (eFrz (lSl (eBor 3) oNone (oSome (eVar 4)))) (eFrz (lSl (eBor 3) (oSome (eVar 4)) (oSome (eOp2 opAdd (eBor 4) (eC (.int 1)))))))) (eFrz (lSl (eBor 3) (oSome (eVar 4)) oNone)))) aNil)))) (gNm 7)) (sSeq (sAsg (eFrz (lAdd (eBor 7) (eFrz (lLst (aCons (eFrz (lAdd (eFrz (lAdd (eFrz (lSl (eBor 3) oNone (oSome (eVar 4)))) (eFrz (lLst (aCons (eVar 5) aNil))))) (eFrz (lSl (eBor 3) (oSome (eOp2 opAdd (eBor 4) (eC (.int 1)))) oNone)))) (aCons (eFrz (lAdd (eFrz (lAdd (eFrz (lSl (eBor 3) oNone (oSome (eVar 4)))) (eFrz (lLst (aCons (eVar 5) aNil))))) (eFrz (lSl (eBor 3) (oSome (eVar 4)) oNone)))) aNil)))))) (gNm 7)) (sRet (eFrz (lAdd (eFrz (lAdd (eFrz (lSl (eBor 1) oNone (oSome (eVar 2)))) (eFrz (lLst (aCons (eJoin (eC (.str [32])) (eOp2 opIx (eBor 7) (eBor 6))) aNil))))) (eFrz (lSl (eBor 1) (oSome (eOp2 opAdd (eBor 2) (eC (.int 1)))) oNone))))))) sNext) (sSeq (sIf (tVal (eOp2 opEq (eBor 6) (eC (.int 4)))) (sRet (eOp2 opIx (eFrz (lLst (aCons (eFrz (lAdd (eFrz (lAdd (eFrz (lSl (eBor 1) oNone (oSome (eVar 2)))) (eFrz (lSl (eBor 1) (oSome (eVar 2)) (oSome (eOp2 opAdd (eBor 2) (eC (.int 1)))))))) (eFrz (lSl (eBor 1) (oSome (eVar 2)) oNone)))) (aCons (eFrz (lAdd (eBor 1) (eFrz (lLst (aCons (eC (.str [])) aNil))))) (aCons (eFrz (lMul (eBor 1) (eC (.int 3)))) aNil))))) (eCall f_law_next (aCons (eVar 0) (aCons (eC (.int 3)) aNil))))) sNext) (sSeq (sAsg (eC (.str [32, 33, 35, 36, 38, 39, 40, 41, 42, 43, 44, 45, 46, 47, 48, 49, 50, 51, 52, 53, 54, 55, 56, 57, 58, 59, 60, 61, 62, 63, 64, 65, 66, 67, 68, 69, 70, 71, 72, 73, 74, 75, 76, 77, 78, 79, 80, 81, 82, 83, 84, 85, 86, 87, 88, 89, 90, 91, 93, 94, 95, 96, 97, 98, 99, 100, 101, 102, 103, 104, 105, 106, 107, 108, 109, 110, 111, 112, 113, 114, 115, 116, 117, 118, 119, 120, 121, 122, 123, 124, 125, 126])) (gNm 8)) (sSeq (sAsg (eCall f_law_next (aCons (eVar 0) (aCons (eOp2 opAdd (eOp1 opLen (eOp2 opIx (eBor 1) (eBor 2))) (eC (.int 1))) aNil))) (gNm 4)) (sSeq (sAsg (eOp2 opIx (eFrz (lLst (aCons (eOp2 opIx (eBor 8) (eCall f_law_next (aCons (eVar 0) (aCons (eOp1 opLen (eBor 8)) aNil)))) (aCons (eC (.str [])) aNil)))) (eCall f_law_next (aCons (eVar 0) (aCons (eC (.int 2)) aNil)))) (gNm 9)) (sSeq (sAsg (eOp2 opAdd (eOp2 opAdd (eSlS (eOp2 opIx (eBor 1) (eBor 2)) oNone (oSome (eVar 4))) (eBor 9)) (eSlS (eOp2 opIx (eBor 1) (eBor 2)) (oSome (eOp2 opSub (eOp2 opAdd (eBor 4) (eBor 6)) (eC (.int 5)))) oNone)) (gNm 10)) (sRet (eFrz (lAdd (eFrz (lAdd (eFrz (lSl (eBor 1) oNone (oSome (eVar 2)))) (eFrz (lLst (aCons (eVar 10) aNil))))) (eFrz (lSl (eBor 1) (oSome (eOp2 opAdd (eBor 2) (eC (.int 1)))) oNone))))))))))))))))
def f_law_taken : Nat → Fn
  | 0 => runB 2 11 sNever
  | n + 1 => runB 2 11 (sSeq (sParO 2 3 (lLst aNil) (eC (.int 0))) (sSeq (sAsg (eDic (pCons (eC (.str [110])) (eC (.int 4)) (pCons (eC (.str [116])) (eC (.int 4)) (pCons (eC (.str [102])) (eC (.int 3)) (pCons (eC (.str [109])) (eC (.int 10)) (pCons (eC (.str [100])) (eC (.int 8)) (pCons (eC (.str [114])) (eC (.int 13)) (pCons (eC (.str [119])) (eC (.int 10007)) pNil)))))))) (gNm 4)) (sSeq (sAsg (eDic (pCons (eC (.str [110, 117, 109])) (eC (.str [119])) (pCons (eC (.str [110, 97, 109, 101])) (eC (.str [110])) (pCons (eC (.str [102, 105, 101, 108, 100])) (eC (.str [116, 102])) (pCons (eC (.str [115, 105, 100, 101])) (eC (.str [116, 109])) (pCons (eC (.str [115, 117, 109])) (eC (.str [112, 112])) (pCons (eC (.str [108, 101, 115, 115])) (eC (.str [112, 112])) pNil))))))) (gNm 5)) (sSeq (sFor (iStrI (eVar 0)) (gNm 6) (sSeq (sIf (tVal (eOp2 opEq (eBor 3) (eOp1 opLen (eBor 1)))) (sRet (eC .non)) sNext) (sSeq (sAsg (eOp2 opIx (eBor 1) (eBor 3)) (gNm 7)) (sSeq (sAsg (eOp2 opAdd (eBor 3) (eC (.int 1))) (gNm 3)) (sIf (tVal (eOp2 opEq (eBor 6) (eC (.str [112])))) (sSeq (sAsg (eIf (tVal (eOp2 opDIn (eVar 7) (eVar 5))) (eCall (f_law_taken n) (aCons (eOp2 opDGet (eVar 5) (eVar 7)) (aCons (eFrz (lSl (eBor 1) (oSome (eVar 3)) oNone)) aNil))) (eC .non)) (gNm 8)) (sSeq (sIf (tVal (eOp1 opIsN (eVar 8))) (sRet (eC .non)) sNext) (sSeq (sApp 2 (eOp2 opAdd (eTup (aCons (eVar 7) aNil)) (eOp2 opIx (eBor 8) (eC (.int 0))))) (sAsg (eOp2 opAdd (eBor 3) (eOp2 opIx (eBor 8) (eC (.int 1)))) (gNm 3))))) (sSeq (sAsg (eFrz (lLc (iStrI (eVar 7)) (gNm 10) (tVal (eOp2 opNotIn (eBor 10) (eC (.str [48, 49, 50, 51, 52, 53, 54, 55, 56, 57])))) (eVar 10) [10])) (gNm 9)) (sSeq (sIf (tOr (tVal (eOp2 opEq (eBor 7) (eC (.str [])))) (tOr (tVal (eOp2 opGt (eOp1 opLen (eBor 7)) (eC (.int 5)))) (tVal (eOp2 opNe (eBor 9) (eFrz (lLst aNil)))))) (sRet (eC .non)) sNext) (sSeq (sIf (tOr (tVal (eOp2 opNe (eBor 7) (eOp1 opStrOf (eOp1 opIntOf (eBor 7))))) (tVal (eOp2 opGe (eOp1 opIntOf (eBor 7)) (eOp2 opDGet (eVar 4) (eVar 6))))) (sRet (eC .non)) sNext) (sApp 2 (eOp1 opIntOf (eBor 7))))))))))) (sRet (eTup (aCons (eOp1 opTuple (eBor 2)) (aCons (eVar 3) aNil))))))))
def f_law_deep : Nat → Fn
  | 0 => runB 1 2 sNever
  | n + 1 => runB 1 2 (sRet (eOp2 opAdd (eC (.int 1)) (eOp1 opMax (eFrz (lAdd (eFrz (lLst (aCons (eC (.int 0)) aNil))) (eFrz (lLc (iSeq (eSlT (eVar 0) (oSome (eC (.int 1))) oNone)) (gNm 1) (tVal (eOp1 (opKind .tuple) (eVar 1))) (eCall (f_law_deep n) (aCons (eVar 1) aNil)) [1])))))))
def f_law_row_of : Fn := runB 1 4 (sSeq (sAsg (eFrz (lSplit (eVar 0) (eC (.str [32])))) (gNm 1)) (sSeq (sAsg (eDic (pCons (eC (.str [115, 101, 116])) (eC (.str [110, 112])) (pCons (eC (.str [112, 117, 116])) (eC (.str [116, 102, 112])) (pCons (eC (.str [115, 105, 100, 101])) (eC (.str [116, 109, 112])) (pCons (eC (.str [99, 97, 108, 108])) (eC (.str [110, 100, 112])) (pCons (eC (.str [103, 111])) (eC (.str [114])) (pCons (eC (.str [117, 110, 108, 101, 115, 115])) (eC (.str [110, 114])) (pCons (eC (.str [119, 97, 105, 116])) (eC (.str [116, 102])) pNil)))))))) (gNm 2)) (sSeq (sSetD (eVar 2) (eC (.str [97, 110, 115, 119, 101, 114])) (eC (.str [112]))) (sSeq (sIf (tVal (eOp2 opDNotIn (eOp2 opIx (eBor 1) (eC (.int 0))) (eVar 2))) (sRet (eC .non)) sNext) (sSeq (sAsg (eCall (f_law_taken 60) (aCons (eOp2 opDGet (eVar 2) (eOp2 opIx (eBor 1) (eC (.int 0)))) (aCons (eFrz (lSl (eBor 1) (oSome (eC (.int 1))) oNone)) aNil))) (gNm 3)) (sSeq (sIf (tOr (tVal (eOp1 opIsN (eVar 3))) (tOr (tVal (eOp2 opLt (eOp2 opIx (eBor 3) (eC (.int 1))) (eOp2 opSub (eOp1 opLen (eBor 1)) (eC (.int 1))))) (tVal (eOp2 opGt (eCall (f_law_deep 60) (aCons (eOp2 opAdd (eTup (aCons (eOp2 opIx (eBor 1) (eC (.int 0))) aNil)) (eOp2 opIx (eBor 3) (eC (.int 0)))) aNil)) (eC (.int 4)))))) (sRet (eC .non)) sNext) (sRet (eOp2 opAdd (eTup (aCons (eOp2 opIx (eBor 1) (eC (.int 0))) aNil)) (eOp2 opIx (eBor 3) (eC (.int 0)))))))))))
def f_Rules___init__ : Fn := runB 6 6 (sSeq (MP.sFld 16 (eVar 0) (eVar 1) "words") (sSeq (MP.sFld 16 (eVar 0) (eVar 4) "marks") (sSeq (MP.sFld 16 (eVar 0) (eDic (pCons (eC (.str [110, 97, 109, 101])) (eC d_NAMES) (pCons (eC (.str [116, 104, 105, 110, 103])) (eVar 3) (pCons (eC (.str [102, 105, 101, 108, 100])) (eC d_FIELDS) (pCons (eC (.str [109, 97, 114, 107])) (eC d_MARKS) pNil))))) "limits") (sDrop (eUpd (eFld 16 (eVar 0) "limits") (eDic (pCons (eC (.str [100, 101, 101, 100])) (eVar 2) (pCons (eC (.str [114, 111, 119])) (eOp2 opAdd (eBor 5) (eC (.int 1))) (pCons (eC (.str [110, 117, 109, 98, 101, 114])) (eC d_BEYOND) pNil)))))))))
def arr_Rules_marks : List D → List D → List D
  | [x0, x1], [y0] => [x0, x1, (.int 8), (.int 4), y0, (.int 12)]
  | _, _ => []
def fk_Rules_marks : FnK := fun a b => f_Rules___init__ (arr_Rules_marks a b)
def f_number_of : Fn := runB 1 2 (sSeq (sIf (tOr (tVal (eOp2 opEq (eBor 0) (eC (.str [])))) (tOr (tVal (eOp2 opGt (eOp1 opLen (eBor 0)) (eC (.int 5)))) (tVal (eOp2 opNe (eFrz (lLc (iStrI (eVar 0)) (gNm 1) (tVal (eOp2 opNotIn (eBor 1) (eC d_FIGURES))) (eVar 1) [1])) (eFrz (lLst aNil)))))) (sRet (eOp1 opNeg (eC (.int 1)))) sNext) (sRet (eIf (tOr (tVal (eOp2 opEq (eBor 0) (eC (.str [48])))) (tVal (eOp2 opNe (eOp2 opIx (eBor 0) (eC (.int 0))) (eC (.str [48]))))) (eOp1 opIntOf (eBor 0)) (eOp1 opNeg (eC (.int 1))))))
def f_taken : Nat → Fn
  | 0 => runB 2 6 sNever
  | n + 1 => runB 2 6 (sSeq (sOwn (lLst aNil) 2) (sSeq (sFor (iSeq (eVar 0)) (gNm 3) (sSeq (sIf (tVal (eOp2 opEq (eBor 1) (eFrz (lLst aNil)))) (sRet (eC .non)) sNext) (sSeq (sAsg (eVar 1) (gSt [(gNm 4)] [] 1)) (sIf (tVal (eOp2 opNe (eBor 3) (eC (.str [112, 97, 114, 116])))) (sApp 2 (eCall f_number_of (aCons (eVar 4) aNil))) (sSeq (sAsg (eIf (tVal (eOp1 (kIn t_PARTS) (eVar 4))) (eCall (f_taken n) (aCons (eOp2 (kGetD t_PARTS) (eVar 4) (eTup (aCons (eC (.str [110, 111, 110, 101])) aNil))) (aCons (eVar 1) aNil))) (eC .non)) (gNm 5)) (sSeq (sIf (tVal (eOp1 opIsN (eVar 5))) (sRet (eC .non)) sNext) (sSeq (sApp 2 (eOp2 opAdd (eTup (aCons (eVar 4) aNil)) (eOp2 opIx (eBor 5) (eC (.int 0))))) (sAsg (eOp2 opIx (eBor 5) (eC (.int 1))) (gNm 1))))))))) (sRet (eTup (aCons (eOp1 opTuple (eBor 2)) (aCons (eVar 1) aNil))))))
def f_row_of : Fn := runB 1 4 (sSeq (sAsg (eFrz (lSplit (eVar 0) (eC (.str [32])))) (gSt [(gNm 1)] [] 2)) (sSeq (sIf (tVal (eOp2 opNotIn (eBor 1) (eC d_ALL_WORDS))) (sRet (eC .non)) sNext) (sSeq (sAsg (eCall (f_taken 60) (aCons (eOp1 (kGet t_ROWS) (eVar 1)) (aCons (eVar 2) aNil))) (gNm 3)) (sSeq (sIf (tOr (tVal (eOp1 opIsN (eVar 3))) (tVal (eOp2 opNe (eOp2 opIx (eBor 3) (eC (.int 1))) (eFrz (lLst aNil))))) (sRet (eC .non)) sNext) (sRet (eOp2 opAdd (eTup (aCons (eVar 1) aNil)) (eOp2 opIx (eBor 3) (eC (.int 0)))))))))
def f_Rules_is_number : Fn := runB 3 3 (sRet (eAnd (eChain opLe opLt (eC (.int 0)) (eBor 2) (eOp2 opDGet (eFld 16 (eVar 0) "limits") (eVar 1))) (eOr (eOp2 opNe (eBor 1) (eC (.str [109, 97, 114, 107]))) (eOp2 opIn (eBor 2) (eFld 16 (eVar 0) "marks")))))
mutual
def f_Rules_are_good : Nat → Fn
  | 0 => runB 4 7 sNever
  | n + 1 => runB 4 7 (sSeq (sFor (iZipTL (eVar 1) (eVar 2)) (gTp [(gNm 4), (gNm 5)]) (sSeq (sAsg (eIf (tVal (eOp2 opEq (eBor 4) (eC (.str [112, 97, 114, 116])))) (eMeth 16 "is_part" (f_Rules_is_part n) (eVar 0) (aCons (eVar 5) (aCons (eVar 3) aNil))) (eMeth 16 "is_number" f_Rules_is_number (eVar 0) (aCons (eVar 4) (aCons (eVar 5) aNil)))) (gNm 6)) (sIf (tNot (tVal (eVar 6))) (sRet (eC (.bl false))) sNext))) (sRet (eC (.bl true))))
def f_Rules_is_part : Nat → Fn
  | 0 => runB 3 5 sNever
  | n + 1 => runB 3 5 (sSeq (sAsg (eVar 1) (gSt [(gNm 3)] [] 4)) (sRet (eAnd (eOp2 opGt (eBor 2) (eC (.int 0))) (eMeth 16 "are_good" (f_Rules_are_good n) (eVar 0) (aCons (eOp1 (kGet t_PARTS) (eVar 3)) (aCons (eVar 4) (aCons (eOp2 opSub (eBor 2) (eC (.int 1))) aNil)))))))
end
def f_Rules_is_row : Fn := runB 2 4 (sSeq (sAsg (eVar 1) (gSt [(gNm 2)] [] 3)) (sRet (eAnd (eOp2 opIn (eBor 2) (eFld 16 (eVar 0) "words")) (eMeth 16 "are_good" (f_Rules_are_good 12) (eVar 0) (aCons (eOp1 (kGet t_ROWS) (eVar 2)) (aCons (eVar 3) (aCons (eC d_MOST_DEEP) aNil)))))))
def f_read : Fn := runB 1 6 (sSeq (sOwn (lLst aNil) 1) (sSeq (sAsg (eNewK 16 fk_Rules_marks 1 1 (aCons (eC d_ALL_WORDS) aNil) (aCons (eTupRg (eC d_MARKS)) aNil)) (gNm 2)) (sSeq (sFor (iEnum (eFrz (lSplit (eVar 0) (eC (.str [10]))))) (gTp [(gNm 3), (gNm 4)]) (sSeq (sAsg (eCall f_row_of (aCons (eVar 4) aNil)) (gNm 5)) (sSeq (sIf (tOr (tVal (eOp2 opGe (eBor 3) (eC d_MOST_ROWS))) (tOr (tVal (eOp1 opIsN (eVar 5))) (tNot (tVal (eMeth 16 "is_row" f_Rules_is_row (eVar 2) (aCons (eVar 5) aNil)))))) (sRs 1 ["row"] (aCons (eVar 3) aNil)) sNext) (sApp 1 (eVar 5))))) (sRet (eOp1 opTuple (eBor 1))))))
def f_law_like : Nat → Fn
  | 0 => runB 2 3 sNever
  | n + 1 => runB 2 3 (sSeq (sIf (tOr (tVal (eOp1 (opKind .tuple) (eVar 1))) (tVal (eOp1 (opKind .list) (eVar 1)))) (sSeq (sIf (tVal (eOp2 opNe (eOp1 (opKind .tuple) (eVar 0)) (eOp1 (opKind .tuple) (eVar 1)))) (sRet (eC (.bl false))) sNext) (sSeq (sIf (tOr (tVal (eOp2 opNe (eOp1 (opKind .list) (eVar 0)) (eOp1 (opKind .list) (eVar 1)))) (tVal (eOp2 opNe (eOp1 opLen (eBor 0)) (eOp1 opLen (eBor 1))))) (sRet (eC (.bl false))) sNext) (sRet (eOp2 opEq (eFrz (lLc (iRng (eOp1 opLen (eBor 1))) (gNm 2) (tNot (tVal (eCall (f_law_like n) (aCons (eOp2 opIx (eBor 0) (eBor 2)) (aCons (eOp2 opIx (eBor 1) (eBor 2)) aNil))))) (eVar 2) [2])) (eFrz (lLst aNil)))))) sNext) (sSeq (sIf (tVal (eOp2 opNe (eOp1 (opKind .bool) (eVar 0)) (eOp1 (opKind .bool) (eVar 1)))) (sRet (eC (.bl false))) sNext) (sSeq (sIf (tOr (tVal (eOp2 opNe (eOp1 (opKind .int) (eVar 0)) (eOp1 (opKind .int) (eVar 1)))) (tVal (eOp2 opNe (eOp1 (opKind .str) (eVar 0)) (eOp1 (opKind .str) (eVar 1))))) (sRet (eC (.bl false))) sNext) (sRet (eOp2 opEq (eBor 0) (eBor 1))))))
def f_law : Fn := runB 1 13 (sSeq (sAsg (eCall f_law_dice (aCons (eVar 0) aNil)) (gNm 1)) (sSeq (sFor (iRng (eC (.int 6))) (gNm 2) (sSeq (sAsg (eFrz (lSplit (eCall f_written (aCons (eCall f_law_text (aCons (eVar 1) (aCons (eTup (aCons (eC (.int 8)) (aCons (eC (.int 4)) (aCons (eTupRg (eC (.int 10))) aNil)))) aNil))) aNil)) (eC (.str [10])))) (gNm 3)) (sSeq (sFor (iRng (eCall f_law_next (aCons (eVar 1) (aCons (eC (.int 4)) aNil)))) (gNm 4) (sAsg (eCall f_law_spoilt (aCons (eVar 1) (aCons (eVar 3) aNil))) (gNm 3))) (sSeq (sIf (tVal (eOp2 opEq (eCall f_law_next (aCons (eVar 1) (aCons (eC (.int 8)) aNil))) (eC (.int 0)))) (sSeq (sAsg (eFrz (lLst (aCons (eC (.str [115, 101, 116, 32, 48, 32, 115, 117, 109, 32, 110, 117, 109, 32, 49, 32, 115, 117, 109, 32, 110, 117, 109, 32, 49, 32, 110, 117, 109, 32, 49])) (aCons (eC (.str [115, 101, 116, 32, 48, 32, 115, 117, 109, 32, 110, 117, 109, 32, 49, 32, 115, 117, 109, 32, 110, 117, 109, 32, 49, 32, 115, 117, 109, 32, 110, 117, 109, 32, 49, 32, 110, 117, 109, 32, 49])) aNil)))) (gNm 5)) (sSeq (sPar 6 5 (aCons (eCall f_law_next (aCons (eVar 1) (aCons (eOp2 opAdd (eOp1 opLen (eBor 3)) (eC (.int 1))) aNil))) (aCons (eFrz (lAdd (eBor 5) (eFrz (lLst (aCons (eC (.str [110, 101, 101, 100, 32, 110, 117, 109, 32, 49])) (aCons (eC (.str [])) aNil)))))) aNil))) (sAsg (eFrz (lAdd (eFrz (lAdd (eFrz (lSl (eBor 3) oNone (oSome (eVar 6)))) (eFrz (lLst (aCons (eOp2 opIx (eBor 5) (eCall f_law_next (aCons (eVar 1) (aCons (eC (.int 4)) aNil)))) aNil))))) (eFrz (lSl (eBor 3) oNone (oSome (eC (.int 2))))))) (gNm 3)))) sNext) (sSeq (sAsg (eFrz (lLc (iSeq (eVar 3)) (gNm 11) tYesM (eCall f_law_row_of (aCons (eVar 11) aNil)) [11])) (gNm 7)) (sSeq (sAsg (eFrz (lLc (iRng (eOp1 opLen (eBor 7))) (gNm 12) (tOr (tVal (eOp1 opIsN (eOp2 opIx (eBor 7) (eBor 12)))) (tVal (eOp2 opEq (eBor 12) (eC (.int 12))))) (eVar 12) [12])) (gNm 8)) (sSeq (sAsg (eIf (tVal (eOp2 opEq (eBor 8) (eFrz (lLst aNil)))) (eOp1 opTuple (eBor 7)) (eTup (aCons (eC (.str [114, 101, 102, 117, 115, 101, 100])) (aCons (eC (.str [116, 101, 120, 116])) (aCons (eOp2 opIx (eBor 8) (eC (.int 0))) aNil))))) (gNm 9)) (sSeq (sAsg (eTold (eCall f_read (aCons (eJoin (eC (.str [10])) (eBor 3)) aNil)) h_law_told 5 1 [1]) (gNm 10)) (sIf (tOr (tNot (tVal (eCall (f_law_like 6) (aCons (eVar 10) (aCons (eVar 9) aNil))))) (tAnd (tVal (eOp2 opEq (eBor 8) (eFrz (lLst aNil)))) (tVal (eOp2 opNe (eCall f_written (aCons (eVar 10) aNil)) (eJoin (eC (.str [10])) (eBor 3)))))) (sRet (eC (.bl false))) sNext))))))))) (sRet (eC (.bl true)))))
end K24

/-! The plain law of k24, part 1: the dice. Own text. -/
namespace K24
open MP
/-- a dice in its place -/
def Dice (s : Sto) (n : Nat) : Prop := ∃ (ns : List Int) (i c a : Int), 0 ≤ i ∧ s[n]? = some (.lst [.scr ns, .int i, .int c, .int a])
theorem next_ok {s : Sto} {n : Nat} {m : Int} (hd : Dice s n) (h0 : 0 < m) (h1 : m < 1073741824) : ∃ r s', f_law_next [.ref n, .int m] s = .ok (.int r) s' ∧ 0 ≤ r ∧ r < m ∧ Dice s' n ∧ s'.length = s.length ∧ ∀ j, j ≠ n → s'[j]? = s[j]? := by
  obtain ⟨ns, i, c, a, hi, e⟩ := hd
  have hn : n < s.length := (List.getElem?_eq_some_iff.mp e).1
  by_cases ha : 0 < a
  · refine ⟨a % m, s.set n (.lst [.scr ns, .int i, .int c, .int (a / m)]), ?_, Int.emod_nonneg _ (by omega), Int.emod_lt_of_pos _ h0, ⟨ns, i, c, a / m, hi, by simp [hn]⟩, by simp, fun j hj => by simp [Ne.symm hj]⟩
    simp [f_law_next, e, ha, h0, h1, opIx, opGt, opCmp, opMod, opDiv, seqOf, ixD, place]
  · by_cases hl : i + 1 ≤ ns.length
    · have hk : i.toNat < ns.length := by omega
      obtain ⟨z, hz⟩ : ∃ z, ns[i.toNat]? = some z := ⟨_, List.getElem?_eq_getElem hk⟩
      refine ⟨z % m, s.set n (.lst [.scr ns, .int (i + 1), .int c, .int (if 1000000000000000000 ≤ z then z / m else 0)]), ?_, Int.emod_nonneg _ (by omega), Int.emod_lt_of_pos _ h0, ⟨ns, i + 1, c, if 1000000000000000000 ≤ z then z / m else 0, by omega, by simp [hn]⟩, by simp, fun j hj => by simp [Ne.symm hj]⟩
      have hlt : i < (ns.length : Int) := by omega
      have hz2 : ns[i.toNat] = z := (List.getElem?_eq_some_iff.mp hz).2
      by_cases hb : 1000000000000000000 ≤ z <;> simp [hlt, hz2, f_law_next, e, List.getElem?_set_self', ha, h0, h1, hl, hz, hb, opIx, opGt, opLe, opGe, opCmp, opMod, opDiv, opAdd, opSub, opLen, opPow, seqOf, ixD, place, hi]
    · refine ⟨c * 48271 % 2147483647 / 7 % m, s.set n (.lst [.scr ns, .int (i + 1), .int (c * 48271 % 2147483647), .int a]), ?_, Int.emod_nonneg _ (by omega), Int.emod_lt_of_pos _ h0, ⟨ns, i + 1, c * 48271 % 2147483647, a, by omega, by simp [hn]⟩, by simp, fun j hj => by simp [Ne.symm hj]⟩
      simp [f_law_next, e, List.getElem?_set_self', ha, h0, h1, hl, opIx, opGt, opLe, opGe, opCmp, opMod, opDiv, opAdd, opSub, opMul, opLen, opPow, seqOf, ixD, place, smallI]
theorem dice_loop (ns : List Int) (a0 : D) : ∀ (l : List Int) (c : Int) (z : Slot) (s : Sto), ∃ c' z', forP (gNm 2) (sAsg (eOp2 opMod (eOp2 opAdd (eOp2 opAdd (eOp2 opMul (eBor 1) (eC (.int 48271))) (eOp2 opMul (eOp2 opMod (eBor 2) (eC (.int 2147483647))) (eC (.int 69621)))) (eC (.int 11))) (eC (.int 2147483647))) (gNm 1)) (l.map D.int) [.val a0, .val (.int c), z] s = .nx [.val a0, .val (.int c'), z'] s
  | [], c, z, s => ⟨c, z, rfl⟩
  | x :: l, c, z, s => by
    obtain ⟨c', z', h⟩ := dice_loop ns a0 l ((c * 48271 + x % 2147483647 * 69621 + 11) % 2147483647) (.val (.int x)) s
    refine ⟨c', z', ?_⟩
    rw [← h]
    simp [forP, opMod, opAdd, opMul, smallI]
theorem dice_ok (ns : List Int) (s : Sto) : ∃ s', f_law_dice [.scr ns] s = .ok (.ref s.length) s' ∧ Dice s' s.length ∧ s'.length = s.length + 1 ∧ ∀ j, j < s.length → s'[j]? = s[j]? := by
  obtain ⟨c, z, h⟩ := dice_loop ns (.scr ns) ns 0 .emp s
  refine ⟨s ++ [.lst [.scr ns, .int 0, .int (c * (if 2 < (ns.length : Int) then 1 else 0)), .int 0]], ?_, ⟨ns, 0, c * (if 2 < (ns.length : Int) then 1 else 0), 0, by omega, by simp⟩, by simp, fun j hj => by rw [List.getElem?_append_left hj]⟩
  unfold f_law_dice
  rw [s_runB]
  simp only [List.length_cons, List.length_nil, if_true]
  rw [s_sSeq]
  simp only [s_sAsg, s_eC, Res.go_ok, s_putE, s_gNm, SRes.andThen_nx, List.map_cons, List.map_nil, List.replicate, List.cons_append, List.nil_append, List.set_cons_succ, List.set_cons_zero]
  rw [s_sSeq, s_sFor _ _ _ _ _ s (ns.map D.int) (by simp [srcOf])]
  erw [h]
  by_cases hk : 2 < (ns.length : Int) <;> simp [opMul, opIntOf, opGt, opCmp, opLen, smallI, hk]
end K24

/-! The plain law of k24, part 2: what the dice makes. Own text. -/
namespace K24
open MP
inductive F2 {α β : Type} (R : α → β → Prop) : List α → List β → Prop
  | nil : F2 R [] []
  | cons {a : α} {b : β} {as : List α} {bs : List β} : R a b → F2 R as bs → F2 R (a :: as) (b :: bs)
abbrev kPart : List Nat := [112, 97, 114, 116]
abbrev kName : List Nat := [110, 97, 109, 101]
abbrev kThing : List Nat := [116, 104, 105, 110, 103]
abbrev kField : List Nat := [102, 105, 101, 108, 100]
abbrev kMark : List Nat := [109, 97, 114, 107]
abbrev kNumber : List Nat := [110, 117, 109, 98, 101, 114]
abbrev kDeed : List Nat := [100, 101, 101, 100]
abbrev kRow : List Nat := [114, 111, 119]
def limOf (k : List Nat) : Option Int :=
  if k = kName then some 4 else if k = kThing then some 4 else if k = kField then some 3 else if k = kMark then some 10 else if k = kNumber then some 10007 else if k = kDeed then some 8 else if k = kRow then some 13 else none
/-- a thing of a kind, so deep at most -/
def GA : Nat → List Nat → D → Prop
  | 0, kind, d => ∃ l n, limOf kind = some l ∧ d = .int n ∧ 0 ≤ n ∧ n < l
  | k + 1, kind, d => (∃ l n, limOf kind = some l ∧ d = .int n ∧ 0 ≤ n ∧ n < l) ∨ (kind = kPart ∧ ∃ w kinds ds, d = .tup (.str w :: ds) ∧ t_PARTS.lookup w = some (.tup (kinds.map .str)) ∧ F2 (GA k) kinds ds)
theorem GA.num {k : Nat} {kind : List Nat} {l n : Int} (h : limOf kind = some l) (h0 : 0 ≤ n) (h1 : n < l) : GA k kind (.int n) := by
  cases k with
  | zero => exact ⟨l, n, h, rfl, h0, h1⟩
  | succ k => exact .inl ⟨l, n, h, rfl, h0, h1⟩
theorem GA.part {k : Nat} {w : List Nat} {kinds : List (List Nat)} {ds : List D} (h : t_PARTS.lookup w = some (.tup (kinds.map .str))) (hs : F2 (GA k) kinds ds) : GA (k + 1) kPart (.tup (.str w :: ds)) := .inr ⟨rfl, w, kinds, ds, rfl, h, hs⟩
theorem F2.imp {α β : Type} {R S : α → β → Prop} (h : ∀ a b, R a b → S a b) : ∀ {as : List α} {bs : List β}, F2 R as bs → F2 S as bs
  | _, _, .nil => .nil
  | _, _, .cons a b => .cons (h _ _ a) (F2.imp h b)
theorem GA.up : ∀ {k : Nat} {kind : List Nat} {d : D}, GA k kind d → GA (k + 1) kind d
  | 0, _, _, h => .inl h
  | k + 1, _, _, .inl h => .inl h
  | k + 1, _, _, .inr ⟨e, w, kinds, ds, e2, h, hs⟩ => .inr ⟨e, w, kinds, ds, e2, h, F2.imp (fun _ _ x => GA.up x) hs⟩
theorem GA.le {j k : Nat} {kind : List Nat} {d : D} (h : j ≤ k) (g : GA j kind d) : GA k kind d := by
  induction h with
  | refl => exact g
  | step _ ih => exact ih.up
/-- the game's measures as the law hands them on -/
def gD : D := .tup [.int 8, .int 4, .tup [.int 0, .int 1, .int 2, .int 3, .int 4, .int 5, .int 6, .int 7, .int 8, .int 9]]
def Fr (n : Nat) (s s' : Sto) : Prop := Dice s' n ∧ s'.length = s.length ∧ ∀ j, j ≠ n → s'[j]? = s[j]?
theorem Fr.trans {n : Nat} {a b c : Sto} (x : Fr n a b) (y : Fr n b c) : Fr n a c := ⟨y.1, y.2.1.trans x.2.1, fun j hj => (y.2.2 j hj).trans (x.2.2 j hj)⟩
theorem nx {s : Sto} {n : Nat} {m : Int} (hd : Dice s n) (h0 : 0 < m := by omega) (h1 : m < 1073741824 := by omega) : ∃ r s', f_law_next [.ref n, .int m] s = .ok (.int r) s' ∧ 0 ≤ r ∧ r < m ∧ Fr n s s' := by
  obtain ⟨r, s', h, a, b, c, d, e⟩ := next_ok hd h0 h1
  exact ⟨r, s', h, a, b, c, d, e⟩
theorem at10 {m : Int} (h0 : 0 ≤ m) (h1 : m < 10) : ixD [.int 0, .int 1, .int 2, .int 3, .int 4, .int 5, .int 6, .int 7, .int 8, .int 9] m = some (.int m) := by
  have : m = 0 ∨ m = 1 ∨ m = 2 ∨ m = 3 ∨ m = 4 ∨ m = 5 ∨ m = 6 ∨ m = 7 ∨ m = 8 ∨ m = 9 := by omega
  rcases this with h | h | h | h | h | h | h | h | h | h <;> subst h <;> rfl
theorem neMarks : eqD (.tup [.int 0, .int 1, .int 2, .int 3, .int 4, .int 5, .int 6, .int 7, .int 8, .int 9]) (.tup []) = some false := by decide
theorem g1 (M : D) : ixD [.int 8, .int 4, M] 1 = some (.int 4) := rfl
theorem g2' (M : D) : ixD [.int 8, .int 4, M] 2 = some M := rfl
theorem g0 (M : D) : ixD [.int 8, .int 4, M] 0 = some (.int 8) := rfl
theorem eqD_int (i j : Int) : eqD (.int i) (.int j) = some (i == j) := rfl
theorem part_ok : ∀ (deep fuel : Nat) (s : Sto) (n : Nat), 1 ≤ deep → deep ≤ fuel → Dice s n → ∃ d s', f_law_part fuel [.ref n, .int deep, gD] s = .ok d s' ∧ GA deep kPart d ∧ Fr n s s'
  | 0, _, _, _, h, _, _ => absurd h (by omega)
  | deep + 1, 0, _, _, _, h, _ => absurd h (by omega)
  | deep + 1, fuel + 1, s, n, _, hf, hd => by
    obtain ⟨r1, s1, e1, a1, b1, f1⟩ := nx (m := 10) hd
    by_cases c1 : r1 < 2 ∨ (deep = 0 ∧ 7 < r1)
    · obtain ⟨r2, s2, e2, a2, b2, f2⟩ := nx (m := 3) f1.1
      obtain ⟨r3, s3, e3, a3, b3, f3⟩ := nx (m := 10007) f2.1
      obtain ⟨r4, s4, e4, a4, b4, f4⟩ := nx (m := 4) f3.1
      refine ⟨.tup [.str [110, 117, 109], .int (if r4 / 3 = 0 then r2 else r3)], s4, ?_, GA.part (kinds := [kNumber]) rfl (.cons (GA.num rfl ?_ ?_) .nil), ((f1.trans f2).trans f3).trans f4⟩
      · have q : r4 / 3 = 0 ∨ r4 / 3 = 1 := by omega
        rcases c1 with c | ⟨c, c'⟩
        · rcases q with q | q <;> simp [f_law_part, gD, e1, e2, e3, e4, q, c, opLt, opCmp, opIx, opLen, opSub, seqOf, ixD, place, opDiv, opGt, opEq, opNe, eqD, view, D.fit, D.fits, D.eqv]
        · rcases q with q | q <;> simp [f_law_part, gD, e1, e2, e3, e4, q, c, c', opLt, opCmp, opIx, opLen, opSub, seqOf, ixD, place, opDiv, opGt, opEq, opNe, eqD, view, D.fit, D.fits, D.eqv]
      · split <;> omega
      · split <;> omega
    · have n1 : ¬ r1 < 2 := fun z => c1 (.inl z)
      have n2 : ¬ (deep = 0 ∧ 7 < r1) := fun z => c1 (.inr z)
      have start : f_law_part (fuel + 1) [.ref n, .int ((deep + 1 : Nat) : Int), gD] s = f_law_part (fuel + 1) [.ref n, .int ((deep + 1 : Nat) : Int), gD] s := rfl
      by_cases c2 : r1 < 5
      · obtain ⟨r2, s2, e2, a2, b2, f2⟩ := nx (m := 4) f1.1
        refine ⟨.tup [.str [110, 97, 109, 101], .int r2], s2, ?_, GA.part (kinds := [kName]) rfl (.cons (GA.num rfl a2 b2) .nil), f1.trans f2⟩
        by_cases hd0 : deep = 0
        · have h7 : ¬ 7 < r1 := fun z => n2 ⟨hd0, z⟩
          simp [f_law_part, gD, e1, e2, n1, hd0, h7, c2, opLt, opCmp, opIx, opLen, opSub, seqOf, ixD, place, opDiv, opGt, opEq, opNe, eqD, view, D.fit, D.fits, D.eqv]
        · have hd1 : ¬ (deep : Int) + 1 = 1 := by omega
          simp [f_law_part, gD, e1, e2, n1, hd0, hd1, c2, opLt, opCmp, opIx, opLen, opSub, seqOf, ixD, place, opDiv, opGt, opEq, opNe, eqD, view, D.fit, D.fits, D.eqv]
      · by_cases c3 : r1 = 5
        · obtain ⟨r2, s2, e2, a2, b2, f2⟩ := nx (m := 4) f1.1
          obtain ⟨r3, s3, e3, a3, b3, f3⟩ := nx (m := 10) f2.1
          refine ⟨.tup [.str [115, 105, 100, 101], .int r2, .int r3], s3, ?_, GA.part (kinds := [kThing, kMark]) rfl (.cons (GA.num rfl a2 b2) (.cons (GA.num rfl a3 b3) .nil)), (f1.trans f2).trans f3⟩
          have z10 := at10 a3 b3
          subst c3
          by_cases hd0 : deep = 0
          · subst hd0
            simp [f_law_part, gD, e1, e2, e3, neMarks, z10, g1, g2', eqD_int, opLt, opCmp, opIx, opLen, seqOf, opGt, opEq, opNe, view]
          · have hd1 : ¬ (deep : Int) + 1 = 1 := by omega
            simp [f_law_part, gD, e1, e2, e3, hd0, hd1, neMarks, z10, g1, g2', eqD_int, opLt, opCmp, opIx, opLen, seqOf, opGt, opEq, opNe, view]
        · by_cases c4 : r1 < 8
          · obtain ⟨r2, s2, e2, a2, b2, f2⟩ := nx (m := 4) f1.1
            obtain ⟨r3, s3, e3, a3, b3, f3⟩ := nx (m := 3) f2.1
            refine ⟨.tup [.str [102, 105, 101, 108, 100], .int r2, .int r3], s3, ?_, GA.part (kinds := [kThing, kField]) rfl (.cons (GA.num rfl a2 b2) (.cons (GA.num rfl a3 b3) .nil)), (f1.trans f2).trans f3⟩
            have h7 : ¬ 7 < r1 := by omega
            have hd1 : deep ≠ 0 → ¬ (deep : Int) + 1 = 1 := by omega
            by_cases hd0 : deep = 0 <;> simp [f_law_part, gD, e1, e2, e3, hd0, hd1, n1, c2, c3, c4, h7, opLt, opCmp, opIx, opLen, opSub, seqOf, ixD, place, opDiv, opGt, opEq, opNe, eqD, view, D.fit, D.fits, D.eqv]
          · have hdp : deep ≠ 0 := fun z => n2 ⟨z, by omega⟩
            have hd1 : ¬ (deep : Int) + 1 = 1 := by omega
            obtain ⟨d2, s2, e2, g2, f2⟩ := part_ok deep fuel s1 n (by omega) (by omega) f1.1
            obtain ⟨d3, s3, e3, g3, f3⟩ := part_ok deep fuel s2 n (by omega) (by omega) f2.1
            have h8 : r1 = 8 ∨ r1 = 9 := by omega
            rcases h8 with h8 | h8 <;> subst h8
            · refine ⟨.tup [.str [115, 117, 109], d2, d3], s3, ?_, GA.part (kinds := [kPart, kPart]) rfl (.cons g2 (.cons g3 .nil)), (f1.trans f2).trans f3⟩
              have e2' := e2
              have e3' := e3
              simp only [gD] at e2' e3'
              simp [f_law_part, gD, e1, e2', e3', hdp, hd1, opLt, opCmp, opIx, opLen, opSub, seqOf, ixD, place, opDiv, opGt, opEq, opNe, eqD, view, D.fit, D.fits, D.eqv]
            · refine ⟨.tup [.str [108, 101, 115, 115], d2, d3], s3, ?_, GA.part (kinds := [kPart, kPart]) rfl (.cons g2 (.cons g3 .nil)), (f1.trans f2).trans f3⟩
              have e2' := e2
              have e3' := e3
              simp only [gD] at e2' e3'
              simp [f_law_part, gD, e1, e2', e3', hdp, hd1, opLt, opCmp, opIx, opLen, opSub, seqOf, ixD, place, opDiv, opGt, opEq, opNe, eqD, view, D.fit, D.fits, D.eqv]
end K24

/-! The plain law of k24, part 3: rows and texts of the dice. Own text. -/
namespace K24
open MP
/-- a good row -/
def GR (d : D) : Prop := ∃ w kinds ds, d = .tup (.str w :: ds) ∧ t_ROWS.lookup w = some (.tup (kinds.map .str)) ∧ (∀ s, inD s (.str w) d_ALL_WORDS = some true) ∧ F2 (GA 3) kinds ds
theorem part3 {s : Sto} {n : Nat} (hd : Dice s n) : ∃ d s', f_law_part 5 [.ref n, .int 3, gD] s = .ok d s' ∧ GA 3 kPart d ∧ Fr n s s' := part_ok 3 5 s n (by omega) (by omega) hd
theorem part2 {s : Sto} {n : Nat} (hd : Dice s n) : ∃ d s', f_law_part 5 [.ref n, .int 2, gD] s = .ok d s' ∧ GA 3 kPart d ∧ Fr n s s' := by
  obtain ⟨d, s', h, g, f⟩ := part_ok 2 5 s n (by omega) (by omega) hd
  exact ⟨d, s', h, g.up, f⟩
theorem row_ok (s : Sto) (n : Nat) (many : Int) (h0 : 1 ≤ many) (h1 : many ≤ 12) (hd : Dice s n) : ∃ d s', f_law_row [.ref n, .int many, gD] s = .ok d s' ∧ GR d ∧ Fr n s s' := by
  obtain ⟨r, s1, e1, a1, b1, f1⟩ := nx (m := 16) hd
  obtain ⟨m, s2, e2, a2, b2, f2⟩ := nx (m := 4) f1.1
  have f12 := f1.trans f2
  by_cases c1 : r < 3
  · obtain ⟨p, s3, e3, g3, f3⟩ := part3 f2.1
    refine ⟨.tup [.str [115, 101, 116], .int m, p], s3, ?_, ⟨_, [kName, kPart], _, rfl, rfl, fun _ => rfl, .cons (GA.num rfl a2 b2) (.cons g3 .nil)⟩, f12.trans f3⟩
    simp only [gD] at e3 ⊢
    simp [f_law_row, e1, e2, c1, e3, opLt, opCmp]
  · by_cases c2 : r < 6
    · obtain ⟨x3, s3, e3, a3, b3, f3⟩ := nx (m := 4) f2.1
      obtain ⟨x4, s4, e4, a4, b4, f4⟩ := nx (m := 3) f3.1
      obtain ⟨p, s5, e5, g5, f5⟩ := part3 f4.1
      refine ⟨.tup [.str [112, 117, 116], .int x3, .int x4, p], s5, ?_, ⟨_, [kThing, kField, kPart], _, rfl, rfl, fun _ => rfl, .cons (GA.num rfl a3 b3) (.cons (GA.num rfl a4 b4) (.cons g5 .nil))⟩, ((f12.trans f3).trans f4).trans f5⟩
      simp only [gD] at e5 ⊢
      simp [f_law_row, e1, e2, c1, c2, e3, e4, e5, opLt, opCmp, opIx, seqOf, g1]
    · by_cases c3 : r = 6
      · subst c3
        obtain ⟨x3, s3, e3, a3, b3, f3⟩ := nx (m := 4) f2.1
        obtain ⟨x4, s4, e4, a4, b4, f4⟩ := nx (m := 10) f3.1
        obtain ⟨p, s5, e5, g5, f5⟩ := part3 f4.1
        refine ⟨.tup [.str [115, 105, 100, 101], .int x3, .int x4, p], s5, ?_, ⟨_, [kThing, kMark, kPart], _, rfl, rfl, fun _ => rfl, .cons (GA.num rfl a3 b3) (.cons (GA.num rfl a4 b4) (.cons g5 .nil))⟩, ((f12.trans f3).trans f4).trans f5⟩
        have z10 := at10 a4 b4
        simp only [gD] at e5 ⊢
        simp [f_law_row, e1, e2, e3, e4, e5, opLt, opCmp, opIx, opLen, opEq, opNe, view, seqOf, g1, g2', neMarks, z10, eqD_int]
      · by_cases c4 : r < 11
        · obtain ⟨x3, s3, e3, a3, b3, f3⟩ := nx (m := 8) f2.1
          obtain ⟨p, s4, e4, g4, f4⟩ := part2 f3.1
          refine ⟨.tup [.str [99, 97, 108, 108], .int m, .int x3, p], s4, ?_, ⟨_, [kName, kDeed, kPart], _, rfl, rfl, fun _ => rfl, .cons (GA.num rfl a2 b2) (.cons (GA.num rfl a3 b3) (.cons g4 .nil))⟩, (f12.trans f3).trans f4⟩
          simp only [gD] at e4 ⊢
          simp [f_law_row, e1, e2, c1, c2, c3, c4, e3, e4, opLt, opCmp, opIx, seqOf, g0, g2', opEq, view, eqD_int]
        · by_cases c5 : r < 13
          · obtain ⟨x3, s3, e3, a3, b3, f3⟩ := nx (m := many + 1) f2.1
            obtain ⟨x4, s4, e4, a4, b4, f4⟩ := nx (m := many + 1) f3.1
            obtain ⟨x5, s5, e5, a5, b5, f5⟩ := nx (m := 4) f4.1
            by_cases hx : 0 < x5
            · refine ⟨.tup [.str [117, 110, 108, 101, 115, 115], .int m, .int x4], s5, ?_, ⟨_, [kName, kRow], _, rfl, rfl, fun _ => rfl, .cons (GA.num rfl a2 b2) (.cons (GA.num rfl a4 (by omega)) .nil)⟩, ((f12.trans f3).trans f4).trans f5⟩
              simp [f_law_row, gD, e1, e2, c1, c2, c3, c4, c5, e3, e4, e5, hx, opLt, opGt, opCmp, opIx, opAdd, opIntOf, seqOf, ixD, place, opEq, view, eqD_int]
            · refine ⟨.tup [.str [103, 111], .int x3], s5, ?_, ⟨_, [kRow], _, rfl, rfl, fun _ => rfl, .cons (GA.num rfl a3 (by omega)) .nil⟩, ((f12.trans f3).trans f4).trans f5⟩
              simp [f_law_row, gD, e1, e2, c1, c2, c3, c4, c5, e3, e4, e5, hx, opLt, opGt, opCmp, opIx, opAdd, opIntOf, seqOf, ixD, place, opEq, view, eqD_int]
          · by_cases c6 : r = 13
            · subst c6
              obtain ⟨x3, s3, e3, a3, b3, f3⟩ := nx (m := 4) f2.1
              obtain ⟨x4, s4, e4, a4, b4, f4⟩ := nx (m := 3) f3.1
              refine ⟨.tup [.str [119, 97, 105, 116], .int x3, .int x4], s4, ?_, ⟨_, [kThing, kField], _, rfl, rfl, fun _ => rfl, .cons (GA.num rfl a3 b3) (.cons (GA.num rfl a4 b4) .nil)⟩, (f12.trans f3).trans f4⟩
              simp [f_law_row, gD, e1, e2, e3, e4, opLt, opCmp, opIx, seqOf, g1, opEq, view, eqD_int]
            · by_cases c7 : r = 14
              · subst c7
                obtain ⟨p, s3, e3, g3, f3⟩ := part2 f2.1
                refine ⟨.tup [.str [97, 110, 115, 119, 101, 114], p], s3, ?_, ⟨_, [kPart], _, rfl, rfl, fun _ => rfl, .cons g3 .nil⟩, f12.trans f3⟩
                simp only [gD] at e3 ⊢
                simp [f_law_row, e1, e2, e3, opLt, opCmp, opEq, view, eqD_int]
              · refine ⟨.tup [.str [115, 101, 116], .int m, .tup [.str [115, 117, 109], .tup [.str [110, 97, 109, 101], .int m], .tup [.str [110, 117, 109], .int 1]]], s2, ?_, ⟨_, [kName, kPart], _, rfl, rfl, fun _ => rfl,
                  .cons (GA.num rfl a2 b2) (.cons (GA.part (kinds := [kPart, kPart]) rfl (.cons (GA.part (k := 1) (kinds := [kName]) rfl (.cons (GA.num rfl a2 b2) .nil)) (.cons (GA.part (k := 1) (kinds := [kNumber]) rfl (.cons (GA.num rfl (by omega) (by omega)) .nil)) .nil))) .nil)⟩, f12⟩
                simp [f_law_row, gD, e1, e2, c1, c2, c3, c4, c5, c6, c7, opLt, opCmp, opEq, view, eqD_int]
end K24

/-! The plain law of k24, part 4: texts of the dice. Own text. -/
namespace K24
open MP
theorem rows_loop (n : Nat) (many : Int) (h0 : 1 ≤ many) (h1 : many ≤ 12) : ∀ (l : List D) (s : Sto), Dice s n → ∃ rows s', lcP (gNm 3) tYesM (eCall f_law_row (aCons (eVar 0) (aCons (eVar 2) (aCons (eVar 1) aNil)))) [.val (.ref n), .val gD, .val (.int many), .emp] l s = .ok rows s' ∧
    rows.length = l.length ∧ (∀ d ∈ rows, GR d) ∧ Fr n s s'
  | [], s, hd => ⟨[], s, rfl, rfl, fun _ h => (nomatch h), ⟨hd, rfl, fun _ _ => rfl⟩⟩
  | x :: l, s, hd => by
    obtain ⟨d, s1, e1, g1, f1⟩ := row_ok s n many h0 h1 hd
    obtain ⟨rows, s2, e2, hl, g2, f2⟩ := rows_loop n many h0 h1 l s1 f1.1
    refine ⟨d :: rows, s2, ?_, by simp [hl], fun d' h => ?_, f1.trans f2⟩
    · simp [lcP, e1, e2]
    · rcases List.mem_cons.mp h with h | h
      · subst h; exact g1
      · exact g2 _ h
theorem text_ok (s : Sto) (n : Nat) (hd : Dice s n) : ∃ rows s', f_law_text [.ref n, gD] s = .ok (.tup rows) s' ∧ 1 ≤ rows.length ∧ rows.length ≤ 12 ∧ (∀ d ∈ rows, GR d) ∧ Fr n s s' := by
  obtain ⟨r, s1, e1, a1, b1, f1⟩ := nx (m := 3) hd
  obtain ⟨q, hq, q1, q2⟩ : ∃ q : Int, ixD [.int 3, .int 5, .int 12] r = some (.int q) ∧ 3 ≤ q ∧ q ≤ 12 := by
    have : r = 0 ∨ r = 1 ∨ r = 2 := by omega
    rcases this with h | h | h <;> subst h
    · exact ⟨3, rfl, by omega, by omega⟩
    · exact ⟨5, rfl, by omega, by omega⟩
    · exact ⟨12, rfl, by omega, by omega⟩
  obtain ⟨m, s2, e2, a2, b2, f2⟩ := nx (m := q) f1.1
  obtain ⟨rows, s3, e3, hl, g3, f3⟩ := rows_loop n (1 + m) (by omega) (by omega) (intsD 0 (1 + m).toNat) s2 f2.1
  have hlen : (intsD 0 (1 + m).toNat).length = (1 + m).toNat := by simp [intsD]
  refine ⟨rows, s3, ?_, by omega, by omega, g3, (f1.trans f2).trans f3⟩
  have hc : -(cap : Int) ≤ 1 + m ∧ 1 + m ≤ cap := by unfold cap; omega
  have lc := s_lLc (iRng (eVar 2)) (gNm 3) tYesM (eCall f_law_row (aCons (eVar 0) (aCons (eVar 2) (aCons (eVar 1) aNil)))) [3] [.val (.ref n), .val gD, .val (.int (1 + m)), .emp] s2 s2 (intsD 0 (1 + m).toNat) (by simp [hc]) (by rw [hlen]; unfold cap; omega)
  have hw : wipeE [.val (.ref n), .val gD, .val (.int (1 + m)), .emp] [3] = [.val (.ref n), .val gD, .val (.int (1 + m)), .emp] := rfl
  rw [hw, e3] at lc
  simp [f_law_text, e1, hq, e2, lc, opAdd, opIx, seqOf, opTuple]
/-- the two texts -/
theorem texts_ok (s : Sto) (n : Nat) (hd : Dice s n) : ∃ t u s', (f_law_text [.ref n, gD] s).bind (fun a s1 => (f_law_text [.ref n, gD] s1).bind fun b s2 => .ok [a, b] s2) = .ok [.tup t, .tup u] s' ∧ 1 ≤ t.length ∧ t.length ≤ 12 ∧ (∀ d ∈ t, GR d) ∧ 1 ≤ u.length ∧ u.length ≤ 12 ∧ (∀ d ∈ u, GR d) ∧ Fr n s s' := by
  obtain ⟨t, s1, e1, a1, b1, g1, f1⟩ := text_ok s n hd
  obtain ⟨u, s2, e2, a2, b2, g2, f2⟩ := text_ok s1 n f1.1
  exact ⟨t, u, s2, by simp [e1, e2], a1, b1, g1, a2, b2, g2, f1.trans f2⟩
end K24

/-! The plain law of k24, part 5: written numbers; the words of rows. Own text. -/
namespace K24
open MP
theorem signs_nat (n : Nat) : signs (n : Int) = (Nat.toDigits 10 n).map Char.toNat := by
  unfold signs
  show (Int.repr (n : Int)).toList.map Char.toNat = _
  simp [Int.repr, Nat.repr]
def chk (n : Nat) : Bool := let cs := (Nat.toDigits 10 n).map Char.toNat
  decide (cs.length ≤ 5) && cs.all isFig && decide (figs cs = n) && (match cs with | [] => false | c :: r => decide (c ≠ 48) || r.isEmpty)
theorem all_chk : (List.range 10007).all chk = true := by decide +kernel
/-- a written number -/
structure Num (cs : List Nat) (n : Int) : Prop where
  len : cs.length ≤ 5
  fig : cs.all isFig = true
  val : (figs cs : Int) = n
  ne : cs ≠ []
  hd : ∀ c r, cs = c :: r → c ≠ 48 ∨ r = []
theorem num_ok {n : Int} (h0 : 0 ≤ n) (h1 : n < 10007) : Num (signs n) n := by
  obtain ⟨m, rfl⟩ := Int.eq_ofNat_of_zero_le h0; have hm : m < 10007 := by omega
  have h := List.all_eq_true.mp all_chk m (List.mem_range.mpr hm)
  rw [signs_nat]
  generalize hcs : (Nat.toDigits 10 m).map Char.toNat = cs
  unfold chk at h
  rw [hcs] at h
  simp only [Bool.and_eq_true, decide_eq_true_eq] at h; obtain ⟨⟨⟨a, b⟩, c⟩, d⟩ := h
  refine ⟨a, b, by rw [c], ?_, ?_⟩
  · intro z; rw [z] at d; cases d
  · intro c r e
    rw [e] at d
    simpa [List.isEmpty_iff] using d
theorem look_mem {w : List Nat} {v : D} : ∀ {tab : List (List Nat × D)}, tab.lookup w = some v → (w, v) ∈ tab
  | (a, b) :: tab, h => by
    rw [List.lookup_cons] at h
    by_cases e : w = a
    · subst e
      simp at h
      subst h
      exact List.mem_cons_self
    · have : (w == a) = false := by simpa using e
      rw [this] at h
      exact List.mem_cons_of_mem _ (look_mem h)
/-- a word of a line -/
def WordOk (w : List Nat) : Prop := w ≠ [] ∧ w.length ≤ 6 ∧ ∀ c ∈ w, 48 ≤ c ∧ c ≤ 127
def wordB (w : List Nat) : Bool := !w.isEmpty && decide (w.length ≤ 6) && w.all fun c => decide (48 ≤ c ∧ c ≤ 127)
theorem wordB_ok {w : List Nat} (h : wordB w = true) : WordOk w := by
  unfold wordB at h
  simp only [Bool.and_eq_true, decide_eq_true_eq, List.all_eq_true] at h
  refine ⟨fun e => ?_, h.1.2, h.2⟩
  rw [e] at h
  simp at h
theorem num_word {cs : List Nat} {n : Int} (h : Num cs n) : WordOk cs := ⟨h.ne, by have := h.len; omega, fun c hc => by
  have := List.all_eq_true.mp h.fig c hc
  simp [isFig] at this
  omega⟩
def tupLen : D → Nat | .tup ds => ds.length | _ => 100
theorem parts_in {w : List Nat} {kinds : List (List Nat)} (h : t_PARTS.lookup w = some (.tup (kinds.map .str))) : WordOk w ∧ kinds.length ≤ 2 := by
  have q : (t_PARTS.all fun p => wordB p.1 && decide (tupLen p.2 ≤ 2)) = true := by decide +kernel
  have z := List.all_eq_true.mp q _ (look_mem h)
  simp only [Bool.and_eq_true, decide_eq_true_eq] at z
  exact ⟨wordB_ok z.1, by simpa [tupLen] using z.2⟩
theorem rows_in {w : List Nat} {kinds : List (List Nat)} (h : t_ROWS.lookup w = some (.tup (kinds.map .str))) : WordOk w ∧ kinds.length ≤ 3 := by
  have q : (t_ROWS.all fun p => wordB p.1 && decide (tupLen p.2 ≤ 3)) = true := by decide +kernel
  have z := List.all_eq_true.mp q _ (look_mem h)
  simp only [Bool.and_eq_true, decide_eq_true_eq] at z
  exact ⟨wordB_ok z.1, by simpa [tupLen] using z.2⟩
theorem lim_le {k : List Nat} {l : Int} (h : limOf k = some l) : l ≤ 10007 := by
  unfold limOf at h
  repeat' split at h
  all_goals first | (cases h; omega) | cases h
/-- the words of a thing -/
def Wd : Nat → D → List (List Nat)
  | _, .int n => [signs n]
  | k + 1, .tup (.str w :: ds) => w :: ds.flatMap (Wd k)
  | _, _ => []
def bnd : Nat → Nat
  | 0 => 1
  | k + 1 => 1 + 2 * bnd k
theorem F2.len {α β : Type} {R : α → β → Prop} : ∀ {as : List α} {bs : List β}, F2 R as bs → as.length = bs.length
  | _, _, .nil => rfl
  | _, _, .cons _ b => by simp [F2.len b]
theorem Wds_len {k b : Nat} (h : ∀ kind d, GA k kind d → (Wd k d).length ≤ b) : ∀ {kinds : List (List Nat)} {ds : List D}, F2 (GA k) kinds ds → (ds.flatMap (Wd k)).length ≤ kinds.length * b
  | _, _, .nil => by simp
  | _, _, .cons (as := as) x y => by
    rw [List.flatMap_cons, List.length_append, List.length_cons, Nat.add_mul, Nat.one_mul]
    have := h _ _ x
    have := Wds_len h y
    omega
theorem Wd_len : ∀ (k : Nat) (kind : List Nat) (d : D), GA k kind d → (Wd k d).length ≤ bnd k
  | 0, kind, d, ⟨l, n, h, e, a, b⟩ => by subst e; simp [Wd, bnd]
  | k + 1, kind, d, .inl ⟨l, n, h, e, a, b⟩ => by subst e; simp [Wd, bnd]
  | k + 1, kind, d, .inr ⟨_, w, kinds, ds, e, h, hs⟩ => by
    subst e
    have z := Wds_len (Wd_len k) hs
    have := (parts_in h).2
    have : kinds.length * bnd k ≤ 2 * bnd k := Nat.mul_le_mul_right _ this
    simp only [Wd, List.length_cons, bnd]
    omega
theorem Wds_ok {k : Nat} (h : ∀ kind d, GA k kind d → ∀ w ∈ Wd k d, WordOk w) : ∀ {kinds : List (List Nat)} {ds : List D}, F2 (GA k) kinds ds → ∀ w ∈ ds.flatMap (Wd k), WordOk w
  | _, _, .nil => fun w hw => by simp at hw
  | _, _, .cons x y => fun w hw => by
    rw [List.flatMap_cons, List.mem_append] at hw
    rcases hw with hw | hw
    · exact h _ _ x w hw
    · exact Wds_ok h y w hw
theorem Wd_ok : ∀ (k : Nat) (kind : List Nat) (d : D), GA k kind d → ∀ w ∈ Wd k d, WordOk w
  | 0, kind, d, ⟨l, n, h, e, a, b⟩ => by
    subst e
    intro w hw
    obtain rfl : w = signs n := by simpa [Wd] using hw
    have := lim_le h
    exact num_word (num_ok a (by omega))
  | k + 1, kind, d, .inl ⟨l, n, h, e, a, b⟩ => by
    subst e
    intro w hw
    obtain rfl : w = signs n := by simpa [Wd] using hw
    have := lim_le h
    exact num_word (num_ok a (by omega))
  | k + 1, kind, d, .inr ⟨_, w, kinds, ds, e, h, hs⟩ => by
    subst e
    intro x hx
    simp only [Wd, List.mem_cons] at hx
    rcases hx with rfl | hx
    · exact (parts_in h).1
    · exact Wds_ok (Wd_ok k) hs x hx
end K24

/-! The plain law of k24, part 6: the words of rows, by the law's def and by the program's. Own text. -/
namespace K24
open MP
/-- a thing's words, as a def hands them -/
def Told (f : Nat → Fn) (k fuel : Nat) : Prop := ∀ (w : List Nat) (kinds : List (List Nat)) (ds : List D) (s : Sto), F2 (GA k) kinds ds → 1 + (ds.flatMap (Wd k)).length ≤ 1000 → f fuel [.tup (.str w :: ds)] s = .ok (.lst ((w :: ds.flatMap (Wd k)).map .str)) s
theorem GA.kinds {k : Nat} {kind : List Nat} {d : D} (h : GA k kind d) : (∃ n, d = .int n ∧ 0 ≤ n ∧ n < 10007) ∨ ∃ j w kinds ds, k = j + 1 ∧ d = .tup (.str w :: ds) ∧ F2 (GA j) kinds ds ∧ kind = kPart ∧ t_PARTS.lookup w = some (.tup (kinds.map .str)) := by
  cases k with
  | zero =>
    obtain ⟨l, n, h, e, a, b⟩ := h
    have := lim_le h
    exact .inl ⟨n, e, a, by omega⟩
  | succ j =>
    rcases h with ⟨l, n, h, e, a, b⟩ | ⟨e0, w, kinds, ds, e, h, hs⟩
    · have := lim_le h
      exact .inl ⟨n, e, a, by omega⟩
    · exact .inr ⟨j, w, kinds, ds, rfl, e, hs, e0, h⟩
theorem Wd_int (k : Nat) (n : Int) : Wd k (.int n) = [signs n] := by cases k <;> rfl
theorem opStr_num {n : Int} (a : 0 ≤ n) (b : n < 10007) (s : Sto) : opStrOf s (.int n) = some (.str (signs n)) := by
  unfold opStrOf smallI
  have h1 : decide (-(2 ^ 64) < n) = true := by simp; omega
  have h2 : decide (n < 2 ^ 64) = true := by simp; omega
  simp only [h1, h2, Bool.and_self, if_true]
theorem one_len (k : Nat) (ds : List D) (d : D) (h : d ∈ ds) : (Wd k d).length ≤ (ds.flatMap (Wd k)).length := by
  induction ds with
  | nil => cases h
  | cons x ds ih =>
    rw [List.flatMap_cons, List.length_append]
    rcases List.mem_cons.mp h with h | h
    · subst h; omega
    · have := ih h; omega
/-- the law's def -/
theorem cut1 (d : D) (ds : List D) : cutD (d :: ds) (some 1) none = ds := by
  simp [cutD, partIx]
theorem words_loop (fuel k : Nat) (ih : ∀ j, k = j + 1 → Told f_words_of j fuel) (a0 a1 a2 : Slot) : ∀ (ds : List D) (kinds : List (List Nat)) (acc : List (List Nat)) (z : Slot) (s : Sto), F2 (GA k) kinds ds → acc.length + (ds.flatMap (Wd k)).length ≤ 1000 →
    ∃ z', forP (gNm 4) (sExt 3 (eIf (tVal (eOp1 (opKind .tuple) (eVar 4))) (eCall (f_words_of fuel) (aCons (eVar 4) aNil)) (eFrz (lLst (aCons (eOp1 opStrOf (eBor 4)) aNil))))) ds [a0, a1, a2, .own (acc.map .str), z] s
      = .nx [a0, a1, a2, .own ((acc ++ ds.flatMap (Wd k)).map .str), z'] s
  | [], _, acc, z, s, _, _ => ⟨z, by simp [forP]⟩
  | d :: ds, _, acc, z, s, .cons (a := kind) g gs, hl => by
    rw [List.flatMap_cons, List.length_append] at hl
    obtain ⟨z', h⟩ := words_loop fuel k ih a0 a1 a2 ds _ (acc ++ Wd k d) (.val d) s gs (by rw [List.length_append]; omega)
    refine ⟨z', ?_⟩
    rw [List.append_assoc] at h
    rw [List.flatMap_cons, ← h]
    have hcap : acc.length + (Wd k d).length < cap := by unfold cap; omega
    rcases g.kinds with ⟨n, rfl, a, b⟩ | ⟨j, w, kinds, es, rfl, rfl, hs, _, _⟩
    · rw [Wd_int] at hcap ⊢
      have hc1 : acc.length + 1 < cap := hcap
      simp [forP, opKind, kindOf, Ki.isA, opStr_num a b, view, hc1]
    · have e := ih j rfl w kinds es s hs (by simp only [Wd, List.length_cons] at hl; omega)
      simp only [Wd, List.length_cons] at hcap
      have hc2 : acc.length + ((es.flatMap (Wd j)).length + 1) < cap := hcap
      simp [-List.length_flatMap, forP, opKind, kindOf, Ki.isA, e, view, Wd, hc2]
theorem words_told : ∀ (k fuel : Nat), k < fuel → Told f_words_of k fuel
  | _, 0, h => absurd h (by omega)
  | k, fuel + 1, h => fun w kinds ds s hs hl => by
    obtain ⟨z, e⟩ := words_loop fuel k (fun j hj => words_told j fuel (by omega)) (.val (.tup (.str w :: ds))) (.val (.str w)) (.val (.lst ds)) ds kinds [w] .emp s hs (by simpa [-List.length_flatMap] using hl)
    have e0 : ([w] ++ ds.flatMap (Wd k)) = w :: ds.flatMap (Wd k) := rfl
    rw [e0] at e
    have hd : ds.length + 1 ≤ 16000 := by
      have : ds.length ≤ (ds.flatMap (Wd k)).length := by
        clear e hl h e0
        induction hs with
        | nil => simp
        | @cons a b as bs x y ih =>
          rw [List.flatMap_cons, List.length_append, List.length_cons]
          have : 1 ≤ (Wd k b).length := by
            rcases x.kinds with ⟨n, rfl, _, _⟩ | ⟨j, w, kinds, es, rfl, rfl, _, _, _⟩
            · rw [Wd_int]; simp
            · simp [Wd]
          omega
      omega
    have f := s_sFor (iSeq (eVar 2)) (gNm 4) (sExt 3 (eIf (tVal (eOp1 (opKind .tuple) (eVar 4))) (eCall (f_words_of fuel) (aCons (eVar 4) aNil)) (eFrz (lLst (aCons (eOp1 opStrOf (eBor 4)) aNil)))))
      [.val (.tup (.str w :: ds)), .val (.str w), .val (.lst ds), .own ([w].map .str), .emp] s s ds (by simp [srcOf])
    rw [e] at f
    simp only [List.map_cons, List.map_nil] at f
    simp [-List.length_flatMap, f_words_of, star1 1 2 (.str w) ds _ hd, f]
end K24

/-! The plain law of k24, part 7: lines written and cut. Own text. -/
namespace K24
open MP
theorem strsOf_map : ∀ ws : List (List Nat), strsOf (ws.map D.str) = some ws
  | [] => rfl
  | w :: ws => by simp [strsOf, strsOf_map ws]
theorem joinC_len (sep : List Nat) : ∀ ws : List (List Nat), (joinC sep ws).length ≤ (ws.map List.length).sum + ws.length * sep.length
  | [] => by simp [joinC]
  | [w] => by simp [joinC]
  | w :: x :: r => by
    have ih := joinC_len sep (x :: r)
    simp only [joinC, List.length_append, List.map_cons, List.sum_cons, List.length_cons, Nat.add_mul] at ih ⊢
    omega
theorem cut_no {c : Nat} : ∀ {w : List Nat}, c ∉ w → cutC c w = [w]
  | [], _ => rfl
  | x :: w, h => by
    have h1 : ¬ x = c := fun z => h (by simp [z])
    have h2 : c ∉ w := fun z => h (List.mem_cons_of_mem _ z)
    simp [cutC, h1, cut_no h2]
theorem cut_app {c : Nat} {r : List Nat} : ∀ {w : List Nat}, c ∉ w → cutC c (w ++ c :: r) = w :: cutC c r
  | [], _ => by simp [cutC]
  | x :: w, h => by
    have h1 : ¬ x = c := fun z => h (by simp [z])
    have h2 : c ∉ w := fun z => h (List.mem_cons_of_mem _ z)
    simp [cutC, h1, cut_app h2]
/-- joined, then cut -/
theorem cut_join {c : Nat} : ∀ {ws : List (List Nat)}, ws ≠ [] → (∀ w ∈ ws, c ∉ w) → cutC c (joinC [c] ws) = ws
  | [], h, _ => absurd rfl h
  | [w], _, h => cut_no (h w (by simp))
  | w :: x :: r, _, h => by
    have ih := cut_join (c := c) (ws := x :: r) (by simp) fun y hy => h y (List.mem_cons_of_mem _ hy)
    show cutC c (w ++ [c] ++ joinC [c] (x :: r)) = _
    rw [List.append_assoc, List.singleton_append, cut_app (h w (by simp)), ih]
theorem join_mem {sep : List Nat} {y : Nat} : ∀ {ws : List (List Nat)}, y ∈ joinC sep ws → y ∈ sep ∨ ∃ w ∈ ws, y ∈ w
  | [], h => by simp [joinC] at h
  | [w], h => .inr ⟨w, by simp, h⟩
  | w :: x :: r, h => by
    simp only [joinC, List.mem_append] at h
    rcases h with (h | h) | h
    · exact .inr ⟨w, by simp, h⟩
    · exact .inl h
    · rcases join_mem (ws := x :: r) h with h | ⟨z, hz, h⟩
      · exact .inl h
      · exact .inr ⟨z, List.mem_cons_of_mem _ hz, h⟩
/-- the words of a row; its line -/
def Wr (d : D) : List (List Nat) := Wd 4 d
def line (d : D) : List Nat := joinC [32] (Wr d)
theorem row_words {d : D} (h : GR d) : Wr d ≠ [] ∧ (Wr d).length ≤ 46 ∧ ∀ w ∈ Wr d, WordOk w := by
  obtain ⟨w, kinds, ds, rfl, h1, h2, h3⟩ := h
  obtain ⟨w1, w2⟩ := rows_in h1
  have hl := Wds_len (Wd_len 3) h3
  have : kinds.length * bnd 3 ≤ 3 * bnd 3 := Nat.mul_le_mul_right _ w2
  have e : bnd 3 = 15 := rfl
  refine ⟨by simp [Wr, Wd], ?_, ?_⟩
  · simp only [Wr, Wd, List.length_cons]; omega
  · intro x hx
    simp only [Wr, Wd, List.mem_cons] at hx
    rcases hx with rfl | hx
    · exact w1
    · exact Wds_ok (Wd_ok 3) h3 x hx
theorem sum_le {ws : List (List Nat)} {b : Nat} (h : ∀ w ∈ ws, w.length ≤ b) : (ws.map List.length).sum ≤ ws.length * b := by
  induction ws with
  | nil => simp
  | cons w ws ih =>
    have h1 := h w (by simp)
    have h2 := ih fun x hx => h x (List.mem_cons_of_mem _ hx)
    simp only [List.map_cons, List.sum_cons, List.length_cons, Nat.add_mul]
    omega
theorem row_sum {d : D} (h : GR d) : ((Wr d).map List.length).sum ≤ 276 ∧ (line d).length ≤ 322 := by
  obtain ⟨a, b, c⟩ := row_words h
  have h1 := sum_le (b := 6) fun w hw => (c w hw).2.1
  have h2 := joinC_len [32] (Wr d)
  have e : ([32] : List Nat).length = 1 := rfl
  rw [e, Nat.mul_one] at h2
  refine ⟨by omega, ?_⟩
  unfold line
  omega
theorem row_chars {d : D} (h : GR d) : ∀ c ∈ line d, (48 ≤ c ∧ c ≤ 127) ∨ c = 32 := by
  intro c hc
  rcases join_mem hc with h1 | ⟨w, hw, h1⟩
  · exact .inr (by simpa using h1)
  · exact .inl (((row_words h).2.2 w hw).2.2 c h1)
theorem line_cut {d : D} (h : GR d) : cutC 32 (line d) = Wr d := cut_join (row_words h).1 fun w hw z => by
  have := ((row_words h).2.2 w hw).2.2 _ z
  omega
theorem text_cut {rows : List D} (hr : rows ≠ []) (h : ∀ d ∈ rows, GR d) : cutC 10 (joinC [10] (rows.map line)) = rows.map line := cut_join (by simpa using hr) fun w hw z => by
  obtain ⟨d, hd, rfl⟩ := List.mem_map.mp hw
  have := row_chars (h d hd) _ z
  omega
theorem told_row {f : Nat → Fn} (ht : Told f 3 6) {d : D} (h : GR d) (s : Sto) : f 6 [d] s = .ok (.lst ((Wr d).map .str)) s := by
  have hw := row_words h
  obtain ⟨w, kinds, ds, rfl, h1, h2, h3⟩ := h
  have hl := hw.2.1
  simp only [Wr, Wd, List.length_cons] at hl
  exact ht w kinds ds s h3 (by omega)
theorem line_loop {f : Nat → Fn} (ht : Told f 3 6) (i : Nat) (env : Env) (hi : i < env.length) : ∀ (rows : List D) (s : Sto), (∀ d ∈ rows, GR d) → lcP (gNm i) tYesM (eJoin (eC (.str [32])) (eCall (f 6) (aCons (eVar i) aNil))) env rows s = .ok (rows.map fun d => .str (line d)) s
  | [], s, _ => rfl
  | d :: rows, s, h => by
    have hd := h d (by simp)
    have ih := line_loop ht i env hi rows s fun x hx => h x (List.mem_cons_of_mem _ hx)
    have e := told_row ht hd s
    have h1 := (row_words hd).2.1
    have h2 := (row_sum hd).1
    have h3 : (Wr d).length ≤ 10000 := by omega
    have h4 : ((Wr d).map List.length).sum ≤ cap := by unfold cap; omega
    simp [lcP, hi, e, ih, joinAt, seqOf, strsOf_map, h3, h4, line]
theorem join_rows {rows : List D} (hl : rows.length ≤ 12) (h : ∀ d ∈ rows, GR d) (s : Sto) : joinAt [10] (.lst (rows.map fun d => .str (line d))) s = .ok (.str (joinC [10] (rows.map line))) s := by
  have e : (rows.map fun d => D.str (line d)) = (rows.map line).map D.str := by rw [List.map_map]; rfl
  have h1 : (rows.map line).length ≤ 10000 := by rw [List.length_map]; omega
  have h2 : ((rows.map line).map List.length).sum ≤ cap := by
    have := sum_le (ws := rows.map line) (b := 322) fun w hw => by
      obtain ⟨d, hd, rfl⟩ := List.mem_map.mp hw
      exact (row_sum (h d hd)).2
    rw [List.length_map] at this
    unfold cap
    omega
  rw [e]
  simp only [joinAt, seqOf, strsOf_map]
  rw [if_pos ⟨by decide, h1, h2⟩]
theorem written_ok {rows : List D} (hl : rows.length ≤ 12) (h : ∀ d ∈ rows, GR d) (s : Sto) : f_written [.tup rows] s = .ok (.str (joinC [10] (rows.map line))) s := by
  have f := s_lLc (iSeq (eVar 0)) (gNm 1) tYesM (eJoin (eC (.str [32])) (eCall (f_words_of 6) (aCons (eVar 1) aNil))) [1] [.val (.tup rows), .emp] s s rows (by simp [srcOf]) (by unfold cap; omega)
  have g := line_loop (words_told 3 6 (by omega)) 1 (wipeE [.val (.tup rows), .emp] [1]) (by simp [wipeE]) rows s h
  rw [g] at f
  simp [f_written, f, join_rows hl h]
end K24

/-! The plain law of k24, part 8: lines read. Own text. -/
namespace K24
open MP
theorem fit_str {n : Nat} {cs : List Nat} (h : ∀ c ∈ cs, c ≤ 127) : D.fit n (.str cs) = true := by
  have : (cs.all fun c => decide (c < 1114112)) = true := List.all_eq_true.mpr fun c hc => by
    have := h c hc
    simp; omega
  cases n <;> simpa [D.fit] using this
theorem eq_str {a b : List Nat} (h1 : ∀ c ∈ a, c ≤ 127) (h2 : ∀ c ∈ b, c ≤ 127) : eqD (.str a) (.str b) = some (decide (a = b)) := by
  simp [eqD, fit_str h1, fit_str h2, D.eqv]
theorem fig_le {cs : List Nat} (h : cs.all isFig = true) : ∀ c ∈ cs, c ≤ 127 := fun c hc => by
  have := List.all_eq_true.mp h c hc
  simp [isFig] at this
  omega
theorem fig_in {c : Nat} (h : isFig c = true) : c ∈ [48, 49, 50, 51, 52, 53, 54, 55, 56, 57] := by
  simp [isFig] at h
  have : c = 48 ∨ c = 49 ∨ c = 50 ∨ c = 51 ∨ c = 52 ∨ c = 53 ∨ c = 54 ∨ c = 55 ∨ c = 56 ∨ c = 57 := by omega
  simpa using this
theorem sign_loop (env : Env) (hi : 1 < env.length) : ∀ (cs : List Nat) (s : Sto), cs.all isFig = true → lcP (gNm 1) (tVal (eOp2 opNotIn (eBor 1) (eC d_FIGURES))) (eVar 1) env (cs.map fun c => .str [c]) s = .ok [] s
  | [], s, _ => rfl
  | c :: cs, s, h => by
    rw [List.all_cons, Bool.and_eq_true] at h; have ih := sign_loop env hi cs s h.2
    have hc := fig_in h.1
    simp only [List.map_cons, lcP]
    simp only [d_FIGURES] at ih ⊢
    simp [hi, ih, opNotIn, inD, hc]
theorem number_ok {cs : List Nat} {n : Int} (h : Num cs n) (s : Sto) : f_number_of [.str cs] s = .ok (.int n) s := by
  have e1 : eqD (.str cs) (.str []) = some false := by
    rw [eq_str (fig_le h.fig) (by simp)]
    simp [h.ne]
  have l := s_lLc (iStrI (eVar 0)) (gNm 1) (tVal (eOp2 opNotIn (eBor 1) (eC d_FIGURES))) (eVar 1) [1] [.val (.str cs), .emp] s s (cs.map fun c => .str [c]) (by simp) (by rw [List.length_map]; have := h.len; unfold cap; omega)
  have g := sign_loop (wipeE [.val (.str cs), .emp] [1]) (by simp [wipeE]) cs s h.fig
  rw [g] at l
  have hlen : cs.length ≤ cap := by have := h.len; unfold cap; omega
  have hl5 : ¬ (5 : Int) < cs.length := by have := h.len; omega
  have hl9 : cs.length ≤ 9 := by have := h.len; omega
  have hv := h.val
  have hne := h.ne
  have hf := h.fig
  have hx : eqD (.lst []) (.lst []) = some true := rfl
  cases cs with
  | nil => exact absurd rfl hne
  | cons c r =>
    have hc0 : c ≤ 127 := fig_le hf c (by simp)
    have q1 : eqD (.str (c :: r)) (.str [48]) = some (decide (c :: r = [48])) := eq_str (fig_le hf) (by simp)
    have q2 : eqD (.str [c]) (.str [48]) = some (decide ([c] = [48])) := eq_str (by simpa using hc0) (by simp)
    have hd : c :: r = [48] ∨ c ≠ 48 := by
      rcases h.hd c r rfl with z | z
      · exact .inr z
      · by_cases y : c = 48
        · subst y; subst z; exact .inl rfl
        · exact .inr y
    have hi : opIntOf s (.str (c :: r)) = some (.int n) := by
      unfold opIntOf
      simp only
      rw [if_pos ⟨hne, hl9, hf⟩, hv]
    have hlen1 : (c :: r).length ≤ cap := hlen
    rcases hd with hd | hd
    · cases hd
      simp [f_number_of, opEq, opNe, opGt, opCmp, opLen, view, e1, l, hx, q1, hi, show 1 ≤ cap by decide]
    · have hd' : ¬ (c :: r = [48]) := fun z => hd (List.cons.inj z).1
      have hc1 : ¬ ((c = 48) ∧ r = []) := fun z => hd z.1
      have l5 : ¬ (5 : Int) < (r.length : Int) + 1 := by simpa using hl5
      have lc : r.length + 1 ≤ cap := by simpa using hlen
      simp [f_number_of, opEq, opNe, opGt, opCmp, opLen, view, e1, l5, lc, l, hx, q1, q2, hd, hi, opIx, place]
end K24

/-! The plain law of k24: numbers of words. Own text. -/
namespace K24
open MP
theorem figs_snoc (cs : List Nat) (c : Nat) : figs (cs ++ [c]) = figs cs * 10 + (c - 48) := by simp [figs, List.foldl_append]
theorem figs_cons_pos : ∀ (r : List Nat) (c n : Nat), isFig c = true → (n ≠ 0 ∨ c ≠ 48) → 0 < r.foldl (fun n c => n * 10 + (c - 48)) (n * 10 + (c - 48))
  | [], c, n, hf, h => by
    simp [isFig] at hf
    simp only [List.foldl_nil]
    rcases h with h | h <;> omega
  | d :: r, c, n, hf, h => by
    have h1 : n * 10 + (c - 48) ≠ 0 := by
      simp [isFig] at hf
      rcases h with h | h <;> omega
    simp only [List.foldl_cons]
    by_cases hd : isFig d = true
    · exact figs_cons_pos r d _ hd (.inl h1)
    · exact go r _ (by omega)
where
  go : ∀ (r : List Nat) (n : Nat), n ≠ 0 → 0 < r.foldl (fun n c => n * 10 + (c - 48)) n
  | [], n, h => by simp only [List.foldl_nil]; omega
  | d :: r, n, h => by simp only [List.foldl_cons]; exact go r _ (by omega)
theorem figs_pos {cs : List Nat} (h : cs.all isFig = true) (hn : cs ≠ []) (hd : cs.head? ≠ some 48) : 0 < figs cs := by
  cases cs with
  | nil => exact absurd rfl hn
  | cons c r =>
    rw [List.all_cons, Bool.and_eq_true] at h; unfold figs
    simp only [List.foldl_cons]
    exact figs_cons_pos r c 0 h.1 (.inr fun e => hd (by simp [e]))
/-- no figure 0 ahead -/
def Lean0 (cs : List Nat) : Prop := cs = [] ∨ cs.head? ≠ some 48
theorem figs_inj : ∀ (n : Nat) (a b : List Nat), a.length ≤ n → b.length ≤ n → a.all isFig = true → b.all isFig = true → Lean0 a → Lean0 b → figs a = figs b → a = b := by
  intro n
  induction n with
  | zero =>
    intro a b la lb _ _ _ _ _
    have e1 : a = [] := List.length_eq_zero_iff.mp (by omega)
    have e2 : b = [] := List.length_eq_zero_iff.mp (by omega)
    rw [e1, e2]
  | succ n ih =>
    intro a b la lb fa fb ha hb e
    have key : ∀ (x : List Nat), x.all isFig = true → Lean0 x → (x = [] ∧ figs x = 0) ∨ 0 < figs x := fun x fx hx => by
      rcases hx with rfl | hx
      · exact .inl ⟨rfl, rfl⟩
      · by_cases z : x = []
        · subst z; exact .inl ⟨rfl, rfl⟩
        · exact .inr (figs_pos fx z hx)
    rcases List.eq_nil_or_concat a with za | ⟨x, c, za⟩
    · subst za
      rcases key b fb hb with ⟨z, _⟩ | z
      · exact z.symm
      · have : figs ([] : List Nat) = 0 := rfl
        omega
    · rcases List.eq_nil_or_concat b with zb | ⟨y, d, zb⟩
      · subst zb
        rcases key a fa ha with ⟨z, _⟩ | z
        · exact z
        · have : figs ([] : List Nat) = 0 := rfl
          omega
      · rw [List.concat_eq_append] at za zb
        subst za zb
        rw [figs_snoc, figs_snoc] at e
        simp only [List.all_append, List.all_cons, List.all_nil, Bool.and_true, Bool.and_eq_true] at fa fb
        have f1 := fa.2
        have f2 := fb.2
        simp [isFig] at f1 f2
        have ec : c = d := by omega
        have ef : figs x = figs y := by omega
        have sub : ∀ (z : List Nat) (c : Nat), Lean0 (z ++ [c]) → Lean0 z := fun z c h => by
          cases z with
          | nil => exact .inl rfl
          | cons p q =>
            rcases h with h | h
            · simp at h
            · exact Or.inr (by simpa using h)
        rw [ih x y (by simp at la; omega) (by simp at lb; omega) fa.1 fb.1 (sub x c ha) (sub y d hb) ef, ec]
/-- a word that writes a number -/
def numOk (cs : List Nat) : Bool := !cs.isEmpty && decide (cs.length ≤ 5) && cs.all isFig && (decide (cs = [48]) || decide (cs.head? ≠ some 48))
def numS (cs : List Nat) : Int := if numOk cs then (figs cs : Int) else -1
theorem num_numOk {cs : List Nat} {n : Int} (h : Num cs n) : numOk cs = true ∧ (figs cs : Int) = n := by
  refine ⟨?_, h.val⟩
  unfold numOk
  have h1 := h.len
  have h2 := h.fig
  have h3 := h.ne
  cases cs with
  | nil => exact absurd rfl h3
  | cons c r =>
    rcases h.hd c r rfl with z | z
    · simp [h2, z]; simpa using h1
    · subst z
      by_cases q : c = 48
      · subst q; simp [h2]
      · simp [h2, q]
theorem numOk_signs {cs : List Nat} (h : numOk cs = true) (hb : figs cs < 10007) : signs (figs cs : Nat) = cs := by
  have hn := num_ok (n := (figs cs : Nat)) (by omega) (by omega)
  have h1 := num_numOk hn
  have hf : figs (signs (figs cs : Nat)) = figs cs := by have := h1.2; omega
  unfold numOk at h h1
  simp only [Bool.and_eq_true, Bool.or_eq_true, decide_eq_true_eq, Bool.not_eq_true'] at h h1
  have lean : ∀ x : List Nat, ((x.isEmpty = false ∧ x.length ≤ 5) ∧ x.all isFig = true) ∧ (x = [48] ∨ ¬ x.head? = some 48) → (x = [48] ∧ figs x = 0) ∨ (Lean0 x ∧ 0 < figs x) := fun x hx => by
    rcases hx.2 with e | e
    · subst e; exact .inl ⟨rfl, rfl⟩
    · exact .inr ⟨.inr e, figs_pos hx.1.2 (fun z => by rw [z] at hx; simp at hx) e⟩
  rcases lean _ h with ⟨a, a2⟩ | ⟨a, a2⟩ <;> rcases lean _ h1.1 with ⟨b, b2⟩ | ⟨b, b2⟩
  · rw [b, a]
  · omega
  · omega
  · exact figs_inj 5 _ _ h1.1.1.1.2 h.1.1.2 h1.1.1.2 h.1.2 b a hf
/-- the same number by writing it again -/
theorem signs_numOk {cs : List Nat} (h0 : cs ≠ []) (h1 : cs.length ≤ 5) (h2 : cs.all isFig = true) (hb : figs cs < 10007) : signs (figs cs : Nat) = cs ↔ numOk cs = true := by
  refine ⟨fun e => ?_, fun h => numOk_signs h hb⟩
  have hn := num_ok (n := (figs cs : Nat)) (by omega) (by omega)
  rw [e] at hn
  exact (num_numOk hn).1
theorem numS_of {cs : List Nat} {l : Int} (hl : l ≤ 10007) : (0 ≤ numS cs ∧ numS cs < l) ↔ (numOk cs = true ∧ (figs cs : Int) < l) := by
  unfold numS
  by_cases h : numOk cs = true
  · rw [if_pos h]; exact ⟨fun z => ⟨h, z.2⟩, fun z => ⟨by omega, z.2⟩⟩
  · rw [if_neg h]; exact ⟨fun z => by omega, fun z => absurd z.1 h⟩
end K24

/-! The plain law of k24: what both readers tell, in plain lists. Own text. -/
namespace K24
open MP
def PKt : List (List Nat × List (List Nat)) := [([110, 117, 109], [kNumber]), ([110, 97, 109, 101], [kName]), ([102, 105, 101, 108, 100], [kThing, kField]), ([115, 105, 100, 101], [kThing, kMark]), ([115, 117, 109], [kPart, kPart]), ([108, 101, 115, 115], [kPart, kPart])]
def RKt : List (List Nat × List (List Nat)) := [([115, 101, 116], [kName, kPart]), ([112, 117, 116], [kThing, kField, kPart]), ([115, 105, 100, 101], [kThing, kMark, kPart]), ([99, 97, 108, 108], [kName, kDeed, kPart]), ([103, 111], [kRow]), ([117, 110, 108, 101, 115, 115], [kName, kRow]), ([119, 97, 105, 116], [kThing, kField]), ([97, 110, 115, 119, 101, 114], [kPart])]
abbrev PK (w : List Nat) : Option (List (List Nat)) := PKt.lookup w
abbrev RK (w : List Nat) : Option (List (List Nat)) := RKt.lookup w
theorem lookup_map {α β : Type} (f : α → β) (w : List Nat) : ∀ t : List (List Nat × α), (t.map fun p => (p.1, f p.2)).lookup w = (t.lookup w).map f
  | [] => rfl
  | (a, b) :: t => by
    simp only [List.map_cons, List.lookup_cons]
    split
    · rfl
    · exact lookup_map f w t
theorem parts_look (w : List Nat) : t_PARTS.lookup w = (PK w).map fun ks => .tup (ks.map .str) := lookup_map (fun ks : List (List Nat) => D.tup (ks.map .str)) w PKt
def kinds8 : List (List Nat) := [kName, kThing, kField, kMark, kNumber, kDeed, kRow, kPart]
def okKs (ks : List (List Nat)) : Bool := ks.all fun k => decide (k ∈ kinds8)
theorem look_ok {t : List (List Nat × List (List Nat))} (h : (t.all fun p => okKs p.2) = true) {w : List Nat} {ks : List (List Nat)} (e : t.lookup w = some ks) : ∀ k ∈ ks, k ∈ kinds8 := by
  induction t with
  | nil => cases e
  | cons p t ih =>
    rw [List.all_cons, Bool.and_eq_true] at h; obtain ⟨a, b⟩ := p
    rw [List.lookup_cons] at e
    split at e
    · cases e
      intro k hk
      simpa using List.all_eq_true.mp h.1 k hk
    · exact ih h.2 e
theorem PK_ok {w : List Nat} {ks : List (List Nat)} (e : PK w = some ks) : ∀ k ∈ ks, k ∈ kinds8 := look_ok (by decide) e
theorem RK_ok {w : List Nat} {ks : List (List Nat)} (e : RK w = some ks) : ∀ k ∈ ks, k ∈ kinds8 := look_ok (by decide) e
/-! ### the program's reader -/
abbrev Tk := List (List Nat) → List (List Nat) → Option (List D × List (List Nat))
def takL (rec : Tk) : Tk
  | [], ws => some ([], ws)
  | _ :: _, [] => none
  | k :: ks, w :: ws => if k = kPart then (match PK w with
      | none => none
      | some kk => (match rec kk ws with
        | none => none
        | some (es, r) => (takL rec ks r).map fun p => (.tup (.str w :: es) :: p.1, p.2)))
    else (takL rec ks ws).map fun p => (.int (numS w) :: p.1, p.2)
def takS : Nat → Tk
  | 0 => fun _ _ => none
  | n + 1 => takL (takS n)
/-! ### the look at what is read -/
def ngL (rec : List (List Nat) → List D → Bool) : List (List Nat) → List D → Bool
  | [], [] => true
  | k :: ks, d :: ds => (if k = kPart then (match d with
      | .tup (.str w :: es) => (match PK w with | some kk => rec kk es | none => false)
      | _ => false)
    else (match d, limOf k with
      | .int n, some l => decide (0 ≤ n) && decide (n < l)
      | _, _ => false)) && ngL rec ks ds
  | _, _ => false
/-- good within so many -/
def gd : Nat → List (List Nat) → List D → Bool
  | 0 => ngL fun _ _ => false
  | k + 1 => ngL (gd k)
/-! ### the own reader -/
def kc (k : List Nat) : Nat := if k = kName then 110 else if k = kThing then 116 else if k = kField then 102 else if k = kMark then 109 else if k = kNumber then 119 else if k = kDeed then 100 else if k = kRow then 114 else 112
def bndC (c : Nat) : Option Int := if c = 110 then some 4 else if c = 116 then some 4 else if c = 102 then some 3 else if c = 109 then some 10 else if c = 100 then some 8 else if c = 114 then some 13 else if c = 119 then some 10007 else none
abbrev Ow := List Nat → List (List Nat) → Option (List D × Nat)
def ownL (rec : Ow) : Ow
  | [], _ => some ([], 0)
  | _ :: _, [] => none
  | c :: cs, w :: ws => if c = 112 then (match PK w with
      | none => none
      | some kk => (match rec (kk.map kc) ws with
        | none => none
        | some (es, m) => (ownL rec cs (ws.drop m)).map fun p => (.tup (.str w :: es) :: p.1, 1 + m + p.2)))
    else (match bndC c with
      | some l => if numOk w = true ∧ (figs w : Int) < l then (ownL rec cs ws).map fun p => (.int (figs w : Nat) :: p.1, 1 + p.2) else none
      | none => none)
def ownS : Nat → Ow
  | 0 => fun _ _ => none
  | n + 1 => ownL (ownS n)
/-! ### both alike -/
theorem kind_cases {k : List Nat} (h : k ∈ kinds8) : (k = kPart ∧ kc k = 112) ∨ (k ≠ kPart ∧ kc k ≠ 112 ∧ ∃ l, limOf k = some l ∧ bndC (kc k) = some l ∧ l ≤ 10007) := by
  simp only [kinds8, List.mem_cons, List.not_mem_nil, or_false] at h
  rcases h with rfl | rfl | rfl | rfl | rfl | rfl | rfl | rfl
  · exact .inr ⟨by decide, by decide, 4, by decide, by decide, by decide⟩
  · exact .inr ⟨by decide, by decide, 4, by decide, by decide, by decide⟩
  · exact .inr ⟨by decide, by decide, 3, by decide, by decide, by decide⟩
  · exact .inr ⟨by decide, by decide, 10, by decide, by decide, by decide⟩
  · exact .inr ⟨by decide, by decide, 10007, by decide, by decide, by decide⟩
  · exact .inr ⟨by decide, by decide, 8, by decide, by decide, by decide⟩
  · exact .inr ⟨by decide, by decide, 13, by decide, by decide, by decide⟩
  · exact .inl ⟨by decide, by decide⟩
/-- numbers good, however deep -/
def ng : Nat → List (List Nat) → List D → Bool
  | 0 => fun _ _ => false
  | k + 1 => ngL (ng k)
theorem take_suffix {rec : Tk} (hr : ∀ ks ws ds r, rec ks ws = some (ds, r) → ∃ m, r = ws.drop m ∧ m ≤ ws.length) : ∀ (ks ws : List (List Nat)) (ds : List D) (r : List (List Nat)), takL rec ks ws = some (ds, r) → ∃ m, r = ws.drop m ∧ m ≤ ws.length
  | [], ws, ds, r, h => by simp only [takL, Option.some.injEq, Prod.mk.injEq] at h; exact ⟨0, by simp [h.2], by omega⟩
  | k :: ks, [], ds, r, h => by cases h
  | k :: ks, w :: ws, ds, r, h => by
    simp only [takL] at h
    split at h
    · split at h
      · cases h
      · split at h
        · cases h
        · rename_i es r1 e
          obtain ⟨p, e2, e3⟩ := Option.map_eq_some_iff.mp h
          obtain ⟨m1, a1, b1⟩ := hr _ _ _ _ e
          obtain ⟨m2, a2, b2⟩ := take_suffix hr ks r1 p.1 p.2 e2
          cases e3
          refine ⟨1 + m1 + m2, ?_, ?_⟩
          · rw [a2, a1, List.drop_drop, show 1 + m1 + m2 = (m1 + m2) + 1 from by omega, List.drop_succ_cons]
          · rw [a1, List.length_drop] at b2
            simp only [List.length_cons]
            omega
    · obtain ⟨p, e2, e3⟩ := Option.map_eq_some_iff.mp h
      obtain ⟨m2, a2, b2⟩ := take_suffix hr ks ws p.1 p.2 e2
      cases e3
      exact ⟨m2 + 1, by rw [a2, List.drop_succ_cons], by simp only [List.length_cons]; omega⟩
theorem takS_suffix : ∀ (n : Nat) (ks ws : List (List Nat)) (ds : List D) (r : List (List Nat)), takS n ks ws = some (ds, r) → ∃ m, r = ws.drop m ∧ m ≤ ws.length
  | 0, _, _, _, _, z => by cases z
  | n + 1, ks, ws, ds, r, h => take_suffix (takS_suffix n) ks ws ds r h
/-- the own reader by the program's -/
def viaT (t : Option (List D × List (List Nat))) (g : List D → Bool) (n : Nat) : Option (List D × Nat) := match t with
  | none => none
  | some (ds, r) => if g ds = true then some (ds, n - r.length) else none
theorem own_take {rec : Tk} {rg : List (List Nat) → List D → Bool} {ro : Ow} (hr : ∀ ks ws ds r, rec ks ws = some (ds, r) → ∃ m, r = ws.drop m ∧ m ≤ ws.length) (h : ∀ ks ws, (∀ k ∈ ks, k ∈ kinds8) → ro (ks.map kc) ws = viaT (rec ks ws) (rg ks) ws.length) :
    ∀ (ks ws : List (List Nat)), (∀ k ∈ ks, k ∈ kinds8) → ownL ro (ks.map kc) ws = viaT (takL rec ks ws) (ngL rg ks) ws.length
  | [], ws, _ => by simp [ownL, takL, viaT, ngL]
  | k :: ks, [], _ => by simp [ownL, takL, viaT]
  | k :: ks, w :: ws, hk => by
    have hks : ∀ k ∈ ks, k ∈ kinds8 := fun x hx => hk x (List.mem_cons_of_mem _ hx)
    simp only [List.map_cons, ownL, takL]
    rcases kind_cases (hk k List.mem_cons_self) with ⟨e1, e2⟩ | ⟨e1, e2, l, hl, hb, hle⟩
    · rw [if_pos e1, if_pos e2]
      cases hp : PK w with
      | none => rfl
      | some kk =>
        simp only
        rw [h kk ws (PK_ok hp)]
        cases ht : rec kk ws with
        | none => rfl
        | some p =>
          obtain ⟨es, r⟩ := p
          obtain ⟨m, er, hm⟩ := hr _ _ _ _ ht
          have hm2 : ws.length - r.length = m := by rw [er, List.length_drop]; omega
          simp only [viaT, hm2]
          by_cases hg : rg kk es = true
          · rw [if_pos hg]
            simp only
            rw [← er, own_take hr h ks r hks]
            cases ht2 : takL rec ks r with
            | none => rfl
            | some p2 =>
              obtain ⟨ds, r2⟩ := p2
              obtain ⟨m2, er2, hm2'⟩ := take_suffix hr ks r ds r2 ht2
              have hrl : r.length = ws.length - m := by rw [er, List.length_drop]
              have hr2 : r2.length = r.length - m2 := by rw [er2, List.length_drop]
              simp only [viaT, Option.map_some, ngL, e1, if_true, hp, hg, Bool.true_and]
              by_cases hg2 : ngL rg ks ds = true
              · simp only [hg2, if_true, Option.map_some, Option.some.injEq, Prod.mk.injEq, true_and, List.length_cons]
                omega
              · simp [hg2]
          · rw [if_neg hg]
            cases ht2 : takL rec ks r with
            | none => rfl
            | some p2 => simp [ngL, e1, hp, hg]
    · rw [if_neg e1, if_neg e2]
      simp only [hb]
      have hn := numS_of (cs := w) hle
      by_cases hc : numOk w = true ∧ (figs w : Int) < l
      · rw [if_pos hc, own_take hr h ks ws hks]
        have hs : numS w = (figs w : Nat) := if_pos hc.1
        have hc2 := hn.mpr hc
        cases ht : takL rec ks ws with
        | none => rfl
        | some p =>
          obtain ⟨ds, r⟩ := p
          obtain ⟨m, er, hm⟩ := take_suffix hr ks ws ds r ht
          have hrl : r.length = ws.length - m := by rw [er, List.length_drop]
          simp only [viaT, Option.map_some, ngL, e1, if_false, hl, hc2.1, hc2.2, decide_true, Bool.true_and, Bool.and_self]
          by_cases hg : ngL rg ks ds = true
          · simp only [hg, if_true, Option.map_some, Option.some.injEq, Prod.mk.injEq, List.length_cons, hs, true_and]
            omega
          · simp [hg]
      · rw [if_neg hc]
        cases ht : takL rec ks ws with
        | none => rfl
        | some p =>
          have : ¬ (0 ≤ numS w ∧ numS w < l) := fun z => hc (hn.mp z)
          simp only [viaT, Option.map_some, ngL, e1, if_false, hl]
          by_cases z : 0 ≤ numS w
          · have : ¬ numS w < l := fun y => this ⟨z, y⟩
            simp [this]
          · simp [z]
theorem ownS_via : ∀ (n : Nat) (ks ws : List (List Nat)), (∀ k ∈ ks, k ∈ kinds8) → ownS n (ks.map kc) ws = viaT (takS n ks ws) (ng n ks) ws.length
  | 0, _, _, _ => rfl
  | n + 1, ks, ws, hk => own_take (takS_suffix n) (ownS_via n) ks ws hk
end K24

/-! The plain law of k24: how deep, how written. Own text. -/
namespace K24
open MP
mutual
def dpt : D → Nat
  | .tup ds => 1 + dpts ds
  | _ => 0
def dpts : List D → Nat
  | [] => 0
  | d :: ds => max (dpt d) (dpts ds)
end
theorem ng_mono {r1 r2 : List (List Nat) → List D → Bool} (h : ∀ ks ds, r1 ks ds = true → r2 ks ds = true) : ∀ (ks : List (List Nat)) (ds : List D), ngL r1 ks ds = true → ngL r2 ks ds = true
  | [], [], _ => rfl
  | [], _ :: _, e => by cases e
  | _ :: _, [], e => by cases e
  | k :: ks, d :: ds, e => by
    simp only [ngL, Bool.and_eq_true] at e ⊢
    refine ⟨?_, ng_mono h ks ds e.2⟩
    have e1 := e.1
    split at e1
    · rename_i hk
      rw [if_pos hk]
      split at e1
      · split at e1
        · rename_i w es kk hp
          exact h _ _ e1
        · cases e1
      · cases e1
    · rename_i hk
      rw [if_neg hk]
      exact e1
theorem ng_up (n : Nat) : ∀ ks ds, ng n ks ds = true → ng (n + 1) ks ds = true := by
  induction n with
  | zero => intro _ _ h; cases h
  | succ n ih => exact fun ks ds h => ng_mono ih ks ds h
theorem ng_le {n m : Nat} (l : n ≤ m) {ks : List (List Nat)} {ds : List D} (h : ng n ks ds = true) : ng m ks ds = true := by
  induction l with
  | refl => exact h
  | step _ ih => exact ng_up _ _ _ ih
theorem gd_ng : ∀ (k : Nat) (ks : List (List Nat)) (ds : List D), gd k ks ds = true → ng (k + 1) ks ds = true
  | 0, ks, ds, h => ng_mono (fun _ _ h => by cases h) ks ds h
  | k + 1, ks, ds, h => ng_mono (fun ks ds h => gd_ng k ks ds h) ks ds h
theorem deep_aux {rg R : List (List Nat) → List D → Bool} {k : Nat} (h : ∀ ks ds, rg ks ds = true → R ks ds = decide (1 + dpts ds ≤ k)) : ∀ (ks : List (List Nat)) (ds : List D), ngL rg ks ds = true → ngL R ks ds = decide (dpts ds ≤ k)
  | [], [], _ => by simp [ngL, dpts]
  | [], _ :: _, e => by cases e
  | _ :: _, [], e => by cases e
  | c :: ks, d :: ds, e => by
    simp only [ngL, Bool.and_eq_true] at e ⊢
    rw [deep_aux h ks ds e.2]
    have e1 := e.1
    split at e1
    · rename_i hk
      rw [if_pos hk]
      split at e1
      · split at e1
        · rename_i w es kk hp
          rw [h _ _ e1]
          simp only [dpts, dpt]
          rw [Bool.eq_iff_iff]
          simp only [Bool.and_eq_true, decide_eq_true_eq, Nat.zero_max, Nat.max_le]
        · cases e1
      · cases e1
    · rename_i hk
      rw [if_neg hk]
      split at e1
      · rename_i n l hl
        rw [e1]
        simp only [dpts, dpt, Bool.true_and]
        congr 1
      · cases e1
theorem gd_deep : ∀ (n k : Nat) (ks : List (List Nat)) (ds : List D), ng n ks ds = true → gd k ks ds = decide (dpts ds ≤ k)
  | 0, _, _, _, h => by cases h
  | n + 1, 0, ks, ds, h => deep_aux (rg := ng n) (fun ks ds _ => by simp) ks ds h
  | n + 1, k + 1, ks, ds, h => deep_aux (rg := ng n) (fun ks ds g => by rw [gd_deep n k ks ds g]; simp; omega) ks ds h
/-! ### as written -/
theorem words_aux {rec : Tk} {R : List (List Nat) → List D → Bool} {k : Nat} (h : ∀ ks ws ds r, rec ks ws = some (ds, r) → R ks ds = true → ∃ j, k = j + 1 ∧ ws = ds.flatMap (Wd j) ++ r) : ∀ (ks ws : List (List Nat)) (ds : List D) (r : List (List Nat)), takL rec ks ws = some (ds, r) → ngL R ks ds = true → ws = ds.flatMap (Wd k) ++ r
  | [], ws, ds, r, e, g => by simp only [takL, Option.some.injEq, Prod.mk.injEq] at e; obtain ⟨rfl, rfl⟩ := e; simp
  | c :: ks, [], ds, r, e, g => by cases e
  | c :: ks, w :: ws, ds, r, e, g => by
    simp only [takL] at e
    split at e
    · rename_i hk
      split at e
      · cases e
      · rename_i kk hp
        split at e
        · cases e
        · rename_i es r1 e1
          obtain ⟨p, e2, e3⟩ := Option.map_eq_some_iff.mp e
          cases e3
          simp only [ngL, hk, if_true, hp, Bool.and_eq_true] at g
          obtain ⟨j, ej, ew⟩ := h _ _ _ _ e1 g.1
          have ih := words_aux h ks r1 p.1 p.2 e2 g.2
          subst ej
          rw [List.flatMap_cons, ew, ih]
          simp [Wd]
    · rename_i hk
      obtain ⟨p, e2, e3⟩ := Option.map_eq_some_iff.mp e
      cases e3
      simp only [ngL, hk, if_false, Bool.and_eq_true] at g
      have ih := words_aux h ks ws p.1 p.2 e2 g.2
      have g1 := g.1
      split at g1
      · rename_i n l hn hl
        cases hn
        simp only [Bool.and_eq_true, decide_eq_true_eq] at g1
        have hle := lim_le hl
        have hc := (numS_of hle).mp g1
        have hs : numS w = (figs w : Nat) := if_pos hc.1
        have hw := numOk_signs hc.1 (by have := hc.2; omega)
        rw [List.flatMap_cons, hs]
        have : Wd k (.int (figs w : Nat)) = [w] := by cases k <;> simp [Wd, hw]
        rw [this, ih]
        rfl
      · cases g1
theorem words_back : ∀ (n k : Nat) (ks ws : List (List Nat)) (ds : List D) (r : List (List Nat)), takS n ks ws = some (ds, r) → gd k ks ds = true → ws = ds.flatMap (Wd k) ++ r
  | 0, _, _, _, _, _, h, _ => by cases h
  | n + 1, 0, ks, ws, ds, r, h, g => words_aux (R := fun _ _ => false) (fun _ _ _ _ _ z => by cases z) ks ws ds r h g
  | n + 1, k + 1, ks, ws, ds, r, h, g => words_aux (R := gd k) (fun ks ws ds r a b => ⟨k, rfl, words_back n k ks ws ds r a b⟩) ks ws ds r h g
theorem ga_aux {R : List (List Nat) → List D → Bool} {k : Nat} (h : ∀ ks ds, R ks ds = true → ∃ j, k = j + 1 ∧ F2 (GA j) ks ds) : ∀ (ks : List (List Nat)) (ds : List D), ngL R ks ds = true → F2 (GA k) ks ds
  | [], [], _ => .nil
  | [], _ :: _, e => by cases e
  | _ :: _, [], e => by cases e
  | c :: ks, d :: ds, e => by
    simp only [ngL, Bool.and_eq_true] at e
    refine .cons ?_ (ga_aux h ks ds e.2)
    have e1 := e.1
    split at e1
    · rename_i hk
      split at e1
      · split at e1
        · rename_i w es kk hp
          obtain ⟨j, ej, f⟩ := h _ _ e1
          subst ej hk
          exact GA.part (by rw [parts_look, hp]; rfl) f
        · cases e1
      · cases e1
    · split at e1
      · rename_i n l hl
        simp only [Bool.and_eq_true, decide_eq_true_eq] at e1
        exact GA.num hl e1.1 e1.2
      · cases e1
theorem gd_GA : ∀ (k : Nat) (ks : List (List Nat)) (ds : List D), gd k ks ds = true → F2 (GA k) ks ds
  | 0, ks, ds, h => ga_aux (R := fun _ _ => false) (fun _ _ z => by cases z) ks ds h
  | k + 1, ks, ds, h => ga_aux (R := gd k) (fun ks ds z => ⟨k, rfl, gd_GA k ks ds z⟩) ks ds h
/-! ### rows -/
theorem rows_look {w : List Nat} {ks : List (List Nat)} (h : RK w = some ks) : t_ROWS.lookup w = some (.tup (ks.map .str)) ∧ ∀ s, inD s (.str w) d_ALL_WORDS = some true := by
  have hm := look_mem' (t := RKt) h
  simp only [RKt, List.mem_cons, List.not_mem_nil, or_false, Prod.mk.injEq] at hm
  rcases hm with ⟨rfl, rfl⟩ | ⟨rfl, rfl⟩ | ⟨rfl, rfl⟩ | ⟨rfl, rfl⟩ | ⟨rfl, rfl⟩ | ⟨rfl, rfl⟩ | ⟨rfl, rfl⟩ | ⟨rfl, rfl⟩ <;> exact ⟨rfl, fun s => rfl⟩
where
  look_mem' {w : List Nat} {v : List (List Nat)} : ∀ {t : List (List Nat × List (List Nat))}, t.lookup w = some v → (w, v) ∈ t
  | (a, b) :: t, h => by
    rw [List.lookup_cons] at h
    split at h
    · rename_i q
      cases h
      rw [beq_iff_eq.mp q]
      exact List.mem_cons_self
    · exact List.mem_cons_of_mem _ (look_mem' h)
/-- what a line's words write, none for none -/
def rowS (fuel : Nat) : List (List Nat) → Option D
  | [] => none
  | w :: ws => match RK w with
    | none => none
    | some ks => match takS fuel ks ws with
      | some (ds, []) => if gd 3 ks ds = true then some (.tup (.str w :: ds)) else none
      | _ => none
theorem rowS_GR {fuel : Nat} {ws : List (List Nat)} {d : D} (h : rowS fuel ws = some d) : GR d ∧ ws = Wr d := by
  cases ws with
  | nil => cases h
  | cons w ws =>
    simp only [rowS] at h
    split at h
    · cases h
    · rename_i ks hk
      split at h
      · rename_i ds ht
        split at h
        · rename_i hg
          cases h
          obtain ⟨h1, h2⟩ := rows_look hk
          refine ⟨⟨w, ks, ds, rfl, h1, h2, gd_GA 3 ks ds hg⟩, ?_⟩
          have := words_back fuel 3 ks ws ds [] ht hg
          rw [this, List.append_nil]
          rfl
        · cases h
      · cases h
end K24

/-! The plain law of k24: the program's reader at any words. Own text. -/
namespace K24
open MP
/-- a word of signs that may be -/
def Wo (w : List Nat) : Prop := (∀ c ∈ w, c ≤ 127) ∧ w.length ≤ cap
theorem fig_mem (c : Nat) : (c ∈ [48, 49, 50, 51, 52, 53, 54, 55, 56, 57]) ↔ isFig c = true := by
  refine ⟨fun h => ?_, fig_in⟩
  simp at h
  simp [isFig]
  omega
def noFig (cs : List Nat) : List D := (cs.filter fun c => !isFig c).map fun c => .str [c]
theorem sign_all (F : D) (hF : F = .str [48, 49, 50, 51, 52, 53, 54, 55, 56, 57]) (i : Nat) (env : Env) (hi : i < env.length) : ∀ (cs : List Nat) (s : Sto), lcP (gNm i) (tVal (eOp2 opNotIn (eBor i) (eC F))) (eVar i) env (cs.map fun c => .str [c]) s = .ok (noFig cs) s
  | [], s => rfl
  | c :: cs, s => by
    have ih := sign_all F hF i env hi cs s
    subst hF
    have hm := fig_mem c
    simp only [List.map_cons, lcP, noFig, List.filter_cons]
    by_cases h : isFig c = true
    · have hc := hm.mpr h
      simp only [List.mem_cons] at hc
      simp [hi, ih, opNotIn, inD, h, noFig]
      simp at hc
      omega
    · have hc : ¬ c ∈ [48, 49, 50, 51, 52, 53, 54, 55, 56, 57] := fun z => h (hm.mp z)
      have h' : isFig c = false := by simpa using h
      simp only [List.mem_cons] at hc
      simp [hi, ih, opNotIn, inD, h', noFig]
      simp at hc
      omega
theorem noFig_nil {cs : List Nat} : noFig cs = [] ↔ cs.all isFig = true := by
  unfold noFig
  rw [List.map_eq_nil_iff, List.filter_eq_nil_iff, List.all_eq_true]
  simp
theorem eq_nil (ds : List D) : eqD (.lst ds) (.lst []) = some ds.isEmpty := by cases ds <;> simp [eqD, eqE0]
where
  eqE0 : eqD (.lst []) (.lst []) = some true := rfl
theorem num_any {cs : List Nat} (h : Wo cs) (s : Sto) : f_number_of [.str cs] s = .ok (.int (numS cs)) s := by
  have e1 : eqD (.str cs) (.str []) = some (decide (cs = [])) := eq_str h.1 (by simp)
  have l := s_lLc (iStrI (eVar 0)) (gNm 1) (tVal (eOp2 opNotIn (eBor 1) (eC d_FIGURES))) (eVar 1) [1] [.val (.str cs), .emp] s s (cs.map fun c => .str [c]) (by simp) (by rw [List.length_map]; exact h.2)
  rw [sign_all d_FIGURES rfl 1 _ (by simp [wipeE]) cs s] at l
  have hl := h.2
  by_cases c0 : cs = []
  · subst c0
    simp [f_number_of, opEq, view, e1, opNeg, numS, numOk]
  · have c0' : decide (cs = []) = false := by simpa using c0
    by_cases c1 : 5 < cs.length
    · have c1' : (5 : Int) < cs.length := by omega
      have : numS cs = -1 := if_neg (by simp [numOk]; omega)
      simp [f_number_of, opEq, opGt, opCmp, opLen, view, e1, c0, hl, c1', opNeg, this]
    · have c1' : ¬ (5 : Int) < cs.length := by omega
      by_cases c2 : cs.all isFig = true
      · have q0 := noFig_nil.mpr c2
        rw [q0] at l
        cases cs with
        | nil => exact absurd rfl c0
        | cons c r =>
          have q1 : eqD (.str (c :: r)) (.str [48]) = some (decide (c :: r = [48])) := eq_str h.1 (by simp)
          have q2 : eqD (.str [c]) (.str [48]) = some (decide ([c] = [48])) := eq_str (by simpa using h.1 c (by simp)) (by simp)
          have hi : opIntOf s (.str (c :: r)) = some (.int (figs (c :: r) : Nat)) := by
            unfold opIntOf
            simp only
            rw [if_pos ⟨c0, by omega, c2⟩]
          have lc : r.length + 1 ≤ cap := by simpa using hl
          have l5 : ¬ (5 : Int) < (r.length : Int) + 1 := by simpa using c1'
          have l5' : r.length ≤ 4 := by simp at c1; omega
          have c2' := c2
          rw [List.all_cons, Bool.and_eq_true] at c2'
          by_cases h48 : c = 48
          · subst h48
            by_cases hr : r = []
            · subst hr
              have : numS [48] = 0 := by decide
              have hi' : opIntOf s (.str [48]) = some (.int 0) := hi
              simp [f_number_of, opEq, opNe, opGt, opCmp, opLen, view, e1, l, q1, eq_nil, hi', show 1 ≤ cap by decide, this]
            · have : numS (48 :: r) = -1 := if_neg (by simp [numOk, hr])
              simp [f_number_of, opEq, opNe, opGt, opCmp, opLen, view, e1, l5, lc, l, q1, q2, eq_nil, hr, opIx, place, opNeg, this]
          · have : numS (c :: r) = (figs (c :: r) : Nat) := if_pos (by simp [numOk, h48, c2'.1, l5']; simpa using c2'.2)
            simp [f_number_of, opEq, opNe, opGt, opCmp, opLen, view, e1, l5, lc, l, q1, q2, eq_nil, h48, hi, opIx, place, this]
      · have q0 : noFig cs ≠ [] := fun z => c2 (noFig_nil.mp z)
        have q1 : (noFig cs).isEmpty = false := by
          cases z : noFig cs with
          | nil => exact absurd z q0
          | cons => rfl
        have : numS cs = -1 := if_neg (by simp only [numOk, Bool.and_eq_true, not_and]; intro z; exact absurd z.2 c2)
        simp [f_number_of, opEq, opNe, opGt, opCmp, opLen, view, e1, c0, hl, c1', l, eq_nil, q1, opNeg, this]
end K24

/-! The plain law of k24: the program's reader of lines. Own text. -/
namespace K24
open MP
/-- what stands in the loop of taken -/
def tb (n : Nat) : MS := sSeq (sIf (tVal (eOp2 opEq (eBor 1) (eFrz (lLst aNil)))) (sRet (eC .non)) sNext) (sSeq (sAsg (eVar 1) (gSt [(gNm 4)] [] 1)) (sIf (tVal (eOp2 opNe (eBor 3) (eC (.str [112, 97, 114, 116])))) (sApp 2 (eCall f_number_of (aCons (eVar 4) aNil)))
  (sSeq (sAsg (eIf (tVal (eOp1 (kIn t_PARTS) (eVar 4))) (eCall (f_taken n) (aCons (eOp2 (kGetD t_PARTS) (eVar 4) (eTup (aCons (eC (.str [110, 111, 110, 101])) aNil))) (aCons (eVar 1) aNil))) (eC .non)) (gNm 5)) (sSeq (sIf (tVal (eOp1 opIsN (eVar 5))) (sRet (eC .non)) sNext)
  (sSeq (sApp 2 (eOp2 opAdd (eTup (aCons (eVar 4) aNil)) (eOp2 opIx (eBor 5) (eC (.int 0))))) (sAsg (eOp2 opIx (eBor 5) (eC (.int 1))) (gNm 1)))))))
theorem kind_eq {k : List Nat} (h : k ∈ kinds8) : eqD (.str k) (.str [112, 97, 114, 116]) = some (decide (k = kPart)) := by
  simp only [kinds8, List.mem_cons, List.not_mem_nil, or_false] at h
  rcases h with rfl | rfl | rfl | rfl | rfl | rfl | rfl | rfl <;> decide
def ansT : Option (List D × List (List Nat)) → D
  | none => .non
  | some (ds, r) => .tup [.tup ds, .lst (r.map .str)]
theorem tb_end {n : Nat} {kv z3 z4 z5 : Slot} {acc : List D} (s : Sto) : tb n [kv, .val (.lst []), .own acc, z3, z4, z5] s = .rt .non s := by
  simp [tb, opEq, view, eq_nil]
theorem tb_num {n : Nat} {kind w : List Nat} (hk : kind ∈ kinds8) (hp : kind ≠ kPart) (hw : Wo w) (ws : List D) (hl : ws.length + 1 ≤ 16000) (acc : List D) (ha : acc.length < cap) (kv z4 z5 : Slot) (s : Sto) :
    tb n [kv, .val (.lst (.str w :: ws)), .own acc, .val (.str kind), z4, z5] s = .nx [kv, .val (.lst ws), .own (acc ++ [.int (numS w)]), .val (.str kind), .val (.str w), z5] s := by
  simp [tb, opEq, opNe, view, eq_nil, star1L 4 1 (.str w) ws _ hl, kind_eq hk, hp, num_any hw, ha]
theorem tb_no {n : Nat} {w : List Nat} (hp : PK w = none) (ws : List D) (hl : ws.length + 1 ≤ 16000) (acc : List D) (kv z4 z5 : Slot) (s : Sto) :
    tb n [kv, .val (.lst (.str w :: ws)), .own acc, .val (.str kPart), z4, z5] s = .rt .non s := by
  have hk : eqD (.str kPart) (.str [112, 97, 114, 116]) = some true := by decide
  simp [tb, opEq, opNe, view, eq_nil, star1L 4 1 (.str w) ws _ hl, hk, kIn, parts_look, hp, opIsN, isNon]
def brS (s : Sto) (kv : Slot) (acc : List D) (w : List Nat) : Option (List D × List (List Nat)) → SRes
  | none => .rt .non s
  | some (es, r) => .nx [kv, .val (.lst (r.map .str)), .own (acc ++ [.tup (.str w :: es)]), .val (.str kPart), .val (.str w), .val (.tup [.tup es, .lst (r.map .str)])] s
theorem tb_rec {n : Nat} {w : List Nat} {kk : List (List Nat)} (hp : PK w = some kk) {ws : List (List Nat)} (o : Option (List D × List (List Nat))) (s : Sto) (ht : f_taken n [.tup (kk.map .str), .lst (ws.map .str)] s = .ok (ansT o) s) (hl : ws.length + 1 ≤ 16000) (acc : List D) (ha : acc.length < cap) (he : ∀ p, o = some p → 1 + p.1.length ≤ cap) (kv z4 z5 : Slot) :
    tb n [kv, .val (.lst (.str w :: ws.map .str)), .own acc, .val (.str kPart), z4, z5] s = brS s kv acc w o := by
  have hk : eqD (.str kPart) (.str [112, 97, 114, 116]) = some true := by decide
  cases o with
  | none =>
    have ht' : f_taken n [.tup (kk.map .str), .lst (ws.map .str)] s = .ok .non s := ht
    simp [tb, opEq, opNe, view, eq_nil, star1L 4 1 (.str w) (ws.map .str) _ (by simpa using hl), hk, kIn, kGetD, parts_look, hp, ht', opIsN, isNon, brS]
  | some p =>
    obtain ⟨es, r⟩ := p
    have ht' : f_taken n [.tup (kk.map .str), .lst (ws.map .str)] s = .ok (.tup [.tup es, .lst (r.map .str)]) s := ht
    have he' : 1 + es.length ≤ cap := he _ rfl
    simp [tb, opEq, opNe, view, eq_nil, star1L 4 1 (.str w) (ws.map .str) _ (by simpa using hl), hk, kIn, kGetD, parts_look, hp, ht', opIsN, isNon, opIx, seqOf, ixD, place, opAdd, he', ha, brS]
def TakA (n : Nat) : Prop := ∀ (ks ws : List (List Nat)) (s : Sto), (∀ k ∈ ks, k ∈ kinds8) → ks.length ≤ 10 → ws.length < n → ws.length ≤ 1000 → (∀ w ∈ ws, Wo w) → f_taken n [.tup (ks.map .str), .lst (ws.map .str)] s = .ok (ansT (takS n ks ws)) s
theorem tak_len {rec : Tk} : ∀ (ks ws : List (List Nat)) (ds : List D) (r : List (List Nat)), takL rec ks ws = some (ds, r) → ds.length = ks.length
  | [], ws, ds, r, h => by simp only [takL, Option.some.injEq, Prod.mk.injEq] at h; rw [← h.1]; rfl
  | k :: ks, [], ds, r, h => by cases h
  | k :: ks, w :: ws, ds, r, h => by
    simp only [takL] at h
    split at h
    · split at h
      · cases h
      · split at h
        · cases h
        · obtain ⟨p, e2, e3⟩ := Option.map_eq_some_iff.mp h
          cases e3
          simp [tak_len ks _ p.1 p.2 e2]
    · obtain ⟨p, e2, e3⟩ := Option.map_eq_some_iff.mp h
      cases e3
      simp [tak_len ks _ p.1 p.2 e2]
theorem takS_len : ∀ (n : Nat) (ks ws : List (List Nat)) (ds : List D) (r : List (List Nat)), takS n ks ws = some (ds, r) → ds.length = ks.length
  | 0, _, _, _, _, z => by cases z
  | n + 1, ks, ws, ds, r, h => tak_len ks ws ds r h
theorem PK_two {w : List Nat} {kk : List (List Nat)} (h : PK w = some kk) : kk.length ≤ 10 := by
  have hm := rows_look.look_mem' (t := PKt) h
  simp only [PKt, List.mem_cons, List.not_mem_nil, or_false, Prod.mk.injEq] at hm
  rcases hm with ⟨_, rfl⟩ | ⟨_, rfl⟩ | ⟨_, rfl⟩ | ⟨_, rfl⟩ | ⟨_, rfl⟩ | ⟨_, rfl⟩ <;> decide
theorem tak_loop (n : Nat) (ih : TakA n) (kv : Slot) (s : Sto) : ∀ (ks ws : List (List Nat)) (acc : List D) (z3 z4 z5 : Slot), (∀ k ∈ ks, k ∈ kinds8) → ws.length ≤ n → ws.length ≤ 1000 → (∀ w ∈ ws, Wo w) → acc.length + ks.length ≤ 100 →
    ∃ y3 y4 y5, forP (gNm 3) (tb n) (ks.map .str) [kv, .val (.lst (ws.map .str)), .own acc, z3, z4, z5] s = match takL (takS n) ks ws with
      | none => .rt .non s
      | some (ds, r) => .nx [kv, .val (.lst (r.map .str)), .own (acc ++ ds), y3, y4, y5] s
  | [], ws, acc, z3, z4, z5, _, _, _, _, _ => ⟨z3, z4, z5, by simp [forP, takL]⟩
  | k :: ks, [], acc, z3, z4, z5, _, _, _, _, _ => ⟨z3, z4, z5, by simp [forP, takL, tb_end]⟩
  | k :: ks, w :: ws, acc, z3, z4, z5, hk, hn, hl, hw, ha => by
    have hks : ∀ k ∈ ks, k ∈ kinds8 := fun x hx => hk x (List.mem_cons_of_mem _ hx)
    have hws : ∀ w ∈ ws, Wo w := fun x hx => hw x (List.mem_cons_of_mem _ hx)
    simp only [List.length_cons] at hn hl ha
    have hca : acc.length < cap := by unfold cap; omega
    by_cases hp : k = kPart
    · subst hp
      simp only [takL, if_true]
      cases hpk : PK w with
      | none =>
        refine ⟨z3, z4, z5, ?_⟩
        have t := tb_no (n := n) hpk (ws.map .str) (by rw [List.length_map]; omega) acc kv z4 z5 s
        simp only [List.map_cons, forP, s_gNm, List.set_cons_succ, List.set_cons_zero, t]
      | some kk =>
        have ht := ih kk ws s (PK_ok hpk) (PK_two hpk) (by omega) (by omega) hws
        have t := tb_rec hpk (takS n kk ws) s ht (by omega) acc hca (fun p hp => by
          have := takS_len n kk ws p.1 p.2 hp
          have := PK_two hpk
          unfold cap; omega) kv z4 z5
        simp only [List.map_cons, forP, s_gNm, List.set_cons_succ, List.set_cons_zero, t]
        cases hts : takS n kk ws with
        | none => exact ⟨z3, z4, z5, rfl⟩
        | some p =>
          obtain ⟨es, r⟩ := p
          obtain ⟨m, er, hm⟩ := takS_suffix n kk ws es r hts
          have hrl : r.length = ws.length - m := by rw [er, List.length_drop]
          obtain ⟨y3, y4, y5, e⟩ := tak_loop n ih kv s ks r (acc ++ [.tup (.str w :: es)]) (.val (.str kPart)) (.val (.str w)) (.val (.tup [.tup es, .lst (r.map .str)])) hks (by omega) (by omega) (fun x hx => hws x (by rw [er] at hx; exact List.mem_of_mem_drop hx)) (by simp; omega)
          refine ⟨y3, y4, y5, ?_⟩
          simp only [brS]
          rw [e]
          cases takL (takS n) ks r with
          | none => rfl
          | some p2 => simp
    · obtain ⟨y3, y4, y5, e⟩ := tak_loop n ih kv s ks ws (acc ++ [.int (numS w)]) (.val (.str k)) (.val (.str w)) z5 hks (by omega) (by omega) hws (by simp; omega)
      refine ⟨y3, y4, y5, ?_⟩
      have t := tb_num (n := n) (hk k List.mem_cons_self) hp (hw w List.mem_cons_self) (ws.map .str) (by rw [List.length_map]; omega) acc hca kv z4 z5 s
      simp only [takL, if_neg hp, List.map_cons, forP, s_gNm, List.set_cons_succ, List.set_cons_zero, t]
      rw [e]
      cases takL (takS n) ks ws with
      | none => rfl
      | some p2 => simp
theorem tak_any : ∀ n : Nat, TakA n
  | 0 => fun ks ws s _ _ h => absurd h (by omega)
  | n + 1 => fun ks ws s hk hkl hn hl hw => by
    obtain ⟨y3, y4, y5, e⟩ := tak_loop n (tak_any n) (.val (.tup (ks.map .str))) s ks ws [] .emp .emp .emp hk (by omega) hl hw (by simp; omega)
    have f := s_sFor (iSeq (eVar 0)) (gNm 3) (tb n) [.val (.tup (ks.map .str)), .val (.lst (ws.map .str)), .own [], .emp, .emp, .emp] s s (ks.map .str) (by simp [srcOf])
    rw [e] at f
    have body : f_taken (n + 1) = runB 2 6 (sSeq (sOwn (lLst aNil) 2) (sSeq (sFor (iSeq (eVar 0)) (gNm 3) (tb n)) (sRet (eTup (aCons (eOp1 opTuple (eBor 2)) (aCons (eVar 1) aNil)))))) := rfl
    rw [body]
    have et : takS (n + 1) ks ws = takL (takS n) ks ws := rfl
    rw [et]
    generalize (ws.map D.str) = wd at f ⊢
    cases ht : takL (takS n) ks ws with
    | none =>
      rw [ht] at f
      simp [f, ansT]
    | some p =>
      rw [ht] at f
      obtain ⟨ds, r⟩ := p
      simp [f, ansT, opTuple, seqOf]
/-! ### a line -/
theorem RK_mem (w : List Nat) : (RK w).isSome = decide (w ∈ RKt.map (·.1)) := by
  have : ∀ t : List (List Nat × List (List Nat)), (t.lookup w).isSome = decide (w ∈ t.map (·.1)) := by
    intro t
    induction t with
    | nil => rfl
    | cons p t ih =>
      obtain ⟨a, b⟩ := p
      rw [List.lookup_cons]
      by_cases e : w = a
      · subst e; simp
      · have : (w == a) = false := by simpa using e
        simp [this, ih, e]
  exact this RKt
theorem all_words (w : List Nat) (s : Sto) : inD s (.str w) d_ALL_WORDS = some (RK w).isSome := by
  have h : inD s (.str w) d_ALL_WORDS = some ([[115, 101, 116], [112, 117, 116], [99, 97, 108, 108], [103, 111], [117, 110, 108, 101, 115, 115], [119, 97, 105, 116], [97, 110, 115, 119, 101, 114], [115, 105, 100, 101]].any fun x => decide (x = w)) := by
    unfold inD d_ALL_WORDS
    split
    · rename_i h; cases h
    · simp [seqOf, isFlat, D.eqv]
  rw [h, RK_mem]
  congr 1
  rw [Bool.eq_iff_iff]
  simp only [List.any_eq_true, decide_eq_true_eq, RKt, List.map_cons, List.map_nil, List.mem_cons, List.not_mem_nil, or_false]
  constructor
  · rintro ⟨x, hx, rfl⟩
    rcases hx with rfl | rfl | rfl | rfl | rfl | rfl | rfl | rfl <;> simp
  · intro hx
    rcases hx with rfl | rfl | rfl | rfl | rfl | rfl | rfl | rfl <;> simp
/-- what row_of tells of a line's words -/
def rowP (fuel : Nat) : List (List Nat) → Option (List (List Nat) × D)
  | [] => none
  | w :: ws => match RK w with
    | none => none
    | some ks => match takS fuel ks ws with
      | some (ds, []) => some (ks, .tup (.str w :: ds))
      | _ => none
def ansR : Option (List (List Nat) × D) → D
  | none => .non
  | some p => p.2
theorem RK_two {w : List Nat} {kk : List (List Nat)} (h : RK w = some kk) : kk.length ≤ 10 := by
  have hm := rows_look.look_mem' (t := RKt) h
  simp only [RKt, List.mem_cons, List.not_mem_nil, or_false, Prod.mk.injEq] at hm
  rcases hm with ⟨_, rfl⟩ | ⟨_, rfl⟩ | ⟨_, rfl⟩ | ⟨_, rfl⟩ | ⟨_, rfl⟩ | ⟨_, rfl⟩ | ⟨_, rfl⟩ | ⟨_, rfl⟩ <;> decide
end K24

/-! The plain law of k24: lines read; the look at rows. Own text. -/
namespace K24
open MP
theorem lim_cases {kind : List Nat} {l : Int} (h : limOf kind = some l) : (kind = kName ∧ l = 4) ∨ (kind = kThing ∧ l = 4) ∨ (kind = kField ∧ l = 3) ∨ (kind = kMark ∧ l = 10) ∨ (kind = kNumber ∧ l = 10007) ∨ (kind = kDeed ∧ l = 8) ∨ (kind = kRow ∧ l = 13) := by
  unfold limOf at h
  split at h
  · cases h; simp_all
  split at h
  · cases h; simp_all
  split at h
  · cases h; simp_all
  split at h
  · cases h; simp_all
  split at h
  · cases h; simp_all
  split at h
  · cases h; simp_all
  split at h
  · cases h; simp_all
  · cases h
theorem kind_ne {kind : List Nat} {l : Int} (h : limOf kind = some l) : eqD (.str kind) (.str kPart) = some false := by
  rcases lim_cases h with ⟨rfl, _⟩ | ⟨rfl, _⟩ | ⟨rfl, _⟩ | ⟨rfl, _⟩ | ⟨rfl, _⟩ | ⟨rfl, _⟩ | ⟨rfl, _⟩ <;> decide
theorem part_eq : eqD (.str kPart) (.str kPart) = some true := by decide
def marksD : D := .tup [.int 0, .int 1, .int 2, .int 3, .int 4, .int 5, .int 6, .int 7, .int 8, .int 9]
def lims : List (D × D) := [(.str kName, .int 4), (.str kThing, .int 4), (.str kField, .int 3), (.str kMark, .int 10), (.str kDeed, .int 8), (.str kRow, .int 13), (.str kNumber, .int 10007)]
def RulesOk (s : Sto) (m : Nat) : Prop := ∃ l, s[m]? = some (.ins 16 [("words", d_ALL_WORDS), ("marks", marksD), ("limits", .ref l)]) ∧ s[l]? = some (.dic lims)
theorem rng10 : intsD 0 10 = [.int 0, .int 1, .int 2, .int 3, .int 4, .int 5, .int 6, .int 7, .int 8, .int 9] := rfl
theorem merge1 : dMerge [] [(D.str [110, 97, 109, 101], D.int 4), (D.str [116, 104, 105, 110, 103], D.int 4), (D.str [102, 105, 101, 108, 100], D.int 3), (D.str [109, 97, 114, 107], D.int 10)] = [(D.str [110, 97, 109, 101], D.int 4), (D.str [116, 104, 105, 110, 103], D.int 4), (D.str [102, 105, 101, 108, 100], D.int 3), (D.str [109, 97, 114, 107], D.int 10)] := rfl
theorem merge2 : dMerge [] [(D.str [100, 101, 101, 100], D.int 8), (D.str [114, 111, 119], D.int 13), (D.str [110, 117, 109, 98, 101, 114], D.int 10007)] = [(D.str [100, 101, 101, 100], D.int 8), (D.str [114, 111, 119], D.int 13), (D.str [110, 117, 109, 98, 101, 114], D.int 10007)] := rfl
theorem merge3 : dMerge [(D.str [110, 97, 109, 101], D.int 4), (D.str [116, 104, 105, 110, 103], D.int 4), (D.str [102, 105, 101, 108, 100], D.int 3), (D.str [109, 97, 114, 107], D.int 10)] [(D.str [100, 101, 101, 100], D.int 8), (D.str [114, 111, 119], D.int 13), (D.str [110, 117, 109, 98, 101, 114], D.int 10007)] = lims := rfl
theorem lkL (a b c : D) : List.lookup "limits" [("words", a), ("marks", b), ("limits", c)] = some c := rfl
theorem lkM (a b c : D) : List.lookup "marks" [("words", a), ("marks", b), ("limits", c)] = some b := rfl
theorem lkW (a b c : D) : List.lookup "words" [("words", a), ("marks", b), ("limits", c)] = some a := rfl
theorem lk1 (a b c : D) : List.lookup "is_row" [("words", a), ("marks", b), ("limits", c)] = none := rfl
theorem lk2 (a b c : D) : List.lookup "is_part" [("words", a), ("marks", b), ("limits", c)] = none := rfl
theorem lk3 (a b c : D) : List.lookup "is_number" [("words", a), ("marks", b), ("limits", c)] = none := rfl
theorem lk4 (a b c : D) : List.lookup "are_good" [("words", a), ("marks", b), ("limits", c)] = none := rfl
theorem rules_made (s : Sto) : ∃ s', f_Rules___init__ [.ref s.length, d_ALL_WORDS, .int 8, .int 4, marksD, .int 12] (s ++ [.ins 16 []]) = .ok .non s' ∧ RulesOk s' s.length ∧ (∀ j, j < s.length → s'[j]? = s[j]?) := by
  refine ⟨s ++ [.ins 16 [("words", d_ALL_WORDS), ("marks", marksD), ("limits", .ref (s.length + 1))], .dic lims, .dic [(D.str [100, 101, 101, 100], D.int 8), (D.str [114, 111, 119], D.int 13), (D.str [110, 117, 109, 98, 101, 114], D.int 10007)]], ?_, ⟨s.length + 1, by simp, ?_⟩, fun j hj => by rw [List.getElem?_append_left hj]⟩
  · simp [f_Rules___init__, eDic, pCons, pNil, d_NAMES, d_FIELDS, d_MARKS, d_BEYOND, merge1, merge2, isKey, putF', eUpd, fieldOf, dicOf, refN, opAdd, lkL, merge3]
  · simp [List.getElem?_append_right]
theorem new_rules (env : Env) (s : Sto) : ∃ s', eNewK 16 fk_Rules_marks 1 1 (aCons (eC d_ALL_WORDS) aNil) (aCons (eTupRg (eC d_MARKS)) aNil) env s = .ok (.ref s.length) s' ∧ RulesOk s' s.length ∧ (∀ j, j < s.length → s'[j]? = s[j]?) := by
  obtain ⟨s', h, a, b⟩ := rules_made s
  refine ⟨s', ?_, a, b⟩
  have hc : (10 : Int) ≤ cap := by decide
  simp [eNewK, d_MARKS, rng10, hc, fk_Rules_marks, arr_Rules_marks, madeR]
  have h' := h
  simp only [marksD] at h'
  rw [h']
  rfl
theorem lim_look {kind : List Nat} {l : Int} (h : limOf kind = some l) : dLook lims (.str kind) = some (.int l) := by
  rcases lim_cases h with ⟨rfl, rfl⟩ | ⟨rfl, rfl⟩ | ⟨rfl, rfl⟩ | ⟨rfl, rfl⟩ | ⟨rfl, rfl⟩ | ⟨rfl, rfl⟩ | ⟨rfl, rfl⟩ <;> rfl
theorem mark_in {n : Int} (a : 0 ≤ n) (b : n < 10) (s : Sto) : inD s (.int n) marksD = some true := by
  have : n = 0 ∨ n = 1 ∨ n = 2 ∨ n = 3 ∨ n = 4 ∨ n = 5 ∨ n = 6 ∨ n = 7 ∨ n = 8 ∨ n = 9 := by omega
  rcases this with h | h | h | h | h | h | h | h | h | h <;> subst h <;> rfl
theorem mark_kind {kind : List Nat} {l : Int} (h : limOf kind = some l) : eqD (.str kind) (.str kMark) = some (decide (l = 10)) := by
  rcases lim_cases h with ⟨rfl, rfl⟩ | ⟨rfl, rfl⟩ | ⟨rfl, rfl⟩ | ⟨rfl, rfl⟩ | ⟨rfl, rfl⟩ | ⟨rfl, rfl⟩ | ⟨rfl, rfl⟩ <;> decide

theorem mark_out {n : Int} (h : ¬ (0 ≤ n ∧ n < 10)) (s : Sto) : inD s (.int n) marksD = some false := by
  have : n ≠ 0 ∧ n ≠ 1 ∧ n ≠ 2 ∧ n ≠ 3 ∧ n ≠ 4 ∧ n ≠ 5 ∧ n ≠ 6 ∧ n ≠ 7 ∧ n ≠ 8 ∧ n ≠ 9 := by omega
  obtain ⟨a, b, c, d, e, f, g, h, i, j⟩ := this
  simp [inD, marksD, seqOf, isFlat, D.eqv, Ne.symm a, Ne.symm b, Ne.symm c, Ne.symm d, Ne.symm e, Ne.symm f, Ne.symm g, Ne.symm h, Ne.symm i, Ne.symm j]
theorem isnum_any {s : Sto} {m : Nat} (hr : RulesOk s m) {kind : List Nat} {l n : Int} (h : limOf kind = some l) : f_Rules_is_number [.ref m, .str kind, .int n] s = .ok (.bl (decide (0 ≤ n) && decide (n < l))) s := by
  obtain ⟨q, h1, h2⟩ := hr
  by_cases a : 0 ≤ n
  · by_cases b : n < l
    · by_cases hl : l = 10
      · have hm := mark_in a (by omega : n < 10) s
        subst hl
        simp [f_Rules_is_number, opLe, opLt, opCmp, fieldOf, h1, lkL, lkM, opDGet, isKey, dicOf, h2, lim_look h, a, b, opNe, view, mark_kind h, opIn, hm]
      · simp [f_Rules_is_number, opLe, opLt, opCmp, fieldOf, h1, lkL, opDGet, isKey, dicOf, h2, lim_look h, a, b, opNe, view, mark_kind h, hl]
    · simp [f_Rules_is_number, opLe, opLt, opCmp, fieldOf, h1, lkL, opDGet, isKey, dicOf, h2, lim_look h, a, b]
  · simp [f_Rules_is_number, opLe, opLt, opCmp, fieldOf, h1, lkL, opDGet, isKey, dicOf, h2, lim_look h, a]
/-! ### shapes -/
def ShL (rec : List (List Nat) → List D → Prop) : List (List Nat) → List D → Prop
  | [], [] => True
  | k :: ks, d :: ds => (if k = kPart then ∃ w es kk, d = .tup (.str w :: es) ∧ PK w = some kk ∧ rec kk es else ∃ z, d = .int z) ∧ ShL rec ks ds
  | _, _ => False
def Sh : Nat → List (List Nat) → List D → Prop
  | 0 => fun _ _ => False
  | n + 1 => ShL (Sh n)
theorem sh_tak {rec : Tk} {S : List (List Nat) → List D → Prop} (h : ∀ ks ws ds r, rec ks ws = some (ds, r) → S ks ds) : ∀ (ks ws : List (List Nat)) (ds : List D) (r : List (List Nat)), takL rec ks ws = some (ds, r) → ShL S ks ds
  | [], ws, ds, r, e => by simp only [takL, Option.some.injEq, Prod.mk.injEq] at e; rw [← e.1]; exact True.intro
  | k :: ks, [], ds, r, e => by cases e
  | k :: ks, w :: ws, ds, r, e => by
    simp only [takL] at e
    split at e
    · rename_i hk
      split at e
      · cases e
      · rename_i kk hp
        split at e
        · cases e
        · rename_i es r1 e1
          obtain ⟨p, e2, e3⟩ := Option.map_eq_some_iff.mp e
          cases e3
          exact ⟨by rw [if_pos hk]; exact ⟨w, es, kk, rfl, hp, h _ _ _ _ e1⟩, sh_tak h ks r1 p.1 p.2 e2⟩
    · rename_i hk
      obtain ⟨p, e2, e3⟩ := Option.map_eq_some_iff.mp e
      cases e3
      exact ⟨by rw [if_neg hk]; exact ⟨_, rfl⟩, sh_tak h ks ws p.1 p.2 e2⟩
theorem sh_takS : ∀ (n : Nat) (ks ws : List (List Nat)) (ds : List D) (r : List (List Nat)), takS n ks ws = some (ds, r) → Sh n ks ds
  | 0, _, _, _, _, z => by cases z
  | n + 1, ks, ws, ds, r, h => sh_tak (sh_takS n) ks ws ds r h
theorem shl_len {S : List (List Nat) → List D → Prop} : ∀ {ks : List (List Nat)} {ds : List D}, ShL S ks ds → ds.length = ks.length
  | [], [], _ => rfl
  | [], _ :: _, h => h.elim
  | _ :: _, [], h => h.elim
  | _ :: ks, _ :: ds, h => by simp [shl_len h.2]
theorem sh_len {n : Nat} {ks : List (List Nat)} {ds : List D} (h : Sh n ks ds) : ds.length = ks.length := by
  cases n with
  | zero => exact h.elim
  | succ n => exact shl_len h
/-- what stands in the loop of are_good -/
def gb (n : Nat) : MS := sSeq (sAsg (eIf (tVal (eOp2 opEq (eBor 4) (eC (.str [112, 97, 114, 116])))) (eMeth 16 "is_part" (f_Rules_is_part n) (eVar 0) (aCons (eVar 5) (aCons (eVar 3) aNil))) (eMeth 16 "is_number" f_Rules_is_number (eVar 0) (aCons (eVar 4) (aCons (eVar 5) aNil)))) (gNm 6)) (sIf (tNot (tVal (eVar 6))) (sRet (eC (.bl false))) sNext)
def brG (s : Sto) (b : Bool) (e : Env) : SRes := if b then .nx e s else .rt (.bl false) s
theorem gb_num {m n : Nat} {s : Sto} (hr : RulesOk s m) {kind : List Nat} (hk : kind ∈ kinds8) (hp : kind ≠ kPart) {l v : Int} (h : limOf kind = some l) (z1 z2 z3 z6 : Slot) :
    gb n [.val (.ref m), z1, z2, z3, .val (.str kind), .val (.int v), z6] s = brG s (decide (0 ≤ v) && decide (v < l)) [.val (.ref m), z1, z2, z3, .val (.str kind), .val (.int v), .val (.bl true)] := by
  have e := isnum_any hr (n := v) h
  obtain ⟨q, h1, h2⟩ := hr
  by_cases hb : (decide (0 ≤ v) && decide (v < l)) = true
  · rw [hb] at e ⊢
    simp [gb, opEq, view, kind_eq hk, hp, isOf, h1, lk3, e, brG]
  · have hb' : (decide (0 ≤ v) && decide (v < l)) = false := by simpa using hb
    rw [hb'] at e ⊢
    simp [gb, opEq, view, kind_eq hk, hp, isOf, h1, lk3, e, brG]
theorem gb_part {m n : Nat} {s : Sto} (hr : RulesOk s m) {d : D} {k : Int} {b : Bool} (e : f_Rules_is_part n [.ref m, d, .int k] s = .ok (.bl b) s) (z1 z2 z6 : Slot) :
    gb n [.val (.ref m), z1, z2, .val (.int k), .val (.str kPart), .val d, z6] s = brG s b [.val (.ref m), z1, z2, .val (.int k), .val (.str kPart), .val d, .val (.bl true)] := by
  have hk : eqD (.str kPart) (.str [112, 97, 114, 116]) = some true := by decide
  obtain ⟨q, h1, h2⟩ := hr
  cases b <;> simp [gb, opEq, view, hk, isOf, h1, lk2, e, brG]
def GoodA (m k fuel : Nat) : Prop := ∀ (n : Nat) (ks : List (List Nat)) (ds : List D) (s : Sto), RulesOk s m → Sh n ks ds → (∀ k ∈ ks, k ∈ kinds8) → ks.length ≤ 10 → f_Rules_are_good fuel [.ref m, .tup (ks.map .str), .lst ds, .int k] s = .ok (.bl (gd k ks ds)) s
/-- a part's answer -/
def pg (k : Nat) (kk : List (List Nat)) (es : List D) : Bool := match k with
  | 0 => false
  | j + 1 => gd j kk es
theorem gd_ngL (k : Nat) : gd k = ngL (pg k) := by cases k <;> rfl
theorem good_loop (m k n : Nat) (ih : ∀ (q : Nat) (w : List Nat) (kk : List (List Nat)) (es : List D) (s : Sto), RulesOk s m → PK w = some kk → Sh q kk es → f_Rules_is_part n [.ref m, .tup (.str w :: es), .int k] s = .ok (.bl (pg k kk es)) s) (q : Nat) (z1 z2 : Slot) (s : Sto) (hr : RulesOk s m) : ∀ (ks : List (List Nat)) (ds : List D) (z4 z5 z6 : Slot), ShL (Sh q) ks ds → (∀ k ∈ ks, k ∈ kinds8) →
    ∃ y4 y5 y6, forP (gTp [gNm 4, gNm 5]) (gb n) (List.zipWith (fun d e => .tup [d, e]) (ks.map .str) ds) [.val (.ref m), z1, z2, .val (.int k), z4, z5, z6] s = brG s (gd k ks ds) [.val (.ref m), z1, z2, .val (.int k), y4, y5, y6]
  | [], [], z4, z5, z6, _, _ => ⟨z4, z5, z6, by rw [gd_ngL]; rfl⟩
  | [], _ :: _, z4, z5, z6, h, _ => h.elim
  | _ :: _, [], z4, z5, z6, h, _ => h.elim
  | c :: ks, d :: ds, z4, z5, z6, h, hk => by
    have hks : ∀ k ∈ ks, k ∈ kinds8 := fun x hx => hk x (List.mem_cons_of_mem _ hx)
    have h1 := h.1
    by_cases hp : c = kPart
    · rw [if_pos hp] at h1
      obtain ⟨w, es, kk, rfl, hpk, hs⟩ := h1
      subst hp
      obtain ⟨y4, y5, y6, e⟩ := good_loop m k n ih q z1 z2 s hr ks ds (.val (.str kPart)) (.val (.tup (.str w :: es))) (.val (.bl true)) h.2 hks
      have t := gb_part (n := n) hr (ih q w kk es s hr hpk hs) z1 z2 z6
      have eg : gd k (kPart :: ks) (.tup (.str w :: es) :: ds) = (pg k kk es && gd k ks ds) := by
        rw [gd_ngL]; simp [ngL, hpk]
      cases hb : pg k kk es with
      | true =>
        rw [hb] at t eg
        rw [eg, Bool.true_and]
        refine ⟨y4, y5, y6, ?_⟩
        rw [← e]
        simp only [List.map_cons, List.zipWith_cons_cons, forP, s_gTp, s_gAll1, s_gNm, Option.bind_some, s_gAll0, List.set_cons_succ, List.set_cons_zero, t, brG, if_true]
      | false =>
        rw [hb] at t eg
        rw [eg, Bool.false_and]
        refine ⟨y4, y5, y6, ?_⟩
        simp only [List.map_cons, List.zipWith_cons_cons, forP, s_gTp, s_gAll1, s_gNm, Option.bind_some, s_gAll0, List.set_cons_succ, List.set_cons_zero, t, brG, Bool.false_eq_true, if_false]
    · rw [if_neg hp] at h1
      obtain ⟨z, rfl⟩ := h1
      rcases kind_cases (hk c List.mem_cons_self) with ⟨e1, _⟩ | ⟨_, _, l, hl, _, _⟩
      · exact absurd e1 hp
      · obtain ⟨y4, y5, y6, e⟩ := good_loop m k n ih q z1 z2 s hr ks ds (.val (.str c)) (.val (.int z)) (.val (.bl true)) h.2 hks
        have t := gb_num (n := n) hr (hk c List.mem_cons_self) hp (v := z) hl z1 z2 (.val (.int k)) z6
        have eg : gd k (c :: ks) (.int z :: ds) = ((decide (0 ≤ z) && decide (z < l)) && gd k ks ds) := by
          rw [gd_ngL]; simp only [ngL, if_neg hp, hl]
        cases hb : (decide (0 ≤ z) && decide (z < l)) with
        | true =>
          rw [hb] at t eg
          rw [eg, Bool.true_and]
          refine ⟨y4, y5, y6, ?_⟩
          rw [← e]
          simp only [List.map_cons, List.zipWith_cons_cons, forP, s_gTp, s_gAll1, s_gNm, Option.bind_some, s_gAll0, List.set_cons_succ, List.set_cons_zero, t, brG, if_true]
        | false =>
          rw [hb] at t eg
          rw [eg, Bool.false_and]
          refine ⟨y4, y5, y6, ?_⟩
          simp only [List.map_cons, List.zipWith_cons_cons, forP, s_gTp, s_gAll1, s_gNm, Option.bind_some, s_gAll0, List.set_cons_succ, List.set_cons_zero, t, brG, Bool.false_eq_true, if_false]
theorem good_any (m : Nat) : ∀ (k fuel : Nat), 2 * k + 2 ≤ fuel → GoodA m k fuel
  | k, 0, h => absurd h (by omega)
  | k, fuel + 1, h => fun n ks ds s hr hs hk hkl => by
    have ihp : ∀ (q : Nat) (w : List Nat) (kk : List (List Nat)) (es : List D) (s : Sto), RulesOk s m → PK w = some kk → Sh q kk es → f_Rules_is_part fuel [.ref m, .tup (.str w :: es), .int k] s = .ok (.bl (pg k kk es)) s := fun q w kk es s hr hpk hes => by
      cases fuel with
      | zero => omega
      | succ f =>
        have hlen : es.length ≤ 10 := by rw [sh_len hes]; exact PK_two hpk
        have hst := star1 3 4 (.str w) es [.val (.ref m), .val (.tup (.str w :: es)), .val (.int (k : Int)), .emp, .emp] (by omega)
        cases k with
        | zero =>
          have hst' := star1 3 4 (.str w) es [.val (.ref m), .val (.tup (.str w :: es)), .val (.int 0), .emp, .emp] (by omega)
          simp [f_Rules_is_part, hst', opGt, opCmp, pg]
        | succ j =>
          have g := good_any m j f (by omega) q kk es s hr hes (PK_ok hpk) (PK_two hpk)
          obtain ⟨q', h1, h2⟩ := hr
          have hst' := star1 3 4 (.str w) es [.val (.ref m), .val (.tup (.str w :: es)), .val (.int ((j : Int) + 1)), .emp, .emp] (by omega)
          simp [f_Rules_is_part, hst', opGt, opCmp, isOf, h1, lk4, kGet, parts_look, hpk, opSub, g, pg]
    cases n with
    | zero => exact hs.elim
    | succ q =>
      obtain ⟨y4, y5, y6, e⟩ := good_loop m k fuel ihp q (.val (.tup (ks.map .str))) (.val (.lst ds)) s hr ks ds .emp .emp .emp hs hk
      have f := s_sFor (iZipTL (eVar 1) (eVar 2)) (gTp [gNm 4, gNm 5]) (gb fuel) [.val (.ref m), .val (.tup (ks.map .str)), .val (.lst ds), .val (.int k), .emp, .emp, .emp] s s _ (by simp [zipTL]; rfl)
      rw [e] at f
      have body : f_Rules_are_good (fuel + 1) = runB 4 7 (sSeq (sFor (iZipTL (eVar 1) (eVar 2)) (gTp [gNm 4, gNm 5]) (gb fuel)) (sRet (eC (.bl true)))) := rfl
      rw [body]
      cases hg : gd k ks ds <;> rw [hg] at f <;> simp [f, brG]
theorem isrow_any {s : Sto} {m : Nat} (hr : RulesOk s m) {w : List Nat} {ks : List (List Nat)} {ds : List D} {n : Nat} (hk : RK w = some ks) (hs : Sh n ks ds) : f_Rules_is_row [.ref m, .tup (.str w :: ds)] s = .ok (.bl (gd 3 ks ds)) s := by
  have hlen : ds.length ≤ 10 := by rw [sh_len hs]; exact RK_two hk
  have g := good_any m 3 12 (by omega) n ks ds s hr hs (RK_ok hk) (RK_two hk)
  obtain ⟨h1, hin⟩ := rows_look hk
  have hin := hin s
  obtain ⟨q, a1, a2⟩ := hr
  have hst := star1 2 3 (.str w) ds [.val (.ref m), .val (.tup (.str w :: ds)), .emp, .emp] (by omega)
  have g' : f_Rules_are_good 12 [.ref m, .tup (ks.map .str), .lst ds, .int 3] s = .ok (.bl (gd 3 ks ds)) s := g
  simp [f_Rules_is_row, hst, fieldOf, a1, lkW, opIn, hin, isOf, lk4, kGet, h1, d_MOST_DEEP, g']
/-! ### a line -/
theorem cut_ne (l : List Nat) (c : Nat) : cutC c l ≠ [] := by
  intro z
  cases l with
  | nil => cases z
  | cons x r =>
    simp only [cutC] at z
    split at z
    · cases z
    · split at z <;> cases z
theorem row_any {l : List Nat} (hl : l.length ≤ cap) (hc : ∀ w ∈ cutC 32 l, Wo w) (hn : (cutC 32 l).length ≤ 60) (s : Sto) : f_row_of [.str l] s = .ok (ansR (rowP 60 (cutC 32 l))) s := by
  cases hcc : cutC 32 l with
  | nil => exact absurd hcc (cut_ne l 32)
  | cons w ws =>
    rw [hcc] at hc hn
    simp only [List.length_cons] at hn
    have hs : cutAt l (.str [32]) s = .ok (.str w :: ws.map .str) s := by
      show (if l.length ≤ cap ∧ 32 < 256 then Res.ok ((cutC 32 l).map D.str) s else .stk) = _
      rw [if_pos ⟨hl, by decide⟩, hcc]
      rfl
    have hw := all_words w s
    cases hk : RK w with
    | none =>
      rw [hk] at hw
      simp [f_row_of, hs, star1L 1 2 (.str w) (ws.map .str) _ (by simp; omega), opNotIn, hw, rowP, hk, ansR]
    | some ks =>
      rw [hk] at hw
      have ht := tak_any 60 ks ws s (RK_ok hk) (RK_two hk) (by omega) (by omega) fun w h => hc w (List.mem_cons_of_mem _ h)
      have hr := (rows_look hk).1
      cases hts : takS 60 ks ws with
      | none =>
        rw [hts] at ht
        simp [f_row_of, hs, star1L 1 2 (.str w) (ws.map .str) _ (by simp; omega), opNotIn, hw, rowP, hk, ansR, kGet, hr, ht, hts, ansT, opIsN, isNon]
      | some p =>
        obtain ⟨ds, r⟩ := p
        rw [hts] at ht
        have hlen : 1 + ds.length ≤ cap := by
          have := takS_len 60 ks ws ds r hts
          have := RK_two hk
          unfold cap; omega
        cases r with
        | nil => simp [f_row_of, hs, star1L 1 2 (.str w) (ws.map .str) _ (by simp; omega), opNotIn, hw, rowP, hk, ansR, kGet, hr, ht, hts, ansT, opIsN, isNon, opIx, seqOf, ixD, place, opNe, view, eq_nil, opAdd, hlen]
        | cons x r => simp [f_row_of, hs, star1L 1 2 (.str w) (ws.map .str) _ (by simp; omega), opNotIn, hw, rowP, hk, ansR, kGet, hr, ht, hts, ansT, opIsN, isNon, opIx, seqOf, ixD, place, opNe, view, eq_nil]
end K24

/-! The plain law of k24: the own reader at any words. Own text. -/
namespace K24
open MP
theorem signs_dig (n : Nat) : ∀ c ∈ signs (n : Int), c ≤ 127 := fun c hc => by
  rw [signs_nat] at hc
  obtain ⟨d, hd, rfl⟩ := List.mem_map.mp hc
  have := Nat.isDigit_of_mem_toDigits (by decide) (by decide) hd
  simp [Char.isDigit] at this
  have h2 := this.2
  exact Nat.le_trans h2 (by decide)
def bnds : List (D × D) := [(.str [110], .int 4), (.str [116], .int 4), (.str [102], .int 3), (.str [109], .int 10), (.str [100], .int 8), (.str [114], .int 13), (.str [119], .int 10007)]
def pts : List (D × D) := PKt.map fun p => (.str p.1, .str (p.2.map kc))
theorem bnds_look {c : Nat} {l : Int} (h : bndC c = some l) : dLook bnds (.str [c]) = some (.int l) := by
  unfold bndC at h
  split at h
  · rename_i e; subst e; cases h; rfl
  split at h
  · rename_i e; subst e; cases h; rfl
  split at h
  · rename_i e; subst e; cases h; rfl
  split at h
  · rename_i e; subst e; cases h; rfl
  split at h
  · rename_i e; subst e; cases h; rfl
  split at h
  · rename_i e; subst e; cases h; rfl
  split at h
  · rename_i e; subst e; cases h; rfl
  · cases h
theorem dLook_map {β : Type} (f : β → D) (w : List Nat) : ∀ t : List (List Nat × β), dLook (t.map fun p => (.str p.1, f p.2)) (.str w) = (t.lookup w).map f
  | [] => rfl
  | (a, b) :: t => by
    have ih := dLook_map f w t
    unfold dLook at ih ⊢
    rw [List.map_cons, List.lookup_cons, List.find?_cons]
    by_cases e : w = a
    · subst e; simp [keyEq]
    · have h1 : (w == a) = false := by simpa using e
      have h2 : keyEq (.str a) (.str w) = false := by simp [keyEq]; exact fun z => e z.symm
      simp only [h1, h2]
      exact ih
theorem pts_look (w : List Nat) : dLook pts (.str w) = (PK w).map fun kk => .str (kk.map kc) := dLook_map (fun kk : List (List Nat) => D.str (kk.map kc)) w PKt
def ansO : Option (List D × Nat) → D
  | none => .non
  | some (ds, m) => .tup [.tup ds, .int (m : Nat)]
/-- the part that reads a number -/
def onum : MS := sSeq (sAsg (eFrz (lLc (iStrI (eVar 7)) (gNm 10) (tVal (eOp2 opNotIn (eBor 10) (eC (.str [48, 49, 50, 51, 52, 53, 54, 55, 56, 57])))) (eVar 10) [10])) (gNm 9)) (sSeq (sIf (tOr (tVal (eOp2 opEq (eBor 7) (eC (.str [])))) (tOr (tVal (eOp2 opGt (eOp1 opLen (eBor 7)) (eC (.int 5)))) (tVal (eOp2 opNe (eBor 9) (eFrz (lLst aNil)))))) (sRet (eC .non)) sNext) (sSeq (sIf (tOr (tVal (eOp2 opNe (eBor 7) (eOp1 opStrOf (eOp1 opIntOf (eBor 7))))) (tVal (eOp2 opGe (eOp1 opIntOf (eBor 7)) (eOp2 opDGet (eVar 4) (eVar 6))))) (sRet (eC .non)) sNext) (sApp 2 (eOp1 opIntOf (eBor 7)))))
/-- the part that reads a part -/
def opart (n : Nat) : MS := sSeq (sAsg (eIf (tVal (eOp2 opDIn (eVar 7) (eVar 5))) (eCall (f_law_taken n) (aCons (eOp2 opDGet (eVar 5) (eVar 7)) (aCons (eFrz (lSl (eBor 1) (oSome (eVar 3)) oNone)) aNil))) (eC .non)) (gNm 8)) (sSeq (sIf (tVal (eOp1 opIsN (eVar 8))) (sRet (eC .non)) sNext) (sSeq (sApp 2 (eOp2 opAdd (eTup (aCons (eVar 7) aNil)) (eOp2 opIx (eBor 8) (eC (.int 0))))) (sAsg (eOp2 opAdd (eBor 3) (eOp2 opIx (eBor 8) (eC (.int 1)))) (gNm 3))))
/-- what stands in the loop of the own reader -/
def ob (n : Nat) : MS := sSeq (sIf (tVal (eOp2 opEq (eBor 3) (eOp1 opLen (eBor 1)))) (sRet (eC .non)) sNext) (sSeq (sAsg (eOp2 opIx (eBor 1) (eBor 3)) (gNm 7)) (sSeq (sAsg (eOp2 opAdd (eBor 3) (eC (.int 1))) (gNm 3)) (sIf (tVal (eOp2 opEq (eBor 6) (eC (.str [112])))) (opart n) onum)))
theorem taken_eq (n : Nat) : f_law_taken (n + 1) = runB 2 11 (sSeq (sParO 2 3 (lLst aNil) (eC (.int 0))) (sSeq (sAsg (eDic (pCons (eC (.str [110])) (eC (.int 4)) (pCons (eC (.str [116])) (eC (.int 4)) (pCons (eC (.str [102])) (eC (.int 3)) (pCons (eC (.str [109])) (eC (.int 10)) (pCons (eC (.str [100])) (eC (.int 8)) (pCons (eC (.str [114])) (eC (.int 13)) (pCons (eC (.str [119])) (eC (.int 10007)) pNil)))))))) (gNm 4)) (sSeq (sAsg (eDic (pCons (eC (.str [110, 117, 109])) (eC (.str [119])) (pCons (eC (.str [110, 97, 109, 101])) (eC (.str [110])) (pCons (eC (.str [102, 105, 101, 108, 100])) (eC (.str [116, 102])) (pCons (eC (.str [115, 105, 100, 101])) (eC (.str [116, 109])) (pCons (eC (.str [115, 117, 109])) (eC (.str [112, 112])) (pCons (eC (.str [108, 101, 115, 115])) (eC (.str [112, 112])) pNil))))))) (gNm 5)) (sSeq (sFor (iStrI (eVar 0)) (gNm 6) (ob n)) (sRet (eTup (aCons (eOp1 opTuple (eBor 2)) (aCons (eVar 3) aNil)))))))) := rfl
abbrev oenv (a0 : Slot) (ws : List D) (acc : List D) (i : Int) (b p : Nat) (z6 z7 z8 z9 z10 : Slot) : Env := [a0, .val (.lst ws), .own acc, .val (.int i), .val (.ref b), .val (.ref p), z6, z7, z8, z9, z10]
theorem ob_end {n : Nat} {a0 : Slot} {ws : List D} {acc : List D} {i : Nat} {b p : Nat} {z6 z7 z8 z9 z10 : Slot} (h : ws.length = i) (s : Sto) : ob n (oenv a0 ws acc (i : Nat) b p z6 z7 z8 z9 z10) s = .rt .non s := by
  simp [ob, opEq, opLen, seqOf, view, h, eqD_int]
theorem ob_step {n : Nat} {a0 : Slot} {ws : List D} {w : List Nat} {acc : List D} {i b p : Nat} {c : Nat} {z7 z8 z9 z10 : Slot} (hi : i < ws.length) (hw : ws[i]? = some (.str w)) (hc : c ≤ 127) (s : Sto) :
    ob n (oenv a0 ws acc (i : Nat) b p (.val (.str [c])) z7 z8 z9 z10) s = (if c = 112 then opart n else onum) (oenv a0 ws acc ((i + 1 : Nat) : Int) b p (.val (.str [c])) (.val (.str w)) z8 z9 z10) s := by
  have h0 : eqD (.int (i : Int)) (.int (ws.length : Int)) = some false := by rw [eqD_int]; simp; omega
  have hix : ixD ws (i : Int) = some (.str w) := by
    unfold ixD place
    rw [if_pos (by omega), if_pos (by omega)]; simpa using hw
  have hp : eqD (.str [c]) (.str [112]) = some (decide (c = 112)) := by rw [eq_str (by simpa using hc) (by simp)]; simp
  by_cases h : c = 112
  · have hd : decide (c = 112) = true := decide_eq_true h
    rw [hd] at hp
    rw [if_pos h]
    simp [ob, opEq, opLen, seqOf, view, h0, opIx, hix, opAdd, hp]
  · have hd : decide (c = 112) = false := decide_eq_false h
    rw [hd] at hp
    rw [if_neg h]
    simp [ob, opEq, opLen, seqOf, view, h0, opIx, hix, opAdd, hp]
def okNum (w : List Nat) (l : Int) : Bool := numOk w && decide ((figs w : Int) < l)
theorem figs_bound : ∀ (r : List Nat) (n : Nat), r.all isFig = true → r.foldl (fun n c => n * 10 + (c - 48)) n < (n + 1) * 10 ^ r.length
  | [], n, _ => by simp
  | d :: r, n, h => by
    rw [List.all_cons, Bool.and_eq_true] at h; have := figs_bound r (n * 10 + (d - 48)) h.2
    have hd := h.1
    simp [isFig] at hd
    rw [List.foldl_cons, List.length_cons, Nat.pow_succ]; refine Nat.lt_of_lt_of_le this ?_
    rw [Nat.mul_comm (10 ^ r.length) 10, ← Nat.mul_assoc]; exact Nat.mul_le_mul_right _ (by omega)
theorem figs_small {w : List Nat} (h : w.all isFig = true) (hl : w.length ≤ 5) : figs w < 100000 := by
  have h1 := figs_bound w 0 h
  have h2 : 10 ^ w.length ≤ 10 ^ 5 := Nat.pow_le_pow_right (by decide) hl
  unfold figs
  omega
section
variable {a0 : Slot} {ws : List D} {w : List Nat} {acc : List D} {i : Int} {b p : Nat} {c : Nat} {l : Int} {z8 z9 z10 : Slot}
theorem onum_list (hwo : Wo w) (s : Sto) : lLc (iStrI (eVar 7)) (gNm 10) (tVal (eOp2 opNotIn (eBor 10) (eC (.str [48, 49, 50, 51, 52, 53, 54, 55, 56, 57])))) (eVar 10) [10] (oenv a0 ws acc i b p (.val (.str [c])) (.val (.str w)) z8 z9 z10) s = .ok (noFig w) s := by
  rw [s_lLc _ _ _ _ _ _ s s (w.map fun c => .str [c]) (by simp) (by rw [List.length_map]; exact hwo.2)]
  exact sign_all _ rfl 10 _ (by simp [wipeE]) w s
theorem onum_bad (hwo : Wo w) (h : w = [] ∨ 5 < w.length ∨ w.all isFig = false) (s : Sto) : onum (oenv a0 ws acc i b p (.val (.str [c])) (.val (.str w)) z8 z9 z10) s = .rt .non s := by
  have lc := onum_list (a0 := a0) (ws := ws) (acc := acc) (i := i) (b := b) (p := p) (c := c) (z8 := z8) (z9 := z9) (z10 := z10) hwo s
  have e1 : eqD (.str w) (.str []) = some (decide (w = [])) := eq_str hwo.1 (by simp)
  have hcap := hwo.2
  by_cases c0 : w = []
  · subst c0
    simp [onum, opEq, view, lc, e1]
  · by_cases c1 : 5 < w.length
    · have c1' : (5 : Int) < w.length := by omega
      simp [onum, opEq, opLen, view, lc, e1, c0, opGt, opCmp, hcap, c1']
    · have c1' : ¬ (5 : Int) < w.length := by omega
      have c2 : ¬ w.all isFig = true := by
        rcases h with h | h | h
        · exact absurd h c0
        · exact absurd h c1
        · rw [h]; decide
      have q1 : (noFig w).isEmpty = false := by
        cases z : noFig w with
        | nil => exact absurd (noFig_nil.mp z) c2
        | cons => rfl
      simp [onum, opEq, opNe, opLen, view, lc, e1, c0, opGt, opCmp, hcap, c1', eq_nil, q1]
theorem int_word (c0 : w ≠ []) (c1 : w.length ≤ 5) (c2 : w.all isFig = true) (s : Sto) : opIntOf s (.str w) = some (.int (figs w : Nat)) := by
  unfold opIntOf
  simp only
  rw [if_pos ⟨c0, by omega, c2⟩]
theorem str_nat {n : Nat} (h : n < 100000) (s : Sto) : opStrOf s (.int (n : Nat)) = some (.str (signs (n : Nat))) := by
  have hsm : smallI (n : Nat) = true := by simp [smallI]; omega
  unfold opStrOf
  simp only
  rw [if_pos hsm]
theorem get_bnd (hb : bndC c = some l) {s : Sto} (sb : s[b]? = some (.dic bnds)) : opDGet s (.ref b) (.str [c]) = some (.int l) := by
  simp [opDGet, isKey, dicOf, sb, bnds_look hb]
theorem onum_run {nn : Int} {sg : List Nat} (hwo : Wo w) (c0 : w ≠ []) (c1 : w.length ≤ 5) (q1 : (noFig w).isEmpty = true) {s : Sto} (hint : opIntOf s (.str w) = some (.int nn)) (hstr : opStrOf s (.int nn) = some (.str sg)) (q3 : eqD (.str w) (.str sg) = some (decide (w = sg))) (hg : opDGet s (.ref b) (.str [c]) = some (.int l)) (ha : acc.length < cap) :
    onum (oenv a0 ws acc i b p (.val (.str [c])) (.val (.str w)) z8 z9 z10) s = if w = sg ∧ nn < l then .nx (oenv a0 ws (acc ++ [.int nn]) i b p (.val (.str [c])) (.val (.str w)) z8 (.val (.lst (noFig w))) z10) s else .rt .non s := by
  have lc := onum_list (a0 := a0) (ws := ws) (acc := acc) (i := i) (b := b) (p := p) (c := c) (z8 := z8) (z9 := z9) (z10 := z10) hwo s
  have e1 : eqD (.str w) (.str []) = some false := by rw [eq_str hwo.1 (by simp)]; simp [c0]
  have hcap := hwo.2
  have c1' : ¬ (5 : Int) < w.length := by omega
  by_cases hs : w = sg
  · have d1 : decide (w = sg) = true := decide_eq_true hs
    rw [d1] at q3
    by_cases hlt : nn < l
    · have hlt' : ¬ l ≤ nn := by omega
      rw [if_pos ⟨hs, hlt⟩]
      simp [onum, opEq, opNe, opLen, view, lc, e1, opGt, opGe, opCmp, hcap, c1', eq_nil, q1, hint, hstr, q3, hg, hlt', ha]
    · have hlt' : l ≤ nn := by omega
      rw [if_neg (fun z => hlt z.2)]
      simp [onum, opEq, opNe, opLen, view, lc, e1, opGt, opGe, opCmp, hcap, c1', eq_nil, q1, hint, hstr, q3, hg, hlt']
  · have d1 : decide (w = sg) = false := decide_eq_false hs
    rw [d1] at q3
    rw [if_neg (fun z => hs z.1)]
    simp [onum, opEq, opNe, opLen, view, lc, e1, opGt, opCmp, hcap, c1', eq_nil, q1, hint, hstr, q3]
theorem okNum_iff (c0 : w ≠ []) (c1 : w.length ≤ 5) (c2 : w.all isFig = true) (hl : l ≤ 10007) : (w = signs (figs w : Nat) ∧ ((figs w : Nat) : Int) < l) ↔ okNum w l = true := by
  unfold okNum
  rw [Bool.and_eq_true, decide_eq_true_eq]
  refine ⟨fun h => ⟨(signs_numOk c0 c1 c2 (by omega)).mp h.1.symm, h.2⟩, fun h => ⟨(numOk_signs h.1 (by omega)).symm, h.2⟩⟩
theorem onum_good (hwo : Wo w) (c0 : w ≠ []) (c1 : w.length ≤ 5) (c2 : w.all isFig = true) (hb : bndC c = some l) (hl : l ≤ 10007) (ha : acc.length < cap) {s : Sto} (sb : s[b]? = some (.dic bnds)) : onum (oenv a0 ws acc i b p (.val (.str [c])) (.val (.str w)) z8 z9 z10) s =
    if okNum w l = true then .nx (oenv a0 ws (acc ++ [.int (figs w : Nat)]) i b p (.val (.str [c])) (.val (.str w)) z8 (.val (.lst (noFig w))) z10) s else .rt .non s := by
  have q1 : (noFig w).isEmpty = true := by rw [noFig_nil.mpr c2]; rfl
  rw [onum_run hwo c0 c1 q1 (int_word c0 c1 c2 s) (str_nat (figs_small c2 c1) s) (eq_str hwo.1 (signs_dig _)) (get_bnd hb sb) ha]
  have h := okNum_iff c0 c1 c2 hl
  by_cases z : okNum w l = true
  · rw [if_pos z, if_pos (h.mpr z)]
  · rw [if_neg z, if_neg (fun y => z (h.mp y))]
theorem onum_any (hwo : Wo w) (hb : bndC c = some l) (hl : l ≤ 10007) (ha : acc.length < cap) {s : Sto} (sb : s[b]? = some (.dic bnds)) : onum (oenv a0 ws acc i b p (.val (.str [c])) (.val (.str w)) z8 z9 z10) s =
    if okNum w l = true then .nx (oenv a0 ws (acc ++ [.int (figs w : Nat)]) i b p (.val (.str [c])) (.val (.str w)) z8 (.val (.lst (noFig w))) z10) s else .rt .non s := by
  by_cases h : w = [] ∨ 5 < w.length ∨ w.all isFig = false
  · rw [onum_bad hwo h s, if_neg]
    intro z
    simp only [okNum, numOk, Bool.and_eq_true, decide_eq_true_eq] at z
    rcases h with h | h | h
    · subst h; simp at z
    · omega
    · rw [h] at z; simp at z
  · simp only [not_or] at h
    exact onum_good hwo h.1 (by omega) (by simpa using h.2.2) hb hl ha sb
def brO (s : Sto) (a0 : Slot) (ws : List D) (acc : List D) (i : Int) (b p : Nat) (c : Nat) (w : List Nat) (z9 z10 : Slot) : Option (List D × Nat) → SRes
  | none => .rt .non s
  | some (es, m) => .nx (oenv a0 ws (acc ++ [.tup (.str w :: es)]) (i + (m : Int)) b p (.val (.str [c])) (.val (.str w)) (.val (.tup [.tup es, .int (m : Nat)])) z9 z10) s
theorem opart_no {n : Nat} (hp : PK w = none) {s : Sto} (sp : s[p]? = some (.dic pts)) : opart n (oenv a0 ws acc i b p (.val (.str [c])) (.val (.str w)) z8 z9 z10) s = .rt .non s := by
  have hd : opDIn s (.str w) (.ref p) = some (.bl false) := by simp [opDIn, isKey, dicOf, sp, pts_look, hp]
  simp [opart, hd, opIsN, isNon]
theorem opart_rec {n : Nat} {kk : List (List Nat)} (hp : PK w = some kk) {s s' : Sto} (sp : s[p]? = some (.dic pts)) {ns : List D} (hsl : cutD ws (some i) none = ns) (o : Option (List D × Nat)) (ht : f_law_taken n [.str (kk.map kc), .lst ns] s = .ok (ansO o) s') (ha : acc.length < cap) (he : ∀ q, o = some q → 1 + q.1.length ≤ cap) :
    opart n (oenv a0 ws acc i b p (.val (.str [c])) (.val (.str w)) z8 z9 z10) s = brO s' a0 ws acc i b p c w z9 z10 o := by
  have hd : opDIn s (.str w) (.ref p) = some (.bl true) := by simp [opDIn, isKey, dicOf, sp, pts_look, hp]
  have hg : opDGet s (.ref p) (.str w) = some (.str (kk.map kc)) := by simp [opDGet, isKey, dicOf, sp, pts_look, hp]
  cases o with
  | none =>
    have ht' : f_law_taken n [.str (kk.map kc), .lst ns] s = .ok .non s' := ht
    simp [opart, hd, hg, view, hsl, ht', opIsN, isNon, brO]
  | some q =>
    obtain ⟨es, m⟩ := q
    have ht' : f_law_taken n [.str (kk.map kc), .lst ns] s = .ok (.tup [.tup es, .int (m : Nat)]) s' := ht
    have he' : 1 + es.length ≤ cap := he _ rfl
    simp [opart, hd, hg, view, hsl, ht', opIsN, isNon, opIx, seqOf, ixD, place, opAdd, he', ha, brO]
end
end K24

/-! The plain law of k24: the own reader, whole. Own text. -/
namespace K24
open MP
def okC (c : Nat) : Prop := c ≤ 127 ∧ (c = 112 ∨ ∃ l, bndC c = some l ∧ l ≤ 10007)
theorem kc_ok {k : List Nat} (h : k ∈ kinds8) : okC (kc k) := by
  rcases kind_cases h with ⟨rfl, e⟩ | ⟨e, e2, l, _, h2, h3⟩
  · exact ⟨by decide, .inl e⟩
  · refine ⟨?_, .inr ⟨l, h2, h3⟩⟩
    unfold kc
    repeat' split
    all_goals decide
def TakO (n : Nat) : Prop := ∀ (cs : List Nat) (ws : List (List Nat)) (s : Sto), (∀ c ∈ cs, okC c) → cs.length ≤ 10 → ws.length < n → ws.length ≤ 1000 → (∀ w ∈ ws, Wo w) → ∃ t, f_law_taken n [.str cs, .lst (ws.map .str)] s = .ok (ansO (ownS n cs ws)) (s ++ t)
theorem own_len {rec : Ow} : ∀ (cs : List Nat) (ws : List (List Nat)) (ds : List D) (m : Nat), ownL rec cs ws = some (ds, m) → ds.length = cs.length
  | [], ws, ds, m, h => by simp only [ownL, Option.some.injEq, Prod.mk.injEq] at h; rw [← h.1]; rfl
  | c :: cs, [], ds, m, h => by cases h
  | c :: cs, w :: ws, ds, m, h => by
    simp only [ownL] at h
    split at h
    · split at h
      · cases h
      · split at h
        · cases h
        · obtain ⟨p, e2, e3⟩ := Option.map_eq_some_iff.mp h
          cases e3
          simp [own_len cs _ p.1 p.2 e2]
    · split at h
      · split at h
        · obtain ⟨p, e2, e3⟩ := Option.map_eq_some_iff.mp h
          cases e3
          simp [own_len cs _ p.1 p.2 e2]
        · cases h
      · cases h
theorem ownS_len : ∀ (n : Nat) (cs : List Nat) (ws : List (List Nat)) (ds : List D) (m : Nat), ownS n cs ws = some (ds, m) → ds.length = cs.length
  | 0, _, _, _, _, z => by cases z
  | n + 1, cs, ws, ds, m, h => own_len cs ws ds m h
theorem drop_cut (ws : List (List Nat)) (i : Nat) : cutD (ws.map D.str) (some (i : Int)) none = (ws.drop i).map .str := by
  have e1 : partIx (ws.map D.str).length 0 (some (i : Int)) = min i ws.length := by simp [partIx]; intro h; omega
  have e2 : partIx (ws.map D.str).length (ws.map D.str).length none = ws.length := by simp [partIx]
  unfold cutD
  rw [e1, e2, ← List.map_drop, List.take_of_length_le (by simp)]
  congr 1
  by_cases h : i ≤ ws.length
  · rw [Nat.min_eq_left h]
  · rw [Nat.min_eq_right (by omega), List.drop_length, List.drop_of_length_le (by omega)]
theorem own_loop (n : Nat) (ih : TakO n) (a0 : Slot) (W : List (List Nat)) (b p : Nat) (hW : ∀ w ∈ W, Wo w) (hWl : W.length ≤ 1000) (hWn : W.length ≤ n) : ∀ (cs : List Nat) (i : Nat) (acc : List D) (z6 z7 z8 z9 z10 : Slot) (s : Sto), (∀ c ∈ cs, okC c) → i ≤ W.length → acc.length + cs.length ≤ 100 → s[b]? = some (.dic bnds) → s[p]? = some (.dic pts) →
    ∃ t y6 y7 y8 y9 y10, forP (gNm 6) (ob n) (cs.map fun c => .str [c]) (oenv a0 (W.map .str) acc (i : Nat) b p z6 z7 z8 z9 z10) s = match ownL (ownS n) cs (W.drop i) with
      | none => .rt .non (s ++ t)
      | some (ds, m) => .nx (oenv a0 (W.map .str) (acc ++ ds) ((i + m : Nat) : Int) b p y6 y7 y8 y9 y10) (s ++ t)
  | [], i, acc, z6, z7, z8, z9, z10, s, _, _, _, _, _ => ⟨[], z6, z7, z8, z9, z10, by simp [forP, ownL]⟩
  | c :: cs, i, acc, z6, z7, z8, z9, z10, s, hc, hi, ha, sb, sp => by
    have hcs : ∀ c ∈ cs, okC c := fun x hx => hc x (List.mem_cons_of_mem _ hx)
    have hc1 := hc c List.mem_cons_self
    simp only [List.length_cons] at ha
    have hca : acc.length < cap := by unfold cap; omega
    have hset : (oenv a0 (W.map .str) acc (i : Nat) b p z6 z7 z8 z9 z10).set 6 (.val (.str [c])) = oenv a0 (W.map .str) acc (i : Nat) b p (.val (.str [c])) z7 z8 z9 z10 := rfl
    simp only [List.map_cons, forP, s_gNm, hset]
    by_cases hil : W.length = i
    · have e := ob_end (n := n) (a0 := a0) (acc := acc) (b := b) (p := p) (z6 := .val (.str [c])) (z7 := z7) (z8 := z8) (z9 := z9) (z10 := z10) (ws := W.map .str) (by simpa using hil) s
      rw [e]
      have : W.drop i = [] := by rw [← hil, List.drop_length]
      rw [this]
      exact ⟨[], z6, z7, z8, z9, z10, by simp [ownL]⟩
    · have hlt : i < W.length := by omega
      have hd : W.drop i = W[i] :: W.drop (i + 1) := List.drop_eq_getElem_cons hlt
      have hwi : (W.map D.str)[i]? = some (.str W[i]) := by simp [hlt]
      have hwo : Wo W[i] := hW _ (List.getElem_mem hlt)
      rw [ob_step (by simpa using hlt) hwi hc1.1 s, hd]
      generalize hw : W[i] = w at hwo
      by_cases h12 : c = 112
      · rw [if_pos h12]
        simp only [ownL, if_pos h12]
        cases hp : PK w with
        | none =>
          rw [opart_no hp sp]
          exact ⟨[], z6, z7, z8, z9, z10, by simp⟩
        | some kk =>
          obtain ⟨t1, ht⟩ := ih (kk.map kc) (W.drop (i + 1)) s (fun c hx => by
            obtain ⟨k, hk, rfl⟩ := List.mem_map.mp hx
            exact kc_ok (PK_ok hp k hk)) (by rw [List.length_map]; exact PK_two hp) (by rw [List.length_drop]; omega) (by rw [List.length_drop]; omega) fun w hx => hW w (List.mem_of_mem_drop hx)
          rw [opart_rec hp sp (drop_cut W (i + 1)) _ ht hca fun q hq => by
            have := ownS_len _ _ _ _ _ hq
            rw [List.length_map] at this
            have := PK_two hp
            unfold cap; omega]
          cases ho : ownS n (kk.map kc) (W.drop (i + 1)) with
          | none => exact ⟨t1, z6, z7, z8, z9, z10, by simp [brO, ho]⟩
          | some q =>
            obtain ⟨es, m⟩ := q
            have hm : m ≤ W.length - (i + 1) := by
              rw [ownS_via n kk _ (PK_ok hp)] at ho
              unfold viaT at ho
              split at ho
              · cases ho
              · split at ho
                · cases ho
                  rw [List.length_drop]; omega
                · cases ho
            obtain ⟨t2, y6, y7, y8, y9, y10, e⟩ := own_loop n ih a0 W b p hW hWl hWn cs (i + 1 + m) (acc ++ [.tup (.str w :: es)]) (.val (.str [c])) (.val (.str w)) (.val (.tup [.tup es, .int (m : Nat)])) z9 z10 (s ++ t1) hcs (by omega) (by simp; omega) (by rw [List.getElem?_append_left (List.getElem?_eq_some_iff.mp sb).1]; exact sb) (by rw [List.getElem?_append_left (List.getElem?_eq_some_iff.mp sp).1]; exact sp)
            refine ⟨t1 ++ t2, y6, y7, y8, y9, y10, ?_⟩
            have ei : (((i + 1 : Nat) : Int) + (m : Int)) = ((i + 1 + m : Nat) : Int) := by omega
            simp only [brO, ei, ho, List.drop_drop]
            rw [e]
            cases ownL (ownS n) cs (W.drop (i + 1 + m)) with
            | none => simp
            | some q2 =>
              simp only [Option.map_some, List.append_assoc]
              rw [show i + (1 + m + q2.2) = i + 1 + m + q2.2 from by omega]
              rfl
      · rw [if_neg h12]
        obtain ⟨l, hl, hl2⟩ := hc1.2.resolve_left h12
        rw [onum_any hwo hl hl2 hca sb]
        simp only [ownL, if_neg h12, hl]
        by_cases ho : okNum w l = true
        · rw [if_pos ho]
          have hon : numOk w = true ∧ (figs w : Int) < l := by simpa [okNum] using ho
          rw [if_pos hon]
          obtain ⟨t2, y6, y7, y8, y9, y10, e⟩ := own_loop n ih a0 W b p hW hWl hWn cs (i + 1) (acc ++ [.int (figs w : Nat)]) (.val (.str [c])) (.val (.str w)) z8 (.val (.lst (noFig w))) z10 s hcs (by omega) (by simp; omega) sb sp
          refine ⟨t2, y6, y7, y8, y9, y10, ?_⟩
          simp only
          rw [e]
          cases ownL (ownS n) cs (W.drop (i + 1)) with
          | none => rfl
          | some q2 =>
            simp only [Option.map_some, List.append_assoc]
            rw [show i + (1 + q2.2) = i + 1 + q2.2 from by omega]
            rfl
        · rw [if_neg ho]
          have hon : ¬ (numOk w = true ∧ (figs w : Int) < l) := by simpa [okNum] using ho
          rw [if_neg hon]
          exact ⟨[], z6, z7, z8, z9, z10, by simp⟩
theorem own_any : ∀ n : Nat, TakO n
  | 0 => fun cs ws s _ _ h => absurd h (by omega)
  | n + 1 => fun cs ws s hc hcl hn hl hw => by
    obtain ⟨t, y6, y7, y8, y9, y10, e⟩ := own_loop n (own_any n) (.val (.str cs)) ws s.length (s.length + 1) hw hl (by omega) cs 0 [] .emp .emp .emp .emp .emp (s ++ [.dic bnds, .dic pts]) hc (by omega) (by simp; omega) (by simp) (by simp)
    rw [List.drop_zero] at e
    refine ⟨[.dic bnds, .dic pts] ++ t, ?_⟩
    have f := s_sFor (iStrI (eVar 0)) (gNm 6) (ob n) (oenv (.val (.str cs)) (ws.map .str) [] ((0 : Nat) : Int) s.length (s.length + 1) .emp .emp .emp .emp .emp) (s ++ [.dic bnds, .dic pts]) (s ++ [.dic bnds, .dic pts]) (cs.map fun c => .str [c]) (by simp)
    rw [e] at f
    have m1 : dMerge [] [(D.str [110], D.int 4), (D.str [116], D.int 4), (D.str [102], D.int 3), (D.str [109], D.int 10), (D.str [100], D.int 8), (D.str [114], D.int 13), (D.str [119], D.int 10007)] = bnds := rfl
    have m2 : dMerge [] [(D.str [110, 117, 109], D.str [119]), (D.str [110, 97, 109, 101], D.str [110]), (D.str [102, 105, 101, 108, 100], D.str [116, 102]), (D.str [115, 105, 100, 101], D.str [116, 109]), (D.str [115, 117, 109], D.str [112, 112]), (D.str [108, 101, 115, 115], D.str [112, 112])] = pts := rfl
    rw [taken_eq]
    have eo : ownS (n + 1) cs ws = ownL (ownS n) cs ws := rfl
    rw [eo]
    generalize (ws.map D.str) = wd at f ⊢
    cases ho : ownL (ownS n) cs ws with
    | none =>
      rw [ho] at f
      simp at f
      simp [eDic, pCons, pNil, m1, m2, isKey, f, ansO]
    | some q =>
      rw [ho] at f
      obtain ⟨ds, m⟩ := q
      simp at f
      simp [eDic, pCons, pNil, m1, m2, isKey, f, ansO, opTuple, seqOf]
end K24

/-! The plain law of k24: how deep, the own reader of lines. Own text. -/
namespace K24
open MP
def tups : List D → List Int
  | [] => []
  | .tup es :: ds => (dpt (.tup es) : Int) :: tups ds
  | _ :: ds => tups ds
theorem tups_max : ∀ (ds : List D) (a : Int), 0 ≤ a → (tups ds).foldl max a = max a (dpts ds : Nat)
  | [], a, h => by simp [tups, dpts]; omega
  | d :: ds, a, h => by
    cases d with
    | tup es =>
      simp only [tups, List.foldl_cons, dpts]
      rw [tups_max ds _ (by omega)]
      omega
    | _ =>
      simp only [tups, dpts, dpt]
      rw [tups_max ds a h]
      omega
theorem tups_len : ∀ ds : List D, (tups ds).length ≤ ds.length
  | [] => by simp [tups]
  | d :: ds => by
    have := tups_len ds
    cases d <;> simp [tups] <;> omega
theorem intsOf_map : ∀ ns : List Int, intsOf (ns.map D.int) = some ns
  | [] => rfl
  | n :: ns => by simp [intsOf, intsOf_map ns]
def Dp (n : Nat) : Prop := ∀ (m : Nat) (kk : List (List Nat)) (es : List D) (w : List Nat) (s : Sto), Sh m kk es → dpts es < n → es.length ≤ 100 → f_law_deep n [.tup (.str w :: es)] s = .ok (.int ((1 + dpts es : Nat) : Int)) s
theorem deep_loop (n : Nat) (ih : Dp n) (m : Nat) (a0 : Slot) (s : Sto) : ∀ (ks : List (List Nat)) (ds : List D), ShL (Sh m) ks ds → dpts ds ≤ n → lcP (gNm 1) (tVal (eOp1 (opKind .tuple) (eVar 1))) (eCall (f_law_deep n) (aCons (eVar 1) aNil)) [a0, .emp] ds s = .ok ((tups ds).map .int) s
  | [], [], _, _ => rfl
  | [], _ :: _, h, _ => h.elim
  | _ :: _, [], h, _ => h.elim
  | k :: ks, d :: ds, h, hl => by
    have h1 := h.1
    simp only [dpts] at hl
    have e := deep_loop n ih m a0 s ks ds h.2 (by omega)
    by_cases hp : k = kPart
    · rw [if_pos hp] at h1
      obtain ⟨w, es, kk, rfl, hpk, hs⟩ := h1
      have hes : es.length ≤ 100 := by rw [sh_len hs]; have := PK_two hpk; omega
      have hd : dpt (.tup (.str w :: es)) = 1 + dpts es := by simp [dpt, dpts]
      rw [hd] at hl
      have t := ih m kk es w s hs (by omega) hes
      simp only [lcP]
      simp [opKind, kindOf, Ki.isA, t, e, tups, hd]
    · rw [if_neg hp] at h1
      obtain ⟨z, rfl⟩ := h1
      simp only [lcP]
      simp [opKind, kindOf, Ki.isA, e, tups]
theorem deep_any : ∀ n : Nat, Dp n
  | 0 => fun m kk es w s _ h => absurd h (by omega)
  | n + 1 => fun m kk es w s hs hd hl => by
    cases m with
    | zero => exact hs.elim
    | succ m =>
      have e := deep_loop n (deep_any n) m (.val (.tup (.str w :: es))) s kk es hs (by omega)
      have hc : cutD (.str w :: es) (some 1) none = es := by simp [cutD, partIx]
      have l := s_lLc (iSeq (eSlT (eVar 0) (oSome (eC (.int 1))) oNone)) (gNm 1) (tVal (eOp1 (opKind .tuple) (eVar 1))) (eCall (f_law_deep n) (aCons (eVar 1) aNil)) [1] [.val (.tup (.str w :: es)), .emp] s s es (by simp [hc, srcOf]) (by unfold cap; omega)
      have hw : wipeE [.val (.tup (.str w :: es)), .emp] [1] = [.val (.tup (.str w :: es)), .emp] := rfl
      rw [hw, e] at l
      have tl := tups_len es
      have hcap : 1 + (tups es).length ≤ cap := by unfold cap; omega
      have hm := tups_max es 0 (by omega)
      have hi : intsOf (.int 0 :: (tups es).map D.int) = some (0 :: tups es) := by simp [intsOf, intsOf_map]
      have body : f_law_deep (n + 1) = runB 1 2 (sRet (eOp2 opAdd (eC (.int 1)) (eOp1 opMax (eFrz (lAdd (eFrz (lLst (aCons (eC (.int 0)) aNil))) (eFrz (lLc (iSeq (eSlT (eVar 0) (oSome (eC (.int 1))) oNone)) (gNm 1) (tVal (eOp1 (opKind .tuple) (eVar 1))) (eCall (f_law_deep n) (aCons (eVar 1) aNil)) [1])))))) ) := rfl
      rw [body]
      have hmx : max (0 : Int) (dpts es : Nat) = (dpts es : Nat) := by omega
      rw [hmx] at hm
      simp [l, view, hcap, opMax, hi, hm, opAdd]
/-! ### a line -/
def rts : List (D × D) := RKt.map fun p => (.str p.1, .str (p.2.map kc))
def rt7 : List (D × D) := rts.take 7
theorem rts_look (w : List Nat) : dLook rts (.str w) = (RK w).map fun kk => .str (kk.map kc) := dLook_map (fun kk : List (List Nat) => D.str (kk.map kc)) w RKt
/-- what the own reader tells of a line's words -/
def rowO (fuel : Nat) : List (List Nat) → Option D
  | [] => none
  | w :: ws => match RK w with
    | none => none
    | some ks => match ownS fuel (ks.map kc) ws with
      | none => none
      | some (ds, m) => if m < ws.length ∨ 3 < dpts ds then none else some (.tup (.str w :: ds))
theorem dpts_tak {rec : Tk} {n : Nat} (h : ∀ ks ws ds r, rec ks ws = some (ds, r) → 1 + dpts ds ≤ n) : ∀ (ks ws : List (List Nat)) (ds : List D) (r : List (List Nat)), takL rec ks ws = some (ds, r) → dpts ds ≤ n
  | [], ws, ds, r, e => by simp only [takL, Option.some.injEq, Prod.mk.injEq] at e; rw [← e.1]; simp [dpts]
  | k :: ks, [], ds, r, e => by cases e
  | k :: ks, w :: ws, ds, r, e => by
    simp only [takL] at e
    split at e
    · split at e
      · cases e
      · split at e
        · cases e
        · rename_i es r1 e1
          obtain ⟨p, e2, e3⟩ := Option.map_eq_some_iff.mp e
          cases e3
          have a := h _ _ _ _ e1
          have b := dpts_tak h ks r1 p.1 p.2 e2
          simp only [dpts, dpt]
          omega
    · obtain ⟨p, e2, e3⟩ := Option.map_eq_some_iff.mp e
      cases e3
      have b := dpts_tak h ks ws p.1 p.2 e2
      simp only [dpts, dpt]
      omega
theorem dpts_takS : ∀ (n : Nat) (ks ws : List (List Nat)) (ds : List D) (r : List (List Nat)), takS n ks ws = some (ds, r) → 1 + dpts ds ≤ n
  | 0, _, _, _, _, z => by cases z
  | n + 1, ks, ws, ds, r, h => by
    have := dpts_tak (n := n) (dpts_takS n) ks ws ds r h
    omega
/-- both tell the same of a line -/
theorem rowO_rowS (ws : List (List Nat)) : rowO 60 ws = rowS 60 ws := by
  cases ws with
  | nil => rfl
  | cons w ws =>
    simp only [rowO, rowS]
    cases hk : RK w with
    | none => rfl
    | some ks =>
      simp only
      rw [ownS_via 60 ks ws (RK_ok hk)]
      cases ht : takS 60 ks ws with
      | none => rfl
      | some p =>
        obtain ⟨ds, r⟩ := p
        obtain ⟨m, er, hm⟩ := takS_suffix 60 ks ws ds r ht
        have hrl : r.length ≤ ws.length := by rw [er, List.length_drop]; omega
        simp only [viaT]
        by_cases hg : ng 60 ks ds = true
        · rw [if_pos hg]
          have hd := gd_deep 60 3 ks ds hg
          simp only
          cases r with
          | nil =>
            simp only [List.length_nil, Nat.sub_zero, hd]
            by_cases h3 : dpts ds ≤ 3
            · rw [if_neg (by omega), if_pos (by simpa using h3)]
            · rw [if_pos (by omega), if_neg (by simpa using h3)]
          | cons x r =>
            simp only [List.length_cons] at hrl ⊢
            rw [if_pos (by omega)]
        · rw [if_neg hg]
          cases r with
          | nil =>
            have : ¬ gd 3 ks ds = true := fun z => hg (ng_le (by omega) (gd_ng 3 ks ds z))
            simp [this]
          | cons x r => rfl
def ansD : Option D → D
  | none => .non
  | some d => d
theorem rowof_own {l : List Nat} (hl : l.length ≤ cap) (hc : ∀ w ∈ cutC 32 l, Wo w) (hn : (cutC 32 l).length ≤ 60) (s : Sto) : ∃ t, f_law_row_of [.str l] s = .ok (ansD (rowO 60 (cutC 32 l))) (s ++ t) := by
  cases hcc : cutC 32 l with
  | nil => exact absurd hcc (cut_ne l 32)
  | cons w ws =>
    rw [hcc] at hc hn
    simp only [List.length_cons] at hn
    have hs : ∀ s, cutAt l (.str [32]) s = .ok (.str w :: ws.map .str) s := fun s => by
      show (if l.length ≤ cap ∧ 32 < 256 then Res.ok ((cutC 32 l).map D.str) s else .stk) = _
      rw [if_pos ⟨hl, by decide⟩, hcc]
      rfl
    have m1 : dMerge [] [(D.str [115, 101, 116], D.str [110, 112]), (D.str [112, 117, 116], D.str [116, 102, 112]), (D.str [115, 105, 100, 101], D.str [116, 109, 112]), (D.str [99, 97, 108, 108], D.str [110, 100, 112]), (D.str [103, 111], D.str [114]), (D.str [117, 110, 108, 101, 115, 115], D.str [110, 114]), (D.str [119, 97, 105, 116], D.str [116, 102])] = rt7 := rfl
    have m2 : dPut rt7 (.str [97, 110, 115, 119, 101, 114]) (.str [112]) = rts := rfl
    have l7 : rt7.length < 1000 := by decide
    have hset : (s ++ [Ob.dic rt7]).set s.length (.dic rts) = s ++ [.dic rts] := by simp
    have hsr : (s ++ [Ob.dic rts])[s.length]? = some (.dic rts) := by simp
    have hst7 : (s ++ [Ob.dic rt7])[s.length]? = some (.dic rt7) := by simp
    have hix : ∀ v : List D, ixD (.str w :: v) 0 = some (.str w) := fun v => by simp [ixD, place]
    cases hk : RK w with
    | none =>
      have hno : opDNotIn (s ++ [.dic rts]) (.str w) (.ref s.length) = some (.bl true) := by simp [opDNotIn, isKey, dicOf, hsr, rts_look, hk]
      refine ⟨[.dic rts], ?_⟩
      simp [f_law_row_of, hs, eDic, pCons, pNil, m1, isKey, putAt, hst7, l7, m2, hset, opIx, seqOf, hix, hno, rowO, hk, ansD]
    | some ks =>
      have hno : opDNotIn (s ++ [.dic rts]) (.str w) (.ref s.length) = some (.bl false) := by simp [opDNotIn, isKey, dicOf, hsr, rts_look, hk]
      have hg : opDGet (s ++ [.dic rts]) (.ref s.length) (.str w) = some (.str (ks.map kc)) := by simp [opDGet, isKey, dicOf, hsr, rts_look, hk]
      obtain ⟨t, ht⟩ := own_any 60 (ks.map kc) ws (s ++ [.dic rts]) (fun c hx => by
            obtain ⟨k, hk', rfl⟩ := List.mem_map.mp hx
            exact kc_ok (RK_ok hk k hk')) (by rw [List.length_map]; exact RK_two hk) (by omega) (by omega) fun w h => hc w (List.mem_cons_of_mem _ h)
      have hcut : cutD (.str w :: ws.map D.str) (some 1) none = ws.map .str := cut1 _ _
      refine ⟨[.dic rts] ++ t, ?_⟩
      cases ho : ownS 60 (ks.map kc) ws with
      | none =>
        rw [ho] at ht
        simp at ht
        simp [f_law_row_of, hs, eDic, pCons, pNil, m1, isKey, putAt, hst7, l7, m2, hset, opIx, seqOf, hix, hno, hg, view, hcut, ht, ansO, opIsN, isNon, rowO, hk, ho, ansD]
      | some q =>
        obtain ⟨ds, m⟩ := q
        rw [ho] at ht
        simp at ht
        have hsh : Sh 60 ks ds ∧ dpts ds < 60 := by
          have ho' := ho
          rw [ownS_via 60 ks ws (RK_ok hk)] at ho'
          unfold viaT at ho'
          split at ho'
          · cases ho'
          · rename_i es r hts
            split at ho'
            · cases ho'
              exact ⟨sh_takS 60 ks ws _ _ hts, by have := dpts_takS 60 ks ws _ _ hts; omega⟩
            · cases ho'
        have hlen : ds.length ≤ 10 := by rw [sh_len hsh.1]; exact RK_two hk
        have hdp := deep_any 60 60 ks ds w (s ++ (Ob.dic rts :: t)) hsh.1 hsh.2 (by omega)
        have hcap : 1 + ds.length ≤ cap := by unfold cap; omega
        have hl1 : ((ws.length : Int) + 1 - 1) = ws.length := by omega
        by_cases hm : m < ws.length
        · have hm' : (m : Int) < ws.length := by omega
          simp [f_law_row_of, hs, eDic, pCons, pNil, m1, isKey, putAt, hst7, l7, m2, hset, opIx, seqOf, hix, hno, hg, view, hcut, ht, ansO, opIsN, isNon, rowO, hk, ho, ansD, ixD, place, opLt, opCmp, opLen, opSub, hl1, hm, hm']
        · have hm' : ¬ (m : Int) < ws.length := by omega
          by_cases h3 : 3 < dpts ds
          · have h4 : (4 : Int) < 1 + (dpts ds : Int) := by omega
            simp [f_law_row_of, hs, eDic, pCons, pNil, m1, isKey, putAt, hst7, l7, m2, hset, opIx, seqOf, hix, hno, hg, view, hcut, ht, ansO, opIsN, isNon, rowO, hk, ho, ansD, ixD, place, opLt, opGt, opCmp, opLen, opSub, hl1, hm, hm', opAdd, hcap, hdp, h3, h4]
          · have h4 : ¬ (4 : Int) < 1 + (dpts ds : Int) := by omega
            simp [f_law_row_of, hs, eDic, pCons, pNil, m1, isKey, putAt, hst7, l7, m2, hset, opIx, seqOf, hix, hno, hg, view, hcut, ht, ansO, opIsN, isNon, rowO, hk, ho, ansD, ixD, place, opLt, opGt, opCmp, opLen, opSub, hl1, hm, hm', opAdd, hcap, hdp, h3, h4]
end K24

/-! The plain law of k24: lines and pieces of them. Own text. -/
namespace K24
open MP
theorem cut_count (c : Nat) : ∀ l : List Nat, (cutC c l).length = l.count c + 1
  | [] => rfl
  | x :: r => by
    have ih := cut_count c r
    simp only [cutC]
    by_cases h : x = c
    · subst h
      rw [if_pos rfl, List.length_cons, ih, List.count_cons_self]
    · rw [if_neg h]
      have hc : (x :: r).count c = r.count c := by rw [List.count_cons]; simp [h]
      cases e : cutC c r with
      | nil => exact absurd e (cut_ne r c)
      | cons y ys =>
        rw [e] at ih
        simp only [List.length_cons] at ih ⊢
        rw [hc]
        omega
theorem cut_sum (c : Nat) : ∀ l : List Nat, ((cutC c l).map List.length).sum + (cutC c l).length = l.length + 1
  | [] => rfl
  | x :: r => by
    have ih := cut_sum c r
    simp only [cutC]
    by_cases h : x = c
    · rw [if_pos h]
      simp only [List.map_cons, List.sum_cons, List.length_cons, List.length_nil]
      omega
    · rw [if_neg h]
      cases e : cutC c r with
      | nil => exact absurd e (cut_ne r c)
      | cons y ys =>
        rw [e] at ih
        simp only [List.map_cons, List.sum_cons, List.length_cons] at ih ⊢
        omega
theorem cut_mem (c : Nat) : ∀ (l : List Nat) (w : List Nat), w ∈ cutC c l → ∀ x ∈ w, x ∈ l ∧ x ≠ c
  | [], w, hw, x, hx => by simp [cutC] at hw; subst hw; cases hx
  | y :: r, w, hw, x, hx => by
    simp only [cutC] at hw
    by_cases h : y = c
    · rw [if_pos h] at hw
      rcases List.mem_cons.mp hw with e | hw
      · subst e; cases hx
      · obtain ⟨a, b⟩ := cut_mem c r w hw x hx
        exact ⟨List.mem_cons_of_mem _ a, b⟩
    · rw [if_neg h] at hw
      cases e : cutC c r with
      | nil => exact absurd e (cut_ne r c)
      | cons z zs =>
        rw [e] at hw
        rcases List.mem_cons.mp hw with e2 | hw
        · subst e2
          rcases List.mem_cons.mp hx with e3 | hx
          · subst e3; exact ⟨List.mem_cons_self, h⟩
          · obtain ⟨a, b⟩ := cut_mem c r z (by rw [e]; exact List.mem_cons_self) x hx
            exact ⟨List.mem_cons_of_mem _ a, b⟩
        · obtain ⟨a, b⟩ := cut_mem c r w (by rw [e]; exact List.mem_cons_of_mem _ hw) x hx
          exact ⟨List.mem_cons_of_mem _ a, b⟩
theorem join_cut (c : Nat) : ∀ l : List Nat, joinC [c] (cutC c l) = l
  | [] => rfl
  | x :: r => by
    have ih := join_cut c r
    simp only [cutC]
    by_cases h : x = c
    · subst h
      rw [if_pos rfl]
      cases e : cutC x r with
      | nil => exact absurd e (cut_ne r x)
      | cons y ys =>
        rw [e] at ih
        simp [joinC, ih]
    · rw [if_neg h]
      cases e : cutC c r with
      | nil => exact absurd e (cut_ne r c)
      | cons y ys =>
        rw [e] at ih
        simp only
        cases ys with
        | nil => simp only [joinC] at ih ⊢; rw [ih]
        | cons z zs => simp only [joinC, List.append_assoc] at ih ⊢; rw [← ih]; rfl
def lenB : Nat → Nat
  | 0 => 322
  | k + 1 => 2 * lenB k + 8
theorem lenB_up (k : Nat) : lenB k ≤ lenB (k + 1) := by simp only [lenB]; omega
theorem lenB_le {j k : Nat} (h : j ≤ k) : lenB j ≤ lenB k := by
  induction h with
  | refl => exact Nat.le_refl _
  | step _ ih => exact Nat.le_trans ih (lenB_up _)
theorem lenB3 {k : Nat} (h : k ≤ 3) : lenB k ≤ 2632 := lenB_le h
/-- a line of some changes -/
structure Ln (k : Nat) (l : List Nat) : Prop where
  ch : ∀ c ∈ l, c ≤ 127 ∧ c ≠ 10
  len : l.length ≤ lenB k
  sp : l.count 32 ≤ 45 + k
theorem Ln.wo {k : Nat} {l : List Nat} (h : Ln k l) (hk : k ≤ 3) : l.length ≤ cap ∧ (∀ w ∈ cutC 32 l, Wo w) ∧ (cutC 32 l).length ≤ 60 := by
  have h2 := h.len
  have hl : l.length ≤ 2632 := Nat.le_trans h2 (lenB3 hk)
  refine ⟨by unfold cap; omega, fun w hw => ⟨fun c hc => (h.ch c (cut_mem 32 l w hw c hc).1).1, ?_⟩, by rw [cut_count]; have := h.sp; omega⟩
  have hs := cut_sum 32 l
  have : ∀ (ws : List (List Nat)), w ∈ ws → w.length ≤ (ws.map List.length).sum := by
    intro ws
    induction ws with
    | nil => intro h; cases h
    | cons x ws ih =>
      intro h
      rw [List.map_cons, List.sum_cons]; rcases List.mem_cons.mp h with e | h
      · subst e; omega
      · have := ih h; omega
  have := this _ hw
  unfold cap
  omega
theorem Ln.up {j k : Nat} {l : List Nat} (h : Ln j l) (hk : j ≤ k) : Ln k l :=
  ⟨h.ch, Nat.le_trans h.len (lenB_le hk), by have := h.sp; omega⟩
theorem Ln.nil (k : Nat) : Ln k [] := ⟨fun _ h => (nomatch h), by simp, by simp⟩
theorem GR.ln {d : D} (h : GR d) : Ln 0 (line d) := by
  have hw := row_words h
  refine ⟨fun c hc => ?_, (row_sum h).2, ?_⟩
  · rcases row_chars h c hc with z | z <;> omega
  · have hj : cutC 32 (line d) = Wr d := cut_join hw.1 fun w hx => by
      intro z
      have := ((hw.2.2 w hx).2.2 32 z)
      omega
    have := cut_count 32 (line d)
    rw [hj] at this
    have := hw.2.1
    omega
/-! ### pieces -/
section
variable {α : Type}
theorem cutT (f : List Nat → D) (T : List (List Nat)) (k : Nat) (h : k ≤ T.length) : cutD (T.map f) none (some (k : Int)) = (T.take k).map f := by
  have e1 : partIx (T.map f).length 0 none = 0 := rfl
  have e2 : partIx (T.map f).length (T.map f).length (some (k : Int)) = k := by simp [partIx]; rw [if_neg (by omega)]; omega
  unfold cutD
  rw [e1, e2, List.drop_zero, Nat.sub_zero, List.map_take]
theorem cutDr (T : List (List Nat)) (k : Nat) : cutD (T.map D.str) (some ((k : Int) + 1)) none = (T.drop (k + 1)).map .str := by
  have := drop_cut T (k + 1)
  simpa using this
theorem cutM (T : List (List Nat)) (k : Nat) (h : k < T.length) : cutD (T.map D.str) (some (k : Int)) (some ((k : Int) + 1)) = ((T.drop k).take 1).map .str := by
  have e1 : partIx (T.map D.str).length 0 (some (k : Int)) = k := by simp [partIx]; rw [if_neg (by omega)]; omega
  have e2 : partIx (T.map D.str).length (T.map D.str).length (some ((k : Int) + 1)) = k + 1 := by simp [partIx]; rw [if_neg (by omega)]; omega
  unfold cutD
  rw [e1, e2, List.map_take, List.map_drop, show k + 1 - k = 1 from by omega]
end
theorem sum_take (T : List (List Nat)) (k : Nat) : ((T.take k).map List.length).sum + ((T.drop k).map List.length).sum = (T.map List.length).sum := by
  rw [← List.sum_append, ← List.map_append, List.take_append_drop]
theorem sum_drop (T : List (List Nat)) (k : Nat) : ((T.drop k).map List.length).sum ≤ (T.map List.length).sum := by have := sum_take T k; omega
theorem sum_drop1 (T : List (List Nat)) (k : Nat) : ((T.drop (k + 1)).map List.length).sum ≤ ((T.drop k).map List.length).sum := by
  have : T.drop (k + 1) = (T.drop k).drop 1 := by rw [List.drop_drop]
  rw [this]
  exact sum_drop _ _
/-- words put together are a line again -/
theorem join_ln {k : Nat} {l odd : List Nat} {ws : List (List Nat)} (h : Ln k l) (ho : odd.length ≤ 5 ∧ ∀ c ∈ odd, c ≤ 127 ∧ c ≠ 10 ∧ c ≠ 32) (hl : ws.length ≤ (cutC 32 l).length + 1) (hm : ∀ w ∈ ws, w ∈ cutC 32 l ∨ w = odd) (hs : (ws.map List.length).sum ≤ 2 * ((cutC 32 l).map List.length).sum + 5) : Ln (k + 1) (joinC [32] ws) := by
  have hc := cut_count 32 l
  have hsum := cut_sum 32 l
  have hsp := h.sp
  have hlen := h.len
  have no32 : ∀ w ∈ ws, 32 ∉ w := fun w hw z => by
    rcases hm w hw with h1 | h1
    · exact (cut_mem 32 l w h1 32 z).2 rfl
    · subst h1; exact (ho.2 32 z).2.2 rfl
  refine ⟨fun c hx => ?_, ?_, ?_⟩
  · rcases join_mem hx with z | ⟨w, hw, z⟩
    · simp at z; omega
    · rcases hm w hw with h1 | h1
      · exact h.ch c (cut_mem 32 l w h1 c z).1
      · subst h1; have := ho.2 c z; omega
  · have := joinC_len [32] ws
    simp only [lenB]
    simp only [List.length_cons, List.length_nil, Nat.mul_one] at this
    omega
  · by_cases hn : ws = []
    · subst hn; simp [joinC]
    · have := cut_count 32 (joinC [32] ws)
      rw [cut_join hn no32] at this
      omega
theorem odd_ok : ∀ w ∈ ([[], [48], [48, 48], [51], [52], [56], [49, 48], [49, 50], [49, 51], [49, 48, 48, 48, 54], [49, 48, 48, 48, 55], [45, 49], [110, 117, 109], [115, 117, 109], [115, 105, 100, 101], [103, 111]] : List (List Nat)), w.length ≤ 5 ∧ ∀ c ∈ w, c ≤ 127 ∧ c ≠ 10 ∧ c ≠ 32 := by decide
/-- a sign put in, left out, exchanged -/
theorem sign_ln {k j m : Nat} {l sg : List Nat} (h : Ln k l) (hs : sg.length ≤ 1 ∧ ∀ c ∈ sg, c ≤ 127 ∧ c ≠ 10) (hm : j ≤ m) : Ln (k + 1) (l.take j ++ sg ++ l.drop m) := by
  have hlen := h.len
  have hsp := h.sp
  refine ⟨fun c hc => ?_, ?_, ?_⟩
  · simp only [List.mem_append] at hc
    rcases hc with (hc | hc) | hc
    · exact h.ch c (List.mem_of_mem_take hc)
    · exact hs.2 c hc
    · exact h.ch c (List.mem_of_mem_drop hc)
  · simp only [List.length_append, List.length_take, List.length_drop]
    simp only [lenB]
    omega
  · simp only [List.count_append]
    have h1 : (l.take j).count 32 + (l.drop j).count 32 = l.count 32 := by rw [← List.count_append, List.take_append_drop]
    have h2 : (l.drop m).count 32 ≤ (l.drop j).count 32 := by
      have : l.drop m = (l.drop j).drop (m - j) := by rw [List.drop_drop]; congr 1; omega
      rw [this]
      exact (List.drop_sublist _ _).count_le _
    have h3 : sg.count 32 ≤ 1 := Nat.le_trans List.count_le_length hs.1
    omega
end K24

/-! The plain law of k24: lines changed. Own text. -/
namespace K24
open MP
def q0 : MS := (sAsg (eCall f_law_next (aCons (eVar 0) (aCons (eOp1 opLen (eBor 1)) aNil))) (gNm 2))
def q1 : MS := (sAsg (eFrz (lSplit (eOp2 opIx (eBor 1) (eBor 2)) (eC (.str [32])))) (gNm 3))
def q2 : MS := (sAsg (eCall f_law_next (aCons (eVar 0) (aCons (eOp1 opLen (eBor 3)) aNil))) (gNm 4))
def q3 : MS := (sAsg (eFrz (lLst (aCons (eC (.str [])) (aCons (eC (.str [48])) (aCons (eC (.str [48, 48])) (aCons (eC (.str [51])) (aCons (eC (.str [52])) (aCons (eC (.str [56])) (aCons (eC (.str [49, 48])) (aCons (eC (.str [49, 50])) (aCons (eC (.str [49, 51])) (aCons (eC (.str [49, 48, 48, 48, 54])) (aCons (eC (.str [49, 48, 48, 48, 55])) (aCons (eC (.str [45, 49])) (aCons (eC (.str [110, 117, 109])) (aCons (eC (.str [115, 117, 109])) (aCons (eC (.str [115, 105, 100, 101])) (aCons (eC (.str [103, 111])) aNil)))))))))))))))))) (gNm 5))
def q4 : MS := (sPar 6 5 (aCons (eCall f_law_next (aCons (eVar 0) (aCons (eC (.int 7)) aNil))) (aCons (eOp2 opIx (eBor 5) (eCall f_law_next (aCons (eVar 0) (aCons (eC (.int 16)) aNil)))) aNil)))
def q5 : MS := (sIf (tVal (eOp2 opLt (eBor 6) (eC (.int 4)))) (sSeq (sAsg (eFrz (lLst (aCons (eFrz (lAdd (eFrz (lSl (eBor 3) oNone (oSome (eVar 4)))) (eFrz (lSl (eBor 3) (oSome (eOp2 opAdd (eBor 4) (eC (.int 1)))) oNone)))) (aCons (eFrz (lAdd (eFrz (lAdd (eFrz (lSl (eBor 3) oNone (oSome (eVar 4)))) (eFrz (lSl (eBor 3) (oSome (eVar 4)) (oSome (eOp2 opAdd (eBor 4) (eC (.int 1)))))))) (eFrz (lSl (eBor 3) (oSome (eVar 4)) oNone)))) aNil)))) (gNm 7)) (sSeq (sAsg (eFrz (lAdd (eBor 7) (eFrz (lLst (aCons (eFrz (lAdd (eFrz (lAdd (eFrz (lSl (eBor 3) oNone (oSome (eVar 4)))) (eFrz (lLst (aCons (eVar 5) aNil))))) (eFrz (lSl (eBor 3) (oSome (eOp2 opAdd (eBor 4) (eC (.int 1)))) oNone)))) (aCons (eFrz (lAdd (eFrz (lAdd (eFrz (lSl (eBor 3) oNone (oSome (eVar 4)))) (eFrz (lLst (aCons (eVar 5) aNil))))) (eFrz (lSl (eBor 3) (oSome (eVar 4)) oNone)))) aNil)))))) (gNm 7)) (sRet (eFrz (lAdd (eFrz (lAdd (eFrz (lSl (eBor 1) oNone (oSome (eVar 2)))) (eFrz (lLst (aCons (eJoin (eC (.str [32])) (eOp2 opIx (eBor 7) (eBor 6))) aNil))))) (eFrz (lSl (eBor 1) (oSome (eOp2 opAdd (eBor 2) (eC (.int 1)))) oNone))))))) sNext)
def q6 : MS := (sIf (tVal (eOp2 opEq (eBor 6) (eC (.int 4)))) (sRet (eOp2 opIx (eFrz (lLst (aCons (eFrz (lAdd (eFrz (lAdd (eFrz (lSl (eBor 1) oNone (oSome (eVar 2)))) (eFrz (lSl (eBor 1) (oSome (eVar 2)) (oSome (eOp2 opAdd (eBor 2) (eC (.int 1)))))))) (eFrz (lSl (eBor 1) (oSome (eVar 2)) oNone)))) (aCons (eFrz (lAdd (eBor 1) (eFrz (lLst (aCons (eC (.str [])) aNil))))) (aCons (eFrz (lMul (eBor 1) (eC (.int 3)))) aNil))))) (eCall f_law_next (aCons (eVar 0) (aCons (eC (.int 3)) aNil))))) sNext)
def q7 : MS := (sAsg (eC (.str [32, 33, 35, 36, 38, 39, 40, 41, 42, 43, 44, 45, 46, 47, 48, 49, 50, 51, 52, 53, 54, 55, 56, 57, 58, 59, 60, 61, 62, 63, 64, 65, 66, 67, 68, 69, 70, 71, 72, 73, 74, 75, 76, 77, 78, 79, 80, 81, 82, 83, 84, 85, 86, 87, 88, 89, 90, 91, 93, 94, 95, 96, 97, 98, 99, 100, 101, 102, 103, 104, 105, 106, 107, 108, 109, 110, 111, 112, 113, 114, 115, 116, 117, 118, 119, 120, 121, 122, 123, 124, 125, 126])) (gNm 8))
def q8 : MS := (sAsg (eCall f_law_next (aCons (eVar 0) (aCons (eOp2 opAdd (eOp1 opLen (eOp2 opIx (eBor 1) (eBor 2))) (eC (.int 1))) aNil))) (gNm 4))
def q9 : MS := (sAsg (eOp2 opIx (eFrz (lLst (aCons (eOp2 opIx (eBor 8) (eCall f_law_next (aCons (eVar 0) (aCons (eOp1 opLen (eBor 8)) aNil)))) (aCons (eC (.str [])) aNil)))) (eCall f_law_next (aCons (eVar 0) (aCons (eC (.int 2)) aNil)))) (gNm 9))
def q10 : MS := (sAsg (eOp2 opAdd (eOp2 opAdd (eSlS (eOp2 opIx (eBor 1) (eBor 2)) oNone (oSome (eVar 4))) (eBor 9)) (eSlS (eOp2 opIx (eBor 1) (eBor 2)) (oSome (eOp2 opSub (eOp2 opAdd (eBor 4) (eBor 6)) (eC (.int 5)))) oNone)) (gNm 10))
def q11 : MS := (sRet (eFrz (lAdd (eFrz (lAdd (eFrz (lSl (eBor 1) oNone (oSome (eVar 2)))) (eFrz (lLst (aCons (eVar 10) aNil))))) (eFrz (lSl (eBor 1) (oSome (eOp2 opAdd (eBor 2) (eC (.int 1)))) oNone)))))
theorem spoilt_eq : f_law_spoilt = runB 2 11 (sSeq q0 (sSeq q1 (sSeq q2 (sSeq q3 (sSeq q4 (sSeq q5 (sSeq q6 (sSeq q7 (sSeq q8 (sSeq q9 (sSeq q10 q11))))))))))) := rfl

abbrev senv (n : Nat) (L : List D) (a : Int) (T : List D) (k : Int) (odd : List Nat) (way : Int) : Env := [.val (.ref n), .val (.lst L), .val (.int a), .val (.lst T), .val (.int k), .val (.str odd), .val (.int way), .emp, .emp, .emp, .emp]
theorem q5_run {n : Nat} {L T A B M E LA LB : List D} {a k : Int} {odd lw : List Nat} {way : Nat} (hw : way < 4) {s : Sto}
    (tA : cutD T none (some k) = A) (tB : cutD T (some (k + 1)) none = B) (tM : cutD T (some k) (some (k + 1)) = M) (tE : cutD T (some k) none = E) (lA : cutD L none (some a) = LA) (lB : cutD L (some (a + 1)) none = LB)
    (hX : joinAt [32] (.lst ([A ++ B, A ++ (M ++ E), A ++ .str odd :: B, A ++ .str odd :: E].getD way [])) s = .ok (.str lw) s)
    (b1 : A.length ≤ 1000) (b2 : B.length ≤ 1000) (b3 : M.length ≤ 1000) (b4 : E.length ≤ 1000) (b5 : LA.length ≤ 10000) (b6 : LB.length ≤ 10000) :
    q5 (senv n L a T k odd (way : Nat)) s = .rt (.lst (LA ++ .str lw :: LB)) s := by
  have c1 : A.length + B.length ≤ cap := by unfold cap; omega
  have c2 : A.length + M.length ≤ cap := by unfold cap; omega
  have c3 : A.length + M.length + E.length ≤ cap := by unfold cap; omega
  have c3' : A.length + (M.length + E.length) ≤ cap := by unfold cap; omega
  have c4 : A.length + 1 ≤ cap := by unfold cap; omega
  have c5 : A.length + 1 + B.length ≤ cap := by unfold cap; omega
  have c6 : A.length + 1 + E.length ≤ cap := by unfold cap; omega
  have c7 : LA.length + 1 ≤ cap := by unfold cap; omega
  have c8 : LA.length + 1 + LB.length ≤ cap := by unfold cap; omega
  have d4 : 4 ≤ cap := by decide
  have hc : way = 0 ∨ way = 1 ∨ way = 2 ∨ way = 3 := by omega
  rcases hc with rfl | rfl | rfl | rfl <;> simp at hX <;> simp [q5, opLt, opCmp, view, tA, tB, tM, tE, lA, lB, opAdd, c1, c2, c3, c3', c4, c5, c6, c7, c8, d4, opIx, seqOf, ixD, place, hX]
theorem q5_skip {n : Nat} {L T : List D} {a k : Int} {odd : List Nat} {way : Nat} (hw : 4 ≤ way) (s : Sto) : q5 (senv n L a T k odd (way : Nat)) s = .nx (senv n L a T k odd (way : Nat)) s := by
  have : ¬ (way : Int) < 4 := by omega
  simp [q5, opLt, opCmp, this]
theorem join_at {ws : List (List Nat)} (h1 : ws.length ≤ 10000) (h2 : (ws.map List.length).sum ≤ cap) (s : Sto) : joinAt [32] (.lst (ws.map .str)) s = .ok (.str (joinC [32] ws)) s := by
  simp [joinAt, seqOf, strsOf_map, h1, h2]
/-- words exchanged -/
theorem q5_ok {n a k way j : Nat} {L : List (List Nat)} {l odd : List Nat} (ha : a < L.length) (hl : L[a]? = some l) (hln : Ln j l) (hj : j ≤ 3) (hk : k < (cutC 32 l).length) (ho : odd.length ≤ 5 ∧ ∀ c ∈ odd, c ≤ 127 ∧ c ≠ 10 ∧ c ≠ 32) (hL : L.length ≤ 10000) (hw : way < 4) (s : Sto) :
    ∃ l', Ln (j + 1) l' ∧ q5 (senv n (L.map .str) (a : Nat) ((cutC 32 l).map .str) (k : Nat) odd (way : Nat)) s = .rt (.lst ((L.take a ++ l' :: L.drop (a + 1)).map .str)) s := by
  have hT := (hln.wo hj).2.2
  have hs := cut_sum 32 l
  have hlen := (hln.wo hj).1
  generalize hTT : cutC 32 l = T at *
  have s1 := sum_take T k
  have s2 := sum_drop1 T k
  have t1 : (T.take k).length ≤ k := by rw [List.length_take]; omega
  have mt : ∀ w ∈ T.take k, w ∈ T := fun w h => List.mem_of_mem_take h
  have md : ∀ i, ∀ w ∈ T.drop i, w ∈ T := fun i w h => List.mem_of_mem_drop h
  have hm1 : (((T.drop k).take 1).map List.length).sum ≤ (T.map List.length).sum := by
    have := sum_take (T.drop k) 1
    have := sum_drop T k
    omega
  have fin : ∀ ws : List (List Nat), ws.length ≤ T.length + 1 → (∀ w ∈ ws, w ∈ T ∨ w = odd) → (ws.map List.length).sum ≤ 2 * (T.map List.length).sum + 5 → Ln (j + 1) (joinC [32] ws) ∧ joinAt [32] (.lst (ws.map .str)) s = .ok (.str (joinC [32] ws)) s := fun ws w1 w2 w3 => by
    refine ⟨join_ln hln ho (by rw [hTT]; exact w1) (by rw [hTT]; exact w2) (by rw [hTT]; exact w3), join_at (by omega) ?_ s⟩
    have : l.length ≤ 2632 := Nat.le_trans hln.len (lenB3 hj)
    unfold cap
    omega
  have go : ∀ ws : List (List Nat), Ln (j + 1) (joinC [32] ws) ∧ joinAt [32] (.lst (ws.map .str)) s = .ok (.str (joinC [32] ws)) s → ws.map D.str = ([(T.take k).map D.str ++ (T.drop (k + 1)).map D.str, (T.take k).map D.str ++ (((T.drop k).take 1).map D.str ++ (T.drop k).map D.str), (T.take k).map D.str ++ .str odd :: (T.drop (k + 1)).map D.str, (T.take k).map D.str ++ .str odd :: (T.drop k).map D.str].getD way []) →
      ∃ l', Ln (j + 1) l' ∧ q5 (senv n (L.map .str) (a : Nat) (T.map .str) (k : Nat) odd (way : Nat)) s = .rt (.lst ((L.take a ++ l' :: L.drop (a + 1)).map .str)) s := fun ws hws e => by
    refine ⟨joinC [32] ws, hws.1, ?_⟩
    have r := q5_run (n := n) hw (cutT D.str T k (by omega)) (cutDr T k) (cutM T k hk) (drop_cut T k) (cutT D.str L a (by omega)) (cutDr L a) (by rw [← e]; exact hws.2) (by simp; omega) (by simp; omega) (by simp; omega) (by simp; omega) (by simp; omega) (by simp; omega)
    rw [r]
    simp
  have hc : way = 0 ∨ way = 1 ∨ way = 2 ∨ way = 3 := by omega
  rcases hc with rfl | rfl | rfl | rfl
  · exact go (T.take k ++ T.drop (k + 1)) (fin _ (by simp; omega) (fun w hw => by
      rcases List.mem_append.mp hw with h | h
      · exact .inl (mt w h)
      · exact .inl (md _ w h)) (by simp only [List.map_append, List.sum_append]; omega)) (by simp)
  · exact go (T.take k ++ ((T.drop k).take 1 ++ T.drop k)) (fin _ (by simp; omega) (fun w hw => by
      rcases List.mem_append.mp hw with h | h
      · exact .inl (mt w h)
      · rcases (List.mem_append.mp h) with h | h
        · exact .inl (md _ w (List.mem_of_mem_take h))
        · exact .inl (md _ w h)) (by simp only [List.map_append, List.sum_append]; omega)) (by simp)
  · exact go (T.take k ++ odd :: T.drop (k + 1)) (fin _ (by simp; omega) (fun w hw => by
      rcases List.mem_append.mp hw with h | h
      · exact .inl (mt w h)
      · rcases List.mem_cons.mp h with h | h
        · exact .inr h
        · exact .inl (md _ w h)) (by have := ho.1; simp only [List.map_append, List.map_cons, List.sum_cons, List.sum_append]; omega)) (by simp)
  · exact go (T.take k ++ odd :: T.drop k) (fin _ (by simp; omega) (fun w hw => by
      rcases List.mem_append.mp hw with h | h
      · exact .inl (mt w h)
      · rcases List.mem_cons.mp h with h | h
        · exact .inr h
        · exact .inl (md _ w h)) (by have := ho.1; simp only [List.map_append, List.map_cons, List.sum_cons, List.sum_append]; omega)) (by simp)
end K24

/-! The plain law of k24: lines changed, whole. Own text. -/
namespace K24
open MP
theorem ixN {ds : List D} {i : Nat} {d : D} (h : ds[i]? = some d) : ixD ds (i : Int) = some d := by
  have hi := (List.getElem?_eq_some_iff.mp h).1
  unfold ixD place
  rw [if_pos (by omega), if_pos (by omega)]; simpa using h
theorem at_str {L : List (List Nat)} {a : Nat} {l : List Nat} (h : L[a]? = some l) : (L.map D.str)[a]? = some (.str l) := by simp [h]
theorem nxN {s : Sto} {n m : Nat} (hd : Dice s n) (h0 : 0 < m) (h1 : m < 1073741824) : ∃ (r : Nat) (s' : Sto), f_law_next [.ref n, .int (m : Nat)] s = .ok (.int (r : Nat)) s' ∧ r < m ∧ Fr n s s' := by
  obtain ⟨r, s', e, a, b, f⟩ := nx hd (m := (m : Int)) (by omega) (by omega)
  obtain ⟨k, rfl⟩ := Int.eq_ofNat_of_zero_le a
  exact ⟨k, s', e, by omega, f⟩
/-- lines told twice, left so, thrice -/
theorem q6_ok {n a j : Nat} {L : List (List Nat)} {T : List D} {k : Int} {odd : List Nat} (ha : a < L.length) (hl : ∀ l ∈ L, Ln j l) (hL : L.length ≤ 10000) {s : Sto} (hd : Dice s n) :
    ∃ (L' : List (List Nat)) (s' : Sto), (∀ l ∈ L', Ln j l) ∧ 1 ≤ L'.length ∧ L'.length ≤ 3 * L.length + 1 ∧ Fr n s s' ∧ q6 (senv n (L.map .str) (a : Nat) T k odd ((4 : Nat) : Int)) s = .rt (.lst (L'.map .str)) s' := by
  obtain ⟨r, s', e, hr, fr⟩ := nxN hd (m := 3) (by decide) (by decide)
  have e4 : eqD (.int 4) (.int 4) = some true := by decide
  have tA := cutT D.str L a (by omega)
  have tM := cutM L a ha
  have tE := drop_cut L a
  have c1 : (L.take a).length + ((L.drop a).take 1).length ≤ cap := by simp; unfold cap; omega
  have c2 : (L.take a).length + ((L.drop a).take 1).length + (L.drop a).length ≤ cap := by simp; unfold cap; omega
  have c3 : L.length + 1 ≤ cap := by unfold cap; omega
  have c4 : L.length * 3 ≤ cap := by unfold cap; omega
  have fl : (List.replicate 3 (L.map D.str)).flatten = ((List.replicate 3 L).flatten).map .str := by simp [List.replicate]
  have hm : mulAt (.lst (L.map .str)) (.int 3) s = .ok (((List.replicate 3 L).flatten).map .str) s := by
    show (if (L.map D.str).length * (3 : Int).toNat ≤ cap ∧ -1000 ≤ (3 : Int) ∧ (3 : Int) ≤ 1000 then _ else _) = _
    rw [if_pos ⟨by simpa using c4, by decide, by decide⟩, ← fl]
    rfl
  have hr3 : r = 0 ∨ r = 1 ∨ r = 2 := by omega
  obtain ⟨RR, hRR⟩ : ∃ RR, RR = (List.replicate 3 L).flatten := ⟨_, rfl⟩
  rw [← hRR] at hm
  have e' : f_law_next [.ref n, .int 3] s = .ok (.int (r : Nat)) s' := e
  have ev : q6 (senv n (L.map .str) (a : Nat) T k odd ((4 : Nat) : Int)) s = (Res.ofO (ixD [.lst ((L.take a ++ (L.drop a).take 1 ++ L.drop a).map .str), .lst ((L ++ [[]]).map .str), .lst (RR.map .str)] (r : Nat)) s').go (senv n (L.map .str) (a : Nat) T k odd ((4 : Nat) : Int)) fun d s1 => .rt d s1 := by
    generalize hAA : L.take a = AA at *
    generalize hMM : (L.drop a).take 1 = MM at *
    generalize hEE : L.drop a = EE at *
    simp [q6, opEq, view, e4, opAdd, tA, tM, tE, c1, c2, c3, hm, e', opIx, seqOf]
  rcases hr3 with rfl | rfl | rfl
  · refine ⟨L.take a ++ (L.drop a).take 1 ++ L.drop a, s', fun l h => ?_, by simp; omega, by simp; omega, fr, by rw [ev]; rfl⟩
    simp only [List.mem_append] at h
    rcases h with (h | h) | h
    · exact hl l (List.mem_of_mem_take h)
    · exact hl l (List.mem_of_mem_drop (List.mem_of_mem_take h))
    · exact hl l (List.mem_of_mem_drop h)
  · refine ⟨L ++ [[]], s', fun l h => ?_, by simp, by simp; omega, fr, by rw [ev]; rfl⟩
    rcases (List.mem_append.mp h) with h | h
    · exact hl l h
    · simp at h; subst h; exact Ln.nil j
  · refine ⟨RR, s', fun l h => ?_, by rw [hRR]; simp; omega, by rw [hRR]; simp; omega, fr, by rw [ev]; rfl⟩
    rw [hRR] at h
    obtain ⟨x, hx, hx2⟩ := List.mem_flatten.mp h
    rw [List.eq_of_mem_replicate hx] at hx2
    exact hl l hx2
theorem q6_skip {n : Nat} {L T : List D} {a k : Int} {odd : List Nat} {way : Nat} (hw : 5 ≤ way) (s : Sto) : q6 (senv n L a T k odd (way : Nat)) s = .nx (senv n L a T k odd (way : Nat)) s := by
  have : eqD (.int (way : Int)) (.int 4) = some false := by rw [eqD_int]; simp; omega
  simp [q6, opEq, view, this]
def sgs : List Nat := [32, 33, 35, 36, 38, 39, 40, 41, 42, 43, 44, 45, 46, 47, 48, 49, 50, 51, 52, 53, 54, 55, 56, 57, 58, 59, 60, 61, 62, 63, 64, 65, 66, 67, 68, 69, 70, 71, 72, 73, 74, 75, 76, 77, 78, 79, 80, 81, 82, 83, 84, 85, 86, 87, 88, 89, 90, 91, 93, 94, 95, 96, 97, 98, 99, 100, 101, 102, 103, 104, 105, 106, 107, 108, 109, 110, 111, 112, 113, 114, 115, 116, 117, 118, 119, 120, 121, 122, 123, 124, 125, 126]
theorem sgs_ok : ∀ c ∈ sgs, c ≤ 127 ∧ c ≠ 10 := by decide
theorem sgs_len : sgs.length = 92 := by decide
theorem q7_eq : q7 = sAsg (eC (.str sgs)) (gNm 8) := rfl
theorem cutS_take (l : List Nat) (k : Nat) (h : k ≤ l.length) : cutS0 l none (some (k : Int)) = l.take k := by
  unfold cutS0
  have e1 : partIx l.length 0 none = 0 := rfl
  have e2 : partIx l.length l.length (some (k : Int)) = k := by simp [partIx]; rw [if_neg (by omega)]; omega
  rw [e1, e2, List.drop_zero, Nat.sub_zero]
theorem cutS_drop (l : List Nat) (m : Nat) : cutS0 l (some (m : Int)) none = l.drop m := by
  unfold cutS0
  have e1 : partIx l.length 0 (some (m : Int)) = min m l.length := by simp [partIx]; intro h; omega
  have e2 : partIx l.length l.length none = l.length := rfl
  rw [e1, e2, List.take_of_length_le (by simp)]
  by_cases h : m ≤ l.length
  · rw [Nat.min_eq_left h]
  · rw [Nat.min_eq_right (by omega), List.drop_length, List.drop_of_length_le (by omega)]
/-- one sign more, fewer, another -/
theorem tail_ok {n a j way : Nat} {L : List (List Nat)} {l : List Nat} {T : List D} {k : Int} {odd : List Nat} (ha : a < L.length) (hl : L[a]? = some l) (hln : Ln j l) (hj : j ≤ 3) (hL : L.length ≤ 10000) (hw : way = 5 ∨ way = 6) {s : Sto} (hd : Dice s n) :
    ∃ (l' : List Nat) (s' : Sto), Ln (j + 1) l' ∧ Fr n s s' ∧ (sSeq q7 (sSeq q8 (sSeq q9 (sSeq q10 q11)))) (senv n (L.map .str) (a : Nat) T k odd (way : Nat)) s = .rt (.lst ((L.take a ++ l' :: L.drop (a + 1)).map .str)) s' := by
  have hcap := (hln.wo hj).1
  have hlb : l.length ≤ 2632 := Nat.le_trans hln.len (lenB3 hj)
  obtain ⟨kk, s1, e1, h1, f1⟩ := nxN hd (m := l.length + 1) (by omega) (by omega)
  obtain ⟨x, s2, e2, h2, f2⟩ := nxN f1.1 (m := 92) (by decide) (by decide)
  obtain ⟨y, s3, e3, h3, f3⟩ := nxN f2.1 (m := 2) (by decide) (by decide)
  have hx : x < sgs.length := by rw [sgs_len]; omega
  have ix1 := ixN (at_str hl)
  have e1' : f_law_next [.ref n, .int ((l.length : Int) + 1)] s = .ok (.int (kk : Nat)) s1 := e1
  have e2' : f_law_next [.ref n, .int 92] s1 = .ok (.int (x : Nat)) s2 := e2
  have e3' : f_law_next [.ref n, .int 2] s2 = .ok (.int (y : Nat)) s3 := e3
  have px : (place sgs.length (x : Int)).bind (fun k => (sgs[k]?).map fun c => D.str [c]) = some (.str [sgs[x]]) := by
    unfold place
    rw [if_pos (by omega), if_pos (by omega)]; simp [hx]
  have hsc : sgs.length ≤ cap := by rw [sgs_len]; decide
  have lsg : ((sgs.length : Nat) : Int) = 92 := by rw [sgs_len]; rfl
  have hy : ∃ sg : List Nat, (sg.length ≤ 1 ∧ ∀ c ∈ sg, c ≤ 127 ∧ c ≠ 10) ∧ ixD [.str [sgs[x]], .str []] (y : Int) = some (.str sg) := by
    have : y = 0 ∨ y = 1 := by omega
    rcases this with rfl | rfl
    · exact ⟨[sgs[x]], ⟨by simp, fun c hc => by simp at hc; subst hc; exact sgs_ok _ (List.getElem_mem hx)⟩, rfl⟩
    · exact ⟨[], ⟨by simp, fun c hc => nomatch hc⟩, rfl⟩
  obtain ⟨sg, hsg, iy⟩ := hy
  have hm : ∃ m : Nat, kk ≤ m ∧ (kk : Int) + (way : Int) - 5 = (m : Nat) := by
    rcases hw with rfl | rfl
    · exact ⟨kk, by omega, by omega⟩
    · exact ⟨kk + 1, by omega, by omega⟩
  obtain ⟨m, hm1, hm2⟩ := hm
  refine ⟨l.take kk ++ sg ++ l.drop m, s3, sign_ln hln hsg hm1, f1.trans (f2.trans f3), ?_⟩
  have ct := cutS_take l kk (by omega)
  have cd := cutS_drop l m
  have lA := cutT D.str L a (by omega)
  have lB := cutDr L a
  have b1 : (L.take a).length + 1 ≤ cap := by simp; unfold cap; omega
  have b2 : (L.take a).length + 1 + (L.drop (a + 1)).length ≤ cap := by simp; unfold cap; omega
  have b3 : (l.take kk).length + sg.length ≤ cap := by have := hsg.1; simp; unfold cap; omega
  have b4 : (l.take kk).length + sg.length + (l.drop m).length ≤ cap := by have := hsg.1; simp; unfold cap; omega
  rw [q7_eq]
  generalize hgs : sgs = S at *
  generalize hAA : L.take a = AA at *
  generalize hBB : L.drop (a + 1) = BB at *
  generalize hTT : l.take kk = TT at *
  generalize hDD : l.drop m = DD at *
  simp [q8, q9, q10, q11, opIx, seqOf, ix1, opLen, hcap, opAdd, e1', hsc, lsg, e2', px, e3', iy, cutSAt, ct, b3, opSub, hm2, cd, b4, view, lA, lB, b1, b2]
end K24

/-! The plain law of k24: lines changed, some times. Own text. -/
namespace K24
open MP
def odds : List (List Nat) := [[], [48], [48, 48], [51], [52], [56], [49, 48], [49, 50], [49, 51], [49, 48, 48, 48, 54], [49, 48, 48, 48, 55], [45, 49], [110, 117, 109], [115, 117, 109], [115, 105, 100, 101], [103, 111]]
theorem q3_run (env : Env) (s : Sto) : q3 env s = .nx (env.set 5 (.val (.lst (odds.map .str)))) s := by
  simp [q3, odds]
theorem pre_ok {n j : Nat} {L : List (List Nat)} (h0 : 1 ≤ L.length) (hL : L.length ≤ 10000) (hl : ∀ l ∈ L, Ln j l) (hj : j ≤ 3) {s : Sto} (hd : Dice s n) (R : MS) :
    ∃ (a k way : Nat) (l odd : List Nat) (s' : Sto), a < L.length ∧ L[a]? = some l ∧ k < (cutC 32 l).length ∧ (odd.length ≤ 5 ∧ ∀ c ∈ odd, c ≤ 127 ∧ c ≠ 10 ∧ c ≠ 32) ∧ way < 7 ∧ Fr n s s' ∧
      (sSeq q0 (sSeq q1 (sSeq q2 (sSeq q3 (sSeq q4 R))))) [.val (.ref n), .val (.lst (L.map .str)), .emp, .emp, .emp, .emp, .emp, .emp, .emp, .emp, .emp] s = R (senv n (L.map .str) (a : Nat) ((cutC 32 l).map .str) (k : Nat) odd (way : Nat)) s' := by
  obtain ⟨a, s1, e1, h1, f1⟩ := nxN hd (m := L.length) (by omega) (by omega)
  have hla : L[a]? = some L[a] := List.getElem?_eq_getElem h1
  generalize L[a] = l at hla
  have hln : Ln j l := hl l (List.mem_of_getElem? hla)
  have hT := (hln.wo hj).2.2
  have hcap := (hln.wo hj).1
  have hT0 : 0 < (cutC 32 l).length := by rw [cut_count]; omega
  obtain ⟨k, s2, e2, h2, f2⟩ := nxN f1.1 (m := (cutC 32 l).length) hT0 (by omega)
  obtain ⟨way, s3, e3, h3, f3⟩ := nxN f2.1 (m := 7) (by decide) (by decide)
  obtain ⟨x, s4, e4, h4, f4⟩ := nxN f3.1 (m := 16) (by decide) (by decide)
  have ho : odds[x]? = some odds[x] := List.getElem?_eq_getElem (show x < odds.length from h4)
  have hok := odd_ok odds[x] (List.getElem_mem (show x < odds.length from h4))
  generalize odds[x] = odd at ho hok
  have ix1 := ixN (at_str hla)
  have ix2 := ixN (at_str ho)
  have hs : cutAt l (.str [32]) s1 = .ok ((cutC 32 l).map .str) s1 := by
    show (if l.length ≤ cap ∧ 32 < 256 then Res.ok ((cutC 32 l).map D.str) s1 else .stk) = _
    rw [if_pos ⟨hcap, by decide⟩]
  have e3' : f_law_next [.ref n, .int 7] s2 = .ok (.int (way : Nat)) s3 := e3
  have e4' : f_law_next [.ref n, .int 16] s3 = .ok (.int (x : Nat)) s4 := e4
  refine ⟨a, k, way, l, odd, s4, h1, hla, h2, hok, h3, f1.trans (f2.trans (f3.trans f4)), ?_⟩
  generalize hTT : cutC 32 l = T at *
  simp [q0, q1, q2, q3_run, q4, opLen, seqOf, e1, opIx, ix1, hs, e2, e3', e4', ix2]
def outS : SRes → Res D
  | .nx _ s => .ok .non s
  | .rt d s => .ok d s
  | .ex x _ s => .exc x s
  | _ => .stk
theorem spoilt_ok {n j : Nat} {L : List (List Nat)} (h0 : 1 ≤ L.length) (hL : L.length ≤ 10000) (hl : ∀ l ∈ L, Ln j l) (hj : j ≤ 3) {s : Sto} (hd : Dice s n) :
    ∃ (L' : List (List Nat)) (s' : Sto), f_law_spoilt [.ref n, .lst (L.map .str)] s = .ok (.lst (L'.map .str)) s' ∧ 1 ≤ L'.length ∧ L'.length ≤ 3 * L.length + 1 ∧ (∀ l ∈ L', Ln (j + 1) l) ∧ Fr n s s' := by
  obtain ⟨a, k, way, l, odd, s1, ha, hla, hk, ho, hw, f1, e⟩ := pre_ok h0 hL hl hj hd (sSeq q5 (sSeq q6 (sSeq q7 (sSeq q8 (sSeq q9 (sSeq q10 q11))))))
  have hln : Ln j l := hl l (List.mem_of_getElem? hla)
  have put : ∀ l' : List Nat, Ln (j + 1) l' → (1 ≤ (L.take a ++ l' :: L.drop (a + 1)).length ∧ (L.take a ++ l' :: L.drop (a + 1)).length ≤ 3 * L.length + 1 ∧ ∀ x ∈ L.take a ++ l' :: L.drop (a + 1), Ln (j + 1) x) := fun l' h' => by
    refine ⟨by simp; omega, by simp; omega, fun x hx => ?_⟩
    rcases List.mem_append.mp hx with h | h
    · exact (hl x (List.mem_of_mem_take h)).up (by omega)
    · rcases List.mem_cons.mp h with h | h
      · subst h; exact h'
      · exact (hl x (List.mem_of_mem_drop h)).up (by omega)
  have body : ∀ (r : SRes), (sSeq q5 (sSeq q6 (sSeq q7 (sSeq q8 (sSeq q9 (sSeq q10 q11)))))) (senv n (L.map .str) (a : Nat) ((cutC 32 l).map .str) (k : Nat) odd (way : Nat)) s1 = r → f_law_spoilt [.ref n, .lst (L.map .str)] s = outS r := fun r hr => by
    rw [spoilt_eq, s_runB]
    simp only [List.length_cons, List.length_nil, if_true, List.map_cons, List.map_nil, List.cons_append, List.nil_append]
    have er : (List.replicate (11 - (0 + 1 + 1)) Slot.emp) = [.emp, .emp, .emp, .emp, .emp, .emp, .emp, .emp, .emp] := rfl
    rw [er, e, hr]
    cases r <;> rfl
  by_cases h4 : way < 4
  · obtain ⟨l', hl', e5⟩ := q5_ok (n := n) ha hla hln hj hk ho hL h4 s1
    obtain ⟨p1, p2, p3⟩ := put l' hl'
    refine ⟨_, s1, ?_, p1, p2, p3, f1⟩
    rw [body _ (by rw [s_sSeq, e5, SRes.andThen_rt])]
    rfl
  · have e5 := q5_skip (n := n) (L := L.map .str) (T := (cutC 32 l).map .str) (a := (a : Nat)) (k := (k : Nat)) (odd := odd) (way := way) (by omega) s1
    by_cases h5 : way = 4
    · subst h5
      obtain ⟨L', s2, g1, g2, g3, g4, g5⟩ := q6_ok (T := (cutC 32 l).map .str) (k := (k : Nat)) (odd := odd) ha hl hL f1.1
      refine ⟨L', s2, ?_, g2, g3, fun x hx => (g1 x hx).up (by omega), f1.trans g4⟩
      rw [body _ (by rw [s_sSeq, e5, SRes.andThen_nx, s_sSeq, g5, SRes.andThen_rt])]
      rfl
    · have e6 := q6_skip (n := n) (L := L.map .str) (T := (cutC 32 l).map .str) (a := (a : Nat)) (k := (k : Nat)) (odd := odd) (way := way) (by omega) s1
      obtain ⟨l', s2, hl', f2, e7⟩ := tail_ok (T := (cutC 32 l).map .str) (k := (k : Nat)) (odd := odd) (way := way) ha hla hln hj hL (by omega) f1.1
      obtain ⟨p1, p2, p3⟩ := put l' hl'
      refine ⟨_, s2, ?_, p1, p2, p3, f1.trans f2⟩
      rw [body _ (by rw [s_sSeq, e5, SRes.andThen_nx, s_sSeq, e6, SRes.andThen_nx, e7])]
      rfl
def manB : Nat → Nat
  | 0 => 12
  | k + 1 => 3 * manB k + 1
theorem manB_le {j k : Nat} (h : j ≤ k) : manB j ≤ manB k := by
  induction h with
  | refl => exact Nat.le_refl _
  | step _ ih => exact Nat.le_trans ih (by simp only [manB]; omega)
theorem manB3 {k : Nat} (h : k ≤ 3) : manB k ≤ 337 := manB_le h
/-- so many changes -/
def chg : MS := sAsg (eCall f_law_spoilt (aCons (eVar 1) (aCons (eVar 3) aNil))) (gNm 3)
theorem chg_loop (n : Nat) (z0 z2 : Slot) (rest : Env) : ∀ (vs : List D) (j : Nat) (L : List (List Nat)) (z4 : Slot) (s : Sto), 1 ≤ L.length → L.length ≤ manB j → (∀ l ∈ L, Ln j l) → j + vs.length ≤ 3 → Dice s n →
    ∃ (L' : List (List Nat)) (y4 : Slot) (s' : Sto), forP (gNm 4) chg vs (z0 :: .val (.ref n) :: z2 :: .val (.lst (L.map .str)) :: z4 :: rest) s = .nx (z0 :: .val (.ref n) :: z2 :: .val (.lst (L'.map .str)) :: y4 :: rest) s' ∧ 1 ≤ L'.length ∧ L'.length ≤ 337 ∧ (∀ l ∈ L', Ln 3 l) ∧ Fr n s s'
  | [], j, L, z4, s, h0, hL, hl, hj, hd => ⟨L, z4, s, rfl, h0, Nat.le_trans hL (manB3 (by simpa using hj)), fun l h => (hl l h).up (by simpa using hj), ⟨hd, rfl, fun _ _ => rfl⟩⟩
  | v :: vs, j, L, z4, s, h0, hL, hl, hj, hd => by
    simp only [List.length_cons] at hj
    have h1 := manB3 (k := j) (by omega)
    obtain ⟨L1, s1, e1, a1, a2, a3, f1⟩ := spoilt_ok (n := n) h0 (by omega) hl (by omega) hd
    obtain ⟨L', y4, s', e2, b1, b2, b3, f2⟩ := chg_loop n z0 z2 rest vs (j + 1) L1 (.val v) s1 a1 (by simp only [manB]; omega) a3 (by omega) f1.1
    refine ⟨L', y4, s', ?_, b1, b2, b3, f1.trans f2⟩
    rw [← e2]
    have : chg (z0 :: .val (.ref n) :: z2 :: .val (.lst (L.map .str)) :: .val v :: rest) s = .nx (z0 :: .val (.ref n) :: z2 :: .val (.lst (L1.map .str)) :: .val v :: rest) s1 := by
      simp [chg, e1]
    simp only [forP, s_gNm, List.set_cons_succ, List.set_cons_zero, this]
end K24

/-! The plain law of k24: texts read, refusals told. Own text. -/
namespace K24
open MP
/-- the first row that can't be, or the rows -/
def rdS : Nat → List (List Nat) → Nat ⊕ List D
  | _, [] => .inr []
  | i, l :: ls => if 12 ≤ i then .inl i else match rowS 60 (cutC 32 l) with
    | none => .inl i
    | some d => match rdS (i + 1) ls with
      | .inl k => .inl k
      | .inr ds => .inr (d :: ds)
theorem rowP_cases (ws : List (List Nat)) : (rowP 60 ws = none ∧ rowS 60 ws = none) ∨ ∃ w ks ds, RK w = some ks ∧ Sh 60 ks ds ∧ rowP 60 ws = some (ks, .tup (.str w :: ds)) ∧ rowS 60 ws = if gd 3 ks ds = true then some (.tup (.str w :: ds)) else none := by
  cases ws with
  | nil => exact Or.inl ⟨rfl, rfl⟩
  | cons w ws =>
    simp only [rowP, rowS]
    cases hk : RK w with
    | none => exact Or.inl ⟨rfl, rfl⟩
    | some ks =>
      simp only
      cases ht : takS 60 ks ws with
      | none => exact Or.inl ⟨rfl, rfl⟩
      | some p =>
        obtain ⟨ds, r⟩ := p
        cases r with
        | nil => exact .inr ⟨w, ks, ds, hk, sh_takS 60 ks ws ds [] ht, rfl, rfl⟩
        | cons x r => exact .inl ⟨rfl, rfl⟩
/-- what stands in the loop of read -/
def rb : MS := sSeq (sAsg (eCall f_row_of (aCons (eVar 4) aNil)) (gNm 5)) (sSeq (sIf (tOr (tVal (eOp2 opGe (eBor 3) (eC d_MOST_ROWS))) (tOr (tVal (eOp1 opIsN (eVar 5))) (tNot (tVal (eMeth 16 "is_row" f_Rules_is_row (eVar 2) (aCons (eVar 5) aNil)))))) (sRs 1 ["row"] (aCons (eVar 3) aNil)) sNext) (sApp 1 (eVar 5)))
theorem isnon_ansR {o : Option (List (List Nat) × D)} (h : ∀ p, o = some p → isNon p.2 = false) : isNon (ansR o) = o.isNone := by
  cases o with
  | none => rfl
  | some p => exact h p rfl
theorem rb_ok {s : Sto} {m : Nat} (hr : RulesOk s m) {l : List Nat} (hl : Ln 3 l) (i : Nat) (z0 z5 : Slot) (acc : List D) (ha : acc.length < cap) :
    ∃ y5, rb [z0, .own acc, .val (.ref m), .val (.int (i : Nat)), .val (.str l), z5] s = (if 12 ≤ i then .ex ⟨1, [("row", .int (i : Nat))]⟩ [z0, .own acc, .val (.ref m), .val (.int (i : Nat)), .val (.str l), y5] s else match rowS 60 (cutC 32 l) with
      | none => .ex ⟨1, [("row", .int (i : Nat))]⟩ [z0, .own acc, .val (.ref m), .val (.int (i : Nat)), .val (.str l), y5] s
      | some d => .nx [z0, .own (acc ++ [d]), .val (.ref m), .val (.int (i : Nat)), .val (.str l), y5] s) := by
  obtain ⟨w1, w2, w3⟩ := hl.wo (Nat.le_refl 3)
  have e := row_any w1 w2 w3 s
  refine ⟨.val (ansR (rowP 60 (cutC 32 l))), ?_⟩
  by_cases h12 : 12 ≤ i
  · have h12' : (12 : Int) ≤ i := by omega
    rw [if_pos h12]
    simp [rb, e, opGe, opCmp, d_MOST_ROWS, h12']
  · have h12' : ¬ (12 : Int) ≤ i := by omega
    rw [if_neg h12]
    rcases rowP_cases (cutC 32 l) with ⟨p1, p2⟩ | ⟨w, ks, ds, hk, hs, p1, p2⟩
    · rw [p1] at e ⊢
      rw [p2]
      simp [rb, e, opGe, opCmp, d_MOST_ROWS, h12', ansR, opIsN, isNon]
    · rw [p1] at e ⊢
      rw [p2]
      have g := isrow_any hr hk hs
      obtain ⟨q, a1, a2⟩ := hr
      have lkr : List.lookup "is_row" [("words", d_ALL_WORDS), ("marks", marksD), ("limits", D.ref q)] = none := rfl
      cases hg : gd 3 ks ds with
      | true =>
        rw [hg] at g
        simp [rb, e, opGe, opCmp, d_MOST_ROWS, h12', ansR, opIsN, isNon, isOf, a1, lkr, g, ha]
      | false =>
        rw [hg] at g
        simp [rb, e, opGe, opCmp, d_MOST_ROWS, h12', ansR, opIsN, isNon, isOf, a1, lkr, g]
def prs : Nat → List (List Nat) → List D
  | _, [] => []
  | i, l :: ls => .tup [.int i, .str l] :: prs (i + 1) ls
theorem prs_eq : ∀ (ls : List (List Nat)) (i : Nat), (ls.map D.str).mapIdx (fun j d => D.tup [.int ((i + j : Nat) : Int), d]) = prs i ls
  | [], i => rfl
  | l :: ls, i => by
    rw [List.map_cons, List.mapIdx_cons, prs, ← prs_eq ls (i + 1)]
    congr 1
    apply congrFun
    apply congrArg
    funext j x
    congr 3
    omega
theorem read_loop {m : Nat} (z0 : Slot) (s : Sto) (hr : RulesOk s m) : ∀ (ls : List (List Nat)) (i : Nat) (acc : List D) (z3 z4 z5 : Slot), (∀ l ∈ ls, Ln 3 l) → acc.length + ls.length < cap → ∃ (y3 y4 y5 : Slot) (env : Env), forP (gTp [gNm 3, gNm 4]) rb (prs i ls) [z0, .own acc, .val (.ref m), z3, z4, z5] s = match rdS i ls with
      | .inl k => .ex ⟨1, [("row", .int (k : Nat))]⟩ env s
      | .inr ds => .nx [z0, .own (acc ++ ds), .val (.ref m), y3, y4, y5] s
  | [], i, acc, z3, z4, z5, _, _ => ⟨z3, z4, z5, [], by simp [prs, forP, rdS]⟩
  | l :: ls, i, acc, z3, z4, z5, h, hl => by
    rw [List.length_cons] at hl
    obtain ⟨y5, t⟩ := rb_ok hr (h l (by simp)) i z0 z5 acc (by omega)
    simp only [prs, forP, s_gTp, s_gAll1, s_gNm, Option.bind_some, s_gAll0, List.set_cons_succ, List.set_cons_zero, t, rdS]
    by_cases h12 : 12 ≤ i
    · rw [if_pos h12, if_pos h12]
      exact ⟨z3, z4, z5, _, rfl⟩
    · rw [if_neg h12, if_neg h12]
      cases hrow : rowS 60 (cutC 32 l) with
      | none => exact ⟨z3, z4, z5, _, rfl⟩
      | some d =>
        obtain ⟨u3, u4, u5, env, e⟩ := read_loop z0 s hr ls (i + 1) (acc ++ [d]) (.val (.int i)) (.val (.str l)) y5 (fun x hx => h x (List.mem_cons_of_mem _ hx)) (by simp; omega)
        refine ⟨u3, u4, u5, env, ?_⟩
        simp only
        rw [e]
        cases rdS (i + 1) ls with
        | inl k => rfl
        | inr ds => simp
def ansX : Nat ⊕ List D → Sto → Res D
  | .inl k, s => .exc ⟨1, [("row", .int (k : Nat))]⟩ s
  | .inr ds, s => .ok (.tup ds) s
theorem read_any {ls : List (List Nat)} (hn : ls ≠ []) (hl : ls.length ≤ 1000) (h : ∀ l ∈ ls, Ln 3 l) (htot : (joinC [10] ls).length ≤ cap) (s : Sto) : ∃ s', f_read [.str (joinC [10] ls)] s = ansX (rdS 0 ls) s' ∧ ∀ j, j < s.length → s'[j]? = s[j]? := by
  obtain ⟨s1, e1, hr, k1⟩ := new_rules [.val (.str (joinC [10] ls)), .own [], .emp, .emp, .emp, .emp] s
  refine ⟨s1, ?_, k1⟩
  obtain ⟨y3, y4, y5, env, e⟩ := read_loop (.val (.str (joinC [10] ls))) s1 hr ls 0 [] .emp .emp .emp h (by simp; unfold cap; omega)
  have hc : cutC 10 (joinC [10] ls) = ls := cut_join hn fun l hx z => ((h l hx).ch 10 z).2 rfl
  have hcut : cutAt (joinC [10] ls) (.str [10]) s1 = .ok (ls.map .str) s1 := by
    show (if (joinC [10] ls).length ≤ cap ∧ 10 < 256 then Res.ok ((cutC 10 (joinC [10] ls)).map D.str) s1 else .stk) = _
    rw [if_pos ⟨htot, by decide⟩, hc]
  have hp := prs_eq ls 0
  have f := s_sFor (iEnum (eFrz (lSplit (eVar 0) (eC (.str [10]))))) (gTp [gNm 3, gNm 4]) rb [.val (.str (joinC [10] ls)), .own [], .val (.ref s.length), .emp, .emp, .emp] s1 s1 (prs 0 ls) (by
    rw [← hp]
    simp [hcut])
  rw [e] at f
  have body : f_read = runB 1 6 (sSeq (sOwn (lLst aNil) 1) (sSeq (sAsg (eNewK 16 fk_Rules_marks 1 1 (aCons (eC d_ALL_WORDS) aNil) (aCons (eTupRg (eC d_MARKS)) aNil)) (gNm 2)) (sSeq (sFor (iEnum (eFrz (lSplit (eVar 0) (eC (.str [10]))))) (gTp [gNm 3, gNm 4]) rb) (sRet (eOp1 opTuple (eBor 1)))))) := rfl
  rw [body]
  cases hrd : rdS 0 ls with
  | inl k =>
    rw [hrd] at f
    simp [e1, f, ansX]
  | inr ds =>
    rw [hrd] at f
    simp [e1, f, ansX, opTuple, seqOf]
/-! ### told -/
theorem told_text (k : Int) (s : Sto) : h_law_told ((List.replicate 5 .emp).set 1 (.exn ⟨1, [("row", .int k)]⟩)) s = .rt (.tup [.str [114, 101, 102, 117, 115, 101, 100], .str [116, 101, 120, 116], .int k]) s := by
  rfl
end K24

/-! The plain law of k24: likeness; the parts of the law's loop. Own text. -/
namespace K24
open MP
theorem GA.num_or {k : Nat} {kind : List Nat} {d : D} (h : GA k kind d) : (∃ l n, d = .int n ∧ limOf kind = some l ∧ 0 ≤ n ∧ n < l) ∨ ∃ j w kinds ds, k = j + 1 ∧ d = .tup (.str w :: ds) ∧ F2 (GA j) kinds ds ∧ kind = kPart ∧ t_PARTS.lookup w = some (.tup (kinds.map .str)) := by
  cases k with
  | zero => obtain ⟨l, n, h, e, a, b⟩ := h; exact .inl ⟨l, n, e, h, a, b⟩
  | succ j =>
    rcases h with ⟨l, n, h, e, a, b⟩ | ⟨e0, w, kinds, ds, e, h, hs⟩
    · exact .inl ⟨l, n, e, h, a, b⟩
    · exact .inr ⟨j, w, kinds, ds, rfl, e, hs, e0, h⟩
/-- things of kinds taken from words -/
def Lk (f : Nat) (d : D) : Prop := ∀ s, f_law_like f [d, d] s = .ok (.bl true) s
theorem eqD_bl (a b : Bool) : eqD (.bl a) (.bl b) = some (a == b) := rfl
theorem eqE : eqD (.lst []) (.lst []) = some true := rfl
theorem lk_int (f : Nat) (i : Int) : Lk (f + 1) (.int i) := fun s => by
  simp [f_law_like, opKind, kindOf, Ki.isA, opNe, opEq, view, eqD_bl, eqD_int]
theorem lk_str (f : Nat) {cs : List Nat} (h : ∀ c ∈ cs, c ≤ 127) : Lk (f + 1) (.str cs) := fun s => by
  simp [f_law_like, opKind, kindOf, Ki.isA, opNe, opEq, view, eqD_bl, eq_str h h]
theorem like_loop (f : Nat) (ds : List D) (hd : ∀ d ∈ ds, Lk f d) (s : Sto) (z : Slot) : ∀ ks : List Nat, (∀ k ∈ ks, k < ds.length) → lcP (gNm 2) (tNot (tVal (eCall (f_law_like f) (aCons (eOp2 opIx (eBor 0) (eBor 2)) (aCons (eOp2 opIx (eBor 1) (eBor 2)) aNil))))) (eVar 2) [.val (.tup ds), .val (.tup ds), z] (ks.map fun (k : Nat) => D.int (0 + (k : Int))) s = .ok [] s
  | [], _ => rfl
  | k :: ks, h => by
    have hk := h k (by simp)
    have ih := like_loop f ds hd s z ks fun x hx => h x (List.mem_cons_of_mem _ hx)
    obtain ⟨d, e⟩ : ∃ d, ds[k]? = some d := ⟨_, List.getElem?_eq_getElem hk⟩
    have hm := hd d (List.mem_of_getElem? e) s
    have ix : ixD ds (k : Int) = some d := by
      unfold ixD place
      rw [if_pos (by omega), if_pos (by omega)]; simpa using e
    simp only [Int.zero_add] at ih
    simp [lcP, opIx, seqOf, ix, hm, ih]
theorem lk_tup {f : Nat} {ds : List D} (hl : ds.length ≤ 1000) (hd : ∀ d ∈ ds, Lk f d) : Lk (f + 1) (.tup ds) := fun s => by
  have g := like_loop f ds hd s .emp (List.range ds.length) fun k hk => List.mem_range.mp hk
  have e : intsD 0 ds.length = (List.range ds.length).map fun (k : Nat) => D.int (0 + (k : Int)) := rfl
  rw [← e] at g
  have hc : -(cap : Int) ≤ ds.length ∧ (ds.length : Int) ≤ cap := by unfold cap; omega
  have l := s_lLc (iRng (eOp1 opLen (eBor 1))) (gNm 2) (tNot (tVal (eCall (f_law_like f) (aCons (eOp2 opIx (eBor 0) (eBor 2)) (aCons (eOp2 opIx (eBor 1) (eBor 2)) aNil))))) (eVar 2) [2] [.val (.tup ds), .val (.tup ds), .emp] s s (intsD 0 ds.length) (by simp [opLen, seqOf, hc]) (by simp [intsD]; unfold cap; omega)
  have hw : wipeE [.val (.tup ds), .val (.tup ds), .emp] [2] = [.val (.tup ds), .val (.tup ds), .emp] := rfl
  rw [hw, g] at l
  simp [-s_iRng, f_law_like, opKind, kindOf, Ki.isA, opNe, opEq, view, eqD_bl, eqD_int, opLen, seqOf, l, eqE]
theorem word_le {w : List Nat} (h : WordOk w) : ∀ c ∈ w, c ≤ 127 := fun c hc => (h.2.2 c hc).2
theorem lk_args {k f : Nat} (h : ∀ kind d, GA k kind d → Lk f d) : ∀ {kinds : List (List Nat)} {ds : List D}, F2 (GA k) kinds ds → ∀ d ∈ ds, Lk f d
  | _, _, .nil => fun d hd => (nomatch hd)
  | _, _, .cons x y => fun d hd => by
    rcases (List.mem_cons.mp hd) with rfl | hd
    · exact h _ _ x
    · exact lk_args h y d hd
theorem lk_ga : ∀ (k f : Nat), k + 1 ≤ f → ∀ kind d, GA k kind d → Lk f d
  | k, 0, h => absurd h (by omega)
  | k, f + 1, h => fun kind d g => by
    rcases g.num_or with ⟨l, v, rfl, hk, a, b⟩ | ⟨j, w, ks, es, rfl, rfl, hs, rfl, hp⟩
    · exact lk_int f v
    · have hlen : es.length ≤ 2 := by rw [← hs.len]; exact (parts_in hp).2
      refine lk_tup (by simp; omega) fun d hd => ?_
      rcases (List.mem_cons.mp hd) with rfl | hd
      · cases f with
        | zero => omega
        | succ f => exact lk_str f (word_le (parts_in hp).1)
      · exact lk_args (lk_ga j f (by omega)) hs d hd
theorem lk_row {d : D} (h : GR d) : Lk 5 d := by
  obtain ⟨w, kinds, ds, rfl, h1, h2, h3⟩ := h
  have hlen : ds.length ≤ 3 := by rw [← h3.len]; exact (rows_in h1).2
  refine lk_tup (by simp; omega) fun d hd => ?_
  rcases (List.mem_cons.mp hd) with rfl | hd
  · exact lk_str 3 (word_le (rows_in h1).1)
  · exact lk_args (lk_ga 3 4 (by omega)) h3 d hd
theorem lk_text {rows : List D} (hl : rows.length ≤ 12) (h : ∀ d ∈ rows, GR d) : Lk 6 (.tup rows) := lk_tup (by omega) fun d hd => lk_row (h d hd)

theorem lk_told (k : Int) : Lk 6 (.tup [.str [114, 101, 102, 117, 115, 101, 100], .str [116, 101, 120, 116], .int k]) := lk_tup (by simp) fun d hd => by
  simp only [List.mem_cons, List.not_mem_nil, or_false] at hd
  rcases hd with rfl | rfl | rfl
  · exact lk_str 4 (by decide)
  · exact lk_str 4 (by decide)
  · exact lk_int 4 k
def t0 : MS := (sAsg (eFrz (lSplit (eCall f_written (aCons (eCall f_law_text (aCons (eVar 1) (aCons (eTup (aCons (eC (.int 8)) (aCons (eC (.int 4)) (aCons (eTupRg (eC (.int 10))) aNil)))) aNil))) aNil)) (eC (.str [10])))) (gNm 3))
def t1 : MS := (sFor (iRng (eCall f_law_next (aCons (eVar 1) (aCons (eC (.int 4)) aNil)))) (gNm 4) (sAsg (eCall f_law_spoilt (aCons (eVar 1) (aCons (eVar 3) aNil))) (gNm 3)))
def t2 : MS := (sIf (tVal (eOp2 opEq (eCall f_law_next (aCons (eVar 1) (aCons (eC (.int 8)) aNil))) (eC (.int 0)))) (sSeq (sAsg (eFrz (lLst (aCons (eC (.str [115, 101, 116, 32, 48, 32, 115, 117, 109, 32, 110, 117, 109, 32, 49, 32, 115, 117, 109, 32, 110, 117, 109, 32, 49, 32, 110, 117, 109, 32, 49])) (aCons (eC (.str [115, 101, 116, 32, 48, 32, 115, 117, 109, 32, 110, 117, 109, 32, 49, 32, 115, 117, 109, 32, 110, 117, 109, 32, 49, 32, 115, 117, 109, 32, 110, 117, 109, 32, 49, 32, 110, 117, 109, 32, 49])) aNil)))) (gNm 5)) (sSeq (sPar 6 5 (aCons (eCall f_law_next (aCons (eVar 1) (aCons (eOp2 opAdd (eOp1 opLen (eBor 3)) (eC (.int 1))) aNil))) (aCons (eFrz (lAdd (eBor 5) (eFrz (lLst (aCons (eC (.str [110, 101, 101, 100, 32, 110, 117, 109, 32, 49])) (aCons (eC (.str [])) aNil)))))) aNil))) (sAsg (eFrz (lAdd (eFrz (lAdd (eFrz (lSl (eBor 3) oNone (oSome (eVar 6)))) (eFrz (lLst (aCons (eOp2 opIx (eBor 5) (eCall f_law_next (aCons (eVar 1) (aCons (eC (.int 4)) aNil)))) aNil))))) (eFrz (lSl (eBor 3) oNone (oSome (eC (.int 2))))))) (gNm 3)))) sNext)
def t3 : MS := (sAsg (eFrz (lLc (iSeq (eVar 3)) (gNm 11) tYesM (eCall f_law_row_of (aCons (eVar 11) aNil)) [11])) (gNm 7))
def t4 : MS := (sAsg (eFrz (lLc (iRng (eOp1 opLen (eBor 7))) (gNm 12) (tOr (tVal (eOp1 opIsN (eOp2 opIx (eBor 7) (eBor 12)))) (tVal (eOp2 opEq (eBor 12) (eC (.int 12))))) (eVar 12) [12])) (gNm 8))
def t5 : MS := (sAsg (eIf (tVal (eOp2 opEq (eBor 8) (eFrz (lLst aNil)))) (eOp1 opTuple (eBor 7)) (eTup (aCons (eC (.str [114, 101, 102, 117, 115, 101, 100])) (aCons (eC (.str [116, 101, 120, 116])) (aCons (eOp2 opIx (eBor 8) (eC (.int 0))) aNil))))) (gNm 9))
def t6 : MS := (sAsg (eTold (eCall f_read (aCons (eJoin (eC (.str [10])) (eBor 3)) aNil)) h_law_told 5 1 [1]) (gNm 10))
def t7 : MS := (sIf (tOr (tNot (tVal (eCall (f_law_like 6) (aCons (eVar 10) (aCons (eVar 9) aNil))))) (tAnd (tVal (eOp2 opEq (eBor 8) (eFrz (lLst aNil)))) (tVal (eOp2 opNe (eCall f_written (aCons (eVar 10) aNil)) (eJoin (eC (.str [10])) (eBor 3)))))) (sRet (eC (.bl false))) sNext)
def lbody : MS := (sSeq t0 (sSeq t1 (sSeq t2 (sSeq t3 (sSeq t4 (sSeq t5 (sSeq t6 t7)))))))
theorem law_eq : f_law = runB 1 13 (sSeq (sAsg (eCall f_law_dice (aCons (eVar 0) aNil)) (gNm 1)) (sSeq (sFor (iRng (eC (.int 6))) (gNm 2) lbody) (sRet (eC (.bl true))))) := rfl
end K24

/-! The plain law of k24: the law's loop, parts. Own text. -/
namespace K24
open MP
abbrev E13 (n : Nat) (z0 z2 z3 z4 z5 z6 z7 z8 z9 z10 z11 z12 : Slot) : Env := [z0, .val (.ref n), z2, z3, z4, z5, z6, z7, z8, z9, z10, z11, z12]
abbrev lns (L : List (List Nat)) : Slot := .val (.lst (L.map .str))
theorem Fr.keep {n : Nat} {s s' : Sto} (hd : Dice s n) (h : ∀ j, j < s.length → s'[j]? = s[j]?) : Dice s' n := by
  obtain ⟨ns, i, c, a, h0, e⟩ := hd
  exact ⟨ns, i, c, a, h0, by rw [h n (List.getElem?_eq_some_iff.mp e).1]; exact e⟩
theorem Dice.app {n : Nat} {s : Sto} (t : Sto) (hd : Dice s n) : Dice (s ++ t) n := Fr.keep hd fun j hj => List.getElem?_append_left hj
section
variable {n : Nat} {z0 z2 z3 z4 z5 z6 z7 z8 z9 z10 z11 z12 : Slot}
theorem sum_lines {L : List (List Nat)} {b : Nat} (h : ∀ l ∈ L, l.length ≤ b) : (L.map List.length).sum ≤ L.length * b := sum_le h
theorem join_len {L : List (List Nat)} {b : Nat} (h : ∀ l ∈ L, l.length ≤ b) : (joinC [10] L).length ≤ L.length * b + L.length := by
  have h1 := joinC_len [10] L
  have h2 := sum_lines h
  simp at h1
  omega
theorem t0_ok {s : Sto} (hd : Dice s n) : ∃ (L : List (List Nat)) (s' : Sto), 1 ≤ L.length ∧ L.length ≤ 12 ∧ (∀ l ∈ L, Ln 0 l) ∧ Fr n s s' ∧ t0 (E13 n z0 z2 z3 z4 z5 z6 z7 z8 z9 z10 z11 z12) s = .nx (E13 n z0 z2 (lns L) z4 z5 z6 z7 z8 z9 z10 z11 z12) s' := by
  obtain ⟨rows, s1, e1, h1, h2, h3, f1⟩ := text_ok s n hd
  have e2 := written_ok h2 h3 s1
  have hL : ∀ l ∈ rows.map line, Ln 0 l := fun l hl => by
    obtain ⟨d, hd, rfl⟩ := List.mem_map.mp hl
    exact (h3 d hd).ln
  have hne : rows.map line ≠ [] := by
    cases rows with
    | nil => simp at h1
    | cons => simp
  have hc : cutC 10 (joinC [10] (rows.map line)) = rows.map line := cut_join hne fun l hx z => ((hL l hx).ch 10 z).2 rfl
  have hlen := join_len (b := 322) fun l hl => (hL l hl).len
  rw [List.length_map] at hlen
  have hcap : (joinC [10] (rows.map line)).length ≤ cap := by
    have : rows.length * 322 ≤ 12 * 322 := Nat.mul_le_mul_right _ h2
    unfold cap; omega
  have hcut : cutAt (joinC [10] (rows.map line)) (.str [10]) s1 = .ok ((rows.map line).map .str) s1 := by
    show (if (joinC [10] (rows.map line)).length ≤ cap ∧ 10 < 256 then Res.ok ((cutC 10 (joinC [10] (rows.map line))).map D.str) s1 else .stk) = _
    rw [if_pos ⟨hcap, by decide⟩, hc]
  refine ⟨rows.map line, s1, by simpa using h1, by simpa using h2, hL, f1, ?_⟩
  have hc10 : (10 : Int) ≤ cap := by decide
  have e1' := e1
  simp only [gD] at e1'
  have rng10 : intsD 0 10 = [.int 0, .int 1, .int 2, .int 3, .int 4, .int 5, .int 6, .int 7, .int 8, .int 9] := rfl
  generalize rows.map line = RL at *
  simp [t0, hc10, rng10, e1', e2, hcut]
theorem t1_ok {L : List (List Nat)} (h1 : 1 ≤ L.length) (h2 : L.length ≤ 12) (hl : ∀ l ∈ L, Ln 0 l) {s : Sto} (hd : Dice s n) : ∃ (L' : List (List Nat)) (y4 : Slot) (s' : Sto), 1 ≤ L'.length ∧ L'.length ≤ 337 ∧ (∀ l ∈ L', Ln 3 l) ∧ Fr n s s' ∧
    t1 (E13 n z0 z2 (lns L) z4 z5 z6 z7 z8 z9 z10 z11 z12) s = .nx (E13 n z0 z2 (lns L') y4 z5 z6 z7 z8 z9 z10 z11 z12) s' := by
  obtain ⟨r, s1, e1, hr, f1⟩ := nxN hd (m := 4) (by decide) (by decide)
  obtain ⟨L', y4, s', e, a1, a2, a3, f2⟩ := chg_loop n z0 z2 [z5, z6, z7, z8, z9, z10, z11, z12] (intsD 0 r) 0 L z4 s1 h1 h2 hl (by simp [intsD]; omega) f1.1
  refine ⟨L', y4, s', a1, a2, a3, f1.trans f2, ?_⟩
  have e1' : f_law_next [.ref n, .int 4] s = .ok (.int (r : Nat)) s1 := e1
  have hc : -(cap : Int) ≤ r ∧ (r : Int) ≤ cap := by unfold cap; omega
  have f := s_sFor (iRng (eCall f_law_next (aCons (eVar 1) (aCons (eC (.int 4)) aNil)))) (gNm 4) chg (E13 n z0 z2 (lns L) z4 z5 z6 z7 z8 z9 z10 z11 z12) s s1 (intsD 0 r) (by simp [e1', hc])
  exact f.trans e
theorem deep_lines : ∀ l ∈ ([[115, 101, 116, 32, 48, 32, 115, 117, 109, 32, 110, 117, 109, 32, 49, 32, 115, 117, 109, 32, 110, 117, 109, 32, 49, 32, 110, 117, 109, 32, 49], [115, 101, 116, 32, 48, 32, 115, 117, 109, 32, 110, 117, 109, 32, 49, 32, 115, 117, 109, 32, 110, 117, 109, 32, 49, 32, 115, 117, 109, 32, 110, 117, 109, 32, 49, 32, 110, 117, 109, 32, 49], [110, 101, 101, 100, 32, 110, 117, 109, 32, 49], []] : List (List Nat)), Ln 3 l := by
  have : ∀ l ∈ ([[115, 101, 116, 32, 48, 32, 115, 117, 109, 32, 110, 117, 109, 32, 49, 32, 115, 117, 109, 32, 110, 117, 109, 32, 49, 32, 110, 117, 109, 32, 49], [115, 101, 116, 32, 48, 32, 115, 117, 109, 32, 110, 117, 109, 32, 49, 32, 115, 117, 109, 32, 110, 117, 109, 32, 49, 32, 115, 117, 109, 32, 110, 117, 109, 32, 49, 32, 110, 117, 109, 32, 49], [110, 101, 101, 100, 32, 110, 117, 109, 32, 49], []] : List (List Nat)), (∀ c ∈ l, c ≤ 127 ∧ c ≠ 10) ∧ l.length ≤ lenB 3 ∧ l.count 32 ≤ 45 + 3 := by decide
  exact fun l hl => ⟨(this l hl).1, (this l hl).2.1, (this l hl).2.2⟩
theorem t2_ok {L : List (List Nat)} (h1 : 1 ≤ L.length) (h2 : L.length ≤ 337) (hl : ∀ l ∈ L, Ln 3 l) {s : Sto} (hd : Dice s n) : ∃ (L' : List (List Nat)) (y5 y6 : Slot) (s' : Sto), 1 ≤ L'.length ∧ L'.length ≤ 340 ∧ (∀ l ∈ L', Ln 3 l) ∧ Fr n s s' ∧
    t2 (E13 n z0 z2 (lns L) z4 z5 z6 z7 z8 z9 z10 z11 z12) s = .nx (E13 n z0 z2 (lns L') z4 y5 y6 z7 z8 z9 z10 z11 z12) s' := by
  obtain ⟨r, s1, e1, hr, f1⟩ := nxN hd (m := 8) (by decide) (by decide)
  have e1' : f_law_next [.ref n, .int 8] s = .ok (.int (r : Nat)) s1 := e1
  by_cases h0 : r = 0
  · subst h0
    obtain ⟨a, s2, e2, ha, f2⟩ := nxN f1.1 (m := L.length + 1) (by omega) (by omega)
    obtain ⟨x, s3, e3, hx, f3⟩ := nxN f2.1 (m := 4) (by decide) (by decide)
    have e2' : f_law_next [.ref n, .int ((L.length : Int) + 1)] s1 = .ok (.int (a : Nat)) s2 := e2
    have e3' : f_law_next [.ref n, .int 4] s2 = .ok (.int (x : Nat)) s3 := e3
    have hq : eqD (.int 0) (.int 0) = some true := rfl
    obtain ⟨l, hlx, hix⟩ : ∃ l, Ln 3 l ∧ ixD [D.str [115, 101, 116, 32, 48, 32, 115, 117, 109, 32, 110, 117, 109, 32, 49, 32, 115, 117, 109, 32, 110, 117, 109, 32, 49, 32, 110, 117, 109, 32, 49], D.str [115, 101, 116, 32, 48, 32, 115, 117, 109, 32, 110, 117, 109, 32, 49, 32, 115, 117, 109, 32, 110, 117, 109, 32, 49, 32, 115, 117, 109, 32, 110, 117, 109, 32, 49, 32, 110, 117, 109, 32, 49], D.str [110, 101, 101, 100, 32, 110, 117, 109, 32, 49], D.str []] (x : Int) = some (.str l) := by
      have : x = 0 ∨ x = 1 ∨ x = 2 ∨ x = 3 := by omega
      rcases this with rfl | rfl | rfl | rfl
      · exact ⟨_, deep_lines _ (by simp), rfl⟩
      · exact ⟨_, deep_lines _ (by simp), rfl⟩
      · exact ⟨_, deep_lines _ (by simp), rfl⟩
      · exact ⟨_, deep_lines _ (by simp), rfl⟩
    refine ⟨L.take a ++ l :: L.take 2, .val (.lst [D.str [115, 101, 116, 32, 48, 32, 115, 117, 109, 32, 110, 117, 109, 32, 49, 32, 115, 117, 109, 32, 110, 117, 109, 32, 49, 32, 110, 117, 109, 32, 49], D.str [115, 101, 116, 32, 48, 32, 115, 117, 109, 32, 110, 117, 109, 32, 49, 32, 115, 117, 109, 32, 110, 117, 109, 32, 49, 32, 115, 117, 109, 32, 110, 117, 109, 32, 49, 32, 110, 117, 109, 32, 49], D.str [110, 101, 101, 100, 32, 110, 117, 109, 32, 49], D.str []]), .val (.int (a : Nat)), s3, by simp; omega, by simp; omega, fun y hy => ?_, f1.trans (f2.trans f3), ?_⟩
    · rcases List.mem_append.mp hy with h | h
      · exact hl y (List.mem_of_mem_take h)
      · rcases List.mem_cons.mp h with h | h
        · subst h; exact hlx
        · exact hl y (List.mem_of_mem_take h)
    · have lA := cutT D.str L a (by omega)
      have lB : cutD (L.map D.str) none (some 2) = (L.take 2).map .str := by
        have e1 : partIx (L.map D.str).length 0 none = 0 := rfl
        have e2 : partIx (L.map D.str).length (L.map D.str).length (some 2) = min 2 L.length := by simp [partIx]
        unfold cutD
        rw [e1, e2, List.drop_zero, Nat.sub_zero, ← List.map_take]
        by_cases h : 2 ≤ L.length
        · rw [Nat.min_eq_left h]
        · rw [Nat.min_eq_right (by omega), List.take_length, List.take_of_length_le (by omega)]
      have b1 : (L.take a).length + 1 ≤ cap := by simp; unfold cap; omega
      have b2 : (L.take a).length + 1 + (L.take 2).length ≤ cap := by simp; unfold cap; omega
      have d4 : 4 ≤ cap := by decide
      generalize L.take a = AA at *
      generalize L.take 2 = BB at *
      simp [t2, e1', opEq, view, hq, opLen, seqOf, opAdd, e2', d4, lA, opIx, e3', hix, lB, b1, b2]
  · have hq : eqD (.int (r : Int)) (.int 0) = some false := by rw [eqD_int]; simp; omega
    exact ⟨L, z5, z6, s1, h1, by omega, hl, f1, by simp [t2, e1', opEq, view, hq]⟩
/-! ### rows, bad ones -/
def rowD (l : List Nat) : D := ansD (rowS 60 (cutC 32 l))
theorem rows_loop2 (env : Env) (he : 11 < env.length) : ∀ (L : List (List Nat)) (s : Sto), (∀ l ∈ L, Ln 3 l) → ∃ t, lcP (gNm 11) tYesM (eCall f_law_row_of (aCons (eVar 11) aNil)) env (L.map .str) s = .ok (L.map rowD) (s ++ t)
  | [], s, _ => ⟨[], by simp [lcP]⟩
  | l :: L, s, h => by
    obtain ⟨w1, w2, w3⟩ := (h l (by simp)).wo (Nat.le_refl 3)
    obtain ⟨t1, e1⟩ := rowof_own w1 w2 w3 s
    rw [rowO_rowS] at e1
    obtain ⟨t2, e2⟩ := rows_loop2 env he L (s ++ t1) fun x hx => h x (List.mem_cons_of_mem _ hx)
    refine ⟨t1 ++ t2, ?_⟩
    simp only [List.map_cons, lcP]
    simp [he, e1, e2, rowD]
theorem t3_ok {L : List (List Nat)} (h2 : L.length ≤ 340) (hl : ∀ l ∈ L, Ln 3 l) (s : Sto) : ∃ (t : Sto), t3 (E13 n z0 z2 (lns L) z4 z5 z6 z7 z8 z9 z10 z11 z12) s = .nx (E13 n z0 z2 (lns L) z4 z5 z6 (.val (.lst (L.map rowD))) z8 z9 z10 z11 z12) (s ++ t) := by
  obtain ⟨t, e⟩ := rows_loop2 (wipeE (E13 n z0 z2 (lns L) z4 z5 z6 z7 z8 z9 z10 z11 z12) [11]) (by simp [wipeE]) L s hl
  have l := s_lLc (iSeq (eVar 3)) (gNm 11) tYesM (eCall f_law_row_of (aCons (eVar 11) aNil)) [11] (E13 n z0 z2 (lns L) z4 z5 z6 z7 z8 z9 z10 z11 z12) s s (L.map .str) (by simp [srcOf]) (by simp; unfold cap; omega)
  rw [e] at l
  exact ⟨t, by simp [t3, l]⟩
def bd : Nat → List (List Nat) → List Nat
  | _, [] => []
  | i, l :: ls => if (rowS 60 (cutC 32 l)).isNone = true ∨ i = 12 then i :: bd (i + 1) ls else bd (i + 1) ls
theorem rowD_non (l : List Nat) : isNon (rowD l) = (rowS 60 (cutC 32 l)).isNone := by
  unfold rowD
  cases h : rowS 60 (cutC 32 l) with
  | none => rfl
  | some d =>
    obtain ⟨w, ks, ds, rfl, _⟩ := (rowS_GR h).1
    rfl
def tst : MT := tOr (tVal (eOp1 opIsN (eOp2 opIx (eBor 7) (eBor 12)))) (tVal (eOp2 opEq (eBor 12) (eC (.int 12))))
theorem bad_loop (s : Sto) : ∀ (ls pre : List (List Nat)), lcP (gNm 12) tst (eVar 12) (E13 n z0 z2 z3 z4 z5 z6 (.val (.lst ((pre ++ ls).map rowD))) z8 z9 z10 z11 z12) ((List.range' pre.length ls.length).map fun (k : Nat) => D.int (k : Int)) s = .ok ((bd pre.length ls).map fun (k : Nat) => D.int (k : Int)) s
  | [], pre => by simp [lcP, bd]
  | l :: ls, pre => by
    have ih := bad_loop s ls (pre ++ [l])
    rw [List.append_assoc, List.singleton_append, List.length_append, List.length_cons, List.length_nil, Nat.zero_add] at ih
    have hix : ixD ((pre ++ l :: ls).map rowD) (pre.length : Int) = some (rowD l) := ixN (by simp)
    have hq : eqD (.int (pre.length : Int)) (.int 12) = some (decide (pre.length = 12)) := by
      rw [eqD_int]
      congr 1
      rw [Bool.eq_iff_iff]
      simp
      omega
    rw [List.length_cons, List.range'_succ, List.map_cons]
    generalize (pre ++ l :: ls).map rowD = RR at hix ih ⊢
    have hn := rowD_non l
    have hT : tst (E13 n z0 z2 z3 z4 z5 z6 (.val (.lst RR)) z8 z9 z10 z11 (.val (.int (pre.length : Int)))) s = .ok ((rowS 60 (cutC 32 l)).isNone || decide (pre.length = 12)) s := by
      cases hr : (rowS 60 (cutC 32 l)).isNone with
      | true =>
        rw [hr] at hn
        simp [tst, opIx, seqOf, hix, opIsN, hn]
      | false =>
        rw [hr] at hn
        simp [tst, opIx, seqOf, hix, opIsN, hn, opEq, view, hq]
    have hset : (E13 n z0 z2 z3 z4 z5 z6 (.val (.lst RR)) z8 z9 z10 z11 z12).set 12 (.val (.int (pre.length : Int))) = E13 n z0 z2 z3 z4 z5 z6 (.val (.lst RR)) z8 z9 z10 z11 (.val (.int (pre.length : Int))) := rfl
    have hv : eVar 12 (E13 n z0 z2 z3 z4 z5 z6 (.val (.lst RR)) z8 z9 z10 z11 (.val (.int (pre.length : Int)))) s = .ok (.int (pre.length : Int)) s := rfl
    simp only [lcP, s_gNm, Res.ofO_some, Res.bind_ok, hset, hT, calm_ok]
    cases hb : ((rowS 60 (cutC 32 l)).isNone || decide (pre.length = 12)) with
    | true =>
      have hc : (rowS 60 (cutC 32 l)).isNone = true ∨ pre.length = 12 := by simpa using hb
      simp only [if_true, hv, calm_ok, Res.bind_ok, ih, bd, if_pos hc, List.map_cons]
    | false =>
      have hc : ¬ ((rowS 60 (cutC 32 l)).isNone = true ∨ pre.length = 12) := by
        intro z
        simp only [Bool.or_eq_false_iff, decide_eq_false_iff_not] at hb
        rcases z with z | z
        · rw [hb.1] at z; cases z
        · exact hb.2 z
      simp only [Bool.false_eq_true, if_false, ih, bd, if_neg hc]
end
end K24

/-! The plain law of k24, whole. Own text. -/
namespace K24
open MP
theorem rdS_inr : ∀ (ls : List (List Nat)) (i : Nat) (ds : List D), rdS i ls = .inr ds → i ≤ 12 → ls.map rowD = ds ∧ (∀ d ∈ ds, GR d) ∧ ds.map line = ls ∧ i + ls.length ≤ 12 ∧ bd i ls = []
  | [], i, ds, h, hi => by
    simp only [rdS, Sum.inr.injEq] at h
    subst h
    exact ⟨rfl, fun _ h => (nomatch h), rfl, by simpa using hi, rfl⟩
  | l :: ls, i, ds, h, hi => by
    simp only [rdS] at h
    split at h
    · cases h
    · rename_i h12
      cases hr : rowS 60 (cutC 32 l) with
      | none => rw [hr] at h; cases h
      | some d =>
        rw [hr] at h
        simp only at h
        cases h2 : rdS (i + 1) ls with
        | inl k => rw [h2] at h; cases h
        | inr es =>
          rw [h2] at h
          simp only [Sum.inr.injEq] at h
          subst h
          obtain ⟨a, b, c, e, f⟩ := rdS_inr ls (i + 1) es h2 (by omega)
          obtain ⟨g1, g2⟩ := rowS_GR hr
          have hd : rowD l = d := by unfold rowD; rw [hr]; rfl
          have hline : line d = l := by
            unfold line
            rw [← g2]
            exact join_cut 32 l
          refine ⟨by rw [List.map_cons, hd, a], fun x hx => ?_, by rw [List.map_cons, hline, c], by simp only [List.length_cons]; omega, ?_⟩
          · rcases List.mem_cons.mp hx with e | hx
            · subst e; exact g1
            · exact b x hx
          · simp only [bd]
            rw [if_neg, f]
            intro z
            rcases z with z | z
            · rw [hr] at z; cases z
            · omega
theorem rdS_inl : ∀ (ls : List (List Nat)) (i k : Nat), rdS i ls = .inl k → i ≤ 12 → ∃ r, bd i ls = k :: r
  | [], i, k, h, hi => by cases h
  | l :: ls, i, k, h, hi => by
    simp only [rdS] at h
    split at h
    · rename_i h12
      cases h
      exact ⟨bd (i + 1) ls, by simp only [bd]; rw [if_pos (.inr (by omega))]⟩
    · rename_i h12
      cases hr : rowS 60 (cutC 32 l) with
      | none =>
        rw [hr] at h
        cases h
        exact ⟨bd (i + 1) ls, by simp only [bd]; rw [if_pos (.inl (by rw [hr]; rfl))]⟩
      | some d =>
        rw [hr] at h
        simp only at h
        cases h2 : rdS (i + 1) ls with
        | inr es => rw [h2] at h; cases h
        | inl k2 =>
          rw [h2] at h
          cases h
          obtain ⟨r, e⟩ := rdS_inl ls (i + 1) k h2 (by omega)
          refine ⟨r, ?_⟩
          simp only [bd]
          rw [if_neg, e]
          intro z
          rcases z with z | z
          · rw [hr] at z; cases z
          · omega
section
variable {n : Nat} {z0 z2 z3 z4 z5 z6 z7 z8 z9 z10 z11 z12 : Slot}
abbrev nums (ks : List Nat) : Slot := .val (.lst (ks.map fun (k : Nat) => D.int (k : Int)))
theorem t4_ok {L : List (List Nat)} (h2 : L.length ≤ 340) (s : Sto) : t4 (E13 n z0 z2 z3 z4 z5 z6 (.val (.lst (L.map rowD))) z8 z9 z10 z11 z12) s = .nx (E13 n z0 z2 z3 z4 z5 z6 (.val (.lst (L.map rowD))) (nums (bd 0 L)) z9 z10 z11 z12) s := by
  have b := bad_loop (n := n) (z0 := z0) (z2 := z2) (z3 := z3) (z4 := z4) (z5 := z5) (z6 := z6) (z8 := z8) (z9 := z9) (z10 := z10) (z11 := z11) (z12 := .emp) s L []
  rw [List.nil_append, List.length_nil, ← List.range_eq_range'] at b
  have ei : intsD 0 L.length = (List.range L.length).map fun (k : Nat) => D.int (k : Int) := by
    unfold intsD
    apply List.map_congr_left
    intro k _
    simp
  rw [← ei] at b
  have hc : -(cap : Int) ≤ L.length ∧ (L.length : Int) ≤ cap := by unfold cap; omega
  have l := s_lLc (iRng (eOp1 opLen (eBor 7))) (gNm 12) tst (eVar 12) [12] (E13 n z0 z2 z3 z4 z5 z6 (.val (.lst (L.map rowD))) z8 z9 z10 z11 z12) s s (intsD 0 L.length) (by simp [opLen, seqOf, hc]) (by simp [intsD]; unfold cap; omega)
  have hw : wipeE (E13 n z0 z2 z3 z4 z5 z6 (.val (.lst (L.map rowD))) z8 z9 z10 z11 z12) [12] = E13 n z0 z2 z3 z4 z5 z6 (.val (.lst (L.map rowD))) z8 z9 z10 z11 .emp := rfl
  rw [hw, b] at l
  have body : t4 = sAsg (eFrz (lLc (iRng (eOp1 opLen (eBor 7))) (gNm 12) tst (eVar 12) [12])) (gNm 8) := rfl
  rw [body]
  simp [-s_iRng, l]
theorem t5_nil {L : List (List Nat)} (s : Sto) : t5 (E13 n z0 z2 z3 z4 z5 z6 (.val (.lst (L.map rowD))) (nums []) z9 z10 z11 z12) s = .nx (E13 n z0 z2 z3 z4 z5 z6 (.val (.lst (L.map rowD))) (nums []) (.val (.tup (L.map rowD))) z10 z11 z12) s := by
  simp [t5, opEq, view, eq_nil, opTuple, seqOf]
theorem t5_cons {d : D} {k : Nat} {r : List Nat} (s : Sto) : t5 (E13 n z0 z2 z3 z4 z5 z6 (.val d) (nums (k :: r)) z9 z10 z11 z12) s = .nx (E13 n z0 z2 z3 z4 z5 z6 (.val d) (nums (k :: r)) (.val (.tup [.str [114, 101, 102, 117, 115, 101, 100], .str [116, 101, 120, 116], .int (k : Nat)])) z10 z11 z12) s := by
  simp [t5, opEq, view, eq_nil, opIx, seqOf, ixD, place]
theorem join10 {L : List (List Nat)} (h2 : L.length ≤ 340) (hl : ∀ l ∈ L, Ln 3 l) (s : Sto) : joinAt [10] (.lst (L.map .str)) s = .ok (.str (joinC [10] L)) s ∧ (joinC [10] L).length ≤ cap := by
  have h1 := sum_lines (b := 2632) fun l h => (hl l h).len
  have h3 := join_len (b := 2632) fun l h => (hl l h).len
  have h4 : L.length * 2632 ≤ 340 * 2632 := Nat.mul_le_mul_right _ h2
  have c1 : (L.map List.length).sum ≤ cap := by unfold cap; omega
  have c2 : L.length ≤ 10000 := by omega
  exact ⟨by simp [joinAt, seqOf, strsOf_map, c1, c2], by unfold cap; omega⟩
def ansF : Nat ⊕ List D → D
  | .inl k => .tup [.str [114, 101, 102, 117, 115, 101, 100], .str [116, 101, 120, 116], .int (k : Nat)]
  | .inr ds => .tup ds
theorem t6_ok {L : List (List Nat)} (h1 : 1 ≤ L.length) (h2 : L.length ≤ 340) (hl : ∀ l ∈ L, Ln 3 l) (s : Sto) : ∃ s', (∀ j, j < s.length → s'[j]? = s[j]?) ∧ t6 (E13 n z0 z2 (lns L) z4 z5 z6 z7 z8 z9 z10 z11 z12) s = .nx (E13 n z0 z2 (lns L) z4 z5 z6 z7 z8 z9 (.val (ansF (rdS 0 L))) z11 z12) s' := by
  obtain ⟨j1, j2⟩ := join10 h2 hl s
  have hne : L ≠ [] := by intro z; rw [z] at h1; simp at h1
  obtain ⟨s', e, k⟩ := read_any hne (by omega) hl j2 s
  refine ⟨s', k, ?_⟩
  have me : (eCall f_read (aCons (eJoin (eC (.str [10])) (eBor 3)) aNil)) (E13 n z0 z2 (lns L) z4 z5 z6 z7 z8 z9 z10 z11 z12) s = f_read [.str (joinC [10] L)] s := by
    simp [j1]
  have et : eTold (eCall f_read (aCons (eJoin (eC (.str [10])) (eBor 3)) aNil)) h_law_told 5 1 [1] (E13 n z0 z2 (lns L) z4 z5 z6 z7 z8 z9 z10 z11 z12) s = .ok (ansF (rdS 0 L)) s' := by
    unfold eTold
    rw [me, e]
    cases rdS 0 L with
    | inl k =>
      have := told_text (k : Nat) s'
      simp only [ansX]
      rw [if_pos (by simp), this]
      rfl
    | inr ds => rfl
  have body : t6 = sAsg (eTold (eCall f_read (aCons (eJoin (eC (.str [10])) (eBor 3)) aNil)) h_law_told 5 1 [1]) (gNm 10) := rfl
  rw [body, s_sAsg, et]
  rfl
theorem t7_inl {k : Nat} {r : List Nat} {d : D} (hd : d = .tup [.str [114, 101, 102, 117, 115, 101, 100], .str [116, 101, 120, 116], .int (k : Nat)]) (s : Sto) : t7 (E13 n z0 z2 z3 z4 z5 z6 z7 (nums (k :: r)) (.val d) (.val d) z11 z12) s = .nx (E13 n z0 z2 z3 z4 z5 z6 z7 (nums (k :: r)) (.val d) (.val d) z11 z12) s := by
  have h := lk_told (k : Nat) s
  rw [← hd] at h
  simp [t7, h, opEq, view, eq_nil]
theorem t7_inr {L : List (List Nat)} {ds : List D} (h2 : L.length ≤ 340) (hl : ∀ l ∈ L, Ln 3 l) (h12 : ds.length ≤ 12) (hg : ∀ d ∈ ds, GR d) (hL : ds.map line = L) (s : Sto) : t7 (E13 n z0 z2 (lns L) z4 z5 z6 z7 (nums []) (.val (.tup ds)) (.val (.tup ds)) z11 z12) s = .nx (E13 n z0 z2 (lns L) z4 z5 z6 z7 (nums []) (.val (.tup ds)) (.val (.tup ds)) z11 z12) s := by
  have h := lk_text h12 hg s
  obtain ⟨j1, j2⟩ := join10 h2 hl s
  have w := written_ok h12 hg s
  rw [hL] at w
  have hch : ∀ c ∈ joinC [10] L, c ≤ 127 := fun c hc => by
    rcases join_mem hc with h1 | ⟨w, hw, h1⟩
    · have : c = 10 := by simpa using h1
      omega
    · exact ((hl w hw).ch c h1).1
  have q := eq_str hch hch
  simp [t7, h, opEq, opNe, view, eq_nil, w, j1, q]
end
/-- one turn -/
theorem turn_ok {n : Nat} {s : Sto} (hd : Dice s n) (z0 z2 z3 z4 z5 z6 z7 z8 z9 z10 z11 z12 : Slot) : ∃ (y3 y4 y5 y6 y7 y8 y9 y10 : Slot) (s' : Sto), lbody (E13 n z0 z2 z3 z4 z5 z6 z7 z8 z9 z10 z11 z12) s = .nx (E13 n z0 z2 y3 y4 y5 y6 y7 y8 y9 y10 z11 z12) s' ∧ Dice s' n := by
  obtain ⟨L0, s0, a1, a2, a3, f0, e0⟩ := t0_ok (z0 := z0) (z2 := z2) (z3 := z3) (z4 := z4) (z5 := z5) (z6 := z6) (z7 := z7) (z8 := z8) (z9 := z9) (z10 := z10) (z11 := z11) (z12 := z12) hd
  obtain ⟨L1, y4, s1, b1, b2, b3, f1, e1⟩ := t1_ok (z0 := z0) (z2 := z2) (z4 := z4) (z5 := z5) (z6 := z6) (z7 := z7) (z8 := z8) (z9 := z9) (z10 := z10) (z11 := z11) (z12 := z12) a1 a2 a3 f0.1
  obtain ⟨L, y5, y6, s2, c1, c2, c3, f2, e2⟩ := t2_ok (z0 := z0) (z2 := z2) (z4 := y4) (z5 := z5) (z6 := z6) (z7 := z7) (z8 := z8) (z9 := z9) (z10 := z10) (z11 := z11) (z12 := z12) b1 b2 b3 f1.1
  obtain ⟨t, e3⟩ := t3_ok (n := n) (z0 := z0) (z2 := z2) (z4 := y4) (z5 := y5) (z6 := y6) (z7 := z7) (z8 := z8) (z9 := z9) (z10 := z10) (z11 := z11) (z12 := z12) c2 c3 s2
  have e4 := t4_ok (n := n) (z0 := z0) (z2 := z2) (z3 := lns L) (z4 := y4) (z5 := y5) (z6 := y6) (z8 := z8) (z9 := z9) (z10 := z10) (z11 := z11) (z12 := z12) c2 (s2 ++ t)
  have run : ∀ r, (sSeq t5 (sSeq t6 t7)) (E13 n z0 z2 (lns L) y4 y5 y6 (.val (.lst (L.map rowD))) (nums (bd 0 L)) z9 z10 z11 z12) (s2 ++ t) = r → lbody (E13 n z0 z2 z3 z4 z5 z6 z7 z8 z9 z10 z11 z12) s = r := fun r hr => by
    have body : lbody = sSeq t0 (sSeq t1 (sSeq t2 (sSeq t3 (sSeq t4 (sSeq t5 (sSeq t6 t7)))))) := rfl
    rw [body, s_sSeq, e0, SRes.andThen_nx, s_sSeq, e1, SRes.andThen_nx, s_sSeq, e2, SRes.andThen_nx, s_sSeq, e3, SRes.andThen_nx, s_sSeq, e4, SRes.andThen_nx, hr]
  have d2 : Dice (s2 ++ t) n := Dice.app t f2.1
  cases hrd : rdS 0 L with
  | inl k =>
    obtain ⟨r, hb⟩ := rdS_inl L 0 k hrd (by omega)
    have e5 := t5_cons (n := n) (z0 := z0) (z2 := z2) (z3 := lns L) (z4 := y4) (z5 := y5) (z6 := y6) (d := .lst (L.map rowD)) (z9 := z9) (z10 := z10) (z11 := z11) (z12 := z12) (k := k) (r := r) (s2 ++ t)
    obtain ⟨s3, k3, e6⟩ := t6_ok (n := n) (z0 := z0) (z2 := z2) (z4 := y4) (z5 := y5) (z6 := y6) (z7 := .val (.lst (L.map rowD))) (z8 := nums (k :: r)) (z9 := .val (.tup [.str [114, 101, 102, 117, 115, 101, 100], .str [116, 101, 120, 116], .int (k : Nat)])) (z10 := z10) (z11 := z11) (z12 := z12) c1 c2 c3 (s2 ++ t)
    rw [hrd] at e6
    have e7 := t7_inl (n := n) (z0 := z0) (z2 := z2) (z3 := lns L) (z4 := y4) (z5 := y5) (z6 := y6) (z7 := .val (.lst (L.map rowD))) (z11 := z11) (z12 := z12) (k := k) (r := r) rfl s3
    have go := run _ (by rw [hb, s_sSeq, e5, SRes.andThen_nx, s_sSeq, e6, SRes.andThen_nx])
    exact ⟨lns L, y4, y5, y6, _, _, _, _, s3, go.trans e7, Fr.keep d2 k3⟩
  | inr ds =>
    obtain ⟨g1, g2, g3, g4, g5⟩ := rdS_inr L 0 ds hrd (by omega)
    have hdl : ds.length ≤ 12 := by rw [← g1, List.length_map]; omega
    have e5 := t5_nil (n := n) (z0 := z0) (z2 := z2) (z3 := lns L) (z4 := y4) (z5 := y5) (z6 := y6) (L := L) (z9 := z9) (z10 := z10) (z11 := z11) (z12 := z12) (s2 ++ t)
    obtain ⟨s3, k3, e6⟩ := t6_ok (n := n) (z0 := z0) (z2 := z2) (z4 := y4) (z5 := y5) (z6 := y6) (z7 := .val (.lst (L.map rowD))) (z8 := nums []) (z9 := .val (.tup (L.map rowD))) (z10 := z10) (z11 := z11) (z12 := z12) c1 c2 c3 (s2 ++ t)
    rw [hrd] at e6
    have e7 := t7_inr (n := n) (z0 := z0) (z2 := z2) (z4 := y4) (z5 := y5) (z6 := y6) (z7 := .val (.lst (L.map rowD))) (z11 := z11) (z12 := z12) c2 c3 hdl g2 g3 s3
    rw [g1] at e7
    have go := run _ (by rw [g5, s_sSeq, e5, SRes.andThen_nx, s_sSeq, e6, SRes.andThen_nx, g1])
    exact ⟨lns L, y4, y5, y6, _, _, _, _, s3, go.trans e7, Fr.keep d2 k3⟩
theorem turns_loop (n : Nat) (z0 z11 z12 : Slot) : ∀ (vs : List D) (z2 z3 z4 z5 z6 z7 z8 z9 z10 : Slot) (s : Sto), Dice s n → ∃ (e : Env) (s' : Sto), forP (gNm 2) lbody vs (E13 n z0 z2 z3 z4 z5 z6 z7 z8 z9 z10 z11 z12) s = .nx e s'
  | [], z2, z3, z4, z5, z6, z7, z8, z9, z10, s, hd => ⟨_, _, rfl⟩
  | v :: vs, z2, z3, z4, z5, z6, z7, z8, z9, z10, s, hd => by
    obtain ⟨y3, y4, y5, y6, y7, y8, y9, y10, s1, e1, d1⟩ := turn_ok hd z0 (.val v) z3 z4 z5 z6 z7 z8 z9 z10 z11 z12
    obtain ⟨e, s', h⟩ := turns_loop n z0 z11 z12 vs (.val v) y3 y4 y5 y6 y7 y8 y9 y10 s1 d1
    refine ⟨e, s', ?_⟩
    rw [← h]
    have hset : (E13 n z0 z2 z3 z4 z5 z6 z7 z8 z9 z10 z11 z12).set 2 (.val v) = E13 n z0 (.val v) z3 z4 z5 z6 z7 z8 z9 z10 z11 z12 := rfl
    simp only [forP, s_gNm, hset, e1]
/-- THE PLAIN LAW -/
theorem plain (ns : List Int) (_ : ns.length ≤ 63) : ∃ s, f_law [.scr ns] [] = .ok (.bl true) s := by
  obtain ⟨s0, e0, d0, _, _⟩ := dice_ok ns []
  obtain ⟨e, s', h⟩ := turns_loop 0 (.val (.scr ns)) .emp .emp (intsD 0 6) .emp .emp .emp .emp .emp .emp .emp .emp .emp s0 d0
  refine ⟨s', ?_⟩
  have hc : -(cap : Int) ≤ 6 ∧ (6 : Int) ≤ cap := by decide
  have f := s_sFor (iRng (eC (.int 6))) (gNm 2) lbody (E13 0 (.val (.scr ns)) .emp .emp .emp .emp .emp .emp .emp .emp .emp .emp .emp) s0 s0 (intsD 0 6) (by simp [hc])
  rw [h] at f
  have e0' : f_law_dice [.scr ns] [] = .ok (.ref 0) s0 := e0
  rw [law_eq]
  simp [e0', f]
end K24

/-! The walk of the law, printed by gen.py. Own text. -/
namespace K24
open PySem L2 TL MP
def top (i : Nat) : Stmt := PySem.Challenge.pw_changemill_k24_texts_that_write_none.main.body.getD i (.Pass ⟨0, 0, 0, 0⟩)
def st_law_dice : Stmt := top 39
def N_law_dice : List Str := ["_law_script", "_law_mixed", "_law_cell"]
theorem nd_law_dice : N_law_dice.Nodup := by decide +kernel
def st_words_of : Stmt := top 32
def N_words_of : List Str := ["part", "first", "things", "found", "thing"]
theorem nd_words_of : N_words_of.Nodup := by decide +kernel
def st_written : Stmt := top 33
def N_written : List Str := ["text", "row"]
theorem nd_written : N_written.Nodup := by decide +kernel
def st_law_next : Stmt := top 40
def N_law_next : List Str := ["_law_dice_here", "_law_many", "_law_found", "_law_cell"]
theorem nd_law_next : N_law_next.Nodup := by decide +kernel
def st_law_part : Stmt := top 42
def N_law_part : List Str := ["_law_d", "_law_deep_here", "_law_g", "_law_way"]
theorem nd_law_part : N_law_part.Nodup := by decide +kernel
def st_law_row : Stmt := top 43
def N_law_row : List Str := ["_law_d", "_law_many", "_law_g", "_law_way", "_law_name"]
theorem nd_law_row : N_law_row.Nodup := by decide +kernel
def st_law_text : Stmt := top 44
def N_law_text : List Str := ["_law_d", "_law_g", "_law_many", "_law_k"]
theorem nd_law_text : N_law_text.Nodup := by decide +kernel
def st_law_spoilt : Stmt := top 49
def N_law_spoilt : List Str := ["_law_d", "_law_lines", "_law_at", "_law_terms", "_law_k", "_law_odd", "_law_way", "_law_some", "_law_signs", "_law_sign", "_law_line"]
theorem nd_law_spoilt : N_law_spoilt.Nodup := by decide +kernel
def st_law_taken : Stmt := top 46
def N_law_taken : List Str := ["_law_kinds", "_law_terms", "_law_found", "_law_at", "_law_bounds", "_law_parts", "_law_kind", "_law_term", "_law_further", "_law_figures", "_law_sign"]
theorem nd_law_taken : N_law_taken.Nodup := by decide +kernel
def st_law_deep : Stmt := top 48
def N_law_deep : List Str := ["_law_row_here", "_law_one"]
theorem nd_law_deep : N_law_deep.Nodup := by decide +kernel
def st_law_row_of : Stmt := top 47
def N_law_row_of : List Str := ["_law_line", "_law_terms", "_law_rows", "_law_found"]
theorem nd_law_row_of : N_law_row_of.Nodup := by decide +kernel
def st_Rules___init__ : Stmt := inClass (top 31) 0
def N_Rules___init__ : List Str := ["self", "words", "deeds", "things", "marks", "rows"]
theorem nd_Rules___init__ : N_Rules___init__.Nodup := by decide +kernel
def st_number_of : Stmt := top 34
def N_number_of : List Str := ["word", "sign"]
theorem nd_number_of : N_number_of.Nodup := by decide +kernel
def st_taken : Stmt := top 35
def N_taken : List Str := ["kinds", "words", "found", "kind", "first", "told"]
theorem nd_taken : N_taken.Nodup := by decide +kernel
def st_row_of : Stmt := top 36
def N_row_of : List Str := ["line", "word", "words", "told"]
theorem nd_row_of : N_row_of.Nodup := by decide +kernel
def st_Rules_is_number : Stmt := inClass (top 31) 1
def N_Rules_is_number : List Str := ["self", "kind", "number"]
theorem nd_Rules_is_number : N_Rules_is_number.Nodup := by decide +kernel
def st_Rules_are_good : Stmt := inClass (top 31) 2
def N_Rules_are_good : List Str := ["self", "kinds", "things", "deep", "kind", "thing", "good"]
theorem nd_Rules_are_good : N_Rules_are_good.Nodup := by decide +kernel
def st_Rules_is_part : Stmt := inClass (top 31) 3
def N_Rules_is_part : List Str := ["self", "part", "deep", "word", "things"]
theorem nd_Rules_is_part : N_Rules_is_part.Nodup := by decide +kernel
def st_Rules_is_row : Stmt := inClass (top 31) 4
def N_Rules_is_row : List Str := ["self", "row", "word", "things"]
theorem nd_Rules_is_row : N_Rules_is_row.Nodup := by decide +kernel
def st_BadText___init__ : Stmt := inClass (top 16) 0
def N_BadText___init__ : List Str := ["self", "row"]
theorem nd_BadText___init__ : N_BadText___init__.Nodup := by decide +kernel
def st_read : Stmt := top 37
def N_read : List Str := ["lines", "found", "rules", "number", "line", "row"]
theorem nd_read : N_read.Nodup := by decide +kernel
def st_law_like : Stmt := top 41
def N_law_like : List Str := ["_law_found", "_law_due", "_law_k"]
theorem nd_law_like : N_law_like.Nodup := by decide +kernel
def st_law : Stmt := top 50
def N_law : List Str := ["_law_script", "_law_d", "_law_turn", "_law_lines", "_law_change", "_law_deep_here", "_law_at", "_law_rows", "_law_bad", "_law_due", "_law_found", "_law_line", "_law_k"]
theorem nd_law : N_law.Nodup := by decide +kernel
def st_law_told : Stmt := top 45
def N_law_told : List Str := ["_law_work", "e", "_law_kinds", "_law_terms", "_law_term"]
theorem nd_law_told : N_law_told.Nodup := by decide +kernel
def kws_Rules___init__ : List (Str × V) := [("deeds", V.int 8), ("things", V.int 4), ("rows", V.int 12)]
structure Tx (K : PySem.W.Frag) (w : World) (mg : Str → Option Value) (base : Heap) (C : MP.Tab) (A : Nat → Addr) : Prop where
  g_law_dice : mg "_law_dice" = some (.ref (A 0))
  k_law_dice : PySem.W.keepIn K (.ref (A 0)) = true
  f_law_dice : ∃ fd, FunD K "_law_dice" "_law_dice" (defArgs st_law_dice) (defBody st_law_dice) (defScope st_law_dice) [] [] (A 0) fd
  g_words_of : mg "words_of" = some (.ref (A 1))
  k_words_of : PySem.W.keepIn K (.ref (A 1)) = true
  f_words_of : ∃ fd, FunD K "words_of" "words_of" (defArgs st_words_of) (defBody st_words_of) (defScope st_words_of) [] [] (A 1) fd
  g_written : mg "written" = some (.ref (A 2))
  k_written : PySem.W.keepIn K (.ref (A 2)) = true
  f_written : ∃ fd, FunD K "written" "written" (defArgs st_written) (defBody st_written) (defScope st_written) [] [] (A 2) fd
  g_law_next : mg "_law_next" = some (.ref (A 3))
  k_law_next : PySem.W.keepIn K (.ref (A 3)) = true
  f_law_next : ∃ fd, FunD K "_law_next" "_law_next" (defArgs st_law_next) (defBody st_law_next) (defScope st_law_next) [] [] (A 3) fd
  g_law_part : mg "_law_part" = some (.ref (A 4))
  k_law_part : PySem.W.keepIn K (.ref (A 4)) = true
  f_law_part : ∃ fd, FunD K "_law_part" "_law_part" (defArgs st_law_part) (defBody st_law_part) (defScope st_law_part) [] [] (A 4) fd
  g_law_row : mg "_law_row" = some (.ref (A 5))
  k_law_row : PySem.W.keepIn K (.ref (A 5)) = true
  f_law_row : ∃ fd, FunD K "_law_row" "_law_row" (defArgs st_law_row) (defBody st_law_row) (defScope st_law_row) [] [] (A 5) fd
  g_law_text : mg "_law_text" = some (.ref (A 6))
  k_law_text : PySem.W.keepIn K (.ref (A 6)) = true
  f_law_text : ∃ fd, FunD K "_law_text" "_law_text" (defArgs st_law_text) (defBody st_law_text) (defScope st_law_text) [] [] (A 6) fd
  g_law_spoilt : mg "_law_spoilt" = some (.ref (A 7))
  k_law_spoilt : PySem.W.keepIn K (.ref (A 7)) = true
  f_law_spoilt : ∃ fd, FunD K "_law_spoilt" "_law_spoilt" (defArgs st_law_spoilt) (defBody st_law_spoilt) (defScope st_law_spoilt) [] [] (A 7) fd
  g_law_taken : mg "_law_taken" = some (.ref (A 8))
  k_law_taken : PySem.W.keepIn K (.ref (A 8)) = true
  f_law_taken : ∃ fd, FunD K "_law_taken" "_law_taken" (defArgs st_law_taken) (defBody st_law_taken) (defScope st_law_taken) [] [] (A 8) fd
  g_law_deep : mg "_law_deep" = some (.ref (A 9))
  k_law_deep : PySem.W.keepIn K (.ref (A 9)) = true
  f_law_deep : ∃ fd, FunD K "_law_deep" "_law_deep" (defArgs st_law_deep) (defBody st_law_deep) (defScope st_law_deep) [] [] (A 9) fd
  g_law_row_of : mg "_law_row_of" = some (.ref (A 10))
  k_law_row_of : PySem.W.keepIn K (.ref (A 10)) = true
  f_law_row_of : ∃ fd, FunD K "_law_row_of" "_law_row_of" (defArgs st_law_row_of) (defBody st_law_row_of) (defScope st_law_row_of) [] [] (A 10) fd
  f_Rules___init__ : ∃ fd, FunD K "__init__" "Rules.__init__" (defArgs st_Rules___init__) (defBody st_Rules___init__) (defScope st_Rules___init__) [] kws_Rules___init__ (A 11) fd
  g_number_of : mg "number_of" = some (.ref (A 12))
  k_number_of : PySem.W.keepIn K (.ref (A 12)) = true
  f_number_of : ∃ fd, FunD K "number_of" "number_of" (defArgs st_number_of) (defBody st_number_of) (defScope st_number_of) [] [] (A 12) fd
  g_taken : mg "taken" = some (.ref (A 13))
  k_taken : PySem.W.keepIn K (.ref (A 13)) = true
  f_taken : ∃ fd, FunD K "taken" "taken" (defArgs st_taken) (defBody st_taken) (defScope st_taken) [] [] (A 13) fd
  g_row_of : mg "row_of" = some (.ref (A 14))
  k_row_of : PySem.W.keepIn K (.ref (A 14)) = true
  f_row_of : ∃ fd, FunD K "row_of" "row_of" (defArgs st_row_of) (defBody st_row_of) (defScope st_row_of) [] [] (A 14) fd
  me_Rules_is_number : Meth K (C 16) (Str.ofString "is_number") (A 15)
  f_Rules_is_number : ∃ fd, FunD K "is_number" "Rules.is_number" (defArgs st_Rules_is_number) (defBody st_Rules_is_number) (defScope st_Rules_is_number) [] [] (A 15) fd
  me_Rules_are_good : Meth K (C 16) (Str.ofString "are_good") (A 16)
  f_Rules_are_good : ∃ fd, FunD K "are_good" "Rules.are_good" (defArgs st_Rules_are_good) (defBody st_Rules_are_good) (defScope st_Rules_are_good) [] [] (A 16) fd
  me_Rules_is_part : Meth K (C 16) (Str.ofString "is_part") (A 17)
  f_Rules_is_part : ∃ fd, FunD K "is_part" "Rules.is_part" (defArgs st_Rules_is_part) (defBody st_Rules_is_part) (defScope st_Rules_is_part) [] [] (A 17) fd
  me_Rules_is_row : Meth K (C 16) (Str.ofString "is_row") (A 18)
  f_Rules_is_row : ∃ fd, FunD K "is_row" "Rules.is_row" (defArgs st_Rules_is_row) (defBody st_Rules_is_row) (defScope st_Rules_is_row) [] [] (A 18) fd
  f_BadText___init__ : ∃ fd, FunD K "__init__" "BadText.__init__" (defArgs st_BadText___init__) (defBody st_BadText___init__) (defScope st_BadText___init__) [] [] (A 19) fd
  g_read : mg "read" = some (.ref (A 20))
  k_read : PySem.W.keepIn K (.ref (A 20)) = true
  f_read : ∃ fd, FunD K "read" "read" (defArgs st_read) (defBody st_read) (defScope st_read) [] [] (A 20) fd
  g_law_like : mg "_law_like" = some (.ref (A 21))
  k_law_like : PySem.W.keepIn K (.ref (A 21)) = true
  f_law_like : ∃ fd, FunD K "_law_like" "_law_like" (defArgs st_law_like) (defBody st_law_like) (defScope st_law_like) [] [] (A 21) fd
  g_law : mg "law" = some (.ref (A 22))
  k_law : PySem.W.keepIn K (.ref (A 22)) = true
  f_law : ∃ fd, FunD K "law" "law" (defArgs st_law) (defBody st_law) (defScope st_law) [] [] (A 22) fd
  aa_law : A 22 = He.fAd K ("law", none)
  tb_law : LamX.TabB base mg (He.codeOf K ("law", none)) (He.tabOf K (He.codeOf K ("law", none)))
  ct_law : (He.tabOf K (He.codeOf K ("law", none)), Str.ofString "law.<locals>.<lambda>") ∈ C.t
  cu_law : ∀ p ∈ C.t, p.1 = He.tabOf K (He.codeOf K ("law", none)) → p.2 = Str.ofString "law.<locals>.<lambda>"
  g_law_told : mg "_law_told" = some (.ref (A 23))
  k_law_told : PySem.W.keepIn K (.ref (A 23)) = true
  f_law_told : ∃ fd, FunD K "_law_told" "_law_told" (defArgs st_law_told) (defBody st_law_told) (defScope st_law_told) [] [] (A 23) fd
  gc_MillError : mg "MillError" = some (.ref (C 0))
  gc_BadText : mg "BadText" = some (.ref (C 1))
  gc_NoHand : mg "NoHand" = some (.ref (C 2))
  gc_NoRoom : mg "NoRoom" = some (.ref (C 3))
  gc_BadTexts : mg "BadTexts" = some (.ref (C 4))
  gc_BadMill : mg "BadMill" = some (.ref (C 5))
  gc_BadNumber : mg "BadNumber" = some (.ref (C 6))
  gc_NoDeed : mg "NoDeed" = some (.ref (C 7))
  gc_Within : mg "Within" = some (.ref (C 8))
  gc_BadChange : mg "BadChange" = some (.ref (C 9))
  gc_Full : mg "Full" = some (.ref (C 10))
  gc_Underway : mg "Underway" = some (.ref (C 11))
  gc_NoCell : mg "NoCell" = some (.ref (C 12))
  gc_NoChange : mg "NoChange" = some (.ref (C 13))
  gc_Unmet : mg "Unmet" = some (.ref (C 14))
  gc_BadBook : mg "BadBook" = some (.ref (C 15))
  gc_Rules : mg "Rules" = some (.ref (C 16))
  cl_Rules : Cls K (C 16)
  mk_Rules : Mk K (C 16) (A 11)
  ba_MillError : BaseI K (C 0)
  xo_BadText : ExO K (C 1) ["row"]
  ii_BadText : PySem.W.findIn K (.ref (C 1)) "__init__" = some (some (.ref (A 19))) ∧ PySem.W.typeIn K (.ref (A 19)) = some (.type "function")
  is_NoHand : ∀ c b, ([(1, false)] : List (Nat × Bool)).lookup c = some b → ExcC K (C c) ∧ PySem.W.kitOne K (.ref (C c)) (.ref (C 2)) = some b
  is_NoRoom : ∀ c b, ([(1, false)] : List (Nat × Bool)).lookup c = some b → ExcC K (C c) ∧ PySem.W.kitOne K (.ref (C c)) (.ref (C 3)) = some b
  is_BadTexts : ∀ c b, ([(1, false)] : List (Nat × Bool)).lookup c = some b → ExcC K (C c) ∧ PySem.W.kitOne K (.ref (C c)) (.ref (C 4)) = some b
  is_BadMill : ∀ c b, ([(1, false)] : List (Nat × Bool)).lookup c = some b → ExcC K (C c) ∧ PySem.W.kitOne K (.ref (C c)) (.ref (C 5)) = some b
  is_BadNumber : ∀ c b, ([(1, false)] : List (Nat × Bool)).lookup c = some b → ExcC K (C c) ∧ PySem.W.kitOne K (.ref (C c)) (.ref (C 6)) = some b
  is_NoDeed : ∀ c b, ([(1, false)] : List (Nat × Bool)).lookup c = some b → ExcC K (C c) ∧ PySem.W.kitOne K (.ref (C c)) (.ref (C 7)) = some b
  is_Within : ∀ c b, ([(1, false)] : List (Nat × Bool)).lookup c = some b → ExcC K (C c) ∧ PySem.W.kitOne K (.ref (C c)) (.ref (C 8)) = some b
  is_BadChange : ∀ c b, ([(1, false)] : List (Nat × Bool)).lookup c = some b → ExcC K (C c) ∧ PySem.W.kitOne K (.ref (C c)) (.ref (C 9)) = some b
  is_Full : ∀ c b, ([(1, false)] : List (Nat × Bool)).lookup c = some b → ExcC K (C c) ∧ PySem.W.kitOne K (.ref (C c)) (.ref (C 10)) = some b
  is_Underway : ∀ c b, ([(1, false)] : List (Nat × Bool)).lookup c = some b → ExcC K (C c) ∧ PySem.W.kitOne K (.ref (C c)) (.ref (C 11)) = some b
  is_NoCell : ∀ c b, ([(1, false)] : List (Nat × Bool)).lookup c = some b → ExcC K (C c) ∧ PySem.W.kitOne K (.ref (C c)) (.ref (C 12)) = some b
  is_NoChange : ∀ c b, ([(1, false)] : List (Nat × Bool)).lookup c = some b → ExcC K (C c) ∧ PySem.W.kitOne K (.ref (C c)) (.ref (C 13)) = some b
  is_Unmet : ∀ c b, ([(1, false)] : List (Nat × Bool)).lookup c = some b → ExcC K (C c) ∧ PySem.W.kitOne K (.ref (C c)) (.ref (C 14)) = some b
  is_BadText : ∀ c b, ([(1, true)] : List (Nat × Bool)).lookup c = some b → ExcC K (C c) ∧ PySem.W.kitOne K (.ref (C c)) (.ref (C 1)) = some b
  is_BadBook : ∀ c b, ([(1, false)] : List (Nat × Bool)).lookup c = some b → ExcC K (C c) ∧ PySem.W.kitOne K (.ref (C c)) (.ref (C 15)) = some b
  is_ValueError : ∀ c b, ([(1, true)] : List (Nat × Bool)).lookup c = some b → ExcC K (C c) ∧ PySem.W.kitOne K (.ref (C c)) (.type "ValueError") = some b
  xf_word : ∀ c ∈ ([] : List Nat), XfC K (C c) ∧ PySem.W.findIn K (.ref (C c)) (Str.ofString "word") = some none
  xf_row : ∀ c ∈ ([1] : List Nat), XfC K (C c) ∧ PySem.W.findIn K (.ref (C c)) (Str.ofString "row") = some none
  xf_deed : ∀ c ∈ ([] : List Nat), XfC K (C c) ∧ PySem.W.findIn K (.ref (C c)) (Str.ofString "deed") = some none
  xf_event : ∀ c ∈ ([] : List Nat), XfC K (C c) ∧ PySem.W.findIn K (.ref (C c)) (Str.ofString "event") = some none
  em_law_told : ∀ c ∈ ([1] : List Nat), PySem.W.exmOne K (.ref (C c)) (.ref (C 0)) = some true
  na_Rules_words : NoAttr K (C 16) (Str.ofString "words")
  na_Rules_marks : NoAttr K (C 16) (Str.ofString "marks")
  na_Rules_limits : NoAttr K (C 16) (Str.ofString "limits")
  b_isinstance : mg "isinstance" = none
  b_ValueError : mg "ValueError" = none
  b_int : mg "int" = none
  b_len : mg "len" = none
  b_tuple : mg "tuple" = none
  b_str : mg "str" = none
  b_range : mg "range" = none
  b_max : mg "max" = none
  b_zip : mg "zip" = none
  b_enumerate : mg "enumerate" = none
  b_list : mg "list" = none
  b_bool : mg "bool" = none
  q_MARKS : ∃ u, mg "MARKS" = some u ∧ KVal K 6 u d_MARKS = true
  q_FIELDS : ∃ u, mg "FIELDS" = some u ∧ KVal K 6 u d_FIELDS = true
  q_NAMES : ∃ u, mg "NAMES" = some u ∧ KVal K 6 u d_NAMES = true
  q_BEYOND : ∃ u, mg "BEYOND" = some u ∧ KVal K 6 u d_BEYOND = true
  q_FIGURES : ∃ u, mg "FIGURES" = some u ∧ KVal K 6 u d_FIGURES = true
  q_PARTS : ∃ a, mg "PARTS" = some (.ref a) ∧ KDic K w a t_PARTS
  q_ALL_WORDS : ∃ u, mg "ALL_WORDS" = some u ∧ KVal K 6 u d_ALL_WORDS = true
  q_ROWS : ∃ a, mg "ROWS" = some (.ref a) ∧ KDic K w a t_ROWS
  q_MOST_DEEP : ∃ u, mg "MOST_DEEP" = some u ∧ KVal K 6 u d_MOST_DEEP = true
  q_MOST_ROWS : ∃ u, mg "MOST_ROWS" = some u ∧ KVal K 6 u d_MOST_ROWS = true
section
variable {P : Program} {w : World} {K : PySem.W.Frag} {mg : Str → Option Value} {base : Heap} {C : MP.Tab} {A : Nat → Addr}
theorem s_law_told (T : Tx K w mg base C A) (cdg : Value) (Ar : Around) (outer : List PySem.Env) (s : Shared) (H : Hp) (a : Addr) (oe : Obj) (cls : Value) (d : Option Addr) (pn : List (Addr × Obj)) (hz : Zc cls d oe) (hf : ∃ vs, oe.data = .fields vs) (hr : Room 0 (Ar.deeper (PyProof.Rows.envOfC "_law_told" (defScope st_law_told) s.heap.objs.size (A 23) cdg))) :
    GSs ((cxOf C8.CX0 P w K mg base N_law_told "_law_told" (defScope st_law_told) (A 23) cdg Ar outer s H C8.E0).nox.suite a ((a, oe) :: pn)) (suiteC C 1 a cls d) W0 (hdBody (defBody st_law_told)) h_law_told := by
  have hu := hr.units
  have hv := hu_of hr
  have hu5 := Room65 hr
  exact (gss_cons (gs_frz (i := 2) (pn_set 2 (gl_lst (ga_cons (ge_isX 1 (v := .ref (C 5)) (cv := .ref (C 5)) [(1, false)] hz hf suiteC_z T.b_isinstance (fun _ h => h) (pe_glob rfl T.gc_BadMill rfl) T.is_BadMill) (ga_cons (ge_isX 1 (v := .ref (C 4)) (cv := .ref (C 4)) [(1, false)] hz hf suiteC_z T.b_isinstance (fun _ h => h) (pe_glob rfl T.gc_BadTexts rfl) T.is_BadTexts) (ga_cons (ge_isX 1 (v := .ref (C 3)) (cv := .ref (C 3)) [(1, false)] hz hf suiteC_z T.b_isinstance (fun _ h => h) (pe_glob rfl T.gc_NoRoom rfl) T.is_NoRoom) (ga_cons (ge_isX 1 (v := .ref (C 2)) (cv := .ref (C 2)) [(1, false)] hz hf suiteC_z T.b_isinstance (fun _ h => h) (pe_glob rfl T.gc_NoHand rfl) T.is_NoHand) ga_nil))))) nd_law_told)) (gss_cons (gs_frz (i := 2) (pn_set 2 (gl_add (gb_var 2) (gb_of (ge_frz (gl_lst (ga_cons (ge_isX 1 (v := .ref (C 8)) (cv := .ref (C 8)) [(1, false)] hz hf suiteC_z T.b_isinstance (fun _ h => h) (pe_glob rfl T.gc_Within rfl) T.is_Within) (ga_cons (ge_isX 1 (v := .ref (C 7)) (cv := .ref (C 7)) [(1, false)] hz hf suiteC_z T.b_isinstance (fun _ h => h) (pe_glob rfl T.gc_NoDeed rfl) T.is_NoDeed) (ga_cons (ge_isX 1 (v := .ref (C 6)) (cv := .ref (C 6)) [(1, false)] hz hf suiteC_z T.b_isinstance (fun _ h => h) (pe_glob rfl T.gc_BadNumber rfl) T.is_BadNumber) ga_nil))))))) nd_law_told)) (gss_cons (gs_frz (i := 2) (pn_set 2 (gl_add (gb_var 2) (gb_of (ge_frz (gl_lst (ga_cons (ge_isX 1 (v := .ref (C 11)) (cv := .ref (C 11)) [(1, false)] hz hf suiteC_z T.b_isinstance (fun _ h => h) (pe_glob rfl T.gc_Underway rfl) T.is_Underway) (ga_cons (ge_isX 1 (v := .ref (C 10)) (cv := .ref (C 10)) [(1, false)] hz hf suiteC_z T.b_isinstance (fun _ h => h) (pe_glob rfl T.gc_Full rfl) T.is_Full) (ga_cons (ge_isX 1 (v := .ref (C 9)) (cv := .ref (C 9)) [(1, false)] hz hf suiteC_z T.b_isinstance (fun _ h => h) (pe_glob rfl T.gc_BadChange rfl) T.is_BadChange) ga_nil))))))) nd_law_told)) (gss_cons (gs_frz (i := 2) (pn_set 2 (gl_add (gb_var 2) (gb_of (ge_frz (gl_lst (ga_cons (ge_isX 1 (v := .ref (C 14)) (cv := .ref (C 14)) [(1, false)] hz hf suiteC_z T.b_isinstance (fun _ h => h) (pe_glob rfl T.gc_Unmet rfl) T.is_Unmet) (ga_cons (ge_isX 1 (v := .ref (C 13)) (cv := .ref (C 13)) [(1, false)] hz hf suiteC_z T.b_isinstance (fun _ h => h) (pe_glob rfl T.gc_NoChange rfl) T.is_NoChange) (ga_cons (ge_isX 1 (v := .ref (C 12)) (cv := .ref (C 12)) [(1, false)] hz hf suiteC_z T.b_isinstance (fun _ h => h) (pe_glob rfl T.gc_NoCell rfl) T.is_NoCell) ga_nil))))))) nd_law_told)) (gss_cons (gs_frz (i := 2) (pn_set 2 (gl_add (gb_var 2) (gb_of (ge_frz (gl_lst (ga_cons (ge_isX 1 (v := .ref (C 15)) (cv := .ref (C 15)) [(1, false)] hz hf suiteC_z T.b_isinstance (fun _ h => h) (pe_glob rfl T.gc_BadBook rfl) T.is_BadBook) (ga_cons (ge_isX 1 (v := .ref (C 1)) (cv := .ref (C 1)) [(1, true)] hz hf suiteC_z T.b_isinstance (fun _ h => h) (pe_glob rfl T.gc_BadText rfl) T.is_BadText) ga_nil)))))) nd_law_told)) (gss_cons (gs_if (gt_w (gw_or (gt_cmp (op_neA hu) simNe rfl (gb_of (ge_cnt hu5 (gb_var 2) ge_bl)) (gb_of ge_int)) (gw_or1 (gt_not (gt_val (ge_isX 1 (v := .ty "ValueError") (cv := .type "ValueError") [(1, true)] hz hf suiteC_z T.b_isinstance (fun _ h => h) (pe_bltn rfl T.b_ValueError (by decide +kernel) rfl) T.is_ValueError)))))) (gss_one (gs_ret (ge_tup (ga_cons (ge_str [114, 101, 102, 117, 115, 101, 100]) (ga_cons (ge_str [111, 116, 104, 101, 114]) ga_nil))))) gss_nil) (gss_cons (gs_frz (i := 3) (pn_set 3 (gl_lst (ga_cons (ge_str [109, 105, 108, 108]) (ga_cons (ge_str [116, 101, 120, 116, 115]) (ga_cons (ge_str [114, 111, 111, 109]) (ga_cons (ge_str [104, 97, 110, 100]) (ga_cons (ge_str [119, 105, 116, 104, 105, 110]) (ga_cons (ge_str [100, 101, 101, 100]) (ga_cons (ge_str [110, 117, 109, 98, 101, 114]) (ga_cons (ge_str [117, 110, 100, 101, 114, 119, 97, 121]) (ga_cons (ge_str [102, 117, 108, 108]) (ga_cons (ge_str [99, 104, 97, 110, 103, 101]) (ga_cons (ge_str [117, 110, 109, 101, 116]) ga_nil)))))))))))) nd_law_told)) (gss_cons (gs_set 4 (ge_ix (gb_of (ge_frz (gl_add (gb_var 3) (gb_of (ge_frz (gl_lst (ga_cons (ge_str [110, 111, 99, 104, 97, 110, 103, 101]) (ga_cons (ge_str [99, 101, 108, 108]) (ga_cons (ge_str [98, 111, 111, 107]) (ga_cons (ge_str [116, 101, 120, 116]) ga_nil)))))))))) (gb_of (ge_idx hu5 (gb_var 2) ge_bl))) nd_law_told) (gss_cons (gs_if (gt_cmp op_inA simIn rfl (gb_var 4) (gb_of (ge_tup (ga_cons (ge_str [109, 105, 108, 108]) (ga_cons (ge_str [99, 104, 97, 110, 103, 101]) ga_nil))))) (gss_one (gs_ret (ge_tup (ga_cons (ge_str [114, 101, 102, 117, 115, 101, 100]) (ga_cons (ge_var 4) (ga_cons (ge_xf 1 "word" [] rfl hz hf suiteC_z T.xf_word) ga_nil)))))) gss_nil) (gss_cons (gs_if (gt_cmp (op_eqA hu) simEq rfl (gb_var 4) (gb_of (ge_str [116, 101, 120, 116, 115]))) (gss_one (gs_ret (ge_tup (ga_cons (ge_str [114, 101, 102, 117, 115, 101, 100]) (ga_cons (ge_var 4) (ga_cons (ge_xf 1 "deed" [] rfl hz hf suiteC_z T.xf_deed) (ga_cons (ge_xf 1 "row" [1] rfl hz hf suiteC_z T.xf_row) ga_nil))))))) gss_nil) (gss_cons (gs_if (gt_cmp (op_eqA hu) simEq rfl (gb_var 4) (gb_of (ge_str [98, 111, 111, 107]))) (gss_one (gs_ret (ge_tup (ga_cons (ge_str [114, 101, 102, 117, 115, 101, 100]) (ga_cons (ge_var 4) (ga_cons (ge_xf 1 "event" [] rfl hz hf suiteC_z T.xf_event) ga_nil)))))) gss_nil) (gss_one (gs_ret (ge_if (gt_cmp op_inA simIn rfl (gb_var 4) (gb_of (ge_tup (ga_cons (ge_str [117, 110, 109, 101, 116]) (ga_cons (ge_str [116, 101, 120, 116]) ga_nil))))) (ge_tup (ga_cons (ge_str [114, 101, 102, 117, 115, 101, 100]) (ga_cons (ge_var 4) (ga_cons (ge_xf 1 "row" [1] rfl hz hf suiteC_z T.xf_row) ga_nil)))) (ge_tup (ga_cons (ge_str [114, 101, 102, 117, 115, 101, 100]) (ga_cons (ge_var 4) ga_nil)))))))))))))))))
theorem oi_BadText (T : Tx K w mg base C A) : ∃ fd, FnOk P w K mg base (L2.CX P w) 1 (A 19) fd ["self", "row"] (spI K (C 1) ["row"]) ∧ Binds K fd ["self", "row"] [] := by
  obtain ⟨fd, F⟩ := T.f_BadText___init__
  exact ⟨fd, init1 F (C8.fnScope_by (by decide +kernel)) rfl T.gc_MillError T.ba_MillError T.xo_BadText (Or.inl rfl) (Or.inl rfl) (by decide) (by decide) (by decide) (fun _ => rfl), F.bindsN fun _ _ _ _ _ _ us hl => match us, hl with | [_, _], _ => rfl⟩
theorem b_law_dice (T : Tx K w mg base C A)  (cdv : Value) (Ar : Around) (outer : List PySem.Env) (s : Shared) (H : Hp) (Ex : XK) (hr : Room 0 (Ar.deeper (PyProof.Rows.envOfC "_law_dice" (defScope st_law_dice) s.heap.objs.size (A 0) cdv))) :
    GSs (cxOf (L2.CX P w) P w K mg base N_law_dice "_law_dice" (defScope st_law_dice) (A 0) cdv Ar outer s H Ex) C (fun cls d _ H' => Ex cls d H') (defBody st_law_dice) (sSeq (sAsg (eC (.int 0)) (gNm 1)) (sSeq (sFor (iSeq (eVar 0)) (gNm 2) (sAsg (eOp2 opMod (eOp2 opAdd (eOp2 opAdd (eOp2 opMul (eBor 1) (eC (.int 48271))) (eOp2 opMul (eOp2 opMod (eBor 2) (eC (.int 2147483647))) (eC (.int 69621)))) (eC (.int 11))) (eC (.int 2147483647))) (gNm 1))) (sRet (ePlc (lLst (aCons (eVar 0) (aCons (eC (.int 0)) (aCons (eOp2 opMul (eBor 1) (eOp1 opIntOf (eOp2 opGt (eOp1 opLen (eBor 0)) (eC (.int 2))))) (aCons (eC (.int 0)) aNil))))))))) := by
  have tk : Takes (cxOf (L2.CX P w) P w K mg base N_law_dice "_law_dice" (defScope st_law_dice) (A 0) cdv Ar outer s H Ex) (fun cls d _ H' => Ex cls d H') := takes_of rfl rfl rfl rfl
  have ps : PassesOwn (model P w) (cxOf (L2.CX P w) P w K mg base N_law_dice "_law_dice" (defScope st_law_dice) (A 0) cdv Ar outer s H Ex).A (cxOf (L2.CX P w) P w K mg base N_law_dice "_law_dice" (defScope st_law_dice) (A 0) cdv Ar outer s H Ex).env (cxOf (L2.CX P w) P w K mg base N_law_dice "_law_dice" (defScope st_law_dice) (A 0) cdv Ar outer s H Ex).xe := passes_of rfl
  have hu := hr.units
  have hv := hu_of hr
  have hu5 := Room65 hr
  exact (gss_cons (gs_set 1 ge_int nd_law_dice) (gss_cons (gs_for ps rfl (gi_seq (ge_var 0)) (gg_name 2 nd_law_dice) (gss_one (gs_set 1 (ge_bin op_mod simMod (gb_of (ge_bin op_addA simAdd (gb_of (ge_bin op_addA simAdd (gb_of (ge_bin op_mul simMul (gb_var 1) (gb_of ge_int))) (gb_of (ge_bin op_mul simMul (gb_of (ge_bin op_mod simMod (gb_var 2) (gb_of ge_int))) (gb_of ge_int))))) (gb_of ge_int))) (gb_of ge_int)) nd_law_dice))) (gss_one (gs_ret (ge_plc (gl_lst (ga_cons (ge_var 0) (ga_cons ge_int (ga_cons (ge_bin op_mul simMul (gb_var 1) (gb_of (ge_ty1 call_intA simInt T.b_int (gb_of (ge_cmp op_gt (simCmp _) rfl (gb_of (ge_fun1 call_lenA simLen T.b_len (gb_var 0))) (gb_of ge_int)))))) (ga_cons ge_int ga_nil))))))))))
theorem c_law_dice (T : Tx K w mg base C A) : Cal P w K mg base C 1 (A 0) f_law_dice := by
  obtain ⟨fd, F⟩ := T.f_law_dice
  exact cal_of (fn_calD (ps := ["_law_script"]) (N := N_law_dice) F  (C8.fnScope_by (by decide +kernel)) (by decide) fun cdv Ar outer s H Ex hr => b_law_dice T cdv Ar outer s H Ex hr) (F.bindsN fun _ _ _ _ _ _ us hl => match us, hl with | [_], _ => rfl)
theorem b_words_of (T : Tx K w mg base C A) {n : Nat} (ih_words_of : Cal P w K mg base C (1 + n) (A 1) (f_words_of n)) (cdv : Value) (Ar : Around) (outer : List PySem.Env) (s : Shared) (H : Hp) (Ex : XK) (hr : Room (1 + n) (Ar.deeper (PyProof.Rows.envOfC "words_of" (defScope st_words_of) s.heap.objs.size (A 1) cdv))) :
    GSs (cxOf (L2.CX P w) P w K mg base N_words_of "words_of" (defScope st_words_of) (A 1) cdv Ar outer s H Ex) C (fun cls d _ H' => Ex cls d H') (defBody st_words_of) (sSeq (sAsg (eVar 0) (gSt [(gNm 1)] [] 2)) (sSeq (sOwn (lLst (aCons (eVar 1) aNil)) 3) (sSeq (sFor (iSeq (eVar 2)) (gNm 4) (sExt 3 (eIf (tVal (eOp1 (opKind .tuple) (eVar 4))) (eCall (f_words_of n) (aCons (eVar 4) aNil)) (eFrz (lLst (aCons (eOp1 opStrOf (eBor 4)) aNil)))))) (sSeq (sFrz 3) (sRet (eVar 3)))))) := by
  have tk : Takes (cxOf (L2.CX P w) P w K mg base N_words_of "words_of" (defScope st_words_of) (A 1) cdv Ar outer s H Ex) (fun cls d _ H' => Ex cls d H') := takes_of rfl rfl rfl rfl
  have ps : PassesOwn (model P w) (cxOf (L2.CX P w) P w K mg base N_words_of "words_of" (defScope st_words_of) (A 1) cdv Ar outer s H Ex).A (cxOf (L2.CX P w) P w K mg base N_words_of "words_of" (defScope st_words_of) (A 1) cdv Ar outer s H Ex).env (cxOf (L2.CX P w) P w K mg base N_words_of "words_of" (defScope st_words_of) (A 1) cdv Ar outer s H Ex).xe := passes_of rfl
  have hu := hr.units
  have hv := hu_of hr
  have hu5 := Room65 hr
  exact (gss_cons (gs_asg (ge_var 0) (gg_star (gs := [(gNm 1)]) (hs := []) (j := 2) rfl (ggs_cons (gg_name 1 nd_words_of) (ggs_star (gg_name 2 nd_words_of) ggs_nil)))) (gss_cons (gs_own (i := 3) (pn_set 3 (gl_lst (ga_cons (ge_var 1) ga_nil)) nd_words_of)) (gss_cons (gs_for ps rfl (gi_seq (ge_var 2)) (gg_name 4 nd_words_of) (gss_one (gs_ext 3 (ge_if (gt_val (ge_isi .tuple T.b_isinstance T.b_tuple (by decide +kernel) (ge_var 4))) (ge_call ih_words_of hr tk T.g_words_of T.k_words_of (ga_cons (ge_var 4) ga_nil)) (ge_frz (gl_lst (ga_cons (ge_ty1 call_str_int simStr T.b_str (gb_var 4)) ga_nil))))))) (gss_frz 3 (gss_one (gs_ret (ge_var 3)))))))
theorem r_words_of (T : Tx K w mg base C A) : ∀ n : Nat, Cal P w K mg base C (1 + n) (A 1) (f_words_of n)
  | 0 => (by
      obtain ⟨fd, F⟩ := T.f_words_of
      exact cal_of (fn_calD (ps := ["part"]) (N := N_words_of) F (C8.fnScope_by (by decide +kernel)) (by decide) fun cdv Ar outer s H Ex hr => gss_never) (F.bindsN fun _ _ _ _ _ _ us hl => match us, hl with | [_], _ => rfl))
  | n + 1 => by
    have ih := r_words_of T n
    have h1 := ih
    exact (by
      obtain ⟨fd, F⟩ := T.f_words_of
      exact cal_of (fn_calD (ps := ["part"]) (N := N_words_of) F (C8.fnScope_by (by decide +kernel)) (by decide) fun cdv Ar outer s H Ex hr => b_words_of T h1 cdv Ar outer s H Ex hr) (F.bindsN fun _ _ _ _ _ _ us hl => match us, hl with | [_], _ => rfl))
theorem c_words_of (T : Tx K w mg base C A) (n : Nat) : Cal P w K mg base C (1 + n) (A 1) (f_words_of n) := (r_words_of T n)
theorem b_written (T : Tx K w mg base C A)  (cdv : Value) (Ar : Around) (outer : List PySem.Env) (s : Shared) (H : Hp) (Ex : XK) (hr : Room 7 (Ar.deeper (PyProof.Rows.envOfC "written" (defScope st_written) s.heap.objs.size (A 2) cdv))) :
    GSs (cxOf (L2.CX P w) P w K mg base N_written "written" (defScope st_written) (A 2) cdv Ar outer s H Ex) C (fun cls d _ H' => Ex cls d H') (defBody st_written) (sRet (eJoin (eC (.str [10])) (eFrz (lLc (iSeq (eVar 0)) (gNm 1) tYesM (eJoin (eC (.str [32])) (eCall (f_words_of 6) (aCons (eVar 1) aNil))) [1])))) := by
  have tk : Takes (cxOf (L2.CX P w) P w K mg base N_written "written" (defScope st_written) (A 2) cdv Ar outer s H Ex) (fun cls d _ H' => Ex cls d H') := takes_of rfl rfl rfl rfl
  have ps : PassesOwn (model P w) (cxOf (L2.CX P w) P w K mg base N_written "written" (defScope st_written) (A 2) cdv Ar outer s H Ex).A (cxOf (L2.CX P w) P w K mg base N_written "written" (defScope st_written) (A 2) cdv Ar outer s H Ex).env (cxOf (L2.CX P w) P w K mg base N_written "written" (defScope st_written) (A 2) cdv Ar outer s H Ex).xe := passes_of rfl
  have hu := hr.units
  have hv := hu_of hr
  have hu5 := Room65 hr
  exact (gss_one (gs_ret (ge_join (ge_str [10]) (gb_of (ge_frz (by refine gl_lc (own := [("row", 1)]) (gvs := [1]) ?_ ?_ ?_ ?_ (fun s H Ca cl fp => ?_) (fun s H Ca cl fp => ?_) (fun s H Ca cl fp => ?_); (exact rfl); (exact nd_written); (exact (gi_seq (ge_var 0))); (exact (blkOk_by (N := N_written) (sc := defScope st_written) (own := [("row", 1)]) (by decide +kernel))); (exact (gg_name 1 nd_written)); (exact gts_nil); (exact (ge_join (ge_str [32]) (gb_of (ge_call (c_words_of T 6) (hr.mono (by omega)) takes0 T.g_words_of T.k_words_of (ga_cons (ge_var 1) ga_nil)))))))))))
theorem c_written (T : Tx K w mg base C A) : Cal P w K mg base C 8 (A 2) f_written := by
  obtain ⟨fd, F⟩ := T.f_written
  exact cal_of (fn_calD (ps := ["text"]) (N := N_written) F  (C8.fnScope_by (by decide +kernel)) (by decide) fun cdv Ar outer s H Ex hr => b_written T cdv Ar outer s H Ex hr) (F.bindsN fun _ _ _ _ _ _ us hl => match us, hl with | [_], _ => rfl)
theorem b_law_next (T : Tx K w mg base C A)  (cdv : Value) (Ar : Around) (outer : List PySem.Env) (s : Shared) (H : Hp) (Ex : XK) (hr : Room 0 (Ar.deeper (PyProof.Rows.envOfC "_law_next" (defScope st_law_next) s.heap.objs.size (A 3) cdv))) :
    GSs (cxOf (L2.CX P w) P w K mg base N_law_next "_law_next" (defScope st_law_next) (A 3) cdv Ar outer s H Ex) C (fun cls d _ H' => Ex cls d H') (defBody st_law_next) (sSeq (sIf (tVal (eOp2 opGt (eOp2 opIx (eBor 0) (eC (.int 3))) (eC (.int 0)))) (sSeq (sAsg (eOp2 opMod (eOp2 opIx (eBor 0) (eC (.int 3))) (eBor 1)) (gNm 2)) (sSeq (sSet (eVar 0) (eC (.int 3)) (eOp2 opDiv (eOp2 opIx (eBor 0) (eC (.int 3))) (eBor 1))) (sRet (eVar 2)))) sNext) (sSeq (sSet (eVar 0) (eC (.int 1)) (eOp2 opAdd (eOp2 opIx (eBor 0) (eC (.int 1))) (eC (.int 1)))) (sSeq (sIf (tVal (eOp2 opLe (eOp2 opIx (eBor 0) (eC (.int 1))) (eOp1 opLen (eOp2 opIx (eBor 0) (eC (.int 0)))))) (sSeq (sAsg (eOp2 opIx (eOp2 opIx (eBor 0) (eC (.int 0))) (eOp2 opSub (eOp2 opIx (eBor 0) (eC (.int 1))) (eC (.int 1)))) (gNm 3)) (sSeq (sSet (eVar 0) (eC (.int 3)) (eIf (tVal (eOp2 opGe (eBor 3) (eOp2 opPow (eC (.int 10)) (eC (.int 18))))) (eOp2 opDiv (eBor 3) (eBor 1)) (eC (.int 0)))) (sRet (eOp2 opMod (eBor 3) (eBor 1))))) sNext) (sSeq (sSet (eVar 0) (eC (.int 2)) (eOp2 opMod (eOp2 opMul (eOp2 opIx (eBor 0) (eC (.int 2))) (eC (.int 48271))) (eC (.int 2147483647)))) (sRet (eOp2 opMod (eOp2 opDiv (eOp2 opIx (eBor 0) (eC (.int 2))) (eC (.int 7))) (eBor 1))))))) := by
  have tk : Takes (cxOf (L2.CX P w) P w K mg base N_law_next "_law_next" (defScope st_law_next) (A 3) cdv Ar outer s H Ex) (fun cls d _ H' => Ex cls d H') := takes_of rfl rfl rfl rfl
  have ps : PassesOwn (model P w) (cxOf (L2.CX P w) P w K mg base N_law_next "_law_next" (defScope st_law_next) (A 3) cdv Ar outer s H Ex).A (cxOf (L2.CX P w) P w K mg base N_law_next "_law_next" (defScope st_law_next) (A 3) cdv Ar outer s H Ex).env (cxOf (L2.CX P w) P w K mg base N_law_next "_law_next" (defScope st_law_next) (A 3) cdv Ar outer s H Ex).xe := passes_of rfl
  have hu := hr.units
  have hv := hu_of hr
  have hu5 := Room65 hr
  exact (gss_cons (gs_if (gt_cmp op_gt (simCmp _) rfl (gb_of (ge_ix (gb_var 0) (gb_of ge_int))) (gb_of ge_int)) (gss_cons (gs_set 2 (ge_bin op_mod simMod (gb_of (ge_ix (gb_var 0) (gb_of ge_int))) (gb_var 1)) nd_law_next) (gss_cons (gs_sub (ge_var 0) ge_int (ge_bin op_fdiv simDiv (gb_of (ge_ix (gb_var 0) (gb_of ge_int))) (gb_var 1))) (gss_one (gs_ret (ge_var 2))))) gss_nil) (gss_cons (gs_sub (ge_var 0) ge_int (ge_bin op_addA simAdd (gb_of (ge_ix (gb_var 0) (gb_of ge_int))) (gb_of ge_int))) (gss_cons (gs_if (gt_cmp op_le (simCmp _) rfl (gb_of (ge_ix (gb_var 0) (gb_of ge_int))) (gb_of (ge_fun1 call_lenA simLen T.b_len (gb_of (ge_ix (gb_var 0) (gb_of ge_int)))))) (gss_cons (gs_set 3 (ge_ix (gb_of (ge_ix (gb_var 0) (gb_of ge_int))) (gb_of (ge_bin op_sub simSub (gb_of (ge_ix (gb_var 0) (gb_of ge_int))) (gb_of ge_int)))) nd_law_next) (gss_cons (gs_sub (ge_var 0) ge_int (ge_if (gt_cmp op_ge (simCmp _) rfl (gb_var 3) (gb_of (ge_bin op_pow simPow (gb_of ge_int) (gb_of ge_int)))) (ge_bin op_fdiv simDiv (gb_var 3) (gb_var 1)) ge_int)) (gss_one (gs_ret (ge_bin op_mod simMod (gb_var 3) (gb_var 1)))))) gss_nil) (gss_cons (gs_sub (ge_var 0) ge_int (ge_bin op_mod simMod (gb_of (ge_bin op_mul simMul (gb_of (ge_ix (gb_var 0) (gb_of ge_int))) (gb_of ge_int))) (gb_of ge_int))) (gss_one (gs_ret (ge_bin op_mod simMod (gb_of (ge_bin op_fdiv simDiv (gb_of (ge_ix (gb_var 0) (gb_of ge_int))) (gb_of ge_int))) (gb_var 1))))))))
theorem c_law_next (T : Tx K w mg base C A) : Cal P w K mg base C 1 (A 3) f_law_next := by
  obtain ⟨fd, F⟩ := T.f_law_next
  exact cal_of (fn_calD (ps := ["_law_dice_here", "_law_many"]) (N := N_law_next) F  (C8.fnScope_by (by decide +kernel)) (by decide) fun cdv Ar outer s H Ex hr => b_law_next T cdv Ar outer s H Ex hr) (F.bindsN fun _ _ _ _ _ _ us hl => match us, hl with | [_, _], _ => rfl)
theorem b_law_part (T : Tx K w mg base C A) {n : Nat} (ih_law_part : Cal P w K mg base C (2 + n) (A 4) (f_law_part n)) (cdv : Value) (Ar : Around) (outer : List PySem.Env) (s : Shared) (H : Hp) (Ex : XK) (hr : Room (2 + n) (Ar.deeper (PyProof.Rows.envOfC "_law_part" (defScope st_law_part) s.heap.objs.size (A 4) cdv))) :
    GSs (cxOf (L2.CX P w) P w K mg base N_law_part "_law_part" (defScope st_law_part) (A 4) cdv Ar outer s H Ex) C (fun cls d _ H' => Ex cls d H') (defBody st_law_part) (sSeq (sAsg (eCall f_law_next (aCons (eVar 0) (aCons (eC (.int 10)) aNil))) (gNm 3)) (sSeq (sIf (tOr (tVal (eOp2 opLt (eBor 3) (eC (.int 2)))) (tAnd (tVal (eOp2 opEq (eBor 1) (eC (.int 1)))) (tVal (eOp2 opGt (eBor 3) (eC (.int 7)))))) (sRet (eTup (aCons (eC (.str [110, 117, 109])) (aCons (eOp2 opIx (eFrz (lLst (aCons (eCall f_law_next (aCons (eVar 0) (aCons (eC (.int 3)) aNil))) (aCons (eCall f_law_next (aCons (eVar 0) (aCons (eC (.int 10007)) aNil))) aNil)))) (eOp2 opDiv (eCall f_law_next (aCons (eVar 0) (aCons (eC (.int 4)) aNil))) (eC (.int 3)))) aNil)))) sNext) (sSeq (sIf (tVal (eOp2 opLt (eBor 3) (eC (.int 5)))) (sRet (eTup (aCons (eC (.str [110, 97, 109, 101])) (aCons (eCall f_law_next (aCons (eVar 0) (aCons (eC (.int 4)) aNil))) aNil)))) sNext) (sSeq (sIf (tAnd (tVal (eOp2 opEq (eBor 3) (eC (.int 5)))) (tVal (eOp2 opNe (eOp2 opIx (eBor 2) (eC (.int 2))) (eTup aNil)))) (sRet (eTup (aCons (eC (.str [115, 105, 100, 101])) (aCons (eCall f_law_next (aCons (eVar 0) (aCons (eOp2 opIx (eBor 2) (eC (.int 1))) aNil))) (aCons (eOp2 opIx (eOp2 opIx (eBor 2) (eC (.int 2))) (eCall f_law_next (aCons (eVar 0) (aCons (eOp1 opLen (eOp2 opIx (eBor 2) (eC (.int 2)))) aNil)))) aNil))))) sNext) (sSeq (sIf (tVal (eOp2 opLt (eBor 3) (eC (.int 8)))) (sRet (eTup (aCons (eC (.str [102, 105, 101, 108, 100])) (aCons (eCall f_law_next (aCons (eVar 0) (aCons (eOp2 opIx (eBor 2) (eC (.int 1))) aNil))) (aCons (eCall f_law_next (aCons (eVar 0) (aCons (eC (.int 3)) aNil))) aNil))))) sNext) (sRet (eTup (aCons (eOp2 opIx (eFrz (lLst (aCons (eC (.str [115, 117, 109])) (aCons (eC (.str [108, 101, 115, 115])) aNil)))) (eOp2 opSub (eBor 3) (eC (.int 8)))) (aCons (eCall (f_law_part n) (aCons (eVar 0) (aCons (eOp2 opSub (eBor 1) (eC (.int 1))) (aCons (eVar 2) aNil)))) (aCons (eCall (f_law_part n) (aCons (eVar 0) (aCons (eOp2 opSub (eBor 1) (eC (.int 1))) (aCons (eVar 2) aNil)))) aNil)))))))))) := by
  have tk : Takes (cxOf (L2.CX P w) P w K mg base N_law_part "_law_part" (defScope st_law_part) (A 4) cdv Ar outer s H Ex) (fun cls d _ H' => Ex cls d H') := takes_of rfl rfl rfl rfl
  have ps : PassesOwn (model P w) (cxOf (L2.CX P w) P w K mg base N_law_part "_law_part" (defScope st_law_part) (A 4) cdv Ar outer s H Ex).A (cxOf (L2.CX P w) P w K mg base N_law_part "_law_part" (defScope st_law_part) (A 4) cdv Ar outer s H Ex).env (cxOf (L2.CX P w) P w K mg base N_law_part "_law_part" (defScope st_law_part) (A 4) cdv Ar outer s H Ex).xe := passes_of rfl
  have hu := hr.units
  have hv := hu_of hr
  have hu5 := Room65 hr
  exact (gss_cons (gs_set 3 (ge_call (c_law_next T) (hr.mono (by omega)) tk T.g_law_next T.k_law_next (ga_cons (ge_var 0) (ga_cons ge_int ga_nil))) nd_law_part) (gss_cons (gs_if (gt_w (gw_or (gt_cmp op_lt (simCmp _) rfl (gb_var 3) (gb_of ge_int)) (gw_or1 (gt_w (gw_and (gt_cmp (op_eqA hu) simEq rfl (gb_var 1) (gb_of ge_int)) (gw_and1 (gt_cmp op_gt (simCmp _) rfl (gb_var 3) (gb_of ge_int)))))))) (gss_one (gs_ret (ge_tup (ga_cons (ge_str [110, 117, 109]) (ga_cons (ge_ix (gb_of (ge_frz (gl_lst (ga_cons (ge_call (c_law_next T) (hr.mono (by omega)) tk T.g_law_next T.k_law_next (ga_cons (ge_var 0) (ga_cons ge_int ga_nil))) (ga_cons (ge_call (c_law_next T) (hr.mono (by omega)) tk T.g_law_next T.k_law_next (ga_cons (ge_var 0) (ga_cons ge_int ga_nil))) ga_nil))))) (gb_of (ge_bin op_fdiv simDiv (gb_of (ge_call (c_law_next T) (hr.mono (by omega)) tk T.g_law_next T.k_law_next (ga_cons (ge_var 0) (ga_cons ge_int ga_nil)))) (gb_of ge_int)))) ga_nil))))) gss_nil) (gss_cons (gs_if (gt_cmp op_lt (simCmp _) rfl (gb_var 3) (gb_of ge_int)) (gss_one (gs_ret (ge_tup (ga_cons (ge_str [110, 97, 109, 101]) (ga_cons (ge_call (c_law_next T) (hr.mono (by omega)) tk T.g_law_next T.k_law_next (ga_cons (ge_var 0) (ga_cons ge_int ga_nil))) ga_nil))))) gss_nil) (gss_cons (gs_if (gt_w (gw_and (gt_cmp (op_eqA hu) simEq rfl (gb_var 3) (gb_of ge_int)) (gw_and1 (gt_cmp (op_neA hu) simNe rfl (gb_of (ge_ix (gb_var 2) (gb_of ge_int))) (gb_of (ge_tup ga_nil)))))) (gss_one (gs_ret (ge_tup (ga_cons (ge_str [115, 105, 100, 101]) (ga_cons (ge_call (c_law_next T) (hr.mono (by omega)) tk T.g_law_next T.k_law_next (ga_cons (ge_var 0) (ga_cons (ge_ix (gb_var 2) (gb_of ge_int)) ga_nil))) (ga_cons (ge_ix (gb_of (ge_ix (gb_var 2) (gb_of ge_int))) (gb_of (ge_call (c_law_next T) (hr.mono (by omega)) tk T.g_law_next T.k_law_next (ga_cons (ge_var 0) (ga_cons (ge_fun1 call_lenA simLen T.b_len (gb_of (ge_ix (gb_var 2) (gb_of ge_int)))) ga_nil))))) ga_nil)))))) gss_nil) (gss_cons (gs_if (gt_cmp op_lt (simCmp _) rfl (gb_var 3) (gb_of ge_int)) (gss_one (gs_ret (ge_tup (ga_cons (ge_str [102, 105, 101, 108, 100]) (ga_cons (ge_call (c_law_next T) (hr.mono (by omega)) tk T.g_law_next T.k_law_next (ga_cons (ge_var 0) (ga_cons (ge_ix (gb_var 2) (gb_of ge_int)) ga_nil))) (ga_cons (ge_call (c_law_next T) (hr.mono (by omega)) tk T.g_law_next T.k_law_next (ga_cons (ge_var 0) (ga_cons ge_int ga_nil))) ga_nil)))))) gss_nil) (gss_one (gs_ret (ge_tup (ga_cons (ge_ix (gb_of (ge_frz (gl_lst (ga_cons (ge_str [115, 117, 109]) (ga_cons (ge_str [108, 101, 115, 115]) ga_nil))))) (gb_of (ge_bin op_sub simSub (gb_var 3) (gb_of ge_int)))) (ga_cons (ge_call ih_law_part hr tk T.g_law_part T.k_law_part (ga_cons (ge_var 0) (ga_cons (ge_bin op_sub simSub (gb_var 1) (gb_of ge_int)) (ga_cons (ge_var 2) ga_nil)))) (ga_cons (ge_call ih_law_part hr tk T.g_law_part T.k_law_part (ga_cons (ge_var 0) (ga_cons (ge_bin op_sub simSub (gb_var 1) (gb_of ge_int)) (ga_cons (ge_var 2) ga_nil)))) ga_nil)))))))))))
theorem r_law_part (T : Tx K w mg base C A) : ∀ n : Nat, Cal P w K mg base C (2 + n) (A 4) (f_law_part n)
  | 0 => (by
      obtain ⟨fd, F⟩ := T.f_law_part
      exact cal_of (fn_calD (ps := ["_law_d", "_law_deep_here", "_law_g"]) (N := N_law_part) F (C8.fnScope_by (by decide +kernel)) (by decide) fun cdv Ar outer s H Ex hr => gss_never) (F.bindsN fun _ _ _ _ _ _ us hl => match us, hl with | [_, _, _], _ => rfl))
  | n + 1 => by
    have ih := r_law_part T n
    have h4 := ih
    exact (by
      obtain ⟨fd, F⟩ := T.f_law_part
      exact cal_of (fn_calD (ps := ["_law_d", "_law_deep_here", "_law_g"]) (N := N_law_part) F (C8.fnScope_by (by decide +kernel)) (by decide) fun cdv Ar outer s H Ex hr => b_law_part T h4 cdv Ar outer s H Ex hr) (F.bindsN fun _ _ _ _ _ _ us hl => match us, hl with | [_, _, _], _ => rfl))
theorem c_law_part (T : Tx K w mg base C A) (n : Nat) : Cal P w K mg base C (2 + n) (A 4) (f_law_part n) := (r_law_part T n)
theorem b_law_row (T : Tx K w mg base C A)  (cdv : Value) (Ar : Around) (outer : List PySem.Env) (s : Shared) (H : Hp) (Ex : XK) (hr : Room 7 (Ar.deeper (PyProof.Rows.envOfC "_law_row" (defScope st_law_row) s.heap.objs.size (A 5) cdv))) :
    GSs (cxOf (L2.CX P w) P w K mg base N_law_row "_law_row" (defScope st_law_row) (A 5) cdv Ar outer s H Ex) C (fun cls d _ H' => Ex cls d H') (defBody st_law_row) (sSeq (sPar 3 4 (aCons (eCall f_law_next (aCons (eVar 0) (aCons (eC (.int 16)) aNil))) (aCons (eCall f_law_next (aCons (eVar 0) (aCons (eC (.int 4)) aNil))) aNil))) (sSeq (sIf (tVal (eOp2 opLt (eBor 3) (eC (.int 3)))) (sRet (eTup (aCons (eC (.str [115, 101, 116])) (aCons (eVar 4) (aCons (eCall (f_law_part 5) (aCons (eVar 0) (aCons (eC (.int 3)) (aCons (eVar 2) aNil)))) aNil))))) sNext) (sSeq (sIf (tOr (tVal (eOp2 opLt (eBor 3) (eC (.int 6)))) (tAnd (tVal (eOp2 opEq (eBor 3) (eC (.int 6)))) (tVal (eOp2 opEq (eOp2 opIx (eBor 2) (eC (.int 2))) (eTup aNil))))) (sRet (eTup (aCons (eC (.str [112, 117, 116])) (aCons (eCall f_law_next (aCons (eVar 0) (aCons (eOp2 opIx (eBor 2) (eC (.int 1))) aNil))) (aCons (eCall f_law_next (aCons (eVar 0) (aCons (eC (.int 3)) aNil))) (aCons (eCall (f_law_part 5) (aCons (eVar 0) (aCons (eC (.int 3)) (aCons (eVar 2) aNil)))) aNil)))))) sNext) (sSeq (sIf (tVal (eOp2 opEq (eBor 3) (eC (.int 6)))) (sRet (eTup (aCons (eC (.str [115, 105, 100, 101])) (aCons (eCall f_law_next (aCons (eVar 0) (aCons (eOp2 opIx (eBor 2) (eC (.int 1))) aNil))) (aCons (eOp2 opIx (eOp2 opIx (eBor 2) (eC (.int 2))) (eCall f_law_next (aCons (eVar 0) (aCons (eOp1 opLen (eOp2 opIx (eBor 2) (eC (.int 2)))) aNil)))) (aCons (eCall (f_law_part 5) (aCons (eVar 0) (aCons (eC (.int 3)) (aCons (eVar 2) aNil)))) aNil)))))) sNext) (sSeq (sIf (tVal (eOp2 opLt (eBor 3) (eC (.int 11)))) (sRet (eTup (aCons (eC (.str [99, 97, 108, 108])) (aCons (eVar 4) (aCons (eCall f_law_next (aCons (eVar 0) (aCons (eOp2 opIx (eBor 2) (eC (.int 0))) aNil))) (aCons (eCall (f_law_part 5) (aCons (eVar 0) (aCons (eC (.int 2)) (aCons (eVar 2) aNil)))) aNil)))))) sNext) (sSeq (sIf (tVal (eOp2 opLt (eBor 3) (eC (.int 13)))) (sRet (eOp2 opIx (eFrz (lLst (aCons (eTup (aCons (eC (.str [103, 111])) (aCons (eCall f_law_next (aCons (eVar 0) (aCons (eOp2 opAdd (eBor 1) (eC (.int 1))) aNil))) aNil))) (aCons (eTup (aCons (eC (.str [117, 110, 108, 101, 115, 115])) (aCons (eVar 4) (aCons (eCall f_law_next (aCons (eVar 0) (aCons (eOp2 opAdd (eBor 1) (eC (.int 1))) aNil))) aNil)))) aNil)))) (eOp1 opIntOf (eOp2 opGt (eCall f_law_next (aCons (eVar 0) (aCons (eC (.int 4)) aNil))) (eC (.int 0)))))) sNext) (sSeq (sIf (tVal (eOp2 opEq (eBor 3) (eC (.int 13)))) (sRet (eTup (aCons (eC (.str [119, 97, 105, 116])) (aCons (eCall f_law_next (aCons (eVar 0) (aCons (eOp2 opIx (eBor 2) (eC (.int 1))) aNil))) (aCons (eCall f_law_next (aCons (eVar 0) (aCons (eC (.int 3)) aNil))) aNil))))) sNext) (sRet (eIf (tVal (eOp2 opEq (eBor 3) (eC (.int 14)))) (eTup (aCons (eC (.str [97, 110, 115, 119, 101, 114])) (aCons (eCall (f_law_part 5) (aCons (eVar 0) (aCons (eC (.int 2)) (aCons (eVar 2) aNil)))) aNil))) (eTup (aCons (eC (.str [115, 101, 116])) (aCons (eVar 4) (aCons (eTup (aCons (eC (.str [115, 117, 109])) (aCons (eTup (aCons (eC (.str [110, 97, 109, 101])) (aCons (eVar 4) aNil))) (aCons (eTup (aCons (eC (.str [110, 117, 109])) (aCons (eC (.int 1)) aNil))) aNil)))) aNil))))))))))))) := by
  have tk : Takes (cxOf (L2.CX P w) P w K mg base N_law_row "_law_row" (defScope st_law_row) (A 5) cdv Ar outer s H Ex) (fun cls d _ H' => Ex cls d H') := takes_of rfl rfl rfl rfl
  have ps : PassesOwn (model P w) (cxOf (L2.CX P w) P w K mg base N_law_row "_law_row" (defScope st_law_row) (A 5) cdv Ar outer s H Ex).A (cxOf (L2.CX P w) P w K mg base N_law_row "_law_row" (defScope st_law_row) (A 5) cdv Ar outer s H Ex).env (cxOf (L2.CX P w) P w K mg base N_law_row "_law_row" (defScope st_law_row) (A 5) cdv Ar outer s H Ex).xe := passes_of rfl
  have hu := hr.units
  have hv := hu_of hr
  have hu5 := Room65 hr
  exact (gss_cons (gs_par 3 4 rfl nd_law_row (ga_cons (ge_call (c_law_next T) (hr.mono (by omega)) tk T.g_law_next T.k_law_next (ga_cons (ge_var 0) (ga_cons ge_int ga_nil))) (ga_cons (ge_call (c_law_next T) (hr.mono (by omega)) tk T.g_law_next T.k_law_next (ga_cons (ge_var 0) (ga_cons ge_int ga_nil))) ga_nil))) (gss_cons (gs_if (gt_cmp op_lt (simCmp _) rfl (gb_var 3) (gb_of ge_int)) (gss_one (gs_ret (ge_tup (ga_cons (ge_str [115, 101, 116]) (ga_cons (ge_var 4) (ga_cons (ge_call (c_law_part T 5) (hr.mono (by omega)) tk T.g_law_part T.k_law_part (ga_cons (ge_var 0) (ga_cons ge_int (ga_cons (ge_var 2) ga_nil)))) ga_nil)))))) gss_nil) (gss_cons (gs_if (gt_w (gw_or (gt_cmp op_lt (simCmp _) rfl (gb_var 3) (gb_of ge_int)) (gw_or1 (gt_w (gw_and (gt_cmp (op_eqA hu) simEq rfl (gb_var 3) (gb_of ge_int)) (gw_and1 (gt_cmp (op_eqA hu) simEq rfl (gb_of (ge_ix (gb_var 2) (gb_of ge_int))) (gb_of (ge_tup ga_nil))))))))) (gss_one (gs_ret (ge_tup (ga_cons (ge_str [112, 117, 116]) (ga_cons (ge_call (c_law_next T) (hr.mono (by omega)) tk T.g_law_next T.k_law_next (ga_cons (ge_var 0) (ga_cons (ge_ix (gb_var 2) (gb_of ge_int)) ga_nil))) (ga_cons (ge_call (c_law_next T) (hr.mono (by omega)) tk T.g_law_next T.k_law_next (ga_cons (ge_var 0) (ga_cons ge_int ga_nil))) (ga_cons (ge_call (c_law_part T 5) (hr.mono (by omega)) tk T.g_law_part T.k_law_part (ga_cons (ge_var 0) (ga_cons ge_int (ga_cons (ge_var 2) ga_nil)))) ga_nil))))))) gss_nil) (gss_cons (gs_if (gt_cmp (op_eqA hu) simEq rfl (gb_var 3) (gb_of ge_int)) (gss_one (gs_ret (ge_tup (ga_cons (ge_str [115, 105, 100, 101]) (ga_cons (ge_call (c_law_next T) (hr.mono (by omega)) tk T.g_law_next T.k_law_next (ga_cons (ge_var 0) (ga_cons (ge_ix (gb_var 2) (gb_of ge_int)) ga_nil))) (ga_cons (ge_ix (gb_of (ge_ix (gb_var 2) (gb_of ge_int))) (gb_of (ge_call (c_law_next T) (hr.mono (by omega)) tk T.g_law_next T.k_law_next (ga_cons (ge_var 0) (ga_cons (ge_fun1 call_lenA simLen T.b_len (gb_of (ge_ix (gb_var 2) (gb_of ge_int)))) ga_nil))))) (ga_cons (ge_call (c_law_part T 5) (hr.mono (by omega)) tk T.g_law_part T.k_law_part (ga_cons (ge_var 0) (ga_cons ge_int (ga_cons (ge_var 2) ga_nil)))) ga_nil))))))) gss_nil) (gss_cons (gs_if (gt_cmp op_lt (simCmp _) rfl (gb_var 3) (gb_of ge_int)) (gss_one (gs_ret (ge_tup (ga_cons (ge_str [99, 97, 108, 108]) (ga_cons (ge_var 4) (ga_cons (ge_call (c_law_next T) (hr.mono (by omega)) tk T.g_law_next T.k_law_next (ga_cons (ge_var 0) (ga_cons (ge_ix (gb_var 2) (gb_of ge_int)) ga_nil))) (ga_cons (ge_call (c_law_part T 5) (hr.mono (by omega)) tk T.g_law_part T.k_law_part (ga_cons (ge_var 0) (ga_cons ge_int (ga_cons (ge_var 2) ga_nil)))) ga_nil))))))) gss_nil) (gss_cons (gs_if (gt_cmp op_lt (simCmp _) rfl (gb_var 3) (gb_of ge_int)) (gss_one (gs_ret (ge_ix (gb_of (ge_frz (gl_lst (ga_cons (ge_tup (ga_cons (ge_str [103, 111]) (ga_cons (ge_call (c_law_next T) (hr.mono (by omega)) tk T.g_law_next T.k_law_next (ga_cons (ge_var 0) (ga_cons (ge_bin op_addA simAdd (gb_var 1) (gb_of ge_int)) ga_nil))) ga_nil))) (ga_cons (ge_tup (ga_cons (ge_str [117, 110, 108, 101, 115, 115]) (ga_cons (ge_var 4) (ga_cons (ge_call (c_law_next T) (hr.mono (by omega)) tk T.g_law_next T.k_law_next (ga_cons (ge_var 0) (ga_cons (ge_bin op_addA simAdd (gb_var 1) (gb_of ge_int)) ga_nil))) ga_nil)))) ga_nil))))) (gb_of (ge_ty1 call_intA simInt T.b_int (gb_of (ge_cmp op_gt (simCmp _) rfl (gb_of (ge_call (c_law_next T) (hr.mono (by omega)) tk T.g_law_next T.k_law_next (ga_cons (ge_var 0) (ga_cons ge_int ga_nil)))) (gb_of ge_int)))))))) gss_nil) (gss_cons (gs_if (gt_cmp (op_eqA hu) simEq rfl (gb_var 3) (gb_of ge_int)) (gss_one (gs_ret (ge_tup (ga_cons (ge_str [119, 97, 105, 116]) (ga_cons (ge_call (c_law_next T) (hr.mono (by omega)) tk T.g_law_next T.k_law_next (ga_cons (ge_var 0) (ga_cons (ge_ix (gb_var 2) (gb_of ge_int)) ga_nil))) (ga_cons (ge_call (c_law_next T) (hr.mono (by omega)) tk T.g_law_next T.k_law_next (ga_cons (ge_var 0) (ga_cons ge_int ga_nil))) ga_nil)))))) gss_nil) (gss_one (gs_ret (ge_if (gt_cmp (op_eqA hu) simEq rfl (gb_var 3) (gb_of ge_int)) (ge_tup (ga_cons (ge_str [97, 110, 115, 119, 101, 114]) (ga_cons (ge_call (c_law_part T 5) (hr.mono (by omega)) tk T.g_law_part T.k_law_part (ga_cons (ge_var 0) (ga_cons ge_int (ga_cons (ge_var 2) ga_nil)))) ga_nil))) (ge_tup (ga_cons (ge_str [115, 101, 116]) (ga_cons (ge_var 4) (ga_cons (ge_tup (ga_cons (ge_str [115, 117, 109]) (ga_cons (ge_tup (ga_cons (ge_str [110, 97, 109, 101]) (ga_cons (ge_var 4) ga_nil))) (ga_cons (ge_tup (ga_cons (ge_str [110, 117, 109]) (ga_cons ge_int ga_nil))) ga_nil)))) ga_nil))))))))))))))
theorem c_law_row (T : Tx K w mg base C A) : Cal P w K mg base C 8 (A 5) f_law_row := by
  obtain ⟨fd, F⟩ := T.f_law_row
  exact cal_of (fn_calD (ps := ["_law_d", "_law_many", "_law_g"]) (N := N_law_row) F  (C8.fnScope_by (by decide +kernel)) (by decide) fun cdv Ar outer s H Ex hr => b_law_row T cdv Ar outer s H Ex hr) (F.bindsN fun _ _ _ _ _ _ us hl => match us, hl with | [_, _, _], _ => rfl)
theorem b_law_text (T : Tx K w mg base C A)  (cdv : Value) (Ar : Around) (outer : List PySem.Env) (s : Shared) (H : Hp) (Ex : XK) (hr : Room 8 (Ar.deeper (PyProof.Rows.envOfC "_law_text" (defScope st_law_text) s.heap.objs.size (A 6) cdv))) :
    GSs (cxOf (L2.CX P w) P w K mg base N_law_text "_law_text" (defScope st_law_text) (A 6) cdv Ar outer s H Ex) C (fun cls d _ H' => Ex cls d H') (defBody st_law_text) (sSeq (sAsg (eOp2 opAdd (eC (.int 1)) (eCall f_law_next (aCons (eVar 0) (aCons (eOp2 opIx (eFrz (lLst (aCons (eC (.int 3)) (aCons (eC (.int 5)) (aCons (eC (.int 12)) aNil))))) (eCall f_law_next (aCons (eVar 0) (aCons (eC (.int 3)) aNil)))) aNil)))) (gNm 2)) (sRet (eOp1 opTuple (eFrz (lLc (iRng (eVar 2)) (gNm 3) tYesM (eCall f_law_row (aCons (eVar 0) (aCons (eVar 2) (aCons (eVar 1) aNil)))) [3]))))) := by
  have tk : Takes (cxOf (L2.CX P w) P w K mg base N_law_text "_law_text" (defScope st_law_text) (A 6) cdv Ar outer s H Ex) (fun cls d _ H' => Ex cls d H') := takes_of rfl rfl rfl rfl
  have ps : PassesOwn (model P w) (cxOf (L2.CX P w) P w K mg base N_law_text "_law_text" (defScope st_law_text) (A 6) cdv Ar outer s H Ex).A (cxOf (L2.CX P w) P w K mg base N_law_text "_law_text" (defScope st_law_text) (A 6) cdv Ar outer s H Ex).env (cxOf (L2.CX P w) P w K mg base N_law_text "_law_text" (defScope st_law_text) (A 6) cdv Ar outer s H Ex).xe := passes_of rfl
  have hu := hr.units
  have hv := hu_of hr
  have hu5 := Room65 hr
  exact (gss_cons (gs_set 2 (ge_bin op_addA simAdd (gb_of ge_int) (gb_of (ge_call (c_law_next T) (hr.mono (by omega)) tk T.g_law_next T.k_law_next (ga_cons (ge_var 0) (ga_cons (ge_ix (gb_of (ge_frz (gl_lst (ga_cons ge_int (ga_cons ge_int (ga_cons ge_int ga_nil)))))) (gb_of (ge_call (c_law_next T) (hr.mono (by omega)) tk T.g_law_next T.k_law_next (ga_cons (ge_var 0) (ga_cons ge_int ga_nil))))) ga_nil))))) nd_law_text) (gss_one (gs_ret (ge_ty1 call_tuple_of simTuple T.b_tuple (gb_of (ge_frz (by refine gl_lc (own := [("_law_k", 3)]) (gvs := [3]) ?_ ?_ ?_ ?_ (fun s H Ca cl fp => ?_) (fun s H Ca cl fp => ?_) (fun s H Ca cl fp => ?_); (exact rfl); (exact nd_law_text); (exact (gi_range T.b_range (ge_var 2))); (exact (blkOk_by (N := N_law_text) (sc := defScope st_law_text) (own := [("_law_k", 3)]) (by decide +kernel))); (exact (gg_name 3 nd_law_text)); (exact gts_nil); (exact (ge_call (c_law_row T) (hr.mono (by omega)) takes0 T.g_law_row T.k_law_row (ga_cons (ge_var 0) (ga_cons (ge_var 2) (ga_cons (ge_var 1) ga_nil))))))))))))
theorem c_law_text (T : Tx K w mg base C A) : Cal P w K mg base C 9 (A 6) f_law_text := by
  obtain ⟨fd, F⟩ := T.f_law_text
  exact cal_of (fn_calD (ps := ["_law_d", "_law_g"]) (N := N_law_text) F  (C8.fnScope_by (by decide +kernel)) (by decide) fun cdv Ar outer s H Ex hr => b_law_text T cdv Ar outer s H Ex hr) (F.bindsN fun _ _ _ _ _ _ us hl => match us, hl with | [_, _], _ => rfl)
theorem b_law_spoilt (T : Tx K w mg base C A)  (cdv : Value) (Ar : Around) (outer : List PySem.Env) (s : Shared) (H : Hp) (Ex : XK) (hr : Room 1 (Ar.deeper (PyProof.Rows.envOfC "_law_spoilt" (defScope st_law_spoilt) s.heap.objs.size (A 7) cdv))) :
    GSs (cxOf (L2.CX P w) P w K mg base N_law_spoilt "_law_spoilt" (defScope st_law_spoilt) (A 7) cdv Ar outer s H Ex) C (fun cls d _ H' => Ex cls d H') (defBody st_law_spoilt) (sSeq (sAsg (eCall f_law_next (aCons (eVar 0) (aCons (eOp1 opLen (eBor 1)) aNil))) (gNm 2)) (sSeq (sAsg (eFrz (lSplit (eOp2 opIx (eBor 1) (eBor 2)) (eC (.str [32])))) (gNm 3)) (sSeq (sAsg (eCall f_law_next (aCons (eVar 0) (aCons (eOp1 opLen (eBor 3)) aNil))) (gNm 4)) (sSeq (sAsg (eFrz (lLst (aCons (eC (.str [])) (aCons (eC (.str [48])) (aCons (eC (.str [48, 48])) (aCons (eC (.str [51])) (aCons (eC (.str [52])) (aCons (eC (.str [56])) (aCons (eC (.str [49, 48])) (aCons (eC (.str [49, 50])) (aCons (eC (.str [49, 51])) (aCons (eC (.str [49, 48, 48, 48, 54])) (aCons (eC (.str [49, 48, 48, 48, 55])) (aCons (eC (.str [45, 49])) (aCons (eC (.str [110, 117, 109])) (aCons (eC (.str [115, 117, 109])) (aCons (eC (.str [115, 105, 100, 101])) (aCons (eC (.str [103, 111])) aNil)))))))))))))))))) (gNm 5)) (sSeq (sPar 6 5 (aCons (eCall f_law_next (aCons (eVar 0) (aCons (eC (.int 7)) aNil))) (aCons (eOp2 opIx (eBor 5) (eCall f_law_next (aCons (eVar 0) (aCons (eC (.int 16)) aNil)))) aNil))) (sSeq (sIf (tVal (eOp2 opLt (eBor 6) (eC (.int 4)))) (sSeq (sAsg (eFrz (lLst (aCons (eFrz (lAdd (eFrz (lSl (eBor 3) oNone (oSome (eVar 4)))) (eFrz (lSl (eBor 3) (oSome (eOp2 opAdd (eBor 4) (eC (.int 1)))) oNone)))) (aCons (eFrz (lAdd (eFrz (lAdd (eFrz (lSl (eBor 3) oNone (oSome (eVar 4)))) (eFrz (lSl (eBor 3) (oSome (eVar 4)) (oSome (eOp2 opAdd (eBor 4) (eC (.int 1)))))))) (eFrz (lSl (eBor 3) (oSome (eVar 4)) oNone)))) aNil)))) (gNm 7)) (sSeq (sAsg (eFrz (lAdd (eBor 7) (eFrz (lLst (aCons (eFrz (lAdd (eFrz (lAdd (eFrz (lSl (eBor 3) oNone (oSome (eVar 4)))) (eFrz (lLst (aCons (eVar 5) aNil))))) (eFrz (lSl (eBor 3) (oSome (eOp2 opAdd (eBor 4) (eC (.int 1)))) oNone)))) (aCons (eFrz (lAdd (eFrz (lAdd (eFrz (lSl (eBor 3) oNone (oSome (eVar 4)))) (eFrz (lLst (aCons (eVar 5) aNil))))) (eFrz (lSl (eBor 3) (oSome (eVar 4)) oNone)))) aNil)))))) (gNm 7)) (sRet (eFrz (lAdd (eFrz (lAdd (eFrz (lSl (eBor 1) oNone (oSome (eVar 2)))) (eFrz (lLst (aCons (eJoin (eC (.str [32])) (eOp2 opIx (eBor 7) (eBor 6))) aNil))))) (eFrz (lSl (eBor 1) (oSome (eOp2 opAdd (eBor 2) (eC (.int 1)))) oNone))))))) sNext) (sSeq (sIf (tVal (eOp2 opEq (eBor 6) (eC (.int 4)))) (sRet (eOp2 opIx (eFrz (lLst (aCons (eFrz (lAdd (eFrz (lAdd (eFrz (lSl (eBor 1) oNone (oSome (eVar 2)))) (eFrz (lSl (eBor 1) (oSome (eVar 2)) (oSome (eOp2 opAdd (eBor 2) (eC (.int 1)))))))) (eFrz (lSl (eBor 1) (oSome (eVar 2)) oNone)))) (aCons (eFrz (lAdd (eBor 1) (eFrz (lLst (aCons (eC (.str [])) aNil))))) (aCons (eFrz (lMul (eBor 1) (eC (.int 3)))) aNil))))) (eCall f_law_next (aCons (eVar 0) (aCons (eC (.int 3)) aNil))))) sNext) (sSeq (sAsg (eC (.str [32, 33, 35, 36, 38, 39, 40, 41, 42, 43, 44, 45, 46, 47, 48, 49, 50, 51, 52, 53, 54, 55, 56, 57, 58, 59, 60, 61, 62, 63, 64, 65, 66, 67, 68, 69, 70, 71, 72, 73, 74, 75, 76, 77, 78, 79, 80, 81, 82, 83, 84, 85, 86, 87, 88, 89, 90, 91, 93, 94, 95, 96, 97, 98, 99, 100, 101, 102, 103, 104, 105, 106, 107, 108, 109, 110, 111, 112, 113, 114, 115, 116, 117, 118, 119, 120, 121, 122, 123, 124, 125, 126])) (gNm 8)) (sSeq (sAsg (eCall f_law_next (aCons (eVar 0) (aCons (eOp2 opAdd (eOp1 opLen (eOp2 opIx (eBor 1) (eBor 2))) (eC (.int 1))) aNil))) (gNm 4)) (sSeq (sAsg (eOp2 opIx (eFrz (lLst (aCons (eOp2 opIx (eBor 8) (eCall f_law_next (aCons (eVar 0) (aCons (eOp1 opLen (eBor 8)) aNil)))) (aCons (eC (.str [])) aNil)))) (eCall f_law_next (aCons (eVar 0) (aCons (eC (.int 2)) aNil)))) (gNm 9)) (sSeq (sAsg (eOp2 opAdd (eOp2 opAdd (eSlS (eOp2 opIx (eBor 1) (eBor 2)) oNone (oSome (eVar 4))) (eBor 9)) (eSlS (eOp2 opIx (eBor 1) (eBor 2)) (oSome (eOp2 opSub (eOp2 opAdd (eBor 4) (eBor 6)) (eC (.int 5)))) oNone)) (gNm 10)) (sRet (eFrz (lAdd (eFrz (lAdd (eFrz (lSl (eBor 1) oNone (oSome (eVar 2)))) (eFrz (lLst (aCons (eVar 10) aNil))))) (eFrz (lSl (eBor 1) (oSome (eOp2 opAdd (eBor 2) (eC (.int 1)))) oNone)))))))))))))))) := by
  have tk : Takes (cxOf (L2.CX P w) P w K mg base N_law_spoilt "_law_spoilt" (defScope st_law_spoilt) (A 7) cdv Ar outer s H Ex) (fun cls d _ H' => Ex cls d H') := takes_of rfl rfl rfl rfl
  have ps : PassesOwn (model P w) (cxOf (L2.CX P w) P w K mg base N_law_spoilt "_law_spoilt" (defScope st_law_spoilt) (A 7) cdv Ar outer s H Ex).A (cxOf (L2.CX P w) P w K mg base N_law_spoilt "_law_spoilt" (defScope st_law_spoilt) (A 7) cdv Ar outer s H Ex).env (cxOf (L2.CX P w) P w K mg base N_law_spoilt "_law_spoilt" (defScope st_law_spoilt) (A 7) cdv Ar outer s H Ex).xe := passes_of rfl
  have hu := hr.units
  have hv := hu_of hr
  have hu5 := Room65 hr
  exact (gss_cons (gs_set 2 (ge_call (c_law_next T) (hr.mono (by omega)) tk T.g_law_next T.k_law_next (ga_cons (ge_var 0) (ga_cons (ge_fun1 call_lenA simLen T.b_len (gb_var 1)) ga_nil))) nd_law_spoilt) (gss_cons (gs_frz (i := 3) (pn_set 3 (gl_split (ge_ix (gb_var 1) (gb_var 2)) (ge_str [32])) nd_law_spoilt)) (gss_cons (gs_set 4 (ge_call (c_law_next T) (hr.mono (by omega)) tk T.g_law_next T.k_law_next (ga_cons (ge_var 0) (ga_cons (ge_fun1 call_lenA simLen T.b_len (gb_var 3)) ga_nil))) nd_law_spoilt) (gss_cons (gs_frz (i := 5) (pn_set 5 (gl_lst (ga_cons (ge_str []) (ga_cons (ge_str [48]) (ga_cons (ge_str [48, 48]) (ga_cons (ge_str [51]) (ga_cons (ge_str [52]) (ga_cons (ge_str [56]) (ga_cons (ge_str [49, 48]) (ga_cons (ge_str [49, 50]) (ga_cons (ge_str [49, 51]) (ga_cons (ge_str [49, 48, 48, 48, 54]) (ga_cons (ge_str [49, 48, 48, 48, 55]) (ga_cons (ge_str [45, 49]) (ga_cons (ge_str [110, 117, 109]) (ga_cons (ge_str [115, 117, 109]) (ga_cons (ge_str [115, 105, 100, 101]) (ga_cons (ge_str [103, 111]) ga_nil))))))))))))))))) nd_law_spoilt)) (gss_cons (gs_par 6 5 rfl nd_law_spoilt (ga_cons (ge_call (c_law_next T) (hr.mono (by omega)) tk T.g_law_next T.k_law_next (ga_cons (ge_var 0) (ga_cons ge_int ga_nil))) (ga_cons (ge_ix (gb_var 5) (gb_of (ge_call (c_law_next T) (hr.mono (by omega)) tk T.g_law_next T.k_law_next (ga_cons (ge_var 0) (ga_cons ge_int ga_nil))))) ga_nil))) (gss_cons (gs_if (gt_cmp op_lt (simCmp _) rfl (gb_var 6) (gb_of ge_int)) (gss_cons (gs_frz (i := 7) (pn_set 7 (gl_lst (ga_cons (ge_frz (gl_add (gb_of (ge_frz (gl_sl (gb_var 3) go_none (go_some (ge_var 4))))) (gb_of (ge_frz (gl_sl (gb_var 3) (go_some (ge_bin op_addA simAdd (gb_var 4) (gb_of ge_int))) go_none))))) (ga_cons (ge_frz (gl_add (gb_of (ge_frz (gl_add (gb_of (ge_frz (gl_sl (gb_var 3) go_none (go_some (ge_var 4))))) (gb_of (ge_frz (gl_sl (gb_var 3) (go_some (ge_var 4)) (go_some (ge_bin op_addA simAdd (gb_var 4) (gb_of ge_int))))))))) (gb_of (ge_frz (gl_sl (gb_var 3) (go_some (ge_var 4)) go_none))))) ga_nil))) nd_law_spoilt)) (gss_cons (gs_frz (i := 7) (pn_set 7 (gl_add (gb_var 7) (gb_of (ge_frz (gl_lst (ga_cons (ge_frz (gl_add (gb_of (ge_frz (gl_add (gb_of (ge_frz (gl_sl (gb_var 3) go_none (go_some (ge_var 4))))) (gb_of (ge_frz (gl_lst (ga_cons (ge_var 5) ga_nil))))))) (gb_of (ge_frz (gl_sl (gb_var 3) (go_some (ge_bin op_addA simAdd (gb_var 4) (gb_of ge_int))) go_none))))) (ga_cons (ge_frz (gl_add (gb_of (ge_frz (gl_add (gb_of (ge_frz (gl_sl (gb_var 3) go_none (go_some (ge_var 4))))) (gb_of (ge_frz (gl_lst (ga_cons (ge_var 5) ga_nil))))))) (gb_of (ge_frz (gl_sl (gb_var 3) (go_some (ge_var 4)) go_none))))) ga_nil)))))) nd_law_spoilt)) (gss_one (gs_ret (ge_frz (gl_add (gb_of (ge_frz (gl_add (gb_of (ge_frz (gl_sl (gb_var 1) go_none (go_some (ge_var 2))))) (gb_of (ge_frz (gl_lst (ga_cons (ge_join (ge_str [32]) (gb_of (ge_ix (gb_var 7) (gb_var 6)))) ga_nil))))))) (gb_of (ge_frz (gl_sl (gb_var 1) (go_some (ge_bin op_addA simAdd (gb_var 2) (gb_of ge_int))) go_none))))))))) gss_nil) (gss_cons (gs_if (gt_cmp (op_eqA hu) simEq rfl (gb_var 6) (gb_of ge_int)) (gss_one (gs_ret (ge_ix (gb_of (ge_frz (gl_lst (ga_cons (ge_frz (gl_add (gb_of (ge_frz (gl_add (gb_of (ge_frz (gl_sl (gb_var 1) go_none (go_some (ge_var 2))))) (gb_of (ge_frz (gl_sl (gb_var 1) (go_some (ge_var 2)) (go_some (ge_bin op_addA simAdd (gb_var 2) (gb_of ge_int))))))))) (gb_of (ge_frz (gl_sl (gb_var 1) (go_some (ge_var 2)) go_none))))) (ga_cons (ge_frz (gl_add (gb_var 1) (gb_of (ge_frz (gl_lst (ga_cons (ge_str []) ga_nil)))))) (ga_cons (ge_frz (gl_mul (gb_var 1) ge_int)) ga_nil)))))) (gb_of (ge_call (c_law_next T) (hr.mono (by omega)) tk T.g_law_next T.k_law_next (ga_cons (ge_var 0) (ga_cons ge_int ga_nil))))))) gss_nil) (gss_cons (gs_set 8 (ge_str [32, 33, 35, 36, 38, 39, 40, 41, 42, 43, 44, 45, 46, 47, 48, 49, 50, 51, 52, 53, 54, 55, 56, 57, 58, 59, 60, 61, 62, 63, 64, 65, 66, 67, 68, 69, 70, 71, 72, 73, 74, 75, 76, 77, 78, 79, 80, 81, 82, 83, 84, 85, 86, 87, 88, 89, 90, 91, 93, 94, 95, 96, 97, 98, 99, 100, 101, 102, 103, 104, 105, 106, 107, 108, 109, 110, 111, 112, 113, 114, 115, 116, 117, 118, 119, 120, 121, 122, 123, 124, 125, 126]) nd_law_spoilt) (gss_cons (gs_set 4 (ge_call (c_law_next T) (hr.mono (by omega)) tk T.g_law_next T.k_law_next (ga_cons (ge_var 0) (ga_cons (ge_bin op_addA simAdd (gb_of (ge_fun1 call_lenA simLen T.b_len (gb_of (ge_ix (gb_var 1) (gb_var 2))))) (gb_of ge_int)) ga_nil))) nd_law_spoilt) (gss_cons (gs_set 9 (ge_ix (gb_of (ge_frz (gl_lst (ga_cons (ge_ix (gb_var 8) (gb_of (ge_call (c_law_next T) (hr.mono (by omega)) tk T.g_law_next T.k_law_next (ga_cons (ge_var 0) (ga_cons (ge_fun1 call_lenA simLen T.b_len (gb_var 8)) ga_nil))))) (ga_cons (ge_str []) ga_nil))))) (gb_of (ge_call (c_law_next T) (hr.mono (by omega)) tk T.g_law_next T.k_law_next (ga_cons (ge_var 0) (ga_cons ge_int ga_nil))))) nd_law_spoilt) (gss_cons (gs_set 10 (ge_bin op_addA simAdd (gb_of (ge_bin op_addA simAdd (gb_of (ge_slS (ge_ix (gb_var 1) (gb_var 2)) go_none (go_some (ge_var 4)))) (gb_var 9))) (gb_of (ge_slS (ge_ix (gb_var 1) (gb_var 2)) (go_some (ge_bin op_sub simSub (gb_of (ge_bin op_addA simAdd (gb_var 4) (gb_var 6))) (gb_of ge_int))) go_none))) nd_law_spoilt) (gss_one (gs_ret (ge_frz (gl_add (gb_of (ge_frz (gl_add (gb_of (ge_frz (gl_sl (gb_var 1) go_none (go_some (ge_var 2))))) (gb_of (ge_frz (gl_lst (ga_cons (ge_var 10) ga_nil))))))) (gb_of (ge_frz (gl_sl (gb_var 1) (go_some (ge_bin op_addA simAdd (gb_var 2) (gb_of ge_int))) go_none))))))))))))))))))
theorem c_law_spoilt (T : Tx K w mg base C A) : Cal P w K mg base C 2 (A 7) f_law_spoilt := by
  obtain ⟨fd, F⟩ := T.f_law_spoilt
  exact cal_of (fn_calD (ps := ["_law_d", "_law_lines"]) (N := N_law_spoilt) F  (C8.fnScope_by (by decide +kernel)) (by decide) fun cdv Ar outer s H Ex hr => b_law_spoilt T cdv Ar outer s H Ex hr) (F.bindsN fun _ _ _ _ _ _ us hl => match us, hl with | [_, _], _ => rfl)
theorem b_law_taken (T : Tx K w mg base C A) {n : Nat} (ih_law_taken : Cal P w K mg base C (1 + n) (A 8) (f_law_taken n)) (cdv : Value) (Ar : Around) (outer : List PySem.Env) (s : Shared) (H : Hp) (Ex : XK) (hr : Room (1 + n) (Ar.deeper (PyProof.Rows.envOfC "_law_taken" (defScope st_law_taken) s.heap.objs.size (A 8) cdv))) :
    GSs (cxOf (L2.CX P w) P w K mg base N_law_taken "_law_taken" (defScope st_law_taken) (A 8) cdv Ar outer s H Ex) C (fun cls d _ H' => Ex cls d H') (defBody st_law_taken) (sSeq (sParO 2 3 (lLst aNil) (eC (.int 0))) (sSeq (sAsg (eDic (pCons (eC (.str [110])) (eC (.int 4)) (pCons (eC (.str [116])) (eC (.int 4)) (pCons (eC (.str [102])) (eC (.int 3)) (pCons (eC (.str [109])) (eC (.int 10)) (pCons (eC (.str [100])) (eC (.int 8)) (pCons (eC (.str [114])) (eC (.int 13)) (pCons (eC (.str [119])) (eC (.int 10007)) pNil)))))))) (gNm 4)) (sSeq (sAsg (eDic (pCons (eC (.str [110, 117, 109])) (eC (.str [119])) (pCons (eC (.str [110, 97, 109, 101])) (eC (.str [110])) (pCons (eC (.str [102, 105, 101, 108, 100])) (eC (.str [116, 102])) (pCons (eC (.str [115, 105, 100, 101])) (eC (.str [116, 109])) (pCons (eC (.str [115, 117, 109])) (eC (.str [112, 112])) (pCons (eC (.str [108, 101, 115, 115])) (eC (.str [112, 112])) pNil))))))) (gNm 5)) (sSeq (sFor (iStrI (eVar 0)) (gNm 6) (sSeq (sIf (tVal (eOp2 opEq (eBor 3) (eOp1 opLen (eBor 1)))) (sRet (eC .non)) sNext) (sSeq (sAsg (eOp2 opIx (eBor 1) (eBor 3)) (gNm 7)) (sSeq (sAsg (eOp2 opAdd (eBor 3) (eC (.int 1))) (gNm 3)) (sIf (tVal (eOp2 opEq (eBor 6) (eC (.str [112])))) (sSeq (sAsg (eIf (tVal (eOp2 opDIn (eVar 7) (eVar 5))) (eCall (f_law_taken n) (aCons (eOp2 opDGet (eVar 5) (eVar 7)) (aCons (eFrz (lSl (eBor 1) (oSome (eVar 3)) oNone)) aNil))) (eC .non)) (gNm 8)) (sSeq (sIf (tVal (eOp1 opIsN (eVar 8))) (sRet (eC .non)) sNext) (sSeq (sApp 2 (eOp2 opAdd (eTup (aCons (eVar 7) aNil)) (eOp2 opIx (eBor 8) (eC (.int 0))))) (sAsg (eOp2 opAdd (eBor 3) (eOp2 opIx (eBor 8) (eC (.int 1)))) (gNm 3))))) (sSeq (sAsg (eFrz (lLc (iStrI (eVar 7)) (gNm 10) (tVal (eOp2 opNotIn (eBor 10) (eC (.str [48, 49, 50, 51, 52, 53, 54, 55, 56, 57])))) (eVar 10) [10])) (gNm 9)) (sSeq (sIf (tOr (tVal (eOp2 opEq (eBor 7) (eC (.str [])))) (tOr (tVal (eOp2 opGt (eOp1 opLen (eBor 7)) (eC (.int 5)))) (tVal (eOp2 opNe (eBor 9) (eFrz (lLst aNil)))))) (sRet (eC .non)) sNext) (sSeq (sIf (tOr (tVal (eOp2 opNe (eBor 7) (eOp1 opStrOf (eOp1 opIntOf (eBor 7))))) (tVal (eOp2 opGe (eOp1 opIntOf (eBor 7)) (eOp2 opDGet (eVar 4) (eVar 6))))) (sRet (eC .non)) sNext) (sApp 2 (eOp1 opIntOf (eBor 7))))))))))) (sRet (eTup (aCons (eOp1 opTuple (eBor 2)) (aCons (eVar 3) aNil)))))))) := by
  have tk : Takes (cxOf (L2.CX P w) P w K mg base N_law_taken "_law_taken" (defScope st_law_taken) (A 8) cdv Ar outer s H Ex) (fun cls d _ H' => Ex cls d H') := takes_of rfl rfl rfl rfl
  have ps : PassesOwn (model P w) (cxOf (L2.CX P w) P w K mg base N_law_taken "_law_taken" (defScope st_law_taken) (A 8) cdv Ar outer s H Ex).A (cxOf (L2.CX P w) P w K mg base N_law_taken "_law_taken" (defScope st_law_taken) (A 8) cdv Ar outer s H Ex).env (cxOf (L2.CX P w) P w K mg base N_law_taken "_law_taken" (defScope st_law_taken) (A 8) cdv Ar outer s H Ex).xe := passes_of rfl
  have hu := hr.units
  have hv := hu_of hr
  have hu5 := Room65 hr
  exact (gss_cons (gs_parO 2 3 rfl nd_law_taken (gl_lst ga_nil) ge_int) (gss_cons (gs_set 4 (ge_dic (gps_cons (ge_str [110]) ge_int (gps_cons (ge_str [116]) ge_int (gps_cons (ge_str [102]) ge_int (gps_cons (ge_str [109]) ge_int (gps_cons (ge_str [100]) ge_int (gps_cons (ge_str [114]) ge_int (gps_cons (ge_str [119]) ge_int gps_nil)))))))) nd_law_taken) (gss_cons (gs_set 5 (ge_dic (gps_cons (ge_str [110, 117, 109]) (ge_str [119]) (gps_cons (ge_str [110, 97, 109, 101]) (ge_str [110]) (gps_cons (ge_str [102, 105, 101, 108, 100]) (ge_str [116, 102]) (gps_cons (ge_str [115, 105, 100, 101]) (ge_str [116, 109]) (gps_cons (ge_str [115, 117, 109]) (ge_str [112, 112]) (gps_cons (ge_str [108, 101, 115, 115]) (ge_str [112, 112]) gps_nil))))))) nd_law_taken) (gss_cons (gs_for ps rfl (gi_str (ge_var 0)) (gg_name 6 nd_law_taken) (gss_cons (gs_if (gt_cmp (op_eqA hu) simEq rfl (gb_var 3) (gb_of (ge_fun1 call_lenA simLen T.b_len (gb_var 1)))) (gss_one (gs_ret ge_non)) gss_nil) (gss_cons (gs_set 7 (ge_ix (gb_var 1) (gb_var 3)) nd_law_taken) (gss_cons (gs_set 3 (ge_bin op_addA simAdd (gb_var 3) (gb_of ge_int)) nd_law_taken) (gss_one (gs_if (gt_cmp (op_eqA hu) simEq rfl (gb_var 6) (gb_of (ge_str [112]))) (gss_cons (gs_set 8 (ge_if (gt_din hv (ge_var 7) (ge_var 5)) (ge_call ih_law_taken hr tk T.g_law_taken T.k_law_taken (ga_cons (ge_dget hv (ge_var 5) (ge_var 7)) (ga_cons (ge_frz (gl_sl (gb_var 1) (go_some (ge_var 3)) go_none)) ga_nil))) ge_non) nd_law_taken) (gss_cons (gs_if (gt_isN (ge_var 8)) (gss_one (gs_ret ge_non)) gss_nil) (gss_cons (gs_app 2 (ge_bin op_addA simAdd (gb_of (ge_tup (ga_cons (ge_var 7) ga_nil))) (gb_of (ge_ix (gb_var 8) (gb_of ge_int))))) (gss_one (gs_set 3 (ge_bin op_addA simAdd (gb_var 3) (gb_of (ge_ix (gb_var 8) (gb_of ge_int)))) nd_law_taken))))) (gss_cons (gs_frz (i := 9) (by refine pn_lc (own := [("_law_sign", 10)]) (gvs := [10]) ?_ ?_ ?_ ?_ (fun s H Ca cl fp => ?_) (fun s H Ca cl fp => ?_) (fun s H Ca cl fp => ?_); (exact rfl); (exact nd_law_taken); (exact (gi_str (ge_var 7))); (exact (blkOk_by (N := N_law_taken) (sc := defScope st_law_taken) (own := [("_law_sign", 10)]) (by decide +kernel))); (exact (gg_name 10 nd_law_taken)); (exact (gts_one (gt_cmp op_notInA simNotIn rfl (gb_var 10) (gb_of (ge_str [48, 49, 50, 51, 52, 53, 54, 55, 56, 57]))))); (exact (ge_var 10)))) (gss_cons (gs_if (gt_w (gw_or (gt_cmp (op_eqA hu) simEq rfl (gb_var 7) (gb_of (ge_str []))) (gw_or (gt_cmp op_gt (simCmp _) rfl (gb_of (ge_fun1 call_lenA simLen T.b_len (gb_var 7))) (gb_of ge_int)) (gw_or1 (gt_cmp (op_neA hu) simNe rfl (gb_var 9) (gb_of (ge_frz (gl_lst ga_nil)))))))) (gss_one (gs_ret ge_non)) gss_nil) (gss_cons (gs_if (gt_w (gw_or (gt_cmp (op_neA hu) simNe rfl (gb_var 7) (gb_of (ge_ty1 call_str_int simStr T.b_str (gb_of (ge_ty1 call_intA simInt T.b_int (gb_var 7)))))) (gw_or1 (gt_cmp op_ge (simCmp _) rfl (gb_of (ge_ty1 call_intA simInt T.b_int (gb_var 7))) (gb_of (ge_dget hv (ge_var 4) (ge_var 6))))))) (gss_one (gs_ret ge_non)) gss_nil) (gss_one (gs_app 2 (ge_ty1 call_intA simInt T.b_int (gb_var 7))))))))))))) (gss_one (gs_ret (ge_tup (ga_cons (ge_ty1 call_tuple_of simTuple T.b_tuple (gb_var 2)) (ga_cons (ge_var 3) ga_nil)))))))))
theorem r_law_taken (T : Tx K w mg base C A) : ∀ n : Nat, Cal P w K mg base C (1 + n) (A 8) (f_law_taken n)
  | 0 => (by
      obtain ⟨fd, F⟩ := T.f_law_taken
      exact cal_of (fn_calD (ps := ["_law_kinds", "_law_terms"]) (N := N_law_taken) F (C8.fnScope_by (by decide +kernel)) (by decide) fun cdv Ar outer s H Ex hr => gss_never) (F.bindsN fun _ _ _ _ _ _ us hl => match us, hl with | [_, _], _ => rfl))
  | n + 1 => by
    have ih := r_law_taken T n
    have h8 := ih
    exact (by
      obtain ⟨fd, F⟩ := T.f_law_taken
      exact cal_of (fn_calD (ps := ["_law_kinds", "_law_terms"]) (N := N_law_taken) F (C8.fnScope_by (by decide +kernel)) (by decide) fun cdv Ar outer s H Ex hr => b_law_taken T h8 cdv Ar outer s H Ex hr) (F.bindsN fun _ _ _ _ _ _ us hl => match us, hl with | [_, _], _ => rfl))
theorem c_law_taken (T : Tx K w mg base C A) (n : Nat) : Cal P w K mg base C (1 + n) (A 8) (f_law_taken n) := (r_law_taken T n)
theorem b_law_deep (T : Tx K w mg base C A) {n : Nat} (ih_law_deep : Cal P w K mg base C (1 + n) (A 9) (f_law_deep n)) (cdv : Value) (Ar : Around) (outer : List PySem.Env) (s : Shared) (H : Hp) (Ex : XK) (hr : Room (1 + n) (Ar.deeper (PyProof.Rows.envOfC "_law_deep" (defScope st_law_deep) s.heap.objs.size (A 9) cdv))) :
    GSs (cxOf (L2.CX P w) P w K mg base N_law_deep "_law_deep" (defScope st_law_deep) (A 9) cdv Ar outer s H Ex) C (fun cls d _ H' => Ex cls d H') (defBody st_law_deep) (sRet (eOp2 opAdd (eC (.int 1)) (eOp1 opMax (eFrz (lAdd (eFrz (lLst (aCons (eC (.int 0)) aNil))) (eFrz (lLc (iSeq (eSlT (eVar 0) (oSome (eC (.int 1))) oNone)) (gNm 1) (tVal (eOp1 (opKind .tuple) (eVar 1))) (eCall (f_law_deep n) (aCons (eVar 1) aNil)) [1]))))))) := by
  have tk : Takes (cxOf (L2.CX P w) P w K mg base N_law_deep "_law_deep" (defScope st_law_deep) (A 9) cdv Ar outer s H Ex) (fun cls d _ H' => Ex cls d H') := takes_of rfl rfl rfl rfl
  have ps : PassesOwn (model P w) (cxOf (L2.CX P w) P w K mg base N_law_deep "_law_deep" (defScope st_law_deep) (A 9) cdv Ar outer s H Ex).A (cxOf (L2.CX P w) P w K mg base N_law_deep "_law_deep" (defScope st_law_deep) (A 9) cdv Ar outer s H Ex).env (cxOf (L2.CX P w) P w K mg base N_law_deep "_law_deep" (defScope st_law_deep) (A 9) cdv Ar outer s H Ex).xe := passes_of rfl
  have hu := hr.units
  have hv := hu_of hr
  have hu5 := Room65 hr
  exact (gss_one (gs_ret (ge_bin op_addA simAdd (gb_of ge_int) (gb_of (ge_max rfl T.b_max (ge_frz (gl_add (gb_of (ge_frz (gl_lst (ga_cons ge_int ga_nil)))) (gb_of (ge_frz (by refine gl_lc (own := [("_law_one", 1)]) (gvs := [1]) ?_ ?_ ?_ ?_ (fun s H Ca cl fp => ?_) (fun s H Ca cl fp => ?_) (fun s H Ca cl fp => ?_); (exact rfl); (exact nd_law_deep); (exact (gi_seq (ge_slT (ge_var 0) (go_some ge_int) go_none))); (exact (blkOk_by (N := N_law_deep) (sc := defScope st_law_deep) (own := [("_law_one", 1)]) (by decide +kernel))); (exact (gg_name 1 nd_law_deep)); (exact (gts_one (gt_val (ge_isi .tuple T.b_isinstance T.b_tuple (by decide +kernel) (ge_var 1))))); (exact (ge_call ih_law_deep hr takes0 T.g_law_deep T.k_law_deep (ga_cons (ge_var 1) ga_nil)))))))))))))
theorem r_law_deep (T : Tx K w mg base C A) : ∀ n : Nat, Cal P w K mg base C (1 + n) (A 9) (f_law_deep n)
  | 0 => (by
      obtain ⟨fd, F⟩ := T.f_law_deep
      exact cal_of (fn_calD (ps := ["_law_row_here"]) (N := N_law_deep) F (C8.fnScope_by (by decide +kernel)) (by decide) fun cdv Ar outer s H Ex hr => gss_never) (F.bindsN fun _ _ _ _ _ _ us hl => match us, hl with | [_], _ => rfl))
  | n + 1 => by
    have ih := r_law_deep T n
    have h9 := ih
    exact (by
      obtain ⟨fd, F⟩ := T.f_law_deep
      exact cal_of (fn_calD (ps := ["_law_row_here"]) (N := N_law_deep) F (C8.fnScope_by (by decide +kernel)) (by decide) fun cdv Ar outer s H Ex hr => b_law_deep T h9 cdv Ar outer s H Ex hr) (F.bindsN fun _ _ _ _ _ _ us hl => match us, hl with | [_], _ => rfl))
theorem c_law_deep (T : Tx K w mg base C A) (n : Nat) : Cal P w K mg base C (1 + n) (A 9) (f_law_deep n) := (r_law_deep T n)
theorem b_law_row_of (T : Tx K w mg base C A)  (cdv : Value) (Ar : Around) (outer : List PySem.Env) (s : Shared) (H : Hp) (Ex : XK) (hr : Room 61 (Ar.deeper (PyProof.Rows.envOfC "_law_row_of" (defScope st_law_row_of) s.heap.objs.size (A 10) cdv))) :
    GSs (cxOf (L2.CX P w) P w K mg base N_law_row_of "_law_row_of" (defScope st_law_row_of) (A 10) cdv Ar outer s H Ex) C (fun cls d _ H' => Ex cls d H') (defBody st_law_row_of) (sSeq (sAsg (eFrz (lSplit (eVar 0) (eC (.str [32])))) (gNm 1)) (sSeq (sAsg (eDic (pCons (eC (.str [115, 101, 116])) (eC (.str [110, 112])) (pCons (eC (.str [112, 117, 116])) (eC (.str [116, 102, 112])) (pCons (eC (.str [115, 105, 100, 101])) (eC (.str [116, 109, 112])) (pCons (eC (.str [99, 97, 108, 108])) (eC (.str [110, 100, 112])) (pCons (eC (.str [103, 111])) (eC (.str [114])) (pCons (eC (.str [117, 110, 108, 101, 115, 115])) (eC (.str [110, 114])) (pCons (eC (.str [119, 97, 105, 116])) (eC (.str [116, 102])) pNil)))))))) (gNm 2)) (sSeq (sSetD (eVar 2) (eC (.str [97, 110, 115, 119, 101, 114])) (eC (.str [112]))) (sSeq (sIf (tVal (eOp2 opDNotIn (eOp2 opIx (eBor 1) (eC (.int 0))) (eVar 2))) (sRet (eC .non)) sNext) (sSeq (sAsg (eCall (f_law_taken 60) (aCons (eOp2 opDGet (eVar 2) (eOp2 opIx (eBor 1) (eC (.int 0)))) (aCons (eFrz (lSl (eBor 1) (oSome (eC (.int 1))) oNone)) aNil))) (gNm 3)) (sSeq (sIf (tOr (tVal (eOp1 opIsN (eVar 3))) (tOr (tVal (eOp2 opLt (eOp2 opIx (eBor 3) (eC (.int 1))) (eOp2 opSub (eOp1 opLen (eBor 1)) (eC (.int 1))))) (tVal (eOp2 opGt (eCall (f_law_deep 60) (aCons (eOp2 opAdd (eTup (aCons (eOp2 opIx (eBor 1) (eC (.int 0))) aNil)) (eOp2 opIx (eBor 3) (eC (.int 0)))) aNil)) (eC (.int 4)))))) (sRet (eC .non)) sNext) (sRet (eOp2 opAdd (eTup (aCons (eOp2 opIx (eBor 1) (eC (.int 0))) aNil)) (eOp2 opIx (eBor 3) (eC (.int 0))))))))))) := by
  have tk : Takes (cxOf (L2.CX P w) P w K mg base N_law_row_of "_law_row_of" (defScope st_law_row_of) (A 10) cdv Ar outer s H Ex) (fun cls d _ H' => Ex cls d H') := takes_of rfl rfl rfl rfl
  have ps : PassesOwn (model P w) (cxOf (L2.CX P w) P w K mg base N_law_row_of "_law_row_of" (defScope st_law_row_of) (A 10) cdv Ar outer s H Ex).A (cxOf (L2.CX P w) P w K mg base N_law_row_of "_law_row_of" (defScope st_law_row_of) (A 10) cdv Ar outer s H Ex).env (cxOf (L2.CX P w) P w K mg base N_law_row_of "_law_row_of" (defScope st_law_row_of) (A 10) cdv Ar outer s H Ex).xe := passes_of rfl
  have hu := hr.units
  have hv := hu_of hr
  have hu5 := Room65 hr
  exact (gss_cons (gs_frz (i := 1) (pn_set 1 (gl_split (ge_var 0) (ge_str [32])) nd_law_row_of)) (gss_cons (gs_set 2 (ge_dic (gps_cons (ge_str [115, 101, 116]) (ge_str [110, 112]) (gps_cons (ge_str [112, 117, 116]) (ge_str [116, 102, 112]) (gps_cons (ge_str [115, 105, 100, 101]) (ge_str [116, 109, 112]) (gps_cons (ge_str [99, 97, 108, 108]) (ge_str [110, 100, 112]) (gps_cons (ge_str [103, 111]) (ge_str [114]) (gps_cons (ge_str [117, 110, 108, 101, 115, 115]) (ge_str [110, 114]) (gps_cons (ge_str [119, 97, 105, 116]) (ge_str [116, 102]) gps_nil)))))))) nd_law_row_of) (gss_cons (gs_subD hv (ge_var 2) (ge_str [97, 110, 115, 119, 101, 114]) (ge_str [112])) (gss_cons (gs_if (gt_dnotin hv (ge_ix (gb_var 1) (gb_of ge_int)) (ge_var 2)) (gss_one (gs_ret ge_non)) gss_nil) (gss_cons (gs_set 3 (ge_call (c_law_taken T 60) (hr.mono (by omega)) tk T.g_law_taken T.k_law_taken (ga_cons (ge_dget hv (ge_var 2) (ge_ix (gb_var 1) (gb_of ge_int))) (ga_cons (ge_frz (gl_sl (gb_var 1) (go_some ge_int) go_none)) ga_nil))) nd_law_row_of) (gss_cons (gs_if (gt_w (gw_or (gt_isN (ge_var 3)) (gw_or (gt_cmp op_lt (simCmp _) rfl (gb_of (ge_ix (gb_var 3) (gb_of ge_int))) (gb_of (ge_bin op_sub simSub (gb_of (ge_fun1 call_lenA simLen T.b_len (gb_var 1))) (gb_of ge_int)))) (gw_or1 (gt_cmp op_gt (simCmp _) rfl (gb_of (ge_call (c_law_deep T 60) (hr.mono (by omega)) tk T.g_law_deep T.k_law_deep (ga_cons (ge_bin op_addA simAdd (gb_of (ge_tup (ga_cons (ge_ix (gb_var 1) (gb_of ge_int)) ga_nil))) (gb_of (ge_ix (gb_var 3) (gb_of ge_int)))) ga_nil))) (gb_of ge_int)))))) (gss_one (gs_ret ge_non)) gss_nil) (gss_one (gs_ret (ge_bin op_addA simAdd (gb_of (ge_tup (ga_cons (ge_ix (gb_var 1) (gb_of ge_int)) ga_nil))) (gb_of (ge_ix (gb_var 3) (gb_of ge_int))))))))))))
theorem c_law_row_of (T : Tx K w mg base C A) : Cal P w K mg base C 62 (A 10) f_law_row_of := by
  obtain ⟨fd, F⟩ := T.f_law_row_of
  exact cal_of (fn_calD (ps := ["_law_line"]) (N := N_law_row_of) F  (C8.fnScope_by (by decide +kernel)) (by decide) fun cdv Ar outer s H Ex hr => b_law_row_of T cdv Ar outer s H Ex hr) (F.bindsN fun _ _ _ _ _ _ us hl => match us, hl with | [_], _ => rfl)
theorem b_Rules___init__ (T : Tx K w mg base C A)  (cdv : Value) (Ar : Around) (outer : List PySem.Env) (s : Shared) (H : Hp) (Ex : XK) (hr : Room 0 (Ar.deeper (PyProof.Rows.envOfC "Rules.__init__" (defScope st_Rules___init__) s.heap.objs.size (A 11) cdv))) :
    GSs (cxOf (L2.CX P w) P w K mg base N_Rules___init__ "Rules.__init__" (defScope st_Rules___init__) (A 11) cdv Ar outer s H Ex) C (fun cls d _ H' => Ex cls d H') (defBody st_Rules___init__) (sSeq (MP.sFld 16 (eVar 0) (eVar 1) "words") (sSeq (MP.sFld 16 (eVar 0) (eVar 4) "marks") (sSeq (MP.sFld 16 (eVar 0) (eDic (pCons (eC (.str [110, 97, 109, 101])) (eC d_NAMES) (pCons (eC (.str [116, 104, 105, 110, 103])) (eVar 3) (pCons (eC (.str [102, 105, 101, 108, 100])) (eC d_FIELDS) (pCons (eC (.str [109, 97, 114, 107])) (eC d_MARKS) pNil))))) "limits") (sDrop (eUpd (eFld 16 (eVar 0) "limits") (eDic (pCons (eC (.str [100, 101, 101, 100])) (eVar 2) (pCons (eC (.str [114, 111, 119])) (eOp2 opAdd (eBor 5) (eC (.int 1))) (pCons (eC (.str [110, 117, 109, 98, 101, 114])) (eC d_BEYOND) pNil))))))))) := by
  have tk : Takes (cxOf (L2.CX P w) P w K mg base N_Rules___init__ "Rules.__init__" (defScope st_Rules___init__) (A 11) cdv Ar outer s H Ex) (fun cls d _ H' => Ex cls d H') := takes_of rfl rfl rfl rfl
  have ps : PassesOwn (model P w) (cxOf (L2.CX P w) P w K mg base N_Rules___init__ "Rules.__init__" (defScope st_Rules___init__) (A 11) cdv Ar outer s H Ex).A (cxOf (L2.CX P w) P w K mg base N_Rules___init__ "Rules.__init__" (defScope st_Rules___init__) (A 11) cdv Ar outer s H Ex).env (cxOf (L2.CX P w) P w K mg base N_Rules___init__ "Rules.__init__" (defScope st_Rules___init__) (A 11) cdv Ar outer s H Ex).xe := passes_of rfl
  have hu := hr.units
  have hv := hu_of hr
  have hu5 := Room65 hr
  have q_MARKS := T.q_MARKS
  have q_FIELDS := T.q_FIELDS
  have q_NAMES := T.q_NAMES
  have q_BEYOND := T.q_BEYOND
  exact (gss_cons (MP.gs_fld (cn := 16) (nm := "words") (ge_var 0) (ge_var 1) T.cl_Rules T.na_Rules_words) (gss_cons (MP.gs_fld (cn := 16) (nm := "marks") (ge_var 0) (ge_var 4) T.cl_Rules T.na_Rules_marks) (gss_cons (MP.gs_fld (cn := 16) (nm := "limits") (ge_var 0) (ge_dic (gps_cons (ge_str [110, 97, 109, 101]) (ge_kglob 6 d_NAMES q_NAMES.choose_spec.1 q_NAMES.choose_spec.2) (gps_cons (ge_str [116, 104, 105, 110, 103]) (ge_var 3) (gps_cons (ge_str [102, 105, 101, 108, 100]) (ge_kglob 6 d_FIELDS q_FIELDS.choose_spec.1 q_FIELDS.choose_spec.2) (gps_cons (ge_str [109, 97, 114, 107]) (ge_kglob 6 d_MARKS q_MARKS.choose_spec.1 q_MARKS.choose_spec.2) gps_nil))))) T.cl_Rules T.na_Rules_limits) (gss_one (gs_expr (ge_upd (ge_fld (c := 16) (nm := "limits") (ge_var 0) T.cl_Rules T.na_Rules_limits) (ge_dic (gps_cons (ge_str [100, 101, 101, 100]) (ge_var 2) (gps_cons (ge_str [114, 111, 119]) (ge_bin op_addA simAdd (gb_var 5) (gb_of ge_int)) (gps_cons (ge_str [110, 117, 109, 98, 101, 114]) (ge_kglob 6 d_BEYOND q_BEYOND.choose_spec.1 q_BEYOND.choose_spec.2) gps_nil))))))))))
def pl_Rules_marks {α : Type} (a b c : List α) : List α := a ++ (b.drop 0).take 1 ++ (b.drop 1).take 1 ++ (c.drop 0).take 1 ++ (b.drop 2).take 1
theorem ck_Rules_marks (T : Tx K w mg base C A) : CalK P w K mg base C 1 (A 11) 2 ["marks"] fk_Rules_marks := by
  obtain ⟨fd, F⟩ := T.f_Rules___init__
  obtain ⟨mv, hb⟩ := F.kbinds0 (ps := ["self", "words", "deeds", "things", "marks", "rows"]) 2 ["marks"] kws_Rules___init__ (fun a b c => pl_Rules_marks a b c) (by decide) (fun q h => h) (fun ra rb rc => ((((ra.append ((rb.drop 0).take 1)).append ((rb.drop 1).take 1)).append ((rc.drop 0).take 1)).append ((rb.drop 2).take 1))) fun D doc pm an cdv ct us mv ws h1 h2 h3 => match us, mv, ws, h1, h2, h3 with
    | [_, _], [_, _, _], [_], _, _, _ => ⟨_, _, _, _, _, _, rfl, rfl, ⟨_, _, _, _, _, _, rfl, rfl, ⟨_, _, _, _, _, _, rfl, rfl, rfl⟩⟩⟩
  refine ⟨fd, ["self", "words", "deeds", "things", "marks", "rows"], _, _, f_Rules___init__, arr_Rules_marks, fn_calD F (C8.fnScope_by (by decide +kernel)) (by decide) fun cdv Ar outer s H Ex hr => b_Rules___init__ T cdv Ar outer s H Ex hr, hb, ?_, rfl⟩
  intro q as es vs zs r1 r2 l1 l2
  match as, es, l1, l2 with
  | [x0, x1], [y0], _, _ =>
    obtain ⟨v0, v1, rfl, p0, p1⟩ := rds2 r1
    obtain ⟨u0, rfl, o0⟩ := rds1 r2
    exact .cons (p0) (.cons (p1) (.cons (.int 8) (.cons (.int 4) (.cons (o0) (.cons (.int 12) (.nil))))))
theorem b_number_of (T : Tx K w mg base C A)  (cdv : Value) (Ar : Around) (outer : List PySem.Env) (s : Shared) (H : Hp) (Ex : XK) (hr : Room 0 (Ar.deeper (PyProof.Rows.envOfC "number_of" (defScope st_number_of) s.heap.objs.size (A 12) cdv))) :
    GSs (cxOf (L2.CX P w) P w K mg base N_number_of "number_of" (defScope st_number_of) (A 12) cdv Ar outer s H Ex) C (fun cls d _ H' => Ex cls d H') (defBody st_number_of) (sSeq (sIf (tOr (tVal (eOp2 opEq (eBor 0) (eC (.str [])))) (tOr (tVal (eOp2 opGt (eOp1 opLen (eBor 0)) (eC (.int 5)))) (tVal (eOp2 opNe (eFrz (lLc (iStrI (eVar 0)) (gNm 1) (tVal (eOp2 opNotIn (eBor 1) (eC d_FIGURES))) (eVar 1) [1])) (eFrz (lLst aNil)))))) (sRet (eOp1 opNeg (eC (.int 1)))) sNext) (sRet (eIf (tOr (tVal (eOp2 opEq (eBor 0) (eC (.str [48])))) (tVal (eOp2 opNe (eOp2 opIx (eBor 0) (eC (.int 0))) (eC (.str [48]))))) (eOp1 opIntOf (eBor 0)) (eOp1 opNeg (eC (.int 1)))))) := by
  have tk : Takes (cxOf (L2.CX P w) P w K mg base N_number_of "number_of" (defScope st_number_of) (A 12) cdv Ar outer s H Ex) (fun cls d _ H' => Ex cls d H') := takes_of rfl rfl rfl rfl
  have ps : PassesOwn (model P w) (cxOf (L2.CX P w) P w K mg base N_number_of "number_of" (defScope st_number_of) (A 12) cdv Ar outer s H Ex).A (cxOf (L2.CX P w) P w K mg base N_number_of "number_of" (defScope st_number_of) (A 12) cdv Ar outer s H Ex).env (cxOf (L2.CX P w) P w K mg base N_number_of "number_of" (defScope st_number_of) (A 12) cdv Ar outer s H Ex).xe := passes_of rfl
  have hu := hr.units
  have hv := hu_of hr
  have hu5 := Room65 hr
  have q_FIGURES := T.q_FIGURES
  exact (gss_cons (gs_if (gt_w (gw_or (gt_cmp (op_eqA hu) simEq rfl (gb_var 0) (gb_of (ge_str []))) (gw_or (gt_cmp op_gt (simCmp _) rfl (gb_of (ge_fun1 call_lenA simLen T.b_len (gb_var 0))) (gb_of ge_int)) (gw_or1 (gt_cmp (op_neA hu) simNe rfl (gb_of (ge_frz (by refine gl_lc (own := [("sign", 1)]) (gvs := [1]) ?_ ?_ ?_ ?_ (fun s H Ca cl fp => ?_) (fun s H Ca cl fp => ?_) (fun s H Ca cl fp => ?_); (exact rfl); (exact nd_number_of); (exact (gi_str (ge_var 0))); (exact (blkOk_by (N := N_number_of) (sc := defScope st_number_of) (own := [("sign", 1)]) (by decide +kernel))); (exact (gg_name 1 nd_number_of)); (exact (gts_one (gt_cmp op_notInA simNotIn rfl (gb_var 1) (gb_of (ge_kglob 6 d_FIGURES q_FIGURES.choose_spec.1 q_FIGURES.choose_spec.2))))); (exact (ge_var 1))))) (gb_of (ge_frz (gl_lst ga_nil)))))))) (gss_one (gs_ret (ge_neg ge_int))) gss_nil) (gss_one (gs_ret (ge_if (gt_w (gw_or (gt_cmp (op_eqA hu) simEq rfl (gb_var 0) (gb_of (ge_str [48]))) (gw_or1 (gt_cmp (op_neA hu) simNe rfl (gb_of (ge_ix (gb_var 0) (gb_of ge_int))) (gb_of (ge_str [48])))))) (ge_ty1 call_intA simInt T.b_int (gb_var 0)) (ge_neg ge_int)))))
theorem c_number_of (T : Tx K w mg base C A) : Cal P w K mg base C 1 (A 12) f_number_of := by
  obtain ⟨fd, F⟩ := T.f_number_of
  exact cal_of (fn_calD (ps := ["word"]) (N := N_number_of) F  (C8.fnScope_by (by decide +kernel)) (by decide) fun cdv Ar outer s H Ex hr => b_number_of T cdv Ar outer s H Ex hr) (F.bindsN fun _ _ _ _ _ _ us hl => match us, hl with | [_], _ => rfl)
theorem b_taken (T : Tx K w mg base C A) {n : Nat} (ih_taken : Cal P w K mg base C (2 + n) (A 13) (f_taken n)) (cdv : Value) (Ar : Around) (outer : List PySem.Env) (s : Shared) (H : Hp) (Ex : XK) (hr : Room (2 + n) (Ar.deeper (PyProof.Rows.envOfC "taken" (defScope st_taken) s.heap.objs.size (A 13) cdv))) :
    GSs (cxOf (L2.CX P w) P w K mg base N_taken "taken" (defScope st_taken) (A 13) cdv Ar outer s H Ex) C (fun cls d _ H' => Ex cls d H') (defBody st_taken) (sSeq (sOwn (lLst aNil) 2) (sSeq (sFor (iSeq (eVar 0)) (gNm 3) (sSeq (sIf (tVal (eOp2 opEq (eBor 1) (eFrz (lLst aNil)))) (sRet (eC .non)) sNext) (sSeq (sAsg (eVar 1) (gSt [(gNm 4)] [] 1)) (sIf (tVal (eOp2 opNe (eBor 3) (eC (.str [112, 97, 114, 116])))) (sApp 2 (eCall f_number_of (aCons (eVar 4) aNil))) (sSeq (sAsg (eIf (tVal (eOp1 (kIn t_PARTS) (eVar 4))) (eCall (f_taken n) (aCons (eOp2 (kGetD t_PARTS) (eVar 4) (eTup (aCons (eC (.str [110, 111, 110, 101])) aNil))) (aCons (eVar 1) aNil))) (eC .non)) (gNm 5)) (sSeq (sIf (tVal (eOp1 opIsN (eVar 5))) (sRet (eC .non)) sNext) (sSeq (sApp 2 (eOp2 opAdd (eTup (aCons (eVar 4) aNil)) (eOp2 opIx (eBor 5) (eC (.int 0))))) (sAsg (eOp2 opIx (eBor 5) (eC (.int 1))) (gNm 1))))))))) (sRet (eTup (aCons (eOp1 opTuple (eBor 2)) (aCons (eVar 1) aNil)))))) := by
  have tk : Takes (cxOf (L2.CX P w) P w K mg base N_taken "taken" (defScope st_taken) (A 13) cdv Ar outer s H Ex) (fun cls d _ H' => Ex cls d H') := takes_of rfl rfl rfl rfl
  have ps : PassesOwn (model P w) (cxOf (L2.CX P w) P w K mg base N_taken "taken" (defScope st_taken) (A 13) cdv Ar outer s H Ex).A (cxOf (L2.CX P w) P w K mg base N_taken "taken" (defScope st_taken) (A 13) cdv Ar outer s H Ex).env (cxOf (L2.CX P w) P w K mg base N_taken "taken" (defScope st_taken) (A 13) cdv Ar outer s H Ex).xe := passes_of rfl
  have hu := hr.units
  have hv := hu_of hr
  have hu5 := Room65 hr
  have q_PARTS := T.q_PARTS
  exact (gss_cons (gs_own (i := 2) (pn_set 2 (gl_lst ga_nil) nd_taken)) (gss_cons (gs_for ps rfl (gi_seq (ge_var 0)) (gg_name 3 nd_taken) (gss_cons (gs_if (gt_cmp (op_eqA hu) simEq rfl (gb_var 1) (gb_of (ge_frz (gl_lst ga_nil)))) (gss_one (gs_ret ge_non)) gss_nil) (gss_cons (gs_asg (ge_var 1) (gg_star (gs := [(gNm 4)]) (hs := []) (j := 1) rfl (ggs_cons (gg_name 4 nd_taken) (ggs_star (gg_name 1 nd_taken) ggs_nil)))) (gss_one (gs_if (gt_cmp (op_neA hu) simNe rfl (gb_var 3) (gb_of (ge_str [112, 97, 114, 116]))) (gss_one (gs_app 2 (ge_call (c_number_of T) (hr.mono (by omega)) tk T.g_number_of T.k_number_of (ga_cons (ge_var 4) ga_nil)))) (gss_cons (gs_set 5 (ge_if (gt_kin q_PARTS.choose_spec.1 q_PARTS.choose_spec.2 (ge_var 4)) (ge_call ih_taken hr tk T.g_taken T.k_taken (ga_cons (ge_kget2 q_PARTS.choose_spec.1 q_PARTS.choose_spec.2 (ge_var 4) (ge_tup (ga_cons (ge_str [110, 111, 110, 101]) ga_nil))) (ga_cons (ge_var 1) ga_nil))) ge_non) nd_taken) (gss_cons (gs_if (gt_isN (ge_var 5)) (gss_one (gs_ret ge_non)) gss_nil) (gss_cons (gs_app 2 (ge_bin op_addA simAdd (gb_of (ge_tup (ga_cons (ge_var 4) ga_nil))) (gb_of (ge_ix (gb_var 5) (gb_of ge_int))))) (gss_one (gs_set 1 (ge_ix (gb_var 5) (gb_of ge_int)) nd_taken)))))))))) (gss_one (gs_ret (ge_tup (ga_cons (ge_ty1 call_tuple_of simTuple T.b_tuple (gb_var 2)) (ga_cons (ge_var 1) ga_nil)))))))
theorem r_taken (T : Tx K w mg base C A) : ∀ n : Nat, Cal P w K mg base C (2 + n) (A 13) (f_taken n)
  | 0 => (by
      obtain ⟨fd, F⟩ := T.f_taken
      exact cal_of (fn_calD (ps := ["kinds", "words"]) (N := N_taken) F (C8.fnScope_by (by decide +kernel)) (by decide) fun cdv Ar outer s H Ex hr => gss_never) (F.bindsN fun _ _ _ _ _ _ us hl => match us, hl with | [_, _], _ => rfl))
  | n + 1 => by
    have ih := r_taken T n
    have h13 := ih
    exact (by
      obtain ⟨fd, F⟩ := T.f_taken
      exact cal_of (fn_calD (ps := ["kinds", "words"]) (N := N_taken) F (C8.fnScope_by (by decide +kernel)) (by decide) fun cdv Ar outer s H Ex hr => b_taken T h13 cdv Ar outer s H Ex hr) (F.bindsN fun _ _ _ _ _ _ us hl => match us, hl with | [_, _], _ => rfl))
theorem c_taken (T : Tx K w mg base C A) (n : Nat) : Cal P w K mg base C (2 + n) (A 13) (f_taken n) := (r_taken T n)
theorem b_row_of (T : Tx K w mg base C A)  (cdv : Value) (Ar : Around) (outer : List PySem.Env) (s : Shared) (H : Hp) (Ex : XK) (hr : Room 62 (Ar.deeper (PyProof.Rows.envOfC "row_of" (defScope st_row_of) s.heap.objs.size (A 14) cdv))) :
    GSs (cxOf (L2.CX P w) P w K mg base N_row_of "row_of" (defScope st_row_of) (A 14) cdv Ar outer s H Ex) C (fun cls d _ H' => Ex cls d H') (defBody st_row_of) (sSeq (sAsg (eFrz (lSplit (eVar 0) (eC (.str [32])))) (gSt [(gNm 1)] [] 2)) (sSeq (sIf (tVal (eOp2 opNotIn (eBor 1) (eC d_ALL_WORDS))) (sRet (eC .non)) sNext) (sSeq (sAsg (eCall (f_taken 60) (aCons (eOp1 (kGet t_ROWS) (eVar 1)) (aCons (eVar 2) aNil))) (gNm 3)) (sSeq (sIf (tOr (tVal (eOp1 opIsN (eVar 3))) (tVal (eOp2 opNe (eOp2 opIx (eBor 3) (eC (.int 1))) (eFrz (lLst aNil))))) (sRet (eC .non)) sNext) (sRet (eOp2 opAdd (eTup (aCons (eVar 1) aNil)) (eOp2 opIx (eBor 3) (eC (.int 0))))))))) := by
  have tk : Takes (cxOf (L2.CX P w) P w K mg base N_row_of "row_of" (defScope st_row_of) (A 14) cdv Ar outer s H Ex) (fun cls d _ H' => Ex cls d H') := takes_of rfl rfl rfl rfl
  have ps : PassesOwn (model P w) (cxOf (L2.CX P w) P w K mg base N_row_of "row_of" (defScope st_row_of) (A 14) cdv Ar outer s H Ex).A (cxOf (L2.CX P w) P w K mg base N_row_of "row_of" (defScope st_row_of) (A 14) cdv Ar outer s H Ex).env (cxOf (L2.CX P w) P w K mg base N_row_of "row_of" (defScope st_row_of) (A 14) cdv Ar outer s H Ex).xe := passes_of rfl
  have hu := hr.units
  have hv := hu_of hr
  have hu5 := Room65 hr
  have q_ALL_WORDS := T.q_ALL_WORDS
  have q_ROWS := T.q_ROWS
  exact (gss_cons (gs_asg (ge_frz (gl_split (ge_var 0) (ge_str [32]))) (gg_star (gs := [(gNm 1)]) (hs := []) (j := 2) rfl (ggs_cons (gg_name 1 nd_row_of) (ggs_star (gg_name 2 nd_row_of) ggs_nil)))) (gss_cons (gs_if (gt_cmp op_notInA simNotIn rfl (gb_var 1) (gb_of (ge_kglob 6 d_ALL_WORDS q_ALL_WORDS.choose_spec.1 q_ALL_WORDS.choose_spec.2))) (gss_one (gs_ret ge_non)) gss_nil) (gss_cons (gs_set 3 (ge_call (c_taken T 60) (hr.mono (by omega)) tk T.g_taken T.k_taken (ga_cons (ge_kix q_ROWS.choose_spec.1 q_ROWS.choose_spec.2 (ge_var 1)) (ga_cons (ge_var 2) ga_nil))) nd_row_of) (gss_cons (gs_if (gt_w (gw_or (gt_isN (ge_var 3)) (gw_or1 (gt_cmp (op_neA hu) simNe rfl (gb_of (ge_ix (gb_var 3) (gb_of ge_int))) (gb_of (ge_frz (gl_lst ga_nil))))))) (gss_one (gs_ret ge_non)) gss_nil) (gss_one (gs_ret (ge_bin op_addA simAdd (gb_of (ge_tup (ga_cons (ge_var 1) ga_nil))) (gb_of (ge_ix (gb_var 3) (gb_of ge_int))))))))))
theorem c_row_of (T : Tx K w mg base C A) : Cal P w K mg base C 63 (A 14) f_row_of := by
  obtain ⟨fd, F⟩ := T.f_row_of
  exact cal_of (fn_calD (ps := ["line"]) (N := N_row_of) F  (C8.fnScope_by (by decide +kernel)) (by decide) fun cdv Ar outer s H Ex hr => b_row_of T cdv Ar outer s H Ex hr) (F.bindsN fun _ _ _ _ _ _ us hl => match us, hl with | [_], _ => rfl)
theorem b_Rules_is_number (T : Tx K w mg base C A)  (cdv : Value) (Ar : Around) (outer : List PySem.Env) (s : Shared) (H : Hp) (Ex : XK) (hr : Room 0 (Ar.deeper (PyProof.Rows.envOfC "Rules.is_number" (defScope st_Rules_is_number) s.heap.objs.size (A 15) cdv))) :
    GSs (cxOf (L2.CX P w) P w K mg base N_Rules_is_number "Rules.is_number" (defScope st_Rules_is_number) (A 15) cdv Ar outer s H Ex) C (fun cls d _ H' => Ex cls d H') (defBody st_Rules_is_number) (sRet (eAnd (eChain opLe opLt (eC (.int 0)) (eBor 2) (eOp2 opDGet (eFld 16 (eVar 0) "limits") (eVar 1))) (eOr (eOp2 opNe (eBor 1) (eC (.str [109, 97, 114, 107]))) (eOp2 opIn (eBor 2) (eFld 16 (eVar 0) "marks"))))) := by
  have tk : Takes (cxOf (L2.CX P w) P w K mg base N_Rules_is_number "Rules.is_number" (defScope st_Rules_is_number) (A 15) cdv Ar outer s H Ex) (fun cls d _ H' => Ex cls d H') := takes_of rfl rfl rfl rfl
  have ps : PassesOwn (model P w) (cxOf (L2.CX P w) P w K mg base N_Rules_is_number "Rules.is_number" (defScope st_Rules_is_number) (A 15) cdv Ar outer s H Ex).A (cxOf (L2.CX P w) P w K mg base N_Rules_is_number "Rules.is_number" (defScope st_Rules_is_number) (A 15) cdv Ar outer s H Ex).env (cxOf (L2.CX P w) P w K mg base N_Rules_is_number "Rules.is_number" (defScope st_Rules_is_number) (A 15) cdv Ar outer s H Ex).xe := passes_of rfl
  have hu := hr.units
  have hv := hu_of hr
  have hu5 := Room65 hr
  exact (gss_one (gs_ret (ge_and (ge_chain op_le (simCmp _) op_lt (simCmp _) (gb_of ge_int) (gb_var 2) (gb_of (ge_dget hv (ge_fld (c := 16) (nm := "limits") (ge_var 0) T.cl_Rules T.na_Rules_limits) (ge_var 1)))) (ge_one (ge_or (ge_cmp (op_neA hu) simNe rfl (gb_var 1) (gb_of (ge_str [109, 97, 114, 107]))) (ge_one (ge_cmp op_inA simIn rfl (gb_var 2) (gb_of (ge_fld (c := 16) (nm := "marks") (ge_var 0) T.cl_Rules T.na_Rules_marks)))))))))
theorem c_Rules_is_number (T : Tx K w mg base C A) : Cal P w K mg base C 1 (A 15) f_Rules_is_number := by
  obtain ⟨fd, F⟩ := T.f_Rules_is_number
  exact cal_of (fn_calD (ps := ["self", "kind", "number"]) (N := N_Rules_is_number) F  (C8.fnScope_by (by decide +kernel)) (by decide) fun cdv Ar outer s H Ex hr => b_Rules_is_number T cdv Ar outer s H Ex hr) (F.bindsN fun _ _ _ _ _ _ us hl => match us, hl with | [_, _, _], _ => rfl)
theorem b_Rules_are_good (T : Tx K w mg base C A) {n : Nat} (ih_Rules_is_part : Cal P w K mg base C (2 + n) (A 17) (f_Rules_is_part n)) (cdv : Value) (Ar : Around) (outer : List PySem.Env) (s : Shared) (H : Hp) (Ex : XK) (hr : Room (2 + n) (Ar.deeper (PyProof.Rows.envOfC "Rules.are_good" (defScope st_Rules_are_good) s.heap.objs.size (A 16) cdv))) :
    GSs (cxOf (L2.CX P w) P w K mg base N_Rules_are_good "Rules.are_good" (defScope st_Rules_are_good) (A 16) cdv Ar outer s H Ex) C (fun cls d _ H' => Ex cls d H') (defBody st_Rules_are_good) (sSeq (sFor (iZipTL (eVar 1) (eVar 2)) (gTp [(gNm 4), (gNm 5)]) (sSeq (sAsg (eIf (tVal (eOp2 opEq (eBor 4) (eC (.str [112, 97, 114, 116])))) (eMeth 16 "is_part" (f_Rules_is_part n) (eVar 0) (aCons (eVar 5) (aCons (eVar 3) aNil))) (eMeth 16 "is_number" f_Rules_is_number (eVar 0) (aCons (eVar 4) (aCons (eVar 5) aNil)))) (gNm 6)) (sIf (tNot (tVal (eVar 6))) (sRet (eC (.bl false))) sNext))) (sRet (eC (.bl true)))) := by
  have tk : Takes (cxOf (L2.CX P w) P w K mg base N_Rules_are_good "Rules.are_good" (defScope st_Rules_are_good) (A 16) cdv Ar outer s H Ex) (fun cls d _ H' => Ex cls d H') := takes_of rfl rfl rfl rfl
  have ps : PassesOwn (model P w) (cxOf (L2.CX P w) P w K mg base N_Rules_are_good "Rules.are_good" (defScope st_Rules_are_good) (A 16) cdv Ar outer s H Ex).A (cxOf (L2.CX P w) P w K mg base N_Rules_are_good "Rules.are_good" (defScope st_Rules_are_good) (A 16) cdv Ar outer s H Ex).env (cxOf (L2.CX P w) P w K mg base N_Rules_are_good "Rules.are_good" (defScope st_Rules_are_good) (A 16) cdv Ar outer s H Ex).xe := passes_of rfl
  have hu := hr.units
  have hv := hu_of hr
  have hu5 := Room65 hr
  exact (gss_cons (gs_for ps rfl (gi_zipM T.b_zip (ge_var 1) (ge_var 2)) (gg_tup rfl (ggs_cons (gg_name 4 nd_Rules_are_good) (ggs_cons (gg_name 5 nd_Rules_are_good) ggs_nil))) (gss_cons (gs_set 6 (ge_if (gt_cmp (op_eqA hu) simEq rfl (gb_var 4) (gb_of (ge_str [112, 97, 114, 116]))) (ge_meth (c := 16) (nm := "is_part") (ge_var 0) T.cl_Rules T.me_Rules_is_part ih_Rules_is_part hr tk (ga_cons (ge_var 5) (ga_cons (ge_var 3) ga_nil))) (ge_meth (c := 16) (nm := "is_number") (ge_var 0) T.cl_Rules T.me_Rules_is_number (c_Rules_is_number T) (hr.mono (by omega)) tk (ga_cons (ge_var 4) (ga_cons (ge_var 5) ga_nil)))) nd_Rules_are_good) (gss_one (gs_if (gt_not (gt_val (ge_var 6))) (gss_one (gs_ret ge_bl)) gss_nil)))) (gss_one (gs_ret ge_bl)))
theorem b_Rules_is_part (T : Tx K w mg base C A) {n : Nat} (ih_Rules_are_good : Cal P w K mg base C (2 + n) (A 16) (f_Rules_are_good n)) (cdv : Value) (Ar : Around) (outer : List PySem.Env) (s : Shared) (H : Hp) (Ex : XK) (hr : Room (2 + n) (Ar.deeper (PyProof.Rows.envOfC "Rules.is_part" (defScope st_Rules_is_part) s.heap.objs.size (A 17) cdv))) :
    GSs (cxOf (L2.CX P w) P w K mg base N_Rules_is_part "Rules.is_part" (defScope st_Rules_is_part) (A 17) cdv Ar outer s H Ex) C (fun cls d _ H' => Ex cls d H') (defBody st_Rules_is_part) (sSeq (sAsg (eVar 1) (gSt [(gNm 3)] [] 4)) (sRet (eAnd (eOp2 opGt (eBor 2) (eC (.int 0))) (eMeth 16 "are_good" (f_Rules_are_good n) (eVar 0) (aCons (eOp1 (kGet t_PARTS) (eVar 3)) (aCons (eVar 4) (aCons (eOp2 opSub (eBor 2) (eC (.int 1))) aNil))))))) := by
  have tk : Takes (cxOf (L2.CX P w) P w K mg base N_Rules_is_part "Rules.is_part" (defScope st_Rules_is_part) (A 17) cdv Ar outer s H Ex) (fun cls d _ H' => Ex cls d H') := takes_of rfl rfl rfl rfl
  have ps : PassesOwn (model P w) (cxOf (L2.CX P w) P w K mg base N_Rules_is_part "Rules.is_part" (defScope st_Rules_is_part) (A 17) cdv Ar outer s H Ex).A (cxOf (L2.CX P w) P w K mg base N_Rules_is_part "Rules.is_part" (defScope st_Rules_is_part) (A 17) cdv Ar outer s H Ex).env (cxOf (L2.CX P w) P w K mg base N_Rules_is_part "Rules.is_part" (defScope st_Rules_is_part) (A 17) cdv Ar outer s H Ex).xe := passes_of rfl
  have hu := hr.units
  have hv := hu_of hr
  have hu5 := Room65 hr
  have q_PARTS := T.q_PARTS
  exact (gss_cons (gs_asg (ge_var 1) (gg_star (gs := [(gNm 3)]) (hs := []) (j := 4) rfl (ggs_cons (gg_name 3 nd_Rules_is_part) (ggs_star (gg_name 4 nd_Rules_is_part) ggs_nil)))) (gss_one (gs_ret (ge_and (ge_cmp op_gt (simCmp _) rfl (gb_var 2) (gb_of ge_int)) (ge_one (ge_meth (c := 16) (nm := "are_good") (ge_var 0) T.cl_Rules T.me_Rules_are_good ih_Rules_are_good hr tk (ga_cons (ge_kix q_PARTS.choose_spec.1 q_PARTS.choose_spec.2 (ge_var 3)) (ga_cons (ge_var 4) (ga_cons (ge_bin op_sub simSub (gb_var 2) (gb_of ge_int)) ga_nil)))))))))
theorem r_Rules_are_good_Rules_is_part (T : Tx K w mg base C A) : ∀ n : Nat, Cal P w K mg base C (2 + n) (A 16) (f_Rules_are_good n) ∧ Cal P w K mg base C (2 + n) (A 17) (f_Rules_is_part n)
  | 0 => ⟨(by
      obtain ⟨fd, F⟩ := T.f_Rules_are_good
      exact cal_of (fn_calD (ps := ["self", "kinds", "things", "deep"]) (N := N_Rules_are_good) F (C8.fnScope_by (by decide +kernel)) (by decide) fun cdv Ar outer s H Ex hr => gss_never) (F.bindsN fun _ _ _ _ _ _ us hl => match us, hl with | [_, _, _, _], _ => rfl)), (by
      obtain ⟨fd, F⟩ := T.f_Rules_is_part
      exact cal_of (fn_calD (ps := ["self", "part", "deep"]) (N := N_Rules_is_part) F (C8.fnScope_by (by decide +kernel)) (by decide) fun cdv Ar outer s H Ex hr => gss_never) (F.bindsN fun _ _ _ _ _ _ us hl => match us, hl with | [_, _, _], _ => rfl))⟩
  | n + 1 => by
    have ih := r_Rules_are_good_Rules_is_part T n
    obtain ⟨h16, h17⟩ := ih
    exact ⟨(by
      obtain ⟨fd, F⟩ := T.f_Rules_are_good
      exact cal_of (fn_calD (ps := ["self", "kinds", "things", "deep"]) (N := N_Rules_are_good) F (C8.fnScope_by (by decide +kernel)) (by decide) fun cdv Ar outer s H Ex hr => b_Rules_are_good T h17 cdv Ar outer s H Ex hr) (F.bindsN fun _ _ _ _ _ _ us hl => match us, hl with | [_, _, _, _], _ => rfl)), (by
      obtain ⟨fd, F⟩ := T.f_Rules_is_part
      exact cal_of (fn_calD (ps := ["self", "part", "deep"]) (N := N_Rules_is_part) F (C8.fnScope_by (by decide +kernel)) (by decide) fun cdv Ar outer s H Ex hr => b_Rules_is_part T h16 cdv Ar outer s H Ex hr) (F.bindsN fun _ _ _ _ _ _ us hl => match us, hl with | [_, _, _], _ => rfl))⟩
theorem c_Rules_are_good (T : Tx K w mg base C A) (n : Nat) : Cal P w K mg base C (2 + n) (A 16) (f_Rules_are_good n) := (r_Rules_are_good_Rules_is_part T n).1
theorem c_Rules_is_part (T : Tx K w mg base C A) (n : Nat) : Cal P w K mg base C (2 + n) (A 17) (f_Rules_is_part n) := (r_Rules_are_good_Rules_is_part T n).2
theorem b_Rules_is_row (T : Tx K w mg base C A)  (cdv : Value) (Ar : Around) (outer : List PySem.Env) (s : Shared) (H : Hp) (Ex : XK) (hr : Room 14 (Ar.deeper (PyProof.Rows.envOfC "Rules.is_row" (defScope st_Rules_is_row) s.heap.objs.size (A 18) cdv))) :
    GSs (cxOf (L2.CX P w) P w K mg base N_Rules_is_row "Rules.is_row" (defScope st_Rules_is_row) (A 18) cdv Ar outer s H Ex) C (fun cls d _ H' => Ex cls d H') (defBody st_Rules_is_row) (sSeq (sAsg (eVar 1) (gSt [(gNm 2)] [] 3)) (sRet (eAnd (eOp2 opIn (eBor 2) (eFld 16 (eVar 0) "words")) (eMeth 16 "are_good" (f_Rules_are_good 12) (eVar 0) (aCons (eOp1 (kGet t_ROWS) (eVar 2)) (aCons (eVar 3) (aCons (eC d_MOST_DEEP) aNil))))))) := by
  have tk : Takes (cxOf (L2.CX P w) P w K mg base N_Rules_is_row "Rules.is_row" (defScope st_Rules_is_row) (A 18) cdv Ar outer s H Ex) (fun cls d _ H' => Ex cls d H') := takes_of rfl rfl rfl rfl
  have ps : PassesOwn (model P w) (cxOf (L2.CX P w) P w K mg base N_Rules_is_row "Rules.is_row" (defScope st_Rules_is_row) (A 18) cdv Ar outer s H Ex).A (cxOf (L2.CX P w) P w K mg base N_Rules_is_row "Rules.is_row" (defScope st_Rules_is_row) (A 18) cdv Ar outer s H Ex).env (cxOf (L2.CX P w) P w K mg base N_Rules_is_row "Rules.is_row" (defScope st_Rules_is_row) (A 18) cdv Ar outer s H Ex).xe := passes_of rfl
  have hu := hr.units
  have hv := hu_of hr
  have hu5 := Room65 hr
  have q_ROWS := T.q_ROWS
  have q_MOST_DEEP := T.q_MOST_DEEP
  exact (gss_cons (gs_asg (ge_var 1) (gg_star (gs := [(gNm 2)]) (hs := []) (j := 3) rfl (ggs_cons (gg_name 2 nd_Rules_is_row) (ggs_star (gg_name 3 nd_Rules_is_row) ggs_nil)))) (gss_one (gs_ret (ge_and (ge_cmp op_inA simIn rfl (gb_var 2) (gb_of (ge_fld (c := 16) (nm := "words") (ge_var 0) T.cl_Rules T.na_Rules_words))) (ge_one (ge_meth (c := 16) (nm := "are_good") (ge_var 0) T.cl_Rules T.me_Rules_are_good (c_Rules_are_good T 12) (hr.mono (by omega)) tk (ga_cons (ge_kix q_ROWS.choose_spec.1 q_ROWS.choose_spec.2 (ge_var 2)) (ga_cons (ge_var 3) (ga_cons (ge_kglob 6 d_MOST_DEEP q_MOST_DEEP.choose_spec.1 q_MOST_DEEP.choose_spec.2) ga_nil)))))))))
theorem c_Rules_is_row (T : Tx K w mg base C A) : Cal P w K mg base C 15 (A 18) f_Rules_is_row := by
  obtain ⟨fd, F⟩ := T.f_Rules_is_row
  exact cal_of (fn_calD (ps := ["self", "row"]) (N := N_Rules_is_row) F  (C8.fnScope_by (by decide +kernel)) (by decide) fun cdv Ar outer s H Ex hr => b_Rules_is_row T cdv Ar outer s H Ex hr) (F.bindsN fun _ _ _ _ _ _ us hl => match us, hl with | [_, _], _ => rfl)
theorem b_read (T : Tx K w mg base C A)  (cdv : Value) (Ar : Around) (outer : List PySem.Env) (s : Shared) (H : Hp) (Ex : XK) (hr : Room 63 (Ar.deeper (PyProof.Rows.envOfC "read" (defScope st_read) s.heap.objs.size (A 20) cdv))) :
    GSs (cxOf (L2.CX P w) P w K mg base N_read "read" (defScope st_read) (A 20) cdv Ar outer s H Ex) C (fun cls d _ H' => Ex cls d H') (defBody st_read) (sSeq (sOwn (lLst aNil) 1) (sSeq (sAsg (eNewK 16 fk_Rules_marks 1 1 (aCons (eC d_ALL_WORDS) aNil) (aCons (eTupRg (eC d_MARKS)) aNil)) (gNm 2)) (sSeq (sFor (iEnum (eFrz (lSplit (eVar 0) (eC (.str [10]))))) (gTp [(gNm 3), (gNm 4)]) (sSeq (sAsg (eCall f_row_of (aCons (eVar 4) aNil)) (gNm 5)) (sSeq (sIf (tOr (tVal (eOp2 opGe (eBor 3) (eC d_MOST_ROWS))) (tOr (tVal (eOp1 opIsN (eVar 5))) (tNot (tVal (eMeth 16 "is_row" f_Rules_is_row (eVar 2) (aCons (eVar 5) aNil)))))) (sRs 1 ["row"] (aCons (eVar 3) aNil)) sNext) (sApp 1 (eVar 5))))) (sRet (eOp1 opTuple (eBor 1)))))) := by
  have tk : Takes (cxOf (L2.CX P w) P w K mg base N_read "read" (defScope st_read) (A 20) cdv Ar outer s H Ex) (fun cls d _ H' => Ex cls d H') := takes_of rfl rfl rfl rfl
  have ps : PassesOwn (model P w) (cxOf (L2.CX P w) P w K mg base N_read "read" (defScope st_read) (A 20) cdv Ar outer s H Ex).A (cxOf (L2.CX P w) P w K mg base N_read "read" (defScope st_read) (A 20) cdv Ar outer s H Ex).env (cxOf (L2.CX P w) P w K mg base N_read "read" (defScope st_read) (A 20) cdv Ar outer s H Ex).xe := passes_of rfl
  have hu := hr.units
  have hv := hu_of hr
  have hu5 := Room65 hr
  have q_MARKS := T.q_MARKS
  have q_ALL_WORDS := T.q_ALL_WORDS
  have q_MOST_ROWS := T.q_MOST_ROWS
  obtain ⟨_, oi_BadText, bi_BadText⟩ := oi_BadText (P := P) T
  exact (gss_cons (gs_own (i := 1) (pn_set 1 (gl_lst ga_nil) nd_read)) (gss_cons (gs_set 2 (ge_newK 1 T.mk_Rules (ck_Rules_marks T) (hr.mono (by omega)) tk T.gc_Rules (ga_cons (ge_kglob 6 d_ALL_WORDS q_ALL_WORDS.choose_spec.1 q_ALL_WORDS.choose_spec.2) ga_nil) (gk_cons (ge_tupRg rfl T.b_tuple T.b_range (ge_kglob 6 d_MARKS q_MARKS.choose_spec.1 q_MARKS.choose_spec.2)) gk_nil)) nd_read) (gss_cons (gs_for ps rfl (gi_enum T.b_enumerate (ge_frz (gl_split (ge_var 0) (ge_str [10])))) (gg_tup rfl (ggs_cons (gg_name 3 nd_read) (ggs_cons (gg_name 4 nd_read) ggs_nil))) (gss_cons (gs_set 5 (ge_call (c_row_of T) (hr.mono (by omega)) tk T.g_row_of T.k_row_of (ga_cons (ge_var 4) ga_nil)) nd_read) (gss_cons (gs_if (gt_w (gw_or (gt_cmp op_ge (simCmp _) rfl (gb_var 3) (gb_of (ge_kglob 6 d_MOST_ROWS q_MOST_ROWS.choose_spec.1 q_MOST_ROWS.choose_spec.2))) (gw_or (gt_isN (ge_var 5)) (gw_or1 (gt_not (gt_val (ge_meth (c := 16) (nm := "is_row") (ge_var 2) T.cl_Rules T.me_Rules_is_row (c_Rules_is_row T) (hr.mono (by omega)) tk (ga_cons (ge_var 5) ga_nil)))))))) (gss_one (gs_rs 1 "row" [] T.xo_BadText T.ii_BadText.1 T.ii_BadText.2 oi_BadText (hr.mono (by omega)) bi_BadText (by decide) T.gc_BadText rfl tk (ga_cons (ge_var 3) ga_nil))) gss_nil) (gss_one (gs_app 1 (ge_var 5)))))) (gss_one (gs_ret (ge_ty1 call_tuple_of simTuple T.b_tuple (gb_var 1)))))))
theorem c_read (T : Tx K w mg base C A) : Cal P w K mg base C 64 (A 20) f_read := by
  obtain ⟨fd, F⟩ := T.f_read
  exact cal_of (fn_calD (ps := ["lines"]) (N := N_read) F  (C8.fnScope_by (by decide +kernel)) (by decide) fun cdv Ar outer s H Ex hr => b_read T cdv Ar outer s H Ex hr) (F.bindsN fun _ _ _ _ _ _ us hl => match us, hl with | [_], _ => rfl)
theorem b_law_like (T : Tx K w mg base C A) {n : Nat} (ih_law_like : Cal P w K mg base C (1 + n) (A 21) (f_law_like n)) (cdv : Value) (Ar : Around) (outer : List PySem.Env) (s : Shared) (H : Hp) (Ex : XK) (hr : Room (1 + n) (Ar.deeper (PyProof.Rows.envOfC "_law_like" (defScope st_law_like) s.heap.objs.size (A 21) cdv))) :
    GSs (cxOf (L2.CX P w) P w K mg base N_law_like "_law_like" (defScope st_law_like) (A 21) cdv Ar outer s H Ex) C (fun cls d _ H' => Ex cls d H') (defBody st_law_like) (sSeq (sIf (tOr (tVal (eOp1 (opKind .tuple) (eVar 1))) (tVal (eOp1 (opKind .list) (eVar 1)))) (sSeq (sIf (tVal (eOp2 opNe (eOp1 (opKind .tuple) (eVar 0)) (eOp1 (opKind .tuple) (eVar 1)))) (sRet (eC (.bl false))) sNext) (sSeq (sIf (tOr (tVal (eOp2 opNe (eOp1 (opKind .list) (eVar 0)) (eOp1 (opKind .list) (eVar 1)))) (tVal (eOp2 opNe (eOp1 opLen (eBor 0)) (eOp1 opLen (eBor 1))))) (sRet (eC (.bl false))) sNext) (sRet (eOp2 opEq (eFrz (lLc (iRng (eOp1 opLen (eBor 1))) (gNm 2) (tNot (tVal (eCall (f_law_like n) (aCons (eOp2 opIx (eBor 0) (eBor 2)) (aCons (eOp2 opIx (eBor 1) (eBor 2)) aNil))))) (eVar 2) [2])) (eFrz (lLst aNil)))))) sNext) (sSeq (sIf (tVal (eOp2 opNe (eOp1 (opKind .bool) (eVar 0)) (eOp1 (opKind .bool) (eVar 1)))) (sRet (eC (.bl false))) sNext) (sSeq (sIf (tOr (tVal (eOp2 opNe (eOp1 (opKind .int) (eVar 0)) (eOp1 (opKind .int) (eVar 1)))) (tVal (eOp2 opNe (eOp1 (opKind .str) (eVar 0)) (eOp1 (opKind .str) (eVar 1))))) (sRet (eC (.bl false))) sNext) (sRet (eOp2 opEq (eBor 0) (eBor 1)))))) := by
  have tk : Takes (cxOf (L2.CX P w) P w K mg base N_law_like "_law_like" (defScope st_law_like) (A 21) cdv Ar outer s H Ex) (fun cls d _ H' => Ex cls d H') := takes_of rfl rfl rfl rfl
  have ps : PassesOwn (model P w) (cxOf (L2.CX P w) P w K mg base N_law_like "_law_like" (defScope st_law_like) (A 21) cdv Ar outer s H Ex).A (cxOf (L2.CX P w) P w K mg base N_law_like "_law_like" (defScope st_law_like) (A 21) cdv Ar outer s H Ex).env (cxOf (L2.CX P w) P w K mg base N_law_like "_law_like" (defScope st_law_like) (A 21) cdv Ar outer s H Ex).xe := passes_of rfl
  have hu := hr.units
  have hv := hu_of hr
  have hu5 := Room65 hr
  exact (gss_cons (gs_if (gt_w (gw_or (gt_val (ge_isi .tuple T.b_isinstance T.b_tuple (by decide +kernel) (ge_var 1))) (gw_or1 (gt_val (ge_isi .list T.b_isinstance T.b_list (by decide +kernel) (ge_var 1)))))) (gss_cons (gs_if (gt_cmp (op_neA hu) simNe rfl (gb_of (ge_isi .tuple T.b_isinstance T.b_tuple (by decide +kernel) (ge_var 0))) (gb_of (ge_isi .tuple T.b_isinstance T.b_tuple (by decide +kernel) (ge_var 1)))) (gss_one (gs_ret ge_bl)) gss_nil) (gss_cons (gs_if (gt_w (gw_or (gt_cmp (op_neA hu) simNe rfl (gb_of (ge_isi .list T.b_isinstance T.b_list (by decide +kernel) (ge_var 0))) (gb_of (ge_isi .list T.b_isinstance T.b_list (by decide +kernel) (ge_var 1)))) (gw_or1 (gt_cmp (op_neA hu) simNe rfl (gb_of (ge_fun1 call_lenA simLen T.b_len (gb_var 0))) (gb_of (ge_fun1 call_lenA simLen T.b_len (gb_var 1))))))) (gss_one (gs_ret ge_bl)) gss_nil) (gss_one (gs_ret (ge_cmp (op_eqA hu) simEq rfl (gb_of (ge_frz (by refine gl_lc (own := [("_law_k", 2)]) (gvs := [2]) ?_ ?_ ?_ ?_ (fun s H Ca cl fp => ?_) (fun s H Ca cl fp => ?_) (fun s H Ca cl fp => ?_); (exact rfl); (exact nd_law_like); (exact (gi_range T.b_range (ge_fun1 call_lenA simLen T.b_len (gb_var 1)))); (exact (blkOk_by (N := N_law_like) (sc := defScope st_law_like) (own := [("_law_k", 2)]) (by decide +kernel))); (exact (gg_name 2 nd_law_like)); (exact (gts_one (gt_not (gt_val (ge_call ih_law_like hr takes0 T.g_law_like T.k_law_like (ga_cons (ge_ix (gb_var 0) (gb_var 2)) (ga_cons (ge_ix (gb_var 1) (gb_var 2)) ga_nil))))))); (exact (ge_var 2))))) (gb_of (ge_frz (gl_lst ga_nil)))))))) gss_nil) (gss_cons (gs_if (gt_cmp (op_neA hu) simNe rfl (gb_of (ge_isi .bool T.b_isinstance T.b_bool (by decide +kernel) (ge_var 0))) (gb_of (ge_isi .bool T.b_isinstance T.b_bool (by decide +kernel) (ge_var 1)))) (gss_one (gs_ret ge_bl)) gss_nil) (gss_cons (gs_if (gt_w (gw_or (gt_cmp (op_neA hu) simNe rfl (gb_of (ge_isi .int T.b_isinstance T.b_int (by decide +kernel) (ge_var 0))) (gb_of (ge_isi .int T.b_isinstance T.b_int (by decide +kernel) (ge_var 1)))) (gw_or1 (gt_cmp (op_neA hu) simNe rfl (gb_of (ge_isi .str T.b_isinstance T.b_str (by decide +kernel) (ge_var 0))) (gb_of (ge_isi .str T.b_isinstance T.b_str (by decide +kernel) (ge_var 1))))))) (gss_one (gs_ret ge_bl)) gss_nil) (gss_one (gs_ret (ge_cmp (op_eqA hu) simEq rfl (gb_var 0) (gb_var 1)))))))
theorem r_law_like (T : Tx K w mg base C A) : ∀ n : Nat, Cal P w K mg base C (1 + n) (A 21) (f_law_like n)
  | 0 => (by
      obtain ⟨fd, F⟩ := T.f_law_like
      exact cal_of (fn_calD (ps := ["_law_found", "_law_due"]) (N := N_law_like) F (C8.fnScope_by (by decide +kernel)) (by decide) fun cdv Ar outer s H Ex hr => gss_never) (F.bindsN fun _ _ _ _ _ _ us hl => match us, hl with | [_, _], _ => rfl))
  | n + 1 => by
    have ih := r_law_like T n
    have h21 := ih
    exact (by
      obtain ⟨fd, F⟩ := T.f_law_like
      exact cal_of (fn_calD (ps := ["_law_found", "_law_due"]) (N := N_law_like) F (C8.fnScope_by (by decide +kernel)) (by decide) fun cdv Ar outer s H Ex hr => b_law_like T h21 cdv Ar outer s H Ex hr) (F.bindsN fun _ _ _ _ _ _ us hl => match us, hl with | [_, _], _ => rfl))
theorem c_law_like (T : Tx K w mg base C A) (n : Nat) : Cal P w K mg base C (1 + n) (A 21) (f_law_like n) := (r_law_like T n)
theorem b_law (T : Tx K w mg base C A)  (Ar : Around) (outer : List PySem.Env) (s : Shared) (H : Hp) (Ex : XK) (hr : Room 66 (Ar.deeper (PyProof.Rows.envOfC "law" (defScope st_law) s.heap.objs.size (A 22) (.ref (He.codeOf K ("law", none)))))) :
    GSs (cxOf (L2.CX P w) P w K mg base N_law "law" (defScope st_law) (A 22) (.ref (He.codeOf K ("law", none))) Ar outer s H Ex) C (fun cls d _ H' => Ex cls d H') (defBody st_law) (sSeq (sAsg (eCall f_law_dice (aCons (eVar 0) aNil)) (gNm 1)) (sSeq (sFor (iRng (eC (.int 6))) (gNm 2) (sSeq (sAsg (eFrz (lSplit (eCall f_written (aCons (eCall f_law_text (aCons (eVar 1) (aCons (eTup (aCons (eC (.int 8)) (aCons (eC (.int 4)) (aCons (eTupRg (eC (.int 10))) aNil)))) aNil))) aNil)) (eC (.str [10])))) (gNm 3)) (sSeq (sFor (iRng (eCall f_law_next (aCons (eVar 1) (aCons (eC (.int 4)) aNil)))) (gNm 4) (sAsg (eCall f_law_spoilt (aCons (eVar 1) (aCons (eVar 3) aNil))) (gNm 3))) (sSeq (sIf (tVal (eOp2 opEq (eCall f_law_next (aCons (eVar 1) (aCons (eC (.int 8)) aNil))) (eC (.int 0)))) (sSeq (sAsg (eFrz (lLst (aCons (eC (.str [115, 101, 116, 32, 48, 32, 115, 117, 109, 32, 110, 117, 109, 32, 49, 32, 115, 117, 109, 32, 110, 117, 109, 32, 49, 32, 110, 117, 109, 32, 49])) (aCons (eC (.str [115, 101, 116, 32, 48, 32, 115, 117, 109, 32, 110, 117, 109, 32, 49, 32, 115, 117, 109, 32, 110, 117, 109, 32, 49, 32, 115, 117, 109, 32, 110, 117, 109, 32, 49, 32, 110, 117, 109, 32, 49])) aNil)))) (gNm 5)) (sSeq (sPar 6 5 (aCons (eCall f_law_next (aCons (eVar 1) (aCons (eOp2 opAdd (eOp1 opLen (eBor 3)) (eC (.int 1))) aNil))) (aCons (eFrz (lAdd (eBor 5) (eFrz (lLst (aCons (eC (.str [110, 101, 101, 100, 32, 110, 117, 109, 32, 49])) (aCons (eC (.str [])) aNil)))))) aNil))) (sAsg (eFrz (lAdd (eFrz (lAdd (eFrz (lSl (eBor 3) oNone (oSome (eVar 6)))) (eFrz (lLst (aCons (eOp2 opIx (eBor 5) (eCall f_law_next (aCons (eVar 1) (aCons (eC (.int 4)) aNil)))) aNil))))) (eFrz (lSl (eBor 3) oNone (oSome (eC (.int 2))))))) (gNm 3)))) sNext) (sSeq (sAsg (eFrz (lLc (iSeq (eVar 3)) (gNm 11) tYesM (eCall f_law_row_of (aCons (eVar 11) aNil)) [11])) (gNm 7)) (sSeq (sAsg (eFrz (lLc (iRng (eOp1 opLen (eBor 7))) (gNm 12) (tOr (tVal (eOp1 opIsN (eOp2 opIx (eBor 7) (eBor 12)))) (tVal (eOp2 opEq (eBor 12) (eC (.int 12))))) (eVar 12) [12])) (gNm 8)) (sSeq (sAsg (eIf (tVal (eOp2 opEq (eBor 8) (eFrz (lLst aNil)))) (eOp1 opTuple (eBor 7)) (eTup (aCons (eC (.str [114, 101, 102, 117, 115, 101, 100])) (aCons (eC (.str [116, 101, 120, 116])) (aCons (eOp2 opIx (eBor 8) (eC (.int 0))) aNil))))) (gNm 9)) (sSeq (sAsg (eTold (eCall f_read (aCons (eJoin (eC (.str [10])) (eBor 3)) aNil)) h_law_told 5 1 [1]) (gNm 10)) (sIf (tOr (tNot (tVal (eCall (f_law_like 6) (aCons (eVar 10) (aCons (eVar 9) aNil))))) (tAnd (tVal (eOp2 opEq (eBor 8) (eFrz (lLst aNil)))) (tVal (eOp2 opNe (eCall f_written (aCons (eVar 10) aNil)) (eJoin (eC (.str [10])) (eBor 3)))))) (sRet (eC (.bl false))) sNext))))))))) (sRet (eC (.bl true))))) := by
  have tk : Takes (cxOf (L2.CX P w) P w K mg base N_law "law" (defScope st_law) (A 22) (.ref (He.codeOf K ("law", none))) Ar outer s H Ex) (fun cls d _ H' => Ex cls d H') := takes_of rfl rfl rfl rfl
  have ps : PassesOwn (model P w) (cxOf (L2.CX P w) P w K mg base N_law "law" (defScope st_law) (A 22) (.ref (He.codeOf K ("law", none))) Ar outer s H Ex).A (cxOf (L2.CX P w) P w K mg base N_law "law" (defScope st_law) (A 22) (.ref (He.codeOf K ("law", none))) Ar outer s H Ex).env (cxOf (L2.CX P w) P w K mg base N_law "law" (defScope st_law) (A 22) (.ref (He.codeOf K ("law", none))) Ar outer s H Ex).xe := passes_of rfl
  have hu := hr.units
  have hv := hu_of hr
  have hu5 := Room65 hr
  obtain ⟨fd_law_told, F_law_told⟩ := T.f_law_told
  have bn_law_told := F_law_told.bindsN (ps := ["_law_work"]) fun _ _ _ _ _ _ us hl => match us, hl with | [_], _ => rfl
  obtain ⟨_, _, _, _, _, _, _, cd_law_told, _, _, eq_law_told, lk_law_told, hc_law_told, _, _⟩ := F_law_told.ex
  subst eq_law_told
  exact (gss_cons (gs_set 1 (ge_call (c_law_dice T) (hr.mono (by omega)) tk T.g_law_dice T.k_law_dice (ga_cons (ge_var 0) ga_nil)) nd_law) (gss_cons (gs_for ps rfl (gi_range T.b_range ge_int) (gg_name 2 nd_law) (gss_cons (gs_frz (i := 3) (pn_set 3 (gl_split (ge_call (c_written T) (hr.mono (by omega)) tk T.g_written T.k_written (ga_cons (ge_call (c_law_text T) (hr.mono (by omega)) tk T.g_law_text T.k_law_text (ga_cons (ge_var 1) (ga_cons (ge_tup (ga_cons ge_int (ga_cons ge_int (ga_cons (ge_tupRg rfl T.b_tuple T.b_range ge_int) ga_nil)))) ga_nil))) ga_nil)) (ge_str [10])) nd_law)) (gss_cons (gs_for ps rfl (gi_range T.b_range (ge_call (c_law_next T) (hr.mono (by omega)) tk T.g_law_next T.k_law_next (ga_cons (ge_var 1) (ga_cons ge_int ga_nil)))) (gg_name 4 nd_law) (gss_one (gs_set 3 (ge_call (c_law_spoilt T) (hr.mono (by omega)) tk T.g_law_spoilt T.k_law_spoilt (ga_cons (ge_var 1) (ga_cons (ge_var 3) ga_nil))) nd_law))) (gss_cons (gs_if (gt_cmp (op_eqA hu) simEq rfl (gb_of (ge_call (c_law_next T) (hr.mono (by omega)) tk T.g_law_next T.k_law_next (ga_cons (ge_var 1) (ga_cons ge_int ga_nil)))) (gb_of ge_int)) (gss_cons (gs_frz (i := 5) (pn_set 5 (gl_lst (ga_cons (ge_str [115, 101, 116, 32, 48, 32, 115, 117, 109, 32, 110, 117, 109, 32, 49, 32, 115, 117, 109, 32, 110, 117, 109, 32, 49, 32, 110, 117, 109, 32, 49]) (ga_cons (ge_str [115, 101, 116, 32, 48, 32, 115, 117, 109, 32, 110, 117, 109, 32, 49, 32, 115, 117, 109, 32, 110, 117, 109, 32, 49, 32, 115, 117, 109, 32, 110, 117, 109, 32, 49, 32, 110, 117, 109, 32, 49]) ga_nil))) nd_law)) (gss_cons (gs_par 6 5 rfl nd_law (ga_cons (ge_call (c_law_next T) (hr.mono (by omega)) tk T.g_law_next T.k_law_next (ga_cons (ge_var 1) (ga_cons (ge_bin op_addA simAdd (gb_of (ge_fun1 call_lenA simLen T.b_len (gb_var 3))) (gb_of ge_int)) ga_nil))) (ga_cons (ge_frz (gl_add (gb_var 5) (gb_of (ge_frz (gl_lst (ga_cons (ge_str [110, 101, 101, 100, 32, 110, 117, 109, 32, 49]) (ga_cons (ge_str []) ga_nil))))))) ga_nil))) (gss_one (gs_frz (i := 3) (pn_set 3 (gl_add (gb_of (ge_frz (gl_add (gb_of (ge_frz (gl_sl (gb_var 3) go_none (go_some (ge_var 6))))) (gb_of (ge_frz (gl_lst (ga_cons (ge_ix (gb_var 5) (gb_of (ge_call (c_law_next T) (hr.mono (by omega)) tk T.g_law_next T.k_law_next (ga_cons (ge_var 1) (ga_cons ge_int ga_nil))))) ga_nil))))))) (gb_of (ge_frz (gl_sl (gb_var 3) go_none (go_some ge_int))))) nd_law))))) gss_nil) (gss_cons (gs_frz (i := 7) (pn_set 7 (by refine gl_lc (own := [("_law_line", 11)]) (gvs := [11]) ?_ ?_ ?_ ?_ (fun s H Ca cl fp => ?_) (fun s H Ca cl fp => ?_) (fun s H Ca cl fp => ?_); (exact rfl); (exact nd_law); (exact (gi_seq (ge_var 3))); (exact (blkOk_by (N := N_law) (sc := defScope st_law) (own := [("_law_line", 11)]) (by decide +kernel))); (exact (gg_name 11 nd_law)); (exact gts_nil); (exact (ge_call (c_law_row_of T) (hr.mono (by omega)) takes0 T.g_law_row_of T.k_law_row_of (ga_cons (ge_var 11) ga_nil)))) nd_law)) (gss_cons (gs_frz (i := 8) (by refine pn_lc (own := [("_law_k", 12)]) (gvs := [12]) ?_ ?_ ?_ ?_ (fun s H Ca cl fp => ?_) (fun s H Ca cl fp => ?_) (fun s H Ca cl fp => ?_); (exact rfl); (exact nd_law); (exact (gi_range T.b_range (ge_fun1 call_lenA simLen T.b_len (gb_var 7)))); (exact (blkOk_by (N := N_law) (sc := defScope st_law) (own := [("_law_k", 12)]) (by decide +kernel))); (exact (gg_name 12 nd_law)); (exact (gts_one (gt_w (gw_or (gt_isN (ge_ix (gb_var 7) (gb_var 12))) (gw_or1 (gt_cmp (op_eqA hu) simEq rfl (gb_var 12) (gb_of ge_int))))))); (exact (ge_var 12)))) (gss_cons (gs_set 9 (ge_if (gt_cmp (op_eqA hu) simEq rfl (gb_var 8) (gb_of (ge_frz (gl_lst ga_nil)))) (ge_ty1 call_tuple_of simTuple T.b_tuple (gb_var 7)) (ge_tup (ga_cons (ge_str [114, 101, 102, 117, 115, 101, 100]) (ga_cons (ge_str [116, 101, 120, 116]) (ga_cons (ge_ix (gb_var 8) (gb_of ge_int)) ga_nil))))) nd_law) (gss_cons (gs_set 10 (ge_told (k := 64) (bg := defBody st_law_told) (sg := defScope st_law_told) (Ng := N_law_told) (mh := h_law_told) (a := "_law_work") (CS := C 0) (j := 1) [1] (told_gives (e := "MillError") (n := "e") rfl T.gc_MillError (by decide) nd_law_told rfl rfl (fun s H a oe cls d pn hz hf => s_law_told T _ _ _ s H a oe cls d pn hz hf ((hr.mono (Nat.le_add_left 1 _)).deeper _))) T.g_law_told T.k_law_told lk_law_told hc_law_told bn_law_told (C8.fnScope_by (by decide +kernel)) rfl (Or.inl rfl) T.tb_law rfl T.ct_law T.cu_law (hr.mono (by omega)) (LamX.lamS_by (sc := defScope st_law) (by decide +kernel)) T.em_law_told (fun Al ol sl Hl El fl cl hr => by have hu := hr.units; have hv := hu_of hr; have hu5 := Room65 hr; exact (ge_call (c_read T) (hr.mono (by omega)) (takes_of rfl rfl rfl rfl) T.g_read T.k_read (ga_cons (ge_join (ge_str [10]) (gb_var 3)) ga_nil)))) nd_law) (gss_one (gs_if (gt_w (gw_or (gt_not (gt_val (ge_call (c_law_like T 6) (hr.mono (by omega)) tk T.g_law_like T.k_law_like (ga_cons (ge_var 10) (ga_cons (ge_var 9) ga_nil))))) (gw_or1 (gt_w (gw_and (gt_cmp (op_eqA hu) simEq rfl (gb_var 8) (gb_of (ge_frz (gl_lst ga_nil)))) (gw_and1 (gt_cmp (op_neA hu) simNe rfl (gb_of (ge_call (c_written T) (hr.mono (by omega)) tk T.g_written T.k_written (ga_cons (ge_var 10) ga_nil))) (gb_of (ge_join (ge_str [10]) (gb_var 3)))))))))) (gss_one (gs_ret ge_bl)) gss_nil)))))))))) (gss_one (gs_ret ge_bl))))
theorem c_law (T : Tx K w mg base C A) : Cal P w K mg base C 67 (A 22) f_law := by
  obtain ⟨fd, F⟩ := T.f_law
  exact cal_of (fn_calC (ps := ["_law_script"]) (N := N_law) F T.aa_law (C8.fnScope_by (by decide +kernel)) (by decide) fun Ar outer s H Ex hr => b_law T Ar outer s H Ex hr) (F.bindsN fun _ _ _ _ _ _ us hl => match us, hl with | [_], _ => rfl)
end
end K24

/-! Facts of the law, printed by gen2.py. Own text. -/
namespace K24
open PySem L2 TL MP
def dd_law_dice : He.DefD := ⟨("_law_dice", none), "_law_dice", "_law_dice", defArgs st_law_dice, defBody st_law_dice, defScope st_law_dice, [], []⟩
def dd_words_of : He.DefD := ⟨("words_of", none), "words_of", "words_of", defArgs st_words_of, defBody st_words_of, defScope st_words_of, [], []⟩
def dd_written : He.DefD := ⟨("written", none), "written", "written", defArgs st_written, defBody st_written, defScope st_written, [], []⟩
def dd_law_next : He.DefD := ⟨("_law_next", none), "_law_next", "_law_next", defArgs st_law_next, defBody st_law_next, defScope st_law_next, [], []⟩
def dd_law_part : He.DefD := ⟨("_law_part", none), "_law_part", "_law_part", defArgs st_law_part, defBody st_law_part, defScope st_law_part, [], []⟩
def dd_law_row : He.DefD := ⟨("_law_row", none), "_law_row", "_law_row", defArgs st_law_row, defBody st_law_row, defScope st_law_row, [], []⟩
def dd_law_text : He.DefD := ⟨("_law_text", none), "_law_text", "_law_text", defArgs st_law_text, defBody st_law_text, defScope st_law_text, [], []⟩
def dd_law_spoilt : He.DefD := ⟨("_law_spoilt", none), "_law_spoilt", "_law_spoilt", defArgs st_law_spoilt, defBody st_law_spoilt, defScope st_law_spoilt, [], []⟩
def dd_law_taken : He.DefD := ⟨("_law_taken", none), "_law_taken", "_law_taken", defArgs st_law_taken, defBody st_law_taken, defScope st_law_taken, [], []⟩
def dd_law_deep : He.DefD := ⟨("_law_deep", none), "_law_deep", "_law_deep", defArgs st_law_deep, defBody st_law_deep, defScope st_law_deep, [], []⟩
def dd_law_row_of : He.DefD := ⟨("_law_row_of", none), "_law_row_of", "_law_row_of", defArgs st_law_row_of, defBody st_law_row_of, defScope st_law_row_of, [], []⟩
def dd_Rules___init__ : He.DefD := ⟨("Rules", some "__init__"), "__init__", "Rules.__init__", defArgs st_Rules___init__, defBody st_Rules___init__, defScope st_Rules___init__, [], [("deeds", .int 8), ("things", .int 4), ("rows", .int 12)]⟩
def dd_number_of : He.DefD := ⟨("number_of", none), "number_of", "number_of", defArgs st_number_of, defBody st_number_of, defScope st_number_of, [], []⟩
def dd_taken : He.DefD := ⟨("taken", none), "taken", "taken", defArgs st_taken, defBody st_taken, defScope st_taken, [], []⟩
def dd_row_of : He.DefD := ⟨("row_of", none), "row_of", "row_of", defArgs st_row_of, defBody st_row_of, defScope st_row_of, [], []⟩
def dd_Rules_is_number : He.DefD := ⟨("Rules", some "is_number"), "is_number", "Rules.is_number", defArgs st_Rules_is_number, defBody st_Rules_is_number, defScope st_Rules_is_number, [], []⟩
def dd_Rules_are_good : He.DefD := ⟨("Rules", some "are_good"), "are_good", "Rules.are_good", defArgs st_Rules_are_good, defBody st_Rules_are_good, defScope st_Rules_are_good, [], []⟩
def dd_Rules_is_part : He.DefD := ⟨("Rules", some "is_part"), "is_part", "Rules.is_part", defArgs st_Rules_is_part, defBody st_Rules_is_part, defScope st_Rules_is_part, [], []⟩
def dd_Rules_is_row : He.DefD := ⟨("Rules", some "is_row"), "is_row", "Rules.is_row", defArgs st_Rules_is_row, defBody st_Rules_is_row, defScope st_Rules_is_row, [], []⟩
def dd_BadText___init__ : He.DefD := ⟨("BadText", some "__init__"), "__init__", "BadText.__init__", defArgs st_BadText___init__, defBody st_BadText___init__, defScope st_BadText___init__, [], []⟩
def dd_read : He.DefD := ⟨("read", none), "read", "read", defArgs st_read, defBody st_read, defScope st_read, [], []⟩
def dd_law_like : He.DefD := ⟨("_law_like", none), "_law_like", "_law_like", defArgs st_law_like, defBody st_law_like, defScope st_law_like, [], []⟩
def dd_law : He.DefD := ⟨("law", none), "law", "law", defArgs st_law, defBody st_law, defScope st_law, [], []⟩
def dd_law_told : He.DefD := ⟨("_law_told", none), "_law_told", "_law_told", defArgs st_law_told, defBody st_law_told, defScope st_law_told, [], []⟩
def fn : List He.DefD := ([dd_law_dice, dd_words_of, dd_written, dd_law_next, dd_law_part, dd_law_row, dd_law_text, dd_law_spoilt, dd_law_taken, dd_law_deep, dd_law_row_of, dd_Rules___init__, dd_number_of, dd_taken, dd_row_of, dd_Rules_is_number, dd_Rules_are_good, dd_Rules_is_part, dd_Rules_is_row, dd_BadText___init__] : List (He.DefD)) ++ ([dd_read, dd_law_like, dd_law, dd_law_told] : List (He.DefD))
def fa : List He.Fa := ([He.Fa.glo "_law_dice", He.Fa.keep "_law_dice", He.Fa.glo "words_of", He.Fa.keep "words_of", He.Fa.glo "written", He.Fa.keep "written", He.Fa.glo "_law_next", He.Fa.keep "_law_next", He.Fa.glo "_law_part", He.Fa.keep "_law_part", He.Fa.glo "_law_row", He.Fa.keep "_law_row", He.Fa.glo "_law_text", He.Fa.keep "_law_text", He.Fa.glo "_law_spoilt", He.Fa.keep "_law_spoilt", He.Fa.glo "_law_taken", He.Fa.keep "_law_taken", He.Fa.glo "_law_deep", He.Fa.keep "_law_deep"] : List (He.Fa)) ++ ([He.Fa.glo "_law_row_of", He.Fa.keep "_law_row_of", He.Fa.glo "number_of", He.Fa.keep "number_of", He.Fa.glo "taken", He.Fa.keep "taken", He.Fa.glo "row_of", He.Fa.keep "row_of", He.Fa.meth "Rules" "is_number", He.Fa.meth "Rules" "are_good", He.Fa.meth "Rules" "is_part", He.Fa.meth "Rules" "is_row", He.Fa.glo "read", He.Fa.keep "read", He.Fa.glo "_law_like", He.Fa.keep "_law_like", He.Fa.glo "law", He.Fa.keep "law", He.Fa.glo "_law_told", He.Fa.keep "_law_told"] : List (He.Fa)) ++ ([He.Fa.glo "MillError", He.Fa.glo "BadText", He.Fa.glo "NoHand", He.Fa.glo "NoRoom", He.Fa.glo "BadTexts", He.Fa.glo "BadMill", He.Fa.glo "BadNumber", He.Fa.glo "NoDeed", He.Fa.glo "Within", He.Fa.glo "BadChange", He.Fa.glo "Full", He.Fa.glo "Underway", He.Fa.glo "NoCell", He.Fa.glo "NoChange", He.Fa.glo "Unmet", He.Fa.glo "BadBook", He.Fa.glo "Rules", He.Fa.cls "Rules", He.Fa.mkr "Rules", He.Fa.noat "Rules" "words"] : List (He.Fa)) ++ ([He.Fa.noat "Rules" "marks", He.Fa.noat "Rules" "limits", He.Fa.free "isinstance", He.Fa.free "ValueError", He.Fa.free "int", He.Fa.free "len", He.Fa.free "tuple", He.Fa.free "str", He.Fa.free "range", He.Fa.free "max", He.Fa.free "zip", He.Fa.free "enumerate", He.Fa.free "list", He.Fa.free "bool", He.Fa.glo "PARTS", He.Fa.glo "ROWS"] : List (He.Fa))
def ts : List He.Tab := ([(fun K => He.ga K "PARTS", ["num", "name", "field", "side", "sum", "less"]), (fun K => He.ga K "ROWS", ["set", "put", "side", "call", "go", "unless", "wait", "answer", "need"])] : List (He.Tab))
def tf : List He.Defn := ([("law", none)] : List (He.Defn))
def tn : List Str := [Str.ofString "law.<locals>.<lambda>"]
def cls : List Str := (["MillError", "BadText", "NoHand", "NoRoom", "BadTexts", "BadMill", "BadNumber", "NoDeed", "Within", "BadChange", "Full", "Underway", "NoCell", "NoChange", "Unmet", "BadBook", "Rules"] : List (Str))
def ats : List (Str × Option Str) := ([("_law_dice", none), ("words_of", none), ("written", none), ("_law_next", none), ("_law_part", none), ("_law_row", none), ("_law_text", none), ("_law_spoilt", none), ("_law_taken", none), ("_law_deep", none), ("_law_row_of", none), ("Rules", some "__init__"), ("number_of", none), ("taken", none), ("row_of", none), ("Rules", some "is_number"), ("Rules", some "are_good"), ("Rules", some "is_part"), ("Rules", some "is_row"), ("BadText", some "__init__")] : List (Str × Option Str)) ++ ([("read", none), ("_law_like", none), ("law", none), ("_law_told", none)] : List (Str × Option Str))
def Cn (K : PySem.W.Frag) : MP.Tab := ⟨fun n => He.ga K (cls.getD n ""), fun _ => none, List.zipWith (fun p y => ((He.cT K p).2, y)) tf tn⟩
def An (K : PySem.W.Frag) (n : Nat) : Addr := He.fAd K (ats.getD n ("", none))
def exs : List (PySem.W.Frag → Bool) := ([fun K => baseB K (He.ga K "MillError"), fun K => exoB K (He.ga K "BadText") ["row"], fun K => initB K (He.ga K "BadText") (He.ma K (He.ga K "BadText") "__init__"), fun K => isXB K (Cn K) [(1, false)] (.ref (He.ga K "NoHand")), fun K => isXB K (Cn K) [(1, false)] (.ref (He.ga K "NoRoom")), fun K => isXB K (Cn K) [(1, false)] (.ref (He.ga K "BadTexts")), fun K => isXB K (Cn K) [(1, false)] (.ref (He.ga K "BadMill")), fun K => isXB K (Cn K) [(1, false)] (.ref (He.ga K "BadNumber")), fun K => isXB K (Cn K) [(1, false)] (.ref (He.ga K "NoDeed")), fun K => isXB K (Cn K) [(1, false)] (.ref (He.ga K "Within")), fun K => isXB K (Cn K) [(1, false)] (.ref (He.ga K "BadChange")), fun K => isXB K (Cn K) [(1, false)] (.ref (He.ga K "Full")), fun K => isXB K (Cn K) [(1, false)] (.ref (He.ga K "Underway")), fun K => isXB K (Cn K) [(1, false)] (.ref (He.ga K "NoCell")), fun K => isXB K (Cn K) [(1, false)] (.ref (He.ga K "NoChange")), fun K => isXB K (Cn K) [(1, false)] (.ref (He.ga K "Unmet")), fun K => isXB K (Cn K) [(1, true)] (.ref (He.ga K "BadText")), fun K => isXB K (Cn K) [(1, false)] (.ref (He.ga K "BadBook")), fun K => isXB K (Cn K) [(1, true)] (.type "ValueError"), fun K => xfsB K (Cn K) [] "word"] : List (PySem.W.Frag → Bool)) ++ ([fun K => xfsB K (Cn K) [1] "row", fun K => xfsB K (Cn K) [] "deed", fun K => xfsB K (Cn K) [] "event", fun K => exmsB K (Cn K) [1] (He.ga K "MillError"), fun K => glB K "MARKS" d_MARKS, fun K => glB K "FIELDS" d_FIELDS, fun K => glB K "NAMES" d_NAMES, fun K => glB K "BEYOND" d_BEYOND, fun K => glB K "FIGURES" d_FIGURES, fun K => kdB K "PARTS" t_PARTS, fun K => glB K "ALL_WORDS" d_ALL_WORDS, fun K => kdB K "ROWS" t_ROWS, fun K => glB K "MOST_DEEP" d_MOST_DEEP, fun K => glB K "MOST_ROWS" d_MOST_ROWS] : List (PySem.W.Frag → Bool))
abbrev hk : PySem.W.Hook := hookY 5 fa fn ts tf (fun K => exs.all fun f => f K)
theorem tx {w : World} {K : PySem.W.Frag} {h : Heap} {mg : Str → Option Value} (KX : K.In h) (G : h.Ns mainGlobals mg) (c : He.SaysX fa fn ts tf (fun K => exs.all fun f => f K) w h K) {base : Heap} (tb : ∀ p ∈ tf, LamX.TabB base mg (He.cT K p).1 (He.cT K p).2) : Tx K w mg base (Cn K) (An K) := {
  g_law_dice := He.glo_ok KX G (c.t.d.fact 0 (f := He.Fa.glo "_law_dice") rfl),
  k_law_dice := He.keep_ok (c.t.d.fact 1 (f := He.Fa.keep "_law_dice") rfl),
  f_law_dice := c.t.d.def_ 0 (d := dd_law_dice) rfl,
  g_words_of := He.glo_ok KX G (c.t.d.fact 2 (f := He.Fa.glo "words_of") rfl),
  k_words_of := He.keep_ok (c.t.d.fact 3 (f := He.Fa.keep "words_of") rfl),
  f_words_of := c.t.d.def_ 1 (d := dd_words_of) rfl,
  g_written := He.glo_ok KX G (c.t.d.fact 4 (f := He.Fa.glo "written") rfl),
  k_written := He.keep_ok (c.t.d.fact 5 (f := He.Fa.keep "written") rfl),
  f_written := c.t.d.def_ 2 (d := dd_written) rfl,
  g_law_next := He.glo_ok KX G (c.t.d.fact 6 (f := He.Fa.glo "_law_next") rfl),
  k_law_next := He.keep_ok (c.t.d.fact 7 (f := He.Fa.keep "_law_next") rfl),
  f_law_next := c.t.d.def_ 3 (d := dd_law_next) rfl,
  g_law_part := He.glo_ok KX G (c.t.d.fact 8 (f := He.Fa.glo "_law_part") rfl),
  k_law_part := He.keep_ok (c.t.d.fact 9 (f := He.Fa.keep "_law_part") rfl),
  f_law_part := c.t.d.def_ 4 (d := dd_law_part) rfl,
  g_law_row := He.glo_ok KX G (c.t.d.fact 10 (f := He.Fa.glo "_law_row") rfl),
  k_law_row := He.keep_ok (c.t.d.fact 11 (f := He.Fa.keep "_law_row") rfl),
  f_law_row := c.t.d.def_ 5 (d := dd_law_row) rfl,
  g_law_text := He.glo_ok KX G (c.t.d.fact 12 (f := He.Fa.glo "_law_text") rfl),
  k_law_text := He.keep_ok (c.t.d.fact 13 (f := He.Fa.keep "_law_text") rfl),
  f_law_text := c.t.d.def_ 6 (d := dd_law_text) rfl,
  g_law_spoilt := He.glo_ok KX G (c.t.d.fact 14 (f := He.Fa.glo "_law_spoilt") rfl),
  k_law_spoilt := He.keep_ok (c.t.d.fact 15 (f := He.Fa.keep "_law_spoilt") rfl),
  f_law_spoilt := c.t.d.def_ 7 (d := dd_law_spoilt) rfl,
  g_law_taken := He.glo_ok KX G (c.t.d.fact 16 (f := He.Fa.glo "_law_taken") rfl),
  k_law_taken := He.keep_ok (c.t.d.fact 17 (f := He.Fa.keep "_law_taken") rfl),
  f_law_taken := c.t.d.def_ 8 (d := dd_law_taken) rfl,
  g_law_deep := He.glo_ok KX G (c.t.d.fact 18 (f := He.Fa.glo "_law_deep") rfl),
  k_law_deep := He.keep_ok (c.t.d.fact 19 (f := He.Fa.keep "_law_deep") rfl),
  f_law_deep := c.t.d.def_ 9 (d := dd_law_deep) rfl,
  g_law_row_of := He.glo_ok KX G (c.t.d.fact 20 (f := He.Fa.glo "_law_row_of") rfl),
  k_law_row_of := He.keep_ok (c.t.d.fact 21 (f := He.Fa.keep "_law_row_of") rfl),
  f_law_row_of := c.t.d.def_ 10 (d := dd_law_row_of) rfl,
  f_Rules___init__ := c.t.d.def_ 11 (d := dd_Rules___init__) rfl,
  g_number_of := He.glo_ok KX G (c.t.d.fact 22 (f := He.Fa.glo "number_of") rfl),
  k_number_of := He.keep_ok (c.t.d.fact 23 (f := He.Fa.keep "number_of") rfl),
  f_number_of := c.t.d.def_ 12 (d := dd_number_of) rfl,
  g_taken := He.glo_ok KX G (c.t.d.fact 24 (f := He.Fa.glo "taken") rfl),
  k_taken := He.keep_ok (c.t.d.fact 25 (f := He.Fa.keep "taken") rfl),
  f_taken := c.t.d.def_ 13 (d := dd_taken) rfl,
  g_row_of := He.glo_ok KX G (c.t.d.fact 26 (f := He.Fa.glo "row_of") rfl),
  k_row_of := He.keep_ok (c.t.d.fact 27 (f := He.Fa.keep "row_of") rfl),
  f_row_of := c.t.d.def_ 14 (d := dd_row_of) rfl,
  me_Rules_is_number := He.meth_ok (c.t.d.fact 28 (f := He.Fa.meth "Rules" "is_number") rfl),
  f_Rules_is_number := c.t.d.def_ 15 (d := dd_Rules_is_number) rfl,
  me_Rules_are_good := He.meth_ok (c.t.d.fact 29 (f := He.Fa.meth "Rules" "are_good") rfl),
  f_Rules_are_good := c.t.d.def_ 16 (d := dd_Rules_are_good) rfl,
  me_Rules_is_part := He.meth_ok (c.t.d.fact 30 (f := He.Fa.meth "Rules" "is_part") rfl),
  f_Rules_is_part := c.t.d.def_ 17 (d := dd_Rules_is_part) rfl,
  me_Rules_is_row := He.meth_ok (c.t.d.fact 31 (f := He.Fa.meth "Rules" "is_row") rfl),
  f_Rules_is_row := c.t.d.def_ 18 (d := dd_Rules_is_row) rfl,
  f_BadText___init__ := c.t.d.def_ 19 (d := dd_BadText___init__) rfl,
  g_read := He.glo_ok KX G (c.t.d.fact 32 (f := He.Fa.glo "read") rfl),
  k_read := He.keep_ok (c.t.d.fact 33 (f := He.Fa.keep "read") rfl),
  f_read := c.t.d.def_ 20 (d := dd_read) rfl,
  g_law_like := He.glo_ok KX G (c.t.d.fact 34 (f := He.Fa.glo "_law_like") rfl),
  k_law_like := He.keep_ok (c.t.d.fact 35 (f := He.Fa.keep "_law_like") rfl),
  f_law_like := c.t.d.def_ 21 (d := dd_law_like) rfl,
  g_law := He.glo_ok KX G (c.t.d.fact 36 (f := He.Fa.glo "law") rfl),
  k_law := He.keep_ok (c.t.d.fact 37 (f := He.Fa.keep "law") rfl),
  f_law := c.t.d.def_ 22 (d := dd_law) rfl,
  aa_law := rfl,
  tb_law := tb ("law", none) (by simp [tf]),
  ct_law := by simp [Cn, tf, tn, He.cT],
  cu_law := by simp [Cn, tf, tn, He.cT],
  g_law_told := He.glo_ok KX G (c.t.d.fact 38 (f := He.Fa.glo "_law_told") rfl),
  k_law_told := He.keep_ok (c.t.d.fact 39 (f := He.Fa.keep "_law_told") rfl),
  f_law_told := c.t.d.def_ 23 (d := dd_law_told) rfl,
  gc_MillError := He.glo_ok KX G (c.t.d.fact 40 (f := He.Fa.glo "MillError") rfl),
  gc_BadText := He.glo_ok KX G (c.t.d.fact 41 (f := He.Fa.glo "BadText") rfl),
  gc_NoHand := He.glo_ok KX G (c.t.d.fact 42 (f := He.Fa.glo "NoHand") rfl),
  gc_NoRoom := He.glo_ok KX G (c.t.d.fact 43 (f := He.Fa.glo "NoRoom") rfl),
  gc_BadTexts := He.glo_ok KX G (c.t.d.fact 44 (f := He.Fa.glo "BadTexts") rfl),
  gc_BadMill := He.glo_ok KX G (c.t.d.fact 45 (f := He.Fa.glo "BadMill") rfl),
  gc_BadNumber := He.glo_ok KX G (c.t.d.fact 46 (f := He.Fa.glo "BadNumber") rfl),
  gc_NoDeed := He.glo_ok KX G (c.t.d.fact 47 (f := He.Fa.glo "NoDeed") rfl),
  gc_Within := He.glo_ok KX G (c.t.d.fact 48 (f := He.Fa.glo "Within") rfl),
  gc_BadChange := He.glo_ok KX G (c.t.d.fact 49 (f := He.Fa.glo "BadChange") rfl),
  gc_Full := He.glo_ok KX G (c.t.d.fact 50 (f := He.Fa.glo "Full") rfl),
  gc_Underway := He.glo_ok KX G (c.t.d.fact 51 (f := He.Fa.glo "Underway") rfl),
  gc_NoCell := He.glo_ok KX G (c.t.d.fact 52 (f := He.Fa.glo "NoCell") rfl),
  gc_NoChange := He.glo_ok KX G (c.t.d.fact 53 (f := He.Fa.glo "NoChange") rfl),
  gc_Unmet := He.glo_ok KX G (c.t.d.fact 54 (f := He.Fa.glo "Unmet") rfl),
  gc_BadBook := He.glo_ok KX G (c.t.d.fact 55 (f := He.Fa.glo "BadBook") rfl),
  gc_Rules := He.glo_ok KX G (c.t.d.fact 56 (f := He.Fa.glo "Rules") rfl),
  cl_Rules := He.cls_ok (c.t.d.fact 57 (f := He.Fa.cls "Rules") rfl),
  mk_Rules := He.mkr_ok (c.t.d.fact 58 (f := He.Fa.mkr "Rules") rfl),
  ba_MillError := baseB_ok (ex_at c.more 0),
  xo_BadText := exoB_ok (ex_at c.more 1),
  ii_BadText := initB_ok (ex_at c.more 2),
  is_NoHand := isXB_ok (ex_at c.more 3),
  is_NoRoom := isXB_ok (ex_at c.more 4),
  is_BadTexts := isXB_ok (ex_at c.more 5),
  is_BadMill := isXB_ok (ex_at c.more 6),
  is_BadNumber := isXB_ok (ex_at c.more 7),
  is_NoDeed := isXB_ok (ex_at c.more 8),
  is_Within := isXB_ok (ex_at c.more 9),
  is_BadChange := isXB_ok (ex_at c.more 10),
  is_Full := isXB_ok (ex_at c.more 11),
  is_Underway := isXB_ok (ex_at c.more 12),
  is_NoCell := isXB_ok (ex_at c.more 13),
  is_NoChange := isXB_ok (ex_at c.more 14),
  is_Unmet := isXB_ok (ex_at c.more 15),
  is_BadText := isXB_ok (ex_at c.more 16),
  is_BadBook := isXB_ok (ex_at c.more 17),
  is_ValueError := isXB_ok (ex_at c.more 18),
  xf_word := xfsB_ok (ex_at c.more 19),
  xf_row := xfsB_ok (ex_at c.more 20),
  xf_deed := xfsB_ok (ex_at c.more 21),
  xf_event := xfsB_ok (ex_at c.more 22),
  em_law_told := exmsB_ok (ex_at c.more 23),
  na_Rules_words := He.noat_ok (c.t.d.fact 59 (f := He.Fa.noat "Rules" "words") rfl),
  na_Rules_marks := He.noat_ok (c.t.d.fact 60 (f := He.Fa.noat "Rules" "marks") rfl),
  na_Rules_limits := He.noat_ok (c.t.d.fact 61 (f := He.Fa.noat "Rules" "limits") rfl),
  b_isinstance := He.free_ok KX G (c.t.d.fact 62 (f := He.Fa.free "isinstance") rfl),
  b_ValueError := He.free_ok KX G (c.t.d.fact 63 (f := He.Fa.free "ValueError") rfl),
  b_int := He.free_ok KX G (c.t.d.fact 64 (f := He.Fa.free "int") rfl),
  b_len := He.free_ok KX G (c.t.d.fact 65 (f := He.Fa.free "len") rfl),
  b_tuple := He.free_ok KX G (c.t.d.fact 66 (f := He.Fa.free "tuple") rfl),
  b_str := He.free_ok KX G (c.t.d.fact 67 (f := He.Fa.free "str") rfl),
  b_range := He.free_ok KX G (c.t.d.fact 68 (f := He.Fa.free "range") rfl),
  b_max := He.free_ok KX G (c.t.d.fact 69 (f := He.Fa.free "max") rfl),
  b_zip := He.free_ok KX G (c.t.d.fact 70 (f := He.Fa.free "zip") rfl),
  b_enumerate := He.free_ok KX G (c.t.d.fact 71 (f := He.Fa.free "enumerate") rfl),
  b_list := He.free_ok KX G (c.t.d.fact 72 (f := He.Fa.free "list") rfl),
  b_bool := He.free_ok KX G (c.t.d.fact 73 (f := He.Fa.free "bool") rfl),
  q_MARKS := glB_ok KX G (ex_at c.more 24),
  q_FIELDS := glB_ok KX G (ex_at c.more 25),
  q_NAMES := glB_ok KX G (ex_at c.more 26),
  q_BEYOND := glB_ok KX G (ex_at c.more 27),
  q_FIGURES := glB_ok KX G (ex_at c.more 28),
  q_PARTS := kdB_ok KX G (c.t.d.fact 74 (f := He.Fa.glo "PARTS") rfl) (c.t.tab 0 (t := (fun K => He.ga K "PARTS", ["num", "name", "field", "side", "sum", "less"])) rfl) (ex_at c.more 29),
  q_ALL_WORDS := glB_ok KX G (ex_at c.more 30),
  q_ROWS := kdB_ok KX G (c.t.d.fact 75 (f := He.Fa.glo "ROWS") rfl) (c.t.tab 1 (t := (fun K => He.ga K "ROWS", ["set", "put", "side", "call", "go", "unless", "wait", "answer", "need"])) rfl) (ex_at c.more 31),
  q_MOST_DEEP := glB_ok KX G (ex_at c.more 32),
  q_MOST_ROWS := glB_ok KX G (ex_at c.more 33) }
theorem law_at {w : World} {h : Heap} {mg : Str → Option Value} {fa0 : Addr} (Y : hk.says w h) (G : h.Ns mainGlobals mg) (hmg : mg "law" = some (.ref fa0)) : ∃ K : PySem.W.Frag, K.In h ∧ LamX.LawAtS PySem.Challenge.rw_changemill_k24_texts_that_write_none w K (L2.CX (PySem.Challenge.rw_changemill_k24_texts_that_write_none).prog w) 67 63 "_law_script" mg fa0 h := by
  obtain ⟨K, KX, c⟩ := Y
  have e := hmg.symm.trans (He.glo_ok KX G (x := "law") (c.t.d.fact 36 (f := He.Fa.glo "law") rfl))
  cases e
  obtain ⟨fd, F⟩ := c.t.d.def_ 22 (d := dd_law) rfl
  have b := FunD.bindsA (ps := ["_law_script"]) F fun _ _ _ _ _ _ us hl => match us, hl with | [_], _ => rfl
  refine ⟨K, KX, lawAt (T := (Cn K).t) KX c tn rfl rfl (fun s v => b s [v] rfl) fun base b1 b2 b3 => ?_⟩
  have T : Tx K w mg base (Cn K) (An K) := tx KX G c b3
  exact ((fn_calC (P := (PySem.Challenge.rw_changemill_k24_texts_that_write_none).prog) (w := w) (mg := mg) (base := base) (C := Cn K) (ps := ["_law_script"]) (N := N_law) F T.aa_law (C8.fnScope_by (by decide +kernel)) (by decide) fun Ar outer s H Ex hr => b_law T Ar outer s H Ex hr)).imp (law_spT plain)
end K24

open PySem PySem.Calls PySem.W PyProof.Rows
set_option maxRecDepth 100001 in
set_option maxHeartbeats 0 in
theorem PySem.Challenge.cw_changemill_k24_texts_that_write_none_holds : PySem.Challenge.rw_changemill_k24_texts_that_write_none.Holds := by
  w_on; o_law; o_head K24.hk; (case hw => w_witness2)
  refine LamX.walk_ofTsE (l := PySem.Challenge.rw_changemill_k24_texts_that_write_none) (n := 63) (k := 67) (x := "_law_script") (CX := fun w => L2.CX (PySem.Challenge.rw_changemill_k24_texts_that_write_none).prog w) rfl (by decide) rfl ⟨rfl, by decide, by decide⟩ (fun w mg fa h Y G hmg => ?_) (fun _ _ _ _ _ h => MP.cx_none h)
  exact K24.law_at Y G hmg
#print axioms PySem.Challenge.cw_changemill_k24_texts_that_write_none_holds

