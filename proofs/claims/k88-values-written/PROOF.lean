import PyProof.Rows.All
import Wide.All
import OpenK.AllK
import Wide.FinOn
import HandS.ForMost
import HandS.IsInst
import HandS.Lambda
import HandS.Evl
import HandS.RaiseMore
import HandS.Rev
import HandS.Exc
import HandS.ExcOwn
import HandS.Words
import KE.GoesMore
import KE.GoesEnum
import PyProof.Draws
import PyProof.EnumMake
import PyProof.ReprRoads
import HandS.Nested
import HandS.ExcInit
import HandS.HeadWalk
import KE.KExcSuper
import HandS.Dict
import HandS.ExcField
import HandS.ExcIs
import KE.KExcIs
import PyProof.StrLawsIn
import HandS.HeadHook4
import HandS.Head2
import HandS.HeadEnd
import HandS.EndTab
import HandS.HeadNt
import PySem.Challenge.RW_orderbook_k88_values_written

section
set_option Elab.async false
set_option linter.all false
/-! Ev1: a small core language with values, and its evaluator. No Python here. -/
namespace Ev
open PySem

/-- values that may be shared: they never change -/
inductive P where
  | non | bl (b : Bool) | int (i : Int) | str (s : Str) | tup (xs : List P) | fl (xs : List P)
  | fd (kvs : List (P × P)) | ins (c : Str) (fs : List (Str × P)) | exc (c : Str) (fs : List (Str × P)) | fn (f : Str)
instance : Inhabited P := ⟨.non⟩
/-- what draws are taken from -/
structure DSt where
  great : List Int
  cells : List Int
  rest : Int
  turn : Int
/-- what a slot may hold: a shared value, or an object of its own -/
inductive D where
  | p (x : P) | pl (xs : List P) | pd (kvs : List (P × P)) | st (s : DSt) | pll (xss : List (List P)) | tab (P : Nat) (q : Str)
instance : Inhabited D := ⟨.p .non⟩
abbrev Env := List (Option D)
abbrev Flds := List (Str × P)

inductive Out where
  | ok (d : D) (e : Env) | exc (c : Str) (fs : Flds) (e : Env) | bad
inductive OutL where
  | ok (ds : List D) (e : Env) | exc (c : Str) (fs : Flds) (e : Env) | bad
inductive OutI where
  | ok (xs : List P) (e : Env) | exc (c : Str) (fs : Flds) (e : Env) | bad
inductive SO where
  | nx (e : Env) | ret (d : D) (e : Env) | bk (e : Env) | ct (e : Env) | exc (c : Str) (fs : Flds) (e : Env) | bad
inductive COut where
  | ok (d : D) (args : List D) | exc (c : Str) (fs : Flds) (args : List D) | bad
abbrev Calls := Str → List D → COut

def lim : Nat := 1000000

/-! ### the language -/
inductive Tg where
  | nm (i : Nat) (keep : Bool) | tp (gs : List Tg)
inductive T where
  | var (i : Nat) | pk (i : Nat) | lit (x : P)
  | tup (ts : List T) | lst (ts : List T)
  | bin (op : Operator) (a b : T)
  | cmp (op : CmpOp) (a b : T) | chn (o1 o2 : CmpOp) (a b c : T)
  | and (a b : T) | or (a b : T) | not (a : T) | ife (t a b : T)
  | idx (a i : T) | slc (a : T) (lo hi : Option T)
  | call (f : Str) (as : List T) | blt (f : Str) (as : List T) | isi (a : T) (tys : List String)
  | comp (elt : T) (g : Tg) (it : T) (cond : Option T) (own : List Nat)
  | pop (i : Nat) | join (s a : T)
  | range (n : T) | enum (a : T) | rev (a : T)
  | word (a b : Nat) (t : T) | late (f : Str) (i : Nat) (t : T) | lln | popt (i : Nat)
  | dead
  | srest (i : Nat) | sturn (i : Nat) | scells (i : Nat) | sgne (i : Nat) | spop (i : Nat) | smk (ts : List T)
inductive S where
  | asg (g : Tg) (t : T) | asg2 (g h : Tg) (a b : T) | aug (i : Nat) (op : Operator) (t : T)
  | srest (i : Nat) (t : T) | sturn (i : Nat) (t : T) | app (i : Nat) (t : T) | appe (i : Nat) | appl (i : Nat) (t : T) | ext (i : Nat) (t : T) | expr (t : T) | ret (t : T) | retN
  | ife (t : T) (a b : List S) | for_ (g : Tg) (it : T) (body : List S) | whl (t : T) (body : List S)
  | dead | brk | cnt | pass | raise (c : Str) (as : List T)

/-! ### operations -/
def D.asL : D → Option (List P)
  | .p (.tup xs) => some xs
  | .p (.fl xs) => some xs
  | .pl xs => some xs
  | _ => none
/-- shared from now on -/
def D.frz : D → Option P
  | .p x => some x
  | .pl xs => some (.fl xs)
  | .pd kvs => some (.fd kvs)
  | .st _ => none
  | .pll _ => none
  | .tab _ _ => none
mutual
def P.data : P → Option PyData
  | .non => some .none
  | .bl b => some (.bool b)
  | .int i => some (.int i)
  | .str s => some (.str s)
  | .tup xs => (P.datas xs).map .tuple
  | .fl xs => (P.datas xs).map .list
  | _ => none
def P.datas : List P → Option (List PyData)
  | [] => some []
  | x :: xs => match P.data x, P.datas xs with
    | some d, some ds => some (d :: ds)
    | _, _ => none
end
def P.datass : List (List P) → Option (List PyData)
  | [] => some []
  | xs :: xss => match P.datas xs, P.datass xss with
    | some d, some ds => some (.list d :: ds)
    | _, _ => none
def D.data : D → Option PyData
  | .p x => x.data
  | .pl xs => (P.datas xs).map .list
  | .pll xss => (P.datass xss).map .list
  | _ => none

def smallI (i : Int) : Bool := decide (-(2 ^ 64) < i) && decide (i < 2 ^ 64)
def repS (n : Nat) (s : Str) : Str := ⟨(List.replicate n s.cps).foldl (· ++ ·) #[]⟩
def binop : Operator → D → D → Option D
  | .Add, .p (.int i), .p (.int j) => some (.p (.int (i + j)))
  | .Add, .p (.str s), .p (.str t) => if s.length + t.length ≤ lim then some (.p (.str (s ++ t))) else none
  | .Sub, .p (.int i), .p (.int j) => some (.p (.int (i - j)))
  | .Mult, .p (.int i), .p (.int j) => if smallI i || smallI j then some (.p (.int (i * j))) else none
  | .Mult, .p (.str s), .p (.int n) => if 1 < n ∧ 0 < s.length ∧ s.length * n.toNat ≤ lim ∧ n ≤ 1000000 ∧ (repS n.toNat s).length ≤ lim then some (.p (.str (repS n.toNat s))) else none
  | .FloorDiv, .p (.int i), .p (.int j) => if 0 < j ∧ j < 1073741824 then some (.p (.int (i / j))) else none
  | .Mod, .p (.int i), .p (.int j) => if 0 < j then some (.p (.int (i % j))) else none
  | .Pow, .p (.int i), .p (.int j) => if 0 ≤ j ∧ j ≤ 1000000 ∧ i.natAbs < 2 ^ 64 then some (.p (.int (i ^ j.toNat))) else none
  | _, _, _ => none
def strIn (a b : Str) : Bool := !(Builtin.Str.occurrences b a 0 b.length 1).isEmpty
def eqD (d e : D) : Option Bool :=
  match d.data, e.data with
  | some a, some b => if SeqAt.shaped a && SeqAt.shaped b then some (PyData.eqv a b) else none
  | _, _ => none
def P.isNon : P → Bool
  | .non => true
  | _ => false
def cmpop : CmpOp → D → D → Option Bool
  | .Eq, d, e => eqD d e
  | .NotEq, d, e => (eqD d e).map not
  | .Lt, .p (.int i), .p (.int j) => some (decide (i < j))
  | .LtE, .p (.int i), .p (.int j) => some (decide (i ≤ j))
  | .Gt, .p (.int i), .p (.int j) => some (decide (j < i))
  | .GtE, .p (.int i), .p (.int j) => some (decide (j ≤ i))
  | .Is, .p x, .p .non => some x.isNon
  | .IsNot, .p x, .p .non => some (!x.isNon)
  | .In, .p (.str s), .p (.str t) => some (strIn s t)
  | .NotIn, .p (.str s), .p (.str t) => some (!strIn s t)
  | _, _, _ => none

def idxop : D → D → Option P
  | .p (.str s), .p (.int i) => if s.length ≤ lim then (L2.atI s.cps.toList i).map fun c => .str ⟨#[c]⟩ else none
  | d, .p (.int i) => match d.asL with
    | some xs => L2.atI xs i
    | none => none
  | _, _ => none
def P.tyNm : P → Option String
  | .non => some "NoneType"
  | .bl _ => some "bool"
  | .int _ => some "int"
  | .str _ => some "str"
  | .tup _ => some "tuple"
  | .fl _ => some "list"
  | _ => none
def tyNames : List String := ["tuple", "list", "str", "int", "bool", "dict"]
def isTy (n t : String) : Bool := n == t || (n == "bool" && t == "int")
def isTys (x : P) (ts : List String) : Option Bool := match x.tyNm with
  | some n => if ts.all (fun t => tyNames.contains t) then some (ts.any (isTy n)) else none
  | none => none
def D.view : D → Option P := D.frz

/-! ### targets -/
def frzIf : Bool → D → Option D
  | true, d => some d
  | false, .st s => some (.st s)
  | false, .pll s => some (.pll s)
  | false, d => d.frz.map .p
mutual
def asgT (prot : List Nat) : Tg → D → Env → Option Env
  | .nm i k, d, e => if i ∈ prot then none else if i < e.length then match frzIf k d with
    | some d' => some (e.set i (some d'))
    | none => none else none
  | .tp gs, .p (.tup xs), e => if xs.length = gs.length then asgTs prot gs xs e else none
  | .tp _, _, _ => none
def asgTs (prot : List Nat) : List Tg → List P → Env → Option Env
  | [], [], e => some e
  | g :: gs, x :: xs, e => match asgT prot g (.p x) e with
    | some e' => asgTs prot gs xs e'
    | none => none
  | _, _, _ => none
end

def getE (e : Env) (i : Nat) : Option D := match e[i]? with
  | some d => d
  | none => none
/-- the value of an operand when all operands are there -/
def fin (t : T) (d : D) (e : Env) : Option D := match t with
  | .pk i => getE e i
  | _ => some d

def Out.bind (o : Out) (f : D → Env → Out) : Out := match o with
  | .ok d e => f d e
  | .exc c fs e => .exc c fs e
  | .bad => .bad
def OutL.bind (o : OutL) (f : List D → Env → Out) : Out := match o with
  | .ok d e => f d e
  | .exc c fs e => .exc c fs e
  | .bad => .bad
def opt (o : Option D) (e : Env) : Out := match o with
  | some d => .ok d e
  | none => .bad
def optP (o : Option P) (e : Env) : Out := match o with
  | some x => .ok (.p x) e
  | none => .bad
def optB (o : Option Bool) (e : Env) : Out := match o with
  | some b => .ok (.p (.bl b)) e
  | none => .bad
/-- on a truth -/
def onB (d : D) (f : Bool → Out) : Out := match d with
  | .p (.bl b) => f b
  | _ => .bad
end Ev
end

section
set_option Elab.async false
set_option linter.all false
/-! Ev2: the evaluator. -/
namespace Ev
open PySem

def frzAll : List D → Option (List P)
  | [] => some []
  | d :: ds => match d.frz, frzAll ds with
    | some x, some xs => some (x :: xs)
    | _, _ => none

/-! ### draws -/
def primes : List Int := [2147483629, 2147483587, 2147483579, 2147483563]
def blendOf (turn prime : Int) (cells : List Int) : Int := cells.foldl (fun b c => (b * 48271 + c + turn) % prime) (69621 * turn + prime / 41)
def mixOf (turn : Int) (cells : List Int) : Int := primes.foldl (fun f p => f * 2147483659 + blendOf turn p cells ^ 5 % p) 0
def DSt.refill (s : DSt) : DSt :=
  if s.rest = 0 then match s.great with
    | g :: gs => { s with great := gs, rest := g }
    | [] => { s with turn := s.turn + 1, rest := mixOf (s.turn + 1) s.cells }
  else s
def DSt.draw (s : DSt) (n : Int) : Int × DSt := (s.refill.rest % n, { s.refill with rest := s.refill.rest / n })

/-! ### builtins -/
def intOfStr (s : Str) : Option Int := if s.length ≤ 640 then intText? s else none
def allB : List P → Option Bool
  | [] => some true
  | .bl b :: xs => match allB xs with
    | some r => some (b && r)
    | none => none
  | _ :: _ => none
def strsOf : List P → Option (List Str)
  | [] => some []
  | .str s :: xs => match strsOf xs with
    | some r => some (s :: r)
    | none => none
  | _ :: _ => none
def joinP (a : Str) (xs : List P) : Option P := match strsOf xs with
  | some ys => if (ys.map (·.length)).sum + ys.length * a.length ≤ lim then some (.str (Txt.join a ys)) else none
  | none => none
def reprP (d : D) : Option P := match d.data with
  | some a => if a.showable && decide (a.shown.length ≤ lim) && decide (a.depth ≤ 100) then some (.str a.shown) else none
  | none => none
def lenop : List D → Option D
  | [.p (.str s)] => if s.length ≤ lim then some (.p (.int s.length)) else none
  | [d] => match d.asL with
    | some xs => some (.p (.int xs.length))
    | none => none
  | _ => none
def absop : List D → Option D
  | [.p (.int i)] => some (.p (.int (if i < 0 then -i else i)))
  | _ => none
def minop : List D → Option D
  | [.p (.int i), .p (.int j)] => some (.p (.int (if j < i then j else i)))
  | _ => none
def intop : List D → Option D
  | [.p (.int i)] => some (.p (.int i))
  | [.p (.str s)] => (intOfStr s).map fun i => .p (.int i)
  | _ => none
def strop : List D → Option D
  | [.p (.int i)] => if i.natAbs.log2 < 1920 then some (.p (.str (toString i))) else none
  | [.p (.str s)] => some (.p (.str s))
  | _ => none
def reprop : List D → Option D
  | [d] => (reprP d).map .p
  | _ => none
def tupop : List D → Option D
  | [d] => match d.asL with
    | some xs => some (.p (.tup xs))
    | none => none
  | _ => none
def allop : List D → Option D
  | [.pl xs] => (allB xs).map fun b => .p (.bl b)
  | _ => none
def bltop (f : Str) : List D → Option D :=
  if f = "len" then lenop else if f = "abs" then absop else if f = "min" then minop else if f = "int" then intop else if f = "str" then strop
  else if f = "repr" then reprop else if f = "tuple" then tupop else if f = "all" then allop else fun _ => none
def slcop (d : D) (lo hi : Option Int) : Option D := match d with
  | .p (.str s) => if s.length ≤ lim then some (.p (.str (L2.cutS s lo hi))) else none
  | _ => none
/-- what an argument hands over, and what is left -/
def take1 (t : T) (e : Env) (d : D) : Env := match t, d with
  | .pk i, .p _ => e
  | .pk i, _ => e.set i none
  | _, _ => e
def back1 (t : T) (d d' : D) (e : Env) : Env := match t, d with
  | .pk i, .p _ => e
  | .pk i, _ => e.set i (some d')
  | _, _ => e
def backs : List T → List D → List D → Env → Env
  | t :: ts, d :: ds, d' :: ds', e => backs ts ds ds' (back1 t d d' e)
  | _, _, _, e => e
/-- the word of a refusal -/
def wordOf (c : Str) (fs : Flds) : Option P :=
  if c = "NoText" then match fs with
    | [(f, x)] => if f = "line" then some (.tup [.str "text", x]) else none
    | _ => none
  else none
def enumP : Nat → List P → List P
  | _, [] => []
  | n, x :: xs => .tup [.int n, x] :: enumP (n + 1) xs
def iterOf (d : D) : Option (List P) := match d with
  | .p (.str s) => if s.length ≤ lim then some (s.cps.toList.map fun c => .str ⟨#[c]⟩) else none
  | d => d.asL
def fins : List T → List D → Env → Option (List D)
  | [], [], _ => some []
  | t :: ts, d :: ds, e => match fin t d e, fins ts ds e with
    | some x, some xs => some (x :: xs)
    | _, _ => none
  | _, _, _ => none

def OutI.ofOut (f : D → Option (List P)) (t : T) (o : Out) : OutI := match o with
  | .ok d e => match fin t d e with
    | some d' => match f d' with
      | some xs => .ok xs e
      | none => .bad
    | none => .bad
  | .exc c fs e => .exc c fs e
  | .bad => .bad
/-- a comprehension's turns; a turn may not raise -/
def compLoop (elt : Env → Out) (cond : Env → Out) (g : D → Env → Option Env) (own : List Nat) : List P → Env → List P → Out
  | [], e, acc => .ok (.pl acc) e
  | x :: xs, e, acc => match g (.p x) e with
    | none => .bad
    | some e1 => match cond e1 with
      | .ok (.p (.bl true)) e2 => match elt e2 with
        | .ok d e3 => match d.frz with
          | some y => if acc.length < lim then compLoop elt cond g own xs (own.foldr (fun i e => e.set i none) e3) (acc ++ [y]) else .bad
          | none => .bad
        | _ => .bad
      | .ok (.p (.bl false)) e2 => compLoop elt cond g own xs (own.foldr (fun i e => e.set i none) e2) acc
      | _ => .bad
/-- the slots of a comprehension's own names, as they were -/
def resto (own : List Nat) (e0 e : Env) : Env := own.foldr (fun i e => e.set i (getE e0 i)) e

/-- the slot that is walked -/
def itPk : T → Option Nat
  | .pk i => some i
  | .enum a => itPk a
  | _ => none
def owned : D → Bool
  | .p _ => false
  | _ => true
/-- what is walked is out of the way meanwhile -/
def hid (it : T) (e : Env) : Option (Nat × D) := match itPk it with
  | some i => match getE e i with
    | some d => if owned d then some (i, d) else none
    | none => none
  | none => none
def hide (it : T) (e : Env) : Env := match hid it e with
  | some (i, _) => e.set i none
  | none => e
def unhide (it : T) (e0 e : Env) : Env := match hid it e0 with
  | some (i, d) => e.set i (some d)
  | none => e
def hidP (it : T) (e : Env) (prot : List Nat) : List Nat := match hid it e with
  | some (i, _) => i :: prot
  | none => prot

/-- a comprehension's own names hide no object of their own -/
def ownOk (own : List Nat) (e : Env) : Bool := own.all fun i => match getE e i with
  | some d => !owned d
  | none => true

def notOwn (own : List Nat) (e : Env) : List Nat := (List.range e.length).filter fun i => !own.contains i

def intsOf : List P → Option (List Int)
  | [] => some []
  | .int i :: xs => match intsOf xs with
    | some r => some (i :: r)
    | none => none
  | _ :: _ => none
def mkSt : List D → Option D
  | [.pl gs, .pl cs, .p (.int r), .p (.int t)] => match intsOf gs, intsOf cs with
    | some g, some c => some (.st ⟨g, c, r, t⟩)
    | _, _ => none
  | _ => none
def lcEnd (it : T) (own : List Nat) (e1 : Env) : Out → Out
  | .ok d e2 => .ok d (unhide it e1 (resto own e1 e2))
  | _ => .bad

def withR (r : Env → Out) (f : (Env → Out) → Env → Out) : Env → Out := f r
def rangeOf (d : D) : Option (List P) := match d with
  | .p (.int k) => if -1000000 < k ∧ k < 1000000 then some ((List.range k.toNat).map fun i => .int (i : Nat)) else none
  | _ => none
def revOf (d : D) : Option (List P) := match d with
  | .p (.tup xs) => some xs.reverse
  | _ => none
def OutI.enum : OutI → OutI
  | .ok xs e => .ok (enumP 0 xs) e
  | .exc c fs e => .exc c fs e
  | .bad => .bad
def lcAll (it : T) (own : List Nat) (elt cond : Env → Out) (g : Tg) : OutI → Out
  | .ok xs e1 => if ownOk own e1 then lcEnd it own e1 (compLoop elt cond (asgT (notOwn own e1) g) own xs (own.foldr (fun i e => e.set i none) (hide it e1)) []) else .bad
  | .exc c fs e => .exc c fs e
  | .bad => .bad

variable (Γ : Calls)
mutual
def evT : T → Env → Out
  | .var i => fun e => match getE e i with
    | some (.p x) => .ok (.p x) e
    | some d => .ok d (e.set i none)
    | none => .bad
  | .pk i => fun e => match getE e i with
    | some _ => .ok (.p .non) e
    | none => .bad
  | .lit x => fun e => .ok (.p x) e
  | .tup ts => fun e => (evTs ts e).bind fun ds e => optP ((frzAll ds).map .tup) e
  | .lst ts => fun e => (evTs ts e).bind fun ds e => opt ((frzAll ds).map .pl) e
  | .bin op a b => fun e => (evT a e).bind fun x e => (evT b e).bind fun y e => match fin a x e, fin b y e with
    | some x, some y => opt (binop op x y) e
    | _, _ => .bad
  | .cmp op a b => fun e => (evT a e).bind fun x e => (evT b e).bind fun y e => match fin a x e, fin b y e with
    | some x, some y => optB (cmpop op x y) e
    | _, _ => .bad
  | .chn o1 o2 a b c => fun e => (evT a e).bind fun x e => (evT b e).bind fun y e => match fin a x e, fin b y e with
    | some x, some y => match cmpop o1 x y with
      | some true => (evT c e).bind fun z e => match fin b y e, fin c z e with
        | some y, some z => optB (cmpop o2 y z) e
        | _, _ => .bad
      | some false => .ok (.p (.bl false)) e
      | none => .bad
    | _, _ => .bad
  | .and a b => fun e => (evT a e).bind fun x e => match fin a x e with
    | some x => onB x fun k => if k then evT b e else .ok (.p (.bl false)) e
    | none => .bad
  | .or a b => fun e => (evT a e).bind fun x e => match fin a x e with
    | some x => onB x fun k => if k then .ok (.p (.bl true)) e else evT b e
    | none => .bad
  | .not a => fun e => (evT a e).bind fun x e => match fin a x e with
    | some x => onB x fun k => .ok (.p (.bl (!k))) e
    | none => .bad
  | .ife t a b => fun e => (evT t e).bind fun x e => match fin t x e with
    | some x => onB x fun k => if k then evT a e else evT b e
    | none => .bad
  | .idx a i => fun e => (evT a e).bind fun x e => (evT i e).bind fun y e => match fin a x e, fin i y e with
    | some x, some y => optP (idxop x y) e
    | _, _ => .bad
  | .slc a lo hi => fun e => (evT a e).bind fun x e => match evO lo e with
    | (some l, e) => match evO hi e with
      | (some h, e) => match fin a x e with
        | some x => opt (slcop x l h) e
        | none => .bad
      | (none, _) => .bad
    | (none, _) => .bad
  | .call f as => fun e => (evAs as e).bind fun ds e => match Γ f ds with
    | .ok d ds' => .ok d (backs as ds ds' e)
    | .exc c fs ds' => .exc c fs (backs as ds ds' e)
    | .bad => .bad
  | .blt f as => fun e => (evTs as e).bind fun ds e => match fins as ds e with
    | some ds => opt (bltop f ds) e
    | none => .bad
  | .isi a tys => fun e => (evT a e).bind fun x e => match fin a x e with
    | some d => match d.view with
      | some x => optB (isTys x tys) e
      | none => .bad
    | none => .bad
  | .comp elt g it cond own => withR (evT it) fun r e => lcAll it own (evT elt) (evC cond) g (match it with
      | .range n => OutI.ofOut rangeOf n (evT n e)
      | .rev a => OutI.ofOut revOf a (evT a e)
      | .enum (.rev a) => (OutI.ofOut revOf a (evT a e)).enum
      | .enum a => (OutI.ofOut iterOf a (evT a e)).enum
      | _ => OutI.ofOut iterOf it (r e))
  | .pop i => fun e => match getE e i with
    | some (.pl xs) => match xs.getLast? with
      | some x => .ok (.p x) (e.set i (some (.pl xs.dropLast)))
      | none => .bad
    | _ => .bad
  | .join s a => fun e => (evT s e).bind fun x e => match fin s x e with
    | some (.p (.str s)) => (evT a e).bind fun y e => match fin a y e with
      | some y => match y.asL with
        | some xs => optP (joinP s xs) e
        | none => .bad
      | none => .bad
    | _ => .bad
  | .range _ => fun _ => .bad
  | .enum _ => fun _ => .bad
  | .rev _ => fun _ => .bad
  | .word a b t => fun e => match getE e a, getE e b with
    | some d1, some d2 => match Γ "%tab" [d1, d2] with
      | .ok _ _ => match evT t e with
        | .ok d e => optP d.frz e
        | .exc c fs e => optP (wordOf c fs) e
        | .bad => .bad
      | _ => .bad
    | _, _ => .bad
  | .late f i t => fun e => match getE e i with
    | some _ => (evT t e).bind fun d e1 => match getE e1 i with
      | some s => match Γ f [s, d] with
        | .ok r (s' :: _) => if owned s then .ok r (e1.set i (some s')) else .bad
        | _ => .bad
      | none => .bad
    | none => .bad
  | .dead => fun _ => .bad
  | .lln => fun e => .ok (.pll []) e
  | .srest i => fun e => match getE e i with
    | some (.st s) => .ok (.p (.int s.rest)) e
    | _ => .bad
  | .sturn i => fun e => match getE e i with
    | some (.st s) => .ok (.p (.int s.turn)) e
    | _ => .bad
  | .scells i => fun e => match getE e i with
    | some (.st s) => .ok (.p (.fl (s.cells.map .int))) e
    | _ => .bad
  | .sgne i => fun e => match getE e i with
    | some (.st s) => .ok (.p (.bl (!s.great.isEmpty))) e
    | _ => .bad
  | .spop i => fun e => match getE e i with
    | some (.st s) => match s.great with
      | g :: gs => .ok (.p (.int g)) (e.set i (some (.st { s with great := gs })))
      | [] => .bad
    | _ => .bad
  | .smk ts => fun e => (evTs ts e).bind fun ds e => opt (mkSt ds) e
  | .popt i => fun e => match getE e i with
    | some (.pll xss) => match xss.getLast? with
      | some xs => .ok (.p (.tup xs)) (e.set i (some (.pll xss.dropLast)))
      | none => .bad
    | _ => .bad
def evO : Option T → Env → Option (Option Int) × Env
  | none => fun e => (some none, e)
  | some t => fun e => match evT t e with
    | .ok d e => match fin t d e with
      | some (.p (.int i)) => (some (some i), e)
      | _ => (none, e)
    | _ => (none, e)
def evC : Option T → Env → Out
  | none => fun e => .ok (.p (.bl true)) e
  | some t => fun e => (evT t e).bind fun x e => match fin t x e with
    | some x => onB x fun k => .ok (.p (.bl k)) e
    | none => .bad
/-- operands, from the left -/
def evTs : List T → Env → OutL
  | [] => fun e => .ok [] e
  | t :: ts => fun e => match evT t e with
    | .ok d e => match evTs ts e with
      | .ok ds e => .ok (d :: ds) e
      | .exc c fs e => .exc c fs e
      | .bad => .bad
    | .exc c fs e => .exc c fs e
    | .bad => .bad
/-- arguments of a call: a name's own object is handed over -/
def evAs : List T → Env → OutL
  | [] => fun e => .ok [] e
  | t :: ts => fun e => match evT t e with
    | .ok d e => match fin t d e with
      | some d => match evAs ts (take1 t e d) with
        | .ok ds e => .ok (d :: ds) e
        | .exc c fs e => .exc c fs (back1 t d d e)
        | .bad => .bad
      | none => .bad
    | .exc c fs e => .exc c fs e
    | .bad => .bad
end
/-- what is walked -/
def evI (it : T) (e : Env) : OutI := match it with
      | .range n => OutI.ofOut rangeOf n (evT Γ n e)
      | .rev a => OutI.ofOut revOf a (evT Γ a e)
      | .enum (.rev a) => (OutI.ofOut revOf a (evT Γ a e)).enum
      | .enum a => (OutI.ofOut iterOf a (evT Γ a e)).enum
      | _ => OutI.ofOut iterOf it (evT Γ it e)
theorem evT_comp {elt it : T} {g : Tg} {cond : Option T} {own : List Nat} {e : Env} : evT Γ (.comp elt g it cond own) e = lcAll it own (evT Γ elt) (evC Γ cond) g (evI Γ it e) := by rw [evT]; rfl
end Ev
end

section
set_option Elab.async false
set_option linter.all false
/-! EvS: the evaluator of statements. -/
namespace Ev
open PySem

def D.asX : D → Option (List P)
  | .p (.tup xs) => some xs
  | .pl xs => some xs
  | _ => none
def SO.map (f : Env → Env) : SO → SO
  | .nx e => .nx (f e)
  | .ret d e => .ret d (f e)
  | .bk e => .bk (f e)
  | .ct e => .ct (f e)
  | .exc c fs e => .exc c fs (f e)
  | .bad => .bad
def forL (prot : List Nat) (g : Tg) (body : Env → SO) : List P → Env → SO
  | [], e => .nx e
  | x :: xs, e => match asgT prot g (.p x) e with
    | some e1 => match body e1 with
      | .nx e2 => forL prot g body xs e2
      | .ct e2 => forL prot g body xs e2
      | .bk e2 => .nx e2
      | .ret d e2 => .ret d e2
      | .exc c fs e2 => .exc c fs e2
      | .bad => .bad
    | none => .bad
def whileL (test : Env → Out) (body : Env → SO) : Nat → Env → SO
  | 0, _ => .bad
  | n + 1, e => match test e with
    | .ok (.p (.bl true)) e1 => match body e1 with
      | .nx e2 => whileL test body n e2
      | .ct e2 => whileL test body n e2
      | .bk e2 => .nx e2
      | .ret d e2 => .ret d e2
      | .exc c fs e2 => .exc c fs e2
      | .bad => .bad
    | .ok (.p (.bl false)) e1 => .nx e1
    | .exc c fs e1 => .exc c fs e1
    | _ => .bad
def SO.seq (o : SO) (f : Env → SO) : SO := match o with
  | .nx e => f e
  | o => o
/-- behind a value -/
def Out.thn (o : Out) (f : D → Env → SO) : SO := match o with
  | .ok d e => f d e
  | .exc c fs e => .exc c fs e
  | .bad => .bad
/-- the own exceptions: with the field that their __init__ keeps, or with none -/
def excF (c : Str) : Option (Option Str) :=
  if c = "NoText" then some (some "line") else if c = "Used" then some (some "name") else if c = "TooMany" then some (some "most")
  else if c ∈ (["NoName", "NoNumber", "NoPlace", "NoOrder", "NoTie", "NoTable", "NoKind", "NoBook", "NoState", "NoExpression", "NoLaw", "NoDeed", "NoPast", "Twice"] : List Str) then some none else none
/-- the fields of an own exception made of such arguments -/
def excFs (c : Str) (ds : List D) : Option Flds := match excF c with
  | some (some f) => match ds with
    | [.p (.str _), .p x] => some [(f, x)]
    | _ => none
  | some none => match ds with
    | [.p (.str _)] => some []
    | _ => none
  | none => none

variable (Γ : Calls) (F : Nat)
mutual
def evS : S → List Nat → Env → SO
  | .asg g t => fun prot e => (evT Γ t e).thn fun d e => match asgT prot g d e with
    | some e => .nx e
    | none => .bad
  | .asg2 g h a b => fun prot e => match evTs Γ [a, b] e with
    | .ok [d, d'] e => match asgT prot g d e with
      | some e => match asgT prot h d' e with
        | some e => .nx e
        | none => .bad
      | none => .bad
    | .exc c fs e => .exc c fs e
    | _ => .bad
  | .aug i op t => fun prot e => match getE e i with
    | some (.p (.int a)) => (evT Γ t e).thn fun d e => match fin t d e with
      | some (.p (.int b)) => match op with
        | .Add => match asgT prot (.nm i false) (.p (.int (a + b))) e with
          | some e => .nx e
          | none => .bad
        | _ => .bad
      | _ => .bad
    | _ => .bad
  | .app i t => fun prot e => match getE e i with
    | some (.pl _) => (evT Γ t e).thn fun d e => match getE e i, d.frz with
      | some (.pl xs), some x => if xs.length < lim then .nx (e.set i (some (.pl (xs ++ [x])))) else .bad
      | _, _ => .bad
    | _ => .bad
  | .srest i t => fun prot e => (evT Γ t e).thn fun d e => match fin t d e, getE e i with
    | some (.p (.int r)), some (.st s) => .nx (e.set i (some (.st { s with rest := r })))
    | _, _ => .bad
  | .sturn i t => fun prot e => (evT Γ t e).thn fun d e => match fin t d e, getE e i with
    | some (.p (.int r)), some (.st s) => .nx (e.set i (some (.st { s with turn := r })))
    | _, _ => .bad
  | .appe i => fun prot e => match getE e i with
    | some (.pll xss) => if xss.length < lim then .nx (e.set i (some (.pll (xss ++ [[]])))) else .bad
    | _ => .bad
  | .appl i t => fun prot e => match getE e i with
    | some (.pll xss) => match xss.getLast? with
      | some xs => (evT Γ t (e.set i none)).thn fun d e => match d.frz with
        | some x => if xs.length < lim then .nx (e.set i (some (.pll (xss.dropLast ++ [xs ++ [x]])))) else .bad
        | none => .bad
      | none => .bad
    | _ => .bad
  | .ext i t => fun prot e => match getE e i with
    | some (.pl _) => (evT Γ t e).thn fun d e => match getE e i, fin t d e with
      | some (.pl xs), some d => match d.asX with
        | some ys => if xs.length + ys.length ≤ lim then .nx (e.set i (some (.pl (xs ++ ys)))) else .bad
        | none => .bad
      | _, _ => .bad
    | _ => .bad
  | .expr t => fun prot e => (evT Γ t e).thn fun _ e => .nx e
  | .ret t => fun prot e => (evT Γ t e).thn fun d e => .ret d e
  | .retN => fun prot e => .ret (.p .non) e
  | .ife t a b => fun prot e => (evT Γ t e).thn fun d e => match fin t d e with
    | some (.p (.bl k)) => if k then evB a prot e else evB b prot e
    | _ => .bad
  | .for_ g it body => fun prot e => match evI Γ it e with
    | .ok xs e1 => (forL (hidP it e1 prot) g (evB body (hidP it e1 prot)) xs (hide it e1)).map (unhide it e1)
    | .exc c fs e1 => .exc c fs e1
    | .bad => .bad
  | .whl t body => fun prot e => whileL (evC Γ (some t)) (evB body prot) F e
  | .dead => fun _ _ => .bad
  | .brk => fun prot e => .bk e
  | .cnt => fun prot e => .ct e
  | .pass => fun prot e => .nx e
  | .raise c as => fun prot e => match evTs Γ as e with
    | .ok ds e => match fins as ds e with
      | some ds => match excFs c ds with
        | some fs => .exc c fs e
        | none => .bad
      | none => .bad
    | .exc c fs e => .exc c fs e
    | .bad => .bad
def evB : List S → List Nat → Env → SO
  | [] => fun prot e => .nx e
  | s :: ss => fun prot e => (evS s prot e).seq (evB ss prot)
end

/-! ### defs -/
structure Fn where
  ps : Nat
  n : Nat
  body : List S
def protOf : Nat → List D → List Nat
  | _, [] => []
  | i, d :: ds => if owned d then i :: protOf (i + 1) ds else protOf (i + 1) ds
/-- the arguments' own objects, as they are left -/
def leftOf : Nat → List D → Env → Option (List D)
  | _, [], _ => some []
  | i, d :: ds, e => match leftOf (i + 1) ds e with
    | some r => if owned d then match getE e i with
        | some d' => if owned d' then some (d' :: r) else none
        | none => none
      else some (d :: r)
    | none => none
def runFn (Γ : Calls) (F : Nat) (fn : Fn) (ds : List D) : COut :=
  if ds.length = fn.ps ∧ fn.ps ≤ fn.n then
    match evB Γ F fn.body (protOf 0 ds) (ds.map some ++ List.replicate (fn.n - fn.ps) none) with
    | .ret d e => match leftOf 0 ds e with
      | some r => .ok d r
      | none => .bad
    | .nx e => match leftOf 0 ds e with
      | some r => .ok (.p .non) r
      | none => .bad
    | .exc c fs e => match leftOf 0 ds e with
      | some r => .exc c fs r
      | none => .bad
    | _ => .bad
  else .bad
def calls (prog : Str → Option Fn) (F : Nat) : Nat → Calls
  | 0 => fun _ _ => .bad
  | k + 1 => fun f ds => match prog f with
    | some fn => runFn (calls prog F k) F fn ds
    | none => .bad
end Ev
end

section
set_option Elab.async false
set_option linter.all false
/-! Ev3: what values stand for in the abstract heap; steps. -/
namespace Ev
open PySem L2

abbrev Ex := Evl.Ex
mutual
inductive RepP (K : PySem.W.Frag) (Z : Hp) : P → V → Prop
  | non : RepP K Z .non .non
  | bl (b : Bool) : RepP K Z (.bl b) (.bl b)
  | int (i : Int) : RepP K Z (.int i) (.int i)
  | str (s : Str) : RepP K Z (.str s) (.str s)
  | tup {a : Addr} {vs : List V} {xs : List P} : SqT K Z a vs → RepPs K Z xs vs → RepP K Z (.tup xs) (.ref a)
  | fl {a : Addr} {vs : List V} {xs : List P} : SqL K Z a vs → RepPs K Z xs vs → RepP K Z (.fl xs) (.ref a)
inductive RepPs (K : PySem.W.Frag) (Z : Hp) : List P → List V → Prop
  | nil : RepPs K Z [] []
  | cons {x : P} {v : V} {xs : List P} {vs : List V} : RepP K Z x v → RepPs K Z xs vs → RepPs K Z (x :: xs) (v :: vs)
end
mutual
theorem RepP.mono {K : PySem.W.Frag} {Z Z' : Hp} (e : Ex Z Z') : ∀ {x : P} {v : V}, RepP K Z x v → RepP K Z' x v
  | _, _, .non => .non
  | _, _, .bl b => .bl b
  | _, _, .int i => .int i
  | _, _, .str s => .str s
  | _, _, .tup h r => .tup (Evl.ex_t e h) (RepPs.mono e r)
  | _, _, .fl h r => .fl (Evl.ex_l e h) (RepPs.mono e r)
theorem RepPs.mono {K : PySem.W.Frag} {Z Z' : Hp} (e : Ex Z Z') : ∀ {xs : List P} {vs : List V}, RepPs K Z xs vs → RepPs K Z' xs vs
  | _, _, .nil => .nil
  | _, _, .cons h r => .cons (RepP.mono e h) (RepPs.mono e r)
end
section
variable {K : PySem.W.Frag} {Z Z' H H' : Hp}
theorem RepPs.length : ∀ {xs : List P} {vs : List V}, RepPs K Z xs vs → xs.length = vs.length
  | _, _, .nil => rfl
  | _, _, .cons _ r => by simp [RepPs.length r]
theorem RepPs.append : ∀ {xs ys : List P} {vs ws : List V}, RepPs K Z xs vs → RepPs K Z ys ws → RepPs K Z (xs ++ ys) (vs ++ ws)
  | _, _, _, _, .nil, s => s
  | _, _, _, _, .cons h r, s => .cons h (RepPs.append r s)
theorem RepPs.get : ∀ {xs : List P} {vs : List V} {i : Nat} {x : P}, RepPs K Z xs vs → xs[i]? = some x → ∃ v, vs[i]? = some v ∧ RepP K Z x v
  | _, _, _, _, .nil, e => by simp at e
  | _, _, 0, _, .cons h _, e => by simp at e; subst e; exact ⟨_, rfl, h⟩
  | _, _, i + 1, _, .cons _ r, e => by
    obtain ⟨v, h1, h2⟩ := RepPs.get (i := i) r (by simpa using e)
    exact ⟨v, by simpa using h1, h2⟩
theorem RepPs.getV : ∀ {xs : List P} {vs : List V} {i : Nat} {v : V}, RepPs K Z xs vs → vs[i]? = some v → ∃ x, xs[i]? = some x ∧ RepP K Z x v
  | _, _, _, _, .nil, e => by simp at e
  | _, _, 0, _, .cons h _, e => by simp at e; subst e; exact ⟨_, rfl, h⟩
  | _, _, i + 1, _, .cons _ r, e => by
    obtain ⟨x, h1, h2⟩ := RepPs.getV (i := i) r (by simpa using e)
    exact ⟨x, by simpa using h1, h2⟩
theorem RepPs.take : ∀ {xs : List P} {vs : List V} (n : Nat), RepPs K Z xs vs → RepPs K Z (xs.take n) (vs.take n)
  | _, _, 0, _ => by simp; exact .nil
  | _, _, n + 1, .nil => by simp; exact .nil
  | _, _, n + 1, .cons h r => by simp; exact .cons h (RepPs.take n r)
theorem RepPs.drop : ∀ {xs : List P} {vs : List V} (n : Nat), RepPs K Z xs vs → RepPs K Z (xs.drop n) (vs.drop n)
  | _, _, 0, r => by simpa using r
  | _, _, n + 1, .nil => by simp; exact .nil
  | _, _, n + 1, .cons h r => by simp; exact RepPs.drop n r
theorem RepPs.reverse : ∀ {xs : List P} {vs : List V}, RepPs K Z xs vs → RepPs K Z xs.reverse vs.reverse
  | _, _, .nil => .nil
  | _, _, .cons h r => by
    rw [List.reverse_cons, List.reverse_cons]
    exact RepPs.append (RepPs.reverse r) (.cons h .nil)
theorem RepPs.ints : ∀ (ns : List Int), RepPs K Z (ns.map P.int) (ns.map V.int)
  | [] => .nil
  | n :: ns => .cons (.int n) (RepPs.ints ns)

/-- lists in a list, all of them one's own -/
inductive RepLL (K : PySem.W.Frag) (Z H : Hp) : List (List P) → List Addr → Prop
  | nil : RepLL K Z H [] []
  | cons {b : Addr} {vs : List V} {xs : List P} {xss : List (List P)} {bs : List Addr} : H b = some (.lst vs) → RepPs K Z xs vs → RepLL K Z H xss bs → RepLL K Z H (xs :: xss) (b :: bs)
theorem RepLL.keep (e : Ex Z Z') {xss : List (List P)} {bs : List Addr} (r : RepLL K Z H xss bs) (k : ∀ a ∈ bs, H' a = H a) : RepLL K Z' H' xss bs := by
  induction r with
  | nil => exact .nil
  | cons h r _ ih => exact .cons (by rw [k _ (by simp)]; exact h) (r.mono e) (ih fun a ha => k a (List.mem_cons_of_mem _ ha))
theorem RepLL.al {xss : List (List P)} {bs : List Addr} (r : RepLL K Z H xss bs) : ∀ a ∈ bs, ∃ o, H a = some o := by
  induction r with
  | nil => simp
  | cons h r _ ih =>
    intro a ha
    rcases List.mem_cons.mp ha with rfl | ha
    · exact ⟨_, h⟩
    · exact ih a ha
theorem RepLL.length {xss : List (List P)} {bs : List Addr} (r : RepLL K Z H xss bs) : xss.length = bs.length := by
  induction r with
  | nil => rfl
  | cons _ _ _ ih => simp [ih]
inductive RepD (K : PySem.W.Frag) (Z H : Hp) : D → V → List Addr → Prop
  | p {x : P} {v : V} : RepP K Z x v → RepD K Z H (.p x) v []
  | pl {a : Addr} {vs : List V} {xs : List P} : H a = some (.lst vs) → RepPs K Z xs vs → RepD K Z H (.pl xs) (.ref a) [a]
  | st {a g c : Addr} {s : DSt} : H a = some (.dK [(.inr "great", .ref g), (.inr "cells", .ref c), (.inr "rest", .int s.rest), (.inr "turn", .int s.turn)]) →
      H g = some (.lst (s.great.map V.int)) → SqL K Z c (s.cells.map V.int) → a ≠ g → RepD K Z H (.st s) (.ref a) [a, g]
  | pll {a : Addr} {bs : List Addr} {xss : List (List P)} : H a = some (.lst (bs.map V.ref)) → RepLL K Z H xss bs → (a :: bs).Nodup → RepD K Z H (.pll xss) (.ref a) (a :: bs)
  | tab {P : Addr} {q : Str} {ps : Array Value} : H P = some (.tbl ps) → TriplesOk ps.toList → (∀ (pos : Pos) (cv : Value), codeAmong pos ps.toList = some cv → ∃ c, cv = .ref c ∧ Z c = some (LamX.CodeO c q)) → RepD K Z H (.tab P q) (.ref P) [P]
theorem RepD.keep (e : Ex Z Z') {d : D} {v : V} {fp : List Addr} (r : RepD K Z H d v fp) (k : ∀ a ∈ fp, H' a = H a) : RepD K Z' H' d v fp := by
  cases r with
  | p h => exact .p (h.mono e)
  | pl h r => exact .pl (by rw [k _ (by simp)]; exact h) (r.mono e)
  | st h1 h2 h3 h4 => exact .st (by rw [k _ (by simp)]; exact h1) (by rw [k _ (by simp)]; exact h2) (Evl.ex_l e h3) h4
  | pll h1 h2 h3 => exact .pll (by rw [k _ (by simp)]; exact h1) (h2.keep e fun a ha => k a (List.mem_cons_of_mem _ ha)) h3
  | tab h1 h2 h3 => exact .tab (by rw [k _ (by simp)]; exact h1) h2 fun pos cv hc => (h3 pos cv hc).elim fun c z => ⟨c, z.1, e _ _ z.2⟩
theorem RepD.al {d : D} {v : V} {fp : List Addr} (r : RepD K Z H d v fp) : ∀ a ∈ fp, ∃ o, H a = some o := by
  cases r with
  | p h => simp
  | pl h r => simp [h]
  | st h1 h2 h3 h4 => simp [h1, h2]
  | pll h1 h2 h3 =>
    intro a ha
    rcases List.mem_cons.mp ha with rfl | ha
    · exact ⟨_, h1⟩
    · exact h2.al a ha
  | tab h1 h2 h3 => simp [h1]
theorem RepD.nd {d : D} {v : V} {fp : List Addr} (r : RepD K Z H d v fp) : fp.Nodup := by
  cases r with
  | p h => simp
  | pl h r => simp
  | st h1 h2 h3 h4 => simp [h4]
  | pll h1 h2 h3 => exact h3
  | tab h1 h2 h3 => simp

inductive EnvR (K : PySem.W.Frag) (Z H : Hp) : Env → St → List (List Addr) → Prop
  | nil : EnvR K Z H [] [] []
  | no {es : Env} {σ : St} {fs : List (List Addr)} (o : Option V) : EnvR K Z H es σ fs → EnvR K Z H (none :: es) (o :: σ) ([] :: fs)
  | so {d : D} {v : V} {fp : List Addr} {es : Env} {σ : St} {fs : List (List Addr)} : RepD K Z H d v fp → EnvR K Z H es σ fs → EnvR K Z H (some d :: es) (some v :: σ) (fp :: fs)
theorem EnvR.keep (e : Ex Z Z') {es : Env} {σ : St} {fs : List (List Addr)} (r : EnvR K Z H es σ fs) (k : ∀ a ∈ fs.flatten, H' a = H a) : EnvR K Z' H' es σ fs := by
  induction r with
  | nil => exact .nil
  | no o r ih => exact .no o (ih fun a ha => k a (by simpa using ha))
  | so h r ih => exact .so (h.keep e fun a ha => k a (by simp [ha])) (ih fun a ha => k a (by rw [List.flatten_cons]; exact List.mem_append_right _ ha))
theorem EnvR.al {es : Env} {σ : St} {fs : List (List Addr)} (r : EnvR K Z H es σ fs) : ∀ a ∈ fs.flatten, ∃ o, H a = some o := by
  induction r with
  | nil => simp
  | no o r ih => simpa using ih
  | so h r ih =>
    intro a ha
    rw [List.flatten_cons] at ha
    rcases List.mem_append.mp ha with ha | ha
    · exact h.al a ha
    · exact ih a ha
theorem EnvR.len {es : Env} {σ : St} {fs : List (List Addr)} (r : EnvR K Z H es σ fs) : es.length = σ.length ∧ fs.length = σ.length := by
  induction r with
  | nil => simp
  | no o r ih => simp [ih.1, ih.2]
  | so h r ih => simp [ih.1, ih.2]
/-- a slot that holds something -/
theorem EnvR.at {es : Env} {σ : St} {fs : List (List Addr)} (r : EnvR K Z H es σ fs) : ∀ {i : Nat} {d : D}, getE es i = some d → ∃ v fp, σ[i]? = some (some v) ∧ fs[i]? = some fp ∧ RepD K Z H d v fp := by
  induction r with
  | nil => intro i d h; simp [getE] at h
  | no o r ih =>
    intro i d h
    cases i with
    | zero => simp [getE] at h
    | succ i =>
      obtain ⟨v, fp, h1, h2, h3⟩ := ih (i := i) (d := d) (by simpa [getE] using h)
      exact ⟨v, fp, by simpa using h1, by simpa using h2, h3⟩
  | so hd r ih =>
    intro i d h
    cases i with
    | zero => simp [getE] at h; subst h; exact ⟨_, _, rfl, rfl, hd⟩
    | succ i =>
      obtain ⟨v, fp, h1, h2, h3⟩ := ih (i := i) (d := d) (by simpa [getE] using h)
      exact ⟨v, fp, by simpa using h1, by simpa using h2, h3⟩
/-- the footprint without a slot's own -/
theorem mem_flatten_set {fs : List (List Addr)} {i : Nat} {fp : List Addr} {a : Addr} (h : a ∈ (fs.set i fp).flatten) : a ∈ fp ∨ a ∈ fs.flatten := by
  rw [List.mem_flatten] at h ⊢
  obtain ⟨l, h1, h2⟩ := h
  rcases List.mem_or_eq_of_mem_set h1 with h1 | rfl
  · exact .inr ⟨l, h1, h2⟩
  · exact .inl h2
/-- a slot is emptied or filled; the slot of the frame may be stored too -/
theorem EnvR.setN {es : Env} {σ : St} {fs : List (List Addr)} (r : EnvR K Z H es σ fs) : ∀ (i : Nat), EnvR K Z H (es.set i none) σ (fs.set i []) := by
  induction r with
  | nil => intro i; simp; exact .nil
  | no o r ih => intro i; cases i with
    | zero => exact .no o r
    | succ i => exact .no o (ih i)
  | so h r ih => intro i; cases i with
    | zero => exact .no _ r
    | succ i => exact .so h (ih i)
theorem EnvR.setV {es : Env} {σ : St} {fs : List (List Addr)} (r : EnvR K Z H es σ fs) : ∀ (i : Nat) (o : Option V), EnvR K Z H (es.set i none) (σ.set i o) (fs.set i []) := by
  induction r with
  | nil => intro i o; simp; exact .nil
  | no o r ih => intro i o'; cases i with
    | zero => exact .no o' r
    | succ i => exact .no o (ih i o')
  | so h r ih => intro i o'; cases i with
    | zero => exact .no _ r
    | succ i => exact .so h (ih i o')
theorem EnvR.setS {es : Env} {σ : St} {fs : List (List Addr)} (r : EnvR K Z H es σ fs) {d : D} {v : V} {fp : List Addr} (h : RepD K Z H d v fp) : ∀ (i : Nat), EnvR K Z H (es.set i (some d)) (σ.set i (some v)) (fs.set i fp) := by
  induction r with
  | nil => intro i; simp; exact .nil
  | no o r ih => intro i; cases i with
    | zero => exact .so h r
    | succ i => exact .no o (ih i)
  | so h' r ih => intro i; cases i with
    | zero => exact .so h r
    | succ i => exact .so h' (ih i)
theorem set_get_self {α : Type} {l : List α} {i : Nat} {x : α} (h : l[i]? = some x) : l.set i x = l := by
  apply List.ext_getElem?
  intro j
  by_cases e : i = j
  · subst e
    rw [List.getElem?_set_self (List.getElem?_eq_some_iff.mp h).1, h]
  · rw [List.getElem?_set_ne e]
/-- a slot's object changes its value -/
theorem EnvR.setD {es : Env} {σ : St} {fs : List (List Addr)} (r : EnvR K Z H es σ fs) {i : Nat} {d : D} {v : V} {fp : List Addr} (hv : σ[i]? = some (some v)) (h : RepD K Z H d v fp) : EnvR K Z H (es.set i (some d)) σ (fs.set i fp) := by
  have := r.setS h i
  rwa [set_get_self hv] at this

structure Good (K : PySem.W.Frag) (Z H : Hp) (env : Env) (σ : St) (fps : List (List Addr)) : Prop where
  zle : Ex Z H
  rep : EnvR K Z H env σ fps
  nd : fps.flatten.Nodup
  zd : ∀ a ∈ fps.flatten, Z a = none
structure Stp (Z H : Hp) (F : List Addr) (Z' H' : Hp) (F' : List Addr) : Prop where
  zz : Ex Z Z'
  fr : ∀ a o, H a = some o → a ∉ F → H' a = some o
  nw : ∀ a ∈ F', a ∈ F ∨ H a = none
  zn : ∀ a o, Z' a = some o → Z a = some o ∨ a ∈ F ∨ H a = none
/-- behind a piece of code: fp is what is in the hand -/
structure Post (K : PySem.W.Frag) (Z H : Hp) (F : List Addr) (Z' H' : Hp) (env : Env) (σ : St) (fps : List (List Addr)) (fp : List Addr) : Prop where
  stp : Stp Z H F Z' H' (fp ++ fps.flatten)
  good : Good K Z' H' env σ fps
  dj : ∀ a ∈ fp, a ∉ fps.flatten
  nd : fp.Nodup
  zd : ∀ a ∈ fp, Z' a = none
  al : ∀ a ∈ fp, ∃ o, H' a = some o
variable {Z1 Z2 H1 H2 : Hp} {F F1 F2 G fp fp1 fp2 : List Addr} {env env1 env2 : Env} {σ σ1 σ2 : St} {fps fps1 fps2 : List (List Addr)}
theorem Stp.refl : Stp Z H F Z H F := ⟨Evl.Ex.refl _, fun _ _ h _ => h, fun _ h => .inl h, fun _ _ h => .inl h⟩
theorem Stp.comp (a : Stp Z H F Z1 H1 (G ++ F1)) (b : Stp Z1 H1 F1 Z2 H2 F2) : Stp Z H F Z2 H2 (G ++ F2) := by
  have back : ∀ x, x ∈ F1 ∨ H1 x = none → x ∈ F ∨ H x = none := fun x hx => by
    rcases hx with hx | hx
    · exact a.nw x (List.mem_append_right _ hx)
    · by_cases hF : x ∈ F
      · exact .inl hF
      · cases e : H x with
        | none => exact .inr rfl
        | some o => rw [a.fr x o e hF] at hx; cases hx
  refine ⟨a.zz.trans b.zz, fun x o hx hF => b.fr x o (a.fr x o hx hF) fun h1 => ?_, fun x hx => ?_, fun x o hx => ?_⟩
  · rcases a.nw x (List.mem_append_right _ h1) with z | z
    · exact hF z
    · rw [hx] at z; cases z
  · rcases List.mem_append.mp hx with hx | hx
    · exact a.nw x (List.mem_append_left _ hx)
    · exact back x (b.nw x hx)
  · rcases b.zn x o hx with z | z
    · exact a.zn x o z
    · exact .inr (back x z)
theorem Stp.sub (a : Stp Z H F Z1 H1 F1) (h : ∀ x ∈ F2, x ∈ F1) : Stp Z H F Z1 H1 F2 := ⟨a.zz, a.fr, fun x hx => a.nw x (h x hx), a.zn⟩
theorem Good.start (g : Good K Z H env σ fps) : Post K Z H fps.flatten Z H env σ fps [] := ⟨by simpa using Stp.refl, g, by simp, by simp, by simp, by simp⟩
theorem Post.comp (a : Post K Z H F Z1 H1 env1 σ1 fps1 fp1) (b : Post K Z1 H1 fps1.flatten Z2 H2 env2 σ2 fps2 fp2) : Post K Z H F Z2 H2 env2 σ2 fps2 (fp1 ++ fp2) := by
  have ap : ∀ x ∈ fp1, x ∉ fp2 ++ fps2.flatten := fun x hx hy => by
    rcases b.stp.nw x hy with z | z
    · exact a.dj x hx z
    · obtain ⟨o, e⟩ := a.al x hx
      rw [e] at z; cases z
  refine ⟨?_, b.good, fun x hx => ?_, ?_, fun x hx => ?_, fun x hx => ?_⟩
  · have := Stp.comp a.stp b.stp
    rwa [← List.append_assoc] at this
  · rcases List.mem_append.mp hx with hx | hx
    · exact fun h => ap x hx (List.mem_append_right _ h)
    · exact b.dj x hx
  · refine List.nodup_append.mpr ⟨a.nd, b.nd, fun x hx y hy e => ?_⟩
    subst e
    exact ap x hx (List.mem_append_left _ hy)
  · rcases List.mem_append.mp hx with hx | hx
    · cases e : Z2 x with
      | none => rfl
      | some o =>
        rcases b.stp.zn x o e with z | z | z
        · rw [a.zd x hx] at z; cases z
        · exact absurd z (a.dj x hx)
        · obtain ⟨o, e⟩ := a.al x hx
          rw [e] at z; cases z
    · exact b.zd x hx
  · rcases List.mem_append.mp hx with hx | hx
    · obtain ⟨o, e⟩ := a.al x hx
      exact ⟨o, b.stp.fr x o e (a.dj x hx)⟩
    · exact b.al x hx
/-- what was in the hand stays as it is -/
theorem Post.held (a : Post K Z H F Z1 H1 env1 σ1 fps1 fp1) (b : Post K Z1 H1 fps1.flatten Z2 H2 env2 σ2 fps2 fp2) {d : D} {v : V} {q : List Addr} (r : RepD K Z1 H1 d v q) (hq : ∀ x ∈ q, x ∈ fp1) : RepD K Z2 H2 d v q :=
  r.keep b.stp.zz fun x hx => by
    obtain ⟨o, e⟩ := r.al x hx
    rw [e]
    exact b.stp.fr x o e (a.dj x (hq x hx))
theorem Post.sub (a : Post K Z H F Z1 H1 env1 σ1 fps1 fp1) (h : ∀ x ∈ fp2, x ∈ fp1) (nd : fp2.Nodup) : Post K Z H F Z1 H1 env1 σ1 fps1 fp2 :=
  ⟨a.stp.sub fun x hx => by
    rcases List.mem_append.mp hx with hx | hx
    · exact List.mem_append_left _ (h x hx)
    · exact List.mem_append_right _ hx, a.good, fun x hx => a.dj x (h x hx), nd, fun x hx => a.zd x (h x hx), fun x hx => a.al x (h x hx)⟩
theorem Post.drop (a : Post K Z H F Z1 H1 env1 σ1 fps1 fp1) : Post K Z H F Z1 H1 env1 σ1 fps1 [] := a.sub (by simp) (by simp)
end
end Ev
end

section
set_option Elab.async false
set_option linter.all false
/-! Ev4: the judgement: a piece of Python does what the evaluator says. -/
namespace Ev
open PySem L2

/-- what a judgement is about: the written part, the classes' addresses, the wish about exceptions, the calls -/
structure J where
  K : PySem.W.Frag
  ca : Str → Option Addr
  W : WX
  Γ : Calls

def RO (K : PySem.W.Frag) (t : T) (Z H : Hp) (σ : St) (d : D) (v : V) (fp : List Addr) : Prop := match t with
  | .pk i => fp = [] ∧ σ[i]? = some (some v)
  | _ => RepD K Z H d v fp
def ExcR (j : J) (Z : Hp) (c : Str) (fs : Flds) (cls : Value) (dx : Option Addr) : Prop :=
  ∃ C, j.ca c = some C ∧ cls = .ref C ∧ match fs with
    | [] => True
    | [(f, x)] => ∃ d v, dx = some d ∧ Z d = some (.xd [(f, v)]) ∧ RepP j.K Z x v
    | _ => False
/-- what is wanted of an exception -/
def PostX (j : J) (Z H : Hp) (F : List Addr) (σ : St) (c : Str) (fs : Flds) (e : Env) : Prop :=
  ∀ Z' H' fps' cls dx, Post j.K Z H F Z' H' e σ fps' [] → ExcR j Z' c fs cls dx → j.W cls dx σ H'
def PostO (j : J) (Z H : Hp) (F : List Addr) (σ : St) (t : T) (Q : VK) : Out → Prop
  | .ok d e => ∀ Z' H' fps' fp v, Post j.K Z H F Z' H' e σ fps' fp → RO j.K t Z' H' σ d v fp → Q v H'
  | .exc c fs e => PostX j Z H F σ c fs e
  | .bad => False
def PostT (j : J) (Z H : Hp) (F : List Addr) (σ : St) (t : T) (Q : Bool → Hp → Prop) : Out → Prop
  | .ok d e => ∃ b, fin t d e = some (.p (.bl b)) ∧ ∀ Z' H' fps', Post j.K Z H F Z' H' e σ fps' [] → Q b H'
  | .exc c fs e => PostX j Z H F σ c fs e
  | .bad => False
def PostL (j : J) (Z H : Hp) (F : List Addr) (σ : St) (Q : List V → Hp → Prop) (R : Hp → Hp → List (List Addr) → Env → List D → List V → List Addr → Prop) : OutL → Prop
  | .ok ds e => ∀ Z' H' fps' fp vs, Post j.K Z H F Z' H' e σ fps' fp → R Z' H' fps' e ds vs fp → Q vs H'
  | .exc c fs e => PostX j Z H F σ c fs e
  | .bad => False
def tE (j : J) (t : T) : TE := fun σ H Q => ∃ Z env fps, Good j.K Z H env σ fps ∧ PostO j Z H fps.flatten σ t Q (evT j.Γ t env)
def tT (j : J) (t : T) : TT := fun σ H Q => ∃ Z env fps, Good j.K Z H env σ fps ∧ PostT j Z H fps.flatten σ t Q (evT j.Γ t env)
def EOk (X : L2.Cx) (j : J) (t : T) (e : Expr) : Prop := PE X e (tE j t)
def TOk (X : L2.Cx) (j : J) (t : T) (e : Expr) : Prop := PT X e (tT j t)

theorem imp {X : L2.Cx} {e : Expr} {t t' : TE} (h : PE X e t) (w : ∀ σ H Q, t' σ H Q → t σ H Q) : PE X e t' := ⟨fun p s σ H Q I q => h.run p s σ H Q I (w σ H Q q)⟩
theorem impT {X : L2.Cx} {e : Expr} {t t' : TT} (h : PT X e t) (w : ∀ σ H Q, t' σ H Q → t σ H Q) : PT X e t' := ⟨fun p s σ H Q I q => h.run p s σ H Q I (w σ H Q q)⟩

section
variable {j : J} {Z H Z1 H1 Z2 H2 : Hp} {F fp fp1 fp2 : List Addr} {env e1 e2 : Env} {σ : St} {fps fps1 fps2 : List (List Addr)} {t t0 a b : T} {Q Q' : VK} {d : D} {v : V}
theorem RO.of (h : RepD j.K Z H d v fp) (n : ∀ i, t ≠ .pk i) : RO j.K t Z H σ d v fp := by
  unfold RO
  split
  · exact absurd rfl (n _)
  · exact h
theorem RO.rep (h : RO j.K t Z H σ d v fp) (n : ∀ i, t ≠ .pk i) : RepD j.K Z H d v fp := by
  unfold RO at h
  split at h
  · exact absurd rfl (n _)
  · exact h
/-- an exception on the way is one of the whole -/
theorem PostX.from (p : Post j.K Z H F Z1 H1 e1 σ fps1 fp1) {c : Str} {fs : Flds} {e : Env} (h : PostX j Z H F σ c fs e) : PostX j Z1 H1 fps1.flatten σ c fs e :=
  fun Z' H' fps' cls dx q x => h Z' H' fps' cls dx (p.comp q).drop x
/-- a further step: p is what was done, h what is wanted of the whole -/
theorem next (p : Post j.K Z H F Z1 H1 e1 σ fps1 fp1) {f : D → Env → Out} (h : PostO j Z H F σ t0 Q ((evT j.Γ b e1).bind f))
    (k : ∀ d e2 Z2 H2 fps2 fp2 v, Post j.K Z1 H1 fps1.flatten Z2 H2 e2 σ fps2 fp2 → Post j.K Z H F Z2 H2 e2 σ fps2 (fp1 ++ fp2) → RO j.K b Z2 H2 σ d v fp2 → PostO j Z H F σ t0 Q (f d e2) → Q' v H2) :
    PostO j Z1 H1 fps1.flatten σ b Q' (evT j.Γ b e1) := by
  cases e : evT j.Γ b e1 with
  | ok d e2 =>
    rw [e] at h
    exact fun Z2 H2 fps2 fp2 v q r => k d e2 Z2 H2 fps2 fp2 v q (p.comp q) r h
  | exc c fs e' =>
    rw [e] at h
    exact PostX.from p h
  | bad =>
    rw [e] at h
    exact h
theorem nextT (p : Post j.K Z H F Z1 H1 e1 σ fps1 fp1) {f : D → Env → Out} {Q' : Bool → Hp → Prop} (h : PostO j Z H F σ t0 Q ((evT j.Γ b e1).bind fun x e => match fin b x e with
      | some x => onB x fun k => f (.p (.bl k)) e
      | none => .bad))
    (k : ∀ c e2 Z2 H2 fps2, Post j.K Z1 H1 fps1.flatten Z2 H2 e2 σ fps2 [] → Post j.K Z H F Z2 H2 e2 σ fps2 fp1 → PostO j Z H F σ t0 Q (f (.p (.bl c)) e2) → Q' c H2) :
    PostT j Z1 H1 fps1.flatten σ b Q' (evT j.Γ b e1) := by
  cases e : evT j.Γ b e1 with
  | ok d e2 =>
    rw [e] at h
    dsimp only [Out.bind] at h
    cases ef : fin b d e2 with
    | none => rw [ef] at h; exact h.elim
    | some x =>
      rw [ef] at h
      dsimp only at h
      unfold onB at h
      split at h
      · rename_i c
        exact ⟨c, ef, fun Z2 H2 fps2 q => k c e2 Z2 H2 fps2 q (by simpa using p.comp q) h⟩
      · exact h.elim
  | exc c fs e' =>
    rw [e] at h
    exact PostX.from p h
  | bad =>
    rw [e] at h
    exact h
/-- an operand, when all is there -/
theorem RO.get (r : RO j.K t Z1 H1 σ d v fp1) (p : Post j.K Z H F Z1 H1 e1 σ fps1 fp1) (q : Post j.K Z1 H1 fps1.flatten Z2 H2 e2 σ fps2 fp2) {x : D} (hx : fin t d e2 = some x) : ∃ f, RepD j.K Z2 H2 x v f := by
  unfold RO at r
  split at r
  · obtain ⟨v', f, h1, h2, h3⟩ := q.good.rep.at (show getE e2 _ = some x from hx)
    rw [r.2] at h1
    cases h1
    exact ⟨f, h3⟩
  · rename_i n
    have : some d = some x := by
      unfold Ev.fin at hx
      split at hx
      · exact absurd rfl (n _)
      · exact hx
    cases this
    exact ⟨fp1, p.held q r fun x h => h⟩
/-- .. the last one -/
theorem RO.get0 (r : RO j.K t Z1 H1 σ d v fp1) (p : Post j.K Z H F Z1 H1 e1 σ fps1 fp1) {x : D} (hx : fin t d e1 = some x) : ∃ f, RepD j.K Z1 H1 x v f :=
  RO.get r p p.good.start hx
/-- a new value comes -/
def Mk (K : PySem.W.Frag) (Z H : Hp) (r : D) (Q : VK) : Prop := ∀ Z' H' v fp, Stp Z H [] Z' H' fp → Ex Z' H' → RepD K Z' H' r v fp → (∀ a ∈ fp, Z' a = none) → Q v H'
theorem Post.mk1 (p : Post j.K Z H F Z1 H1 e1 σ fps1 fp1) (s : Stp Z1 H1 [] Z2 H2 fp) (ex : Ex Z2 H2) (r : RepD j.K Z2 H2 d v fp) (z : ∀ a ∈ fp, Z2 a = none) : Post j.K Z H F Z2 H2 e1 σ fps1 fp := by
  have al : ∀ a ∈ fps1.flatten, ∃ o, H1 a = some o := p.good.rep.al
  have nw : ∀ a ∈ fp, H1 a = none := fun a ha => (s.nw a ha).resolve_left (by simp)
  have kp : ∀ a ∈ fps1.flatten, H2 a = H1 a := fun a ha => by
    obtain ⟨o, e⟩ := al a ha
    rw [e]
    exact s.fr a o e (by simp)
  have dj : ∀ a ∈ fp, a ∉ fps1.flatten := fun a ha hb => by
    obtain ⟨o, e⟩ := al a hb
    rw [nw a ha] at e; cases e
  have q : Post j.K Z1 H1 fps1.flatten Z2 H2 e1 σ fps1 fp := ⟨⟨s.zz, fun a o h _ => s.fr a o h (by simp), fun a ha => by
      rcases List.mem_append.mp ha with h | h
      · exact .inr (nw a h)
      · exact .inl h, fun a o h => (s.zn a o h).elim .inl fun h => h.elim (fun h => absurd h (by simp)) fun h => .inr (.inr h)⟩,
    ⟨ex, p.good.rep.keep s.zz kp, p.good.nd, fun a ha => by
      cases e : Z2 a with
      | none => rfl
      | some o =>
        rcases s.zn a o e with h | h | h
        · rw [p.good.zd a ha] at h; cases h
        · simp at h
        · obtain ⟨o, e'⟩ := al a ha
          rw [e'] at h; cases h⟩, dj, r.nd, z, r.al⟩
  exact (p.comp q).sub (fun x hx => List.mem_append_right _ hx) r.nd
theorem Mk.of (p : Post j.K Z H F Z1 H1 e1 σ fps1 fp1) {r : D} (n : ∀ i, t ≠ .pk i) (h : PostO j Z H F σ t Q (.ok r e1)) : Mk j.K Z1 H1 r Q :=
  fun Z' H' v fp s ex rr z => h Z' H' fps1 fp v (p.mk1 s ex rr z) (RO.of rr n)
theorem Mk.p {K : PySem.W.Frag} {x : P} (ex : Ex Z H) (m : Mk K Z H (.p x) Q) (r : RepP K Z x v) : Q v H := m Z H v [] Stp.refl ex (.p r) (by simp)
theorem stp_new {o : HO} {p : Addr} (ex : Ex Z H) (n : H p = none) : Stp Z H [] Z (upd H p o) [p] :=
  ⟨Evl.Ex.refl _, fun a u h _ => by rw [upd_ne (ne_of_none h n)]; exact h, fun a h => .inr (by simp at h; rw [h]; exact n), fun a u h => .inl h⟩
theorem stp_newZ {o : HO} {p : Addr} (ex : Ex Z H) (n : H p = none) : Stp Z H [] (upd Z p o) (upd H p o) [] := by
  have nz : Z p = none := Evl.fresh_back ex n
  refine ⟨Evl.Ex.new nz, fun a u h _ => by rw [upd_ne (ne_of_none h n)]; exact h, by simp, fun a u h => ?_⟩
  by_cases e : a = p
  · subst e; exact .inr (.inr n)
  · rw [upd_ne e] at h; exact .inl h
theorem ex_upd2 {o : HO} {p : Addr} (ex : Ex Z H) : Ex (upd Z p o) (upd H p o) := fun a u h => by
  by_cases e : a = p
  · subst e; rw [upd_same] at h ⊢; exact h
  · rw [upd_ne e] at h ⊢; exact ex a u h
/-- a new list, a new tuple -/
theorem Mk.pl {K : PySem.W.Frag} {xs : List P} {vs : List V} {p : Addr} (ex : Ex Z H) (m : Mk K Z H (.pl xs) Q) (r : RepPs K Z xs vs) (n : H p = none) : Q (.ref p) (upd H p (.lst vs)) :=
  m Z _ _ [p] (stp_new ex n) (fun a u h => by rw [upd_ne (ne_of_none (ex a u h) n)]; exact ex a u h) (.pl upd_same r) (fun a h => by simp at h; rw [h]; exact Evl.fresh_back ex n)
theorem Mk.tup {K : PySem.W.Frag} {xs : List P} {vs : List V} {p : Addr} (ex : Ex Z H) (m : Mk K Z H (.p (.tup xs)) Q) (r : RepPs K Z xs vs) (n : H p = none) : Q (.ref p) (upd H p (.tup vs)) :=
  m _ _ _ [] (stp_newZ ex n) (ex_upd2 ex) (.p (.tup (SqT.of upd_same) (r.mono (Evl.Ex.new (Evl.fresh_back ex n))))) (by simp)
end

/-! ### a slot's footprint -/
theorem flatten_take {f : List Addr} : ∀ {fps : List (List Addr)} {i : Nat}, fps[i]? = some f → (f ++ (fps.set i []).flatten).Perm fps.flatten
  | [], _, h => by simp at h
  | g :: gs, 0, h => by simp at h; subst h; simp
  | g :: gs, i + 1, h => by
    have ih := flatten_take (f := f) (fps := gs) (i := i) (by simpa using h)
    show (f ++ (g ++ (gs.set i []).flatten)).Perm (g ++ gs.flatten)
    rw [← List.append_assoc]
    refine (List.Perm.append_right _ List.perm_append_comm).trans ?_
    rw [List.append_assoc]
    exact List.Perm.append_left _ ih
theorem flatten_put {f : List Addr} : ∀ {fps : List (List Addr)} {i : Nat}, i < fps.length → (fps.set i f).flatten.Perm (f ++ (fps.set i []).flatten)
  | [], _, h => by simp at h
  | g :: gs, 0, h => by simp
  | g :: gs, i + 1, h => by
    have ih := flatten_put (f := f) (fps := gs) (i := i) (by simpa using h)
    show (g ++ (gs.set i f).flatten).Perm (f ++ (g ++ (gs.set i []).flatten))
    refine (List.Perm.append_left g ih).trans ?_
    rw [← List.append_assoc, ← List.append_assoc]
    exact List.Perm.append_right _ List.perm_append_comm
section
variable {K : PySem.W.Frag} {Z H Z1 H1 : Hp} {F fp f : List Addr} {env : Env} {σ : St} {fps : List (List Addr)} {i : Nat} {d : D} {v : V}
/-- a slot's object is taken out -/
theorem Post.take (p : Post K Z H F Z1 H1 env σ fps []) (h2 : fps[i]? = some f) : Post K Z H F Z1 H1 (env.set i none) σ (fps.set i []) f := by
  have pm := flatten_take (i := i) h2
  have nd := pm.symm.nodup p.good.nd
  refine ⟨p.stp.sub fun x hx => by simpa using pm.mem_iff.mp hx, ⟨p.good.zle, p.good.rep.setN i, (List.nodup_append.mp nd).2.1, fun a ha => p.good.zd a (pm.mem_iff.mp (List.mem_append_right _ ha))⟩, fun a ha hb => (List.nodup_append.mp nd).2.2 a ha a hb rfl,
    (List.nodup_append.mp nd).1, fun a ha => p.good.zd a (pm.mem_iff.mp (List.mem_append_left _ ha)), fun a ha => p.good.rep.al a (pm.mem_iff.mp (List.mem_append_left _ ha))⟩
/-- what is in the hand is put into an empty slot -/
theorem Post.put (p : Post K Z H F Z1 H1 env σ fps (f ++ fp)) (h1 : fps[i]? = some []) (hr : EnvR K Z1 H1 (env.set i (some d)) σ (fps.set i f)) : Post K Z H F Z1 H1 (env.set i (some d)) σ (fps.set i f) fp := by
  have hl := (List.getElem?_eq_some_iff.mp h1).1
  have e : fps.set i [] = fps := set_get_self h1
  have pm := flatten_put (f := f) hl
  rw [e] at pm
  have nd := List.nodup_append.mp p.nd
  have mem : ∀ a, a ∈ (fps.set i f).flatten ↔ a ∈ f ∨ a ∈ fps.flatten := fun a => by rw [pm.mem_iff, List.mem_append]
  refine ⟨p.stp.sub fun x hx => ?_, ⟨p.good.zle, hr, ?_, fun a ha => ?_⟩, fun a ha hb => ?_, nd.2.1, fun a ha => p.zd a (List.mem_append_right _ ha), fun a ha => p.al a (List.mem_append_right _ ha)⟩
  · rcases List.mem_append.mp hx with hx | hx
    · exact List.mem_append_left _ (List.mem_append_right _ hx)
    · rcases (mem x).mp hx with hx | hx
      · exact List.mem_append_left _ (List.mem_append_left _ hx)
      · exact List.mem_append_right _ hx
  · exact pm.symm.nodup (List.nodup_append.mpr ⟨nd.1, p.good.nd, fun x hx y hy e => p.dj x (List.mem_append_left _ hx) (e ▸ hy)⟩)
  · rcases (mem a).mp ha with ha | ha
    · exact p.zd a (List.mem_append_left _ ha)
    · exact p.good.zd a ha
  · rcases (mem a).mp hb with hb | hb
    · exact nd.2.2 a hb a ha rfl
    · exact p.dj a (List.mem_append_right _ ha) hb
end

/-! ### names and constants -/
section
variable {X : L2.Cx} {j : J} {pos : Pos}
theorem ok_var {i : Nat} {x : Str} (hN : X.N[i]? = some x) (hv : Vis X.env.scope x) (hd : (x == ("__debug__" : Str)) = false) (hcd : (x == ("__classdict__" : Str)) = false) : EOk X j (.var i) (.Name x pos) := by
  refine imp (pe_var hN hv hd hcd) fun σ H Q ⟨Z, env, fps, G, h⟩ => ?_
  unfold evT at h
  cases e : getE env i with
  | none => rw [e] at h; exact h.elim
  | some d =>
    obtain ⟨v, f, h1, h2, h3⟩ := G.rep.at e
    refine ⟨v, h1, ?_⟩
    rw [e] at h
    have mv : PostO j Z H fps.flatten σ (.var i) Q (.ok d (env.set i none)) → Q v H := fun h => h Z H _ f v (G.start.take h2) h3
    cases d with
    | p x =>
      cases h3 with
      | p h3 => exact h Z H fps [] v G.start (.p h3)
    | pl xs => exact mv h
    | pd xs => exact mv h
    | st s => exact mv h
    | pll s => exact mv h
    | tab p q => exact mv h
theorem ok_pk {i : Nat} {x : Str} (hN : X.N[i]? = some x) (hv : Vis X.env.scope x) (hd : (x == ("__debug__" : Str)) = false) (hcd : (x == ("__classdict__" : Str)) = false) : EOk X j (.pk i) (.Name x pos) := by
  refine imp (pe_var hN hv hd hcd) fun σ H Q ⟨Z, env, fps, G, h⟩ => ?_
  unfold evT at h
  cases e : getE env i with
  | none => rw [e] at h; exact h.elim
  | some d =>
    obtain ⟨v, f, h1, h2, h3⟩ := G.rep.at e
    rw [e] at h
    exact ⟨v, h1, h Z H fps [] v G.start ⟨rfl, h1⟩⟩
theorem ok_lit {x : P} {v : V} {e : Expr} (h : PE X e (tC v)) (r : ∀ Z, RepP j.K Z x v) : EOk X j (.lit x) e := by
  refine imp h fun σ H Q ⟨Z, env, fps, G, h⟩ => ?_
  unfold evT at h
  exact h Z H fps [] v G.start (.p (r Z))
end
end Ev
end

section
set_option Elab.async false
set_option linter.all false
/-! Ev5: operators, comparisons, and or not, if else. -/
namespace Ev
open PySem L2

mutual
theorem RepP.dp {K : PySem.W.Frag} {Z : Hp} : ∀ {x : P} {v : V} {d : PyData}, RepP K Z x v → x.data = some d → Dp K Z v d
  | _, _, _, .non, e => by simp [P.data] at e; subst e; exact .non
  | _, _, _, .bl b, e => by simp [P.data] at e; subst e; exact .bl b
  | _, _, _, .int i, e => by simp [P.data] at e; subst e; exact .int i
  | _, _, _, .str s, e => by simp [P.data] at e; subst e; exact .str s
  | _, _, _, .tup h r, e => by
    simp [P.data] at e
    obtain ⟨ds, e, rfl⟩ := e
    exact .tup h (RepPs.dp r e)
  | _, _, _, .fl h r, e => by
    simp [P.data] at e
    obtain ⟨ds, e, rfl⟩ := e
    exact .lst h (RepPs.dp r e)
theorem RepPs.dp {K : PySem.W.Frag} {Z : Hp} : ∀ {xs : List P} {vs : List V} {ds : List PyData}, RepPs K Z xs vs → P.datas xs = some ds → DpAll K Z vs ds
  | _, _, _, .nil, e => by simp [P.datas] at e; subst e; exact .nil
  | _, _, _, .cons h r, e => by
    unfold P.datas at e
    split at e
    · rename_i d ds' e1 e2
      cases e
      exact .cons (RepP.dp h e1) (RepPs.dp r e2)
    · cases e
end
theorem RepLL.dp {K : PySem.W.Frag} {Z H : Hp} (ex : Ex Z H) {xss : List (List P)} {bs : List Addr} (r : RepLL K Z H xss bs) : ∀ {ds : List PyData}, P.datass xss = some ds → DpAll K H (bs.map V.ref) ds := by
  induction r with
  | nil => intro ds e; simp [P.datass] at e; subst e; exact .nil
  | cons h r _ ih =>
    intro ds e
    unfold P.datass at e
    split at e
    · rename_i d ds' e1 e2
      cases e
      exact .cons (.lst (SqL.of h) ((r.mono ex).dp e1)) (ih e2)
    · cases e
theorem RepD.dp {K : PySem.W.Frag} {Z H : Hp} (ex : Ex Z H) {x : D} {v : V} {f : List Addr} {d : PyData} (r : RepD K Z H x v f) (e : x.data = some d) : Dp K H v d := by
  cases r with
  | p h => exact (h.mono ex).dp e
  | pl h r =>
    simp [D.data] at e
    obtain ⟨ds, e, rfl⟩ := e
    exact .lst (SqL.of h) ((r.mono ex).dp e)
  | st h1 h2 h3 h4 => simp [D.data] at e
  | pll h1 h2 h3 =>
    simp [D.data] at e
    obtain ⟨ds, e, rfl⟩ := e
    exact .lst (SqL.of h1) (h2.dp ex e)
  | tab h1 h2 h3 => simp [D.data] at e

section
variable {X : L2.Cx} {j : J} {k : Nat}
/-- an operator by values -/
def rBin (K : PySem.W.Frag) (op : Operator) : R2 := fun x y H Q => ∃ Z dx dy fx fy r, Ex Z H ∧ RepD K Z H dx x fx ∧ RepD K Z H dy y fy ∧ binop op dx dy = some r ∧ Mk K Z H r Q
def rCmp (K : PySem.W.Frag) (op : CmpOp) : R2 := fun x y H Q => ∃ Z dx dy fx fy b, Ex Z H ∧ RepD K Z H dx x fx ∧ RepD K Z H dy y fy ∧ cmpop op dx dy = some b ∧ Q (.bl b) H
theorem lim_le : lim ≤ sizeLine := by rw [sizeLine_eq]; decide
theorem inv_int {K : PySem.W.Frag} {Z H : Hp} {i : Int} {v : V} {f : List Addr} (r : RepD K Z H (.p (.int i)) v f) : v = .int i := by
  cases r with
  | p h => cases h; rfl
theorem inv_str {K : PySem.W.Frag} {Z H : Hp} {i : Str} {v : V} {f : List Addr} (r : RepD K Z H (.p (.str i)) v f) : v = .str i := by
  cases r with
  | p h => cases h; rfl
theorem inv_bl {K : PySem.W.Frag} {Z H : Hp} {i : Bool} {v : V} {f : List Addr} (r : RepD K Z H (.p (.bl i)) v f) : v = .bl i := by
  cases r with
  | p h => cases h; rfl
theorem opR (op : Operator) : OpR X (binaryOp op) (rBin X.K op) := by
  intro pins s σ H x y v u Q I rx ry ⟨Z, dx, dy, fx, fy, r, ex, h1, h2, e, m⟩
  unfold binop at e
  split at e
  · rw [inv_int h1] at rx; rw [inv_int h2] at ry; cases e
    exact op_add pins s σ H _ _ v u Q I rx ry ⟨_, _, rfl, rfl, m.p ex (.int _)⟩
  · rw [inv_str h1] at rx; rw [inv_str h2] at ry
    split at e
    · rename_i hz
      cases e
      exact op_add_str pins s σ H _ _ v u Q I rx ry ⟨_, _, rfl, rfl, Nat.le_trans hz lim_le, m.p ex (.str _)⟩
    · cases e
  · rw [inv_int h1] at rx; rw [inv_int h2] at ry; cases e
    exact op_sub pins s σ H _ _ v u Q I rx ry ⟨_, _, rfl, rfl, m.p ex (.int _)⟩
  · rw [inv_int h1] at rx; rw [inv_int h2] at ry
    split at e
    · rename_i hz
      cases e
      refine op_mul pins s σ H _ _ v u Q I rx ry ⟨_, _, rfl, rfl, ?_, m.p ex (.int _)⟩
      rw [Bool.or_eq_true] at hz
      unfold smallI at hz
      simp only [Bool.and_eq_true, decide_eq_true_eq] at hz
      exact hz
    · cases e
  · rw [inv_str h1] at rx; rw [inv_int h2] at ry
    split at e
    · rename_i s' n hz
      cases e
      obtain ⟨t, rfl⟩ := rx
      obtain ⟨t', rfl⟩ := ry
      obtain ⟨h3, h4, h5, h6, h7⟩ := hz
      refine PySem.P.mul_str (by simp; omega) (fun _ _ => ?_) (fun _ _ => ?_) ?_
      · have e1 : (1000000 : Int) ≤ (2 ^ 63 - 1) / n := Int.le_ediv_of_mul_le (by omega) (by omega)
        have e2 := Nat.le_mul_of_pos_right s'.length (show 0 < n.toNat by omega)
        have e3 : lim = 1000000 := rfl
        omega
      · have := Nat.le_trans h5 lim_le
        unfold Builtin.Str.tooLong
        simp
        omega
      · rw [if_neg (by omega), if_neg (by simp; omega)]
        have q := m.p ex (.str _)
        exact ⟨Nat.le_trans h7 lim_le, ⟨.str _, H, I.tok _, ⟨_, rfl⟩, q⟩⟩
    · cases e
  · rw [inv_int h1] at rx; rw [inv_int h2] at ry
    split at e
    · rename_i hz
      cases e
      exact op_fdiv pins s σ H _ _ v u Q I rx ry ⟨_, _, rfl, rfl, hz, m.p ex (.int _)⟩
    · cases e
  · rw [inv_int h1] at rx; rw [inv_int h2] at ry
    split at e
    · rename_i hz
      cases e
      exact op_mod pins s σ H _ _ v u Q I rx ry ⟨_, _, rfl, rfl, hz, m.p ex (.int _)⟩
    · cases e
  · rw [inv_int h1] at rx; rw [inv_int h2] at ry
    split at e
    · rename_i hz
      cases e
      exact op_pow pins s σ H _ _ v u Q I rx ry ⟨_, _, rfl, rfl, hz, m.p ex (.int _)⟩
    · cases e
  · cases e
theorem cmpR (op : CmpOp) (hr : Room k X.A) : OpR X (compareOp op) (rCmp X.K op) := by
  intro pins s σ H x y v u Q I rx ry ⟨Z, dx, dy, fx, fy, b, ex, h1, h2, e, q⟩
  unfold cmpop at e
  have hu : X.A.units + 64 < cLine := hr.units
  split at e
  · unfold eqD at e
    split at e
    · rename_i a b' ea eb
      split at e
      · rename_i hs
        cases e
        rw [Bool.and_eq_true] at hs
        exact op_eqD hu pins s σ H x y v u Q I rx ry ⟨a, b', h1.dp ex ea, h2.dp ex eb, hs.1, hs.2, q⟩
      · cases e
    · cases e
  · unfold eqD at e
    split at e
    · rename_i a b' ea eb
      split at e
      · rename_i hs
        cases e
        rw [Bool.and_eq_true] at hs
        exact op_neD hu pins s σ H x y v u Q I rx ry ⟨a, b', h1.dp ex ea, h2.dp ex eb, hs.1, hs.2, q⟩
      · cases e
    · cases e
  · rw [inv_int h1] at rx; rw [inv_int h2] at ry; cases e
    exact op_lt pins s σ H _ _ v u Q I rx ry ⟨_, _, rfl, rfl, q⟩
  · rw [inv_int h1] at rx; rw [inv_int h2] at ry; cases e
    exact op_le pins s σ H _ _ v u Q I rx ry ⟨_, _, rfl, rfl, q⟩
  · rw [inv_int h1] at rx; rw [inv_int h2] at ry; cases e
    exact op_gt pins s σ H _ _ v u Q I rx ry ⟨_, _, rfl, rfl, q⟩
  · rw [inv_int h1] at rx; rw [inv_int h2] at ry; cases e
    exact op_ge pins s σ H _ _ v u Q I rx ry ⟨_, _, rfl, rfl, q⟩
  · cases e
    have e2 : y = .non := by cases h2 with | p h => cases h; rfl
    subst e2
    refine op_isN pins s σ H _ _ v u Q I rx ry ⟨rfl, ?_⟩
    cases h1 with
    | p h => cases h <;> exact q
  · cases e
    have e2 : y = .non := by cases h2 with | p h => cases h; rfl
    subst e2
    refine op_notN pins s σ H _ _ v u Q I rx ry ⟨rfl, ?_⟩
    cases h1 with
    | p h => cases h <;> exact q
  · rw [inv_str h1] at rx; rw [inv_str h2] at ry; cases e
    exact op_in_str pins s σ H _ _ v u Q I rx ry ⟨_, _, rfl, rfl, q⟩
  · rw [inv_str h1] at rx; rw [inv_str h2] at ry; cases e
    exact op_notin_str pins s σ H _ _ v u Q I rx ry ⟨_, _, rfl, rfl, q⟩
  · cases e
variable {a b c : T} {ea eb ec : Expr} {pos : Pos}
theorem ok_bin (hK : X.K = j.K) {op : Operator} (ha : EOk X j a ea) (hb : EOk X j b eb) : EOk X j (.bin op a b) (.BinOp ea op eb pos) := by
  refine imp (pe_op (opR op) ha hb) fun σ H Q ⟨Z, env, fps, G, h⟩ => ?_
  unfold evT at h
  refine ⟨Z, env, fps, G, next G.start h fun d1 e1 Z1 H1 fps1 fp1 v1 p1 p1' r1 h => ⟨Z1, e1, fps1, p1.good, next p1 h fun d2 e2 Z2 H2 fps2 fp2 v2 p2 p2' r2 h => ?_⟩⟩
  split at h
  · rename_i x y ex ey
    obtain ⟨f1, g1⟩ := RO.get r1 p1 p2 ex
    obtain ⟨f2, g2⟩ := RO.get0 r2 p2 ey
    unfold opt at h
    split at h
    · rename_i r er
      rw [hK]
      exact ⟨Z2, x, y, f1, f2, r, p2.good.zle, g1, g2, er, Mk.of p2' (by intro i; simp) h⟩
    · exact h.elim
  · exact h.elim
/-- what a comparison's operands lead to -/
theorem cmp_core (hK : X.K = j.K) {op : CmpOp} {σ : St} {H : Hp} {Q : VK} {Z : Hp} {env : Env} {fps : List (List Addr)} (G : Good j.K Z H env σ fps) (h : PostO j Z H fps.flatten σ (.cmp op a b) Q (evT j.Γ (.cmp op a b) env)) :
    tOp (rCmp X.K op) (tE j a) (tE j b) σ H Q := by
  unfold evT at h
  refine ⟨Z, env, fps, G, next G.start h fun d1 e1 Z1 H1 fps1 fp1 v1 p1 p1' r1 h => ⟨Z1, e1, fps1, p1.good, next p1 h fun d2 e2 Z2 H2 fps2 fp2 v2 p2 p2' r2 h => ?_⟩⟩
  split at h
  · rename_i x y ex ey
    obtain ⟨f1, g1⟩ := RO.get r1 p1 p2 ex
    obtain ⟨f2, g2⟩ := RO.get0 r2 p2 ey
    unfold optB at h
    split at h
    · rename_i r er
      rw [hK]
      exact ⟨Z2, x, y, f1, f2, r, p2.good.zle, g1, g2, er, h Z2 H2 fps2 [] _ p2'.drop (.p (.bl _))⟩
    · exact h.elim
  · exact h.elim
theorem ok_cmp (hK : X.K = j.K) (hr : Room k X.A) {op : CmpOp} (ha : EOk X j a ea) (hb : EOk X j b eb) (hm : behindInMarks op eb = false) : EOk X j (.cmp op a b) (.Compare ea [op] [eb] pos) :=
  imp (pe_cmpR (cmpR op hr) ha hb hm) fun σ H Q ⟨Z, env, fps, G, h⟩ => cmp_core hK G h
/-- a test's wish as a value's -/
theorem asV {t : T} (n : ∀ i, t ≠ .pk i) {Z H : Hp} {F : List Addr} {σ : St} {Q : Bool → Hp → Prop} {o : Out} (h : PostT j Z H F σ t Q o) : PostO j Z H F σ t (fun v H' => ∃ b, v = .bl b ∧ Q b H') o := by
  cases o with
  | ok d e =>
    obtain ⟨b, hb, q⟩ := h
    intro Z' H' fps' fp v p r
    have hb' : some d = some (D.p (.bl b)) := by
      unfold fin at hb
      split at hb
      · exact absurd rfl (n _)
      · exact hb
    cases hb'
    exact ⟨b, inv_bl (r.rep n), q Z' H' fps' p.drop⟩
  | exc c fs e => exact h
  | bad => exact h
theorem tk_cmp (hK : X.K = j.K) (hr : Room k X.A) {op : CmpOp} (ha : EOk X j a ea) (hb : EOk X j b eb) (hm : behindInMarks op eb = false) : TOk X j (.cmp op a b) (.Compare ea [op] [eb] pos) :=
  impT (pt_cmpR (cmpR op hr) ha hb hm) fun σ H Q ⟨Z, env, fps, G, h⟩ => cmp_core hK G (asV (by intro i; simp) h)
/-- an expression's value as a test -/
theorem tk_val {t : T} {e : Expr} (ha : EOk X j t e) (n : ∀ i, t ≠ .pk i) (he : ∀ whole, isTrue e X.env whole = (do let v ← whole; standAt e.pos; holding [v] (truthy v))) : TOk X j t e :=
  impT (pt_val ha he) fun σ H Q ⟨Z, env, fps, G, h⟩ => ⟨Z, env, fps, G, asV n h⟩
theorem tk_pk {i : Nat} {x : Str} (ha : EOk X j (.pk i) (.Name x pos)) : TOk X j (.pk i) (.Name x pos) :=
  impT (pt_val ha) fun σ H Q ⟨Z, env, fps, G, h⟩ => ⟨Z, env, fps, G, by
    cases e : evT j.Γ (.pk i) env with
    | ok d e' =>
      rw [e] at h
      obtain ⟨b, hb, q⟩ := h
      intro Z' H' fps' fp v p r
      obtain ⟨f, g⟩ := RO.get0 r p hb
      exact ⟨b, inv_bl g, q Z' H' fps' p.drop⟩
    | exc c fs e' => rw [e] at h; exact h
    | bad => rw [e] at h; exact h⟩
end
end Ev
end

section
set_option Elab.async false
set_option linter.all false
/-! Ev6: and, or, not, if else, chains; places and slices; displays. -/
namespace Ev
open PySem L2
section
variable {X : L2.Cx} {j : J} {k : Nat} {a b c : T} {ea eb ec : Expr} {pos : Pos} {rest : List Expr}
abbrev NP (t : T) : Prop := ∀ i, t ≠ .pk i
def WOk (X : L2.Cx) (j : J) (t : T) (e : Expr) : Prop := PW X e (tT j t)
theorem impW {X : L2.Cx} {e : Expr} {t t' : TT} (h : PW X e t) (w : ∀ σ H Q, t' σ H Q → t σ H Q) : PW X e t' := ⟨fun wh p s σ H Q I q => h.run wh p s σ H Q I (w σ H Q q)⟩
section
variable {Z H : Hp} {F : List Addr} {σ : St} {t : T} {o : Out} {Q : VK} {QT : Bool → Hp → Prop}
/-- another term of the same outcome -/
theorem PostO.as {t t' : T} (n : NP t) (n' : NP t') (h : PostO j Z H F σ t Q o) : PostO j Z H F σ t' Q o := by
  cases o with
  | ok d e => exact fun Z' H' fps' fp v p r => h Z' H' fps' fp v p (RO.of (r.rep n') n)
  | exc c fs e => exact h
  | bad => exact h
theorem fin_np {t : T} (n : NP t) {d : D} {e : Env} : fin t d e = some d := by
  unfold fin
  split
  · exact absurd rfl (n _)
  · rfl
theorem PostT.as {t t' : T} (n : NP t) (n' : NP t') (h : PostT j Z H F σ t QT o) : PostT j Z H F σ t' QT o := by
  cases o with
  | ok d e =>
    obtain ⟨b, hb, q⟩ := h
    rw [fin_np n] at hb
    exact ⟨b, by rw [fin_np n']; exact hb, q⟩
  | exc c fs e => exact h
  | bad => exact h
/-- back to what a test tells -/
theorem PostT.of {t : T} (n : NP t) {o : Out} (h : PostT j Z H F σ t QT o) : PostO j Z H F σ t (fun v H' => ∃ b, v = .bl b ∧ QT b H') o := asV n h
end
/-- from here on: a piece behind another one -/
theorem again {Z H Z1 H1 : Hp} {F fp1 : List Addr} {σ : St} {e1 : Env} {fps1 : List (List Addr)} {t : T} {Q : VK} {o : Out} (p : Post j.K Z H F Z1 H1 e1 σ fps1 fp1) (n : NP t) (h : PostO j Z H F σ t Q o) : PostO j Z1 H1 fps1.flatten σ t Q o := by
  cases o with
  | ok d e => exact fun Z' H' fps' fp v q r => h Z' H' fps' fp v ((p.comp q).sub (fun x hx => List.mem_append_right _ hx) q.nd) r
  | exc c fs e => exact PostX.from p h
  | bad => exact h
theorem againT {Z H Z1 H1 : Hp} {F fp1 : List Addr} {σ : St} {e1 : Env} {fps1 : List (List Addr)} {t : T} {Q : Bool → Hp → Prop} {o : Out} (p : Post j.K Z H F Z1 H1 e1 σ fps1 fp1) (h : PostT j Z H F σ t Q o) : PostT j Z1 H1 fps1.flatten σ t Q o := by
  cases o with
  | ok d e =>
    obtain ⟨b, hb, q⟩ := h
    exact ⟨b, hb, fun Z' H' fps' r => q Z' H' fps' (p.comp r).drop⟩
  | exc c fs e => exact PostX.from p h
  | bad => exact h

/-- the first of two, as a test -/
theorem nextB {Z H Z1 H1 : Hp} {F fp1 : List Addr} {σ : St} {e1 : Env} {fps1 : List (List Addr)} {t0 t : T} {Q : VK} {Q' : Bool → Hp → Prop} {f : Bool → Env → Out} (p : Post j.K Z H F Z1 H1 e1 σ fps1 fp1)
    (h : PostO j Z H F σ t0 Q ((evT j.Γ t e1).bind fun x e => match fin t x e with
      | some x => onB x fun k => f k e
      | none => .bad))
    (k : ∀ c e2 Z2 H2 fps2, Post j.K Z1 H1 fps1.flatten Z2 H2 e2 σ fps2 [] → Post j.K Z H F Z2 H2 e2 σ fps2 fp1 → PostO j Z H F σ t0 Q (f c e2) → Q' c H2) :
    PostT j Z1 H1 fps1.flatten σ t Q' (evT j.Γ t e1) := by
  cases e : evT j.Γ t e1 with
  | ok d e2 =>
    rw [e] at h
    dsimp only [Out.bind] at h
    cases ef : fin t d e2 with
    | none => rw [ef] at h; exact h.elim
    | some x =>
      rw [ef] at h
      dsimp only at h
      unfold onB at h
      split at h
      · rename_i c
        exact ⟨c, ef, fun Z2 H2 fps2 q => k c e2 Z2 H2 fps2 q (by simpa using p.comp q) h⟩
      · exact h.elim
  | exc c fs e' =>
    rw [e] at h
    exact PostX.from p h
  | bad =>
    rw [e] at h
    exact h
theorem nextBT {Z H Z1 H1 : Hp} {F fp1 : List Addr} {σ : St} {e1 : Env} {fps1 : List (List Addr)} {t0 t : T} {Q : Bool → Hp → Prop} {Q' : Bool → Hp → Prop} {f : Bool → Env → Out} (p : Post j.K Z H F Z1 H1 e1 σ fps1 fp1)
    (h : PostT j Z H F σ t0 Q ((evT j.Γ t e1).bind fun x e => match fin t x e with
      | some x => onB x fun k => f k e
      | none => .bad))
    (k : ∀ c e2 Z2 H2 fps2, Post j.K Z1 H1 fps1.flatten Z2 H2 e2 σ fps2 [] → Post j.K Z H F Z2 H2 e2 σ fps2 fp1 → PostT j Z H F σ t0 Q (f c e2) → Q' c H2) :
    PostT j Z1 H1 fps1.flatten σ t Q' (evT j.Γ t e1) := by
  cases e : evT j.Γ t e1 with
  | ok d e2 =>
    rw [e] at h
    dsimp only [Out.bind] at h
    cases ef : fin t d e2 with
    | none => rw [ef] at h; exact h.elim
    | some x =>
      rw [ef] at h
      dsimp only at h
      unfold onB at h
      split at h
      · rename_i c
        exact ⟨c, ef, fun Z2 H2 fps2 q => k c e2 Z2 H2 fps2 q (by simpa using p.comp q) h⟩
      · exact h.elim
  | exc c fs e' =>
    rw [e] at h
    exact PostX.from p h
  | bad =>
    rw [e] at h
    exact h

/-! ### tests -/
theorem wk_and1 (ha : TOk X j a ea) : WOk X j a (.BoolOp .And [ea] pos) := pw_and1 ha
theorem wk_or1 (ha : TOk X j a ea) : WOk X j a (.BoolOp .Or [ea] pos) := pw_or1 ha
theorem wk_and (nb : NP b) (ha : TOk X j a ea) (hb : WOk X j b (.BoolOp .And (eb :: rest) pos)) : WOk X j (.and a b) (.BoolOp .And (ea :: eb :: rest) pos) := by
  refine impW (pw_and ha hb) fun σ H Q ⟨Z, env, fps, G, h⟩ => ?_
  unfold evT at h
  refine ⟨Z, env, fps, G, nextBT G.start h fun c e2 Z2 H2 fps2 p p' h => ?_⟩
  cases c with
  | true => exact ⟨Z2, e2, fps2, p.good, againT p' (h.as (by intro i; simp) nb)⟩
  | false =>
    obtain ⟨b, hb, q⟩ := h
    cases hb
    exact q Z2 H2 fps2 p'
theorem wk_or (nb : NP b) (ha : TOk X j a ea) (hb : WOk X j b (.BoolOp .Or (eb :: rest) pos)) : WOk X j (.or a b) (.BoolOp .Or (ea :: eb :: rest) pos) := by
  refine impW (pw_or ha hb) fun σ H Q ⟨Z, env, fps, G, h⟩ => ?_
  unfold evT at h
  refine ⟨Z, env, fps, G, nextBT G.start h fun c e2 Z2 H2 fps2 p p' h => ?_⟩
  cases c with
  | false => exact ⟨Z2, e2, fps2, p.good, againT p' (h.as (by intro i; simp) nb)⟩
  | true =>
    obtain ⟨b, hb, q⟩ := h
    cases hb
    exact q Z2 H2 fps2 p'
theorem tk_w (h : WOk X j a ea) : TOk X j a ea := PW.pt h
theorem tk_not (ha : TOk X j a ea) : TOk X j (.not a) (.UnaryOp .Not ea pos) := by
  refine impT (pt_not ha) fun σ H Q ⟨Z, env, fps, G, h⟩ => ?_
  unfold evT at h
  refine ⟨Z, env, fps, G, nextBT G.start h fun c e2 Z2 H2 fps2 p p' h => ?_⟩
  obtain ⟨b, hb, q⟩ := h
  cases hb
  exact q Z2 H2 fps2 p'

/-! ### as values -/
theorem ok_one {op : BoolOp} (h : EOk X j a ea) : EOk X j a (.BoolOp op [ea] pos) := pe_one h
/-- a value that is a truth -/
theorem nextV {Z H Z1 H1 : Hp} {F fp1 : List Addr} {σ : St} {e1 : Env} {fps1 : List (List Addr)} {t0 t : T} {Q : VK} {Q' : VK} {f : Bool → Env → Out} (p : Post j.K Z H F Z1 H1 e1 σ fps1 fp1)
    (h : PostO j Z H F σ t0 Q ((evT j.Γ t e1).bind fun x e => match fin t x e with
      | some x => onB x fun k => f k e
      | none => .bad))
    (k : ∀ c e2 Z2 H2 fps2, Post j.K Z1 H1 fps1.flatten Z2 H2 e2 σ fps2 [] → Post j.K Z H F Z2 H2 e2 σ fps2 fp1 → PostO j Z H F σ t0 Q (f c e2) → Q' (.bl c) H2) :
    PostO j Z1 H1 fps1.flatten σ t Q' (evT j.Γ t e1) := by
  refine next p h fun d e2 Z2 H2 fps2 fp2 v q q' r h => ?_
  cases ef : fin t d e2 with
  | none => rw [ef] at h; exact h.elim
  | some x =>
    rw [ef] at h
    dsimp only at h
    unfold onB at h
    split at h
    · rename_i c
      obtain ⟨f, g⟩ := RO.get0 r q ef
      rw [inv_bl g]
      exact k c e2 Z2 H2 fps2 q.drop (q'.sub (fun x hx => List.mem_append_left _ hx) p.nd) h
    · exact h.elim
theorem ok_and (nb : NP b) (ha : EOk X j a ea) (hb : EOk X j b (.BoolOp .And (eb :: rest) pos)) : EOk X j (.and a b) (.BoolOp .And (ea :: eb :: rest) pos) := by
  refine imp (pe_and ha hb) fun σ H Q ⟨Z, env, fps, G, h⟩ => ?_
  unfold evT at h
  refine ⟨Z, env, fps, G, nextV G.start h fun c e2 Z2 H2 fps2 p p' h => ⟨c, rfl, ?_⟩⟩
  cases c with
  | true => exact ⟨Z2, e2, fps2, p.good, again p' nb (h.as (by intro i; simp) nb)⟩
  | false => exact h Z2 H2 fps2 [] _ p' (.p (.bl _))
theorem ok_or (nb : NP b) (ha : EOk X j a ea) (hb : EOk X j b (.BoolOp .Or (eb :: rest) pos)) : EOk X j (.or a b) (.BoolOp .Or (ea :: eb :: rest) pos) := by
  refine imp (pe_or ha hb) fun σ H Q ⟨Z, env, fps, G, h⟩ => ?_
  unfold evT at h
  refine ⟨Z, env, fps, G, nextV G.start h fun c e2 Z2 H2 fps2 p p' h => ⟨c, rfl, ?_⟩⟩
  cases c with
  | false => exact ⟨Z2, e2, fps2, p.good, again p' nb (h.as (by intro i; simp) nb)⟩
  | true => exact h Z2 H2 fps2 [] _ p' (.p (.bl _))
theorem ok_not (ha : EOk X j a ea) : EOk X j (.not a) (.UnaryOp .Not ea pos) := by
  refine imp (pe_not ha) fun σ H Q ⟨Z, env, fps, G, h⟩ => ?_
  unfold evT at h
  exact ⟨Z, env, fps, G, nextV G.start h fun c e2 Z2 H2 fps2 p p' h => ⟨c, rfl, h Z2 H2 fps2 [] _ p' (.p (.bl _))⟩⟩
theorem ok_ife (na : NP a) (nb : NP b) (hc : TOk X j c ec) (ha : EOk X j a ea) (hb : EOk X j b eb) : EOk X j (.ife c a b) (.IfExp ec ea eb pos) := by
  refine imp (pe_ifExp hc ha hb) fun σ H Q ⟨Z, env, fps, G, h⟩ => ?_
  unfold evT at h
  refine ⟨Z, env, fps, G, nextB G.start h fun c e2 Z2 H2 fps2 p p' h => ?_⟩
  cases c with
  | true => exact ⟨Z2, e2, fps2, p.good, again p' na (h.as (by intro i; simp) na)⟩
  | false => exact ⟨Z2, e2, fps2, p.good, again p' nb (h.as (by intro i; simp) nb)⟩

/-! ### chains of two comparisons -/
theorem fin_fin {t : T} {d y : D} {e e' : Env} (h : fin t d e = some y) : fin t y e' = fin t d e' := by
  unfold fin at h ⊢
  split
  · rfl
  · rename_i n
    have : some d = some y := by
      split at h
      · exact absurd rfl (n _)
      · exact h
    exact this.symm
theorem chn_core (hK : X.K = j.K) {op op' : CmpOp} {σ : St} {H : Hp} {Q : VK} {Z : Hp} {env : Env} {fps : List (List Addr)} (G : Good j.K Z H env σ fps) (h : PostO j Z H fps.flatten σ (.chn op op' a b c) Q (evT j.Γ (.chn op op' a b c) env)) :
    tChain (rCmp X.K op) (rCmp X.K op') (tE j a) (tE j b) (tE j c) σ H Q := by
  unfold evT at h
  refine ⟨Z, env, fps, G, next G.start h fun d1 e1 Z1 H1 fps1 fp1 v1 p1 p1' r1 h => ⟨Z1, e1, fps1, p1.good, next p1 h fun d2 e2 Z2 H2 fps2 fp2 v2 p2 p2' r2 h => ?_⟩⟩
  split at h
  · rename_i x y ex ey
    obtain ⟨f1, g1⟩ := RO.get r1 p1 p2 ex
    obtain ⟨f2, g2⟩ := RO.get0 r2 p2 ey
    rw [hK]
    split at h
    · rename_i er
      refine ⟨Z2, x, y, f1, f2, true, p2.good.zle, g1, g2, er, true, rfl, ?_⟩
      rw [if_pos rfl]
      refine ⟨Z2, e2, fps2, p2.good, next p2' h fun d3 e3 Z3 H3 fps3 fp3 v3 p3 p3' r3 h => ?_⟩
      split at h
      · rename_i y' z ey' ez
        have p23 := p2
        obtain ⟨f2', g2'⟩ := RO.get r2 p2 p3 ((fin_fin ey).symm.trans ey')
        obtain ⟨f3, g3⟩ := RO.get0 r3 p3 ez
        unfold optB at h
        split at h
        · rename_i r er2
          exact ⟨Z3, y', z, f2', f3, r, p3.good.zle, g2', g3, er2, h Z3 H3 fps3 [] _ p3'.drop (.p (.bl _))⟩
        · exact h.elim
      · exact h.elim
    · rename_i er
      refine ⟨Z2, x, y, f1, f2, false, p2.good.zle, g1, g2, er, false, rfl, ?_⟩
      rw [if_neg (by simp)]
      exact h Z2 H2 fps2 [] _ p2'.drop (.p (.bl _))
    · exact h.elim
  · exact h.elim
theorem ok_chn (hK : X.K = j.K) (hr : Room k X.A) {o1 o2 : CmpOp} (ha : EOk X j a ea) (hb : EOk X j b eb) (hc : EOk X j c ec) (hm : lastMarks [o1, o2] [eb, ec] = false) : EOk X j (.chn o1 o2 a b c) (.Compare ea [o1, o2] [eb, ec] pos) :=
  imp (pe_chain (cmpR o1 hr) (cmpR o2 hr) ha hb hc hm) fun σ H Q ⟨Z, env, fps, G, h⟩ => chn_core hK G h
theorem tk_chn (hK : X.K = j.K) (hr : Room k X.A) {o1 o2 : CmpOp} (ha : EOk X j a ea) (hb : EOk X j b eb) (hc : EOk X j c ec) (hm : lastMarks [o1, o2] [eb, ec] = false) : TOk X j (.chn o1 o2 a b c) (.Compare ea [o1, o2] [eb, ec] pos) :=
  impT (pt_chain (cmpR o1 hr) (cmpR o2 hr) ha hb hc hm) fun σ H Q ⟨Z, env, fps, G, h⟩ => chn_core hK G (asV (by intro i; simp) h)
end
end Ev
end

section
set_option Elab.async false
set_option linter.all false
/-! Ev7: places, slices, displays, isinstance, built-in functions. -/
namespace Ev
open PySem L2
section
variable {X : L2.Cx} {j : J} {k : Nat} {a b c : T} {ea eb ec : Expr} {pos : Pos} {es : List Expr} {ts : List T}

/-! ### places -/
theorem ixN_len {n m : Nat} (h : n = m) (i : Int) : ixN n i = ixN m i := by rw [h]
theorem RepPs.atI {K : PySem.W.Frag} {Z : Hp} {xs : List P} {vs : List V} {i : Int} {x : P} (r : RepPs K Z xs vs) (h : L2.atI xs i = some x) : ∃ v, L2.atI vs i = some v ∧ RepP K Z x v := by
  unfold L2.atI at h ⊢
  rw [← r.length]
  cases e : ixN xs.length i with
  | none => rw [e] at h; cases h
  | some n =>
    rw [e] at h
    exact r.get h
def rIdx (K : PySem.W.Frag) : R2 := fun x y H Q => ∃ Z dx dy fx fy r, Ex Z H ∧ RepD K Z H dx x fx ∧ RepD K Z H dy y fy ∧ idxop dx dy = some r ∧ (∀ v, RepP K Z r v → Q v H)
theorem idxR : IxR X (rIdx X.K) := by
  intro value slice pins s σ H x y v u Q I rx ry ⟨Z, dx, dy, fx, fy, r, ex, h1, h2, e, q⟩ hs
  unfold idxop at e
  split at e
  · rw [inv_str h1] at rx; rw [inv_int h2] at ry
    split at e
    · rename_i hz
      cases e2 : L2.atI (_ : List Nat) _ with
      | none => rw [e2] at e; cases e
      | some n =>
        rw [e2] at e
        cases e
        exact ix_str value slice pins s σ H _ _ v u Q I rx ry ⟨_, _, n, rfl, rfl, Nat.le_trans hz lim_le, e2, q _ (.str _)⟩ hs
    · cases e
  · rw [inv_int h2] at ry
    split at e
    · rename_i xs ea
      unfold D.asL at ea
      split at ea
      · cases ea
        cases h1 with
        | p h =>
          cases h with
          | tup h r =>
            obtain ⟨w, e1, e2⟩ := r.atI e
            exact ix_tup value slice pins s σ H _ _ v u Q I rx ry ⟨_, _, _, w, rfl, rfl, Evl.ex_t ex h, e1, q _ e2⟩ hs
      · cases ea
        cases h1 with
        | p h =>
          cases h with
          | fl h r =>
            obtain ⟨w, e1, e2⟩ := r.atI e
            exact ix_list value slice pins s σ H _ _ v u Q I rx ry ⟨_, _, _, w, rfl, rfl, Evl.ex_l ex h, e1, q _ e2⟩ hs
      · cases ea
        cases h1 with
        | pl h r =>
          obtain ⟨w, e1, e2⟩ := r.atI e
          exact ix_list value slice pins s σ H _ _ v u Q I rx ry ⟨_, _, _, w, rfl, rfl, SqL.of h, e1, q _ e2⟩ hs
      · cases ea
    · cases e
  · cases e
theorem ok_idx (hK : X.K = j.K) (hp : PlainIx eb) (ha : EOk X j a ea) (hb : EOk X j b eb) : EOk X j (.idx a b) (.Subscript ea eb pos) := by
  refine imp (pe_ix idxR ha hb hp) fun σ H Q ⟨Z, env, fps, G, h⟩ => ?_
  unfold evT at h
  refine ⟨Z, env, fps, G, next G.start h fun d1 e1 Z1 H1 fps1 fp1 v1 p1 p1' r1 h => ⟨Z1, e1, fps1, p1.good, next p1 h fun d2 e2 Z2 H2 fps2 fp2 v2 p2 p2' r2 h => ?_⟩⟩
  split at h
  · rename_i x y ex ey
    obtain ⟨f1, g1⟩ := RO.get r1 p1 p2 ex
    obtain ⟨f2, g2⟩ := RO.get0 r2 p2 ey
    unfold optP at h
    split at h
    · rename_i r er
      rw [hK]
      exact ⟨Z2, x, y, f1, f2, r, p2.good.zle, g1, g2, er, fun v rv => h Z2 H2 fps2 [] v p2'.drop (.p rv)⟩
    · exact h.elim
  · exact h.elim

/-! ### slices -/
def rSlc (K : PySem.W.Frag) : V → Option Int → Option Int → Hp → VK → Prop := fun x lo hi H Q => ∃ Z dx fx r, Ex Z H ∧ RepD K Z H dx x fx ∧ slcop dx lo hi = some r ∧ Mk K Z H r Q
theorem slcR : SlR X (rSlc X.K) := by
  intro pins s σ H x v vl vu lo hi sl Q I rx hs pl pu ⟨Z, dx, fx, r, ex, h1, e, m⟩
  unfold slcop at e
  split at e
  · rw [inv_str h1] at rx
    split at e
    · rename_i hz
      cases e
      exact sl_str pins s σ H _ v vl vu lo hi sl Q I rx hs pl pu ⟨_, rfl, Nat.le_trans hz lim_le, m.p ex (.str _)⟩
    · cases e
  · cases e
/-- a part of a slice -/
def tO (j : J) (t : Option T) : TO := fun σ H Q => ∃ Z env fps, Good j.K Z H env σ fps ∧ match evO j.Γ t env with
  | (some l, e) => ∀ Z' H' fps', Post j.K Z H fps.flatten Z' H' e σ fps' [] → Q l H'
  | (none, _) => False
def OOk (X : L2.Cx) (j : J) (t : Option T) (e : Option Expr) : Prop := PO X e (tO j t)
theorem impO {X : L2.Cx} {e : Option Expr} {t t' : TO} (h : PO X e t) (w : ∀ σ H Q, t' σ H Q → t σ H Q) : PO X e t' := ⟨fun p s σ H Q I q => h.run p s σ H Q I (w σ H Q q)⟩
theorem oo_none : OOk X j none none := by
  refine impO po_none fun σ H Q ⟨Z, env, fps, G, h⟩ => ?_
  unfold evO at h
  exact h Z H fps G.start
theorem oo_some (ha : EOk X j a ea) : OOk X j (some a) (some ea) := by
  refine impO (po_some ha) fun σ H Q ⟨Z, env, fps, G, h⟩ => ⟨Z, env, fps, G, ?_⟩
  unfold evO at h
  cases e : evT j.Γ a env with
  | ok d e1 =>
    rw [e] at h
    dsimp only at h
    intro Z' H' fps' fp v p r
    cases ef : fin a d e1 with
    | none => rw [ef] at h; exact h.elim
    | some x =>
      rw [ef] at h
      obtain ⟨f, g⟩ := RO.get0 r p ef
      split at h
      · rename_i l e2 eq
        split at eq
        · rename_i i ei
          cases eq
          cases ei
          exact ⟨i, inv_int g, h Z' H' fps' p.drop⟩
        · cases eq
      · exact h.elim
  | exc c fs e1 => rw [e] at h; exact h.elim
  | bad => rw [e] at h; exact h.elim
theorem ok_slc (hK : X.K = j.K) {lo hi : Option T} {el eh : Option Expr} {p2 : Pos} (ha : EOk X j a ea) (hl : OOk X j lo el) (hh : OOk X j hi eh) : EOk X j (.slc a lo hi) (.Subscript ea (.Slice el eh none p2) pos) := by
  refine imp (pe_slice slcR ha hl hh) fun σ H Q ⟨Z, env, fps, G, h⟩ => ?_
  unfold evT at h
  refine ⟨Z, env, fps, G, next G.start h fun d1 e1 Z1 H1 fps1 fp1 v1 p1 p1' r1 h => ?_⟩
  refine ⟨Z1, e1, fps1, p1.good, ?_⟩
  cases el1 : evO j.Γ lo e1 with
  | mk ol e2 =>
    rw [el1] at h
    cases ol with
    | none => exact h.elim
    | some l =>
      dsimp only at h ⊢
      intro Z2 H2 fps2 p2
      refine ⟨Z2, e2, fps2, p2.good, ?_⟩
      cases eh1 : evO j.Γ hi e2 with
      | mk oh e3 =>
        rw [eh1] at h
        cases oh with
        | none => exact h.elim
        | some u =>
          dsimp only at h ⊢
          intro Z3 H3 fps3 p3
          have p23 := p2.comp p3
          cases ef : fin a d1 e3 with
          | none => rw [ef] at h; exact h.elim
          | some x =>
            rw [ef] at h
            dsimp only at h
            obtain ⟨f, g⟩ := RO.get r1 p1 p23 ef
            unfold opt at h
            split at h
            · rename_i r er
              rw [hK]
              exact ⟨Z3, x, f, r, p3.good.zle, g, er, Mk.of (p1.comp p23) (by intro i; simp) h⟩
            · exact h.elim

/-! ### several operands -/
inductive ROs (K : PySem.W.Frag) (Z H : Hp) (σ : St) : List T → List D → List V → List Addr → Prop
  | nil : ROs K Z H σ [] [] [] []
  | cons {t : T} {d : D} {v : V} {f : List Addr} {ts : List T} {ds : List D} {vs : List V} {g : List Addr} : RO K t Z H σ d v f → ROs K Z H σ ts ds vs g → ROs K Z H σ (t :: ts) (d :: ds) (v :: vs) (f ++ g)
def PostR (j : J) (Z H : Hp) (F : List Addr) (σ : St) (ts : List T) (Q : List V → Hp → Prop) : OutL → Prop
  | .ok ds e => ∀ Z' H' fps' fp vs, Post j.K Z H F Z' H' e σ fps' fp → ROs j.K Z' H' σ ts ds vs fp → Q vs H'
  | .exc c fs e => PostX j Z H F σ c fs e
  | .bad => False
def tA (j : J) (ts : List T) : TA := fun σ H Q => ∃ Z env fps, Good j.K Z H env σ fps ∧ PostR j Z H fps.flatten σ ts Q (evTs j.Γ ts env)
def AOk (X : L2.Cx) (j : J) (ts : List T) (es : List Expr) : Prop := PA X es (tA j ts)
theorem impA {X : L2.Cx} {e : List Expr} {t t' : TA} (h : PA X e t) (w : ∀ σ H Q, t' σ H Q → t σ H Q) : PA X e t' := ⟨fun ps p s σ H Q I q => h.run ps p s σ H Q I (w σ H Q q)⟩
theorem RO.held {Z H Z1 H1 Z2 H2 : Hp} {F fp1 fp2 f : List Addr} {e1 e2 : Env} {σ : St} {fps1 fps2 : List (List Addr)} {t : T} {d : D} {v : V} (p : Post j.K Z H F Z1 H1 e1 σ fps1 fp1) (q : Post j.K Z1 H1 fps1.flatten Z2 H2 e2 σ fps2 fp2)
    (r : RO j.K t Z1 H1 σ d v f) (hf : ∀ x ∈ f, x ∈ fp1) : RO j.K t Z2 H2 σ d v f := by
  cases t with
  | pk i => exact r
  | _ => exact p.held q r hf
theorem ao_nil : AOk X j [] [] := by
  refine impA pa_nil fun σ H Q ⟨Z, env, fps, G, h⟩ => ?_
  unfold evTs at h
  exact h Z H fps [] [] G.start .nil
theorem ao_cons {t : T} {e : Expr} (ha : EOk X j t e) (hr : AOk X j ts es) (hs : starEach (e :: es) X.env = (false, eval e X.env) :: starEach es X.env) : AOk X j (t :: ts) (e :: es) := by
  refine impA (pa_cons ha hr hs) fun σ H Q ⟨Z, env, fps, G, h⟩ => ?_
  unfold evTs at h
  refine ⟨Z, env, fps, G, ?_⟩
  cases e1 : evT j.Γ t env with
  | ok d e' =>
    rw [e1] at h
    dsimp only at h
    intro Z1 H1 fps1 fp1 v p1 r1
    refine ⟨Z1, e', fps1, p1.good, ?_⟩
    cases e2 : evTs j.Γ ts e' with
    | ok ds e'' =>
      rw [e2] at h
      intro Z2 H2 fps2 fp2 vs p2 r2
      exact h Z2 H2 fps2 _ _ (p1.comp p2) (.cons (RO.held p1 p2 r1 fun x h => h) r2)
    | exc c fs e'' => rw [e2] at h; exact PostX.from p1 h
    | bad => rw [e2] at h; exact h
  | exc c fs e' => rw [e1] at h; exact h
  | bad => rw [e1] at h; exact h
/-- several values -/
inductive RepL (K : PySem.W.Frag) (Z H : Hp) : List D → List V → Prop
  | nil : RepL K Z H [] []
  | cons {d : D} {v : V} {f : List Addr} {ds : List D} {vs : List V} : RepD K Z H d v f → RepL K Z H ds vs → RepL K Z H (d :: ds) (v :: vs)
theorem ROs.fins {Z H Z1 H1 : Hp} {F fp1 f : List Addr} {e1 : Env} {σ : St} {fps1 : List (List Addr)} {ts : List T} {ds xs : List D} {vs : List V} (p : Post j.K Z H F Z1 H1 e1 σ fps1 fp1)
    (r : ROs j.K Z1 H1 σ ts ds vs f) : fins ts ds e1 = some xs → RepL j.K Z1 H1 xs vs := by
  induction r generalizing xs with
  | nil => intro h; simp [Ev.fins] at h; subst h; exact .nil
  | @cons t d v f' ts ds vs g' h r ih =>
    intro e
    unfold Ev.fins at e
    split at e
    · rename_i x xs' ex exs
      cases e
      have : ∃ g, RepD j.K Z1 H1 x v g := by
        unfold RO at h
        split at h
        · obtain ⟨v', g, h1, h2, h3⟩ := p.good.rep.at (show getE e1 _ = some x from ex)
          rw [h.2] at h1
          cases h1
          exact ⟨g, h3⟩
        · rename_i n
          rw [fin_np n] at ex
          cases ex
          exact ⟨_, h⟩
      obtain ⟨g, hg⟩ := this
      exact .cons hg (ih exs)
    · cases e

/-! ### displays -/
/-- what is in the hand is shared from now on -/
theorem Post.freeze {K : PySem.W.Frag} {Z H Z1 H1 : Hp} {F fp : List Addr} {e : Env} {σ : St} {fps : List (List Addr)} {a : Addr} {o : HO} (p : Post K Z H F Z1 H1 e σ fps (a :: fp)) (ha : H1 a = some o) : Post K Z H F (upd Z1 a o) H1 e σ fps fp := by
  have nz : Z1 a = none := p.zd a (by simp)
  have ex : Ex Z1 (upd Z1 a o) := Evl.Ex.new nz
  have na : ∀ x, x ∈ fp ∨ x ∈ fps.flatten → x ≠ a := fun x hx e => by
    subst e
    rcases hx with hx | hx
    · exact (List.nodup_cons.mp p.nd).1 hx
    · exact p.dj _ (by simp) hx
  refine ⟨⟨p.stp.zz.trans ex, p.stp.fr, fun x hx => p.stp.nw x (by
      rcases List.mem_append.mp hx with hx | hx
      · exact List.mem_append_left _ (List.mem_cons_of_mem _ hx)
      · exact List.mem_append_right _ hx), fun x u hx => ?_⟩, ⟨fun x u hx => ?_, p.good.rep.keep ex fun _ _ => rfl, p.good.nd, fun x hx => ?_⟩, fun x hx => p.dj x (List.mem_cons_of_mem _ hx), (List.nodup_cons.mp p.nd).2, fun x hx => ?_, fun x hx => p.al x (List.mem_cons_of_mem _ hx)⟩
  · by_cases e : x = a
    · subst e
      exact .inr (p.stp.nw x (by simp))
    · rw [upd_ne e] at hx
      exact p.stp.zn x u hx
  · by_cases e : x = a
    · subst e
      rw [upd_same] at hx
      rw [ha]; exact hx
    · rw [upd_ne e] at hx
      exact p.good.zle x u hx
  · rw [upd_ne (na x (.inr hx))]
    exact p.good.zd x hx
  · rw [upd_ne (na x (.inl hx))]
    exact p.zd x (List.mem_cons_of_mem _ hx)
theorem Post.share {K : PySem.W.Frag} {Z H Z1 H1 : Hp} {F fp f : List Addr} {e : Env} {σ : St} {fps : List (List Addr)} {d : D} {v : V} {x : P} (p : Post K Z H F Z1 H1 e σ fps (f ++ fp)) (r : RepD K Z1 H1 d v f) (h : d.frz = some x) :
    ∃ Z2, Ex Z1 Z2 ∧ Post K Z H F Z2 H1 e σ fps fp ∧ RepP K Z2 x v := by
  cases r with
  | p h' =>
    cases h
    exact ⟨Z1, Evl.Ex.refl _, p, h'⟩
  | pl h1 r =>
    cases h
    have nz := p.zd _ (List.mem_cons_self ..)
    exact ⟨_, Evl.Ex.new nz, p.freeze h1, .fl (SqL.of upd_same) (r.mono (Evl.Ex.new nz))⟩
  | st h1 h2 h3 h4 => cases h
  | pll h1 h2 h3 => cases h
  | tab h1 h2 h3 => cases h
/-- the values of written operands that are no names -/
inductive RepF (K : PySem.W.Frag) (Z H : Hp) : List D → List V → List Addr → Prop
  | nil : RepF K Z H [] [] []
  | cons {d : D} {v : V} {f : List Addr} {ds : List D} {vs : List V} {g : List Addr} : RepD K Z H d v f → RepF K Z H ds vs g → RepF K Z H (d :: ds) (v :: vs) (f ++ g)
theorem RepF.keep {K : PySem.W.Frag} {Z Z' H : Hp} (e : Ex Z Z') {ds : List D} {vs : List V} {g : List Addr} (r : RepF K Z H ds vs g) : RepF K Z' H ds vs g := by
  induction r with
  | nil => exact .nil
  | cons h r ih => exact .cons (h.keep e fun _ _ => rfl) ih
theorem ROs.repF {K : PySem.W.Frag} {Z H : Hp} {σ : St} {ts : List T} {ds : List D} {vs : List V} {g : List Addr} (r : ROs K Z H σ ts ds vs g) : (∀ t ∈ ts, NP t) → RepF K Z H ds vs g := by
  induction r with
  | nil => intro _; exact .nil
  | cons h r ih =>
    intro n
    refine .cons ?_ (ih fun t ht => n t (List.mem_cons_of_mem _ ht))
    unfold RO at h
    split at h
    · exact absurd rfl (n _ List.mem_cons_self _)
    · exact h
theorem Post.shares {K : PySem.W.Frag} {Z H H1 : Hp} {F : List Addr} {e : Env} {σ : St} {fps : List (List Addr)} {ds : List D} {vs : List V} {g : List Addr} {Z1 : Hp} (r : RepF K Z1 H1 ds vs g) : ∀ {xs : List P}, Post K Z H F Z1 H1 e σ fps g → frzAll ds = some xs →
    ∃ Z2, Ex Z1 Z2 ∧ Post K Z H F Z2 H1 e σ fps [] ∧ RepPs K Z2 xs vs := by
  induction ds generalizing Z1 vs g with
  | nil =>
    intro xs p h
    cases r
    simp [frzAll] at h
    subst h
    exact ⟨Z1, Evl.Ex.refl _, p, .nil⟩
  | cons d ds ih =>
    intro xs p h
    cases r with
    | cons hd r =>
      unfold frzAll at h
      split at h
      · rename_i x xs' e1 e2
        cases h
        obtain ⟨Z2, ex, p2, r2⟩ := p.share hd e1
        obtain ⟨Z3, ex3, p3, r3⟩ := ih (r.keep ex) p2 e2
        exact ⟨Z3, ex.trans ex3, p3, .cons (r2.mono ex3) r3⟩
      · cases h
theorem nextL {Z H Z1 H1 : Hp} {F fp1 : List Addr} {σ : St} {e1 : Env} {fps1 : List (List Addr)} {t0 : T} {Q : VK} {Q' : List V → Hp → Prop} {f : List D → Env → Out} (p : Post j.K Z H F Z1 H1 e1 σ fps1 fp1) (h : PostO j Z H F σ t0 Q ((evTs j.Γ ts e1).bind f))
    (k : ∀ ds e2 Z2 H2 fps2 fp2 vs, Post j.K Z1 H1 fps1.flatten Z2 H2 e2 σ fps2 fp2 → Post j.K Z H F Z2 H2 e2 σ fps2 (fp1 ++ fp2) → ROs j.K Z2 H2 σ ts ds vs fp2 → PostO j Z H F σ t0 Q (f ds e2) → Q' vs H2) :
    PostR j Z1 H1 fps1.flatten σ ts Q' (evTs j.Γ ts e1) := by
  cases e : evTs j.Γ ts e1 with
  | ok d e2 =>
    rw [e] at h
    exact fun Z2 H2 fps2 fp2 v q r => k d e2 Z2 H2 fps2 fp2 v q (p.comp q) r h
  | exc c fs e' =>
    rw [e] at h
    exact PostX.from p h
  | bad =>
    rw [e] at h
    exact h
theorem frzAll_len : ∀ {ds : List D} {xs : List P}, frzAll ds = some xs → xs.length = ds.length
  | [], xs, h => by simp [frzAll] at h; subst h; rfl
  | d :: ds, xs, h => by
    unfold frzAll at h
    split at h
    · rename_i e1 e2
      cases h
      simp [frzAll_len e2]
    · cases h
theorem ROs.len {K : PySem.W.Frag} {Z H : Hp} {σ : St} {ds : List D} {vs : List V} {g : List Addr} (r : ROs K Z H σ ts ds vs g) : ds.length = ts.length ∧ vs.length = ts.length := by
  induction r with
  | nil => exact ⟨rfl, rfl⟩
  | cons h r ih => simp [ih.1, ih.2]
theorem ok_lst (n : ∀ t ∈ ts, NP t) (hz : ts.length ≤ lim) (ha : AOk X j ts es) : EOk X j (.lst ts) (.List es pos) := by
  refine imp (pe_lst ha) fun σ H Q ⟨Z, env, fps, G, h⟩ => ?_
  unfold evT at h
  refine ⟨Z, env, fps, G, nextL G.start h fun ds e2 Z2 H2 fps2 fp2 vs p p' r h => ⟨by rw [r.len.2]; exact Nat.le_trans hz lim_le, fun q hq => ?_⟩⟩
  unfold opt at h
  split at h
  · rename_i d ed
    cases ef : frzAll ds with
    | none => rw [ef] at ed; cases ed
    | some xs =>
      rw [ef] at ed
      cases ed
      obtain ⟨Z3, ex, p3, r3⟩ := Post.shares (r.repF n) (by simpa using p') ef
      have m := Mk.of (t := .lst ts) p3 (by intro i; simp) h
      exact m.pl p3.good.zle r3 hq
  · exact h.elim
theorem ok_tup {x1 : Nat} (n : ∀ t ∈ ts, NP t) (hz : ts.length ≤ lim) (ha : AOk X j ts es) : EOk X j (.tup ts) (.Tuple es x1 pos) := by
  refine imp (pe_tup ha) fun σ H Q ⟨Z, env, fps, G, h⟩ => ?_
  unfold evT at h
  refine ⟨Z, env, fps, G, nextL G.start h fun ds e2 Z2 H2 fps2 fp2 vs p p' r h => ⟨by rw [r.len.2]; exact Nat.le_trans hz lim_le, fun q hq => ?_⟩⟩
  unfold optP at h
  split at h
  · rename_i d ed
    cases ef : frzAll ds with
    | none => rw [ef] at ed; cases ed
    | some xs =>
      rw [ef] at ed
      cases ed
      obtain ⟨Z3, ex, p3, r3⟩ := Post.shares (r.repF n) (by simpa using p') ef
      have m := Mk.of (t := .tup ts) p3 (by intro i; simp) h
      exact m.tup p3.good.zle r3 hq
  · exact h.elim
end
end Ev
end

section
set_option Elab.async false
set_option linter.all false
/-! Ev8: isinstance, built-in functions. -/
namespace Ev
open PySem L2
section
variable {X : L2.Cx} {j : J} {k : Nat} {a b c : T} {ea eb ec : Expr} {pos p2 : Pos} {es : List Expr} {ts : List T}

/-! ### isinstance -/
theorem tyL {K : PySem.W.Frag} {H : Hp} {a : Addr} {vs : List V} (h : SqL K H a vs) : TyX K H (.ref a) (.type "list") := by
  rcases h with (h | ⟨o, h⟩) | ⟨o, its, n, h1, h2, _⟩
  · exact .base (.lst h)
  · exact .base (.frz h)
  · exact .kList h1 h2
theorem tyT {K : PySem.W.Frag} {H : Hp} {a : Addr} {vs : List V} (h : SqT K H a vs) : TyX K H (.ref a) (.type "tuple") := by
  rcases h with (h | ⟨o, h⟩) | ⟨o, its, n, h1, h2, _⟩
  · exact .base (.tup h)
  · exact .fTuple h
  · exact .kTuple h1 h2
theorem tyX {K : PySem.W.Frag} {Z H : Hp} {d : D} {v : V} {f : List Addr} {x : P} {n : String} (ex : Ex Z H) (r : RepD K Z H d v f) (h : d.view = some x) (hn : x.tyNm = some n) : TyX K H v (.type n) := by
  cases r with
  | p r =>
    cases h
    cases r <;> (simp only [P.tyNm, Option.some.injEq] at hn; subst hn)
    · exact .base .non
    · exact .base (.bl _)
    · exact .base (.int _)
    · exact .base (.str _)
    · rename_i h _; exact tyT (Evl.ex_t ex h)
    · rename_i h _; exact tyL (Evl.ex_l ex h)
  | pl h1 r =>
    cases h
    simp only [P.tyNm, Option.some.injEq] at hn
    subst hn
    exact .base (.lst h1)
  | st h1 h2 h3 h4 => cases h
  | pll h1 h2 h3 => cases h
  | tab h1 h2 h3 => cases h
def tyOuts : List String := ["NoneType", "bool", "int", "str", "tuple", "list"]
theorem kit_all : (tyOuts.all fun n => tyNames.all fun t => kitB n t == some (isTy n t)) = true := by decide +kernel
theorem kitN {K : PySem.W.Frag} {n t : String} (hn : n ∈ tyOuts) (ht : t ∈ tyNames) : PySem.W.kitOne K (.type n) (.type t) = some (isTy n t) := by
  have h := kit_all
  rw [List.all_eq_true] at h
  have h := h n hn
  rw [List.all_eq_true] at h
  exact kit_ty (beq_iff_eq.mp (h t ht))
theorem tyOut {x : P} {n : String} (h : x.tyNm = some n) : n ∈ tyOuts := by
  cases x <;> simp [P.tyNm] at h <;> subst h <;> decide
theorem kitNs {K : PySem.W.Frag} {n : String} (hn : n ∈ tyOuts) : ∀ {tys : List String}, (∀ t ∈ tys, t ∈ tyNames) → PySem.W.kitAny K (.type n) (tys.map Value.type) = some (tys.any (isTy n))
  | [], _ => rfl
  | t :: tys, h => by
    rw [List.map_cons, List.any_cons]
    refine kitAny_cons (kitN hn (h t (by simp))) (fun e => ?_) (fun e => by rw [e]; rfl)
    rw [e, Bool.false_or]
    exact kitNs hn fun u hu => h u (List.mem_cons_of_mem _ hu)
/-- a built-in's name is the built-in -/
def BName (X : L2.Cx) (x : Str) (v : Value) : Prop := Gl X x ∧ X.mg x = none ∧ bootBuiltins x = some v ∧ x ≠ "__name__" ∧ (x == ("__debug__" : Str)) = false
theorem BName.pe {x : Str} {n : String} (h : BName X x (.type n)) : PE X (.Name x pos) (tC (.ty n)) := pe_bltn h.1 h.2.1 h.2.2.1 rfl h.2.2.2.1 h.2.2.2.2
theorem isi_core (hK : X.K = j.K) {tys : List String} {σ : St} {H : Hp} {Q : VK} {Z : Hp} {env : Env} {fps : List (List Addr)} (h : PostO j Z H fps.flatten σ (.isi a tys) Q (evT j.Γ (.isi a tys) env)) (G : Good j.K Z H env σ fps) {QQ : VK}
    (k : ∀ (v : V) (Z1 H1 : Hp) (n : String), Ex Z1 H1 → (∀ H2, Ex H1 H2 → TyX X.K H2 v (.type n)) → n ∈ tyOuts → (∀ t ∈ tys, t ∈ tyNames) → Mk X.K Z1 H1 (.p (.bl (tys.any (isTy n)))) Q → QQ v H1) : tE j a σ H QQ := by
  unfold evT at h
  refine ⟨Z, env, fps, G, next G.start h fun d1 e1 Z1 H1 fps1 fp1 v1 p1 p1' r1 h => ?_⟩
  split at h
  · rename_i d ed
    obtain ⟨f, g⟩ := RO.get0 r1 p1 ed
    split at h
    · rename_i x ex
      unfold optB isTys at h
      split at h
      · rename_i b eb
        split at eb
        · rename_i n hn
          split at eb
          · rename_i hall
            cases eb
            rw [hK] at *
            rw [List.all_eq_true] at hall
            exact k v1 Z1 H1 n p1.good.zle (fun H2 e => tyX (p1.good.zle.trans e) (g.keep (Evl.Ex.refl _) fun a ha => by
              obtain ⟨o, eo⟩ := g.al a ha
              rw [eo]; exact e a o eo) ex hn) (tyOut hn) (fun t ht => by simpa using hall t ht) (Mk.of p1' (by intro i; simp) h)
          · cases eb
        · cases eb
      · exact h.elim
    · exact h.elim
  · exact h.elim
theorem ok_isi1 (hK : X.K = j.K) {x : Str} {t : String} {pf pt : Pos} (hf : BName X "isinstance" (.builtin "isinstance")) (ht : BName X x (.type t)) (ha : EOk X j a ea) (hs : starEach [ea, .Name x pt] X.env = (false, eval ea X.env) :: starEach [.Name x pt] X.env)
    (hs2 : starEach [.Name x pt] X.env = (false, eval (.Name x pt) X.env) :: starEach [] X.env) (hpl : (backTo pos (starEach [.Name x pt] X.env)).any (·.1) = false) :
    EOk X j (.isi a [t]) (.Call (.Name "isinstance" pf) [ea, .Name x pt] [] pos) := by
  refine imp (pe_callB call_isi hf.1 hf.2.1 hf.2.2.1 (pa_cons ha (pa_cons ht.pe pa_nil hs2) hs) hf.2.2.2.1 hf.2.2.2.2 hs hpl) fun σ H Q ⟨Z, env, fps, G, h⟩ => ?_
  refine isi_core hK h G fun v Z1 H1 n ex ty hn hall q => ⟨v, .ty t, .type n, .type t, isTy n t, rfl, .ty t, ty H1 (Evl.Ex.refl _), kitN hn (hall t (by simp)), ?_⟩
  exact Mk.p (x := .bl (isTy n t)) ex (by simpa using q) (.bl _)
/-- several classes in a written tuple -/
inductive TyNs (X : L2.Cx) : List Expr → List String → Prop
  | nil : TyNs X [] []
  | cons {x : Str} {t : String} {p : Pos} {es : List Expr} {ts : List String} : BName X x (.type t) → starEach (.Name x p :: es) X.env = (false, eval (.Name x p) X.env) :: starEach es X.env → TyNs X es ts → TyNs X (.Name x p :: es) (t :: ts)
theorem TyNs.pa {es : List Expr} {tys : List String} (h : TyNs X es tys) : PA X es (fun _ H Q => Q (tys.map V.ty) H) := by
  induction h with
  | nil => exact pa_nil
  | cons b s r ih => exact impA (pa_cons b.pe ih s) fun σ H Q q => q
theorem clsVs : ∀ (tys : List String), Paired ClsV (tys.map V.ty) (tys.map Value.type)
  | [] => .nil
  | t :: ts => .cons (.ty t) (clsVs ts)
theorem ok_isiN (hK : X.K = j.K) {tys : List String} {pf pt : Pos} {kk : Nat} {nes : List Expr} (hf : BName X "isinstance" (.builtin "isinstance")) (ht : TyNs X nes tys) (hz : tys.length ≤ lim) (ha : EOk X j a ea) (hs : starEach [ea, .Tuple nes kk pt] X.env = (false, eval ea X.env) :: starEach [.Tuple nes kk pt] X.env)
    (hs2 : starEach [.Tuple nes kk pt] X.env = (false, eval (.Tuple nes kk pt) X.env) :: starEach [] X.env) (hpl : (backTo pos (starEach [.Tuple nes kk pt] X.env)).any (·.1) = false) :
    EOk X j (.isi a tys) (.Call (.Name "isinstance" pf) [ea, .Tuple nes kk pt] [] pos) := by
  refine imp (pe_callB call_isiT hf.1 hf.2.1 hf.2.2.1 (pa_cons ha (pa_cons (pe_tup ht.pa) pa_nil hs2) hs) hf.2.2.2.1 hf.2.2.2.2 hs hpl) fun σ H Q ⟨Z, env, fps, G, h⟩ => ?_
  refine isi_core hK h G fun v Z1 H1 n ex ty hn hall q => ⟨by rw [List.length_map]; exact Nat.le_trans hz lim_le, fun p np => ⟨v, p, tys.map V.ty, .type n, tys.map Value.type, _, rfl, upd_same, clsVs tys, ty _ (Evl.Ex.new np), kitNs hn hall, ?_⟩⟩
  exact q _ _ _ [] (stp_newZ ex np) (ex_upd2 ex) (.p (.bl _)) (by simp)

/-! ### built-in functions -/
def rOp (K : PySem.W.Frag) (g : List D → Option D) : List V → Hp → VK → Prop := fun vs H Q => ∃ Z ds r, Ex Z H ∧ RepL K Z H ds vs ∧ g ds = some r ∧ Mk K Z H r Q
theorem RepL.one {K : PySem.W.Frag} {Z H : Hp} {d : D} {vs : List V} (r : RepL K Z H [d] vs) : ∃ v f, vs = [v] ∧ RepD K Z H d v f := by
  cases r with
  | cons h r => cases r; exact ⟨_, _, rfl, h⟩
theorem RepL.two {K : PySem.W.Frag} {Z H : Hp} {d e : D} {vs : List V} (r : RepL K Z H [d, e] vs) : ∃ v w f g, vs = [v, w] ∧ RepD K Z H d v f ∧ RepD K Z H e w g := by
  cases r with
  | cons h r => cases r with
    | cons h' r => cases r; exact ⟨_, _, _, _, rfl, h, h'⟩
/-- a value that is a sequence of values -/
theorem RepD.seq {K : PySem.W.Frag} {Z H : Hp} {d : D} {v : V} {f : List Addr} {xs : List P} (ex : Ex Z H) (r : RepD K Z H d v f) (h : d.asL = some xs) : ∃ a vs, v = .ref a ∧ (SqL K H a vs ∨ SqT K H a vs) ∧ RepPs K Z xs vs := by
  cases r with
  | p r =>
    cases r <;> simp only [D.asL] at h <;> try cases h
    · rename_i h1 h2; exact ⟨_, _, rfl, .inr (Evl.ex_t ex h1), h2⟩
    · rename_i h1 h2; exact ⟨_, _, rfl, .inl (Evl.ex_l ex h1), h2⟩
  | pl h1 r => cases h; exact ⟨_, _, rfl, .inl (SqL.of h1), r⟩
  | st h1 h2 h3 h4 => cases h
  | pll h1 h2 h3 => cases h
  | tab h1 h2 h3 => cases h
theorem lenR : CallR X (.builtin "len") (rOp X.K lenop) := by
  intro pins s σ H vs us Q I rv ⟨Z, ds, r, ex, hl, e, m⟩
  unfold lenop at e
  split at e
  · obtain ⟨v, f, rfl, h⟩ := hl.one
    rw [inv_str h] at rv
    split at e
    · rename_i hz
      cases e
      exact call_len pins s σ H _ us Q I rv ⟨_, _, rfl, ⟨Nat.le_trans hz lim_le, rfl⟩, m.p ex (.int _)⟩
    · cases e
  · obtain ⟨v, f, rfl, h⟩ := hl.one
    split at e
    · rename_i xs ea
      cases e
      obtain ⟨a, ws, rfl, hs, hr⟩ := h.seq ex ea
      refine call_len pins s σ H _ us Q I rv ⟨_, xs.length, rfl, ?_, m.p ex (.int _)⟩
      rcases hs with hs | hs
      · exact .inl ⟨ws, hs, hr.length⟩
      · exact .inr ⟨ws, hs, hr.length⟩
    · cases e
  · cases e
theorem absR : CallR X (.builtin "abs") (rOp X.K absop) := by
  intro pins s σ H vs us Q I rv ⟨Z, ds, r, ex, hl, e, m⟩
  unfold absop at e
  split at e
  · obtain ⟨v, f, rfl, h⟩ := hl.one
    rw [inv_int h] at rv
    cases e
    exact call_abs pins s σ H _ us Q I rv ⟨_, rfl, m.p ex (.int _)⟩
  · cases e
theorem minR (hc : X.calm = true) : CallR X (.builtin "min") (rOp X.K minop) := by
  intro pins s σ H vs us Q I rv ⟨Z, ds, r, ex, hl, e, m⟩
  unfold minop at e
  split at e
  · obtain ⟨v, w, f, g, rfl, h, h'⟩ := hl.two
    rw [inv_int h, inv_int h'] at rv
    cases e
    exact call_min2 hc pins s σ H _ us Q I rv ⟨_, _, rfl, m.p ex (.int _)⟩
  · cases e
theorem intR : CallR X (.type "int") (rOp X.K intop) := by
  intro pins s σ H vs us Q I rv ⟨Z, ds, r, ex, hl, e, m⟩
  unfold intop at e
  split at e
  · obtain ⟨v, f, rfl, h⟩ := hl.one
    rw [inv_int h] at rv
    cases e
    exact call_int1 pins s σ H _ us Q I rv (.inl ⟨_, rfl, m.p ex (.int _)⟩)
  · obtain ⟨v, f, rfl, h⟩ := hl.one
    rw [inv_str h] at rv
    unfold intOfStr at e
    split at e
    · rename_i hz
      cases e2 : intText? (_ : Str) with
      | none => rw [e2] at e; cases e
      | some n =>
        rw [e2] at e
        cases e
        exact call_int_str pins s σ H _ us Q I rv ⟨_, n, rfl, e2, hz, m.p ex (.int _)⟩
    · cases e
  · cases e
theorem strR : CallR X (.type "str") (rOp X.K strop) := by
  intro pins s σ H vs us Q I rv ⟨Z, ds, r, ex, hl, e, m⟩
  unfold strop at e
  split at e
  · obtain ⟨v, f, rfl, h⟩ := hl.one
    rw [inv_int h] at rv
    split at e
    · rename_i hz
      cases e
      exact call_str_int pins s σ H _ us Q I rv ⟨_, rfl, hz, m.p ex (.str _)⟩
    · cases e
  · obtain ⟨v, f, rfl, h⟩ := hl.one
    rw [inv_str h] at rv
    cases e
    exact SkE.call_str_str pins s σ H _ us Q I rv ⟨_, rfl, m.p ex (.str _)⟩
  · cases e
theorem tupR : CallR X (.type "tuple") (rOp X.K tupop) := by
  intro pins s σ H vs us Q I rv ⟨Z, ds, r, ex, hl, e, m⟩
  unfold tupop at e
  split at e
  · obtain ⟨v, f, rfl, h⟩ := hl.one
    split at e
    · rename_i xs ea
      cases e
      cases h with
      | p r =>
        cases r <;> simp only [D.asL] at ea <;> try cases ea
        · rename_i h1 h2
          exact call_tuple_of pins s σ H _ us Q I rv ⟨_, _, rfl, .inr ⟨Evl.ex_t ex h1, m.p ex (.tup h1 h2)⟩⟩
        · rename_i h1 h2
          exact call_tuple_of pins s σ H _ us Q I rv ⟨_, _, rfl, .inl ⟨Evl.ex_l ex h1, fun l hl => m.tup ex h2 hl⟩⟩
      | pl h1 r => cases ea; exact call_tuple_of pins s σ H _ us Q I rv ⟨_, _, rfl, .inl ⟨SqL.of h1, fun l hl => m.tup ex r hl⟩⟩
      | st h1 h2 h3 h4 => cases ea
      | pll h1 h2 h3 => cases ea
      | tab h1 h2 h3 => cases ea
    · cases e
  · cases e
theorem allB_vs {K : PySem.W.Frag} {Z : Hp} : ∀ {xs : List P} {vs : List V} {r : Bool}, RepPs K Z xs vs → allB xs = some r → ∃ bs : List Bool, vs = bs.map V.bl ∧ bs.all id = r
  | _, _, _, .nil, h => by simp [allB] at h; subst h; exact ⟨[], rfl, rfl⟩
  | _, _, _, .cons h r, e => by
    cases h <;> simp only [allB] at e <;> try cases e
    rename_i b
    split at e
    · rename_i q eq
      cases e
      obtain ⟨bs, rfl, hb⟩ := allB_vs r eq
      exact ⟨b :: bs, rfl, by rw [List.all_cons, hb]; rfl⟩
    · cases e
theorem allR (hc : X.calm = true) : CallR X (.builtin "all") (rOp X.K allop) := by
  intro pins s σ H vs us Q I rv ⟨Z, ds, r, ex, hl, e, m⟩
  unfold allop at e
  split at e
  · obtain ⟨v, f, rfl, h⟩ := hl.one
    cases h with
    | pl h1 r =>
      rename_i xs _ _
      cases eb : allB xs with
      | none => rw [eb] at e; cases e
      | some q =>
        rw [eb] at e
        cases e
        obtain ⟨bs, rfl, hb⟩ := allB_vs r eb
        refine cr_all hc pins s σ H _ us Q I rv ⟨_, bs, rfl, SqL.of h1, ?_⟩
        rw [hb]
        exact m.p ex (.bl _)
  · cases e
end
end Ev
end

section
set_option Elab.async false
set_option linter.all false
/-! Ev9: forms of expressions; calls of built-ins; methods. -/
namespace Ev
open PySem L2
section
variable {X : L2.Cx} {j : J} {k : Nat} {a b c : T} {e ea eb ec : Expr} {pos p2 apos : Pos} {es : List Expr} {ts : List T}
/-! ### forms -/
def notStar : Expr → Bool
  | .Starred _ _ => false
  | _ => true
theorem star_cons {env : PySem.Env} (h : notStar e = true) : starEach (e :: es) env = (false, eval e env) :: starEach es env := by
  cases e <;> first | rfl | (simp [notStar] at h)
theorem star_any {env : PySem.Env} : ∀ {es : List Expr}, es.all notStar = true → (backTo pos (starEach es env)).any (·.1) = false
  | [], _ => rfl
  | e :: es, h => by
    rw [List.all_cons, Bool.and_eq_true] at h
    rw [star_cons h.1]
    show (false || (backTo pos (starEach es env)).any (·.1)) = false
    rw [star_any h.2]; rfl
theorem star_few {env : PySem.Env} : ∀ {es : List Expr}, es.all notStar = true → (backTo pos (starEach es env)).all (fun x => !x.1) = true
  | [], _ => rfl
  | e :: es, h => by
    rw [List.all_cons, Bool.and_eq_true] at h
    rw [star_cons h.1]
    show (!false && (backTo pos (starEach es env)).all (fun x => !x.1)) = true
    rw [star_few h.2]; rfl
def notCall : Expr → Bool
  | .Call _ _ _ _ => false
  | _ => true
theorem base_of {o : Expr} {f : Str} {env : PySem.Env} (h : notCall o = true) : attributeBase o f env (eval o env) = eval o env := by
  cases o <;> first | rfl | (simp [notCall] at h)
def isComp : Expr → Bool
  | .ListComp _ _ _ _ => true
  | .SetComp _ _ _ _ => true
  | .DictComp _ _ _ _ _ => true
  | _ => false
theorem swaps_no {t : Option Expr} {l : Nat} {env : PySem.Env} (h : isComp e = false) : swapsWith e t l env = pure false := by
  cases e <;> first | rfl | (simp [isComp] at h)
def notSlice : Expr → Bool
  | .Slice _ _ _ _ => false
  | _ => true
theorem plainIx (h : notSlice e = true) : PlainIx e := by
  intro o i
  cases e <;> first | rfl | (simp [notSlice] at h)
/-- an expression that is tested by its value -/
def plainTest : Expr → Bool
  | .UnaryOp .Not _ _ => false
  | .BoolOp _ _ _ => false
  | .IfExp _ _ _ _ => false
  | .Compare _ _ _ _ => false
  | _ => true
theorem test_of {env : PySem.Env} (h : plainTest e = true) (whole : Sem Value) : isTrue e env whole = (do let v ← whole; standAt e.pos; holding [v] (truthy v)) := by
  cases e with
  | UnaryOp op x p => cases op <;> first | rfl | (simp [plainTest] at h)
  | BoolOp _ _ _ => simp [plainTest] at h
  | IfExp _ _ _ _ => simp [plainTest] at h
  | Compare _ _ _ _ => simp [plainTest] at h
  | _ => rfl
def notSet : Expr → Bool
  | .Set _ _ _ => false
  | _ => true
theorem marks_of {op : CmpOp} (h : notSet e = true) : behindInMarks op e = false := by
  cases e <;> first | rfl | (simp [notSet] at h)
theorem folded_of {env : PySem.Env} (h : notSet e = true) (x : Value) : foldedSetIterable e env x = pure x := by
  cases e <;> first | rfl | (simp [notSet] at h)

/-! ### calls of built-ins -/
theorem ops_core (hK : X.K = j.K) {f : Str} {σ : St} {H : Hp} {Q : VK} {Z : Hp} {env : Env} {fps : List (List Addr)} (G : Good j.K Z H env σ fps) (h : PostO j Z H fps.flatten σ (.blt f ts) Q (evT j.Γ (.blt f ts) env)) :
    tCB (rOp X.K (bltop f)) (tA j ts) σ H Q := by
  unfold evT at h
  refine ⟨Z, env, fps, G, nextL G.start h fun ds e2 Z2 H2 fps2 fp2 vs p p' r h => ?_⟩
  cases ef : fins ts ds e2 with
  | none => rw [ef] at h; exact h.elim
  | some xs =>
    rw [ef] at h
    dsimp only at h
    unfold opt at h
    split at h
    · rename_i r' er
      rw [hK]
      exact ⟨Z2, xs, r', p.good.zle, r.fins p ef, er, Mk.of p' (by intro i; simp) h⟩
    · exact h.elim
theorem ok_blt (hK : X.K = j.K) {f : Str} {id : String} {pf : Pos} (hf : BName X f (.builtin id)) (hc : CallR X (.builtin id) (rOp X.K (bltop f))) (ha : AOk X j ts (e :: es)) (hs : (e :: es).all notStar = true) : EOk X j (.blt f ts) (.Call (.Name f pf) (e :: es) [] pos) := by
  rw [List.all_cons, Bool.and_eq_true] at hs
  exact imp (pe_callB hc hf.1 hf.2.1 hf.2.2.1 ha hf.2.2.2.1 hf.2.2.2.2 (star_cons hs.1) (star_any hs.2)) fun σ H Q ⟨Z, env, fps, G, h⟩ => ops_core hK G h
theorem ok_blty (hK : X.K = j.K) {f : Str} {n : String} {pf : Pos} (hf : BName X f (.type n)) (hc : CallR X (.type n) (rOp X.K (bltop f))) (ha : AOk X j ts (e :: es)) (hs : (e :: es).all notStar = true) : EOk X j (.blt f ts) (.Call (.Name f pf) (e :: es) [] pos) := by
  rw [List.all_cons, Bool.and_eq_true] at hs
  exact imp (pe_callTy hc hf.1 hf.2.1 hf.2.2.1 ha hf.2.2.2.1 hf.2.2.2.2 (star_cons hs.1) (star_any hs.2)) fun σ H Q ⟨Z, env, fps, G, h⟩ => ops_core hK G h

/-! ### join -/
theorem strsOf_vs {K : PySem.W.Frag} {Z : Hp} : ∀ {xs : List P} {vs : List V} {ys : List Str}, RepPs K Z xs vs → strsOf xs = some ys → vs = ys.map V.str
  | _, _, _, .nil, h => by simp [strsOf] at h; subst h; rfl
  | _, _, _, .cons h r, e => by
    cases h <;> simp only [strsOf] at e <;> try cases e
    split at e
    · rename_i q eq
      cases e
      rw [strsOf_vs r eq]; rfl
    · cases e
theorem ok_join (hK : X.K = j.K) (hb : notCall ea = true) (hn : notStar eb = true) (hl : (apos.endLine == pos.line) = true) (ha : EOk X j a ea) (hb' : EOk X j b eb) : EOk X j (.join a b) (.Call (.Attribute ea "join" apos) [eb] [] pos) := by
  have few : ((backTo pos (starEach [eb] X.env)).all (fun x => !x.1) && (backToKw pos (keywordEach [] X.env)).all (fun x => x.1.isSome) && decide ([eb].length + ([] : List Keyword).length + (if ([] : List Keyword).isEmpty then 0 else 1) < 30)) = true := by
    rw [star_few (by simp [hn])]; rfl
  refine imp (pe_bm PySem.F.plainAttrs_str PySem.F.slot_str_join PySem.F.type_str_join mt_join ha (pa_cons hb' pa_nil (star_cons hn)) (base_of hb) few hl (star_cons hn) rfl) fun σ H Q ⟨Z, env, fps, G, h⟩ => ?_
  unfold evT at h
  refine ⟨Z, env, fps, G, next G.start h fun d1 e1 Z1 H1 fps1 fp1 v1 p1 p1' r1 h => ?_⟩
  split at h
  · rename_i s es
    obtain ⟨f1, g1⟩ := RO.get0 r1 p1 es
    have ev := inv_str g1
    subst ev
    refine ⟨rfl, Z1, e1, fps1, p1.good, next p1 h fun d2 e2 Z2 H2 fps2 fp2 v2 p2 p2' r2 h => ?_⟩
    split at h
    · rename_i y ey
      obtain ⟨f2, g2⟩ := RO.get0 r2 p2 ey
      split at h
      · rename_i xs exs
        obtain ⟨q, ws, rfl, hs, hr⟩ := g2.seq p2.good.zle exs
        unfold joinP at h
        cases es : strsOf xs with
        | none => rw [es] at h; exact h.elim
        | some ys =>
          rw [es] at h
          dsimp only at h
          split at h
          · rename_i hz
            rw [strsOf_vs hr es] at hs
            refine ⟨s, q, ys, rfl, rfl, by rw [hK]; exact hs, Nat.le_trans hz (by decide), ?_⟩
            exact h Z2 H2 fps2 [] _ p2'.drop (.p (.str _))
          · exact h.elim
      · exact h.elim
    · exact h.elim
  · exact h.elim
end
end Ev
end

section
set_option Elab.async false
set_option linter.all false
/-! Ev10: targets and small statements. -/
namespace Ev
open PySem L2
section
variable {K : PySem.W.Frag} {Z H Z1 H1 : Hp} {F fp f : List Addr} {env : Env} {σ : St} {fps : List (List Addr)} {i : Nat} {d : D} {v : V}
theorem sub_flatten {fps : List (List Addr)} {i : Nat} {x : Addr} (h : x ∈ (fps.set i []).flatten) : x ∈ fps.flatten := (mem_flatten_set h).elim (fun h => absurd h (by simp)) id
theorem nodup_set : ∀ {fps : List (List Addr)} (i : Nat), fps.flatten.Nodup → (fps.set i []).flatten.Nodup
  | [], _, h => h
  | g :: gs, 0, h => (List.nodup_append.mp h).2.1
  | g :: gs, i + 1, h => by
    have h := List.nodup_append.mp (show (g ++ gs.flatten).Nodup from h)
    refine List.nodup_append.mpr ⟨h.1, nodup_set i h.2.1, fun x hx y hy => h.2.2 x hx y (sub_flatten hy)⟩
/-- a slot forgets what it holds; the frame's slot may be anything -/
theorem Post.clear (p : Post K Z H F Z1 H1 env σ fps fp) (i : Nat) (o : Option V) : Post K Z H F Z1 H1 (env.set i none) (σ.set i o) (fps.set i []) fp :=
  ⟨p.stp.sub fun x hx => by
    rcases List.mem_append.mp hx with hx | hx
    · exact List.mem_append_left _ hx
    · exact List.mem_append_right _ (sub_flatten hx), ⟨p.good.zle, p.good.rep.setV i o, nodup_set i p.good.nd, fun a ha => p.good.zd a (sub_flatten ha)⟩, fun a ha hb => p.dj a ha (sub_flatten hb), p.nd, p.zd, p.al⟩
theorem Post.clear0 (p : Post K Z H F Z1 H1 env σ fps fp) (i : Nat) : Post K Z H F Z1 H1 (env.set i none) σ (fps.set i []) fp :=
  ⟨p.stp.sub fun x hx => by
    rcases List.mem_append.mp hx with hx | hx
    · exact List.mem_append_left _ hx
    · exact List.mem_append_right _ (sub_flatten hx), ⟨p.good.zle, p.good.rep.setN i, nodup_set i p.good.nd, fun a ha => p.good.zd a (sub_flatten ha)⟩, fun a ha hb => p.dj a ha (sub_flatten hb), p.nd, p.zd, p.al⟩
theorem set_set_env {e : Env} {i : Nat} {x : Option D} : (e.set i none).set i x = e.set i x := by simp
/-- a slot is stored -/
theorem Post.fill (p : Post K Z H F Z1 H1 env σ fps (f ++ fp)) (hi : i < env.length) (r : RepD K Z1 H1 d v f) : Post K Z H F Z1 H1 (env.set i (some d)) (σ.set i (some v)) (fps.set i f) fp := by
  have q := p.clear i (some v)
  have hl : i < fps.length := by have := p.good.rep.len; omega
  have e := q.put (i := i) (d := d) (f := f) (by simp [hl]) (by
    have := q.good.rep.setS r i
    simpa using this)
  simpa using e
/-- .. and shared, unless it is to be kept as its own -/
theorem Post.store (p : Post K Z H F Z1 H1 env σ fps (f ++ fp)) (hi : i < env.length) (r : RepD K Z1 H1 d v f) {k : Bool} {d' : D} (h : frzIf k d = some d') :
    ∃ Z2 fps2, Ex Z1 Z2 ∧ Post K Z H F Z2 H1 (env.set i (some d')) (σ.set i (some v)) fps2 fp := by
  have own : d = d' → ∃ Z2 fps2, Ex Z1 Z2 ∧ Post K Z H F Z2 H1 (env.set i (some d')) (σ.set i (some v)) fps2 fp := fun e => by
    subst e
    exact ⟨Z1, _, Evl.Ex.refl _, p.fill hi r⟩
  have shr : ∀ x, d.frz = some x → d' = .p x → ∃ Z2 fps2, Ex Z1 Z2 ∧ Post K Z H F Z2 H1 (env.set i (some d')) (σ.set i (some v)) fps2 fp := fun x e e' => by
    subst e'
    obtain ⟨Z2, ex, q, rx⟩ := p.share r e
    exact ⟨Z2, _, ex, Post.fill (f := []) q hi (.p rx)⟩
  cases k with
  | true => cases h; exact own rfl
  | false =>
    cases d with
    | st s => cases h; exact own rfl
    | pll s => cases h; exact own rfl
    | tab p q => cases h
    | p x => cases h; exact shr x rfl rfl
    | pl xs => cases h; exact shr _ rfl rfl
    | pd xs => cases h; exact shr _ rfl rfl
end

/-! ### targets -/
section
variable {X : L2.Cx} {j : J} {k : Nat} {a b c : T} {e ea eb ec : Expr} {pos p2 apos : Pos} {es : List Expr} {ts : List T} {prot : List Nat}
def SameAt (prot : List Nat) (σ σ' : St) : Prop := ∀ i ∈ prot, σ'[i]? = σ[i]?
theorem SameAt.refl {σ : St} : SameAt prot σ σ := fun _ _ => rfl
theorem SameAt.trans {σ σ1 σ2 : St} (a : SameAt prot σ σ1) (b : SameAt prot σ1 σ2) : SameAt prot σ σ2 := fun i hi => (b i hi).trans (a i hi)
theorem SameAt.set {σ : St} {i : Nat} {o : Option V} (h : i ∉ prot) : SameAt prot σ (List.set σ i o) := fun n hn => by
  have e : i ≠ n := fun e => h (by rw [e]; exact hn)
  show (List.set σ i o)[n]? = σ[n]?
  rw [List.getElem?_set_ne e]
/-- the value in the hand goes to a target -/
def tG (K : PySem.W.Frag) (prot : List Nat) (g : Tg) : TG := fun v σ H Q => ∃ Z0 H0 F0 Z env fps fp d env', Post K Z0 H0 F0 Z H env σ fps fp ∧ RepD K Z H d v fp ∧ asgT prot g d env = some env' ∧
  ∀ Z' σ' fps', Ex Z Z' → Post K Z0 H0 F0 Z' H env' σ' fps' [] → SameAt prot σ σ' → Q σ' H
def GOk (X : L2.Cx) (K : PySem.W.Frag) (prot : List Nat) (g : Tg) (e : Expr) : Prop := PG X e (tG K prot g)
theorem impG {t t' : TG} (h : PG X e t) (w : ∀ v σ H Q, t' v σ H Q → t v σ H Q) : PG X e t' := ⟨fun p s σ H v u Q I r q => h.run p s σ H v u Q I r (w v σ H Q q)⟩
theorem nm_core {K : PySem.W.Frag} {i : Nat} {kp : Bool} {v : V} {σ : St} {H : Hp} {Q : L2.St → Hp → Prop} (q : tG K prot (.nm i kp) v σ H Q) : gName i v σ H Q := by
  obtain ⟨Z0, H0, F0, Z, env, fps, fp, d, env', p, r, h, q⟩ := q
  unfold asgT at h
  split at h
  · cases h
  · rename_i hp
    split at h
    · rename_i hl
      split at h
      · rename_i d' ed
        cases h
        obtain ⟨Z2, fps2, ex, p2⟩ := Post.store (fp := []) (by simpa using p) hl r ed
        exact q Z2 _ fps2 ex p2 (SameAt.set hp)
      · cases h
    · cases h
theorem go_nm {i : Nat} {kp : Bool} {x : Str} (hN : X.N.Nodup) (hi : X.N[i]? = some x) (hx : Loc X.env.scope x) (hf : X.fn x = true ∨ X.env.scope.names.lookup x = some .local) : GOk X j.K prot (.nm i kp) (.Name x pos) :=
  impG (pg_name hN hi hx hf) fun v σ H Q q => nm_core q
def tGs (K : PySem.W.Frag) (prot : List Nat) (gs : List Tg) : TGs := fun vs σ H Q => ∃ Z0 H0 F0 Z env fps xs env', Post K Z0 H0 F0 Z H env σ fps [] ∧ RepPs K Z xs vs ∧ asgTs prot gs xs env = some env' ∧
  ∀ Z' σ' fps', Ex Z Z' → Post K Z0 H0 F0 Z' H env' σ' fps' [] → SameAt prot σ σ' → Q σ' H
def GsOk (X : L2.Cx) (K : PySem.W.Frag) (prot : List Nat) (gs : List Tg) (es : List Expr) : Prop := PGs X es (tGs K prot gs)
theorem impGs {t t' : TGs} (h : PGs X es t) (w : ∀ v σ H Q, t' v σ H Q → t v σ H Q) : PGs X es t' := ⟨fun p s σ H v u Q I r q => h.run p s σ H v u Q I r (w v σ H Q q)⟩
theorem gso_nil : GsOk X j.K prot [] [] := by
  refine impGs pgs_nil fun vs σ H Q ⟨Z0, H0, F0, Z, env, fps, xs, env', p, r, h, q⟩ => ?_
  cases r with
  | nil =>
    simp only [asgTs, Option.some.injEq] at h
    subst h
    exact ⟨rfl, q Z σ fps (Evl.Ex.refl _) p SameAt.refl⟩
  | cons _ _ => simp [asgTs] at h
theorem gso_cons {g : Tg} {gs : List Tg} (hg : GOk X j.K prot g e) (hr : GsOk X j.K prot gs es) (hs : notStar e = true) : GsOk X j.K prot (g :: gs) (e :: es) := by
  have hs' : (assignEach (e :: es) X.env).map (·.2) = assign e X.env :: (assignEach es X.env).map (·.2) := by
    cases e <;> first | rfl | (simp [notStar] at hs)
  refine impGs (pgs_cons hg hr hs') fun vs σ H Q ⟨Z0, H0, F0, Z, env, fps, xs, env', p, r, h, q⟩ => ?_
  cases r with
  | nil => simp [asgTs] at h
  | @cons x v xs vs rx r =>
    unfold asgTs at h
    split at h
    · rename_i e1 ee
      refine ⟨v, vs, rfl, Z0, H0, F0, Z, env, fps, [], .p x, e1, p, .p rx, ee, fun Z' σ' fps' ex p' sm => ⟨Z0, H0, F0, Z', e1, fps', xs, env', p', r.mono ex, h, fun Z'' σ'' fps'' ex' p'' sm' => q Z'' σ'' fps'' (ex.trans ex') p'' (sm.trans sm')⟩⟩
    · cases h
theorem assignEach_len {env : PySem.Env} : ∀ (es : List Expr), (assignEach es env).length = es.length
  | [] => rfl
  | e :: es => by cases e <;> (show (assignEach es env).length + 1 = _; rw [assignEach_len es]; rfl)
theorem assignEach_no {env : PySem.Env} : ∀ {es : List Expr}, es.all notStar = true → (assignEach es env).findIdx? (·.1) = none
  | [], _ => rfl
  | e :: es, h => by
    rw [List.all_cons, Bool.and_eq_true] at h
    have ih := assignEach_no (env := env) h.2
    have : assignEach (e :: es) env = (false, assign e env) :: assignEach es env := by
      have h1 := h.1
      cases e <;> first | rfl | (simp [notStar] at h1)
    rw [this, List.findIdx?_cons]
    simp [ih]
theorem go_tp {gs : List Tg} {kk : Nat} (hc : X.calm = true) (hK : X.K = j.K) (hg : GsOk X j.K prot gs es) (hs : es.all notStar = true) (hl : gs.length = es.length) : GOk X j.K prot (.tp gs) (.Tuple es kk pos) := by
  refine impG (pg_tup hc hg (n := es.length) (assignEach_len es) (assignEach_no hs)) fun v σ H Q ⟨Z0, H0, F0, Z, env, fps, fp, d, env', p, r, h, q⟩ => ?_
  cases r with
  | p r =>
    cases r <;> (simp only [asgT] at h) <;> try cases h
    rename_i ad vs xs h1 h2
    split at h
    · rename_i hlen
      rw [hK]
      exact ⟨_, _, rfl, Evl.ex_t p.good.zle (by assumption), by rw [← RepPs.length (by assumption), hlen, hl], Z0, H0, F0, Z, env, fps, _, env', p, by assumption, h, q⟩
    · cases h
  | pl h1 r => simp only [asgT] at h; cases h
  | st h1 h2 h3 h4 => simp only [asgT] at h; cases h
  | pll h1 h2 h3 => simp only [asgT] at h; cases h
  | tab h1 h2 h3 => simp only [asgT] at h; cases h
end
end Ev
end

section
set_option Elab.async false
set_option linter.all false
/-! EvX: a list is extended by a tuple, whatever the tuple's object else bears. -/
namespace Ev
open PySem
theorem ext_tup (l b : Addr) (xs ys : Array Value) (n m : Nat) (od : Option Addr) (sl : Array (Option Value)) (h0 : ¬(!xs.isEmpty && Builtin.List.listTooLong (xs.size + ys.size)) = true)
    (h1 : xs.size ≤ sizeLine) (h2 : xs.size + ys.size ≤ sizeLine + 1) :
    Meets (Builtin.«list.extend» ⟨[.ref l, .ref b], []⟩) (fun _ R s => (s.heap.get? l = some { cls := .type "list", data := .seq xs n }) ∧
      (s.heap.get? b = some { cls := .type "tuple", dict := od, data := .seq ys m, slots := sl }) ∧ R (.ok (.ret Value.none)) { s with toks := s.toks, heap := s.heap.update l (Obj.mapSeq fun z => z ++ ys) }) := by
  refine .of_wp fun prog w A R s h => ?_
  obtain ⟨hp, g, d, tk, os⟩ := s
  obtain ⟨hl, hb, h⟩ := h
  have k1 := AutoSeq1.sub_tuple_tuple
  have k2 := AutoSeq1.sub_list_list
  have k3 := AutoSeq1.sub_tuple_list
  have k4 := AutoSeq1.sub_list_tuple
  have hz : (xs ++ ys).size ≤ sizeLine + 1 := by
    rw [Array.size_append]
    exact h2
  wp_walk using (wpAny_updateSeq hl rfl (hz := h1) (_hz' := hz)), AutoSeq1.wpAny_loadPart' hl, AutoSeq1.wpAny_loadPart' hb
  exact ⟨_, rfl, h⟩
end Ev
namespace L2
open PySem PySem.Spec PyProof.Rows
def rExtT (K : PySem.W.Frag) : V → List V → Hp → VK → Prop := fun x vs H Q => ∃ l b xs zs, x = .ref l ∧ vs = [.ref b] ∧ H l = some (.lst xs) ∧ SqT K H b zs ∧ xs.length + zs.length ≤ sizeLine ∧ Q .non (upd H l (.lst (xs ++ zs)))
theorem mt_extT {X : Cx} : MtM X "list.extend" (rExtT X.K) := by
  intro pins s σ H x vs v us Q I rx rv h
  obtain ⟨l, b, xs, zs, rfl, rfl, hH, hB, hz, q⟩ := h
  cases rx
  obtain ⟨u, rfl, ru⟩ := rv.one
  cases ru
  obtain ⟨z, its, n, r, hl, e⟩ := I.lstM hH
  obtain ⟨its2, r2, ⟨o, ho, hc, m, hd⟩, _⟩ := I.tuple hB
  obtain ⟨oc, od, dt, sl⟩ := o
  simp only at hc hd
  subst hc hd
  have hl2 := r2.length
  have hsz : its.toArray.size + its2.toArray.size ≤ sizeLine := by
    rw [List.size_toArray, List.size_toArray]
    omega
  have hlong : ¬ (!its.toArray.isEmpty && Builtin.List.listTooLong (its.toArray.size + its2.toArray.size)) = true := by
    rw [notLongL hsz]
    simp
  refine call_meets F.slot_list_extend ⟨_, e, rfl⟩ F.entry_list_extend (F.args_list_extend_2 _ _) (Ev.ext_tup l b its.toArray its2.toArray n m od sl hlong (by rw [List.size_toArray]; omega) (by omega)) ⟨e, ho, ?_⟩
  refine ⟨.non, _, I.lset (its' := its ++ its2) hH e (by simp) (r.append r2) ?_, rfl, q⟩
  rw [List.length_append]
  omega
end L2
end

section
set_option Elab.async false
set_option linter.all false
/-! Ev11: statements. -/
namespace Ev
open PySem L2
section
variable {X : L2.Cx} {j : J} {k F : Nat} {a b c t : T} {e ea eb ec : Expr} {pos p2 apos : Pos} {es : List Expr} {ts : List T} {prot : List Nat}
def PostS (j : J) (prot : List Nat) (Z H : Hp) (F : List Addr) (σ : St) (Y : Ends) : SO → Prop
  | .nx e => ∀ Z' H' σ' fps', Post j.K Z H F Z' H' e σ' fps' [] → SameAt prot σ σ' → Y.nx σ' H'
  | .ret d e => ∀ Z' H' σ' fps' fp v, Post j.K Z H F Z' H' e σ' fps' fp → RepD j.K Z' H' d v fp → SameAt prot σ σ' → Y.rt v H'
  | .bk e => ∀ Z' H' σ' fps', Post j.K Z H F Z' H' e σ' fps' [] → SameAt prot σ σ' → Y.bk σ' H'
  | .ct e => ∀ Z' H' σ' fps', Post j.K Z H F Z' H' e σ' fps' [] → SameAt prot σ σ' → Y.ct σ' H'
  | .exc c fs e => ∀ Z' H' σ' fps' cls dx, Post j.K Z H F Z' H' e σ' fps' [] → SameAt prot σ σ' → ExcR j Z' c fs cls dx → j.W cls dx σ' H'
  | .bad => False
def tS (j : J) (F : Nat) (prot : List Nat) (s : S) : TS := fun Y σ H => ∃ Z env fps, Good j.K Z H env σ fps ∧ PostS j prot Z H fps.flatten σ Y (evS j.Γ F s prot env)
def tB (j : J) (F : Nat) (prot : List Nat) (ss : List S) : TS := fun Y σ H => ∃ Z env fps, Good j.K Z H env σ fps ∧ PostS j prot Z H fps.flatten σ Y (evB j.Γ F ss prot env)
def SOk (X : L2.Cx) (j : J) (F : Nat) (prot : List Nat) (s : S) (st : Stmt) : Prop := PS X st (tS j F prot s)
def BOk (X : L2.Cx) (j : J) (F : Nat) (prot : List Nat) (ss : List S) (sts : List Stmt) : Prop := PSs X sts (tB j F prot ss)
theorem impS {st : Stmt} {t t' : TS} (h : PS X st t) (w : ∀ Y σ H, t' Y σ H → t Y σ H) : PS X st t' := ⟨fun p s σ H Y I q => h.run p s σ H Y I (w Y σ H q)⟩
theorem impB {st : List Stmt} {t t' : TS} (h : PSs X st t) (w : ∀ Y σ H, t' Y σ H → t Y σ H) : PSs X st t' := ⟨fun p s σ H Y I q => h.run p s σ H Y I (w Y σ H q)⟩
section
variable {Z H Z1 H1 Z2 H2 : Hp} {FF fp fp1 f : List Addr} {env e1 e2 : Env} {σ σ1 : St} {fps fps1 fps2 : List (List Addr)} {Y : Ends} {Q : VK} {o : SO}
theorem PostS.from (p : Post j.K Z H FF Z1 H1 e1 σ1 fps1 fp1) (sm : SameAt prot σ σ1) (h : PostS j prot Z H FF σ Y o) : PostS j prot Z1 H1 fps1.flatten σ1 Y o := by
  cases o with
  | nx e => exact fun Z' H' σ' fps' q s => h Z' H' σ' fps' (p.comp q).drop (sm.trans s)
  | ret d e => exact fun Z' H' σ' fps' fp v q r s => h Z' H' σ' fps' fp v ((p.comp q).sub (fun x hx => List.mem_append_right _ hx) q.nd) r (sm.trans s)
  | bk e => exact fun Z' H' σ' fps' q s => h Z' H' σ' fps' (p.comp q).drop (sm.trans s)
  | ct e => exact fun Z' H' σ' fps' q s => h Z' H' σ' fps' (p.comp q).drop (sm.trans s)
  | exc c fs e => exact fun Z' H' σ' fps' cls dx q s x => h Z' H' σ' fps' cls dx (p.comp q).drop (sm.trans s) x
  | bad => exact h
theorem excS (p : Post j.K Z H FF Z1 H1 e1 σ1 fps1 fp1) (sm : SameAt prot σ σ1) {c : Str} {fs : Flds} {e : Env} (h : PostS j prot Z H FF σ Y (.exc c fs e)) : PostX j Z1 H1 fps1.flatten σ1 c fs e :=
  fun Z' H' fps' cls dx q x => h Z' H' σ1 fps' cls dx (p.comp q).drop sm x
/-- a value on the way of a statement -/
theorem nextS (p : Post j.K Z H FF Z1 H1 e1 σ1 fps1 fp1) (sm : SameAt prot σ σ1) {f : D → Env → SO} (h : PostS j prot Z H FF σ Y ((evT j.Γ b e1).thn f))
    (k : ∀ d e2 Z2 H2 fps2 fp2 v, Post j.K Z1 H1 fps1.flatten Z2 H2 e2 σ1 fps2 fp2 → Post j.K Z H FF Z2 H2 e2 σ1 fps2 (fp1 ++ fp2) → RO j.K b Z2 H2 σ1 d v fp2 → PostS j prot Z H FF σ Y (f d e2) → Q v H2) :
    PostO j Z1 H1 fps1.flatten σ1 b Q (evT j.Γ b e1) := by
  cases e : evT j.Γ b e1 with
  | ok d e2 =>
    rw [e] at h
    exact fun Z2 H2 fps2 fp2 v q r => k d e2 Z2 H2 fps2 fp2 v q (p.comp q) r h
  | exc c fs e' =>
    rw [e] at h
    exact excS p sm h
  | bad =>
    rw [e] at h
    exact h
theorem nextSB (p : Post j.K Z H FF Z1 H1 e1 σ1 fps1 fp1) (sm : SameAt prot σ σ1) {Q : Bool → Hp → Prop} {f : Bool → Env → SO} (h : PostS j prot Z H FF σ Y ((evT j.Γ t e1).thn fun d e => match fin t d e with
      | some (.p (.bl k)) => f k e
      | _ => .bad))
    (k : ∀ c e2 Z2 H2 fps2, Post j.K Z1 H1 fps1.flatten Z2 H2 e2 σ1 fps2 [] → Post j.K Z H FF Z2 H2 e2 σ1 fps2 fp1 → PostS j prot Z H FF σ Y (f c e2) → Q c H2) : PostT j Z1 H1 fps1.flatten σ1 t Q (evT j.Γ t e1) := by
  cases e : evT j.Γ t e1 with
  | ok d e2 =>
    rw [e] at h
    dsimp only [Out.thn] at h
    split at h
    · rename_i c ec
      exact ⟨c, ec, fun Z2 H2 fps2 q => k c e2 Z2 H2 fps2 q (by simpa using p.comp q) h⟩
    · exact h.elim
  | exc c fs e' =>
    rw [e] at h
    exact excS p sm h
  | bad =>
    rw [e] at h
    exact h

/-! ### an object of a slot is written -/
theorem Post.takeH {K : PySem.W.Frag} {i : Nat} (p : Post K Z H FF Z1 H1 env σ fps fp) (h2 : fps[i]? = some f) : Post K Z H FF Z1 H1 (env.set i none) σ (fps.set i []) (f ++ fp) := by
  have pm := flatten_take (i := i) h2
  have nd := List.nodup_append.mp (pm.symm.nodup p.good.nd)
  have inF : ∀ x ∈ f, x ∈ fps.flatten := fun x hx => pm.mem_iff.mp (List.mem_append_left _ hx)
  refine ⟨p.stp.sub fun x hx => ?_, ⟨p.good.zle, p.good.rep.setN i, nd.2.1, fun a ha => p.good.zd a (sub_flatten ha)⟩, fun a ha hb => ?_, List.nodup_append.mpr ⟨nd.1, p.nd, fun x hx y hy e => p.dj y hy (e ▸ inF x hx)⟩, fun a ha => ?_, fun a ha => ?_⟩
  · rcases List.mem_append.mp hx with hx | hx
    · rcases List.mem_append.mp hx with hx | hx
      · exact List.mem_append_right _ (inF x hx)
      · exact List.mem_append_left _ hx
    · exact List.mem_append_right _ (sub_flatten hx)
  · rcases List.mem_append.mp ha with ha | ha
    · exact nd.2.2 a ha a hb rfl
    · exact p.dj a ha (sub_flatten hb)
  · rcases List.mem_append.mp ha with ha | ha
    · exact p.good.zd a (inF a ha)
    · exact p.zd a ha
  · rcases List.mem_append.mp ha with ha | ha
    · exact p.good.rep.al a (inF a ha)
    · exact p.al a ha
/-- something in the hand is written -/
theorem Post.touch {K : PySem.W.Frag} (p : Post K Z H FF Z1 H1 env σ fps fp) {x : Addr} (hx : x ∈ fp) (o : HO) : Post K Z H FF Z1 (upd H1 x o) env σ fps fp := by
  have nf : ∀ y ∈ fps.flatten, y ≠ x := fun y hy e => p.dj x hx (e ▸ hy)
  refine ⟨⟨p.stp.zz, fun y u h hF => ?_, p.stp.nw, p.stp.zn⟩, ⟨fun y u h => ?_, p.good.rep.keep (Evl.Ex.refl _) fun y hy => upd_ne (nf y hy), p.good.nd, p.good.zd⟩, p.dj, p.nd, p.zd, fun y hy => ?_⟩
  · have : y ≠ x := fun e => by
      subst e
      rcases p.stp.nw y (List.mem_append_left _ hx) with z | z
      · exact hF z
      · rw [h] at z; cases z
    rw [upd_ne this]
    exact p.stp.fr y u h hF
  · have : y ≠ x := fun e => by
      subst e
      rw [p.zd y hx] at h; cases h
    rw [upd_ne this]
    exact p.good.zle y u h
  · by_cases e : y = x
    · subst e; exact ⟨o, upd_same⟩
    · rw [upd_ne e]; exact p.al y hy
/-- a slot's list is written -/
theorem Post.writeL {K : PySem.W.Frag} {i : Nat} {l : Addr} {xs ys : List P} {vs ws : List V} (p : Post K Z H FF Z1 H1 env σ fps fp) (hv : σ[i]? = some (some (.ref l))) (he : getE env i = some (.pl xs)) (hr : RepPs K Z1 ys ws) :
    Post K Z H FF Z1 (upd H1 l (.lst ws)) (env.set i (some (.pl ys))) σ fps fp ∧ ∃ vs, H1 l = some (.lst vs) ∧ RepPs K Z1 xs vs := by
  obtain ⟨v, f, h1, h2, h3⟩ := p.good.rep.at he
  rw [hv] at h1
  cases h1
  cases h3 with
  | pl h r =>
    refine ⟨?_, _, h, r⟩
    have q := (p.takeH h2).touch (x := l) (by simp) (.lst ws)
    have hl : i < fps.length := (List.getElem?_eq_some_iff.mp h2).1
    have q2 := q.put (i := i) (d := .pl ys) (f := [l]) (by simp [hl]) (by
      have := (q.good.rep.setD (i := i) hv (RepD.pl upd_same hr))
      simpa using this)
    have e1 : (fps.set i []).set i [l] = fps := by simp; exact set_get_self h2
    rw [e1] at q2
    simpa using q2
end

/-! ### blocks -/
theorem bo_nil : BOk X j F prot [] [] := by
  refine impB pss_nil fun Y σ H ⟨Z, env, fps, G, h⟩ => ?_
  unfold evB at h
  exact h Z H σ fps G.start SameAt.refl
theorem bo_cons {s : S} {ss : List S} {st : Stmt} {sts : List Stmt} (h1 : SOk X j F prot s st) (h2 : BOk X j F prot ss sts) : BOk X j F prot (s :: ss) (st :: sts) := by
  refine impB (pss_cons h1 h2) fun Y σ H ⟨Z, env, fps, G, h⟩ => ?_
  unfold evB at h
  refine ⟨Z, env, fps, G, ?_⟩
  cases e : evS j.Γ F s prot env with
  | nx e1 =>
    rw [e] at h
    exact fun Z1 H1 σ1 fps1 p sm => ⟨Z1, e1, fps1, p.good, PostS.from p sm h⟩
  | ret d e1 => rw [e] at h; exact h
  | bk e1 => rw [e] at h; exact h
  | ct e1 => rw [e] at h; exact h
  | exc c fs e1 => rw [e] at h; exact h
  | bad => rw [e] at h; exact h

/-! ### small statements -/
theorem so_pass : SOk X j F prot .pass (.Pass pos) := by
  refine impS ps_pass fun Y σ H ⟨Z, env, fps, G, h⟩ => ?_
  unfold evS at h
  exact h Z H σ fps G.start SameAt.refl
theorem so_brk : SOk X j F prot .brk (.Break pos) := by
  refine impS ps_break fun Y σ H ⟨Z, env, fps, G, h⟩ => ?_
  unfold evS at h
  exact h Z H σ fps G.start SameAt.refl
theorem so_cnt : SOk X j F prot .cnt (.Continue pos) := by
  refine impS ps_continue fun Y σ H ⟨Z, env, fps, G, h⟩ => ?_
  unfold evS at h
  exact h Z H σ fps G.start SameAt.refl
theorem so_expr (ha : EOk X j t e) (hs : isComp e = false) : SOk X j F prot (.expr t) (.Expr e pos) := by
  refine impS (ps_expr ha (swaps_no hs)) fun Y σ H ⟨Z, env, fps, G, h⟩ => ?_
  unfold evS at h
  exact ⟨Z, env, fps, G, nextS G.start SameAt.refl h fun d e2 Z2 H2 fps2 fp2 v p p' r h => h Z2 H2 σ fps2 p'.drop SameAt.refl⟩
theorem so_ret (n : NP t) (ha : EOk X j t e) : SOk X j F prot (.ret t) (.Return (some e) pos) := by
  refine impS (ps_ret ha) fun Y σ H ⟨Z, env, fps, G, h⟩ => ?_
  unfold evS at h
  exact ⟨Z, env, fps, G, nextS G.start SameAt.refl h fun d e2 Z2 H2 fps2 fp2 v p p' r h => h Z2 H2 σ fps2 fp2 v p (r.rep n) SameAt.refl⟩
theorem so_retN : SOk X j F prot .retN (.Return none pos) := by
  refine impS ps_retN fun Y σ H ⟨Z, env, fps, G, h⟩ => ?_
  unfold evS at h
  exact h Z H σ fps [] _ G.start (.p .non) SameAt.refl
theorem so_ife {sa sb : List S} {xa xb : List Stmt} (ht : TOk X j t e) (ha : BOk X j F prot sa xa) (hb : BOk X j F prot sb xb) : SOk X j F prot (.ife t sa sb) (.If e xa xb pos) := by
  refine impS (ps_if ht ha hb) fun Y σ H ⟨Z, env, fps, G, h⟩ => ?_
  unfold evS at h
  refine ⟨Z, env, fps, G, nextSB (f := fun k e => if k then evB j.Γ F sa prot e else evB j.Γ F sb prot e) G.start SameAt.refl h fun c e2 Z2 H2 fps2 p p' h => ?_⟩
  cases c with
  | true => exact ⟨Z2, e2, fps2, p.good, PostS.from p' SameAt.refl h⟩
  | false => exact ⟨Z2, e2, fps2, p.good, PostS.from p' SameAt.refl h⟩
/-- the value goes to a target -/
theorem asg_core {g : Tg} {Y : Ends} {σ : St} {H : Hp} {Z : Hp} {env : Env} {fps : List (List Addr)} (n : NP t) (G : Good j.K Z H env σ fps) (h : PostS j prot Z H fps.flatten σ Y (evS j.Γ F (.asg g t) prot env)) : tAsg (tE j t) (tG j.K prot g) Y σ H := by
  unfold evS at h
  refine ⟨Z, env, fps, G, nextS G.start SameAt.refl h fun d e2 Z2 H2 fps2 fp2 v p p' r h => ?_⟩
  split at h
  · rename_i e3 ea
    exact ⟨Z, H, fps.flatten, Z2, e2, fps2, fp2, d, e3, p, r.rep n, ea, fun Z' σ' fps' ex q sm => h Z' H2 σ' fps' q sm⟩
  · exact h.elim
def isTuple : Expr → Bool
  | .Tuple _ _ _ => true
  | _ => false
def isName : Expr → Bool
  | .Name _ _ => true
  | _ => false
theorem stores_no {tg : Expr} {env : PySem.Env} (h : isName tg = true ∨ (isTuple tg = true ∧ isTuple e = false)) : swappedStores [tg] e env = pure none := by
  rcases h with h | ⟨h, h'⟩
  · cases tg <;> first | rfl | (simp [isName] at h)
  · cases tg with
    | Tuple _ _ _ => cases e <;> first | rfl | (simp [isTuple] at h')
    | _ => simp [isTuple] at h
theorem so_asg {g : Tg} {tg : Expr} (n : NP t) (ha : EOk X j t e) (hg : GOk X j.K prot g tg) (hs : isComp e = false) (ht : isName tg = true ∨ (isTuple tg = true ∧ isTuple e = false)) : SOk X j F prot (.asg g t) (.Assign [tg] e pos) := by
  have h1 : (assignEach [tg] X.env).map (·.2) = [assign tg X.env] := by
    rcases ht with h | ⟨h, _⟩ <;> cases tg <;> first | rfl | (simp [isName] at h) | (simp [isTuple] at h)
  refine impS (ps_asg ha hg (by show swapsWith e (some tg) _ X.env = _; exact swaps_no hs) (stores_no ht) h1) fun Y σ H ⟨Z, env, fps, G, h⟩ => asg_core n G h
theorem so_aug {i : Nat} {x : Str} {p' : Pos} (hN : X.N.Nodup) (hi : X.N[i]? = some x) (hx : Loc X.env.scope x) (hf : X.fn x = true ∨ X.env.scope.names.lookup x = some .local) (ha : EOk X j t e) : SOk X j F prot (.aug i .Add t) (.AugAssign (.Name x p') .Add e pos) := by
  refine impS (ps_aug hN hi hx ha ip_add hf) fun Y σ H ⟨Z, env, fps, G, h⟩ => ?_
  unfold evS at h
  split at h
  · rename_i x0 ex
    obtain ⟨v, f, h1, h2, h3⟩ := G.rep.at ex
    refine ⟨v, h1, Z, env, fps, G, nextS G.start SameAt.refl h fun d e2 Z2 H2 fps2 fp2 w p p' r h => ?_⟩
    split at h
    · rename_i y ey
      obtain ⟨f2, g2⟩ := RO.get0 r p ey
      refine ⟨x0, y, inv_int h3, inv_int g2, ?_⟩
      dsimp only at h
      split at h
      · rename_i e3 ea
        unfold asgT at ea
        split at ea
        · cases ea
        · rename_i hp
          split at ea
          · rename_i hl
            cases ea
            exact h Z2 H2 _ _ (Post.fill (f := []) p.drop hl (.p (.int _))) (SameAt.set hp)
          · cases ea
      · exact h.elim
    · exact h.elim
  · exact h.elim
/-! ### methods of lists -/
theorem few1 (hn : notStar e = true) {env : PySem.Env} : ((backTo pos (starEach [e] env)).all (fun x => !x.1) && (backToKw pos (keywordEach [] env)).all (fun x => x.1.isSome) && decide ([e].length + ([] : List Keyword).length + (if ([] : List Keyword).isEmpty then 0 else 1) < 30)) = true := by
  rw [star_few (by simp [hn])]; rfl
theorem so_app {i : Nat} {x : Str} {px epos : Pos} (n : NP t) (hN : X.N[i]? = some x) (hv : Vis X.env.scope x) (hd : (x == ("__debug__" : Str)) = false) (hcd : (x == ("__classdict__" : Str)) = false) (ha : EOk X j t e) (hn : notStar e = true) (hl : (apos.endLine == pos.line) = true) :
    SOk X j F prot (.app i t) (.Expr (.Call (.Attribute (.Name x px) "append" apos) [e] [] pos) epos) := by
  have hb := pe_var (pos := px) (i := i) hN hv hd hcd
  refine impS (ps_expr (pe_bm PySem.F.plainAttrs_list PySem.F.slot_list_append PySem.F.type_list_append mt_append hb (pa_cons ha pa_nil (star_cons hn)) (base_of rfl) (few1 hn) hl (star_cons hn) rfl) (swaps_no rfl)) fun Y σ H ⟨Z, env, fps, G, h⟩ => ?_
  unfold evS at h
  split at h
  · rename_i xs0 ex
    obtain ⟨v, f, h1, h2, h3⟩ := G.rep.at ex
    cases h3 with
    | @pl l vs _ hl0 hr0 =>
      refine ⟨.ref l, h1, .inl ⟨rfl, vs, SqL.of hl0⟩, Z, env, fps, G, nextS G.start SameAt.refl h fun d e2 Z2 H2 fps2 fp2 w p p' r h => ?_⟩
      split at h
      · rename_i xs y ey ef
        split at h
        · rename_i hz
          obtain ⟨Z3, ex3, q, ry⟩ := Post.share (fp := []) (by simpa using p) (r.rep n) ef
          obtain ⟨_, vs', hl', hr'⟩ := q.writeL (vs := vs) h1 ey RepPs.nil
          obtain ⟨q', _⟩ := q.writeL (vs := vs) (ws := vs' ++ [w]) h1 ey (hr'.append (.cons ry .nil))
          exact ⟨l, vs', w, rfl, rfl, hl', Nat.lt_of_lt_of_le (by rw [← hr'.length]; exact hz) lim_le, h Z3 _ σ fps2 q' SameAt.refl⟩
        · exact h.elim
      · exact h.elim
  · exact h.elim
end
end Ev
end

section
set_option Elab.async false
set_option linter.all false
/-! Ev12: extend, pop, two targets at once, while. -/
namespace Ev
open PySem L2
section
variable {X : L2.Cx} {j : J} {k F : Nat} {a b c t : T} {e ea eb ec : Expr} {pos p2 apos : Pos} {es : List Expr} {ts : List T} {prot : List Nat}
def rExt (K : PySem.W.Frag) : V → List V → Hp → VK → Prop := fun x vs H Q => ∃ Z l w xs d f ys vs0 ws, x = .ref l ∧ vs = [w] ∧ Ex Z H ∧ H l = some (.lst vs0) ∧ xs = vs0 ∧ RepD K Z H d w f ∧ d.asX = some ys ∧ RepPs K Z ys ws ∧ vs0.length + ws.length ≤ sizeLine ∧ (∀ ws', RepPs K Z ys ws' → Q .non (upd H l (.lst (xs ++ ws'))))
theorem extR : MtM X "list.extend" (rExt X.K) := by
  intro pins s σ H x vs v us Q I rx rv ⟨Z, l, w, xs, d, f, ys, vs0, ws, e1, e2, ex, hl, e3, hd, hx, hr, hz, q⟩
  subst e1 e2 e3
  cases hd with
  | p r =>
    cases r <;> simp only [D.asX] at hx <;> try cases hx
    rename_i h1 h2
    exact mt_extT pins s σ H _ _ v us Q I rx rv ⟨l, _, _, _, rfl, rfl, hl, Evl.ex_t ex h1, by rw [← h2.length, hr.length]; exact hz, q _ h2⟩
  | pl h1 r =>
    cases hx
    exact mt_extend pins s σ H _ _ v us Q I rx rv ⟨l, _, _, _, rfl, rfl, hl, h1, by rw [← r.length, hr.length]; exact hz, q _ r⟩
  | st h1 h2 h3 h4 => cases hx
  | pll h1 h2 h3 => cases hx
  | tab h1 h2 h3 => cases hx
theorem asX_ref {K : PySem.W.Frag} {Z H : Hp} {d : D} {v : V} {f : List Addr} {ys : List P} (r : RepD K Z H d v f) (h : d.asX = some ys) : ∃ ws, RepPs K Z ys ws := by
  cases r with
  | p r =>
    cases r <;> simp only [D.asX] at h <;> try cases h
    exact ⟨_, by assumption⟩
  | pl h1 r => cases h; exact ⟨_, r⟩
  | st h1 h2 h3 h4 => cases h
  | pll h1 h2 h3 => cases h
  | tab h1 h2 h3 => cases h
theorem so_ext (hK : X.K = j.K) {i : Nat} {x : Str} {px epos : Pos} (hN : X.N[i]? = some x) (hv : Vis X.env.scope x) (hd : (x == ("__debug__" : Str)) = false) (hcd : (x == ("__classdict__" : Str)) = false) (ha : EOk X j t e) (hn : notStar e = true) (hl : (apos.endLine == pos.line) = true) :
    SOk X j F prot (.ext i t) (.Expr (.Call (.Attribute (.Name x px) "extend" apos) [e] [] pos) epos) := by
  have hb := pe_var (pos := px) (i := i) hN hv hd hcd
  refine impS (ps_expr (pe_bm PySem.F.plainAttrs_list PySem.F.slot_list_extend PySem.F.type_list_extend extR hb (pa_cons ha pa_nil (star_cons hn)) (base_of rfl) (few1 hn) hl (star_cons hn) rfl) (swaps_no rfl)) fun Y σ H ⟨Z, env, fps, G, h⟩ => ?_
  unfold evS at h
  split at h
  · rename_i xs0 ex
    obtain ⟨v, f, h1, h2, h3⟩ := G.rep.at ex
    cases h3 with
    | @pl l vs _ hl0 hr0 =>
      refine ⟨.ref l, h1, .inl ⟨rfl, vs, SqL.of hl0⟩, Z, env, fps, G, nextS G.start SameAt.refl h fun d e2 Z2 H2 fps2 fp2 w p p' r h => ?_⟩
      split at h
      · rename_i xs y ey ef
        obtain ⟨f2, g2⟩ := RO.get0 r p ef
        split at h
        · rename_i ys exs
          split at h
          · rename_i hz
            obtain ⟨ws, hws⟩ := asX_ref g2 exs
            obtain ⟨_, vs', hl', hr'⟩ := p.drop.writeL (vs := vs) h1 ey RepPs.nil
            rw [hK]
            refine ⟨Z2, l, w, vs', y, f2, ys, vs', ws, rfl, rfl, p.good.zle, hl', rfl, g2, exs, hws, Nat.le_trans (by rw [← hr'.length, ← hws.length]; exact hz) lim_le, fun ws' hws' => ?_⟩
            obtain ⟨q', _⟩ := p.drop.writeL (vs := vs) (ws := vs' ++ ws') h1 ey (hr'.append hws')
            exact h Z2 _ σ fps2 q' SameAt.refl
          · exact h.elim
        · exact h.elim
      · exact h.elim
  · exact h.elim
theorem RepPs.dropLast {K : PySem.W.Frag} {Z : Hp} {xs : List P} {vs : List V} (r : RepPs K Z xs vs) : RepPs K Z xs.dropLast vs.dropLast := by
  rw [List.dropLast_eq_take, List.dropLast_eq_take, ← r.length]
  exact r.take _
theorem ok_pop {i : Nat} {x : Str} {px : Pos} (hN : X.N[i]? = some x) (hv : Vis X.env.scope x) (hd : (x == ("__debug__" : Str)) = false) (hcd : (x == ("__classdict__" : Str)) = false) (hl : (apos.endLine == pos.line) = true) :
    EOk X j (.pop i) (.Call (.Attribute (.Name x px) "pop" apos) [] [] pos) := by
  have hb := pe_var (pos := px) (i := i) hN hv hd hcd
  refine imp (pe_bm0 PySem.F.plainAttrs_list PySem.F.slot_list_pop PySem.F.type_list_pop mt_pop hb (base_of rfl) hl) fun σ H Q ⟨Z, env, fps, G, h⟩ => ?_
  unfold evT at h
  split at h
  · rename_i xs ex
    split at h
    · rename_i y ey
      obtain ⟨v, f, h1, h2, h3⟩ := G.rep.at ex
      cases h3 with
      | @pl l vs _ hl0 hr0 =>
        have el : xs[xs.length - 1]? = some y := by rw [← List.getLast?_eq_getElem?]; exact ey
        obtain ⟨w, hw, rw'⟩ := hr0.get el
        obtain ⟨q, _⟩ := G.start.writeL (vs := vs) h1 ex hr0.dropLast
        refine ⟨.ref l, h1, .inl ⟨rfl, vs, SqL.of hl0⟩, l, vs, w, rfl, rfl, hl0, by rw [← hr0.length]; exact hw, ?_⟩
        exact h Z _ fps [] w q (.p rw')
    · exact h.elim
  · exact h.elim

/-! ### two targets at once -/
def swapC (sc : Scope) (x y : Str) (px py : Pos) (a b : Expr) : Bool :=
  decide (sc.kind = .function) && decide (sc.names.lookup x = some .local) && decide (sc.names.lookup y = some .local) && (px.line == py.line) && !(x == y) && notStar a && notStar b && !(foldedForSure 8 a && foldedForSure 8 b) && !(constantsAlone 8 a && constantsAlone 8 b)
theorem swap_ok {env : PySem.Env} {x y : Str} {px py pt pt2 : Pos} {kt k2 : Nat} {ea eb : Expr} (h : swapC env.scope x y px py ea eb = true) : swappedStores [.Tuple [.Name x px, .Name y py] kt pt] (.Tuple [ea, eb] k2 pt2) env = pure (some [x, y]) := by
  unfold swapC at h
  simp only [Bool.and_eq_true, decide_eq_true_eq, Bool.not_eq_true'] at h
  obtain ⟨⟨⟨⟨⟨⟨⟨⟨hk, hx⟩, hy⟩, hp⟩, hxy⟩, na⟩, nb⟩, hf⟩, hc⟩ := h
  have hb : env.blockKind = .function := by unfold Env.blockKind; rw [hk]; rfl
  have kx : env.kindOf x = some .local := hx
  have ky : env.kindOf y = some .local := hy
  have hp' : (py.line == px.line) = true := by rw [beq_iff_eq] at hp ⊢; exact hp.symm
  have hyx : (y == x) = false := by
    cases e : (y == x) with
    | false => rfl
    | true =>
      have e' := eq_of_beq e
      subst e'
      rw [beq_self_eq_true] at hxy
      cases hxy
  have ed : ([x, y] : List Str).eraseDups = [x, y] := by
    rw [List.eraseDups_cons]
    simp only [List.filter_cons, List.filter_nil, hyx]
    rfl
  unfold swappedStores
  simp only [List.length_cons, List.length_nil, hb, List.any_cons, List.any_nil, List.head?_cons, Option.map_some, Option.getD_some, Expr.pos, List.filterMap_cons, List.filterMap_nil, kx, ky, hp', List.all_cons, List.all_nil, Bool.and_true, hf, hc]
  simp
  rw [if_neg (by
    intro hh
    rcases hh with hh | hh
    · cases ea <;> first | (cases hh; done) | (simp [notStar] at na)
    · cases eb <;> first | (cases hh; done) | (simp [notStar] at nb)), ed]
  rfl
theorem so_asg2 {i i' : Nat} {kp kp' : Bool} {x y : Str} {px py pt pt2 : Pos} {kt k2 : Nat} (na : NP a) (nb : NP b) (hc : X.calm = true) (hN : X.N.Nodup) (hi : X.N[i]? = some x) (hj : X.N[i']? = some y) (hij : i ≠ i') (hs : swapC X.env.scope x y px py ea eb = true) (ha : AOk X j [a, b] [ea, eb]) :
    SOk X j F prot (.asg2 (.nm i kp) (.nm i' kp') a b) (.Assign [.Tuple [.Name x px, .Name y py] kt pt] (.Tuple [ea, eb] k2 pt2) pos) := by
  have hs' := hs
  unfold swapC at hs'
  simp only [Bool.and_eq_true, decide_eq_true_eq, Bool.not_eq_true'] at hs'
  obtain ⟨⟨⟨⟨⟨⟨⟨⟨_, hx⟩, hy⟩, _⟩, _⟩, _⟩, _⟩, _⟩, _⟩ := hs'
  refine impS (ps_par hc hN hi hj hij hx hy ha (swap_ok hs) rfl) fun Y σ H ⟨Z, env, fps, G, h⟩ => ?_
  unfold evS at h
  refine ⟨Z, env, fps, G, ?_⟩
  cases e : evTs j.Γ [a, b] env with
  | exc c fs e' => rw [e] at h; exact excS G.start SameAt.refl h
  | bad => rw [e] at h; exact h
  | ok ds e1 =>
    rw [e] at h
    intro Z1 H1 fps1 fp vs p r
    cases r with
    | @cons t d v f ts ds vs g r1 r =>
      cases r with
      | @cons t d' v' f' ts ds vs g' r2 r =>
        cases r
        dsimp only at h
        refine ⟨v, v', rfl, ?_⟩
        split at h
        · rename_i e2 ea1
          split at h
          · rename_i e3 ea2
            unfold asgT at ea1 ea2
            split at ea1
            · cases ea1
            · rename_i hp1
              split at ea1
              · rename_i hl1
                split at ea1
                · rename_i d1 ed1
                  cases ea1
                  split at ea2
                  · cases ea2
                  · rename_i hp2
                    split at ea2
                    · rename_i hl2
                      split at ea2
                      · rename_i d2 ed2
                        cases ea2
                        obtain ⟨Z2, fps2, ex2, q⟩ := Post.store (f := f) (fp := f') (by simpa using p) hl1 (r1.rep na) ed1
                        have r2' := (r2.rep nb).keep (H' := H1) ex2 fun _ _ => rfl
                        obtain ⟨Z3, fps3, ex3, q3⟩ := Post.store (f := f') (fp := []) (by simpa using q) hl2 r2' ed2
                        exact h Z3 H1 _ fps3 q3 ((SameAt.set hp1).trans (SameAt.set hp2))
                      · cases ea2
                    · cases ea2
                · cases ea1
              · cases ea1
          · exact h.elim
        · exact h.elim

/-! ### while -/
theorem so_whl {body : List S} {xb : List Stmt} (hp : PassesOwn (model X.prog X.w) X.A X.env X.xe) (ht : TOk X j t e) (hb : BOk X j F prot body xb) : SOk X j F prot (.whl t body) (.While e xb [] pos) := by
  refine impS (ps_while hp ht hb) fun Y σ H ⟨Z, env, fps, G, h⟩ => ?_
  unfold evS at h
  refine ⟨fun m σ' H' => ∃ Z' env' fps', Post j.K Z H fps.flatten Z' H' env' σ' fps' [] ∧ SameAt prot σ σ' ∧ PostS j prot Z H fps.flatten σ Y (whileL (evC j.Γ (some t)) (evB j.Γ F body prot) m env'), ⟨F, Z, env, fps, G.start, SameAt.refl, h⟩, ?_⟩
  rintro m σ1 H1 ⟨Z1, e1, fps1, p1, sm1, h1⟩
  cases m with
  | zero => exact h1.elim
  | succ m =>
    unfold whileL at h1
    have hC : evC j.Γ (some t) e1 = (evT j.Γ t e1).bind fun x e => match fin t x e with
      | some x => onB x fun k => .ok (.p (.bl k)) e
      | none => .bad := by unfold evC; rfl
    rw [hC] at h1
    refine ⟨Z1, e1, fps1, p1.good, ?_⟩
    cases ev : evT j.Γ t e1 with
    | bad => rw [ev] at h1; exact h1
    | exc c fs e' => rw [ev] at h1; exact excS p1 sm1 h1
    | ok d e2 =>
      rw [ev] at h1
      dsimp only [Out.bind] at h1
      cases ef : fin t d e2 with
      | none => rw [ef] at h1; exact h1.elim
      | some x =>
        rw [ef] at h1
        dsimp only at h1
        cases x with
        | p y =>
          cases y with
          | bl bb =>
            refine ⟨bb, ef, fun Z2 H2 fps2 p2 => ?_⟩
            have p12 : Post j.K Z H fps.flatten Z2 H2 e2 σ1 fps2 [] := by simpa using p1.comp p2
            cases bb with
            | false => exact h1 Z2 H2 σ1 fps2 p12 sm1
            | true =>
              dsimp only [onB] at h1
              show ∃ N : L2.St → Hp → Prop, _
              refine ⟨fun σ' H' => ∃ Z' env' fps', Post j.K Z H fps.flatten Z' H' env' σ' fps' [] ∧ SameAt prot σ σ' ∧ PostS j prot Z H fps.flatten σ Y (whileL (evC j.Γ (some t)) (evB j.Γ F body prot) m env'), fun σ' H' w => ⟨m, Nat.lt_succ_self m, w⟩, Z2, e2, fps2, p2.good, ?_⟩
              cases eb : evB j.Γ F body prot e2 with
              | bad => rw [eb] at h1; exact h1
              | nx e3 =>
                rw [eb] at h1
                exact fun Z' H' σ' fps' q s => ⟨Z', e3, fps', by simpa using p12.comp q, sm1.trans s, h1⟩
              | ct e3 =>
                rw [eb] at h1
                exact fun Z' H' σ' fps' q s => ⟨Z', e3, fps', by simpa using p12.comp q, sm1.trans s, h1⟩
              | bk e3 =>
                rw [eb] at h1
                exact fun Z' H' σ' fps' q s => h1 Z' H' σ' fps' (by simpa using p12.comp q) (sm1.trans s)
              | ret d' e3 =>
                rw [eb] at h1
                exact PostS.from (o := .ret d' e3) p12 sm1 h1
              | exc c fs e3 =>
                rw [eb] at h1
                exact PostS.from (o := .exc c fs e3) p12 sm1 h1
          | _ => exact h1.elim
        | _ => exact h1.elim
end
end Ev
end

section
set_option Elab.async false
set_option linter.all false
/-! Ev13: what is walked. -/
namespace Ev
open PySem L2
section
variable {X : L2.Cx} {j : J} {k F : Nat} {a b c t it : T} {e ea eb ec tg : Expr} {pos p2 apos : Pos} {es : List Expr} {ts : List T} {prot : List Nat}
/-- the iterator's turns give xs, whatever comes in between -/
def Walk (K : PySem.W.Frag) (Z H : Hp) (f : List Addr) (J : It) (xs : List P) : Prop := ∀ Z' H', Ex Z Z' → Ex Z' H' → (∀ a ∈ f, H' a = H a) →
  (∀ i x, xs[i]? = some x → J.go i H' ∧ ∀ v H'', J.yld i H' v H'' → ∃ Z'', Stp Z' H' [] Z'' H'' [] ∧ Ex Z'' H'' ∧ RepP K Z'' x v) ∧ J.stop xs.length H'
/-- what is hidden stands at its address -/
def HidR (K : PySem.W.Frag) (Z H : Hp) (σ : St) (f : List Addr) : Option (Nat × D) → Prop
  | some (i, d) => ∃ v, σ[i]? = some (some v) ∧ RepD K Z H d v f
  | none => f = []
def PostI (j : J) (Z H : Hp) (F : List Addr) (σ : St) (it : T) (R : It → Hp → Prop) : OutI → Prop
  | .ok xs e => ∀ Z1 H1 fps1 f J, Post j.K Z H F Z1 H1 (hide it e) σ fps1 f → HidR j.K Z1 H1 σ f (hid it e) → Walk j.K Z1 H1 f J xs → R J H1
  | .exc c fs e => PostX j Z H F σ c fs e
  | .bad => False
def tI (j : J) (it : T) : TI := fun σ H R => ∃ Z env fps, Good j.K Z H env σ fps ∧ PostI j Z H fps.flatten σ it R (evI j.Γ it env)
def IOk (X : L2.Cx) (j : J) (tg : Expr) (it : T) (e : Expr) : Prop := PI X tg e (tI j it)
theorem impI {t t' : TI} (h : PI X tg e t) (w : ∀ σ H Q, t' σ H Q → t σ H Q) : PI X tg e t' := ⟨fun p s σ H Q I q => h.run p s σ H Q I (w σ H Q q)⟩
theorem pi_or {t t' : TI} (h : PI X tg e t) (h' : PI X tg e t') : PI X tg e (fun σ H R => t σ H R ∨ t' σ H R) := ⟨fun p s σ H Q I q => q.elim (h.run p s σ H Q I) (h'.run p s σ H Q I)⟩
def valIt : T → Bool
  | .range _ => false
  | .enum _ => false
  | .rev _ => false
  | _ => true
theorem evI_val {Γ : Calls} (h : valIt t = true) (e : Env) : evI Γ t e = OutI.ofOut iterOf t (evT Γ t e) := by
  cases t <;> first | (simp [valIt] at h; done) | rfl
theorem hid_np (n : NP t) (h : valIt t = true) (e : Env) : hid t e = none := by
  cases t <;> first | (exact absurd rfl (n _)) | (simp [valIt] at h; done) | rfl
theorem hide_none (h : hid t env = none) : hide t env = env := by unfold hide; rw [h]
theorem walk_seq {K : PySem.W.Frag} {Z H : Hp} {f : List Addr} {xs : List P} {vs : List V} {a : Addr} (r : RepPs K Z xs vs) (h : ∀ Z' H', Ex Z Z' → Ex Z' H' → (∀ a ∈ f, H' a = H a) → SqL K H' a vs) (inj : True) : Walk K Z H f (Itl K a) xs := by
  intro Z' H' ex ex' hf
  have q := h Z' H' ex ex' hf
  refine ⟨fun i x hx => ?_, vs, q, by rw [r.length]; exact Nat.le_refl _⟩
  obtain ⟨v, h1, h2⟩ := r.get hx
  refine ⟨⟨vs, v, q, h1⟩, fun w H'' y => ?_⟩
  obtain ⟨e, y⟩ := y
  subst e
  have := y vs q
  rw [h1] at this
  cases this
  exact ⟨Z', Stp.refl, ex', h2.mono ex⟩
theorem walk_tup {K : PySem.W.Frag} {Z H : Hp} {f : List Addr} {xs : List P} {vs : List V} {a : Addr} (r : RepPs K Z xs vs) (h : SqT K Z a vs) : Walk K Z H f (Itt K a) xs := by
  intro Z' H' ex ex' hf
  have q := Evl.ex_t (ex.trans ex') h
  refine ⟨fun i x hx => ?_, vs, q, by rw [r.length]; exact Nat.le_refl _⟩
  obtain ⟨v, h1, h2⟩ := r.get hx
  refine ⟨⟨vs, v, q, h1⟩, fun w H'' y => ?_⟩
  obtain ⟨e, y⟩ := y
  subst e
  have := y vs q
  rw [h1] at this
  cases this
  exact ⟨Z', Stp.refl, ex', h2.mono ex⟩
theorem walk_str {K : PySem.W.Frag} {Z H : Hp} {f : List Addr} {s : Str} : Walk K Z H f (Its s) (s.cps.toList.map fun c => .str ⟨#[c]⟩) := by
  intro Z' H' ex ex' hf
  refine ⟨fun i x hx => ?_, ?_⟩
  · rw [List.getElem?_map] at hx
    cases e : s.cps.toList[i]? with
    | none => rw [e] at hx; cases hx
    | some c =>
      rw [e] at hx
      cases hx
      have e' : s.cps[i]? = some c := by rw [← Array.getElem?_toList]; exact e
      refine ⟨(Array.getElem?_eq_some_iff.mp e').1, fun v H'' y => ?_⟩
      obtain ⟨q, c', h1, rfl⟩ := y
      subst q
      rw [e'] at h1
      cases h1
      exact ⟨Z', Stp.refl, ex', .str _⟩
  · show s.cps.size ≤ _
    simp
theorem walk_range {K : PySem.W.Frag} {Z H : Hp} {f : List Addr} {n : Nat} : Walk K Z H f (Itr 0 n) ((List.range n).map fun i => .int (i : Nat)) := by
  intro Z' H' ex ex' hf
  refine ⟨fun i x hx => ?_, by show n ≤ _; simp⟩
  rw [List.getElem?_map] at hx
  cases e : (List.range n)[i]? with
  | none => rw [e] at hx; cases hx
  | some c =>
    rw [e] at hx
    cases hx
    obtain ⟨h1, h2⟩ := List.getElem?_eq_some_iff.mp e
    rw [List.length_range] at h1
    rw [List.getElem_range] at h2
    subst h2
    refine ⟨h1, fun v H'' y => ?_⟩
    obtain ⟨q, rfl⟩ := y
    subst q
    refine ⟨Z', Stp.refl, ex', ?_⟩
    rw [Int.zero_add]
    exact .int _
/-- a value that is walked -/
def WalkV (K : PySem.W.Frag) (R : It → Hp → Prop) (v : V) (H : Hp) : Prop :=
  (∃ a, v = .ref a ∧ (∃ xs, SqL K H a xs) ∧ R (Itl K a) H) ∨ (∃ a, v = .ref a ∧ (∃ xs, SqT K H a xs) ∧ R (Itt K a) H) ∨ ∃ x, v = .str x ∧ R (Its x) H
/-- by the evaluator's value: which of the three it is -/
def kindOf : D → Nat
  | .p (.tup _) => 1
  | .p (.str _) => 2
  | _ => 0
theorem io_val (hK : X.K = j.K) (h : valIt t = true) (ha : EOk X j t e) : IOk X j tg t e := by
  refine impI (pi_or (pi_list ha) (pi_or (pi_tup ha) (pi_str ha))) fun σ H R ⟨Z, env, fps, G, q⟩ => ?_
  rw [evI_val h] at q
  rw [hK]
  cases ev : evT j.Γ t env with
  | bad => rw [ev] at q; exact q.elim
  | exc c fs e' => rw [ev] at q; exact .inl ⟨Z, env, fps, G, by rw [ev]; exact q⟩
  | ok d e1 =>
    rw [ev] at q
    unfold OutI.ofOut at q
    dsimp only at q
    cases ef : fin t d e1 with
    | none => rw [ef] at q; exact q.elim
    | some d' =>
      rw [ef] at q
      dsimp only at q
      cases ei : iterOf d' with
      | none => rw [ei] at q; exact q.elim
      | some xs =>
        rw [ei] at q
        dsimp only at q
        -- the value, hidden or shared
        have main : ∀ Z1 H1 fps1 f v, Post j.K Z H fps.flatten Z1 H1 e1 σ fps1 f → RO j.K t Z1 H1 σ d v f → 
            (kindOf d' = 0 → ∃ a, v = .ref a ∧ (∃ xs, SqL j.K H1 a xs) ∧ R (Itl j.K a) H1) ∧ (kindOf d' = 1 → ∃ a, v = .ref a ∧ (∃ xs, SqT j.K H1 a xs) ∧ R (Itt j.K a) H1) ∧ (kindOf d' = 2 → ∃ x, v = .str x ∧ R (Its x) H1) := by
          intro Z1 H1 fps1 f v p r
          -- a shared value
          have shared : ∀ x, d' = .p x → RepP j.K Z1 x v → hid t e1 = none → 
              (kindOf d' = 0 → ∃ a, v = .ref a ∧ (∃ xs, SqL j.K H1 a xs) ∧ R (Itl j.K a) H1) ∧ (kindOf d' = 1 → ∃ a, v = .ref a ∧ (∃ xs, SqT j.K H1 a xs) ∧ R (Itt j.K a) H1) ∧ (kindOf d' = 2 → ∃ x, v = .str x ∧ R (Its x) H1) := by
            intro x ed rx hn
            subst ed
            have hq : ∀ J, Walk j.K Z1 H1 [] J xs → R J H1 := fun J w => q Z1 H1 fps1 [] J (by rw [hide_none hn]; exact p.drop) (by rw [hn]; rfl) w
            cases rx with
            | tup h1 h2 => cases ei; exact ⟨fun z => (by cases z), fun _ => ⟨_, rfl, ⟨_, Evl.ex_t p.good.zle h1⟩, hq _ (walk_tup h2 h1)⟩, fun z => (by cases z)⟩
            | fl h1 h2 => cases ei; exact ⟨fun _ => ⟨_, rfl, ⟨_, Evl.ex_l p.good.zle h1⟩, hq _ (walk_seq h2 (fun Z' H' ex ex' _ => Evl.ex_l (ex.trans ex') h1) trivial)⟩, fun z => (by cases z), fun z => (by cases z)⟩
            | str s =>
              unfold iterOf at ei
              dsimp only at ei
              split at ei
              · cases ei
                exact ⟨fun z => (by cases z), fun z => (by cases z), fun _ => ⟨s, rfl, hq _ walk_str⟩⟩
              · cases ei
            | non => cases ei
            | bl b => cases ei
            | int i => cases ei
          by_cases hp : ∃ i, t = .pk i
          · obtain ⟨i, rfl⟩ := hp
            have ef : getE e1 i = some d' := ef
            obtain ⟨r1, r2⟩ := r
            subst r1
            obtain ⟨v', f', h1, h2, h3⟩ := p.good.rep.at ef
            rw [r2] at h1
            cases h1
            have hh : hid (.pk i) e1 = if owned d' then some (i, d') else none := by
              show (match getE e1 i with
                | some d => if owned d then some (i, d) else none
                | none => none) = _
              rw [ef]
            cases h3 with
            | @p x _ rx => exact shared x rfl rx hh
            | @pl l vs _ hl hr =>
              cases ei
              have hh : hid (.pk i) e1 = some (i, .pl xs) := hh
              refine ⟨fun _ => ⟨l, rfl, ⟨vs, SqL.of hl⟩, ?_⟩, fun z => (by cases z), fun z => (by cases z)⟩
              refine q Z1 H1 _ [l] _ (show Post j.K Z H fps.flatten Z1 H1 (hide (.pk i) e1) σ (fps1.set i []) [l] from ?_) (by rw [hh]; exact ⟨_, r2, .pl hl hr⟩) (walk_seq hr (fun Z' H' ex ex' hf => ?_) trivial)
              · have : hide (.pk i) e1 = e1.set i none := by unfold hide; rw [hh]
                rw [this]
                exact p.take h2
              · exact SqL.of (by rw [hf l (by simp)]; exact hl)
            | st h1 h2 h3 h4 => cases ei
            | pll h1 h2 h3 => cases ei
            | tab h1 h2 h3 => cases ei
          · have np : NP t := fun i hi => hp ⟨i, hi⟩
            have hn := hid_np np h e1
            rw [fin_np np] at ef
            cases ef
            cases r.rep np with
            | @p x _ rx => exact shared x rfl rx hn
            | @pl l vs _ hl hr =>
              cases ei
              have nz := p.zd l (by simp)
              refine ⟨fun _ => ⟨l, rfl, ⟨vs, SqL.of hl⟩, ?_⟩, fun z => (by cases z), fun z => (by cases z)⟩
              have p2 := p.freeze hl
              exact q _ H1 fps1 [] _ (by rw [hide_none hn]; exact p2) (by rw [hn]; rfl) (walk_seq (hr.mono (Evl.Ex.new nz)) (fun Z' H' ex ex' hf => Evl.ex_l (ex.trans ex') (SqL.of upd_same)) trivial)
            | st h1 h2 h3 h4 => cases ei
            | pll h1 h2 h3 => cases ei
            | tab h1 h2 h3 => cases ei
        rcases (show kindOf d' = 0 ∨ kindOf d' = 1 ∨ kindOf d' = 2 by unfold kindOf; split <;> simp) with hk | hk | hk
        · exact .inl ⟨Z, env, fps, G, by rw [ev]; exact fun Z1 H1 fps1 f v p r => (main Z1 H1 fps1 f v p r).1 hk⟩
        · exact .inr (.inl ⟨Z, env, fps, G, by rw [ev]; exact fun Z1 H1 fps1 f v p r => (main Z1 H1 fps1 f v p r).2.1 hk⟩)
        · exact .inr (.inr ⟨Z, env, fps, G, by rw [ev]; exact fun Z1 H1 fps1 f v p r => (main Z1 H1 fps1 f v p r).2.2 hk⟩)
theorem evI_range {Γ : Calls} (e : Env) : evI Γ (.range a) e = OutI.ofOut rangeOf a (evT Γ a e) := rfl
theorem io_range {pf : Pos} (hg : Gl X "range") (hm : X.mg "range" = none) (hn : notStar e = true) (ha : EOk X j a e) : IOk X j tg (.range a) (.Call (.Name "range" pf) [e] [] pos) := by
  refine impI (pi_range1 hg hm (pa_cons ha pa_nil (star_cons hn)) (star_cons hn)) fun σ H R ⟨Z, env, fps, G, q⟩ => ⟨Z, env, fps, G, ?_⟩
  rw [evI_range] at q
  cases ev : evT j.Γ a env with
  | bad => rw [ev] at q; exact q.elim
  | exc c fs e' => rw [ev] at q; exact q
  | ok d e1 =>
    rw [ev] at q
    unfold OutI.ofOut at q
    dsimp only at q
    intro Z1 H1 fps1 f v p r
    split at q
    · rename_i d' ef
      obtain ⟨f', g⟩ := RO.get0 r p ef
      split at q
      · rename_i xs ex
        unfold rangeOf at ex
        split at ex
        · rename_i n
          split at ex
          · rename_i hz
            cases ex
            refine ⟨n, by rw [inv_int g], by omega, by omega, ?_⟩
            exact q Z1 H1 fps1 [] _ (show Post j.K Z H fps.flatten Z1 H1 e1 σ fps1 [] from p.drop) rfl walk_range
          · cases ex
        · cases ex
      · exact q.elim
    · exact q.elim
end
end Ev
end

section
set_option Elab.async false
set_option linter.all false
/-! Ev14: for, comprehensions. -/
namespace Ev
open PySem L2
section
variable {K : PySem.W.Frag} {Z H Z1 H1 Z2 H2 : Hp} {F fp f : List Addr} {env : Env} {σ σ1 σ2 : St} {fps : List (List Addr)} {i : Nat} {d : D} {v : V} {it : T} {e0 : Env} {prot : List Nat}
/-- nothing but new shared objects come -/
theorem Post.grow (p : Post K Z H F Z1 H1 env σ fps fp) (s : Stp Z1 H1 [] Z2 H2 []) (ex : Ex Z2 H2) {x : P} {v : V} (r : RepP K Z2 x v) : Post K Z H F Z2 H2 env σ fps fp := by
  have q : Post K Z1 H1 fps.flatten Z2 H2 env σ fps [] := Post.mk1 (j := ⟨K, fun _ => none, fun _ _ _ _ => False, fun _ _ => .bad⟩) p.good.start s ex (.p r) (by simp)
  simpa using p.comp q
theorem mem_hidP {i : Nat} (h : i ∈ prot) : i ∈ hidP it e0 prot := by
  unfold hidP
  split
  · exact List.mem_cons_of_mem _ h
  · exact h
theorem SameAt.sub {p2 : List Nat} (s : SameAt p2 σ σ1) (h : ∀ i ∈ prot, i ∈ p2) : SameAt prot σ σ1 := fun i hi => s i (h i hi)
theorem HidR.moved (hr : HidR K Z1 H1 σ f (hid it e0)) (ex : Ex Z1 Z2) (hf : ∀ a ∈ f, H2 a = H1 a) (sm : SameAt (hidP it e0 prot) σ σ1) : HidR K Z2 H2 σ1 f (hid it e0) := by
  unfold hidP at sm
  cases e : hid it e0 with
  | none => rw [e] at hr; exact hr
  | some p =>
    obtain ⟨i, d⟩ := p
    rw [e] at hr sm
    obtain ⟨v, h1, h2⟩ := hr
    exact ⟨v, (sm i (by simp)).trans h1, h2.keep ex hf⟩
/-- what was hidden is back -/
theorem Post.back (p : Post K Z H F Z1 H1 env σ fps (f ++ fp)) (hr : HidR K Z1 H1 σ f (hid it e0)) : ∃ fps', Post K Z H F Z1 H1 (unhide it e0 env) σ fps' fp := by
  unfold unhide
  cases e : hid it e0 with
  | none =>
    rw [e] at hr
    have hr : f = [] := hr
    subst hr
    exact ⟨fps, by simpa using p⟩
  | some q =>
    obtain ⟨i, d⟩ := q
    rw [e] at hr
    obtain ⟨v, h1, h2⟩ := hr
    have hl : i < env.length := by
      have := p.good.rep.len
      have := (List.getElem?_eq_some_iff.mp h1).1
      omega
    have q := p.fill hl h2
    rw [set_get_self h1] at q
    exact ⟨_, q⟩
end

section
variable {X : L2.Cx} {j : J} {k F : Nat} {a b c t it : T} {e ea eb ec tg : Expr} {pos p2 apos : Pos} {es : List Expr} {ts : List T} {prot : List Nat}
theorem impG' {t t' : TG} (h : PG X tg t) (w : ∀ v σ H Q, t' v σ H Q → t v σ H Q) : PG X tg t' := impG h w
theorem ex_pg {α : Type} {t : α → TG} (h : ∀ a, PG X tg (t a)) : PG X tg (fun v σ H Q => ∃ a, t a v σ H Q) := ⟨fun p s σ H v u Q I r ⟨a, q⟩ => (h a).run p s σ H v u Q I r q⟩
theorem ex_pss {α : Type} {xb : List Stmt} {t : α → TS} (h : ∀ a, PSs X xb (t a)) : PSs X xb (fun Y σ H => ∃ a, t a Y σ H) := ⟨fun p s σ H Y I ⟨a, q⟩ => (h a).run p s σ H Y I q⟩
theorem so_for {g : Tg} {body : List S} {xb : List Stmt} (hp : PassesOwn (model X.prog X.w) X.A X.env X.xe) (hc : X.calm = true) (hi : IOk X j tg it e) (hg : ∀ prot, GOk X j.K prot g tg) (hb : ∀ prot, BOk X j F prot body xb) (hn : notSet e = true) :
    SOk X j F prot (.for_ g it body) (.For tg e xb [] pos) := by
  refine impS (ps_for hp hc hi (ex_pg hg) (ex_pss hb) (folded_of hn)) fun Y σ H ⟨Z, env, fps, G, h⟩ => ?_
  unfold evS at h
  refine ⟨Z, env, fps, G, ?_⟩
  cases ei : evI j.Γ it env with
  | bad => rw [ei] at h; exact h
  | exc c fs e' => rw [ei] at h; exact excS G.start SameAt.refl h
  | ok xs e1 =>
    rw [ei] at h
    dsimp only at h
    intro Z1 H1 fps1 f J p1 hr wk
    generalize hpr : hidP it e1 prot = pr at h
    have sub : ∀ i ∈ prot, i ∈ pr := fun i hi => by rw [← hpr]; exact mem_hidP hi
    refine ⟨fun i m σ' H' => m = xs.length - i ∧ i ≤ xs.length ∧ ∃ Z' e' fps', Post j.K Z H fps.flatten Z' H' e' σ' fps' f ∧ SameAt pr σ σ' ∧ (∀ a ∈ f, H' a = H1 a) ∧ Ex Z1 Z' ∧
      PostS j prot Z H fps.flatten σ Y ((forL pr g (evB j.Γ F body pr) (xs.drop i) e').map (unhide it e1)), ⟨xs.length, by simp, Nat.zero_le _, Z1, _, fps1, p1, SameAt.refl, fun a _ => rfl, Evl.Ex.refl _, by simpa using h⟩, ?_⟩
    rintro i m σ2 H2 ⟨rfl, hi, Z2, e2, fps2, p2, sm2, hf2, ex2, h2⟩
    have hr2 : HidR j.K Z2 H2 σ2 f (hid it e1) := HidR.moved (prot := prot) hr ex2 hf2 (by rw [hpr]; exact sm2)
    obtain ⟨wgo, wstop⟩ := wk Z2 H2 ex2 p2.good.zle hf2
    by_cases hlt : i < xs.length
    · have hx : xs[i]? = some xs[i] := List.getElem?_eq_getElem hlt
      rw [List.drop_eq_getElem_cons hlt] at h2
      obtain ⟨go, yl⟩ := wgo i _ hx
      refine .inr ⟨go, fun σ' H' => ∃ Z' e' fps', Post j.K Z H fps.flatten Z' H' e' σ' fps' f ∧ SameAt pr σ σ' ∧ (∀ a ∈ f, H' a = H1 a) ∧ Ex Z1 Z' ∧
        PostS j prot Z H fps.flatten σ Y ((forL pr g (evB j.Γ F body pr) (xs.drop (i + 1)) e').map (unhide it e1)), fun σ' H' w => ⟨xs.length - (i + 1), by omega, rfl, hlt, w⟩, fun v H3 y => ?_⟩
      obtain ⟨Z3, s3, ex3, r3⟩ := yl v H3 y
      have p3 := p2.grow s3 ex3 r3
      have hf3 : ∀ a ∈ f, H3 a = H1 a := fun a ha => by
        obtain ⟨o, ho⟩ := p2.al a ha
        rw [← hf2 a ha, ho]
        exact s3.fr a o ho (by simp)
      unfold forL at h2
      cases ea : asgT pr g (.p xs[i]) e2 with
      | none => rw [ea] at h2; exact h2.elim
      | some e4 =>
        rw [ea] at h2
        dsimp only at h2
        refine ⟨pr, Z3, H3, fps2.flatten, Z3, e2, fps2, [], .p xs[i], e4, p3.good.start, .p r3, ea, fun Z4 σ4 fps4 ex4 p4 sm4 => ?_⟩
        have p34 : Post j.K Z H fps.flatten Z4 H3 e4 σ4 fps4 f := by simpa using p3.comp p4
        have smA : SameAt pr σ σ4 := sm2.trans sm4
        refine ⟨pr, Z4, e4, fps4, p34.good, ?_⟩
        have fin : ∀ {Z5 H5 σ5 e5 fps5 fp5}, Post j.K Z4 H3 fps4.flatten Z5 H5 e5 σ5 fps5 fp5 → SameAt pr σ4 σ5 → Post j.K Z H fps.flatten Z5 H5 e5 σ5 fps5 (f ++ fp5) ∧ SameAt pr σ σ5 ∧ (∀ a ∈ f, H5 a = H1 a) ∧ Ex Z1 Z5 ∧ HidR j.K Z5 H5 σ5 f (hid it e1) := by
          intro Z5 H5 σ5 e5 fps5 fp5 p5 sm5
          have hf5 : ∀ a ∈ f, H5 a = H1 a := fun a ha => by
            obtain ⟨o, ho⟩ := p34.al a ha
            rw [← hf3 a ha, ho]
            exact p5.stp.fr a o ho (p34.dj a ha)
          have ex5 : Ex Z1 Z5 := ((ex2.trans s3.zz).trans ex4).trans p5.stp.zz
          exact ⟨p34.comp p5, smA.trans sm5, hf5, ex5, HidR.moved (prot := prot) hr ex5 hf5 (by rw [hpr]; exact smA.trans sm5)⟩
        cases eb : evB j.Γ F body pr e4 with
        | bad => rw [eb] at h2; exact h2
        | nx e5 =>
          rw [eb] at h2
          intro Z5 H5 σ5 fps5 p5 sm5
          obtain ⟨q1, q2, q3, q4, q5⟩ := fin p5 sm5
          exact ⟨Z5, e5, fps5, by simpa using q1, q2, q3, q4, h2⟩
        | ct e5 =>
          rw [eb] at h2
          intro Z5 H5 σ5 fps5 p5 sm5
          obtain ⟨q1, q2, q3, q4, q5⟩ := fin p5 sm5
          exact ⟨Z5, e5, fps5, by simpa using q1, q2, q3, q4, h2⟩
        | bk e5 =>
          rw [eb] at h2
          intro Z5 H5 σ5 fps5 p5 sm5
          obtain ⟨q1, q2, q3, q4, q5⟩ := fin p5 sm5
          obtain ⟨fps6, q6⟩ := q1.back q5
          exact h2 Z5 H5 σ5 fps6 q6 (q2.sub sub)
        | ret d e5 =>
          rw [eb] at h2
          intro Z5 H5 σ5 fps5 fp5 v5 p5 r5 sm5
          obtain ⟨q1, q2, q3, q4, q5⟩ := fin p5 sm5
          obtain ⟨fps6, q6⟩ := q1.back q5
          exact h2 Z5 H5 σ5 fps6 fp5 v5 q6 r5 (q2.sub sub)
        | exc c fs e5 =>
          rw [eb] at h2
          intro Z5 H5 σ5 fps5 cls dx p5 sm5 xr
          obtain ⟨q1, q2, q3, q4, q5⟩ := fin p5 sm5
          obtain ⟨fps6, q6⟩ := q1.back q5
          exact h2 Z5 H5 σ5 fps6 cls dx q6 (q2.sub sub) xr
    · have ei : i = xs.length := by omega
      subst ei
      rw [List.drop_length] at h2
      unfold forL at h2
      obtain ⟨fps6, q6⟩ := Post.back (fp := []) (by simpa using p2) hr2
      exact .inl ⟨wstop, h2 Z2 H2 σ2 fps6 q6 (sm2.sub sub)⟩
end
end Ev
end

section
set_option Elab.async false
set_option linter.all false
/-! Ev15: comprehensions. -/
namespace Ev
open PySem L2
section
variable {K : PySem.W.Frag} {Z H Z1 H1 Z2 H2 : Hp} {F fp f : List Addr} {env : Env} {σ σ1 σ2 : St} {fps : List (List Addr)} {i : Nat} {d : D} {v : V} {it : T} {e0 : Env} {prot : List Nat}
theorem Post.wipes (p : Post K Z H F Z1 H1 env σ fps fp) : ∀ (own : List Nat), ∃ fps', Post K Z H F Z1 H1 (own.foldr (fun i e => e.set i none) env) (wipe σ own) fps' fp
  | [] => ⟨fps, p⟩
  | i :: own => by
    obtain ⟨fps', q⟩ := Post.wipes p own
    exact ⟨_, q.clear i none⟩
theorem Post.resto1 (e0 : Env) : ∀ (own : List Nat) {σ' : St}, (∀ i ∈ own, ∀ d, getE e0 i = some d → ∃ x v, d = .p x ∧ σ[i]? = some (some v) ∧ RepP K Z1 x v) → σ'.length = σ.length → Post K Z H F Z1 H1 env σ' fps fp →
    ∃ fps' σ2, Post K Z H F Z1 H1 (resto own e0 env) σ2 fps' fp ∧ σ2.length = σ.length ∧ ∀ k, σ2[k]? = if k ∈ own then σ[k]? else σ'[k]?
  | [], σ', _, hl, p => ⟨fps, σ', p, hl, fun k => by simp⟩
  | i :: own, σ', h, hl, p => by
    obtain ⟨fps', σ2, q, hl2, hk⟩ := Post.resto1 e0 own (fun i hi => h i (List.mem_cons_of_mem _ hi)) hl p
    have key : ∀ o, (i < σ.length → σ[i]? = some o) → ∀ k, (List.set σ2 i o)[k]? = if k ∈ i :: own then σ[k]? else σ'[k]? := fun o ho k => by
      by_cases e : k = i
      · subst e
        rw [if_pos (List.mem_cons_self ..)]
        by_cases hlt : k < σ.length
        · rw [ho hlt, List.getElem?_set_self (by rw [hl2]; exact hlt)]
        · rw [List.getElem?_eq_none (by rw [List.length_set, hl2]; omega), List.getElem?_eq_none (by omega)]
      · rw [List.getElem?_set_ne (fun x => e x.symm), hk k]
        have : (k ∈ i :: own) ↔ k ∈ own := by simp [e]
        by_cases hm : k ∈ own
        · rw [if_pos hm, if_pos (this.mpr hm)]
        · rw [if_neg hm, if_neg (fun z => hm (this.mp z))]
    show ∃ fps' σ2, Post K Z H F Z1 H1 ((resto own e0 env).set i (getE e0 i)) σ2 fps' fp ∧ _
    cases eg : getE e0 i with
    | none =>
      refine ⟨_, _, q.clear i ((σ[i]?).getD none), by rw [List.length_set]; exact hl2, key _ fun hlt => ?_⟩
      rw [List.getElem?_eq_getElem hlt]; rfl
    | some d =>
      obtain ⟨x, v, rfl, h1, h2⟩ := h i (by simp) d eg
      have hlt := (List.getElem?_eq_some_iff.mp h1).1
      refine ⟨_, _, Post.fill (f := []) (i := i) q (by have := q.good.rep.len; omega) (.p h2), by rw [List.length_set]; exact hl2, key _ fun _ => h1⟩
theorem Post.restos {own : List Nat} (p : Post K Z H F Z1 H1 env (wipe σ own) fps fp) (h : ∀ i ∈ own, ∀ d, getE e0 i = some d → ∃ x v, d = .p x ∧ σ[i]? = some (some v) ∧ RepP K Z1 x v) : ∃ fps', Post K Z H F Z1 H1 (resto own e0 env) σ fps' fp := by
  obtain ⟨fps', σ2, q, hl, hk⟩ := Post.resto1 (σ := σ) e0 own h (wipe_length σ own) p
  have : σ2 = σ := List.ext_getElem? fun k => by
    rw [hk k]
    split
    · rfl
    · rename_i hn; exact wipe_out hn
  subst this
  exact ⟨fps', q⟩
mutual
theorem asgT_len : ∀ (g : Tg) (d : D) (e e' : Env), asgT prot g d e = some e' → e'.length = e.length
  | .nm i k, d, e, e', h => by
    unfold asgT at h
    split at h
    · cases h
    · split at h
      · split at h
        · cases h; simp
        · cases h
      · cases h
  | .tp gs, d, e, e', h => by
    cases d with
    | p x =>
      cases x <;> simp only [asgT] at h <;> try cases h
      split at h
      · exact asgTs_len gs _ e e' h
      · cases h
    | pl xs => simp [asgT] at h
    | pd xs => simp [asgT] at h
    | st xs => simp [asgT] at h
    | pll xs => simp [asgT] at h
    | tab p q => simp [asgT] at h
theorem asgTs_len : ∀ (gs : List Tg) (xs : List P) (e e' : Env), asgTs prot gs xs e = some e' → e'.length = e.length
  | [], xs, e, e', h => by
    cases xs <;> simp [asgTs] at h
    rw [h]
  | g :: gs, xs, e, e', h => by
    cases xs with
    | nil => simp [asgTs] at h
    | cons x xs =>
      unfold asgTs at h
      split at h
      · rename_i e1 h1
        rw [asgTs_len gs xs e1 e' h, asgT_len g _ e e1 h1]
      · cases h
end
/-- only the own slots are others -/
theorem wipe_same {own : List Nat} (hl : σ1.length = σ.length) (h : ∀ i, i < σ.length → i ∉ own → σ1[i]? = σ[i]?) : wipe σ1 own = wipe σ own := by
  apply List.ext_getElem?
  intro k
  by_cases hk : k ∈ own
  · have : ∀ (τ : St) {vs : List Nat}, k ∈ vs → (wipe τ vs)[k]? = if k < τ.length then some none else none := fun τ vs => by
      induction vs with
      | nil => intro h; cases h
      | cons v vs ih =>
        intro hm
        unfold wipe
        by_cases e : v = k
        · subst e
          by_cases hlt : v < τ.length
          · rw [if_pos hlt, List.getElem?_set_self (by rw [wipe_length]; exact hlt)]
          · rw [if_neg hlt, List.getElem?_eq_none (by rw [List.length_set, wipe_length]; omega)]
        · rw [List.getElem?_set_ne e]
          exact ih ((List.mem_cons.mp hm).resolve_left fun z => e z.symm)
    rw [this σ1 hk, this σ hk, hl]
  · rw [wipe_out hk, wipe_out hk]
    by_cases hlt : k < σ.length
    · exact h k hlt hk
    · rw [List.getElem?_eq_none (by omega), List.getElem?_eq_none (by omega)]
end

section
variable {X : L2.Cx} {j : J} {k F : Nat} {a b c t it elt : T} {e ea eb ec tg : Expr} {pos p2 apos : Pos} {es ifs : List Expr} {ts : List T} {prot : List Nat} {cond : Option T}
def J.noX (j : J) : J := { j with W := fun _ _ _ _ => False }
/-- a clause's test -/
def PostB (j : J) (Z H : Hp) (F : List Addr) (σ : St) (Q : Bool → Hp → Prop) : Out → Prop
  | .ok (.p (.bl b)) e => ∀ Z' H' fps', Post j.K Z H F Z' H' e σ fps' [] → Q b H'
  | .ok _ _ => False
  | .exc c fs e => PostX j Z H F σ c fs e
  | .bad => False
def tCd (j : J) (cond : Option T) : TT := fun σ H Q => ∃ Z env fps, Good j.K Z H env σ fps ∧ PostB j Z H fps.flatten σ Q (evC j.Γ cond env)
def COk (X : L2.Cx) (j : J) (cond : Option T) (ifs : List Expr) : Prop := PTs X ifs (tCd j cond)
theorem impC {t t' : TT} (h : PTs X ifs t) (w : ∀ σ H Q, t' σ H Q → t σ H Q) : PTs X ifs t' := ⟨fun p s σ H Q I q => h.run p s σ H Q I (w σ H Q q)⟩
theorem co_none : COk X j none [] := by
  refine impC pts_nil fun σ H Q ⟨Z, env, fps, G, h⟩ => ?_
  unfold evC at h
  exact h Z H fps G.start
theorem evC_some {Γ : Calls} (e : Env) : evC Γ (some t) e = (evT Γ t e).bind fun x e => match fin t x e with
    | some x => onB x fun k => .ok (.p (.bl k)) e
    | none => .bad := by unfold evC; rfl
theorem co_one (ht : TOk X j t e) : COk X j (some t) [e] := by
  refine impC (pts_one ht) fun σ H Q ⟨Z, env, fps, G, h⟩ => ⟨Z, env, fps, G, ?_⟩
  rw [evC_some] at h
  cases ev : evT j.Γ t env with
  | bad => rw [ev] at h; exact h
  | exc c fs e' => rw [ev] at h; exact h
  | ok d e1 =>
    rw [ev] at h
    dsimp only [Out.bind] at h
    cases ef : fin t d e1 with
    | none => rw [ef] at h; exact h.elim
    | some x =>
      rw [ef] at h
      cases x with
      | p y =>
        cases y <;> try exact h.elim
        rename_i b
        exact ⟨b, ef, h⟩
      | pl y => exact h.elim
      | pd y => exact h.elim
      | st y => exact h.elim
      | pll y => exact h.elim
      | tab p q => exact h.elim
theorem comp_core {g : Tg} {own : List (Str × Nat)} (np : NP elt) {σ : St} {H : Hp} {Q : VK} (q : tE j (.comp elt g it cond (own.map (·.2))) σ H Q) :
    tLc (tI j it) (fun v σ H Q => ∃ prot, tG j.K prot g v σ H Q) (tCd j.noX cond) (tE j.noX elt) (own.map (·.2)) σ H Q := by
  obtain ⟨Z, env, fps, G, h⟩ := q
  generalize how : own.map (·.2) = ow at h ⊢
  have htn : ∀ i, T.comp elt g it cond ow ≠ .pk i := by intro i; simp
  generalize htt : T.comp elt g it cond ow = tt at htn
  rw [htt] at h
  have hev : evT j.Γ tt env = lcAll it ow (evT j.Γ elt) (evC j.Γ cond) g (evI j.Γ it env) := by
    rw [← htt]
    exact evT_comp j.Γ
  rw [hev] at h
  refine ⟨Z, env, fps, G, ?_⟩
  cases ei : evI j.Γ it env with
  | bad => rw [ei] at h; exact h
  | exc c fs e' => rw [ei] at h; exact h
  | ok xs e1 =>
    rw [ei] at h
    dsimp only [lcAll] at h
    split at h
    · rename_i hown
      intro Z1 H1 fps1 f J p1 hr wk D hD
      -- the own slots' shared values
      have p1b : ∃ fps1', Post j.K Z H fps.flatten Z1 H1 (unhide it e1 (hide it e1)) σ fps1' [] := Post.back (fp := []) (by simpa using p1) hr
      have eun : unhide it e1 (hide it e1) = e1 := by
        unfold unhide hide
        cases e : hid it e1 with
        | none => rfl
        | some q =>
          obtain ⟨i, d⟩ := q
          dsimp only
          rw [List.set_set]
          have : e1[i]? = some (some d) := by
            unfold hid at e
            split at e
            · rename_i i' _
              split at e
              · rename_i d' ed
                split at e
                · cases e
                  unfold getE at ed
                  split at ed
                  · rename_i d'' e''; rw [e'', ed]
                  · cases ed
                · cases e
              · cases e
            · cases e
          exact set_get_self this
      rw [eun] at p1b
      obtain ⟨fps1', p1b⟩ := p1b
      have hob : ∀ i ∈ ow, ∀ d, getE e1 i = some d → ∃ x v, d = .p x ∧ σ[i]? = some (some v) ∧ RepP j.K Z1 x v := fun i hi d ed => by
        obtain ⟨v, f', h1, h2, h3⟩ := p1b.good.rep.at ed
        unfold ownOk at hown
        have q := List.all_eq_true.mp hown i hi
        rw [ed] at q
        cases h3 with
        | p h3 => exact ⟨_, v, rfl, h1, h3⟩
        | pl _ _ => simp [owned] at q
        | st _ _ _ _ => simp [owned] at q
        | pll _ _ _ => simp [owned] at q
        | tab _ _ _ => simp [owned] at q
      have pD : Post j.K Z H fps.flatten Z1 (upd H1 D (.lst [])) (hide it e1) σ fps1 (f ++ [D]) :=
        p1.comp (Post.mk1 (d := .pl []) (v := .ref D) (fp := [D]) p1.good.start (stp_new p1.good.zle hD) (fun a u h => by rw [upd_ne (ne_of_none (p1.good.zle a u h) hD)]; exact p1.good.zle a u h) (.pl upd_same .nil) (fun a h => by simp at h; rw [h]; exact Evl.fresh_back p1.good.zle hD))
      obtain ⟨fpsw, pw⟩ := pD.wipes ow
      have hDf : ∀ a ∈ f, a ≠ D := fun a ha e => by
        obtain ⟨o, ho⟩ := p1.al a ha
        rw [e, hD] at ho; cases ho
      refine ⟨fun i m H' => m = xs.length - i ∧ i ≤ xs.length ∧ ∃ Z' e' fps' acc ws, Post j.K Z H fps.flatten Z' H' e' (wipe σ ow) fps' (f ++ [D]) ∧ e'.length = e1.length ∧ H' D = some (.lst ws) ∧ RepPs j.K Z' acc ws ∧ (∀ a ∈ f, H' a = H1 a) ∧ Ex Z1 Z' ∧
        PostO j Z H fps.flatten σ tt Q (lcEnd it ow e1 (compLoop (evT j.Γ elt) (evC j.Γ cond) (asgT (notOwn ow e1) g) ow (xs.drop i) e' acc)), ⟨xs.length, by simp, Nat.zero_le _, Z1, _, fpsw, [], [], pw, ?_, upd_same, .nil, fun a ha => upd_ne (hDf a ha), Evl.Ex.refl _, by simpa using h⟩, ?_⟩
      · have h1 := pw.good.rep.len
        have h2 := p1b.good.rep.len
        rw [wipe_length] at h1
        omega
      rintro i m H2 ⟨rfl, hi, Z2, e2, fps2, acc, ws, p2, hl2, hD2, ra2, hf2, ex2, h2⟩
      obtain ⟨wgo, wstop⟩ := wk Z2 H2 ex2 p2.good.zle hf2
      by_cases hlt : i < xs.length
      · have hx : xs[i]? = some xs[i] := List.getElem?_eq_getElem hlt
        rw [List.drop_eq_getElem_cons hlt] at h2
        obtain ⟨go, yl⟩ := wgo i _ hx
        refine .inr ⟨go, fun H' => ∃ Z' e' fps' acc ws, Post j.K Z H fps.flatten Z' H' e' (wipe σ ow) fps' (f ++ [D]) ∧ e'.length = e1.length ∧ H' D = some (.lst ws) ∧ RepPs j.K Z' acc ws ∧ (∀ a ∈ f, H' a = H1 a) ∧ Ex Z1 Z' ∧
          PostO j Z H fps.flatten σ tt Q (lcEnd it ow e1 (compLoop (evT j.Γ elt) (evC j.Γ cond) (asgT (notOwn ow e1) g) ow (xs.drop (i + 1)) e' acc)), fun H' w => ⟨xs.length - (i + 1), by omega, rfl, hlt, w⟩, fun v H3 y => ?_⟩
        obtain ⟨Z3, s3, ex3, r3⟩ := yl v H3 y
        have p3 := p2.grow s3 ex3 r3
        unfold compLoop at h2
        cases eg : asgT (notOwn ow e1) g (.p xs[i]) e2 with
        | none => rw [eg] at h2; exact h2.elim
        | some e4 =>
          rw [eg] at h2
          dsimp only at h2
          refine ⟨notOwn ow e1, Z3, H3, fps2.flatten, Z3, e2, fps2, [], .p xs[i], e4, p3.good.start, .p r3, eg, fun Z4 σ4 fps4 ex4 p4 sm4 => ⟨?_, ?_⟩⟩
          · have l1 := p4.good.rep.len
            have l2 := asgT_len _ _ _ _ eg
            have l3 := p1b.good.rep.len
            refine Eq.trans (wipe_same (σ := wipe σ ow) (by rw [wipe_length]; omega) fun i hi hno => sm4 i ?_) ?_
            · unfold notOwn
              rw [List.mem_filter]
              rw [wipe_length] at hi
              exact ⟨by rw [List.mem_range]; omega, by simp [hno]⟩
            · exact wipe_same (wipe_length _ _) fun i _ hno => wipe_out hno
          have p34 : Post j.K Z H fps.flatten Z4 H3 e4 σ4 fps4 (f ++ [D]) := by simpa using p3.comp p4
          have l4 := asgT_len _ _ _ _ eg
          have smw : wipe σ4 ow = wipe σ ow := by
            have l1 := p4.good.rep.len
            have l3 := p1b.good.rep.len
            refine Eq.trans (wipe_same (σ := wipe σ ow) (by rw [wipe_length]; omega) fun i hi hno => sm4 i ?_) ?_
            · unfold notOwn
              rw [List.mem_filter]
              rw [wipe_length] at hi
              exact ⟨by rw [List.mem_range]; omega, by simp [hno]⟩
            · exact wipe_same (wipe_length _ _) fun i _ hno => wipe_out hno
          -- what is in the hand stays
          have kept : ∀ {Z5 H5 e5 fps5 fp5}, Post j.K Z4 H3 fps4.flatten Z5 H5 e5 σ4 fps5 fp5 → (∀ a ∈ f ++ [D], H5 a = H2 a) := fun p5 a ha => by
            obtain ⟨o, ho⟩ := p2.al a ha
            have h3 := s3.fr a o ho (by simp)
            rw [ho]
            exact p5.stp.fr a o h3 (p34.dj a ha)
          refine ⟨Z4, e4, fps4, p34.good, ?_⟩
          -- the end of a turn
          have fin : ∀ {Z5 H5 e5 fps5 acc5 ws5}, Post j.K Z H fps.flatten Z5 H5 e5 σ4 fps5 (f ++ [D]) → H5 D = some (.lst ws5) → RepPs j.K Z5 acc5 ws5 → (∀ a ∈ f, H5 a = H2 a) → Ex Z4 Z5 →
              PostO j Z H fps.flatten σ tt Q (lcEnd it ow e1 (compLoop (evT j.Γ elt) (evC j.Γ cond) (asgT (notOwn ow e1) g) ow (xs.drop (i + 1)) (ow.foldr (fun i e => e.set i none) e5) acc5)) →
              ∃ Z' e' fps' acc ws, Post j.K Z H fps.flatten Z' H5 e' (wipe σ ow) fps' (f ++ [D]) ∧ e'.length = e1.length ∧ H5 D = some (.lst ws) ∧ RepPs j.K Z' acc ws ∧ (∀ a ∈ f, H5 a = H1 a) ∧ Ex Z1 Z' ∧
              PostO j Z H fps.flatten σ tt Q (lcEnd it ow e1 (compLoop (evT j.Γ elt) (evC j.Γ cond) (asgT (notOwn ow e1) g) ow (xs.drop (i + 1)) e' acc)) := by
            intro Z5 H5 e5 fps5 acc5 ws5 p5 hD5 ra5 hf5 ex5 h5
            obtain ⟨fps6, p6⟩ := p5.wipes ow
            rw [smw] at p6
            refine ⟨Z5, _, fps6, acc5, ws5, p6, ?_, hD5, ra5, fun a ha => (hf5 a ha).trans (hf2 a ha), ((ex2.trans s3.zz).trans ex4).trans ex5, h5⟩
            have h1 := p6.good.rep.len
            have h2 := p1b.good.rep.len
            rw [wipe_length] at h1
            omega
          show PostB j.noX Z4 H3 fps4.flatten σ4 _ (evC j.Γ cond e4)
          cases ec : evC j.Γ cond e4 with
          | bad => rw [ec] at h2; exact h2
          | exc c fs e5 => rw [ec] at h2; exact h2.elim
          | ok d5 e5 =>
            rw [ec] at h2
            cases d5 with
            | pl y => exact h2.elim
            | pd y => exact h2.elim
            | st y => exact h2.elim
            | pll y => exact h2.elim
            | tab p q => exact h2.elim
            | p y =>
              cases y with
              | bl b =>
                intro Z5 H5 fps5 p5
                have p5' : Post j.K Z H fps.flatten Z5 H5 e5 σ4 fps5 (f ++ [D]) := by simpa using p34.comp p5
                have k5 := kept p5
                cases b with
                | false =>
                  simp only [Bool.false_eq_true, if_false]
                  exact fin p5' ((k5 D (by simp)).trans hD2) (ra2.mono (((s3.zz).trans ex4).trans p5.stp.zz)) (fun a ha => k5 a (by simp [ha])) p5.stp.zz h2
                | true =>
                  simp only [if_true]
                  refine ⟨Z5, e5, fps5, p5.good, ?_⟩
                  dsimp only at h2
                  show PostO j.noX Z5 H5 fps5.flatten σ4 elt _ (evT j.Γ elt e5)
                  cases el : evT j.Γ elt e5 with
                  | bad => rw [el] at h2; exact h2
                  | exc c fs e6 => rw [el] at h2; exact h2.elim
                  | ok d6 e6 =>
                    rw [el] at h2
                    dsimp only at h2
                    intro Z6 H6 fps6 fp6 v6 p6 r6
                    cases ef : d6.frz with
                    | none => rw [ef] at h2; exact h2.elim
                    | some y =>
                      rw [ef] at h2
                      dsimp only at h2
                      split at h2
                      · rename_i hz
                        have k6 := kept (p5.comp p6)
                        have hD6 : H6 D = some (.lst ws) := (k6 D (by simp)).trans hD2
                        refine ⟨ws, hD6, Nat.lt_of_lt_of_le (by rw [← ra2.length]; exact hz) lim_le, ?_⟩
                        have pa : Post j.K Z H fps.flatten Z6 H6 e6 σ4 fps6 (fp6 ++ (f ++ [D])) := (p5'.comp p6).sub (fun x hx => by
                          rcases List.mem_append.mp hx with hx | hx
                          · exact List.mem_append_right _ hx
                          · exact List.mem_append_left _ hx) (List.perm_append_comm.nodup (p5'.comp p6).nd)
                        obtain ⟨Z7, ex7, p7, r7⟩ := pa.share (RO.rep (j := j.noX) r6 np) ef
                        have p8 := p7.touch (x := D) (by simp) (.lst (ws ++ [v6]))
                        refine fin p8 upd_same ((ra2.mono ((((s3.zz).trans ex4).trans (p5.comp p6).stp.zz).trans ex7)).append (.cons r7 .nil)) (fun a ha => by rw [upd_ne (hDf a ha)]; exact k6 a (by simp [ha])) ((p5.comp p6).stp.zz.trans ex7) h2
                      · exact h2.elim
              | _ => exact h2.elim
      · have ei : i = xs.length := by omega
        subst ei
        rw [List.drop_length] at h2
        unfold compLoop at h2
        obtain ⟨fps6, q6⟩ := p2.restos (e0 := e1) fun i hi d ed => by
          obtain ⟨x, v, h1, h3, h4⟩ := hob i hi d ed
          exact ⟨x, v, h1, h3, h4.mono ex2⟩
        obtain ⟨fps7, q7⟩ := q6.back (HidR.moved (prot := []) hr ex2 hf2 SameAt.refl)
        refine .inl ⟨wstop, h2 Z2 H2 fps7 [D] (.ref D) q7 (RO.of (.pl hD2 ra2) htn)⟩
    · exact h.elim
theorem ok_comp {g : Tg} {scope : Scope} {own : List (Str × Nat)} (np : NP elt) (hc : X.calm = true) (hN : X.N.Nodup) (hi : IOk X j tg it e) (ok : BlkOk X.N X.env.scope scope own)
    (hg : ∀ (s : Shared) (H : Hp) (C : Addr) (cl : List (Str × Addr)) (fp : List Addr) (prot : List Nat), GOk (X.blk s H scope (compEnvC scope cl C X.env) fp) j.K prot g tg)
    (ht : ∀ (s : Shared) (H : Hp) (C : Addr) (cl : List (Str × Addr)) (fp : List Addr), COk (X.blk s H scope (compEnvC scope cl C X.env) fp) j.noX cond ifs)
    (he : ∀ (s : Shared) (H : Hp) (C : Addr) (cl : List (Str × Addr)) (fp : List Addr), EOk (X.blk s H scope (compEnvC scope cl C X.env) fp) j.noX elt ea) (hn : notSet e = true) :
    EOk X j (.comp elt g it cond (own.map (·.2))) (.ListComp ea [⟨tg, e, ifs, 0⟩] scope pos) :=
  imp (pe_lc hc hN hi ok (fun s H C cl fp => ex_pg (hg s H C cl fp)) ht he (folded_of hn)) fun σ H Q q => comp_core np q
theorem PostO.mono {Z H : Hp} {F : List Addr} {σ : St} {t : T} {Q Q' : VK} {o : Out} (w : ∀ v H, Q v H → Q' v H) (h : PostO j Z H F σ t Q o) : PostO j Z H F σ t Q' o := by
  cases o with
  | ok d e => exact fun Z' H' fps' fp v p r => w _ _ (h Z' H' fps' fp v p r)
  | exc c fs e => exact h
  | bad => exact h
/-- name = [..] -/
theorem so_asgc {i : Nat} {kp : Bool} {x : Str} {px : Pos} {g : Tg} {scope : Scope} {own : List (Str × Nat)} (np : NP elt) (hc : X.calm = true) (hN : X.N.Nodup) (hx : X.N[i]? = some x) (hl : X.env.scope.names.lookup x = some .local)
    (hsw : swapsWith (.ListComp ea [⟨tg, e, ifs, 0⟩] scope pos) (some (.Name x px)) p2.line X.env = pure true) (hi : IOk X j tg it e) (ok : BlkOk X.N X.env.scope scope own)
    (hg : ∀ (s : Shared) (H : Hp) (C : Addr) (cl : List (Str × Addr)) (fp : List Addr) (prot : List Nat), GOk (X.blk s H scope (compEnvC scope cl C X.env) fp) j.K prot g tg)
    (ht : ∀ (s : Shared) (H : Hp) (C : Addr) (cl : List (Str × Addr)) (fp : List Addr), COk (X.blk s H scope (compEnvC scope cl C X.env) fp) j.noX cond ifs)
    (he : ∀ (s : Shared) (H : Hp) (C : Addr) (cl : List (Str × Addr)) (fp : List Addr), EOk (X.blk s H scope (compEnvC scope cl C X.env) fp) j.noX elt ea) (hn : notSet e = true) :
    SOk X j F prot (.asg (.nm i kp) (.comp elt g it cond (own.map (·.2)))) (.Assign [.Name x px] (.ListComp ea [⟨tg, e, ifs, 0⟩] scope pos) p2) := by
  refine impS (ps_setLc hc hN hx hl hsw hi ok (fun s H C cl fp => ex_pg (hg s H C cl fp)) ht he (folded_of hn)) fun Y σ H ⟨Z, env, fps, G, h⟩ => ?_
  obtain ⟨Z', env', fps', G', h'⟩ := asg_core (by intro i; simp) G h
  exact comp_core np ⟨Z', env', fps', G', h'.mono fun v H1 q => nm_core q⟩
end
end Ev
end

section
set_option Elab.async false
set_option linter.all false
/-! Ev16: calls of defs; what a def promises. -/
namespace Ev
open PySem L2
/-- a def's promise where no text is being shown around it -/
structure FnG (P : Program) (w : World) (K : PySem.W.Frag) (mg : Str → Option Value) (base : Heap) (k : Nat) (f : Addr) (fd : FuncData) (ps : List Str) (sp : Sp) : Prop where
  len : ∀ vs H Q E, sp vs H Q E → vs.length = ps.length
  go : ∀ (A : Around) (outer : List PySem.Env) (s : Shared) (H : Hp) (args : Args) (us : List Value) (vs : List V) (Q : VK) (E : XK), Room k A → A.guards = some [] → Env0 P w K mg base A outer s H → BindsTo s fd args (ps.zip us) → Vals vs us → sp vs H Q E →
    codeAny (model P w) A (.call (.ref f) args) (CR (L2.CX P w) outer P w H s Q E) s
section
variable {X : L2.Cx} {j : J} {k : Nat} {fa : Addr} {fd : FuncData} {ps : List Str} {sp : Sp}
theorem run_g {pins : List (Addr × Obj)} {σ : St} {H : Hp} {s : Shared} {Q : VK} {us : List Value} {vs : List V} (F : FnG X.prog X.w X.K X.mg X.base k fa fd ps sp) (hr : Room k X.A) (hg : X.A.guards = some []) (hb : Binds X.K fd ps []) (tk : Takes X j.W)
    (I : Inv X pins σ H s) (r : Vals vs us) (h : sp vs H Q (WE j.W σ)) : wpAny (model X.prog X.w) X.A (call (.ref fa) us) (EP X pins σ Q) X.xe s := by
  have hl := F.len _ _ _ _ h
  rw [r.length] at hl
  have b := hb s us I.kIn (by simpa using hl)
  simp only [List.append_nil] at b
  refine wpAny_call (codeAny_mono (F.go _ _ s H _ us vs Q _ hr hg I.env0 b r h) fun res s2 => ?_)
  match res with
  | .error e => exact fun hq => passAt tk σ pins H s e s2 I hq
  | .ok (.ret u) => exact fun hq => I.after hq
  | .ok .next => exact False.elim
  | .ok .brk => exact False.elim
  | .ok .cont => exact False.elim
theorem pe_g {x : Str} {p pos : Pos} {e : Expr} {es : List Expr} {t : TA} (F : FnG X.prog X.w X.K X.mg X.base k fa fd ps sp) (hr : Room k X.A) (hgd : X.A.guards = some []) (hg : Gl X x) (hm : X.mg x = some (.ref fa)) (hk : PySem.W.keepIn X.K (.ref fa) = true)
    (hb : Binds X.K fd ps []) (tk : Takes X j.W) (ha : PA X (e :: es) t) (hdb : (x == ("__debug__" : Str)) = false) (hs : (e :: es).all notStar = true) :
    PE X (.Call (.Name x p) (e :: es) [] pos) (tCallS sp (WE j.W) t) := by
  rw [List.all_cons, Bool.and_eq_true] at hs
  refine ⟨fun pins s σ H Q I h => wpAny_Call_Name_kw (ld_glob I hg hm (PySem.W.callWith_K (h₀ := X.base) I.ok.mod.kin hk ?_ (star_cons hs.1) (star_any hs.2)) hdb)⟩
  refine thn (ha.run pos pins s σ H _ I h) fun us s1 q => ?_
  obtain ⟨vs, H1, I1, r, q⟩ := q
  exact ⟨I1.kIn, run_g F hr hgd hb tk I1 r q⟩
theorem pe_g0 {x : Str} {p pos : Pos} (F : FnG X.prog X.w X.K X.mg X.base k fa fd ps sp) (hr : Room k X.A) (hgd : X.A.guards = some []) (hg : Gl X x) (hm : X.mg x = some (.ref fa)) (hk : PySem.W.keepIn X.K (.ref fa) = true)
    (hb : Binds X.K fd ps []) (tk : Takes X j.W) (hdb : (x == ("__debug__" : Str)) = false) : PE X (.Call (.Name x p) [] [] pos) (tCallS sp (WE j.W) tNil) :=
  ⟨fun pins s σ H Q I h => wpAny_Call_Name_kw (ld_glob I hg hm (PySem.W.callWith_K0 I.kIn hk (run_g (us := []) F hr hgd hb tk I .nil h)) hdb)⟩
end

section
variable {X : L2.Cx} {j : J} {k : Nat} {fa : Addr} {fd : FuncData} {ps : List Str} {sp : Sp}
/-- every parameter by its name -/
def BindsK (K : PySem.W.Frag) (fd : FuncData) (ps : List Str) : Prop := ∀ (s : Shared) (us : List Value), K.In s.heap → us.length = ps.length → BindsTo s fd ⟨[], ps.zip us⟩ (ps.zip us)
theorem pe_gk {x : Str} {p pos : Pos} {kws : List Keyword} {t : TA} (F : FnG X.prog X.w X.K X.mg X.base k fa fd ps sp) (hr : Room k X.A) (hgd : X.A.guards = some []) (hg : Gl X x) (hm : X.mg x = some (.ref fa)) (hk : PySem.W.keepIn X.K (.ref fa) = true)
    (hb : BindsK X.K fd ps) (tk : Takes X j.W) (ha : PK X kws t) (hdb : (x == ("__debug__" : Str)) = false) (hall : (backToKw pos (keywordEach kws X.env)).all (·.1.isSome) = true) (hks : (backToKw pos (keywordEach kws X.env)).filterMap (·.1) = ps)
    (hpl : ((backTo pos (starEach [] X.env)).any (·.1) || (backToKw pos (keywordEach kws X.env)).any (·.1.isNone)) = false) : PE X (.Call (.Name x p) [] kws pos) (tCallS sp (WE j.W) t) := by
  refine ⟨fun pins s σ H Q I h => wpAny_Call_Name_kw (ld_glob I hg hm (PySem.W.callWith_KW0 (h₀ := X.base) I.ok.mod.kin hk hall ?_ hpl) hdb)⟩
  refine thn (ha.run pos pins s σ H _ I h) fun us s1 q => ?_
  obtain ⟨vs, H1, I1, r, q⟩ := q
  rw [hks]
  refine ⟨I1.kIn, wpAny_call (codeAny_mono (F.go _ _ s1 H1 _ us vs Q _ hr hgd I1.env0 (hb s1 us I1.kIn (by rw [← r.length]; exact F.len _ _ _ _ q)) r q) fun res s2 => ?_)⟩
  match res with
  | .error e => exact fun hq => passAt tk σ pins H1 s1 e s2 I1 hq
  | .ok (.ret u) => exact fun hq => I1.after hq
  | .ok .next => exact False.elim
  | .ok .brk => exact False.elim
  | .ok .cont => exact False.elim
end

/-! ### arguments -/
inductive RepA (K : PySem.W.Frag) (Z H : Hp) (σ : St) : List T → List D → List V → List (List Addr) → Prop
  | nil : RepA K Z H σ [] [] [] []
  | cons {t : T} {d : D} {v : V} {f : List Addr} {ts : List T} {ds : List D} {vs : List V} {fs : List (List Addr)} : RepD K Z H d v f → (∀ i, t = .pk i → σ[i]? = some (some v)) → RepA K Z H σ ts ds vs fs → RepA K Z H σ (t :: ts) (d :: ds) (v :: vs) (f :: fs)
section
variable {K : PySem.W.Frag} {Z H Z1 H1 Z2 H2 : Hp} {F F' fp f : List Addr} {env e : Env} {σ σ1 σ2 : St} {fps fps' gps gps' : List (List Addr)} {ts : List T} {ds ds' : List D} {vs : List V}
theorem RepA.toEnv (r : RepA K Z H σ ts ds vs gps) : EnvR K Z H (ds.map some) (vs.map some) gps := by
  induction r with
  | nil => exact .nil
  | cons h _ _ ih => exact .so h ih
/-- a callee ran on what was in the hand -/
theorem Post.callee (p : Post K Z H F Z1 H1 e σ fps gps.flatten) (q : Post K Z1 H1 gps.flatten Z2 H2 env σ1 gps' fp) : Post K Z H F Z2 H2 e σ fps (fp ++ gps'.flatten) := by
  have keep : ∀ a ∈ fps.flatten, H2 a = H1 a := fun a ha => by
    obtain ⟨o, ho⟩ := p.good.rep.al a ha
    rw [ho]
    exact q.stp.fr a o ho fun hb => p.dj a hb ha
  have away : ∀ a, (a ∈ gps.flatten ∨ H1 a = none) → a ∉ fps.flatten := fun a h hb => by
    rcases h with h | h
    · exact p.dj a h hb
    · obtain ⟨o, ho⟩ := p.good.rep.al a hb
      rw [h] at ho; cases ho
  have s1 : Stp Z H F Z1 H1 (fps.flatten ++ gps.flatten) := p.stp.sub fun x hx => by
    rcases List.mem_append.mp hx with hx | hx
    · exact List.mem_append_right _ hx
    · exact List.mem_append_left _ hx
  refine ⟨(s1.comp q.stp).sub fun x hx => ?_, ⟨q.good.zle, p.good.rep.keep q.stp.zz keep, p.good.nd, fun a ha => ?_⟩, fun a ha => away a (q.stp.nw a ha), ?_, fun a ha => ?_, fun a ha => ?_⟩
  · rcases List.mem_append.mp hx with hx | hx
    · exact List.mem_append_right _ hx
    · exact List.mem_append_left _ hx
  · cases ez : Z2 a with
    | none => rfl
    | some o =>
      rcases q.stp.zn a o ez with z | z
      · rw [p.good.zd a ha] at z; cases z
      · exact absurd ha (away a z)
  · exact List.nodup_append.mpr ⟨q.nd, q.good.nd, fun x hx y hy e => q.dj x hx (e ▸ hy)⟩
  · rcases List.mem_append.mp ha with ha | ha
    · exact q.zd a ha
    · exact q.good.zd a ha
  · rcases List.mem_append.mp ha with ha | ha
    · exact q.al a ha
    · exact q.good.rep.al a ha
/-- what was handed over comes back -/
theorem Post.backs (r : RepA K Z1 H1 σ ts ds vs gps) : ∀ {ds' : List D} {gps' : List (List Addr)} {e : Env} {fps : List (List Addr)}, EnvR K Z2 H2 (ds'.map some) (vs.map some) gps' → Post K Z H F Z2 H2 e σ fps (gps'.flatten ++ fp) →
    ∃ fps', Post K Z H F Z2 H2 (Ev.backs ts ds ds' e) σ fps' fp := by
  induction r with
  | nil =>
    intro ds' gps' e fps he p
    cases ds' with
    | nil => cases he; exact ⟨fps, by unfold Ev.backs; simpa using p⟩
    | cons d ds => cases he
  | @cons t d v f ts ds vs fs h hi r ih =>
    intro ds' gps' e fps he p
    cases ds' with
    | nil => cases he
    | cons d' ds' =>
      cases he with
      | @so _ _ f' _ _ fs' hd he =>
        have drop : Post K Z H F Z2 H2 e σ fps (fs'.flatten ++ fp) := p.sub (fun x hx => by
          rw [List.flatten_cons, List.append_assoc]
          exact List.mem_append_right _ hx) (by
          have := p.nd
          rw [List.flatten_cons, List.append_assoc] at this
          exact (List.nodup_append.mp this).2.1)
        unfold Ev.backs
        by_cases hp : ∃ i, t = .pk i
        · obtain ⟨i, rfl⟩ := hp
          have hv := hi i rfl
          have hl : i < e.length := by
            have h1 := p.good.rep.len
            have h2 := (List.getElem?_eq_some_iff.mp hv).1
            omega
          have put : ∃ fps', Post K Z H F Z2 H2 (e.set i (some d')) σ fps' (fs'.flatten ++ fp) := by
            have p' : Post K Z H F Z2 H2 e σ fps (f' ++ (fs'.flatten ++ fp)) := by
              rw [List.flatten_cons, List.append_assoc] at p
              exact p
            have q := p'.fill hl hd
            rw [set_get_self hv] at q
            exact ⟨_, q⟩
          cases d with
          | p x => exact ih he drop
          | pl x => obtain ⟨fps', q⟩ := put; exact ih he q
          | pd x => obtain ⟨fps', q⟩ := put; exact ih he q
          | st x => obtain ⟨fps', q⟩ := put; exact ih he q
          | pll x => obtain ⟨fps', q⟩ := put; exact ih he q
          | tab x y => obtain ⟨fps', q⟩ := put; exact ih he q
        · have eb : back1 t d d' e = e := by
            unfold back1
            split
            · rfl
            · exact absurd ⟨_, rfl⟩ hp
            · rfl
          rw [eb]
          exact ih he drop
end

section
variable {X : L2.Cx} {j : J} {k F : Nat} {a b c t : T} {e ea eb ec : Expr} {pos p2 apos : Pos} {es : List Expr} {as ts : List T} {fa : Addr} {fd : FuncData} {ps : List Str}
def PostAs (j : J) (Z H : Hp) (F : List Addr) (σ : St) (as : List T) (Q : List V → Hp → Prop) : OutL → Prop
  | .ok ds e => ∀ Z' H' fps' gps vs, Post j.K Z H F Z' H' e σ fps' gps.flatten → RepA j.K Z' H' σ as ds vs gps → Q vs H'
  | .exc c fs e => PostX j Z H F σ c fs e
  | .bad => False
def tAs (j : J) (as : List T) : TA := fun σ H Q => ∃ Z env fps, Good j.K Z H env σ fps ∧ PostAs j Z H fps.flatten σ as Q (evAs j.Γ as env)
def AsOk (X : L2.Cx) (j : J) (as : List T) (es : List Expr) : Prop := PA X es (tAs j as)
theorem as_nil : AsOk X j [] [] := by
  refine impA pa_nil fun σ H Q ⟨Z, env, fps, G, h⟩ => ?_
  unfold evAs at h
  exact h Z H fps [] [] G.start .nil
theorem as_core {σ : St} {H : Hp} {Q : List V → Hp → Prop} (q : tAs j (t :: ts) σ H Q) : tCons (tE j t) (tAs j ts) σ H Q := by
  obtain ⟨Z, env, fps, G, h⟩ := q
  unfold evAs at h
  refine ⟨Z, env, fps, G, ?_⟩
  cases e1 : evT j.Γ t env with
  | bad => rw [e1] at h; exact h
  | exc c fs e' => rw [e1] at h; exact h
  | ok d0 e' =>
    rw [e1] at h
    dsimp only at h
    intro Z1 H1 fps1 fp1 v p1 r1
    cases ef : fin t d0 e' with
    | none => rw [ef] at h; exact h.elim
    | some d =>
      rw [ef] at h
      dsimp only at h
      -- what is handed over
      have tk : ∃ f1 fps2, Post j.K Z H fps.flatten Z1 H1 (take1 t e' d) σ fps2 f1 ∧ RepD j.K Z1 H1 d v f1 ∧ (∀ i, t = .pk i → σ[i]? = some (some v)) := by
        by_cases hp : ∃ i, t = .pk i
        · obtain ⟨i, rfl⟩ := hp
          obtain ⟨r1, r2⟩ := r1
          subst r1
          have ef : getE e' i = some d := ef
          obtain ⟨v', f', h1, h2, h3⟩ := p1.good.rep.at ef
          rw [r2] at h1
          cases h1
          have ii : ∀ n, T.pk i = .pk n → σ[n]? = some (some v) := fun n hn => by cases hn; exact r2
          cases h3 with
          | p h3 => exact ⟨[], fps1, p1, .p h3, ii⟩
          | pl h3 h4 => exact ⟨_, _, p1.take h2, .pl h3 h4, ii⟩
          | st h3 h4 h5 h6 => exact ⟨_, _, p1.take h2, .st h3 h4 h5 h6, ii⟩
          | pll h3 h4 h5 => exact ⟨_, _, p1.take h2, .pll h3 h4 h5, ii⟩
          | tab h3 h4 h5 => exact ⟨_, _, p1.take h2, .tab h3 h4 h5, ii⟩
        · have np : NP t := fun i hi => hp ⟨i, hi⟩
          rw [fin_np np] at ef
          cases ef
          have et : take1 t e' d0 = e' := by
            unfold take1
            split
            · rfl
            · exact absurd ⟨_, rfl⟩ hp
            · rfl
          rw [et]
          exact ⟨fp1, fps1, p1, r1.rep np, fun i hi => absurd hi (np i)⟩
      obtain ⟨f1, fps2, p2, rd, hi⟩ := tk
      refine ⟨Z1, _, fps2, p2.good, ?_⟩
      cases e2 : evAs j.Γ ts (take1 t e' d) with
      | bad => rw [e2] at h; exact h
      | ok ds e'' =>
        rw [e2] at h
        intro Z2 H2 fps3 gps vs p3 r3
        exact h Z2 H2 fps3 (f1 :: gps) (v :: vs) (p2.comp p3) (.cons (p2.held p3 rd fun x h => h) hi r3)
      | exc c fs e'' =>
        rw [e2] at h
        dsimp only at h
        intro Z2 H2 fps3 cls dx p3 xr
        have pa := p2.comp p3
        have rd' := p2.held p3 rd fun x h => h
        have fin : ∃ fps', Post j.K Z H fps.flatten Z2 H2 (back1 t d d e'') σ fps' [] := by
          by_cases hp : ∃ i, t = .pk i
          · obtain ⟨i, rfl⟩ := hp
            have hv := hi i rfl
            have hl : i < e''.length := by
              have h1 := pa.good.rep.len
              have h2 := (List.getElem?_eq_some_iff.mp hv).1
              omega
            have q := pa.fill hl rd'
            rw [set_get_self hv] at q
            cases d with
            | p x => exact ⟨fps3, pa.drop⟩
            | pl x => exact ⟨_, q⟩
            | pd x => exact ⟨_, q⟩
            | st x => exact ⟨_, q⟩
            | pll x => exact ⟨_, q⟩
            | tab x y => exact ⟨_, q⟩
          · have eb : back1 t d d e'' = e'' := by
              unfold back1
              split
              · rfl
              · exact absurd ⟨_, rfl⟩ hp
              · rfl
            rw [eb]
            exact ⟨fps3, pa.drop⟩
        obtain ⟨fps', q⟩ := fin
        exact h Z2 H2 fps' cls dx q xr

theorem as_cons (ha : EOk X j t e) (hr : AsOk X j ts es) (hn : notStar e = true) : AsOk X j (t :: ts) (e :: es) :=
  impA (pa_cons ha hr (star_cons hn)) fun σ H Q q => as_core q
/-- arguments by name, in the parameters' sequence -/
def KwOk (X : L2.Cx) (j : J) (as : List T) (kws : List Keyword) : Prop := PK X kws (tAs j as)
theorem impK {kws : List Keyword} {t t' : TA} (h : PK X kws t) (w : ∀ σ H Q, t' σ H Q → t σ H Q) : PK X kws t' := ⟨fun ps p s σ H Q I q => h.run ps p s σ H Q I (w σ H Q q)⟩
theorem kw_nil : KwOk X j [] [] := by
  refine impK pk_nil fun σ H Q ⟨Z, env, fps, G, h⟩ => ?_
  unfold evAs at h
  exact h Z H fps [] [] G.start .nil
theorem kw_cons {nm : Option Str} {kpos : Pos} {kws : List Keyword} (ha : EOk X j t e) (hr : KwOk X j ts kws) : KwOk X j (t :: ts) (⟨nm, e, kpos⟩ :: kws) :=
  impK (pk_cons ha hr) fun σ H Q q => as_core q

/-! ### the promise -/
def PostCall (j : J) (Z H : Hp) (F : List Addr) (σ : St) (Q : VK) (E : XK) : COut → Prop
  | .ok d ds => ∀ Z' H' fps' fp v, Post j.K Z H F Z' H' (ds.map some) σ fps' fp → RepD j.K Z' H' d v fp → Q v H'
  | .exc c fs ds => ∀ Z' H' fps' cls dx, Post j.K Z H F Z' H' (ds.map some) σ fps' [] → ExcR j Z' c fs cls dx → E cls dx H'
  | .bad => False
def spE (j : J) (f : Str) : Sp := fun vs H Q E => ∃ Z ds fps, Good j.K Z H (ds.map some) (vs.map some) fps ∧ PostCall j Z H fps.flatten (vs.map some) Q E (j.Γ f ds)
theorem call_core {f : Str} {σ : St} {H : Hp} {Q : VK} {Z : Hp} {env : Env} {fps : List (List Addr)} (G : Good j.K Z H env σ fps) (h : PostO j Z H fps.flatten σ (.call f as) Q (evT j.Γ (.call f as) env)) :
    tCallS (spE j f) (WE j.W) (tAs j as) σ H Q := by
  unfold evT at h
  refine ⟨Z, env, fps, G, ?_⟩
  cases ea : evAs j.Γ as env with
  | bad => rw [ea] at h; exact h
  | exc c fs e' => rw [ea] at h; exact h
  | ok ds e1 =>
    rw [ea] at h
    dsimp only [OutL.bind] at h
    intro Z1 H1 fps1 gps vs p1 ra
    refine ⟨Z1, ds, gps, ⟨p1.good.zle, ra.toEnv, p1.nd, p1.zd⟩, ?_⟩
    cases ec : j.Γ f ds with
    | bad => rw [ec] at h; exact h
    | ok d ds' =>
      rw [ec] at h
      intro Z2 H2 gps' fp v q r
      have pc := p1.callee q
      obtain ⟨fps2, q2⟩ := Post.backs ra q.good.rep (pc.sub (fun x hx => by
        rcases List.mem_append.mp hx with hx | hx
        · exact List.mem_append_right _ hx
        · exact List.mem_append_left _ hx) (List.perm_append_comm.nodup pc.nd))
      exact h Z2 H2 fps2 fp v q2 (RO.of r (by intro i; simp))
    | exc c fs ds' =>
      rw [ec] at h
      intro Z2 H2 gps' cls dx q xr
      have pc : Post j.K Z H fps.flatten Z2 H2 e1 σ fps1 (gps'.flatten ++ []) := by simpa using p1.callee q
      obtain ⟨fps2, q2⟩ := Post.backs ra q.good.rep pc
      exact h Z2 H2 fps2 cls dx q2 xr
theorem ok_call {f : Str} {p : Pos} (F : FnG X.prog X.w X.K X.mg X.base k fa fd ps (spE j f)) (hr : Room k X.A) (hgd : X.A.guards = some []) (hg : Gl X f) (hm : X.mg f = some (.ref fa)) (hk : PySem.W.keepIn X.K (.ref fa) = true)
    (hb : Binds X.K fd ps []) (tk : Takes X j.W) (ha : AsOk X j as (e :: es)) (hdb : (f == ("__debug__" : Str)) = false) (hs : (e :: es).all notStar = true) : EOk X j (.call f as) (.Call (.Name f p) (e :: es) [] pos) :=
  imp (pe_g F hr hgd hg hm hk hb tk ha hdb hs) fun σ H Q ⟨Z, env, fps, G, h⟩ => call_core G h
theorem ok_callk {f : Str} {p : Pos} {kws : List Keyword} (F : FnG X.prog X.w X.K X.mg X.base k fa fd ps (spE j f)) (hr : Room k X.A) (hgd : X.A.guards = some []) (hg : Gl X f) (hm : X.mg f = some (.ref fa)) (hk : PySem.W.keepIn X.K (.ref fa) = true)
    (hb : BindsK X.K fd ps) (tk : Takes X j.W) (ha : KwOk X j as kws) (hdb : (f == ("__debug__" : Str)) = false) (hall : (backToKw pos (keywordEach kws X.env)).all (·.1.isSome) = true) (hks : (backToKw pos (keywordEach kws X.env)).filterMap (·.1) = ps)
    (hpl : ((backTo pos (starEach [] X.env)).any (·.1) || (backToKw pos (keywordEach kws X.env)).any (·.1.isNone)) = false) : EOk X j (.call f as) (.Call (.Name f p) [] kws pos) :=
  imp (pe_gk F hr hgd hg hm hk hb tk ha hdb hall hks hpl) fun σ H Q ⟨Z, env, fps, G, h⟩ => call_core G h
theorem ok_late {f x : Str} {i : Nat} {p px : Pos} (n : NP t) (F : FnG X.prog X.w X.K X.mg X.base k fa fd ps (spE j f)) (hr : Room k X.A) (hgd : X.A.guards = some []) (hg : Gl X f) (hm : X.mg f = some (.ref fa)) (hk : PySem.W.keepIn X.K (.ref fa) = true)
    (hb : Binds X.K fd ps []) (tk : Takes X j.W) (hN : X.N[i]? = some x) (hv : Vis X.env.scope x) (hd : (x == ("__debug__" : Str)) = false) (hcd : (x == ("__classdict__" : Str)) = false) (ha : EOk X j t e) (hdb : (f == ("__debug__" : Str)) = false) (hs : notStar e = true) :
    EOk X j (.late f i t) (.Call (.Name f p) [.Name x px, e] [] pos) := by
  refine imp (pe_g F hr hgd hg hm hk hb tk (pa_cons (pe_var hN hv hd hcd) (pa_cons ha pa_nil (star_cons hs))) hdb (by rw [List.all_cons, List.all_cons, hs]; rfl)) fun σ H Q ⟨Z, env, fps, G, h⟩ => ?_
  unfold evT at h
  split at h
  · rename_i d0 e0
    obtain ⟨v, f0, h1, _, _⟩ := G.rep.at e0
    refine ⟨v, h1, Z, env, fps, G, ?_⟩
    cases et : evT j.Γ t env with
    | bad => rw [et] at h; exact h
    | exc c fs e' => rw [et] at h; exact h
    | ok d e1 =>
      rw [et] at h
      dsimp only [Out.bind] at h
      intro Z1 H1 fps1 fp1 w p1 r1
      split at h
      · rename_i s es
        obtain ⟨v', f', q1, q2, q3⟩ := p1.good.rep.at es
        rw [h1] at q1
        cases q1
        have p2 := p1.takeH q2
        refine ⟨Z1, [s, d], [f', fp1], ⟨p2.good.zle, .so q3 (.so (r1.rep n) .nil), by simpa using p2.nd, fun a ha => p2.zd a (by simpa using ha)⟩, ?_⟩
        cases ec : j.Γ f [s, d] with
        | bad => rw [ec] at h; exact h
        | exc c fs ds' => rw [ec] at h; exact h.elim
        | ok r ds' =>
          rw [ec] at h
          intro Z2 H2 gps' fp u q rr
          split at h
          · rename_i eo
            cases eo
            rename_i s' rest
            split at h
            · have pc : Post j.K Z H fps.flatten Z2 H2 (e1.set i none) σ (fps1.set i []) (fp ++ gps'.flatten) := Post.callee (gps := [f', fp1]) (by simpa using p2) q
              have he := q.good.rep
              cases he with
              | @so _ _ g' _ _ fs' hs' he' =>
                have q4 : Post j.K Z H fps.flatten Z2 H2 (e1.set i none) σ (fps1.set i []) (g' ++ fp) := pc.sub (fun y hy => by
                  rcases List.mem_append.mp hy with hy | hy
                  · exact List.mem_append_right _ (by rw [List.flatten_cons]; exact List.mem_append_left _ hy)
                  · exact List.mem_append_left _ hy) (by
                  have nd := pc.nd
                  rw [List.flatten_cons] at nd
                  have := List.nodup_append.mp nd
                  refine List.nodup_append.mpr ⟨(List.nodup_append.mp this.2.1).1, this.1, fun y hy z hz e => this.2.2 z hz y (List.mem_append_left _ hy) e.symm⟩)
                have hl : i < (e1.set i none).length := by
                  have l1 := p1.good.rep.len
                  have l2 := (List.getElem?_eq_some_iff.mp h1).1
                  rw [List.length_set]
                  omega
                have q5 := q4.fill hl hs'
                rw [set_get_self h1, set_set_env] at q5
                exact h Z2 H2 _ fp u q5 (RO.of rr (by simp))
            · exact h.elim
          · exact h.elim
      · exact h.elim
  · exact h.elim
end
end Ev
end

section
set_option Elab.async false
set_option linter.all false
/-! Ev17: a def keeps its promise by its body. -/
namespace Ev
open PySem L2
open PyProof.Rows (envOfC)
section
variable {P : Program} {w : World} {K : PySem.W.Frag} {mg : Str → Option Value} {base : Heap} {k F : Nat} {f : Addr} {fd : FuncData} {x qual : Str} {st : Stmt} {N ps : List Str} {sp : Sp}
theorem FnG.of (F : L2.Fun K x qual st f fd) (S : FnScope N ps (defScope st)) (len : ∀ vs H Q E, sp vs H Q E → vs.length = ps.length)
    (body : ∀ (cdv : Value) (A : Around) (outer : List PySem.Env) (s : Shared) (H : Hp) (vs : List V) (Q : VK) (E : XK), Room k (A.deeper (envOfC qual (defScope st) s.heap.objs.size f cdv)) → A.guards = some [] → sp vs H Q E →
      ∃ t, PSs (cxOf (L2.CX P w) P w K mg base N qual (defScope st) f cdv A outer s H E) (defBody st) t ∧ t { nx := fun _ H' => Q .non H', rt := Q } (start N vs) H) : FnG P w K mg base (k + 1) f fd ps sp := by
  obtain ⟨oc, od, kV, doc, pm, an, cdv, ct, osl, rfl, lk, hcd⟩ := F.ex
  exact ⟨len, fun A outer s H args us vs Q E hr hg e0 hb r h => LamX.run_ofS lk hcd S hr e0 hb r (len _ _ _ _ h) fun hr' => body cdv A outer s H vs Q E hr' hg h⟩
/-- what a body's context gives -/
structure CtxS (P : Program) (w : World) (K : PySem.W.Frag) (mg : Str → Option Value) (base : Heap) (k : Nat) (N : List Str) (sc : Scope) (X : L2.Cx) (W : WX) : Prop where
  prog : X.prog = P
  w : X.w = w
  K : X.K = K
  mg : X.mg = mg
  base : X.base = base
  N : X.N = N
  sc : X.env.scope = sc
  calm : X.calm = true
  room : Room k X.A
  gd : X.A.guards = some []
  tk : Takes X W
theorem EnvR.pad {Z H : Hp} {es : Env} {σ : St} {fs : List (List Addr)} (r : EnvR K Z H es σ fs) (n : Nat) : EnvR K Z H (es ++ List.replicate n none) (σ ++ List.replicate n none) (fs ++ List.replicate n []) := by
  induction r with
  | nil =>
    induction n with
    | zero => exact .nil
    | succ n ih => exact .no none ih
  | no o r ih => exact .no o ih
  | so h r ih => exact .so h ih
theorem flatten_pad (fs : List (List Addr)) : ∀ n, (fs ++ List.replicate n []).flatten = fs.flatten
  | 0 => by simp
  | n + 1 => by
    rw [List.replicate_succ', ← List.append_assoc, List.flatten_append, flatten_pad fs n]
    simp
theorem mem_prot : ∀ {ds : List D} {i k : Nat} {d : D}, ds[k]? = some d → owned d = true → i + k ∈ protOf i ds
  | [], _, _, _, h, _ => by simp at h
  | d :: ds, i, 0, _, h, o => by
    simp at h
    subst h
    unfold protOf
    rw [if_pos o]
    simp
  | d :: ds, i, k + 1, d', h, o => by
    have ih := mem_prot (i := i + 1) (ds := ds) (k := k) (by simpa using h) o
    have e : i + 1 + k = i + (k + 1) := by omega
    rw [e] at ih
    unfold protOf
    split
    · exact List.mem_cons_of_mem _ ih
    · exact ih
theorem leftR {Z H Z' H' : Hp} {e : Env} {σ' : St} {fps' : List (List Addr)} (ex : Ex Z Z') (he : EnvR K Z' H' e σ' fps') : ∀ {ds : List D} {vs : List V} {fs : List (List Addr)} {i : Nat} {r : List D}, EnvR K Z H (ds.map some) (vs.map some) fs → leftOf i ds e = some r →
    (∀ k d v, ds[k]? = some d → vs[k]? = some v → owned d = true → σ'[i + k]? = some (some v)) → ∃ gs, EnvR K Z' H' (r.map some) (vs.map some) gs ∧ gs.flatten.Sublist (fps'.drop i).flatten
  | [], vs, fs, i, r, h, hl, _ => by
    cases vs with
    | nil =>
      simp only [leftOf, Option.some.injEq] at hl
      subst hl
      exact ⟨[], .nil, by simp⟩
    | cons v vs => cases h
  | d :: ds, [], fs, i, r, h, hl, _ => by cases h
  | d :: ds, v :: vs, fs, i, r, h, hl, hs => by
    cases h with
    | @so _ _ f _ _ fs hd h =>
      unfold leftOf at hl
      cases e1 : leftOf (i + 1) ds e with
      | none => rw [e1] at hl; cases hl
      | some r1 =>
        rw [e1] at hl
        dsimp only at hl
        obtain ⟨gs, h1, h2⟩ := leftR ex he h e1 fun k d v hd hv ho => by
          have := hs (k + 1) d v (by simpa using hd) (by simpa using hv) ho
          have e : i + 1 + k = i + (k + 1) := by omega
          rw [e]; exact this
        have sub : (fps'.drop (i + 1)).flatten.Sublist (fps'.drop i).flatten := by
          cases ed : fps'.drop i with
          | nil =>
            have : fps'.drop (i + 1) = [] := by
              rw [List.drop_eq_nil_iff] at ed ⊢
              omega
            rw [this]; exact List.Sublist.refl _
          | cons g gs =>
            have : fps'.drop (i + 1) = gs := by rw [← List.tail_drop, ed]; rfl
            rw [this, List.flatten_cons]
            exact List.sublist_append_right _ _
        split at hl
        · rename_i ho
          split at hl
          · rename_i d' eg
            split at hl
            · cases hl
              have hv := hs 0 d v (by simp) (by simp) ho
              rw [Nat.add_zero] at hv
              obtain ⟨v', f', q1, q2, q3⟩ := he.at eg
              rw [hv] at q1
              cases q1
              refine ⟨f' :: gs, .so q3 h1, ?_⟩
              have hlt := (List.getElem?_eq_some_iff.mp q2).1
              have eqf := (List.getElem?_eq_some_iff.mp q2).2
              rw [List.drop_eq_getElem_cons hlt, eqf, List.flatten_cons, List.flatten_cons]
              exact List.Sublist.append_left h2 _
            · cases hl
          · cases hl
        · rename_i ho
          cases hl
          cases hd with
          | p hx => exact ⟨[] :: gs, .so (.p (hx.mono ex)) h1, h2.trans sub⟩
          | pl _ _ => exact absurd rfl ho
          | st _ _ _ _ => exact absurd rfl ho
          | pll _ _ _ => exact absurd rfl ho
          | tab _ _ _ => exact absurd rfl ho
/-- from the frame's end to the arguments -/
theorem Post.args {Z H Z' H' : Hp} {FF fp : List Addr} {e : Env} {σ' : St} {fps' gs : List (List Addr)} {r : List D} {vs : List V} (p : Post K Z H FF Z' H' e σ' fps' fp) (h : EnvR K Z' H' (r.map some) (vs.map some) gs) (sb : gs.flatten.Sublist fps'.flatten) : Post K Z H FF Z' H' (r.map some) (vs.map some) gs fp :=
  ⟨p.stp.sub fun x hx => by
    rcases List.mem_append.mp hx with hx | hx
    · exact List.mem_append_left _ hx
    · exact List.mem_append_right _ (sb.subset hx), ⟨p.good.zle, h, sb.nodup p.good.nd, fun a ha => p.good.zd a (sb.subset ha)⟩, fun a ha hb => p.dj a ha (sb.subset hb), p.nd, p.zd, p.al⟩
theorem fn_ok {j : J} {Γ' : Calls} {Fu : Nat} {fn : Fn} (F : L2.Fun K x qual st f fd) (S : FnScope N ps (defScope st)) (hps : fn.ps = ps.length) (hn : fn.n = N.length) (hΓ : ∀ ds, j.Γ x ds = runFn Γ' Fu fn ds) (hK : j.K = K)
    (body : ∀ (X : L2.Cx) (W : WX) (prot : List Nat), CtxS P w K mg base k N (defScope st) X W → (∀ y, X.fn y = true) → PassesOwn (model X.prog X.w) X.A X.env X.xe → BOk X ⟨K, j.ca, W, Γ'⟩ Fu prot fn.body (defBody st)) :
    FnG P w K mg base (k + 1) f fd ps (spE j x) := by
  subst hK
  refine FnG.of F S (fun vs H Q E ⟨Z, ds, fps, G, h⟩ => ?_) fun cdv A outer s H vs Q E hr hg ⟨Z, ds, fps, G, h⟩ => ?_
  · have hl := G.rep.len.1
    simp only [List.length_map] at hl
    rw [hΓ] at h
    unfold runFn at h
    split at h
    · rename_i hh
      omega
    · exact h.elim
  · have hl := G.rep.len.1
    simp only [List.length_map] at hl
    rw [hΓ] at h
    unfold runFn at h
    split at h
    · rename_i hh
      refine ⟨_, body _ (fun cls d _ H' => E cls d H') (protOf 0 ds) ⟨rfl, rfl, rfl, rfl, rfl, rfl, rfl, rfl, hr, hg, takes_of (E := E) rfl rfl rfl rfl⟩ (fun _ => rfl) PassesOwn.leaving, ?_⟩
      have est : start N vs = vs.map some ++ List.replicate (fn.n - fn.ps) none := by
        unfold L2.start
        congr 2
        omega
      rw [est]
      refine ⟨Z, _, fps ++ List.replicate (fn.n - fn.ps) [], ⟨G.zle, G.rep.pad _, by rw [flatten_pad]; exact G.nd, by rw [flatten_pad]; exact G.zd⟩, ?_⟩
      rw [flatten_pad]
      -- the arguments' slots at the end
      have fin : ∀ {Z' H' e σ' fps' fp r}, Post j.K Z H fps.flatten Z' H' e σ' fps' fp → SameAt (protOf 0 ds) (vs.map some ++ List.replicate (fn.n - fn.ps) none) σ' → leftOf 0 ds e = some r → ∃ gs, Post j.K Z H fps.flatten Z' H' (r.map some) (vs.map some) gs fp := by
        intro Z' H' e σ' fps' fp r p sm el
        obtain ⟨gs, g1, g2⟩ := leftR (i := 0) p.stp.zz p.good.rep G.rep el fun k d v hd hv ho => by
          have m := mem_prot (i := 0) hd ho
          rw [Nat.zero_add] at m ⊢
          rw [sm k m, List.getElem?_append_left (by rw [List.length_map]; exact (List.getElem?_eq_some_iff.mp hv).1), List.getElem?_map, hv]
          rfl
        exact ⟨gs, p.args g1 (by simpa using g2)⟩
      cases eb : evB Γ' Fu fn.body (protOf 0 ds) (ds.map some ++ List.replicate (fn.n - fn.ps) none) with
      | bad => rw [eb] at h; exact h
      | bk e => rw [eb] at h; exact h.elim
      | ct e => rw [eb] at h; exact h.elim
      | nx e =>
        rw [eb] at h
        intro Z' H' σ' fps' p sm
        cases el : leftOf 0 ds e with
        | none => dsimp only at h; rw [el] at h; exact h.elim
        | some r =>
          dsimp only at h
          rw [el] at h
          obtain ⟨gs, q⟩ := fin p sm el
          exact h Z' H' gs [] .non q (.p .non)
      | ret d e =>
        rw [eb] at h
        intro Z' H' σ' fps' fp v p rd sm
        cases el : leftOf 0 ds e with
        | none => dsimp only at h; rw [el] at h; exact h.elim
        | some r =>
          dsimp only at h
          rw [el] at h
          obtain ⟨gs, q⟩ := fin p sm el
          exact h Z' H' gs fp v q rd
      | exc c fs e =>
        rw [eb] at h
        intro Z' H' σ' fps' cls dx p sm xr
        cases el : leftOf 0 ds e with
        | none => dsimp only at h; rw [el] at h; exact h.elim
        | some r =>
          dsimp only at h
          rw [el] at h
          obtain ⟨gs, q⟩ := fin p sm el
          exact h Z' H' gs cls dx q xr
    · exact h.elim
end
end Ev
end

section
set_option Elab.async false
set_option linter.all false
/-! Ev18: lists in a list. -/
namespace Ev
open PySem L2
section
variable {K : PySem.W.Frag} {Z H Z1 H1 : Hp} {F fp f : List Addr} {env : Env} {σ : St} {fps : List (List Addr)} {xss : List (List P)} {bs : List Addr}
theorem RepLL.append {ys : List (List P)} {cs : List Addr} (r : RepLL K Z H xss bs) (s : RepLL K Z H ys cs) : RepLL K Z H (xss ++ ys) (bs ++ cs) := by
  induction r with
  | nil => exact s
  | cons h r _ ih => exact .cons h r ih
/-- the last one -/
theorem RepLL.last {xs : List P} (r : RepLL K Z H xss bs) (h : xss.getLast? = some xs) : ∃ b vs, bs = bs.dropLast ++ [b] ∧ H b = some (.lst vs) ∧ RepPs K Z xs vs ∧ RepLL K Z H xss.dropLast bs.dropLast := by
  induction r with
  | nil => cases h
  | @cons b vs xs' xss bs h1 h2 r ih =>
    cases r with
    | nil =>
      simp at h
      subst h
      exact ⟨b, vs, by simp, h1, h2, by simp; exact .nil⟩
    | @cons b' vs' xs'' xss' bs' h3 h4 r =>
      obtain ⟨c, ws, e1, e2, e3, e4⟩ := ih (by simpa using h)
      refine ⟨c, ws, ?_, e2, e3, ?_⟩
      · rw [List.dropLast_cons_of_ne_nil (by simp), List.cons_append, ← e1]
      · show RepLL K Z H (xs' :: (xs'' :: xss').dropLast) (b :: (b' :: bs').dropLast)
        exact .cons h1 h2 e4
theorem Post.takeLL {i : Nat} {l : Addr} (p : Post K Z H F Z1 H1 env σ fps fp) (hv : σ[i]? = some (some (.ref l))) (he : getE env i = some (.pll xss)) :
    ∃ bs, Post K Z H F Z1 H1 (env.set i none) σ (fps.set i []) ((l :: bs) ++ fp) ∧ H1 l = some (.lst (bs.map V.ref)) ∧ RepLL K Z1 H1 xss bs ∧ (l :: bs).Nodup ∧ i < env.length := by
  obtain ⟨v, f, h1, h2, h3⟩ := p.good.rep.at he
  rw [hv] at h1
  cases h1
  cases h3 with
  | @pll _ bs _ h4 h5 h6 =>
    refine ⟨bs, p.takeH h2, h4, h5, h6, ?_⟩
    have := p.good.rep.len
    have := (List.getElem?_eq_some_iff.mp hv).1
    omega
theorem Post.putLL {i : Nat} {l : Addr} (p : Post K Z H F Z1 H1 env σ fps ((l :: bs) ++ fp)) (hv : σ[i]? = some (some (.ref l))) (hi : i < env.length) (h1 : H1 l = some (.lst (bs.map V.ref))) (h2 : RepLL K Z1 H1 xss bs) : ∃ fps', Post K Z H F Z1 H1 (env.set i (some (.pll xss))) σ fps' fp := by
  have q := p.fill hi (.pll h1 h2 (List.nodup_append.mp p.nd).1)
  rw [set_get_self hv] at q
  exact ⟨_, q⟩
end
theorem atI_last {α : Type} (l : List α) (x : α) : L2.atI (l ++ [x]) (-1) = some x := by
  have : L2.ixN (l ++ [x]).length (-1) = some l.length := by
    unfold L2.ixN
    simp
    omega
  unfold L2.atI
  rw [this]
  simp
section
variable {X : L2.Cx} {j : J} {k F : Nat} {a b c t : T} {e ea eb ec : Expr} {pos p2 apos : Pos} {es : List Expr} {ts : List T} {prot : List Nat}
theorem ok_lln : EOk X j .lln (.List [] pos) := by
  refine imp (pe_lst pa_nil) fun σ H Q ⟨Z, env, fps, G, h⟩ => ?_
  unfold evT at h
  refine ⟨Nat.zero_le _, fun q hq => ?_⟩
  have m := Mk.of (t := .lln) G.start (by intro i; simp) h
  exact m Z _ _ [q] (stp_new G.zle hq) (fun a u h => by rw [upd_ne (ne_of_none (G.zle a u h) hq)]; exact G.zle a u h) (.pll (bs := []) upd_same .nil (by simp)) (fun a h => by simp at h; rw [h]; exact Evl.fresh_back G.zle hq)
theorem ok_popt {i : Nat} {x : Str} {px pt : Pos} (ht : BName X "tuple" (.type "tuple")) (hN : X.N[i]? = some x) (hv : Vis X.env.scope x) (hd : (x == ("__debug__" : Str)) = false) (hcd : (x == ("__classdict__" : Str)) = false) (hl : (apos.endLine == p2.line) = true) :
    EOk X j (.popt i) (.Call (.Name "tuple" pt) [.Call (.Attribute (.Name x px) "pop" apos) [] [] p2] [] pos) := by
  have hb := pe_var (pos := px) (i := i) hN hv hd hcd
  refine imp (pe_callTy call_tuple_of ht.1 ht.2.1 ht.2.2.1 (pa_cons (pe_bm0 PySem.F.plainAttrs_list PySem.F.slot_list_pop PySem.F.type_list_pop mt_pop hb (base_of rfl) hl) pa_nil (star_cons rfl)) ht.2.2.2.1 ht.2.2.2.2 (star_cons rfl) (star_any rfl)) fun σ H Q ⟨Z, env, fps, G, h⟩ => ?_
  unfold evT at h
  split at h
  · rename_i xss ex
    split at h
    · rename_i xs ey
      obtain ⟨v, f, h1, h2, h3⟩ := G.rep.at ex
      cases h3 with
      | @pll l bs _ _ _ _ =>
        obtain ⟨bs, p1, hl1, hr1, nd1, hi1⟩ := G.start.takeLL h1 ex
        obtain ⟨b, vs, eb, hb1, hx1, hd1⟩ := hr1.last ey
        have nl : ∀ c ∈ bs, c ≠ l := fun c hc e => (List.nodup_cons.mp nd1).1 (e ▸ hc)
        have bm : b ∈ bs := by rw [eb]; simp
        refine ⟨.ref l, h1, .inl ⟨rfl, _, SqL.of hl1⟩, l, bs.map V.ref, .ref b, rfl, rfl, hl1, ?_, ?_⟩
        · have : (bs.map V.ref) = bs.dropLast.map V.ref ++ [.ref b] := by
            conv => lhs; rw [eb]
            simp
          rw [this]
          simp
        · show ∃ p ys, _
          have hH : upd H l (.lst (bs.map V.ref).dropLast) b = some (.lst vs) := by rw [upd_ne (nl b bm)]; exact hb1
          refine ⟨b, vs, rfl, .inl ⟨SqL.of hH, ?_⟩⟩
          have p2 := (p1.touch (x := l) (by simp) (.lst (bs.map V.ref).dropLast)).sub (fp2 := (l :: bs.dropLast) ++ []) (fun x hx => by
            rw [List.append_nil] at hx ⊢
            rcases List.mem_cons.mp hx with rfl | hx
            · exact List.mem_cons_self ..
            · exact List.mem_cons_of_mem _ (List.dropLast_subset _ hx)) (by
            rw [List.append_nil]
            exact nd1.sublist (List.Sublist.cons_cons _ (List.dropLast_sublist _)))
          have kp : ∀ c ∈ bs.dropLast, upd H l (.lst (bs.map V.ref).dropLast) c = H c := fun c hc => upd_ne (nl c (List.dropLast_subset _ hc))
          obtain ⟨fps', p3⟩ := p2.putLL h1 (by simpa using hi1) (by rw [upd_same, List.map_dropLast]) (hd1.keep (Evl.Ex.refl _) kp)
          have m := Mk.of (t := .popt i) p3 (by intro i; simp) (by simpa using h)
          exact fun q hq => m.tup p3.good.zle hx1 hq
    · exact h.elim
  · exact h.elim
theorem so_appe {i : Nat} {x : Str} {px epos pl : Pos} (hN : X.N[i]? = some x) (hv : Vis X.env.scope x) (hd : (x == ("__debug__" : Str)) = false) (hcd : (x == ("__classdict__" : Str)) = false) (hl : (apos.endLine == pos.line) = true) :
    SOk X j F prot (.appe i) (.Expr (.Call (.Attribute (.Name x px) "append" apos) [.List [] pl] [] pos) epos) := by
  have hb := pe_var (pos := px) (i := i) hN hv hd hcd
  refine impS (ps_expr (pe_bm PySem.F.plainAttrs_list PySem.F.slot_list_append PySem.F.type_list_append mt_append hb (pa_cons (pe_lst pa_nil) pa_nil (star_cons rfl)) (base_of rfl) (few1 rfl) hl (star_cons rfl) rfl) (swaps_no rfl)) fun Y σ H ⟨Z, env, fps, G, h⟩ => ?_
  unfold evS at h
  split at h
  · rename_i xss ex
    split at h
    · rename_i hz
      obtain ⟨v, f, h1, h2, h3⟩ := G.rep.at ex
      cases h3 with
      | @pll l bs _ hl0 hr0 nd0 =>
        refine ⟨.ref l, h1, .inl ⟨rfl, _, SqL.of hl0⟩, Nat.zero_le _, fun q hq => ?_⟩
        have p0 : Post j.K Z H fps.flatten Z (upd H q (.lst [])) env σ fps [q] := Post.mk1 (d := .pl []) (v := .ref q) G.start (stp_new G.zle hq) (fun a u h => by rw [upd_ne (ne_of_none (G.zle a u h) hq)]; exact G.zle a u h) (.pl upd_same .nil) (fun a h => by simp at h; rw [h]; exact Evl.fresh_back G.zle hq)
        obtain ⟨bs, p1, hl1, hr1, nd1, hi1⟩ := p0.takeLL h1 ex
        have nq : q ∉ l :: bs := fun hm => (List.nodup_append.mp p1.nd).2.2 q hm q (by simp) rfl
        have nql : q ≠ l := fun e => nq (by rw [e]; simp)
        have nl : ∀ c ∈ bs, c ≠ l := fun c hc e => (List.nodup_cons.mp nd1).1 (e ▸ hc)
        refine ⟨l, bs.map V.ref, .ref q, rfl, rfl, hl1, Nat.lt_of_lt_of_le (by rw [List.length_map, ← hr1.length]; exact hz) lim_le, ?_⟩
        have p2 := (p1.touch (x := l) (by simp) (.lst (bs.map V.ref ++ [.ref q]))).sub (fp2 := (l :: (bs ++ [q])) ++ []) (fun x hx => by simpa using hx) (by simpa using p1.nd)
        have kp : ∀ c ∈ bs, upd (upd H q (.lst [])) l (.lst (bs.map V.ref ++ [.ref q])) c = upd H q (.lst []) c := fun c hc => upd_ne (nl c hc)
        obtain ⟨fps', p3⟩ := p2.putLL (xss := xss ++ [[]]) h1 (by simpa using hi1) (by rw [upd_same]; simp) ((hr1.keep (Evl.Ex.refl _) kp).append (.cons (by rw [upd_ne nql, upd_same]) .nil .nil))
        exact h Z _ σ fps' (by simpa using p3) SameAt.refl
    · exact h.elim
  · exact h.elim
theorem so_appl {i : Nat} {x : Str} {px ps epos : Pos} {ix : Expr} (n : NP t) (hN : X.N[i]? = some x) (hv : Vis X.env.scope x) (hd : (x == ("__debug__" : Str)) = false) (hcd : (x == ("__classdict__" : Str)) = false) (hix : PE X ix (tC (.int (-1)))) (hpl : notSlice ix = true) (ha : EOk X j t e) (hn : notStar e = true) (hl : (apos.endLine == pos.line) = true) :
    SOk X j F prot (.appl i t) (.Expr (.Call (.Attribute (.Subscript (.Name x px) ix ps) "append" apos) [e] [] pos) epos) := by
  have hb := pe_ix ix_list (pe_var (pos := px) (i := i) hN hv hd hcd) hix (plainIx hpl) (pos := ps)
  refine impS (ps_expr (pe_bm PySem.F.plainAttrs_list PySem.F.slot_list_append PySem.F.type_list_append mt_append hb (pa_cons ha pa_nil (star_cons hn)) (base_of rfl) (few1 hn) hl (star_cons hn) rfl) (swaps_no rfl)) fun Y σ H ⟨Z, env, fps, G, h⟩ => ?_
  unfold evS at h
  split at h
  · rename_i xss ex
    split at h
    · rename_i xs ey
      obtain ⟨v, f, h1, h2, h3⟩ := G.rep.at ex
      cases h3 with
      | @pll l bs _ _ _ _ =>
        obtain ⟨bs, p1, hl1, hr1, nd1, hi1⟩ := G.start.takeLL h1 ex
        obtain ⟨b, vs, eb, hb1, hx1, hd1⟩ := hr1.last ey
        have em : bs.map V.ref = bs.dropLast.map V.ref ++ [.ref b] := by
          conv => lhs; rw [eb]
          simp
        have bm : b ∈ bs := by rw [eb]; simp
        have nbd : b ∉ bs.dropLast := fun hm => by
          have := (List.nodup_cons.mp nd1).2
          rw [eb] at this
          exact (List.nodup_append.mp this).2.2 b hm b (by simp) rfl
        have nlb : l ≠ b := fun e => (List.nodup_cons.mp nd1).1 (e ▸ bm)
        refine ⟨.ref l, h1, l, bs.map V.ref, -1, .ref b, rfl, rfl, SqL.of hl1, ?_, .inl ⟨rfl, vs, SqL.of hb1⟩, Z, _, _, p1.good, ?_⟩
        · rw [em]
          exact atI_last _ _
        · refine nextS p1 SameAt.refl h fun d e2 Z2 H2 fps2 fp2 w q q' r h => ?_
          split at h
          · rename_i y ef
            split at h
            · rename_i hz
              have kp : ∀ c ∈ l :: bs, H2 c = H c := fun c hc => by
                obtain ⟨o, ho⟩ := p1.al c (by simpa using hc)
                rw [ho]
                exact q.stp.fr c o ho (p1.dj c (by simpa using hc))
              have q2 : Post j.K Z H fps.flatten Z2 H2 e2 σ fps2 (fp2 ++ (l :: bs)) := q'.sub (fun x hx => by
                simp only [List.append_nil]
                rcases List.mem_append.mp hx with hx | hx
                · exact List.mem_append_right _ hx
                · exact List.mem_append_left _ hx) (by
                have := List.perm_append_comm.nodup q'.nd
                simpa using this)
              obtain ⟨Z3, ex3, q3, ry⟩ := Post.share q2 (r.rep n) ef
              refine ⟨b, vs, w, rfl, rfl, (kp b (by simp [bm])).trans hb1, Nat.lt_of_lt_of_le (by rw [← hx1.length]; exact hz) lim_le, ?_⟩
              have q4 : Post j.K Z H fps.flatten Z3 (upd H2 b (.lst (vs ++ [w]))) e2 σ fps2 ((l :: bs) ++ []) := by simpa using q3.touch (x := b) (by simp [bm]) (.lst (vs ++ [w]))
              have exz : Ex Z Z3 := q'.stp.zz.trans ex3
              obtain ⟨fps', q5⟩ := q4.putLL (xss := xss.dropLast ++ [xs ++ [y]]) h1 (by
                have h5 := q4.good.rep.len
                have h6 := (List.getElem?_eq_some_iff.mp h1).1
                omega) (by rw [upd_ne nlb, kp l (by simp), hl1]) (by
                rw [eb]
                refine RepLL.append (H := upd H2 b (.lst (vs ++ [w]))) (hd1.keep (H' := upd H2 b (.lst (vs ++ [w]))) exz fun c hc => ?_) (.cons upd_same ((hx1.mono exz).append (.cons ry .nil)) .nil)
                have ncb : c ≠ b := fun z => nbd (by rw [← z]; exact hc)
                rw [upd_ne ncb]
                exact kp c (List.mem_cons_of_mem _ (List.dropLast_subset _ hc)))
              exact h Z3 (upd H2 b (.lst (vs ++ [w]))) σ fps' q5 SameAt.refl
            · exact h.elim
          · exact h.elim
    · exact h.elim
  · exact h.elim
/-- a negative constant -/
theorem pe_neg1 {p1 p2 : Pos} {kk : Nat} {n : Int} (h : PE X e (tC (.int n))) : PE X (.UnaryOp .USub e p1) (tC (.int (-n))) :=
  ⟨fun pins s σ H Q I q => (pe_un un_neg h).run pins s σ H Q I ⟨n, rfl, q⟩⟩
end
end Ev
end

section
set_option Elab.async false
set_option linter.all false
/-! EvR: enumerate(reversed(a tuple)). -/
namespace Ev
open PySem L2
section
variable {prog : Program} {w : World} {A : Around} {E : Value → Shared → Prop} {s : Shared} {it t : Addr}
/-- an item is drawn from the back -/
theorem rt_draw {i : Nat} {items : Array Value} {x : Value} {Q : Value → Shared → Prop} (hit : RT.IsRt s.heap it t (i : Int)) (ht : PyProof.Rows.IsTup s.heap t items) (hx : items[i]? = some x) (hz : items.size ≤ sizeLine)
    (hQ : ∀ h', RT.IsRt h' it t ((i : Int) - 1) → Heap.SameBut it s.heap h' → Q x { s with heap := h', toks := s.toks + 1 }) : wpAny (model prog w) A (Builtin.SmallTypes.nextOf (.ref it)) Q E s := by
  have hlt := (Array.getElem?_eq_some_iff.mp hx).1
  have ty : s.TypeIs (.ref t) "tuple" := RT.IsTup.typeOf' ht
  have hz' : items.size ≤ 268435456 ∨ True := .inr trivial
  obtain ⟨o, ho, hc, hd⟩ := id hit
  rw [sizeLine_eq] at hz
  have code : wpAny (model prog w) A.in1 (Builtin.«reversed.__next__» ⟨[.ref it], []⟩) (fun f s' => f = .done (.ret x) ∧ Q x s') (fun e s' => False) s := by
    unfold Builtin.«reversed.__next__»
    refine wpAny_bind (wpAny_of_eq (a := (Value.ref it, [])) rfl (wpAny_bind (wpAny_field ho hd (x := .ref t) rfl (wpAny_bind (wpAny_field ho hd (x := rawInt (i : Int)) rfl ?_)))))
    have nneg : ¬ ((i : Int) < 0) := by omega
    show wpAny _ _ (if (i : Int) < 0 then _ else _) _ _ s
    rw [if_neg nneg]
    refine wpAny_bind (wpAny_specialOf ty RT.get_tuple ?_)
    rw [if_neg (by decide)]
    refine wpAny_bind (wpAny_mkInt (wpAny_bind (wpAny_attempt ?_)))
    refine PyProof.Rows.getItem_tuple (s := { s with toks := s.toks + 1 }) ht (by omega) (by omega) (seqIndex_of (by omega) (by omega) : seqIndex? (i : Int) items.size = some i) hx ?_
    refine wpAny_bind (wpAny_field (s := { s with toks := s.toks + 1 }) ho hd (x := rawInt (i : Int)) rfl ?_)
    refine wpAny_bind (wpAny_setField (s := { s with toks := s.toks + 1 }) ho hd (by simp) ?_)
    have q := hQ (s.heap.update it (Obj.mapFields (·.setIfInBounds 1 (rawInt ((i : Int) - 1))))) ⟨_, Heap.get?_update_self _ ho (Obj.isFreed_of_fields (Obj.data_mapFields hd _)), (Obj.cls_mapFields ..).trans hc, by rw [Obj.data_mapFields hd]; simp⟩ (Heap.SameBut.update ..)
    first
    | exact wpAny_pure ⟨rfl, q⟩
    | exact wpAny_bind (wpAny_pure (wpAny_pure ⟨rfl, q⟩))
  unfold Builtin.SmallTypes.nextOf
  refine wpAny_bind (wpAny_callSpecial?_slot (name := Str.ofString "__next__") hit.typeIs RT.slot_rt_next (wpAny_call_entry RT.slot_rt_next hit.typeIs RT.entry_rt_next ?_ (RT.args_rt_next _)))
  exact wpAny_mono code (fun f s' ⟨e, q⟩ => ⟨x, e, wpAny_pure q⟩) fun _ _ z => z.elim
/-- no item is left -/
theorem rt_stop {Q : Value → Shared → Prop} (hh : A.handled = none) (hit : RT.IsRt s.heap it t (-1)) (hE : ∀ h' e, Heap.ExtBut it s.heap h' → (∃ o, h'.get? e = some o ∧ o.cls = .type "StopIteration") → E (.ref e) { s with heap := h' }) :
    wpAny (model prog w) A (Builtin.SmallTypes.nextOf (.ref it)) Q E s := by
  obtain ⟨o, ho, hc, hd⟩ := id hit
  unfold Builtin.SmallTypes.nextOf
  refine wpAny_bind (wpAny_callSpecial?_slot (name := Str.ofString "__next__") hit.typeIs RT.slot_rt_next (wpAny_call_entry RT.slot_rt_next hit.typeIs RT.entry_rt_next ?_ (RT.args_rt_next _)))
  unfold Builtin.«reversed.__next__»
  refine wpAny_bind (wpAny_of_eq (a := (Value.ref it, [])) rfl (wpAny_bind (wpAny_field ho hd (x := .ref t) rfl (wpAny_bind (wpAny_field ho hd (x := rawInt (-1)) rfl ?_)))))
  have neg : (-1 : Int) < 0 := by decide
  show wpAny _ _ (if (-1 : Int) < 0 then _ else _) _ _ s
  rw [if_pos neg]
  refine wpAny_bind (wpAny_rule (wpAny_bind ?_))
  wp_delta
  have h1 := Heap.get?_update_self (Obj.mapFields (·.setIfInBounds 1 (rawInt (-1)))) ho (Obj.isFreed_of_fields (Obj.data_mapFields hd _))
  refine wpAny_bind (wpAny_setField ho hd (by simp) (wpAny_setField (s := { s with heap := s.heap.update it (Obj.mapFields (·.setIfInBounds 1 (rawInt (-1)))) }) h1 (Obj.data_mapFields hd _) (by simp) ?_))
  have base : ∀ f g, Heap.ExtBut it s.heap ((s.heap.update it f).update it g) := fun f g c oc hb e => (Heap.get?_update_other _ _ (Ne.symm hb)).trans ((Heap.get?_update_other _ _ (Ne.symm hb)).trans e)
  first
  | show wpAny _ _ (newExc (.type "StopIteration") [] >>= _) _ _ _
  | (refine wpAny_bind ?_; show wpAny _ _ (newExc (.type "StopIteration") [] >>= _) _ _ _)
  | (refine wpAny_bind ?_; wp_delta; show wpAny _ _ (newExc (.type "StopIteration") [] >>= _) _ _ _)
  refine wpAny_bind ?_
  simp only [newExc, newTuple]
  refine wpAny_bind (wpAny_newObj_type (wpAny_bind (m := firstArgMember _ _) (wpAny_of_eq (a := Value.none) (by first | rfl | (simp only [firstArgMember]; rfl)) (wpAny_newObj_type ?_ (by size_fits)))) (by size_fits))
  simp only [raiseNew]
  refine wpAny_bind (wpAny_handled ?_)
  first | rw [show A.in1.handled = none from hh] | rw [hh]
  exact wpAny_bind (wpAny_pure (wpAny_throw (hE _ _ (((base _ _).push _).push _) ⟨_, Heap.get?_push_size _ rfl, rfl⟩)))
end
theorem Draws.rt {prog : Program} {w : World} {A : Around} (hh : A.handled = none) (it t : Addr) (hne : t ≠ it) (items : Array Value) (hz : items.size ≤ sizeLine) :
    Draws prog w A it [it, t] items.size (fun i v => items[items.size - 1 - i]? = some v) (fun i h => i ≤ items.size ∧ RT.IsRt h it t ((items.size : Int) - 1 - (i : Nat)) ∧ PyProof.Rows.IsTup h t items) where
  live := fun _ _ st => let ⟨_, ⟨o, ho, _⟩, _⟩ := st; ⟨o, ho⟩
  frame := fun _ _ _ st hk => ⟨st.1, st.2.1.at fun o e => hk it (by simp) o e, let ⟨o, ho, r⟩ := st.2.2; ⟨o, hk t (by simp) o ho, r⟩⟩
  item := fun i s Q E hi st hQ => by
    obtain ⟨_, h1, h2⟩ := st
    have e1 : (items.size : Int) - 1 - ((i : Nat) : Int) = ((items.size - 1 - i : Nat) : Int) := by omega
    rw [e1] at h1
    have hl : items.size - 1 - i < items.size := by omega
    refine rt_draw h1 h2 (x := items[items.size - 1 - i]) (by simp [hl]) hz fun h' st' sb => ?_
    refine hQ _ h' (s.toks + 1) (by simp [hl]) ⟨by omega, ?_, ?_⟩ sb
    · have e2 : (items.size : Int) - 1 - ((i + 1 : Nat) : Int) = ((items.size - 1 - i : Nat) : Int) - 1 := by omega
      rw [e2]; exact st'
    · obtain ⟨o, ho, r⟩ := h2
      exact ⟨o, sb.extBut t o hne ho, r⟩
  done := fun s Q E st hE => by
    obtain ⟨_, h1, _⟩ := st
    have e1 : (items.size : Int) - 1 - ((items.size : Nat) : Int) = -1 := by omega
    rw [e1] at h1
    exact rt_stop hh h1 hE
/-! ### the making -/
theorem meets_enum_rt (it t : Addr) (i : Int) :
    Meets (Builtin.«enumerate.__new__» ⟨[.type "enumerate", .ref it], []⟩) (fun _ R s => RT.IsRt s.heap it t i ∧
      R (.ok (.ret (.ref s.heap.objs.size))) { s with heap := s.heap.push { cls := .type "enumerate", data := .fields #[.none, .bool false, .ref it, rawInt 0, .none, .none] } }) :=
  .of_wp fun prog w A R s ⟨h1, h⟩ => by
    have hsub := sub_enumerate
    have q1 : ∀ {A' : Around} {E : Value → Shared → Prop} {Q : Value → Shared → Prop}, Q (.ref it) s → wpAny (model prog w) A' (pyIter (.ref it)) Q E s := fun q => RT.iter_rt h1 q
    obtain ⟨hp, g, d, tk, os⟩ := s
    wp_walk using q1
    refine wpAny_stack_any fun st => wpAny_pure ?_
    split
    · rename_i c _ _ _ _ _
      cases (c == Value.type "enumerate")
      · wp_walk using q1
        exact ⟨_, rfl, h⟩
      · wp_walk using q1
        exact ⟨_, rfl, h⟩
    · wp_walk using q1
      exact ⟨_, rfl, h⟩
theorem call_enum_rt {prog : Program} {w : World} {A : Around} {E : Value → Shared → Prop} {s : Shared} {it t : Addr} {i : Int} {Q : Value → Shared → Prop} (h1 : RT.IsRt s.heap it t i)
    (h : Q (.ref s.heap.objs.size) { s with heap := s.heap.push { cls := .type "enumerate", data := .fields #[.none, .bool false, .ref it, rawInt 0, .none, .none] } }) : wpAny (model prog w) A (call (.type "enumerate") [.ref it]) Q E s :=
  callType_new F.called_enumerate (by decide) (F.typeCall_enumerate_1 _) (F.newCall_enumerate_1 _) (fun obj => F.args_object_init_2 obj _) F.entry_enumerate_new (meets_enum_rt it t i) ⟨h1, ⟨_, Heap.get?_push_size _ rfl, rfl⟩, h⟩
end Ev
end

section
set_option Elab.async false
set_option linter.all false
/-! Ev19: for .. in enumerate(reversed(a tuple)), reversed(a tuple). -/
namespace Ev
open PySem L2
open PyProof.Rows (IsTup callWith_type1 args_cons args_nil len_tuple Call_)
/-- the tuple at a from the back, each item in a new pair -/
def IteR (K : PySem.W.Frag) (a : Addr) (n : Nat) : It :=
  ⟨fun i H => i < n ∧ ∃ (xs : List V) (x : V), SqT K H a xs ∧ xs.length = n ∧ xs[n - 1 - i]? = some x, fun i H v H' => ∃ T x, v = .ref T ∧ H T = none ∧ H' = upd H T (.tup [.int (i : Nat), x]) ∧ ∀ xs, SqT K H a xs → xs[n - 1 - i]? = some x, fun i H => n ≤ i ∧ ∃ xs : List V, SqT K H a xs ∧ xs.length = n⟩
theorem tup_ne {h : Heap} {a b : Addr} {its : Array Value} {o : Obj} {n : String} (ht : IsTup h a its) (hb : h.get? b = some o) (hc : o.cls = .type n) (hn : n ≠ "tuple") : b ≠ a := fun e => by
  obtain ⟨o', h1, h2, _⟩ := ht
  rw [← e, hb] at h1
  cases h1
  rw [hc] at h2
  cases h2
  exact hn rfl
theorem turn_enumR {P : Program} {w : World} {K : PySem.W.Frag} {elts : List Expr} {kk : Nat} {tpos : Pos} (a e it : Addr) (n : Nat) :
    Turn P w K (.Tuple elts kk tpos) (IteR K a n) [e, it] e (fun i h => (∃ old, IsEnum h e it ((i : Nat) : Int) old) ∧ i ≤ n ∧ RT.IsRt h it a ((n : Int) - 1 - (i : Nat)) ∧ e ≠ it) where
  mem := by simp
  obj := fun i h ⟨⟨old, he⟩, _, ⟨o, ho, _, hd⟩, _⟩ b hb => by
    simp only [List.mem_cons, List.not_mem_nil, or_false] at hb
    rcases hb with rfl | rfl
    · exact ⟨_, he, fun v q => nomatch q⟩
    · exact ⟨o, ho, fun v q => by rw [hd] at q; cases q⟩
  keep := fun i h h' ⟨⟨old, he⟩, hi, hr, hne⟩ k => ⟨⟨old, k e (by simp) _ he⟩, hi, hr.at fun o q => k it (by simp) o q, hne⟩
  item := by
    intro X hP hw hK hc i pins s σ H E I hf st hg
    subst hP hw hK
    obtain ⟨⟨old, he⟩, hi, hr, hne⟩ := st
    obtain ⟨hlt, xs, x, hq, hlen, hx⟩ := hg
    obtain ⟨its, rv, p, hz⟩ := I.tuple hq
    have hsz : its.toArray.size = n := by rw [List.size_toArray, ← rv.length]; exact hlen
    have nit : it ≠ a := by
      obtain ⟨o, ho, hcl, _⟩ := hr
      exact tup_ne p ho hcl (by decide)
    have nea : e ≠ a := tup_ne p he rfl (by decide)
    have hel := Heap.lt_size he
    have hil : it < s.heap.objs.size := by obtain ⟨o, q, _⟩ := hr; exact Heap.lt_size q
    have D := Draws.rt (prog := X.prog) (w := X.w) (A := X.A.in1) (I.ok.hd hc) it a (Ne.symm nit) its.toArray (by rw [hsz, ← hlen]; exact hz)
    refine wpAny_pyNext_enum_itemD D he ⟨by rw [hsz]; exact hi, by rw [hsz]; exact hr, p⟩ (by rw [hsz]; exact hlt) hne (by simp [hne, nea]) fun u h1 tk hP ho hst hT hs1 hk => ⟨_, rfl, ?_⟩
    refine wpAny_letOwnedTupleGo_enum (s := { s with heap := h1, toks := tk + 1 }) ho fun h2 he2 sb => ?_
    obtain ⟨u', hu, ru⟩ := rv.get hx
    have eu : u = u' := by
      rw [hsz] at hP
      have hP' : its[n - 1 - i]? = some u := by simpa using hP
      rw [hu] at hP'
      exact (Option.some.inj hP').symm
    subst eu
    have nT : s.heap.objs.size ≠ e := Nat.ne_of_gt hel
    have obT : ObjOk X.prog X.w (upd H s.heap.objs.size (.tup [.int (i : Nat), x])) h2 s.heap.objs.size (.tup [.int (i : Nat), x]) :=
      ⟨by show 2 ≤ sizeLine; decide, [.int i tk, u], .cons ⟨_, rfl⟩ (.cons ru .nil), ⟨_, (sb.2 _ nT).trans hT, rfl, _, rfl⟩⟩
    have kp : ∀ b ob, b ∉ [e, it] → s.heap.get? b = some ob → h2.get? b = some ob := fun b ob hb q => by
      simp only [List.mem_cons, List.not_mem_nil, or_false, not_or] at hb
      exact (sb.2 b hb.1).trans (hk b ob hb.1 hb.2 q)
    have I2 : Inv X pins σ (upd H s.heap.objs.size (.tup [.int (i : Nat), x])) { s with heap := h2, toks := tk + 1 } := I.turnedNew (ch := [e, it]) kp hf (Nat.le_refl _) obT
    obtain ⟨hst1, hst2, hst3⟩ := hst
    rw [hsz] at hst1 hst2
    refine ⟨.ref s.heap.objs.size, _, I2, rfl, ⟨_, x, rfl, I.hok.fresh (Nat.le_refl _), rfl, fun ys hy => by rw [I.tuple_inj hy hq]; exact hx⟩, ⟨⟨u, ?_⟩, hst1, hst2.at fun o q => (sb.2 it (Ne.symm hne)).trans q, hne⟩, fun b hb => ?_⟩
    · have e1 : ((i + 1 : Nat) : Int) = (i : Int) + 1 := by omega
      rw [e1]; exact he2
    · have hb' : b < s.heap.objs.size := by
        have hb2 := hb
        simp only [List.mem_cons, List.not_mem_nil, or_false] at hb2
        rcases hb2 with rfl | rfl
        · exact hel
        · exact hil
      rw [upd_ne (Nat.ne_of_lt hb')]
      exact (hf b hb).1
  done := by
    intro X hP hw hK hc i pins s σ H E I hf st hg
    subst hP hw hK
    obtain ⟨⟨old, he⟩, hi, hr, hne⟩ := st
    obtain ⟨hge, xs, hq, hlen⟩ := hg
    obtain ⟨its, rv, p, hz⟩ := I.tuple hq
    have hsz : its.toArray.size = n := by rw [List.size_toArray, ← rv.length]; exact hlen
    have ei : i = n := Nat.le_antisymm hi hge
    have nit : it ≠ a := by
      obtain ⟨o, ho, hcl, _⟩ := hr
      exact tup_ne p ho hcl (by decide)
    obtain ⟨f0, f1, f2, f3, f4, f5⟩ := hf it (by simp)
    have D := Draws.rt (prog := X.prog) (w := X.w) (A := X.A.in1) (I.ok.hd hc) it a (Ne.symm nit) its.toArray (by rw [hsz, ← hlen]; exact hz)
    refine wpAny_pyNext_enum_endD D he ⟨Nat.le_refl _, by rw [ei] at hr; rw [hsz]; exact hr, p⟩ fun h' eb => ⟨rfl, ?_⟩
    exact I.turned (t' := s.toks) (fun b o hb q => eb b o hb q) f0 f1 f3 f4 f5
  self := fun A i s Q E ⟨⟨_, he⟩, _⟩ h => wpAny_pyIter_enum he h
section
variable {X : L2.Cx} {j : J} {k F : Nat} {a b c t it : T} {e ea eb ec tg : Expr} {pos p2 apos : Pos} {es : List Expr} {ts : List T} {prot : List Nat}
def iEnumRev (K : PySem.W.Frag) (te : TE) : TI := fun σ H R => te σ H fun v H1 => ∃ (a : Addr) (xs : List V), v = .ref a ∧ SqT K H1 a xs ∧ R (IteR K a xs.length) H1
theorem pi_enumRev {elts : List Expr} {kk : Nat} {tpos pf pr pc : Pos} {te : TE} (hg : Gl X "enumerate") (hm : X.mg "enumerate" = none) (hg2 : Gl X "reversed") (hm2 : X.mg "reversed" = none) (he : PE X e te) (hn : notStar e = true) :
    PI X (.Tuple elts kk tpos) (.Call (.Name "enumerate" pf) [.Call (.Name "reversed" pr) [e] [] pc] [] pos) (iEnumRev X.K te) := by
  refine ⟨fun pins s σ H R I h => ?_⟩
  refine Call_ (ld_blt I hg hm PyProof.Rows.boot_enumerate (callWith_type1 (args_cons (Call_ (ld_blt I hg2 hm2 PyProof.Rows.boot_reversed (callWith_type1 (args_cons (thn (he.run pins s σ H _ I h) fun u s1 q => args_nil ?_) (star_cons hn)) (star_cons hn) rfl))) rfl) rfl rfl))
  obtain ⟨v, H1, I1, r1, a, xs, ev, hq, q⟩ := q
  subst ev
  obtain rfl : u = Value.ref a := r1
  obtain ⟨its, rv, p', hz⟩ := I1.tuple hq
  have hl := rv.length
  have hn := line63
  refine RT.call_reversed_tup p' (fun A E Q k => len_tuple p' (by simp only [List.size_toArray] <;> omega) k) (args_nil ?_)
  have hr : RT.IsRt (s1.heap.push (RT.rtObj a ((its.toArray.size : Int) - 1))) s1.heap.objs.size a ((its.toArray.size : Int) - 1) := ⟨_, Heap.get?_push_size _ rfl, rfl, rfl⟩
  refine call_enum_rt (s := { s1 with heap := s1.heap.push (RT.rtObj a ((its.toArray.size : Int) - 1)), toks := s1.toks + 1 + 1 }) hr ?_
  have sz : (s1.heap.push (RT.rtObj a ((its.toArray.size : Int) - 1))).objs.size = s1.heap.objs.size + 1 := Heap.size_push ..
  show wpAny _ _ (pyIter (.ref (s1.heap.push (RT.rtObj a ((its.toArray.size : Int) - 1))).objs.size)) _ _ _
  rw [sz]
  have hE : IsEnum ((s1.heap.push (RT.rtObj a ((its.toArray.size : Int) - 1))).push { cls := .type "enumerate", data := .fields #[.none, .bool false, .ref s1.heap.objs.size, rawInt 0, .none, .none] }) (s1.heap.objs.size + 1) s1.heap.objs.size 0 .none := by
    have := Heap.get?_push_size (s1.heap.push (RT.rtObj a ((its.toArray.size : Int) - 1))) (o := { cls := .type "enumerate", data := .fields #[.none, .bool false, .ref s1.heap.objs.size, rawInt 0, .none, .none] }) rfl
    rw [sz] at this
    exact this
  refine wpAny_pyIter_enum hE ?_
  have I2 : Inv X pins σ H1 { s1 with heap := (s1.heap.push (RT.rtObj a ((its.toArray.size : Int) - 1))).push { cls := .type "enumerate", data := .fields #[.none, .bool false, .ref s1.heap.objs.size, rawInt 0, .none, .none] }, toks := s1.toks + 1 + 1 } :=
    I1.kept fun b o e => Heap.get?_push_of_some _ (Heap.get?_push_of_some _ e)
  refine ⟨s1.heap.objs.size + 1, [s1.heap.objs.size + 1, s1.heap.objs.size], _, _, H1, rfl, I2, turn_enumR a (s1.heap.objs.size + 1) s1.heap.objs.size xs.length, ⟨⟨.none, hE⟩, Nat.zero_le _, ?_, Nat.succ_ne_self _⟩, fun b hb => ?_, q⟩
  · have e1 : ((its.toArray.size : Nat) : Int) - 1 = (xs.length : Int) - 1 - ((0 : Nat) : Int) := by simp only [List.size_toArray]; omega
    rw [← e1]
    exact hr.at fun o q => Heap.get?_push_of_some _ q
  · have hle : s1.heap.objs.size ≤ b := by
      simp only [List.mem_cons, List.not_mem_nil, or_false] at hb
      rcases hb with rfl | rfl
      · exact Nat.le_succ _
      · exact Nat.le_refl _
    exact I1.fpOk hle (I1.hok.fresh hle)

/-! ### in the evaluator -/
theorem enumP_get : ∀ {xs : List P} {n i : Nat}, (enumP n xs)[i]? = (xs[i]?).map fun x => .tup [.int ((n + i : Nat) : Int), x]
  | [], n, i => by simp [enumP]
  | x :: xs, n, 0 => by simp [enumP]
  | x :: xs, n, i + 1 => by
    simp only [enumP, List.getElem?_cons_succ]
    rw [enumP_get (xs := xs) (n := n + 1) (i := i)]
    have : n + 1 + i = n + (i + 1) := by omega
    rw [this]
theorem enumP_length : ∀ {xs : List P} {n : Nat}, (enumP n xs).length = xs.length
  | [], _ => rfl
  | x :: xs, n => by simp [enumP, enumP_length]
theorem walk_enumR {K : PySem.W.Frag} {Z H : Hp} {f : List Addr} {xs : List P} {vs : List V} {a : Addr} (r : RepPs K Z xs vs) (h : SqT K Z a vs) : Walk K Z H f (IteR K a vs.length) (enumP 0 xs.reverse) := by
  intro Z' H' ex ex' hf
  have q := Evl.ex_t (ex.trans ex') h
  refine ⟨fun i x hx => ?_, by rw [enumP_length, List.length_reverse, r.length]; exact Nat.le_refl _, vs, q, rfl⟩
  rw [enumP_get] at hx
  cases e : xs.reverse[i]? with
  | none => rw [e] at hx; cases hx
  | some y =>
    rw [e] at hx
    cases hx
    have hi : i < xs.length := by
      have := (List.getElem?_eq_some_iff.mp e).1
      rwa [List.length_reverse] at this
    rw [List.getElem?_reverse hi] at e
    obtain ⟨v, h1, h2⟩ := r.get e
    have hl := r.length
    rw [hl] at h1
    refine ⟨⟨by omega, vs, v, q, rfl, h1⟩, fun w H'' yl => ?_⟩
    obtain ⟨T, x', rfl, hT, rfl, hxs⟩ := yl
    have := hxs vs q
    rw [h1] at this
    cases this
    have zT := Evl.fresh_back ex' hT
    refine ⟨upd Z' T (.tup [.int (i : Nat), v]), stp_newZ ex' hT, ex_upd2 ex', .tup (SqT.of upd_same) (.cons ?_ (.cons ((h2.mono ex).mono (Evl.Ex.new zT)) .nil))⟩
    rw [Nat.zero_add]
    exact .int _
theorem evI_enumRev {Γ : Calls} (e : Env) : evI Γ (.enum (.rev a)) e = (OutI.ofOut revOf a (evT Γ a e)).enum := rfl
theorem io_enumRev {elts : List Expr} {kk : Nat} {tpos pf pr pc : Pos} (hK : X.K = j.K) (hg : Gl X "enumerate") (hm : X.mg "enumerate" = none) (hg2 : Gl X "reversed") (hm2 : X.mg "reversed" = none) (ha : EOk X j a e) (hn : notStar e = true) :
    IOk X j (.Tuple elts kk tpos) (.enum (.rev a)) (.Call (.Name "enumerate" pf) [.Call (.Name "reversed" pr) [e] [] pc] [] pos) := by
  refine impI (pi_enumRev hg hm hg2 hm2 ha hn) fun σ H R ⟨Z, env, fps, G, q⟩ => ⟨Z, env, fps, G, ?_⟩
  rw [evI_enumRev] at q
  cases ev : evT j.Γ a env with
  | bad => rw [ev] at q; exact q.elim
  | exc c fs e' => rw [ev] at q; exact q
  | ok d e1 =>
    rw [ev] at q
    unfold OutI.ofOut at q
    dsimp only at q
    intro Z1 H1 fps1 f v p r
    cases ef : fin a d e1 with
    | none => rw [ef] at q; exact q.elim
    | some d' =>
      rw [ef] at q
      obtain ⟨f', g⟩ := RO.get0 r p ef
      cases g with
      | p g =>
        cases g <;> try exact q.elim
        rename_i ad vs xs h1 h2
        dsimp only at q
        rw [hK]
        exact ⟨ad, vs, rfl, Evl.ex_t p.good.zle h1, q Z1 H1 fps1 [] _ p.drop rfl (walk_enumR h2 h1)⟩
      | pl _ _ => exact q.elim
      | st _ _ _ _ => exact q.elim
      | pll _ _ _ => exact q.elim
      | tab _ _ _ => exact q.elim
end
end Ev
end

section
set_option Elab.async false
set_option linter.all false
/-! Ev20: repr. -/
namespace Ev
open PySem L2
mutual
theorem dp_nodict {K : PySem.W.Frag} {H : Hp} : ∀ {v : V} {d : PyData}, Dp K H v d → d.hasDict = false
  | _, _, .non => by simp [PyData.hasDict]
  | _, _, .bl b => by simp [PyData.hasDict]
  | _, _, .int b => by simp [PyData.hasDict]
  | _, _, .str b => by simp [PyData.hasDict]
  | _, _, .lst _ r => by simp [PyData.hasDict, dps_nodict r]
  | _, _, .tup _ r => by simp [PyData.hasDict, dps_nodict r]
theorem dps_nodict {K : PySem.W.Frag} {H : Hp} : ∀ {vs : List V} {ds : List PyData}, DpAll K H vs ds → PyData.hasDictAll ds = false
  | _, _, .nil => by simp [PyData.hasDictAll]
  | _, _, .cons h r => by simp [PyData.hasDictAll, dp_nodict h, dps_nodict r]
end
section
variable {X : L2.Cx} {k : Nat}
theorem reprR (hr : Room k X.A) (hgd : X.A.guards = some []) : CallR X (.builtin "repr") (rOp X.K reprop) := by
  intro pins s σ H vs us Q I rv ⟨Z, ds, r, ex, hl, e, m⟩
  unfold reprop at e
  split at e
  · obtain ⟨v, f, rfl, h⟩ := hl.one
    unfold reprP at e
    split at e
    · rename_i a ea
      split at e
      · rename_i hc
        cases e
        simp only [Bool.and_eq_true, decide_eq_true_eq] at hc
        obtain ⟨⟨hs, hlen⟩, hdep⟩ := hc
        obtain ⟨u, rfl, ru⟩ := rv.one
        have q := m.p ex (.str _)
        have dp := h.dp ex ea
        have hsz : a.shown.length ≤ sizeLine := Nat.le_trans hlen lim_le
        have sc : ∀ t', EP X pins σ Q (.str a.shown s.toks) { s with toks := t' } := fun t' => ⟨.str _, H, I.tok _, ⟨_, rfl⟩, q⟩
        have ref : ∀ ad, v = .ref ad → wpAny (model X.prog X.w) X.A (call (.builtin "repr") [u]) (EP X pins σ Q) X.xe s := fun ad e => by
          subst e
          obtain rfl : u = Value.ref ad := ru
          obtain ⟨as, rd⟩ := Dp.reads I a _ _ dp rfl
          have hd : a.hasDict = true → sysModules ∉ as := fun hh => by rw [dp_nodict dp] at hh; cases hh
          have hu := hr.un
          exact repr_of_reads' rd hs hd hgd (by omega) (fun _ _ e => e) (fun h' u' tk hk => ⟨.str _, H, I.kept hk, ⟨_, rfl⟩, q⟩) hsz
        cases dp with
        | non => cases ru; exact PySem.P.repr_of_none (sc _)
        | bl b => cases ru; exact PySem.P.repr_of_bool (sc _)
        | int i => obtain ⟨t, rfl⟩ := ru; exact PySem.P.repr_of_int (by simpa [PyData.showable] using hs) (sc _)
        | str x => obtain ⟨t, rfl⟩ := ru; exact PySem.P.repr_of_str (sc _) hsz
        | lst _ _ => exact ref _ rfl
        | tup _ _ => exact ref _ rfl
      · cases e
    · cases e
  · cases e
end
end Ev
end

section
set_option Elab.async false
set_option linter.all false
/-! EvN: an own exception's __init__(self, text, f): super().__init__(text); self.f = f. -/
namespace Ev
open PySem L2
open PyProof.Rows (Call_)
def initBody (fld : Str) (a1 a2 a3 a4 a5 a6 a7 a8 a9 a10 : Pos) : List Stmt :=
  [.Expr (.Call (.Attribute (.Call (.Name "super" a1) [] [] a2) "__init__" a3) [.Name "text" a4] [] a5) a6, .Assign [.Attribute (.Name "self" a7) fld a8] (.Name fld a9) a10]
/-- what the written part says of such a class and its __init__ -/
structure InitF (P : Program) (K : PySem.W.Frag) (mg : Str → Option Value) (C fI : Addr) (fld : Str) (fd : FuncData) : Prop where
  fn : ∃ (oc : Value) (od : Option Addr) (osl : Array (Option Value)) (name qual : Str) (params : Arguments) (scope : Scope) (cc kc : Addr) (dV kV doc pm ct : Value) (an : Option Addr) (a1 a2 a3 a4 a5 a6 a7 a8 a9 a10 : Pos),
    fd = { name := name, qualname := qual, params := params, body := .stmts (initBody fld a1 a2 a3 a4 a5 a6 a7 a8 a9 a10), scope := scope, globals := mainGlobals, closure := [("__class__", cc)], defaults := dV, kwdefaults := kV, doc := doc, pyModule := pm, annotations := an, code := .ref kc, closureTuple := ct, builtins := builtinsNs } ∧
    K.lookup fI = some ⟨oc, od, .func fd, osl⟩ ∧ PySem.W.codeIn K (.ref kc) qual = true ∧ (∃ oC, K.lookup cc = some oC ∧ oC.data = .cell (some (.ref C))) ∧ (∃ ok vs tf, K.lookup kc = some ok ∧ ok.data = .fields vs ∧ vs[2]? = some (.str P.main.file tf)) ∧
    (∃ ar, (params.posonlyargs ++ params.args).head? = some ar ∧ ar.arg = "self") ∧ NdefX.NScope ["self", "text", fld, "__class__"] ["self", "text", fld] ["__class__"] scope ∧ scope.names.lookup ("super" : Str) = some .globalImplicit ∧ (a3.endLine == a5.line) = true
  nm : fld ≠ "__debug__" ∧ fld ≠ "__classdict__"
  sup : mg "super" = none
  top : (P.main.scope.names.lookup ("super" : Str)).isSome = false
  cls : OexC K C
  fl : PySem.W.findIn K (.ref C) fld = some none
  opq : PySem.W.nsIn K cStatics "thirdparty.any" = some none
  sub : PySem.W.subIn K (.ref C) (.type "ValueError") = some true
  self : PySem.W.subIn K (.ref C) (.ref C) = some true
  mro : ∃ cd, PySem.W.clsIn K C = some cd ∧ PySem.W.alongIn K "__init__" ((cd.mro.dropWhile (· != .ref C)).drop 1) = some (some (.builtin "ValueError.__init__"))
def spInit (C : Addr) (fld : Str) : Sp := fun vs H Q _ => ∃ (a : Addr) (t l : V), vs = [.ref a, t, l] ∧ H a = some (exo a C none) ∧ ∀ dx, H dx = none → dx ≠ a → Q .non (upd (upd H dx (exd dx [(fld, l)])) a (exo a C (some dx)))
section
variable {P : Program} {w : World} {K : PySem.W.Frag} {mg : Str → Option Value} {base : Heap} {k : Nat} {C fI : Addr} {fld : Str} {fd : FuncData}
theorem ld_name_blt {X : L2.Cx} {E : Value → Shared → Prop} {pins : List (Addr × Obj)} {s : Shared} {σ : L2.St} {H : Hp} {Q : Value → Shared → Prop} (I : L2.Inv X pins σ H s) (hg : Gl X "super") (hm : X.mg "super" = none) (h : Q (.type "super") s) : wpAny (model X.prog X.w) X.A (loadName X.env "super") Q E s := by
  obtain ⟨mb, h1, h2⟩ := I.mod.blt
  have hk : X.env.kindOf "super" = some .globalImplicit := hg
  unfold loadName
  simp only [Env.blockKind, I.ok.kind, hk, ScopeKind.isAnnotationScope, Bool.false_and, Bool.false_eq_true, if_false]
  exact Calls.loadGlobal_builtin (by rw [I.ok.glob]; exact I.mod.glob.keeps I.bk) hm (by rw [I.ok.blt]; exact h1.keeps I.bk) ((h2 "super" (by decide)).trans PyProof.Rows.Boot.«super») h
theorem ld_name {X : L2.Cx} {E : Value → Shared → Prop} {pins : List (Addr × Obj)} {s : Shared} {σ : L2.St} {H : Hp} {Q : Value → Shared → Prop} {i : Nat} {x : Str} {v : V} (I : L2.Inv X pins σ H s) (hN : X.N[i]? = some x) (he : σ[i]? = some (some v)) (hv : Vis X.env.scope x) (hcd : (x == ("__classdict__" : Str)) = false)
    (h : ∀ u, L2.RelV v u → Q u s) : wpAny (model X.prog X.w) X.A (loadName X.env x) Q E s := by
  obtain ⟨m, hn, hl⟩ := I.loc
  obtain ⟨u, r, l⟩ := hl i x v hN he hv
  rcases l with ⟨hk, hm⟩ | ⟨hk, c, hc, hcell⟩
  · exact wpAny_loadName_local I.ok.kind hk hn hm (h u r)
  · rcases hk with hk | hk
    · exact wpAny_loadName_cell I.ok.kind hk hc hcell (h u r)
    · exact wpAny_loadName_free I.ok.kind hk hc hcell (h u r) hcd
theorem init_ok (F : InitF P K mg C fI fld fd) : FnOk P w K mg base C8.CX0 (k + 1) fI fd ["self", "text", fld] (spInit C fld) := by
  refine ⟨fun vs H Q E ⟨a, t, l, hv, _⟩ => by rw [hv]; rfl, fun A outer s H args us vs Q E hr e0 hb r ⟨a, t, l, hv, ha, hq⟩ => ?_⟩
  subst hv
  obtain ⟨oc, od, osl, name, qual, params, scope, cc, kc, dV, kV, doc, pm, ct, an, a1, a2, a3, a4, a5, a6, a7, a8, a9, a10, rfl, lk, hcode, ⟨oC, lc, dC⟩, ⟨ok, kvs, tf, lkc, dkc, hfile⟩, ⟨ar, har, earg⟩, S, ksup, hline⟩ := F.fn
  have KX : K.In s.heap := e0.mod.kin.keeps fun b o e => (e0.bs b o e).1
  have lim : s.heap.NoLimit := e0.mod.nolimit.keeps fun b o e => (e0.bs b o e).1
  have hbn : ∀ c o, K.lookup c = some o → H c = none := fun c o e => (e0.bs c o (e0.mod.kin _ _ e)).2
  have cell0 : s.heap.IsCell cc (some (.ref C)) := ⟨oC, KX _ _ lc, dC⟩
  refine ks_codeAny_call_defAt hr.depth (KX _ _ lk) rfl lim (PySem.W.codeRec_of KX hcode) rfl hb S.nocell (fun ⟨n, v⟩ hy => S.par n (List.of_mem_zip hy).1) (fun h₀ hns kp => ?_) S.co S.gen S.kind
  -- the frame
  have I : L2.Inv (NdefX.ncx C8.CX0 P w K mg base ["self", "text", fld, "__class__"] ⟨name, qual, params, initBody fld a1 a2 a3 a4 a5 a6 a7 a8 a9 a10, scope, [("__class__", cc)], kc⟩ fI A outer s H E) [] (NdefX.startF ["self", "text", fld, "__class__"] [.ref a, t, l] [some (.ref C)]) H { s with heap := h₀, toks := s.toks + ((["self", "text", fld] : List Str).zip us).length } := by
    refine NdefX.inv_startN (fr := ["__class__"]) (ws := [some (.ref C)]) S hr.hd e0 rfl r ⟨rfl, fun y c e => ?_, fun y z c e1 e2 => ?_, fun i y hi => ?_⟩ hns kp
    · simp only [List.lookup] at e
      split at e
      · cases e
        exact ⟨hbn _ _ lc, _, cell0⟩
      · cases e
    · simp only [List.lookup] at e1 e2
      split at e1
      · rename_i h1
        split at e2
        · rename_i h2
          rw [eq_of_beq h1, eq_of_beq h2]
        · cases e2
      · cases e1
    · cases i with
      | zero =>
        simp at hi
        subst hi
        exact ⟨cc, rfl, fun v hv => by simp at hv; subst hv; exact ⟨_, rfl, cell0⟩⟩
      | succ i => simp at hi
  generalize hX : NdefX.ncx C8.CX0 P w K mg base ["self", "text", fld, "__class__"] ⟨name, qual, params, initBody fld a1 a2 a3 a4 a5 a6 a7 a8 a9 a10, scope, [("__class__", cc)], kc⟩ fI A outer s H E = X at I
  have heX : X.env = callEnv { name := name, qualname := qual, params := params, body := .stmts (initBody fld a1 a2 a3 a4 a5 a6 a7 a8 a9 a10), scope := scope, globals := mainGlobals, closure := [("__class__", cc)], defaults := dV, kwdefaults := kV, doc := doc, pyModule := pm, annotations := an, code := .ref kc, closureTuple := ct, builtins := builtinsNs } s.heap.objs.size fI := by
    rw [← hX]; rfl
  rw [← heX]
  have hXA : A.deeper X.env = X.A := by rw [← hX]; rfl
  rw [hXA]
  have hXp : X.prog = P := by rw [← hX]; rfl
  have hXw : X.w = w := by rw [← hX]; rfl
  have hXK : X.K = K := by rw [← hX]; rfl
  have hXm : X.mg = mg := by rw [← hX]; rfl
  have hXN : X.N = (["self", "text", fld, "__class__"] : List Str) := by rw [← hX]; rfl
  have hXs : X.env.scope = scope := by rw [← hX]; rfl
  rw [← hXp, ← hXw]
  have par : ∀ x : Str, x ∈ ([Str.ofString "self", Str.ofString "text", fld] : List Str) → X.env.scope.names.lookup x = some .local := fun x hx => by rw [hXs]; exact S.par x hx
  have gsup : Gl X "super" := by rw [← hX]; exact ksup
  have hmg : X.mg "super" = none := by rw [hXm]; exact F.sup
  have hCK : ∃ cd, PySem.W.clsIn X.K C = some cd ∧ PySem.W.alongIn X.K "__init__" ((cd.mro.dropWhile (· != .ref C)).drop 1) = some (some (.builtin "ValueError.__init__")) := by rw [hXK]; exact F.mro
  have T : OexC X.K C := by rw [hXK]; exact F.cls
  refine ks_wpAt_execs_cons (ks_wpAt_Expr_any (ks_wpAt_MethodCall (pl := plainOf (.Call (.Name "super" a1) [] [] a2) X.env) (ks_wpAt_super_base (f := fI) (cc := kc) (ar := ar) (vs := kvs) (file := P.main.file) (tf := tf) ?s1 ?s2 rfl ?s3 (kp _ _ (KX _ _ lk)) rfl har ?s4 (kp _ _ (KX _ _ lkc)) dkc hfile ?s5 ?s6 ?s7) ?s8) ?s9 rfl)
  case s1 => exact gsup
  case s2 => rw [heX]; exact S.frk _ (by simp)
  case s3 => rw [heX]; rfl
  case s4 => rw [heX]; rfl
  case s5 => rw [hXp]; exact beq_self_eq_true _
  case s6 => rw [hXp]; exact F.top
  case s9 =>
    have hk : X.env.scope.kind = .function := by rw [hXs]; exact S.kind
    unfold interactive
    simp [hk]
  case s8 =>
    have e1 : methodCallForm 1 (starEach [.Name "text" a4] X.env) (keywordEach [] X.env) = true := rfl
    have e2 : ∀ ov, methodCall (.Call (.Name "super" a1) [] [] a2) "__init__" a3 a5 X.env ov 1 (backTo a5 (starEach [.Name "text" a4] X.env)) (backToKw a5 (keywordEach [] X.env)) = (do
        let (f, first) ← holding [ov] (getMethod ov "__init__" (plainOf (.Call (.Name "super" a1) [] [] a2) X.env))
        callWith a5 f first (backTo a5 (starEach [.Name "text" a4] X.env)) (backToKw a5 (keywordEach [] X.env))) := fun ov => mcall_line rfl hline
    simp only [eval]
    congr 1
    funext ov
    congr 1
    funext _
    exact e2 ov
  -- super
  refine ld_name_blt I gsup hmg ?_
  refine ⟨rfl, ?_⟩
  have g3 : X.N[3]? = some ("__class__" : Str) := by rw [hXN]; rfl
  have g0 : X.N[0]? = some ("self" : Str) := by rw [hXN]; rfl
  have g1 : X.N[1]? = some ("text" : Str) := by rw [hXN]; rfl
  have v3 : Vis X.env.scope "__class__" := by rw [hXs]; exact .inr (.inr (S.frk _ (by simp)))
  have v0 : Vis X.env.scope "self" := .inl (par _ (by simp))
  have v1 : Vis X.env.scope "text" := .inl (par _ (by simp))
  refine ld_name I g3 (v := .ref C) rfl v3 (by decide) fun u ru => ?_
  obtain rfl : u = Value.ref C := ru
  rw [earg]
  refine ld_name I g0 (v := .ref a) rfl v0 (by decide) fun u ru => ?_
  obtain rfl : u = Value.ref a := ru
  obtain ⟨nm, q, N, bs, bm, sn, sub, ab, col, dd, k0, k1, k2, k3, k5, hC, hbm⟩ := T.cls
  have hC0 := I.kIn _ _ hC
  obtain ⟨t1, ho⟩ := exo_at I.hok ha
  obtain ⟨cd, hcd, hal⟩ := hCK
  refine ks_wpAny_isType_cls hC0 rfl ⟨rfl, ?_⟩
  refine ks_wpAny_call_super hC0 rfl ho rfl (fun c z => nomatch z) (PySem.W.looks_subIn I.kIn (by rw [hXK]; exact F.self)) fun h1 hso k1 => ?_
  -- the bound built-in
  have I1 : L2.Inv X [] (NdefX.startF ["self", "text", fld, "__class__"] [.ref a, t, l] [some (.ref C)]) H { s with heap := h1, toks := s.toks + ((["self", "text", fld] : List Str).zip us).length } := I.kept k1
  have nac : a ≠ C := fun e => by
    have h1 := hC0
    rw [← e, ho] at h1
    cases h1
  refine PySem.W.kxs_getMethod PySem.W.kxs_ValueError hso (PySem.W.looks_opaque I1.kIn (by rw [hXK]; exact F.opq)) (l₀ := cd.mro) (fun A Q E s k q => wpAny_bind ((PySem.W.looks_clsIn I1.kIn hcd) A _ E s k (wpAny_pure q))) rfl I1.kIn hal ?hI nac (by decide) ?_
  case hI =>
    have ty : PySem.W.Looks (model X.prog X.w) h1 (typeOf (.ref a)) (.ref C) := fun A Q E s k q => wpAny_typeOf_ref (k _ _ (k1 _ _ ho)) q
    exact ty.andThen (PySem.W.looks_subIn I1.kIn (by rw [hXK]; exact F.sub))
  have k2 : ∀ b o, s.heap.get? b = some o → True := fun _ _ _ => trivial
  have I2 : L2.Inv X [] (NdefX.startF ["self", "text", fld, "__class__"] [.ref a, t, l] [some (.ref C)]) H { s with heap := h1.push (PySem.W.kxs_mw "ValueError.__init__" a), toks := s.toks + ((["self", "text", fld] : List Str).zip us).length + 1 } :=
    I1.kept fun b o e => Heap.get?_push_of_some _ e
  have hu : (h1.push (PySem.W.kxs_mw "ValueError.__init__" a)).get? h1.objs.size = some (PySem.W.kxs_mw "ValueError.__init__" a) := Heap.get?_push_size _ rfl
  have hstar : starEach [.Name "text" a4] X.env = (false, eval (.Name "text" a4) X.env) :: starEach [] X.env := rfl
  show wpAny _ _ (callWith a5 (.ref h1.objs.size) [] (backTo a5 (starEach [.Name "text" a4] X.env)) []) _ _ _
  rw [hstar]
  refine PySem.W.kxs_callWith (i := "ValueError.__init__") (x := a) rfl (Calls.evalArgs_plain (Calls.spliced_cons (wpAny_Name (ld_name I2 g1 (v := t) rfl v1 (by decide) fun ut rut => Calls.spliced_nil ⟨hu, ?_⟩) (by decide))))
  refine wpAny_call (codeAny_of_tree ?_)
  show wpAny _ X.A.in1 (callAny (.ref h1.objs.size) ⟨[ut], []⟩) _ _ _
  simp only [callAny]
  refine wpAny_bind (wpAny_load hu ?_)
  simp only [PySem.W.kxs_mw, show (Value.type "method-wrapper" == Value.type "method" || Value.type "method-wrapper" == Value.type "builtin_function_or_method" || Value.type "method-wrapper" == Value.type "method-wrapper") = true by decide, if_true]
  refine PySem.W.KFB.if_so (by decide) ?_
  obtain ⟨t2, ho2⟩ := exo_at I2.hok ha
  refine wpAny_bind (PySem.W.check_bound_init PySem.F.excBase_ValueError.toExcCallFacts (I2.kIn _ _ hC) ho2 rfl ?_)
  refine wpAny_bind (wpAny_pure (wpAny_pure ?_))
  refine ⟨plainId_quiet PySem.F.excBase_ValueError.init.plain _, codeAny_builtin PySem.F.excBase_ValueError.initEntry ?_⟩
  refine PySem.W.exc_init_tree (cls := .ref C) (t0 := t2) (dv := none) (c2 := .none) (c3 := .none) (b4 := .bool false) ho2 (by show 1 ≤ sizeLine; rw [sizeLine_eq]; omega) fun h3 k3 e3 _ => ?_
  have I3 := I2.write (h' := h3) (t' := s.toks + ((["self", "text", fld] : List Str).zip us).length + 1) (x := a) (e := a) (o := exo a C none) (by rw [ha]; exact True.intro) (.inl rfl) k3 ⟨_, e3⟩ (exo_ok e3)
  have eu : upd H a (exo a C none) = H := by
    funext b
    by_cases hb : b = a
    · rw [hb, upd_same, ha]
    · rw [upd_ne hb]
  rw [eu] at I3
  refine wpAt_of_wpAny ?_
  -- self.f = f
  have g2 : X.N[2]? = some fld := by rw [hXN]; rfl
  have v2 : Vis X.env.scope fld := .inl (par _ (by simp))
  have nd : fld ≠ "__debug__" ∧ fld ≠ "__classdict__" := F.nm
  have hS : PSs X [.Assign [.Attribute (.Name "self" a7) fld a8] (.Name fld a9) a10] _ := pss_one (ps_ost (pe_var (i := 0) g0 v0 (by decide) (by decide)) (pe_var (i := 2) g2 v2 (by simpa using nd.1) (by simpa using nd.2)))
  refine wpAny_mono (hS.run [] _ _ H { nx := fun _ H' => Q .non H', rt := Q } I3 ⟨l, rfl, .ref a, rfl, a, C, rfl, T, by rw [hXK]; exact F.fl, .inl ⟨ha, fun dx h1 h2 => hq dx h1 h2⟩⟩) (fun f s' hs => ?_) fun e s' hs => ?_
  · subst hX
    cases f with
    | next =>
      obtain ⟨σ', H', J, q⟩ := hs
      exact ⟨V.non, H', J.os, J.bare, J.base, J.hok, rfl, q⟩
    | ret u =>
      obtain ⟨v, σ', H', J, rv, q⟩ := hs
      exact ⟨v, H', J.os, J.bare, J.base, J.hok, rv, q⟩
    | brk =>
      obtain ⟨_, _, _, q⟩ := hs
      exact False.elim q
    | cont =>
      obtain ⟨_, _, _, q⟩ := hs
      exact False.elim q
  · subst hX
    exact hs
end
end Ev
end

section
set_option Elab.async false
set_option linter.all false
/-! Ev21: raise. -/
namespace Ev
open PySem L2
section
variable {X : L2.Cx} {j : J} {k F : Nat} {a b c t : T} {e ea eb ec : Expr} {pos p2 apos : Pos} {es : List Expr} {ts : List T} {prot : List Nat}
/-- written operands and their values -/
theorem raise_args {σ : St} {H : Hp} {Y : Ends} {Z : Hp} {env : Env} {fps : List (List Addr)} {f : List D → Env → SO} (G : Good j.K Z H env σ fps)
    (h : PostS j prot Z H fps.flatten σ Y (match evTs j.Γ ts env with
      | .ok ds e => f ds e
      | .exc c fs e => .exc c fs e
      | .bad => .bad)) {Q : List V → Hp → Prop}
    (k : ∀ ds e Z1 H1 fps1 fp vs, Post j.K Z H fps.flatten Z1 H1 e σ fps1 fp → ROs j.K Z1 H1 σ ts ds vs fp → PostS j prot Z H fps.flatten σ Y (f ds e) → Q vs H1) : tA j ts σ H Q := by
  refine ⟨Z, env, fps, G, ?_⟩
  cases ev : evTs j.Γ ts env with
  | bad => rw [ev] at h; exact h
  | exc c fs e' => rw [ev] at h; exact excS G.start SameAt.refl h
  | ok ds e1 =>
    rw [ev] at h
    exact fun Z1 H1 fps1 fp vs p r => k ds e1 Z1 H1 fps1 fp vs p r h
theorem so_raiseF {c fld : Str} {C fI : Addr} {fd : FuncData} {p : Pos} {kk : Nat} (hc : X.calm = true) (tk : Takes X j.W) (hK : X.K = j.K) (hf : excF c = some (some fld)) (hC : j.ca c = some C) (hm : X.mg c = some (.ref C)) (hg : Gl X c) (hdb : (c == ("__debug__" : Str)) = false)
    (F1 : FnOk X.prog X.w X.K X.mg X.base C8.CX0 kk fI fd ["self", "text", fld] (spInit C fld)) (T : OexC X.K C) (iC : PySem.W.findIn X.K (.ref C) "__init__" = some (some (.ref fI))) (tI : PySem.W.typeIn X.K (.ref fI) = some (.type "function")) (hr : Room (kk + 1) X.A) (hb : Binds X.K fd ["self", "text", fld] [])
    (ha : AOk X j ts (e :: es)) (hs : (e :: es).all notStar = true) : SOk X j F prot (.raise c ts) (.Raise (some (.Call (.Name c p) (e :: es) [] pos)) none p2) := by
  rw [List.all_cons, Bool.and_eq_true] at hs
  refine impS (ps_raise hc tk (pmk_oex T iC tI F1 hr hb .nil (fun _ _ _ _ _ _ _ h => h.elim) hg hm ha hdb (star_cons hs.1) (star_any hs.2))) fun Y σ H ⟨Z, env, fps, G, h⟩ => ?_
  unfold evS at h
  refine raise_args G h fun ds e1 Z1 H1 fps1 fp vs p r h => ?_
  cases ef : fins ts ds e1 with
  | none => rw [ef] at h; exact h.elim
  | some xs =>
    rw [ef] at h
    dsimp only at h
    have rl := r.fins p ef
    unfold excFs at h
    rw [hf] at h
    dsimp only at h
    split at h
    · rename_i fs' hfs
      split at hfs
      · rename_i s x
        cases hfs
        obtain ⟨v1, v2, f1, f2, rfl, h1, h2⟩ := rl.two
        cases h2 with
        | p h2 =>
          refine ⟨by simp, fun ad had => ?_⟩
          refine ⟨ad, v1, v2, by simp, upd_same, fun dx hdx hne => ?_⟩
          have hdx1 : H1 dx = none := by rw [upd_ne hne] at hdx; exact hdx
          refine ⟨rfl, dx, [(fld, v2)], upd_same, by rw [upd_ne hne, upd_same], hdx1, ?_⟩
          have eH : upd (del (upd (upd (upd H1 ad (exo ad C none)) dx (exd dx [(fld, v2)])) ad (exo ad C (some dx))) ad) dx (.xd [(fld, v2)]) = upd H1 dx (.xd [(fld, v2)]) := by
            funext b
            by_cases hbd : b = dx
            · rw [hbd, upd_same, upd_same]
            · rw [upd_ne hbd, upd_ne hbd]
              by_cases hba : b = ad
              · rw [hba, del_same, had]
              · rw [del_ne hba, upd_ne hba, upd_ne hbd, upd_ne hba]
          rw [eH]
          have z1 := Evl.fresh_back p.good.zle hdx1
          have q := p.drop.grow (stp_newZ (o := .xd [(fld, v2)]) p.good.zle hdx1) (ex_upd2 p.good.zle) (RepP.non (K := j.K))
          exact h _ _ σ fps1 (.ref C) (some dx) q SameAt.refl ⟨C, hC, rfl, dx, v2, rfl, upd_same, h2.mono (Evl.Ex.new z1)⟩
      · cases hfs
    · exact h.elim
end
end Ev
end

section
set_option Elab.async false
set_option linter.all false
/-! Ev22: what draws are taken from: a dict with its lists. -/
namespace Ev
open PySem L2
abbrev stK (g c : Addr) (r t : Int) : List (Key × V) := [(.inr "great", .ref g), (.inr "cells", .ref c), (.inr "rest", .int r), (.inr "turn", .int t)]
theorem stK_rest {g c : Addr} {r t : Int} : valV (stK g c r t) (.inr "rest") = some (.int r) := by rfl
theorem stK_turn {g c : Addr} {r t : Int} : valV (stK g c r t) (.inr "turn") = some (.int t) := by rfl
theorem stK_great {g c : Addr} {r t : Int} : valV (stK g c r t) (.inr "great") = some (.ref g) := by rfl
theorem stK_cells {g c : Addr} {r t : Int} : valV (stK g c r t) (.inr "cells") = some (.ref c) := by rfl
theorem stK_putR {g c : Addr} {r t x : Int} : putK (stK g c r t) (.inr "rest") (.int x) = stK g c x t := by rfl
theorem stK_putT {g c : Addr} {r t x : Int} : putK (stK g c r t) (.inr "turn") (.int x) = stK g c r x := by rfl
theorem upd_upd {H : Hp} {p : Addr} {o u : HO} : upd (upd H p o) p u = upd H p u := by
  funext b
  by_cases e : b = p
  · rw [e, upd_same, upd_same]
  · rw [upd_ne e, upd_ne e, upd_ne e]
section
variable {K : PySem.W.Frag} {Z H Z1 H1 : Hp} {F fp f : List Addr} {env : Env} {σ : St} {fps : List (List Addr)} {s : DSt}
theorem Post.takeSt {i : Nat} {a : Addr} (p : Post K Z H F Z1 H1 env σ fps fp) (hv : σ[i]? = some (some (.ref a))) (he : getE env i = some (.st s)) :
    ∃ g c, Post K Z H F Z1 H1 (env.set i none) σ (fps.set i []) ([a, g] ++ fp) ∧ H1 a = some (.dK (stK g c s.rest s.turn)) ∧ H1 g = some (.lst (s.great.map V.int)) ∧ SqL K Z1 c (s.cells.map V.int) ∧ a ≠ g ∧ i < env.length := by
  obtain ⟨v, f, h1, h2, h3⟩ := p.good.rep.at he
  rw [hv] at h1
  cases h1
  cases h3 with
  | @st _ g c _ h4 h5 h6 h7 =>
    refine ⟨g, c, p.takeH h2, h4, h5, h6, h7, ?_⟩
    have := p.good.rep.len
    have := (List.getElem?_eq_some_iff.mp hv).1
    omega
theorem Post.putSt {i : Nat} {a g c : Addr} (p : Post K Z H F Z1 H1 env σ fps ([a, g] ++ fp)) (hv : σ[i]? = some (some (.ref a))) (hi : i < env.length) (h1 : H1 a = some (.dK (stK g c s.rest s.turn))) (h2 : H1 g = some (.lst (s.great.map V.int))) (h3 : SqL K Z1 c (s.cells.map V.int)) (h4 : a ≠ g) :
    ∃ fps', Post K Z H F Z1 H1 (env.set i (some (.st s))) σ fps' fp := by
  have q := p.fill hi (.st h1 h2 h3 h4)
  rw [set_get_self hv] at q
  exact ⟨_, q⟩
theorem RepPs.cells (ns : List Int) : RepPs K Z (ns.map P.int) (ns.map V.int) := RepPs.ints ns
theorem intsOf_vs : ∀ {xs : List P} {vs : List V} {ns : List Int}, RepPs K Z xs vs → intsOf xs = some ns → vs = ns.map V.int
  | _, _, _, .nil, h => by simp [intsOf] at h; subst h; rfl
  | _, _, _, .cons h r, e => by
    cases h <;> simp only [intsOf] at e <;> try cases e
    split at e
    · rename_i q eq
      cases e
      rw [intsOf_vs r eq]; rfl
    · cases e
end
section
variable {X : L2.Cx} {j : J} {k F : Nat} {a b c t : T} {e ea eb ec : Expr} {pos p2 apos : Pos} {es : List Expr} {ts : List T} {prot : List Nat}
theorem sub_pe {i : Nat} {x nm : Str} {px pc : Pos} {kk : Nat} (hu : X.A.units + 1 < cLine) (hN : X.N[i]? = some x) (hv : Vis X.env.scope x) (hd : (x == ("__debug__" : Str)) = false) (hcd : (x == ("__classdict__" : Str)) = false) :
    PE X (.Subscript (.Name x px) (.Constant (.str nm) kk pc) pos) (tDGet (tVar i) (tC (.str nm))) := pe_dget hu (pe_var hN hv hd hcd) pe_str (fun _ _ => rfl)
theorem ok_srest {i : Nat} {x : Str} {px pc : Pos} {kk : Nat} (hu : X.A.units + 1 < cLine) (hN : X.N[i]? = some x) (hv : Vis X.env.scope x) (hd : (x == ("__debug__" : Str)) = false) (hcd : (x == ("__classdict__" : Str)) = false) :
    EOk X j (.srest i) (.Subscript (.Name x px) (.Constant (.str "rest") kk pc) pos) := by
  refine imp (sub_pe hu hN hv hd hcd) fun σ H Q ⟨Z, env, fps, G, h⟩ => ?_
  unfold evT at h
  split at h
  · rename_i s ex
    obtain ⟨v, f, h1, h2, h3⟩ := G.rep.at ex
    cases h3 with
    | st h4 h5 h6 h7 => exact ⟨_, h1, _, _, rfl, DGet.k (k := .inr "rest") h4, h Z H fps [] _ G.start (.p (.int _))⟩
  · exact h.elim
theorem ok_sturn {i : Nat} {x : Str} {px pc : Pos} {kk : Nat} (hu : X.A.units + 1 < cLine) (hN : X.N[i]? = some x) (hv : Vis X.env.scope x) (hd : (x == ("__debug__" : Str)) = false) (hcd : (x == ("__classdict__" : Str)) = false) :
    EOk X j (.sturn i) (.Subscript (.Name x px) (.Constant (.str "turn") kk pc) pos) := by
  refine imp (sub_pe hu hN hv hd hcd) fun σ H Q ⟨Z, env, fps, G, h⟩ => ?_
  unfold evT at h
  split at h
  · rename_i s ex
    obtain ⟨v, f, h1, h2, h3⟩ := G.rep.at ex
    cases h3 with
    | st h4 h5 h6 h7 => exact ⟨_, h1, _, _, rfl, DGet.k (k := .inr "turn") h4, h Z H fps [] _ G.start (.p (.int _))⟩
  · exact h.elim
theorem ok_scells {i : Nat} {x : Str} {px pc : Pos} {kk : Nat} (hu : X.A.units + 1 < cLine) (hN : X.N[i]? = some x) (hv : Vis X.env.scope x) (hd : (x == ("__debug__" : Str)) = false) (hcd : (x == ("__classdict__" : Str)) = false) :
    EOk X j (.scells i) (.Subscript (.Name x px) (.Constant (.str "cells") kk pc) pos) := by
  refine imp (sub_pe hu hN hv hd hcd) fun σ H Q ⟨Z, env, fps, G, h⟩ => ?_
  unfold evT at h
  split at h
  · rename_i s ex
    obtain ⟨v, f, h1, h2, h3⟩ := G.rep.at ex
    cases h3 with
    | st h4 h5 h6 h7 => exact ⟨_, h1, _, _, rfl, DGet.k (k := .inr "cells") h4, h Z H fps [] _ G.start (.p (.fl h6 (RepPs.ints _)))⟩
  · exact h.elim
theorem shaped_ints (ns : List Int) : SeqAt.shaped (.list (ns.map PyData.int)) = true := by
  have h1 : PyData.canLayAll0 (ns.map PyData.int) = true := by
    induction ns with
    | nil => rfl
    | cons n ns ih => simp [PyData.canLayAll0, PyData.canLay0, ih]
  have h2 : PyData.depthAll (ns.map PyData.int) = 0 := by
    induction ns with
    | nil => rfl
    | cons n ns ih => simp_all [PyData.depthAll, PyData.depth, PyData.canLayAll0, PyData.canLay0]
  unfold SeqAt.shaped
  simp [PyData.canLay0, PyData.depth, h1, h2]
theorem eqv_nil (ns : List Int) : PyData.eqv (.list (ns.map .int)) (.list []) = ns.isEmpty := by
  cases ns <;> rfl
/-- state['great'] != [] -/
theorem sgne_core {i : Nat} {x nm : Str} {σ : St} {H : Hp} {Q : VK} {Z : Hp} {env : Env} {fps : List (List Addr)} (G : Good j.K Z H env σ fps) (h : PostO j Z H fps.flatten σ (.sgne i) Q (evT j.Γ (.sgne i) env)) :
    tOp (rNeD X.K) (tDGet (tVar i) (tC (.str "great"))) (tLst tNil) σ H Q := by
  unfold evT at h
  split at h
  · rename_i s ex
    obtain ⟨v, f, h1, h2, h3⟩ := G.rep.at ex
    cases h3 with
    | @st ad g c _ h4 h5 h6 h7 =>
      refine ⟨_, h1, _, _, rfl, DGet.k (k := .inr "great") h4, Nat.zero_le _, fun q hq => ?_⟩
      have ng : g ≠ q := fun e => by rw [e, hq] at h5; cases h5
      have eg : upd H q (.lst []) g = some (.lst (s.great.map V.int)) := by rw [upd_ne ng]; exact h5
      have dpI : ∀ ns : List Int, DpAll X.K (upd H q (.lst [])) (ns.map V.int) (ns.map PyData.int) := fun ns => by
        induction ns with
        | nil => exact .nil
        | cons n ns ih => exact .cons (.int n) ih
      refine ⟨.list (s.great.map .int), .list [], .lst (SqL.of eg) (dpI _), .lst (SqL.of upd_same) .nil, ?_, rfl, ?_⟩
      · exact shaped_ints _
      · rw [eqv_nil]
        have m := Mk.of (t := .sgne i) G.start (by intro i; simp) h
        exact m Z _ _ [] ⟨Evl.Ex.refl _, fun b o hb _ => by rw [upd_ne (ne_of_none hb hq)]; exact hb, by simp, fun b o hb => .inl hb⟩ (fun b o hb => by rw [upd_ne (ne_of_none (G.zle b o hb) hq)]; exact G.zle b o hb) (.p (.bl _)) (by simp)
  · exact h.elim
theorem ok_sgne {i : Nat} {x : Str} {px pc pl : Pos} {kk : Nat} (hr : Room k X.A) (hN : X.N[i]? = some x) (hv : Vis X.env.scope x) (hd : (x == ("__debug__" : Str)) = false) (hcd : (x == ("__classdict__" : Str)) = false) :
    EOk X j (.sgne i) (.Compare (.Subscript (.Name x px) (.Constant (.str "great") kk pc) p2) [.NotEq] [.List [] pl] pos) := by
  have hu : X.A.units + 1 < cLine := by have := hr.units; omega
  exact imp (pe_cmpR (op_neD hr.units) (sub_pe hu hN hv hd hcd) (pe_lst pa_nil) (marks_of rfl)) fun σ H Q ⟨Z, env, fps, G, h⟩ => sgne_core (x := x) (nm := x) G h
theorem tk_sgne {i : Nat} {x : Str} {px pc pl : Pos} {kk : Nat} (hr : Room k X.A) (hN : X.N[i]? = some x) (hv : Vis X.env.scope x) (hd : (x == ("__debug__" : Str)) = false) (hcd : (x == ("__classdict__" : Str)) = false) :
    TOk X j (.sgne i) (.Compare (.Subscript (.Name x px) (.Constant (.str "great") kk pc) p2) [.NotEq] [.List [] pl] pos) := by
  have hu : X.A.units + 1 < cLine := by have := hr.units; omega
  exact impT (pt_cmpR (op_neD hr.units) (sub_pe hu hN hv hd hcd) (pe_lst pa_nil) (marks_of rfl)) fun σ H Q ⟨Z, env, fps, G, h⟩ => sgne_core (x := x) (nm := x) G (asV (by intro i; simp) h)
theorem ok_spop {i kk kz : Nat} {x : Str} {px pc pz : Pos} (hu : X.A.units + 1 < cLine) (hN : X.N[i]? = some x) (hv : Vis X.env.scope x) (hd : (x == ("__debug__" : Str)) = false) (hcd : (x == ("__classdict__" : Str)) = false) (hl : (apos.endLine == pos.line) = true) :
    EOk X j (.spop i) (.Call (.Attribute (.Subscript (.Name x px) (.Constant (.str "great") kk pc) p2) "pop" apos) [.Constant (.int 0) kz pz] [] pos) := by
  refine imp (pe_bm PySem.F.plainAttrs_list PySem.F.slot_list_pop PySem.F.type_list_pop mt_popAt (sub_pe hu hN hv hd hcd) (pa_cons pe_int pa_nil (star_cons rfl)) (base_of rfl) (few1 rfl) hl (star_cons rfl) rfl) fun σ H Q ⟨Z, env, fps, G, h⟩ => ?_
  unfold evT at h
  split at h
  · rename_i s ex
    split at h
    · rename_i g0 gs eg
      obtain ⟨v, f, h1, h2, h3⟩ := G.rep.at ex
      cases h3 with
      | @st ad g c _ h4 h5 h6 h7 =>
        obtain ⟨g, c, p1, q4, q5, q6, q7, hi⟩ := G.start.takeSt h1 ex
        refine ⟨_, h1, _, _, rfl, DGet.k (k := .inr "great") q4, .inl ⟨rfl, _, SqL.of q5⟩, g, s.great.map V.int, 0, 0, .int g0, rfl, rfl, q5, by omega, by omega, ?_, ?_, ?_⟩
        · rw [eg]; simp [seqIndex?]
        · rw [eg]; rfl
        · have p2 := p1.touch (x := g) (by simp) (.lst ((s.great.map V.int).eraseIdx 0))
          obtain ⟨fps', p3⟩ := p2.putSt (s := { s with great := gs }) h1 (by simpa using hi) (by rw [upd_ne q7]; exact q4) (by rw [upd_same, eg]; rfl) q6 q7
          exact h Z _ fps' [] _ (by simpa using p3) (.p (.int _))
    · exact h.elim
  · exact h.elim
theorem so_srest {i kk : Nat} {x : Str} {px pc pt : Pos} (hu : X.A.units + 1 < cLine) (hN : X.N[i]? = some x) (hv : Vis X.env.scope x) (hd : (x == ("__debug__" : Str)) = false) (hcd : (x == ("__classdict__" : Str)) = false) (ha : EOk X j t e) (hs : isComp e = false) :
    SOk X j F prot (.srest i t) (.Assign [.Subscript (.Name x px) (.Constant (.str "rest") kk pc) pt] e pos) := by
  refine impS (ps_dput hu (pe_var hN hv hd hcd) pe_str ha (swaps_no hs)) fun Y σ H ⟨Z, env, fps, G, h⟩ => ?_
  unfold evS at h
  refine ⟨Z, env, fps, G, nextS G.start SameAt.refl h fun d e2 Z2 H2 fps2 fp2 w p p' r h => ?_⟩
  split at h
  · rename_i y s ey es
    obtain ⟨f2, g2⟩ := RO.get0 r p ey
    have ew := inv_int g2
    subst ew
    obtain ⟨v, f, h1, h2, h3⟩ := p.good.rep.at es
    cases h3 with
    | @st ad g c _ h4 h5 h6 h7 =>
      obtain ⟨g, c, p1, q4, q5, q6, q7, hi⟩ := p.drop.takeSt h1 es
      refine ⟨_, h1, _, _, rfl, DPut.k (k := .inr "rest") q4 (Nat.lt_of_lt_of_le (by decide : 4 < 1000000) lim_le), ?_⟩
      rw [stK_putR]
      have p2 := p1.touch (x := ad) (by simp) (.dK (stK g c y s.turn))
      obtain ⟨fps', p3⟩ := p2.putSt (s := { s with rest := y }) h1 (by simpa using hi) upd_same (by rw [upd_ne (Ne.symm q7)]; exact q5) q6 q7
      exact h Z2 _ σ fps' (by simpa using p3) SameAt.refl
  · exact h.elim
theorem so_sturn {i kk : Nat} {x : Str} {px pc pt : Pos} (hu : X.A.units + 1 < cLine) (hN : X.N[i]? = some x) (hv : Vis X.env.scope x) (hd : (x == ("__debug__" : Str)) = false) (hcd : (x == ("__classdict__" : Str)) = false) (ha : EOk X j t e) (hs : isComp e = false) :
    SOk X j F prot (.sturn i t) (.Assign [.Subscript (.Name x px) (.Constant (.str "turn") kk pc) pt] e pos) := by
  refine impS (ps_dput hu (pe_var hN hv hd hcd) pe_str ha (swaps_no hs)) fun Y σ H ⟨Z, env, fps, G, h⟩ => ?_
  unfold evS at h
  refine ⟨Z, env, fps, G, nextS G.start SameAt.refl h fun d e2 Z2 H2 fps2 fp2 w p p' r h => ?_⟩
  split at h
  · rename_i y s ey es
    obtain ⟨f2, g2⟩ := RO.get0 r p ey
    have ew := inv_int g2
    subst ew
    obtain ⟨v, f, h1, h2, h3⟩ := p.good.rep.at es
    cases h3 with
    | @st ad g c _ h4 h5 h6 h7 =>
      obtain ⟨g, c, p1, q4, q5, q6, q7, hi⟩ := p.drop.takeSt h1 es
      refine ⟨_, h1, _, _, rfl, DPut.k (k := .inr "turn") q4 (Nat.lt_of_lt_of_le (by decide : 4 < 1000000) lim_le), ?_⟩
      rw [stK_putT]
      have p2 := p1.touch (x := ad) (by simp) (.dK (stK g c s.rest y))
      obtain ⟨fps', p3⟩ := p2.putSt (s := { s with turn := y }) h1 (by simpa using hi) upd_same (by rw [upd_ne (Ne.symm q7)]; exact q5) q6 q7
      exact h Z2 _ σ fps' (by simpa using p3) SameAt.refl
  · exact h.elim
/-! ### the display -/
theorem ta_core {σ : St} {H : Hp} {R : List V → Hp → Prop} (q : tA j (t :: ts) σ H R) : tE j t σ H fun v H1 => tA j ts σ H1 fun vs H2 => R (v :: vs) H2 := by
  obtain ⟨Z, env, fps, G, h⟩ := q
  unfold evTs at h
  refine ⟨Z, env, fps, G, ?_⟩
  cases e1 : evT j.Γ t env with
  | bad => rw [e1] at h; exact h
  | exc c fs e' => rw [e1] at h; exact h
  | ok d e' =>
    rw [e1] at h
    dsimp only at h
    intro Z1 H1 fps1 fp1 v p1 r1
    refine ⟨Z1, e', fps1, p1.good, ?_⟩
    cases e2 : evTs j.Γ ts e' with
    | bad => rw [e2] at h; exact h
    | exc c fs e'' => rw [e2] at h; exact PostX.from p1 h
    | ok ds e'' =>
      rw [e2] at h
      exact fun Z2 H2 fps2 fp2 vs p2 r2 => h Z2 H2 fps2 _ _ (p1.comp p2) (.cons (RO.held p1 p2 r1 fun x h => h) r2)
theorem pairs_core : ∀ (ks : List Str) (ts : List T) {σ : St} {H : Hp} {R : List V → Hp → Prop}, ks.length = ts.length → tA j ts σ H R →
    tPairs ((ks.zip ts).map fun p => (tC (.str p.1), tE j p.2)) σ H fun ps H2 => ∃ vs, ps = (ks.map V.str).zip vs ∧ vs.length = ts.length ∧ R vs H2
  | [], [], σ, H, R, _, ⟨Z, env, fps, G, h⟩ => by
    unfold evTs at h
    exact ⟨[], rfl, rfl, h Z H fps [] [] G.start .nil⟩
  | k :: ks, t :: ts, σ, H, R, hl, q => by
    obtain ⟨Z, env, fps, G, h⟩ := ta_core q
    refine ⟨Z, env, fps, G, ?_⟩
    have mono : ∀ {o : Out} {Q Q' : VK}, (∀ v H, Q v H → Q' v H) → PostO j Z H fps.flatten σ t Q o → PostO j Z H fps.flatten σ t Q' o := fun {o Q Q'} w h => by
      cases o with
      | ok d e => exact fun Z' H' fps' fp v p r => w _ _ (h Z' H' fps' fp v p r)
      | exc c fs e => exact h
      | bad => exact h
    refine mono (fun v H1 q1 => ?_) h
    have ih := pairs_core ks ts (by simpa using hl) q1
    have imp : ∀ (trs : List (TE × TE)) {H : Hp} {Q Q' : List (V × V) → Hp → Prop}, True := fun _ _ _ _ => trivial
    exact pairs_mono ks ts (fun ps H2 hp => by
      obtain ⟨vs, e, el, r⟩ := hp
      exact ⟨v :: vs, by rw [e]; rfl, by simp [el], r⟩) ih
where
  pairs_mono : ∀ (ks : List Str) (ts : List T) {σ : St} {H : Hp} {Q Q' : List (V × V) → Hp → Prop}, (∀ ps H, Q ps H → Q' ps H) → tPairs ((ks.zip ts).map fun p => (tC (.str p.1), tE j p.2)) σ H Q → tPairs ((ks.zip ts).map fun p => (tC (.str p.1), tE j p.2)) σ H Q'
    | [], _, σ, H, Q, Q', w, h => w _ _ h
    | _ :: _, [], σ, H, Q, Q', w, h => w _ _ h
    | k :: ks, t :: ts, σ, H, Q, Q', w, ⟨Z, env, fps, G, h⟩ => by
      refine ⟨Z, env, fps, G, ?_⟩
      revert h
      generalize evT j.Γ t env = o
      intro h
      cases o with
      | ok d e => exact fun Z' H' fps' fp v p r => pairs_mono ks ts (fun ps H hp => w _ _ hp) (h Z' H' fps' fp v p r)
      | exc c fs e => exact h
      | bad => exact h
theorem ok_smk {e1 e2 e3 e4 : Expr} {t1 t2 t3 t4 : T} {k1 k2 k3 k4 : Nat} {q1 q2 q3 q4 : Pos} (n : ∀ t ∈ [t1, t2, t3, t4], NP t) (h1 : EOk X j t1 e1) (h2 : EOk X j t2 e2) (h3 : EOk X j t3 e3) (h4 : EOk X j t4 e4) :
    EOk X j (.smk [t1, t2, t3, t4]) (.Dict [some (.Constant (.str "great") k1 q1), some (.Constant (.str "cells") k2 q2), some (.Constant (.str "rest") k3 q3), some (.Constant (.str "turn") k4 q4)] [e1, e2, e3, e4] pos) := by
  refine imp (pe_disp (pps_cons pe_str h1 (pps_cons pe_str h2 (pps_cons pe_str h3 (pps_cons pe_str h4 pps_nil)))) rfl rfl (by simp) (by simp)) fun σ H Q ⟨Z, env, fps, G, h⟩ => ?_
  unfold evT at h
  intro p hp
  have p0 : Post j.K Z H fps.flatten Z (upd H p (.dK [])) env σ fps [p] := by
    have q0 : Post j.K Z H fps.flatten Z (upd H p (.lst [])) env σ fps [p] := Post.mk1 (d := .pl []) (v := .ref p) G.start (stp_new G.zle hp) (fun a u h => by rw [upd_ne (ne_of_none (G.zle a u h) hp)]; exact G.zle a u h) (.pl upd_same .nil) (fun a h => by simp at h; rw [h]; exact Evl.fresh_back G.zle hp)
    have q1 := q0.touch (x := p) (by simp) (.dK [])
    rwa [upd_upd] at q1
  refine pairs_core.pairs_mono ["great", "cells", "rest", "turn"] [t1, t2, t3, t4] ?_ (pairs_core (j := j) ["great", "cells", "rest", "turn"] [t1, t2, t3, t4] (R := fun vs H2 => H2 p = some (.dK []) ∧ ∃ gv cv r t, vs = [gv, cv, .int r, .int t] ∧ Q (.ref p) (upd H2 p (.dK [(.inr "great", gv), (.inr "cells", cv), (.inr "rest", .int r), (.inr "turn", .int t)]))) rfl ⟨Z, env, fps, p0.good, ?_⟩)
  · rintro ps H2 ⟨vs, rfl, hl, hH, gv, cv, r, t, rfl, q⟩
    exact ⟨hH, [(.inr "great", gv), (.inr "cells", cv), (.inr "rest", .int r), (.inr "turn", .int t)], rfl, by simp, q⟩
  · have hh := nextL p0 h fun ds e2 Z2 H2 fps2 fp2 vs q q' r h => (show H2 p = some (.dK []) ∧ ∃ gv cv r t, vs = [gv, cv, .int r, .int t] ∧ Q (.ref p) (upd H2 p (.dK [(.inr "great", gv), (.inr "cells", cv), (.inr "rest", .int r), (.inr "turn", .int t)])) from ?_)
    · exact hh
    · have hH : H2 p = some (.dK []) := q.stp.fr p _ upd_same (p0.dj p (by simp))
      refine ⟨hH, ?_⟩
      have rf := r.repF n
      unfold opt at h
      split at h
      · rename_i d ed
        unfold mkSt at ed
        split at ed
        · rename_i gs cs rr tt
          split at ed
          · rename_i g c eg ec
            cases ed
            cases rf with
            | cons r1 rf =>
              cases rf with
              | cons r2 rf =>
                cases rf with
                | cons r3 rf =>
                  cases rf with
                  | cons r4 rf =>
                    cases rf
                    cases r1 with
                    | @pl ga _ _ hg rg =>
                      cases r2 with
                      | @pl ca _ _ hc rc =>
                        have e3 := inv_int r3
                        have e4 := inv_int r4
                        subst e3 e4
                        cases r3
                        cases r4
                        refine ⟨_, _, rr, tt, rfl, ?_⟩
                        have vg := intsOf_vs rg eg
                        have vc := intsOf_vs rc ec
                        subst vg vc
                        -- the cells' list is shared
                        have q1 : Post j.K Z H fps.flatten Z2 H2 e2 σ fps2 (ca :: [p, ga]) := q'.sub (fun x hx => by
                          simp only [List.mem_cons, List.not_mem_nil, or_false, List.mem_append, List.cons_append, List.nil_append] at hx ⊢
                          rcases hx with h | h | h <;> simp [h]) (by
                          have := q'.nd
                          simp at this ⊢
                          exact ⟨⟨Ne.symm this.1.2, Ne.symm this.2⟩, this.1.1⟩)
                        have q2 := q1.freeze hc
                        have npg : p ≠ ga := by
                          have := q'.nd
                          simp at this
                          exact this.1.1
                        have q3 := q2.touch (x := p) (by simp) (.dK (stK ga ca rr tt))
                        exact h _ _ fps2 [p, ga] (.ref p) q3 (RO.of (.st (s := ⟨g, c, rr, tt⟩) upd_same (by rw [upd_ne (Ne.symm npg)]; exact hg) (SqL.of upd_same) npg) (by intro i; simp))
          · cases ed
        · cases ed
      · exact h.elim
end
end Ev
end

section
set_option Elab.async false
set_option linter.all false
set_option maxRecDepth 100000
set_option maxHeartbeats 2000000
/-! Wd1: lambdas called from any frame above; a caught exception that is kept. -/
namespace Wd
open PySem PySem.Spec PyProof.Rows L2 LamX
section
variable {fs fs' ex : List Addr} {H H1 H2 : Hp} {h h1 h2 : Heap}
theorem later (a : Un fs [] H H1 h h1) (b : Un fs' [] H1 H2 h1 h2) (hf : ∀ c ∈ fs', c ∈ fs ∨ h.get? c = none) : Un fs [] H H2 h h2 where
  keep := fun c ob q n hc hx => b.keep c ob (a.keep c ob q n hc hx) (a.free c ob q n hx) (fun z => (hf c z).elim hc fun e => by rw [q] at e; cases e) hx
  slot := fun c ob q n hc hx => by
    obtain ⟨sl, e1⟩ := a.slot c ob q n hc hx
    obtain ⟨sl', e2⟩ := b.any e1 (a.free c ob q n hx) hx
    exact ⟨sl', e2⟩
  free := fun c ob q n hx => by
    obtain ⟨o', e1⟩ := a.there c ob q hx
    exact b.free c o' e1 (a.free c ob q n hx) hx
  there := fun c ob q hx => by
    obtain ⟨o', e1⟩ := a.there c ob q hx
    exact b.there c o' e1 hx
  tups := fun c xs q => b.tups c xs (a.tups c xs q)
  frzs := fun c ob xs q => b.frzs c ob xs (a.frzs c ob xs q)
  tbls := fun c ps q => by
    obtain ⟨m1, e1⟩ := a.tbls c ps q
    obtain ⟨m2, e2⟩ := b.tbls c _ e1
    exact ⟨m1 ++ m2, by rw [e2, Array.append_assoc]⟩
end
/-- the table at P as it is told, by what is known of its code objects -/
structure TabK (H : Hp) (P : Addr) (q : Str) (ps : Array Value) : Prop where
  at_ : H P = some (.tbl ps)
  ok : TriplesOk ps.toList
  co : ∀ (pos : Pos) (cv : Value), codeAmong pos ps.toList = some cv → ∃ c, cv = .ref c ∧ H c = some (CodeO c q)
/-- what the making of a lambda does to the heap -/
inductive LamH (H : Hp) (P : Addr) (q : Str) (ps : Array Value) (c' : Addr) : Hp → Prop
  | hit : (∃ pos, codeAmong pos ps.toList = some (.ref c')) → LamH H P q ps c' H
  | new (more : Array Value) : H c' = none → TriplesOk (ps ++ more).toList → (∀ pos cv, codeAmong pos (ps ++ more).toList = some cv → codeAmong pos ps.toList = some cv ∨ cv = .ref c') → LamH H P q ps c' (upd (upd H P (.tbl (ps ++ more))) c' (CodeO c' q))
section
variable {X : Cx} {pins : List (Addr × Obj)} {σ : L2.St} {H : Hp} {s : Shared}
theorem lam_make3 {c P : Addr} {ps : Array Value} {params : Arguments} {body : Expr} {scope : Scope} {pos : Pos} {E : Value → Shared → Prop} {Q : Value → Shared → Prop} (I : Inv X pins σ H s) (TB : TabB X.base X.mg c P) (hcode : X.env.code = .ref c)
    (tk : TabK H P (X.env.qual ++ "<lambda>") ps) (hdef : defaultsOf params X.env = ([], [])) (hfree : ∀ y ∈ scope.names, y.2 = .free → ∃ c, X.env.cells.lookup y.1 = some c)
    (h : ∀ (f c' : Addr) (pm ctv : Value) (H1 : Hp) (s' : Shared), Inv X pins σ H1 s' → LamH H P (X.env.qual ++ "<lambda>") ps c' H1 →
      s'.heap.get? f = some (PySem.W.kla_obj "<lambda>" (X.env.qual ++ "<lambda>") params body scope (cloFrom X.env.cells scope.names []) pm c' ctv) → H1 f = none → f ∉ frs X.stack → H1 c' = some (CodeO c' (X.env.qual ++ "<lambda>")) → Q (.ref f) s') :
    wpAny (model X.prog X.w) X.A (eval (.Lambda params body scope pos) X.env) Q E s := by
  obtain ⟨hP, ht, ha⟩ := tk
  refine PySem.W.kla_eval hdef ?_
  have bP : s.heap.BuiltinsAt X.mg P := TB.bm.keeps I.bk
  have hP' : s.heap.get? P = some { cls := .none, data := .fields ps } := I.hok P _ hP
  have nofr : ∀ f, s.heap.objs.size ≤ f → f ∉ frs X.stack := fun f hf z => by
    rcases List.mem_cons.mp (I.stkSub _ z) with e | e
    · have h1 := I.lt
      rw [← e] at h1
      exact Nat.lt_irrefl _ (Nat.lt_of_lt_of_le h1 hf)
    · exact I.nofs hf e
  cases hc : codeAmong pos ps.toList with
  | none =>
    refine PySem.W.kla_makeFunction (mg := X.mg) (c := c) (P := P) (ps := ps) (closure_ok hfree) I.ok.glob (I.mod.glob.keeps I.bk) hcode (TB.code.keeps I.bk) hP' ht hc TB.gP bP fun c' ctv h' tk hx hge hlt hrec htb => ?_
    obtain ⟨c2, oc, vs, t, e2, hoc, hd, hv⟩ := hrec
    cases e2
    have hsz : s.heap.objs.size ≤ h'.objs.size := Nat.le_trans hge (Nat.le_of_lt hlt)
    have nC : H c' = none := I.hok.fresh hge
    have I1 := inv_table (t' := tk) (more := #[rawInt pos.line, rawInt pos.col, .ref c']) (h' := h'.push (PySem.W.kla_obj "<lambda>" (X.env.qual ++ "<lambda>") params body scope (cloFrom X.env.cells scope.names []) ((X.mg "__name__").getD .none) c' ctv)) I hP
      (fun b o hb e => Heap.get?_push_of_some _ (hx b o hb e)) (Heap.get?_push_of_some _ htb) hge ⟨oc, vs, t, Heap.get?_push_of_some _ hoc, hd, hv⟩
    have eL : (ps ++ #[rawInt pos.line, rawInt pos.col, .ref c']).toList = ps.toList ++ [rawInt pos.line, rawInt pos.col, .ref c'] := by simp
    refine h h'.objs.size c' ((X.mg "__name__").getD .none) ctv _ _ I1 (.new _ nC (by rw [eL]; exact PySem.TriplesOk_snoc _ _ _ _ ht) fun p' cv hcv => by rw [eL] at hcv; exact among_app _ ht hcv) (Heap.get?_push_size _ rfl) ?_ (nofr _ hsz) upd_same
    have n1 : h'.objs.size ≠ c' := Nat.ne_of_gt hlt
    have n2 : h'.objs.size ≠ P := Nat.ne_of_gt (Nat.lt_of_lt_of_le (Heap.lt_size hP') hsz)
    rw [upd_ne n1, upd_ne n2]
    exact I.hok.fresh hsz
  | some cv =>
    obtain ⟨c', e, hco⟩ := ha pos cv hc
    subst e
    refine PySem.W.kla_makeFunctionHit (mg := X.mg) (c := c) (P := P) (ps := ps) (closure_ok hfree) I.ok.glob (I.mod.glob.keeps I.bk) hcode (TB.code.keeps I.bk) hP' ht hc bP fun ctv h' tk hx hsz => ?_
    have I1 : Inv X pins σ H { s with heap := h'.push (PySem.W.kla_obj "<lambda>" (X.env.qual ++ "<lambda>") params body scope (cloFrom X.env.cells scope.names []) ((X.mg "__name__").getD .none) c' ctv), toks := tk } := I.kept fun b o e => Heap.get?_push_of_some _ (hx b o e)
    exact h h'.objs.size c' ((X.mg "__name__").getD .none) ctv H _ I1 (.hit ⟨pos, hc⟩) (Heap.get?_push_size _ rfl) (I.hok.fresh hsz) (nofr _ hsz) hco
/-- a frame above X: Y -/
abbrev up (X : Cx) (A : Around) (N : List Str) (s_0 : Shared) (H_0 : Hp) (env : Env) (outer stack : List Env) (fn : Str → Bool) (calm : Bool) (pn : List (Addr × Obj)) (xe : Value → Shared → Prop) : Cx :=
  ⟨X.prog, X.w, X.K, X.mg, X.base, A, N, s_0, H_0, env, outer, stack, [], fn, calm, pn, xe⟩
/-- x(), x in slot i of the frame Y above the lambda's maker X -/
theorem pe_actG {A : Around} {Ny : List Str} {s_0 : Shared} {H_0 : Hp} {yenv : Env} {outer stack : List Env} {fn : Str → Bool} {calm : Bool} {pn : List (Addr × Obj)} {xe : Value → Shared → Prop} {f c' : Addr} {pm ctv : Value} {params : Arguments} {body : Expr} {scope : Scope} {k i : Nat} {a : Str} {W : WX} {tb : XK → TE} {p1 p2 : Pos}
    (I : Inv X pins σ H s) (L : LamS X.env.scope scope) (hf : s.heap.get? f = some (PySem.W.kla_obj "<lambda>" (X.env.qual ++ "<lambda>") params body scope (cloFrom X.env.cells scope.names []) pm c' ctv)) (hfn : H f = none) (hfr : f ∉ frs X.stack)
    (hbind : bindArgs (PySem.W.kla_fn "<lambda>" (X.env.qual ++ "<lambda>") params body scope (cloFrom X.env.cells scope.names []) pm (.ref c') ctv) ⟨[], []⟩ = pure [])
    (un0 : Un (frs X.stack) [] H H_0 s.heap s_0.heap) (hst : ∀ b ∈ frs stack, b ∈ frs X.stack ∨ s.heap.get? b = none) (hfo : ∀ b ∈ frs outer, b ∈ frs stack)
    (tk : Takes (up X A Ny s_0 H_0 yenv outer stack fn calm pn xe) W) (hr : Room (k + 1) A)
    (hbody : ∀ (s1 : Shared) (HZ : Hp) (E : XK), Room k (A.deeper (lamEnv X scope s1.heap.objs.size f c')) → Un (frs X.stack) [] H HZ s.heap s1.heap → PE (lamCx X A stack s1 HZ E scope f c') body (tb E))
    (hN : Ny[i]? = some a) (hv : Vis yenv.scope a) (hd : (a == ("__debug__" : Str)) = false := by decide) (hcd : (a == ("__classdict__" : Str)) = false := by decide) :
    PE (up X A Ny s_0 H_0 yenv outer stack fn calm pn xe) (.Call (.Name a p1) [] [] p2)
      (fun σZ HZ Q => σZ[i]? = some (some (.ref f)) ∧ HZ c' = some (CodeO c' (X.env.qual ++ "<lambda>")) ∧ tb (WE W σZ) σ HZ Q) := by
  refine ⟨fun pinsZ sZ σZ HZ Q IZ h => ?_⟩
  obtain ⟨hs, hc, ht⟩ := h
  refine wpAny_Call_Name_kw (thn ((pe_var (pos := p1) (i := i) hN hv hd hcd).run pinsZ sZ σZ HZ (fun v H1 => v = .ref f ∧ H1 = HZ) IZ ⟨.ref f, hs, rfl, rfl⟩) fun u s1 ⟨v, H1, I1, r1, q1⟩ => ?_)
  obtain ⟨ev, eH⟩ := q1
  subst ev
  rw [eH] at I1
  obtain rfl : u = Value.ref f := r1
  have b1 : Un (frs outer) [] H_0 HZ s_0.heap s1.heap := I1.base
  have un : Un (frs X.stack) [] H HZ s.heap s1.heap := later un0 b1 fun b hb => hst b (hfo b hb)
  have of1 : s1.heap.get? f = some (PySem.W.kla_obj "<lambda>" (X.env.qual ++ "<lambda>") params body scope (cloFrom X.env.cells scope.names []) pm c' ctv) := un.keep f _ hf hfn hfr (by simp)
  refine PySem.W.callWith_F0 ⟨_, _, _, _, of1⟩ ?_
  obtain ⟨⟨oc, vs, t, hoc, hdc, hvc⟩, _, _⟩ := I1.hok c' _ hc
  have e0 : Env0 X.prog X.w X.K X.mg X.base A stack s1 HZ := I1.env0
  have rc : codeAny (model X.prog X.w) A (.call (.ref f) ⟨[], []⟩) (CR (L2.CX X.prog X.w) stack X.prog X.w HZ s1 Q (WE W σZ)) s1 := by
    refine PySem.W.kla_callFunE hr.depth of1 rfl L.co L.gen rfl ⟨c', oc, vs, t, rfl, hoc, hdc, hvc⟩ ?_
    rw [hbind]
    refine wpAny_pure (wpAny_newFunctionEnv (fun y hy => (L.own y hy).2) (fun y hy => absurd hy (by simp)) (fun h₁ hns hsb => ⟨I1.nolimit.fresh _ hsb, ?_⟩) L.kind)
    show codeAny _ _ (.expr body (lamEnv X scope s1.heap.objs.size f c')) _ _
    have kp : ∀ b o, s1.heap.get? b = some o → h₁.get? b = some o := fun b o e => hsb.extBut b o (Nat.ne_of_lt (Heap.lt_size e)) (Heap.get?_push_of_some _ e)
    have J : Inv (lamCx X A stack s1 HZ (WE W σZ) scope f c') [] σ HZ { s1 with heap := h₁, toks := s1.toks + ([] : List (Str × Value)).length } :=
      lam_start2 I L e0 hr.hd un hns kp
    refine PySem.W.kla_codeExpr (wpAny_mono ((hbody s1 HZ _ (hr.deeper _) un).run [] _ _ HZ Q J ht) (fun v s' hq => ?_) fun e s' hq => hq)
    obtain ⟨w', H', J', rv, q⟩ := hq
    exact ⟨w', H', J'.os, J'.bare, J'.base, J'.hok, rv, q⟩
  refine wpAny_call (codeAny_mono rc fun r s' hq => ?_)
  cases r with
  | error e => exact passAt tk σZ pinsZ HZ s1 e s' I1 hq
  | ok fl =>
    cases fl with
    | ret u => exact I1.after hq
    | next => exact False.elim hq
    | brk => exact False.elim hq
    | cont => exact False.elim hq
end
end Wd
end

section
set_option Elab.async false
set_option linter.all false
set_option maxRecDepth 100000
set_option maxHeartbeats 2000000
/-! Wd2: a caught exception is kept behind its suite. -/
namespace Wd
open PySem PySem.Spec PyProof.Rows L2 LamX
/-- at a: an exception of the class cls, with the dict d -/
def exK (a : Addr) (cls : Value) (d : Option Addr) : HO := .ext fun h => ∃ oe : Obj, h.get? a = some oe ∧ Zc cls d oe ∧ ∃ vs, oe.data = .fields vs
theorem exK_at {P : Program} {w : World} {H : Hp} {h : Heap} {a : Addr} {cls : Value} {d : Option Addr} (hok : HOk P w H h) (e : H a = some (exK a cls d)) : ∃ oe : Obj, h.get? a = some oe ∧ Zc cls d oe ∧ ∃ vs, oe.data = .fields vs := by
  have x : ObjOk P w H h a (.ext fun h => ∃ oe : Obj, h.get? a = some oe ∧ Zc cls d oe ∧ ∃ vs, oe.data = .fields vs) := hok a _ e
  exact x.1
theorem exK_ne {a b : Addr} {cls : Value} {d : Option Addr} : exK a cls d ≠ .own b := fun z => by unfold exK at z; cases z
section
variable {X : Cx} {pins : List (Addr × Obj)} {σ : L2.St} {H : Hp} {s : Shared}
/-- an object that is new since the frame's start is told of from now on -/
theorem track {a : Addr} {oe : Obj} {cls : Value} {d : Option Addr} {vs : Array Value} (I : Inv X pins σ H s) (ho : s.heap.get? a = some oe) (hz : Zc cls d oe) (hd : oe.data = .fields vs) (na : H a = none) (nL : a ≠ X.env.locals) (nw : X.s_0.heap.get? a = none)
    (hp : ∀ p ∈ X.pn ++ pins, p.1 ≠ a) : Inv X pins σ (upd H a (exK a cls d)) s := by
  have ne : ∀ b u, H b = some u → b ≠ a := fun b u e => ne_of_none e na
  have ne0 : ∀ b o, X.s_0.heap.get? b = some o → b ≠ a := fun b o e z => by
    rw [z, nw] at e
    cases e
  refine ⟨I.ok, I.os, I.bare, ⟨I.base.keep, I.base.slot, fun b o e n hx => ?_, I.base.there, fun b xs e => ?_, fun b o u e => ?_, fun b ps e => ?_⟩, I.loc, I.cell, ?_, fun y c e => ?_, fun p h => ?_, fun b u e => ?_, I.len⟩
  · rw [upd_ne (ne0 b o e)]
    exact I.base.free b o e n hx
  · have q := I.base.tups b xs e
    rw [upd_ne (ne b _ q)]
    exact q
  · have q := I.base.frzs b o u e
    rw [upd_ne (ne b _ q)]
    exact q
  · obtain ⟨more, q⟩ := I.base.tbls b ps e
    exact ⟨more, by rw [upd_ne (ne b _ q)]; exact q⟩
  · rw [upd_ne (Ne.symm nL)]
    exact I.free
  · obtain ⟨v, oc, h1, h2⟩ := I.cell y c e
    have : c ≠ a := fun z => by
      rw [z, ho] at h1
      cases h1
      rw [hd] at h2
      cases h2
    rw [upd_ne this]
    exact I.freeC y c e
  · obtain ⟨h1, h2, h3⟩ := I.pin p h
    exact ⟨h1, by rw [upd_ne (hp p h)]; exact h2, h3⟩
  · by_cases hb : b = a
    · subst hb
      rw [upd_same] at e
      cases e
      exact ⟨⟨oe, ho, hz, vs, hd⟩, ⟨oe, ho⟩, fun h1 h2 ⟨o1, e1, e2⟩ st => ⟨o1, st _ e1, e2⟩⟩
    · rw [upd_ne hb] at e
      exact (I.hok b u e).stay (fun c v _ q => q) (fun c q => by rw [upd_ne (ne c _ q)]; exact q) fun c xs q => by rw [upd_ne (ne c _ q)]; exact q
end
/-- what the clause wishes of an exception; the object is told of behind the suite -/
def wAsK (K : PySem.W.Frag) (c : Value) (i : Nat) (ts : Addr → Value → Option Addr → TS) (Wout : WX) (D : Ends) : WX := fun cls d σ H =>
  ∃ b, PySem.W.exmOne K cls c = some b ∧ (b = true → ∀ a, H a = none → ts a cls d { nx := fun σ' H' => D.nx (σ'.set i none) (upd H' a (exK a cls d)), rt := fun _ _ => False, bk := fun _ _ => False, ct := fun _ _ => False } (σ.set i (some (.ref a))) H) ∧
    (b = false → Wout cls d σ H)
section
variable {X : Cx} {x n : Str} {c : Value} {i : Nat} {body suite : List Stmt} {b₀ : Stmt} {np pos pos' : Pos} {tb : WX → TS} {ts : Addr → Value → Option Addr → TS} {Wout : WX}
theorem ps_try_asK (hs : X.stack = X.env :: X.outer) (hf : X.env.frame = some X.env.locals) (hex : X.ex = []) (hN : X.N.Nodup) (hi : X.N[i]? = some n) (hln : X.env.kindOf n = some .local) (hc : Names X x c) (tk : Takes X Wout)
    (hb : ∀ (W : WX) (pn : List (Addr × Obj)) (xe : Value → Shared → Prop), Takes (X.tr pn xe) W → PassesOwn (model X.prog X.w) X.A X.env xe → PSs (X.tr pn xe) body (tb W))
    (hsu : ∀ (a : Addr) (oe : Obj) (cls : Value) (d : Option Addr) (pn : List (Addr × Obj)), Zc cls d oe → (∃ vs, oe.data = .fields vs) → PSs (X.suite a ((a, oe) :: pn)) (b₀ :: suite) (ts a cls d)) :
    PS X (.Try body [.ExceptHandler (some (.Name x np)) (some n) (b₀ :: suite) pos'] [] [] pos) (fun D σ H => tb (wAsK X.K c i ts Wout D) D σ H) := by
  refine ⟨fun pins s σ H D I h => ?_⟩
  have ok := I.ok
  have hfr : X.A.frames = some (X.env :: X.outer) := by rw [ok.frames, hs]
  refine wpAny_Try_except ?_
  have hand : List ExceptHandler := [.ExceptHandler (some (.Name x np)) (some n) (b₀ :: suite) pos']
  refine wpAny_mono ((hb (wAsK X.K c i ts Wout D) (X.pn ++ pins) (fun e s₁ => wpAny (model X.prog X.w) X.A (noteFrame e X.env) (fun _ s₂ => wpAny (model X.prog X.w) X.A (setFlight e none) (fun _ s₃ =>
    wpAny (model X.prog X.w) X.A (handleBy e X.env [.ExceptHandler (some (.Name x np)) (some n) (b₀ :: suite) pos']) (SP X pins D) X.xe s₃) X.xe s₂) X.xe s₁) (fun u s' xx => ?_) PassesOwn.looking).run [] s σ H D (I.toTry _) h) (fun f s1 hsp => ?_) (fun e s1 he => he)
  · obtain ⟨a, B, sI, pins', σ', H', cls, d, rfl, J', nb, up, sky, na, os, ag, b, hb1, hyes, hno⟩ := xx
    have J : Inv X pins σ' H' sI := J'.ofTry ok
    rw [hs] at sky
    show wpAny (model X.prog X.w) X.A (noteFrame (.ref a) X.env) _ _ _
    refine Sky.land Zc.steady hfr hf sky fun h3 fl3 up3 => ?_
    have J3 : Inv X pins σ' H' { s' with heap := h3 } := J.landed nb fl3.1 (up.trans up3) os ag
    obtain ⟨oe3, vs3, he3, hz3, hd3⟩ := fl3.there
    have nfr : a ∉ frs (X.env :: X.outer) := fun hm => by
      obtain ⟨_, o', e', hnf⟩ := fl3.2.2.1.mem hm
      rw [he3] at e'
      cases e'
      exact hnf _ hd3
    have nL : a ≠ X.env.locals := fun z => nfr (List.mem_filterMap.mpr ⟨X.env, List.mem_cons_self, by rw [hf, z]⟩)
    have nF : a ∉ X.fs := fun hm => by
      obtain ⟨e, he, q⟩ := List.mem_filterMap.mp hm
      exact nfr (List.mem_filterMap.mpr ⟨e, List.mem_cons_of_mem _ he, q⟩)
    have nB : B.get? a = none := fl3.2.1
    have nI : ∀ o, sI.heap.get? a ≠ some o := fun o e => by
      have := nb a o e (by rw [hs]; exact nfr)
      rw [nB] at this
      cases this
    have n0 : X.s_0.heap.get? a = none := by
      cases e : X.s_0.heap.get? a with
      | none => rfl
      | some o =>
        obtain ⟨o', e'⟩ := J.base.there a o e (by rw [hex]; simp)
        exact absurd e' (nI o')
    have npin : ∀ p ∈ X.pn ++ pins, p.1 ≠ a := fun p hp z => by
      have := (J.pin p hp).1
      rw [z] at this
      exact nI _ this
    have S3 := J3.suite he3 hd3 na nL nF
    refine wpAny_handleBy_cons (codeAny_handlers_test ?_) (by intro q; cases q)
    have LT : PySem.W.Looks (model X.prog X.w) h3 (typeOf (.ref a)) cls := fun A Q E s k q => wpAny_typeOf_ref (k _ _ he3) (by rw [hz3.1]; exact q)
    have LM := PySem.W.exm_one (M := model X.prog X.w) (J3.kIn) LT hb1
    have test : ∀ {Q : Value → Shared → Prop} {E : Value → Shared → Prop}, Q c { s' with heap := h3 } → wpAny (model X.prog X.w) (X.A.mark (some (.ref a))) (eval (.Name x np) X.env) Q E { s' with heap := h3 } := fun {Q E} q => by
      obtain ⟨hg, hdbg, hm | ⟨hm, hv, hnn⟩⟩ := hc
      · exact ld_glob (X := X.suite a ((a, oe3) :: (X.pn ++ pins))) S3 hg hm q hdbg
      · exact ld_blt (X := X.suite a ((a, oe3) :: (X.pn ++ pins))) S3 hg hm hv q hnn hdbg
    refine test (LM.here ?_)
    cases b with
    | true =>
      refine codeAny_handlers_suite_as ?_
      refine HandSPX.lands_againZ fl3 fun h4 fl4 up4 => ?_
      have J4 : Inv X pins σ' H' { s' with heap := h4 } := J.landed nb fl4.1 ((up.trans up3).trans up4) os ag
      obtain ⟨oe4, vs4, he4, hz4, hd4⟩ := fl4.there
      have S4 := J4.suite he4 hd4 na nL nF
      refine store_ok (X := X.suite a ((a, oe4) :: (X.pn ++ pins))) (v := .ref a) S4 hN hi (.inl hln) rfl (fun s5 S5 => ?_) (.inr hln)
      refine wpAny_mono ((hsu a oe4 cls d (X.pn ++ pins) hz4 ⟨_, hd4⟩).run [] s5 _ H' _ S5 (hyes rfl a na)) (fun f s6 hsp => ?_) (fun _ _ z => False.elim z)
      cases f with
      | next =>
        obtain ⟨σ6, H6, S6, q6⟩ := hsp
        obtain ⟨p1, p2, _⟩ := S6.pin (a, oe4) (List.mem_append_left _ List.mem_cons_self)
        have J6 := track (S6.unsuite ok) p1 hz4 hd4 p2 nL n0 npin
        exact gone_ok J6 hN hi hln fun s7 J7 => ⟨_, _, J7, q6⟩
      | brk => exact hsp.elim fun _ z => z.elim fun _ z => z.2.elim
      | cont => exact hsp.elim fun _ z => z.elim fun _ z => z.2.elim
      | ret u => exact hsp.elim fun _ z => z.elim fun _ z => z.elim fun _ z => z.2.2.elim
    | false =>
      show wpAny _ X.A (handleBy (.ref a) X.env []) _ _ _
      refine wpAny_handleBy_nil ?_
      obtain ⟨k1, k2, k3, oe, vs, T, oT, ts', he, hz, hd, h1, hr⟩ := id fl3
      unfold PySem.passOn
      refine wpAny_bind (wpAny_field he hd h1 ?_)
      rw [if_neg (show ¬ ((Value.ref T == Value.none) = true) from by simp)]
      have fin : wpAny (model X.prog X.w) X.A (setFlight (.ref a) X.env.frame) (fun _ s4 => wpAny (model X.prog X.w) X.A (throw (.ref a) : Sem Flow) (SP X pins D) X.xe s4) X.xe { s' with heap := h3 } := by
        rw [hf]
        refine HandSPX.setFlight_upZ fl3 fun h4 hh4 up4 => wpAny_throw (tk _ _ ?_)
        exact ⟨a, B, sI, pins, σ', H', cls, d, rfl, J, nb, (up.trans up3).trans up4, .inr (.inr (by rw [hs]; exact hh4)), na, os, ag, hno rfl⟩
      first
        | exact wpAny_bind (wpAny_pure (wpAny_bind fin))
        | exact wpAny_bind fin
  · cases f with
    | next =>
      obtain ⟨σ', H', J', q⟩ := hsp
      exact wpAny_execs_nil ⟨σ', H', J'.ofTry ok, q⟩
    | brk =>
      obtain ⟨σ', H', J', q⟩ := hsp
      exact ⟨σ', H', J'.ofTry ok, q⟩
    | cont =>
      obtain ⟨σ', H', J', q⟩ := hsp
      exact ⟨σ', H', J'.ofTry ok, q⟩
    | ret u =>
      obtain ⟨v, σ', H', J', r, q⟩ := hsp
      exact ⟨v, σ', H', J'.ofTry ok, r, q⟩
end
/-! ### what is asked of a kept exception -/
/-- isinstance(e, c) -/
def rIsK (K : PySem.W.Frag) : List V → Hp → VK → Prop := fun xs H Q => ∃ (a C : Addr) (d : Option Addr) (c : V) (cv : Value) (b : Bool), xs = [.ref a, c] ∧ ExcC K C ∧ H a = some (exK a (.ref C) d) ∧ (∀ dd, d = some dd → ∃ fs, H dd = some (.xd fs)) ∧ (∀ u, RelV c u → u = cv) ∧ PySem.W.kitOne K (.ref C) cv = some b ∧ Q (.bl b) H
theorem inst_at {X : Cx} {pins : List (Addr × Obj)} {σ : L2.St} {H : Hp} {s : Shared} {a C : Addr} {d : Option Addr} (I : Inv X pins σ H s) (h : H a = some (exK a (.ref C) d)) (hd : ∀ dd, d = some dd → ∃ fs, H dd = some (.xd fs)) : ∃ ox od, PySem.W.InstAt s.heap a ox C od := by
  obtain ⟨oe, ho, hz, vs, hv⟩ := exK_at I.hok h
  cases d with
  | none => exact ⟨oe, none, ho, hz.1, by unfold PySem.W.notCls; rw [hv] <;> rfl, by rw [hz.2]; trivial⟩
  | some dd =>
    obtain ⟨fs, hf⟩ := hd dd rfl
    have hx : ObjOk X.prog X.w H s.heap dd (.xd fs) := I.hok dd _ hf
    obtain ⟨mA, hns, hr⟩ := hx
    obtain ⟨od, e1, e2⟩ := lookIn_ns hns
    exact ⟨oe, some od, ho, hz.1, by unfold PySem.W.notCls; rw [hv] <;> rfl, by rw [hz.2]; exact e1⟩
theorem call_isK {X : Cx} : CallR X (.builtin "isinstance") (rIsK X.K) := by
  intro pins s σ H xs us Q I r h
  obtain ⟨a, C, d, c, cv, b, rfl, T, ha, hd, hcv, e, q⟩ := h
  cases r with
  | cons rx rr =>
    cases rr with
    | cons rt rr =>
      cases rr
      cases rx
      have ec := hcv _ rt
      subst ec
      obtain ⟨ox, od, J⟩ := inst_at I ha hd
      obtain ⟨cd, hcd, _⟩ := PySem.W.any_some T.hd
      exact PySem.W.kia_one (PySem.W.kitx_exc (ox := ox) (od := od) (by rw [hcd]; rfl) T.hg T.hk T.hs T.ha T.hn T.ht T.hm) I.kIn J e (fun z => nomatch z) fun tk => ⟨.bl b, H, I.kept (t' := tk) fun _ _ z => z, rfl, q⟩
/-- e.f -/
def tXk (K : PySem.W.Frag) (f : Str) (te : TE) : TE := fun σ H Q => te σ H fun x H1 => ∃ (a C dd : Addr) (fs : List (Str × V)) (v : V), x = .ref a ∧ XfC K C ∧ PySem.W.findIn K (.ref C) f = some none ∧ H1 a = some (exK a (.ref C) (some dd)) ∧ H1 dd = some (.xd fs) ∧ fs.lookup f = some v ∧ Q v H1
theorem pe_xk {X : Cx} {e : Expr} {te : TE} {pos : Pos} {n : Str} (he : PE X e te) (hb : attributeBase e n X.env (eval e X.env) = eval e X.env := by rfl) : PE X (.Attribute e n pos) (tXk X.K n te) := by
  refine ⟨fun pins s σ H Q I h => ?_⟩
  refine attr_of hb (thn (he.run pins s σ H _ I h) fun u s1 hh => ?_)
  obtain ⟨x, H1, I1, rx, a, C, dd, fs, v, ex, T, hno, ea, ed, l, q⟩ := hh
  subst ex
  obtain rfl : u = Value.ref a := rx
  obtain ⟨oe, ho, hz, vs, hd⟩ := exK_at I1.hok ea
  have hx : ObjOk X.prog X.w H1 s1.heap dd (.xd fs) := I1.hok dd _ ed
  obtain ⟨mA, hns, hr⟩ := hx
  obtain ⟨od, hod, hl⟩ := lookIn_ns hns
  obtain ⟨u, hu, ru⟩ := RelO.some_of (v := v) (o := mA n) (by rw [← l]; exact hr n)
  have J : PySem.W.InstAt s1.heap a oe C (some od) := ⟨ho, hz.1, by unfold PySem.W.notCls; rw [hd] <;> rfl, by rw [hz.2]; exact hod⟩
  exact HandSPX.exc_get I1.kIn J T.ga T.gg T.exC (PySem.W.findObj_own T.hdC hno rfl (by rw [hl, hu])) (handed_of ru) ⟨v, H1, I1.tok _, ru, q⟩
end Wd
end

section
set_option Elab.async false
set_option linter.all false
set_option maxRecDepth 100000
set_option maxHeartbeats 2000000
/-! Wd3: the body of _law_caught. -/
namespace Wd
open PySem PySem.Spec PyProof.Rows L2 LamX
/-- a list that is not empty is not the empty one -/
def rNeL : R2 := fun x y H Q => ∃ a b xs, x = .ref a ∧ y = .ref b ∧ H a = some (.lst xs) ∧ H b = some (.lst []) ∧ Q (.bl (!xs.isEmpty)) H
theorem op_neL {X : Cx} (hu : X.A.units + 64 < cLine) : OpR X (compareOp .NotEq) rNeL := by
  intro pins s σ H x y v u Q I rx ry h
  obtain ⟨a, b, xs, rfl, rfl, ha, hb, q⟩ := h
  cases xs with
  | nil => exact op_neD hu pins s σ H _ _ v u Q I rx ry ⟨.list [], .list [], .lst (SqL.of ha) .nil, .lst (SqL.of hb) .nil, rfl, rfl, q⟩
  | cons w ws =>
    cases rx
    cases ry
    obtain ⟨_, its, n, r, e1⟩ := I.hok a _ ha
    obtain ⟨_, its2, n2, r2, e2⟩ := I.hok b _ hb
    have l1 : s.heap.IsList a its.toArray := ⟨_, e1, rfl, n, rfl⟩
    have l2 : s.heap.IsList b its2.toArray := ⟨_, e2, rfl, n2, rfl⟩
    have z1 := r.length
    have z2 := r2.length
    simp only [List.length_cons, List.length_nil] at z1 z2
    have hsz : (its.toArray.size != its2.toArray.size) = true := by
      simp only [List.size_toArray, ← z1, ← z2]
      rfl
    exact SeqAt.RcNeAt.lists_lengths l1 l2 hsz (by omega) X.prog X.w _ _ ⟨.bl _, H, I, rfl, q⟩
section
variable {P : Program} {w : World} {K : PySem.W.Frag} {mg : Str → Option Value} {base : Heap} {x : Str} {sg : Scope} {g : Addr} {cdg : Value} {A : Around} {outer : List Env} {s : Shared} {H : Hp} {E : XK} {f c' CO : Addr} {q : Str} {Q : VK} {tl : XK → Hp → VK → Prop}
abbrev NC : List Str := ["action", "found", "error"]
abbrev cxC (P : Program) (w : World) (K : PySem.W.Frag) (mg : Str → Option Value) (base : Heap) (x : Str) (sg : Scope) (g : Addr) (cdg : Value) (A : Around) (outer : List Env) (s : Shared) (H : Hp) (E : XK) : Cx := cxOf (L2.CX P w) P w K mg base NC x sg g cdg A outer s H E
/-- what a call of _law_caught with the function f asks: tl, what a call of f asks -/
def spCaught (K : PySem.W.Frag) (CO : Addr) (tl : XK → Hp → VK → Prop) : Hp → VK → XK → Prop := fun H Q E => ∀ a0, H a0 = none →
  tl (fun cls d H' => ∃ b, PySem.W.exmOne K cls (.ref CO) = some b ∧ (b = true → H' a0 = some (.lst []) ∧ ∀ a b0, H' a = none → upd (upd H' a0 (.lst [.ref a])) a (exK a cls d) b0 = none → Q (.ref a) (upd (upd (upd H' a0 (.lst [.ref a])) a (exK a cls d)) b0 (.lst []))) ∧ (b = false → E cls d H'))
    (upd H a0 (.lst [])) fun v H' => H' a0 = some (.lst []) ∧ ∀ b0, H' b0 = none → Q .non (upd H' b0 (.lst []))
theorem caught_ps {a1 a2 a3 p1 p2 p3 p4 p5 p6 b1 b2 b3 b4 b5 c1 c2 c3 c4 c5 c6 c7 c8 c9 : Pos} {j : Nat} {j2 : Nat} (S : FnScope NC ["action"] sg) (h1 : sg.names.lookup ("found" : Str) = some .local) (h2 : sg.names.lookup ("error" : Str) = some .local) (h3 : sg.names.lookup ("OrderError" : Str) = some .globalImplicit)
    (hm : mg "OrderError" = some (.ref CO)) (hl : (b2.endLine == b4.line) = true) (hu : (A.deeper (envOfC x sg s.heap.objs.size g cdg)).units + 64 < cLine)
    (act : ∀ (W : WX) (pn : List (Addr × Obj)) (xe : Value → Shared → Prop), Takes ((cxC P w K mg base x sg g cdg A outer s H E).tr pn xe) W →
      PE ((cxC P w K mg base x sg g cdg A outer s H E).tr pn xe) (.Call (.Name "action" p1) [] [] p2) (fun σZ HZ Q => σZ[0]? = some (some (.ref f)) ∧ HZ c' = some (CodeO c' q) ∧ tl (WE W σZ) HZ Q))
    (mono : ∀ {E E' : XK} {H : Hp} {Q Q' : VK}, (∀ cls d H', E cls d H' → E' cls d H') → (∀ v H', Q v H' → Q' v H') → tl E H Q → tl E' H Q')
    (hc : H c' = some (CodeO c' q)) (h : spCaught K CO tl H Q E) :
    ∃ t, PSs (cxC P w K mg base x sg g cdg A outer s H E) [.Assign [.Name "found" a1] (.List [] a2) a3,
      .Try [.Expr (.Call (.Name "action" p1) [] [] p2) p3] [.ExceptHandler (some (.Name "OrderError" p4)) (some "error") [.Expr (.Call (.Attribute (.Name "found" b1) "append" b2) [.Name "error" b3] [] b4) b5] p5] [] [] p6,
      .Return (some (.IfExp (.Compare (.Name "found" c1) [.NotEq] [.List [] c2] c3) (.Subscript (.Name "found" c4) (.Constant (.int 0) j c5) c6) (.Constant .none j2 c7) c8)) c9] t ∧
      t { nx := fun _ H' => Q .non H', rt := Q } (L2.start NC [.ref f]) H := by
  have vf : Vis sg ("found" : Str) := .inl h1
  have ve : Vis sg ("error" : Str) := .inl h2
  have hgl : Gl (cxC P w K mg base x sg g cdg A outer s H E) "OrderError" := h3
  have tkO : Takes (cxC P w K mg base x sg g cdg A outer s H E) (fun cls d _ H' => E cls d H') := takes_of (E := E) rfl rfl rfl rfl
  refine ⟨_, pss_cons (ps_set (i := 1) S.nd rfl (.inl h1) (pe_lst pa_nil) rfl (.inl rfl))
    (pss_cons (ps_try_asK (X := cxC P w K mg base x sg g cdg A outer s H E) (c := .ref CO) (i := 2) (ts := fun _ _ _ => tDrop (tBM K "list" rAppend (tVar 1) (tCons (tVar 2) tNil))) (tb := fun W D σ H => σ[0]? = some (some (.ref f)) ∧ H c' = some (CodeO c' q) ∧ tl (WE W σ) H fun v H' => D.nx σ H')
        rfl rfl rfl S.nd rfl h2 ⟨hgl, by decide, .inl hm⟩ tkO (fun W pn xe tk _ => ?_)
        (fun a oe cls d pn _ _ => pss_one (ps_expr (pe_bm PySem.F.plainAttrs_list PySem.F.slot_list_append PySem.F.type_list_append mt_append (pe_var (x := ("found" : Str)) (i := 1) rfl vf) (pa_cons (pe_var (x := ("error" : Str)) (i := 2) rfl ve) pa_nil) rfl rfl hl))))
      (pss_one (ps_ret (pe_ifExp (pt_cmpR (op_neL hu) (pe_var (x := ("found" : Str)) (i := 1) rfl vf) (pe_lst pa_nil) rfl) (pe_ix ix_list (pe_var (x := ("found" : Str)) (i := 1) rfl vf) pe_int (fun _ _ => rfl)) pe_non)))), ?_⟩
  · exact pss_one ⟨fun pins s' σ H' D I h' => (ps_expr (act W pn xe tk)).run pins s' σ H' D I h'⟩
  · refine ⟨Nat.zero_le _, fun a0 n0 => ?_⟩
    have nc : c' ≠ a0 := ne_of_none hc n0
    refine ⟨rfl, by rw [upd_ne nc]; exact hc, mono (fun cls d H' hE => ?_) (fun v H' hQ => ?_) (h a0 n0)⟩
    · obtain ⟨b, e1, e2, e3⟩ := hE
      refine ⟨b, e1, fun hb a na => ?_, e3⟩
      obtain ⟨l1, l2⟩ := e2 hb
      have n1 : a0 ≠ a := ne_of_none l1 na
      refine ⟨.ref a0, rfl, .inl ⟨rfl, _, SqL.of l1⟩, .ref a, rfl, a0, [], .ref a, rfl, rfl, l1, by rw [sizeLine_eq]; simp, ?_⟩
      have f0 : upd (upd H' a0 (.lst [.ref a])) a (exK a cls d) a0 = some (.lst [.ref a]) := by rw [upd_ne n1, upd_same]
      refine ⟨.ref a0, rfl, Nat.zero_le _, fun b0 nb => ?_⟩
      have nb0 : a0 ≠ b0 := ne_of_none f0 nb
      have f1 : upd (upd (upd H' a0 (.lst [.ref a])) a (exK a cls d)) b0 (.lst []) a0 = some (.lst [.ref a]) := by rw [upd_ne nb0]; exact f0
      exact ⟨a0, b0, _, rfl, rfl, f1, upd_same, true, rfl, .ref a0, rfl, a0, _, 0, .ref a, rfl, rfl, SqL.of f1, rfl, l2 a b0 na nb⟩
    · obtain ⟨l1, l2⟩ := hQ
      refine ⟨.ref a0, rfl, Nat.zero_le _, fun b0 nb => ?_⟩
      have nb0 : a0 ≠ b0 := ne_of_none l1 nb
      have f1 : upd H' b0 (.lst []) a0 = some (.lst []) := by rw [upd_ne nb0]; exact l1
      exact ⟨a0, b0, _, rfl, rfl, f1, upd_same, false, rfl, l2 b0 nb⟩
end
end Wd
end

section
set_option Elab.async false
set_option linter.all false
set_option maxRecDepth 100000
set_option maxHeartbeats 2000000
/-! Wd4: _law_caught(lambda: told.append(action())). -/
namespace Wd
open PySem PySem.Spec PyProof.Rows L2 LamX
/-- a call of the function f that the frame X made, at H, s, from any frame above -/
def Act (X : Cx) (H : Hp) (s : Shared) (k : Nat) (f c' : Addr) (q : Str) (tl : XK → Hp → VK → Prop) : Prop :=
  ∀ {A : Around} {Ny : List Str} {s_0 : Shared} {H_0 : Hp} {yenv : Env} {outer stack : List Env} {fn : Str → Bool} {calm : Bool} {pn : List (Addr × Obj)} {xe : Value → Shared → Prop} {i : Nat} {a : Str} {W : WX} {p1 p2 : Pos},
    Un (frs X.stack) [] H H_0 s.heap s_0.heap → (∀ b ∈ frs stack, b ∈ frs X.stack ∨ s.heap.get? b = none) → (∀ b ∈ frs outer, b ∈ frs stack) → Takes (up X A Ny s_0 H_0 yenv outer stack fn calm pn xe) W → Room (k + 1) A → A.guards = some [] →
    Ny[i]? = some a → Vis yenv.scope a → (a == ("__debug__" : Str)) = false → (a == ("__classdict__" : Str)) = false →
    PE (up X A Ny s_0 H_0 yenv outer stack fn calm pn xe) (.Call (.Name a p1) [] [] p2) (fun σZ HZ Q => σZ[i]? = some (some (.ref f)) ∧ HZ c' = some (CodeO c' q) ∧ tl (WE W σZ) HZ Q)
/-- nothing of the heap at s stands beyond -/
theorem beyond {fs : List Addr} {H H1 : Hp} {h h1 : Heap} (u : Un fs [] H H1 h h1) : h.get? h1.objs.size = none := by
  cases e : h.get? h1.objs.size with
  | none => rfl
  | some o =>
    obtain ⟨o', e'⟩ := u.there _ o e (by simp)
    exact absurd (Heap.lt_size e') (Nat.lt_irrefl _)
abbrev NW : List Str := ["action", "told", "error", "word", "is_one"]
section
variable {X : Cx} {x : Str} {gw : Addr} {cdw : Value} {sw : Scope} {s : Shared} {H : Hp} {E : XK} {f c1 CO : Addr} {q1 : Str} {tl : XK → Hp → VK → Prop} {k : Nat}
abbrev cxW (X : Cx) (x : Str) (sw : Scope) (gw : Addr) (cdw : Value) (s : Shared) (H : Hp) (E : XK) : Cx := cxOf (L2.CX X.prog X.w) X.prog X.w X.K X.mg X.base NW x sw gw cdw X.A X.stack s H E
/-- what the inner lambda asks -/
def tl2 (K : PySem.W.Frag) (f c1 : Addr) (q1 : Str) (tl : XK → Hp → VK → Prop) (σ : L2.St) : XK → Hp → VK → Prop := fun E H Q =>
  tBM K "list" rAppend (tVar 1) (tCons (fun σZ HZ Q => σZ[0]? = some (some (.ref f)) ∧ HZ c1 = some (CodeO c1 q1) ∧ tl E HZ Q) tNil) σ H Q
theorem tl2_mono {K : PySem.W.Frag} {σ : L2.St} (mono : ∀ {E E' : XK} {H : Hp} {Q Q' : VK}, (∀ cls d H', E cls d H' → E' cls d H') → (∀ v H', Q v H' → Q' v H') → tl E H Q → tl E' H Q') {E E' : XK} {H : Hp} {Q Q' : VK} (hE : ∀ cls d H', E cls d H' → E' cls d H') (hQ : ∀ v H', Q v H' → Q' v H') :
    tl2 K f c1 q1 tl σ E H Q → tl2 K f c1 q1 tl σ E' H Q' := by
  rintro ⟨v, e1, e2, e3, e4, e5⟩
  exact ⟨v, e1, e2, e3, e4, mono hE (fun v H' ⟨l, xs, y, a1, a2, a3, a4, a5⟩ => ⟨l, xs, y, a1, a2, a3, a4, hQ _ _ a5⟩) e5⟩
/-- the inner lambda's body, in its frame -/
theorem inner_pe {pins : List (Addr × Obj)} {σ : L2.St} {H3 H4 : Hp} {s3 s4 : Shared} {Ac : Around} {outerC : List Env} {E2 : XK} {scope2 : Scope} {f2 c2 : Addr} {b1 b2 b3 b4 b5 : Pos} (act : Act X H s k f c1 q1 tl)
    (Iw : Inv (cxW X x sw gw cdw s H E) pins σ H3 s3) (un : Un (frs (cxW X x sw gw cdw s H E).stack) [] H3 H4 s3.heap s4.heap)
    (hout : ∀ b ∈ frs outerC, b ∈ frs (cxW X x sw gw cdw s H E).stack ∨ s3.heap.get? b = none) (hgA : Ac.guards = some []) (hr : Room (k + 1) (Ac.deeper (lamEnv (cxW X x sw gw cdw s H E) scope2 s4.heap.objs.size f2 c2)))
    (v0 : Vis scope2 ("action" : Str)) (v1 : Vis scope2 ("told" : Str)) (hl : (b2.endLine == b5.line) = true) :
    PE (lamCx (cxW X x sw gw cdw s H E) Ac outerC s4 H4 E2 scope2 f2 c2) (.Call (.Attribute (.Name "told" b1) "append" b2) [.Call (.Name "action" b3) [] [] b4] [] b5) (fun σ H Q => tl2 X.K f c1 q1 tl σ E2 H Q) := by
  have bI : Un (frs X.stack) [] H H3 s.heap s3.heap := Iw.base
  have new : ∀ b ∈ frs (cxW X x sw gw cdw s H E).stack, b ∈ frs X.stack ∨ s.heap.get? b = none := fun b hb => by
    have : b ∈ s.heap.objs.size :: frs X.stack := hb
    rcases List.mem_cons.mp this with rfl | h
    · exact .inr (Heap.get?_none_of_le (Nat.le_refl _))
    · exact .inl h
  have b04 : Un (frs X.stack) [] H H4 s.heap s4.heap := later bI un new
  have old : ∀ b, s3.heap.get? b = none → s.heap.get? b = none := fun b e => by
    cases e0 : s.heap.get? b with
    | none => rfl
    | some o =>
      obtain ⟨o', e'⟩ := bI.there b o e0 (by simp)
      rw [e] at e'
      cases e'
  have hst : ∀ b ∈ frs (lamCx (cxW X x sw gw cdw s H E) Ac outerC s4 H4 E2 scope2 f2 c2).stack, b ∈ frs X.stack ∨ s.heap.get? b = none := fun b hb => by
    have : b ∈ s4.heap.objs.size :: frs outerC := hb
    rcases List.mem_cons.mp this with rfl | h
    · exact .inr (beyond b04)
    · rcases hout b h with z | z
      · exact new b z
      · exact .inr (old b z)
  have tk : Takes (lamCx (cxW X x sw gw cdw s H E) Ac outerC s4 H4 E2 scope2 f2 c2) (fun cls d _ H' => E2 cls d H') := takes_of (E := E2) rfl rfl rfl rfl
  have hA := act (A := Ac.deeper (lamEnv (cxW X x sw gw cdw s H E) scope2 s4.heap.objs.size f2 c2)) (Ny := NW) (s_0 := s4) (H_0 := H4) (yenv := lamEnv (cxW X x sw gw cdw s H E) scope2 s4.heap.objs.size f2 c2) (outer := outerC) (i := 0) (a := "action") (p1 := b3) (p2 := b4) b04 hst (fun b hb => List.mem_cons_of_mem _ hb) tk hr hgA rfl v0 (by decide) (by decide)
  exact pe_bm (X := lamCx (cxW X x sw gw cdw s H E) Ac outerC s4 H4 E2 scope2 f2 c2) PySem.F.plainAttrs_list PySem.F.slot_list_append PySem.F.type_list_append mt_append (pe_var (x := ("told" : Str)) (i := 1) rfl v1) (pa_cons hA pa_nil) rfl rfl hl
/-- the text of _law_caught -/
structure CaughtTxt (x : Str) (sg : Scope) (b : List Stmt) : Prop where
  ex : ∃ (a1 a2 a3 p1 p2 p3 p4 p5 p6 b1 b2 b3 b4 b5 c1 c2 c3 c4 c5 c6 c7 c8 c9 : Pos) (j j2 : Nat), (b2.endLine == b4.line) = true ∧ b = [.Assign [.Name "found" a1] (.List [] a2) a3,
      .Try [.Expr (.Call (.Name "action" p1) [] [] p2) p3] [.ExceptHandler (some (.Name "OrderError" p4)) (some "error") [.Expr (.Call (.Attribute (.Name "found" b1) "append" b2) [.Name "error" b3] [] b4) b5] p5] [] [] p6,
      .Return (some (.IfExp (.Compare (.Name "found" c1) [.NotEq] [.List [] c2] c3) (.Subscript (.Name "found" c4) (.Constant (.int 0) j c5) c6) (.Constant .none j2 c7) c8)) c9]
  S : FnScope NC ["action"] sg
  h1 : sg.names.lookup ("found" : Str) = some .local
  h2 : sg.names.lookup ("error" : Str) = some .local
  h3 : sg.names.lookup ("OrderError" : Str) = some .globalImplicit
/-- what stands of the def _law_caught -/
structure CaughtDef (K : PySem.W.Frag) (mg : Str → Option Value) (CO : Addr) : Prop where
  ex : ∃ (st : Stmt) (gc : Addr) (fd : FuncData), L2.Fun K "_law_caught" "_law_caught" st gc fd ∧ Binds K fd ["action"] [] ∧ mg "_law_caught" = some (.ref gc) ∧ CaughtTxt "_law_caught" (defScope st) (defBody st)
  mo : mg "OrderError" = some (.ref CO)
theorem pe_caught {params : Arguments} {scope2 : Scope} {lpos p pos : Pos} {b1 b2 b3 b4 b5 : Pos} {cW PW : Addr} (act : Act X H s k f c1 q1 tl) (D : CaughtDef X.K X.mg CO)
    (mono : ∀ {E E' : XK} {H : Hp} {Q Q' : VK}, (∀ cls d H', E cls d H' → E' cls d H') → (∀ v H', Q v H' → Q' v H') → tl E H Q → tl E' H Q')
    (TB : TabB X.base X.mg cW PW) (hcode : cdw = .ref cW) (hr : Room (k + 4) X.A) (hgd : X.A.guards = some []) (L : LamS sw scope2) (hdef : params.defaults = [] ∧ params.kw_defaults = [])
    (hd2 : defaultsOf params (cxW X x sw gw cdw s H E).env = ([], [])) (hbind : ∀ (q : Str) (cl : List (Str × Addr)) (pm cv ctv : Value), bindArgs (PySem.W.kla_fn "<lambda>" q params (.Call (.Attribute (.Name "told" b1) "append" b2) [.Call (.Name "action" b3) [] [] b4] [] b5) scope2 cl pm cv ctv) ⟨[], []⟩ = pure [])
    (v0 : Vis scope2 ("action" : Str)) (v1 : Vis scope2 ("told" : Str)) (hl : (b2.endLine == b5.line) = true) (hg : sw.names.lookup ("_law_caught" : Str) = some .globalImplicit) :
    PE (cxW X x sw gw cdw s H E) (.Call (.Name "_law_caught" p) [.Lambda params (.Call (.Attribute (.Name "told" b1) "append" b2) [.Call (.Name "action" b3) [] [] b4] [] b5) scope2 lpos] [] pos)
      (fun σ H1 Q => ∃ ps, TabK H1 PW ((x ++ ".<locals>.") ++ "<lambda>") ps ∧ ∀ c2 H3, LamH H1 PW ((x ++ ".<locals>.") ++ "<lambda>") ps c2 H3 → spCaught X.K CO (tl2 X.K f c1 q1 tl σ) H3 Q E) := by
  refine ⟨fun pins s1 σ H1 Q I h => ?_⟩
  obtain ⟨ps, tb, h⟩ := h
  obtain ⟨⟨st, gc, fd, Fc, bs, hm, ⟨⟨a1, a2, a3, p1, p2, p3, p4, p5, p6, d1, d2, d3, d4, d5, e1, e2, e3, e4, e5, e6, e7, e8, e9, j, j2, hln, hbd⟩, S, n1, n2, n3⟩⟩, mo⟩ := D
  have hk : PySem.W.keepIn (cxW X x sw gw cdw s H E).K (.ref gc) = true := Fc.kp
  refine wpAny_Call_Name_kw (ld_glob I hg hm ?_ (by decide))
  refine PySem.W.callWith_K (h₀ := X.base) I.ok.mod.kin hk ?_ (by rfl) (by rfl)
  show wpAny _ _ (spliced ((false, eval (.Lambda params _ scope2 lpos) (cxW X x sw gw cdw s H E).env) :: backTo pos (starEach [] (cxW X x sw gw cdw s H E).env))) _ _ s1
  refine Calls.spliced_cons (lam_make3 I TB hcode tb hd2 (L.has I.ok) fun f2 c2 pm' ctv H3 s' I3 lh hf2 hfn hfr hco => ?_)
  refine Calls.spliced_nil ⟨I3.kIn, ?_⟩
  have hrW : Room (k + 3) (cxW X x sw gw cdw s H E).A := hr.deeper _
  have tkW : Takes (cxW X x sw gw cdw s H E) (fun cls d _ H' => E cls d H') := takes_of (E := E) rfl rfl rfl rfl
  have rc : codeAny (model X.prog X.w) (cxW X x sw gw cdw s H E).A (.call (.ref gc) ⟨[.ref f2], []⟩) (CR (L2.CX X.prog X.w) (cxW X x sw gw cdw s H E).stack X.prog X.w H3 s' Q E) s' := by
    obtain ⟨oc, od, kV, doc, pm, an, cdv, ct, osl, rfl, lk, hcd⟩ := Fc.ex
    refine run_ofS (N := NC) (ps := ["action"]) (us := [.ref f2]) (vs := [.ref f2]) lk hcd S hrW I3.env0 (bs s' [.ref f2] I3.kIn rfl) (.cons rfl .nil) rfl fun hr' => ?_
    rw [hbd]
    refine caught_ps (c' := c2) (q := (x ++ ".<locals>.") ++ "<lambda>") (f := f2) (tl := tl2 X.K f c1 q1 tl σ) S n1 n2 n3 mo hln (by have := hr'.units; omega) (fun W pn xe tk => ?_) (fun hE hQ => tl2_mono mono hE hQ) hco (h c2 H3 lh)
    have hst : ∀ b ∈ frs ((cxC X.prog X.w X.K X.mg X.base "_law_caught" (defScope st) gc cdv (cxW X x sw gw cdw s H E).A (cxW X x sw gw cdw s H E).stack s' H3 E).tr pn xe).stack, b ∈ frs (cxW X x sw gw cdw s H E).stack ∨ s'.heap.get? b = none := fun b hb => by
      have : b ∈ s'.heap.objs.size :: frs (cxW X x sw gw cdw s H E).stack := hb
      rcases List.mem_cons.mp this with rfl | z
      · exact .inr (Heap.get?_none_of_le (Nat.le_refl _))
      · exact .inl z
    exact pe_actG (X := cxW X x sw gw cdw s H E) (k := k + 1) (tb := fun E2 σ H Q => tl2 X.K f c1 q1 tl σ E2 H Q) I3 L hf2 hfn hfr (hbind _ _ _ _ _) Un.refl hst (fun b hb => List.mem_cons_of_mem _ hb) tk hr'
      (fun s4 HZ E2 hr2 un => inner_pe act I3 un hst hgd hr2 v0 v1 hl) rfl ((S.par (("action" : Str)) (List.mem_singleton.mpr rfl)).elim (fun z => .inl z) fun z => .inr (.inl z))
  refine wpAny_call (codeAny_mono rc fun r s2 hq => ?_)
  cases r with
  | error e => exact passAt tkW σ pins H3 s' e s2 I3 hq
  | ok fl =>
    cases fl with
    | ret u => exact I3.after hq
    | next => exact False.elim hq
    | brk => exact False.elim hq
    | cont => exact False.elim hq
end
end Wd
end

section
set_option Elab.async false
set_option linter.all false
set_option maxRecDepth 100000
set_option maxHeartbeats 2000000
/-! Wd5: the body of _law_word. -/
namespace Wd
open PySem PySem.Spec PyProof.Rows L2 LamX
theorem ps_dead {X : Cx} {st : Stmt} : PS X st (fun _ _ _ => False) := ⟨fun _ _ _ _ _ _ h => h.elim⟩
theorem LamH.code {H H3 : Hp} {P c c' : Addr} {q q' : Str} {ps : Array Value} (l : LamH H P q ps c' H3) (hP : H P = some (.tbl ps)) (h : H c = some (CodeO c q')) : H3 c = some (CodeO c q') := by
  cases l with
  | hit _ => exact h
  | new more n _ _ =>
    have n1 : c ≠ c' := ne_of_none h n
    have n2 : c ≠ P := fun z => by
      rw [z, hP] at h
      exact codeO_ne ps (Option.some.inj h).symm
    rw [upd_ne n1, upd_ne n2]
    exact h
theorem LamH.lst {H H3 : Hp} {P c c' : Addr} {q : Str} {ps : Array Value} {xs : List V} (l : LamH H P q ps c' H3) (hP : H P = some (.tbl ps)) (h : H c = some (.lst xs)) : H3 c = some (.lst xs) := by
  cases l with
  | hit _ => exact h
  | new more n _ _ =>
    have n1 : c ≠ c' := ne_of_none h n
    have n2 : c ≠ P := ne_of h hP (by intro z; cases z)
    rw [upd_ne n1, upd_ne n2]
    exact h
theorem TabK.upd {H : Hp} {P a : Addr} {q : Str} {ps : Array Value} {o : HO} (t : TabK H P q ps) (n : H a = none) : TabK (L2.upd H a o) P q ps :=
  ⟨by rw [upd_ne (ne_of_none t.at_ n)]; exact t.at_, t.ok, fun pos cv e => by
    obtain ⟨c, e1, e2⟩ := t.co pos cv e
    exact ⟨c, e1, by rw [upd_ne (ne_of_none e2 n)]; exact e2⟩⟩
/-- the classes that _law_word asks for, and the one that comes -/
structure WordK (K : PySem.W.Frag) (mg : Str → Option Value) (CO CU CT CN : Addr) : Prop where
  mU : mg "Used" = some (.ref CU)
  mT : mg "TooMany" = some (.ref CT)
  mN : mg "NoText" = some (.ref CN)
  mi : mg "isinstance" = none
  bi : bootBuiltins "isinstance" = some (.builtin "isinstance")
  ec : ExcC K CN
  xf : XfC K CN
  ln : PySem.W.findIn K (.ref CN) "line" = some none
  eO : PySem.W.exmOne K (.ref CN) (.ref CO) = some true
  kU : PySem.W.kitOne K (.ref CN) (.ref CU) = some false
  kT : PySem.W.kitOne K (.ref CN) (.ref CT) = some false
  kN : PySem.W.kitOne K (.ref CN) (.ref CN) = some true
/-- what is asked of an exception that f raises: a NoText -/
def EWord (CN : Addr) (t0 a0 : Addr) (Q : VK) : XK := fun cls d H' => cls = .ref CN ∧ ∃ (dd : Addr) (v : V), d = some dd ∧ H' dd = some (.xd [("line", v)]) ∧ H' a0 = some (.lst []) ∧
  ∀ a b0 t, H' a = none → upd (upd H' a0 (.lst [.ref a])) a (exK a cls d) b0 = none → upd (upd (upd H' a0 (.lst [.ref a])) a (exK a cls d)) b0 (.lst []) t = none →
    Q (.ref t) (upd (upd (upd (upd H' a0 (.lst [.ref a])) a (exK a cls d)) b0 (.lst [])) t (.tup [.str "text", v]))
def QWord (t0 a0 : Addr) (Q : VK) : VK := fun v H' => H' t0 = some (.lst []) ∧ H' a0 = some (.lst []) ∧ ∀ b0, upd H' t0 (.lst [v]) b0 = none → Q v (upd (upd H' t0 (.lst [v])) b0 (.lst []))
def spWord (PW : Addr) (q2 : Str) (CN c1 : Addr) (q1 : Str) (tl : XK → Hp → VK → Prop) : Hp → VK → Prop := fun H Q => ∃ ps, TabK H PW q2 ps ∧ H c1 = some (CodeO c1 q1) ∧
  ∀ t0 c2 H3 a0, H t0 = none → LamH (upd H t0 (.lst [])) PW q2 ps c2 H3 → H3 a0 = none → tl (EWord CN t0 a0 Q) (upd H3 a0 (.lst [])) (QWord t0 a0 Q)
section
variable {X : Cx} {x : Str} {gw : Addr} {cdw : Value} {sw : Scope} {s : Shared} {H : Hp} {f c1 CO CU CT CN : Addr} {q1 : Str} {tl : XK → Hp → VK → Prop} {k : Nat} {Q : VK}
/-- the names of _law_word -/
structure WordS (sw : Scope) : Prop where
  S : FnScope NW ["action"] sw
  n1 : sw.names.lookup ("told" : Str) = some .cell
  n2 : sw.names.lookup ("error" : Str) = some .local
  n3 : sw.names.lookup ("_law_caught" : Str) = some .globalImplicit
  n4 : sw.names.lookup ("isinstance" : Str) = some .globalImplicit
  n5 : sw.names.lookup ("Used" : Str) = some .globalImplicit
  n6 : sw.names.lookup ("TooMany" : Str) = some .globalImplicit
  n7 : sw.names.lookup ("NoText" : Str) = some .globalImplicit
theorem word_ps {a1 a2 a3 a4 a5 i1 i2 i3 i4 i5 i6 i7 i8 u1 u2 u3 u4 u5 w1 w2 w3 w4 w5 o1 o2 o3 o4 o5 o6 o7 o10 o11 o12 : Pos} {ji jj jo o8 : Nat} {bu bt : List Stmt} {sF sR : Stmt} {ec : Expr} {PW : Addr} (N : WordS sw) (W : WordK X.K X.mg CO CU CT CN) (hr : Room (k + 4) X.A)
    (hc : PE (cxW X x sw gw cdw s H C8.E0) ec (fun σ H1 Q => ∃ ps, TabK H1 PW ((x ++ ".<locals>.") ++ "<lambda>") ps ∧ ∀ c2 H3, LamH H1 PW ((x ++ ".<locals>.") ++ "<lambda>") ps c2 H3 → spCaught X.K CO (tl2 X.K f c1 q1 tl σ) H3 Q C8.E0))
    (hsw : ∀ env, swapsWith ec (some (.Name "error" a4)) a5.line env = pure false)
    (mono : ∀ {E E' : XK} {H : Hp} {Q Q' : VK}, (∀ cls d H', E cls d H' → E' cls d H') → (∀ v H', Q v H' → Q' v H') → tl E H Q → tl E' H Q')
    (h : spWord PW ((x ++ ".<locals>.") ++ "<lambda>") CN c1 q1 tl H Q) :
    ∃ t, PSs (cxW X x sw gw cdw s H C8.E0) [.Assign [.Name "told" a1] (.List [] a2) a3, .Assign [.Name "error" a4] ec a5,
      .If (.Compare (.Name "error" i1) [.Is] [.Constant .none ji i2] i3) [.Return (some (.Subscript (.Name "told" i4) (.Constant (.int 0) jj i5) i6)) i7] [] i8,
      .If (.Call (.Name "isinstance" u1) [.Name "error" u2, .Name "Used" u3] [] u4) bu [] u5,
      .If (.Call (.Name "isinstance" w1) [.Name "error" w2, .Name "TooMany" w3] [] w4) bt [] w5,
      .If (.Call (.Name "isinstance" o1) [.Name "error" o2, .Name "NoText" o3] [] o4) [.Return (some (.Tuple [.Constant (.str "text") jo o5, .Attribute (.Name "error" o6) "line" o7] o8 o10)) o11] [] o12,
      sF, sR] t ∧ t { nx := fun _ H' => Q .non H', rt := Q } (L2.start NW [.ref f]) H := by
  have ve : Vis sw ("error" : Str) := .inl N.n2
  have vt : Vis sw ("told" : Str) := .inr (.inl N.n1)
  have le : Loc sw ("error" : Str) := .inl N.n2
  have lt : Loc sw ("told" : Str) := .inr N.n1
  have isT : ∀ {nm : Str} {C : Addr} {p1 p2 p3 p4 : Pos}, sw.names.lookup nm = some .globalImplicit → X.mg nm = some (.ref C) → (nm == ("__debug__" : Str)) = false →
      PT (cxW X x sw gw cdw s H C8.E0) (.Call (.Name "isinstance" p1) [.Name "error" p2, .Name nm p3] [] p4) (tB (tCB (rIsK X.K) (tCons (tVar 2) (tCons (tC (.ref C)) tNil)))) := fun {nm C p1 p2 p3 p4} h1 h2 h3 =>
    pt_val (pe_callB (X := cxW X x sw gw cdw s H C8.E0) call_isK N.n4 W.mi W.bi (pa_cons (pe_var (x := ("error" : Str)) (i := 2) rfl ve) (pa_cons (pe_glob (X := cxW X x sw gw cdw s H C8.E0) (v := .ref C) h1 h2 rfl h3) pa_nil)))
  refine ⟨_, pss_cons (ps_set (X := cxW X x sw gw cdw s H C8.E0) (i := 1) N.S.nd rfl lt (pe_lst pa_nil) rfl (.inl rfl))
    (pss_cons (ps_set (X := cxW X x sw gw cdw s H C8.E0) (i := 2) N.S.nd rfl le hc (hsw _) (.inl rfl))
    (pss_cons (ps_if (pt_cmp (pc_isN (pe_var (x := ("error" : Str)) (i := 2) rfl ve)) rfl) (pss_one (ps_ret (pe_ix ix_list (pe_var (x := ("told" : Str)) (i := 1) rfl vt) pe_int (fun _ _ => rfl)))) pss_nil)
    (pss_cons (ps_if (isT N.n5 W.mU (by decide)) (t := fun _ _ _ => False) ⟨fun _ _ _ _ _ _ h => h.elim⟩ pss_nil)
    (pss_cons (ps_if (isT N.n6 W.mT (by decide)) (t := fun _ _ _ => False) ⟨fun _ _ _ _ _ _ h => h.elim⟩ pss_nil)
    (pss_cons (ps_if (isT N.n7 W.mN (by decide)) (pss_one (ps_ret (pe_tup (pa_cons pe_str (pa_cons (pe_xk (pe_var (x := ("error" : Str)) (i := 2) rfl ve)) pa_nil))))) pss_nil)
    (pss_cons ps_dead (pss_one ps_dead))))))), ?_⟩
  obtain ⟨ps, tk, hco, h⟩ := h
  refine ⟨Nat.zero_le _, fun t0 n0 => ⟨ps, tk.upd n0, fun c2 H3 lh a0 na0 => ?_⟩⟩
  have t1 : L2.upd H t0 (.lst []) t0 = some (.lst []) := upd_same
  have tP : L2.upd H t0 (.lst []) PW = some (.tbl ps) := (tk.upd n0).at_
  have t3 : H3 t0 = some (.lst []) := lh.lst tP t1
  have c3 : H3 c1 = some (CodeO c1 q1) := lh.code tP (by rw [upd_ne (ne_of_none hco n0)]; exact hco)
  have n30 : t0 ≠ a0 := ne_of_none t3 na0
  have t4 : L2.upd H3 a0 (.lst []) t0 = some (.lst []) := by rw [upd_ne n30]; exact t3
  have c4 : L2.upd H3 a0 (.lst []) c1 = some (CodeO c1 q1) := by rw [upd_ne (ne_of_none c3 na0)]; exact c3
  refine ⟨.ref t0, rfl, .inl ⟨rfl, _, SqL.of t4⟩, rfl, c4, mono (fun cls d H' hE => ?_) (fun v H' hQ => ?_) (h t0 c2 H3 a0 n0 lh na0)⟩
  · obtain ⟨rfl, dd, v, rfl, e1, e2, e3⟩ := hE
    refine ⟨true, W.eO, fun _ => ⟨e2, fun a b0 na nb => ?_⟩, fun z => nomatch z⟩
    have f0 : L2.upd (L2.upd H' a0 (.lst [.ref a])) a (exK a (.ref CN) (some dd)) a = some (exK a (.ref CN) (some dd)) := upd_same
    have nab : a ≠ b0 := ne_of_none f0 nb
    have f1 : L2.upd (L2.upd (L2.upd H' a0 (.lst [.ref a])) a (exK a (.ref CN) (some dd))) b0 (.lst []) a = some (exK a (.ref CN) (some dd)) := by rw [upd_ne nab]; exact f0
    have d1 : dd ≠ a := ne_of_none e1 na
    have d0 : dd ≠ a0 := ne_of e1 e2 (by intro z; cases z)
    have g0 : L2.upd (L2.upd H' a0 (.lst [.ref a])) a (exK a (.ref CN) (some dd)) dd = some (.xd [("line", v)]) := by rw [upd_ne d1, upd_ne d0]; exact e1
    have g1 : L2.upd (L2.upd (L2.upd H' a0 (.lst [.ref a])) a (exK a (.ref CN) (some dd))) b0 (.lst []) dd = some (.xd [("line", v)]) := by rw [upd_ne (ne_of_none g0 nb)]; exact g0
    have is_ : ∀ (C : Addr) (b : Bool) (R : VK), PySem.W.kitOne X.K (.ref CN) (.ref C) = some b → R (.bl b) (L2.upd (L2.upd (L2.upd H' a0 (.lst [.ref a])) a (exK a (.ref CN) (some dd))) b0 (.lst [])) →
        rIsK X.K [.ref a, .ref C] (L2.upd (L2.upd (L2.upd H' a0 (.lst [.ref a])) a (exK a (.ref CN) (some dd))) b0 (.lst [])) R := fun C b R hk hR =>
      ⟨a, CN, some dd, .ref C, .ref C, b, rfl, W.ec, f1, fun d' e => by cases e; exact ⟨_, g1⟩, fun u hu => hu, hk, hR⟩
    refine ⟨.ref a, rfl, false, rfl, iteF ?_⟩
    refine ⟨.ref a, rfl, ?_⟩
    dsimp only [tCons, tC, tNil]
    refine is_ CU false _ W.kU ⟨false, rfl, iteF ?_⟩
    refine ⟨.ref a, rfl, ?_⟩
    dsimp only [tCons, tC, tNil]
    refine is_ CT false _ W.kT ⟨false, rfl, iteF ?_⟩
    refine ⟨.ref a, rfl, ?_⟩
    dsimp only [tCons, tC, tNil]
    refine is_ CN true _ W.kN ⟨true, rfl, iteT ?_⟩
    exact ⟨.ref a, rfl, a, CN, dd, _, v, rfl, W.xf, W.ln, f1, g1, rfl, by rw [sizeLine_eq]; simp, fun t nt => e3 a b0 t na nb nt⟩
  · obtain ⟨q1, q2, q3⟩ := hQ
    refine ⟨t0, [], v, rfl, rfl, q1, by rw [sizeLine_eq]; simp, ?_⟩
    have z0 : L2.upd H' t0 (.lst [v]) a0 = some (.lst []) := by rw [upd_ne (Ne.symm n30)]; exact q2
    refine ⟨z0, fun b0 nb => ?_⟩
    have z1 : L2.upd (L2.upd H' t0 (.lst [v])) b0 (.lst []) t0 = some (.lst [v]) := by rw [upd_ne (ne_of_none (o := .lst [v]) upd_same nb)]; exact upd_same
    refine ⟨.non, rfl, true, rfl, iteT ?_⟩
    exact ⟨.ref t0, rfl, t0, _, 0, v, rfl, rfl, SqL.of z1, rfl, q3 b0 nb⟩
end
end Wd
end

section
set_option Elab.async false
set_option linter.all false
set_option maxRecDepth 100000
set_option maxHeartbeats 2000000
/-! Wd6: _law_word(lambda: ..). -/
namespace Wd
open PySem PySem.Spec PyProof.Rows L2 LamX
/-- no parameters -/
def noParams : Arguments := ⟨[], [], none, [], [], none, []⟩
theorem no_def (env : Env) : defaultsOf noParams env = ([], []) := rfl
theorem no_bind (q : Str) (body : Expr) (scope : Scope) (cl : List (Str × Addr)) (pm cv ctv : Value) : bindArgs (PySem.W.kla_fn "<lambda>" q noParams body scope cl pm cv ctv) ⟨[], []⟩ = pure [] := rfl
/-- a def and its code object -/
structure FunC (K : PySem.W.Frag) (x qual : Str) (st : Stmt) (f : Addr) (fd : FuncData) (c : Addr) : Prop where
  ex : ∃ (oc : Value) (od : Option Addr) (kV doc pm : Value) (an : Option Addr) (ct : Value) (osl : Array (Option Value)),
    fd = PySem.W.fnOf x qual (defArgs st) (defBody st) (defScope st) .none kV doc pm an (.ref c) ct ∧ K.lookup f = some ⟨oc, od, .func fd, osl⟩ ∧ PySem.W.codeIn K (.ref c) qual = true
  kp : PySem.W.keepIn K (.ref f) = true
theorem FunC.fn {K : PySem.W.Frag} {x qual : Str} {st : Stmt} {f c : Addr} {fd : FuncData} (F : FunC K x qual st f fd c) : L2.Fun K x qual st f fd := by
  obtain ⟨⟨oc, od, kV, doc, pm, an, ct, osl, h1, h2, h3⟩, h4⟩ := F
  exact ⟨⟨oc, od, kV, doc, pm, an, .ref c, ct, osl, h1, h2, h3⟩, h4⟩
/-- the text of _law_word -/
structure WordTxt (sw : Scope) (b : List Stmt) : Prop where
  S : WordS sw
  ex : ∃ (a1 a2 a3 a4 a5 i1 i2 i3 i4 i5 i6 i7 i8 u1 u2 u3 u4 u5 w1 w2 w3 w4 w5 o1 o2 o3 o4 o5 o6 o7 o10 o11 o12 lpos p pos b1 b2 b3 b4 b5 : Pos) (ji jj jo o8 : Nat) (bu bt : List Stmt) (sF sR : Stmt) (params : Arguments) (scope2 : Scope),
    b = [.Assign [.Name "told" a1] (.List [] a2) a3, .Assign [.Name "error" a4] (.Call (.Name "_law_caught" p) [.Lambda params (.Call (.Attribute (.Name "told" b1) "append" b2) [.Call (.Name "action" b3) [] [] b4] [] b5) scope2 lpos] [] pos) a5,
      .If (.Compare (.Name "error" i1) [.Is] [.Constant .none ji i2] i3) [.Return (some (.Subscript (.Name "told" i4) (.Constant (.int 0) jj i5) i6)) i7] [] i8,
      .If (.Call (.Name "isinstance" u1) [.Name "error" u2, .Name "Used" u3] [] u4) bu [] u5,
      .If (.Call (.Name "isinstance" w1) [.Name "error" w2, .Name "TooMany" w3] [] w4) bt [] w5,
      .If (.Call (.Name "isinstance" o1) [.Name "error" o2, .Name "NoText" o3] [] o4) [.Return (some (.Tuple [.Constant (.str "text") jo o5, .Attribute (.Name "error" o6) "line" o7] o8 o10)) o11] [] o12,
      sF, sR] ∧ (b2.endLine == b5.line) = true ∧ LamS sw scope2 ∧ params = noParams ∧ Vis scope2 ("action" : Str) ∧ Vis scope2 ("told" : Str)
/-- what stands of _law_word and _law_caught -/
structure WordDef (K : PySem.W.Frag) (mg : Str → Option Value) (base : Heap) (CO CU CT CN PW : Addr) : Prop where
  W : WordK K mg CO CU CT CN
  C : CaughtDef K mg CO
  ex : ∃ (st : Stmt) (gw cW : Addr) (fd : FuncData), FunC K "_law_word" "_law_word" st gw fd cW ∧ Binds K fd ["action"] [] ∧ mg "_law_word" = some (.ref gw) ∧ WordTxt (defScope st) (defBody st) ∧ TabB base mg cW PW
theorem TabK.lam {H : Hp} {P c' : Addr} {q : Str} {ps : Array Value} {H1 : Hp} (t : TabK H P q ps) (l : LamH H P q ps c' H1) : ∃ ps', TabK H1 P q ps' := by
  cases l with
  | hit _ => exact ⟨ps, t⟩
  | new more n ok am =>
    have nP : P ≠ c' := ne_of_none t.at_ n
    refine ⟨ps ++ more, by rw [upd_ne nP, upd_same], ok, fun pos cv e => ?_⟩
    rcases am pos cv e with z | z
    · obtain ⟨c, e1, e2⟩ := t.co pos cv z
      have n1 : c ≠ c' := ne_of_none e2 n
      have n2 : c ≠ P := fun z => by
        rw [z, t.at_] at e2
        exact codeO_ne ps (Option.some.inj e2).symm
      exact ⟨c, e1, by rw [upd_ne n1, upd_ne n2]; exact e2⟩
    · exact ⟨c', z, upd_same⟩
section
variable {X : Cx} {body : Expr} {scope : Scope} {lpos p pos : Pos} {t : XK → TE} {CO CU CT CN PW PL cL : Addr} {k : Nat}
/-- what _law_word of a lambda asks -/
def tWord (PL PW CN : Addr) (qL : Str) (t : XK → TE) : TE := fun σ H Q => ∃ ps, TabK H PL qL ps ∧ ∀ c1 H1, LamH H PL qL ps c1 H1 → spWord PW "_law_word.<locals>.<lambda>" CN c1 qL (fun E H Q => t E σ H Q) H1 Q
theorem pe_word (D : WordDef X.K X.mg X.base CO CU CT CN PW) (TBL : TabB X.base X.mg cL PL) (hcode : X.env.code = .ref cL) (hr : Room (k + 4) X.A) (hgd : X.A.guards = some []) (L : LamS X.env.scope scope) (hgl : Gl X "_law_word")
    (hbody : ∀ (A : Around) (outer : List Env) (s1 : Shared) (HZ : Hp) (E : XK) (f c' : Addr), Room k (A.deeper (lamEnv X scope s1.heap.objs.size f c')) → A.guards = some [] → PE (lamCx X A outer s1 HZ E scope f c') body (t E))
    (mono : ∀ {σ : L2.St} {E E' : XK} {H : Hp} {Q Q' : VK}, (∀ cls d H', E cls d H' → E' cls d H') → (∀ v H', Q v H' → Q' v H') → t E σ H Q → t E' σ H Q') :
    PE X (.Call (.Name "_law_word" p) [.Lambda noParams body scope lpos] [] pos) (tWord PL PW CN (X.env.qual ++ "<lambda>") t) := by
  refine ⟨fun pins s σ H Q I h => ?_⟩
  obtain ⟨ps, tb, h⟩ := h
  obtain ⟨WK, CD, st, gw, cW, fd, Fw, bs, hm, ⟨NS, a1, a2, a3, a4, a5, i1, i2, i3, i4, i5, i6, i7, i8, u1, u2, u3, u4, u5, w1, w2, w3, w4, w5, o1, o2, o3, o4, o5, o6, o7, o10, o11, o12, lp2, p2, pos2, b1, b2, b3, b4, b5, ji, jj, jo, o8, bu, bt, sF, sR, pa2, scope2, hbd, hln, L2s, rfl, v0, v1⟩, TBW⟩ := D
  refine wpAny_Call_Name_kw (ld_glob I hgl hm ?_ (by decide))
  refine PySem.W.callWith_K (h₀ := X.base) I.ok.mod.kin Fw.kp ?_ (by rfl) (by rfl)
  show wpAny _ _ (spliced ((false, eval (.Lambda noParams body scope lpos) X.env) :: backTo pos (starEach [] X.env))) _ _ s
  refine Calls.spliced_cons (lam_make3 I TBL hcode tb (no_def _) (L.has I.ok) fun f c1 pm' ctv H1 s' I1 lh hf hfn hfr hco => ?_)
  refine Calls.spliced_nil ⟨I1.kIn, ?_⟩
  have rc : codeAny (model X.prog X.w) X.A (.call (.ref gw) ⟨[.ref f], []⟩) (CR (L2.CX X.prog X.w) X.stack X.prog X.w H1 s' Q C8.E0) s' := by
    obtain ⟨oc, od, kV, doc, pm, an, ct, osl, rfl, lk, hcd⟩ := Fw.ex
    refine run_ofS (k := k + 3) (N := NW) (ps := ["action"]) (us := [.ref f]) (vs := [.ref f]) lk hcd NS.S hr I1.env0 (bs s' [.ref f] I1.kIn rfl) (.cons rfl .nil) rfl fun hr' => ?_
    rw [hbd]
    have act : Act X H1 s' k f c1 (X.env.qual ++ "<lambda>") (fun E H Q => t E σ H Q) := fun {A} {Ny} {s_0} {H_0} {yenv} {outer} {stack} {fn} {calm} {pn} {xe} {i} {a} {W} {p1} {p2} un0 hst hfo tk hrA hgA hN hv hd hcd =>
      pe_actG (X := X) (k := k) (tb := t) I1 L hf hfn hfr (no_bind _ _ _ _ _ _ _) un0 hst hfo tk hrA (fun s1 HZ E hrB un => hbody A stack s1 HZ E f c1 hrB hgA) hN hv hd hcd
    exact word_ps (f := f) (tl := fun E H Q => t E σ H Q) NS WK hr (pe_caught act CD mono TBW rfl hr hgd L2s ⟨rfl, rfl⟩ (no_def _) (no_bind · _ _ · · · ·) v0 v1 hln NS.n3) (fun _ => rfl) mono (h c1 H1 lh)
  refine wpAny_call (codeAny_mono rc fun r s2 hq => ?_)
  cases r with
  | error e => exact (passAt (X := X) (W := fun _ _ _ _ => False) takes0 σ pins H1 s' e s2 I1 hq)
  | ok fl =>
    cases fl with
    | ret u => exact I1.after hq
    | next => exact False.elim hq
    | brk => exact False.elim hq
    | cont => exact False.elim hq
end
end Wd
end

section
set_option Elab.async false
set_option linter.all false
/-! Ev23: a term stands for an expression: a check. -/
namespace Ev
open PySem L2
/-- what a global name is -/
inductive GI where
  | fn (ps : List Str) | cst (x : P) | blt (id : String) | ty (n : String) | exc | word (wb : Scope → T → Expr → Bool)
def npB : T → Bool
  | .pk _ => false
  | _ => true
theorem npB_ok {t : T} (h : npB t = true) : NP t := fun i e => by subst e; simp [npB] at h
def nameOk (x : Str) : Bool := !(x == ("__debug__" : Str)) && !(x == ("__classdict__" : Str))
def visB (sc : Scope) (x : Str) : Bool := decide (sc.names.lookup x = some .local) || decide (sc.names.lookup x = some .cell) || decide (sc.names.lookup x = some .free)
def glB (sc : Scope) (x : Str) : Bool := decide (sc.names.lookup x = some .globalImplicit)
def locB (sc : Scope) (d : Bool) (x : Str) : Bool := decide (sc.names.lookup x = some .local) || (d && decide (sc.names.lookup x = some .cell))
section
variable (gi : Str → Option GI) (N : List Str)
def varB (sc : Scope) (i : Nat) (x : Str) : Bool := decide (N[i]? = some x) && visB sc x && nameOk x
def bltB (sc : Scope) (x : Str) (id : String) : Bool := glB sc x && (match gi x with
  | some (.blt i) => decide (i = id)
  | _ => false)
def tyB (sc : Scope) (x : Str) (id : String) : Bool := glB sc x && (match gi x with
  | some (.ty i) => decide (i = id)
  | _ => false)
def fnB (sc : Scope) (x : Str) (n : Nat) : Bool := glB sc x && nameOk x && (match gi x with
  | some (.fn ps) => decide (ps.length = n)
  | _ => false)
def fnKB (sc : Scope) (x : Str) (ks : List Str) : Bool := glB sc x && nameOk x && (match gi x with
  | some (.fn ps) => decide (ps = ks)
  | _ => false)
def cstB (sc : Scope) (x : Str) (p : P) : Bool := glB sc x && nameOk x && (match gi x, p with
  | some (.cst (.int i)), .int j => decide (i = j)
  | some (.cst (.str i)), .str j => decide (i = j)
  | some (.cst (.bl i)), .bl j => decide (i = j)
  | _, _ => false)
/-- built-in functions and types by name -/
def bltN (f : Str) : Option (String ⊕ String) := if f = "len" then some (.inl "len") else if f = "abs" then some (.inl "abs") else if f = "min" then some (.inl "min") else if f = "repr" then some (.inl "repr") else if f = "all" then some (.inl "all")
  else if f = "int" then some (.inr "int") else if f = "str" then some (.inr "str") else if f = "tuple" then some (.inr "tuple") else none
def litB (sc : Scope) : P → Expr → Bool
  | .int i, .Constant (.int j) _ _ => decide (i = j)
  | .int i, .UnaryOp .USub (.Constant (.int j) _ _) _ => decide (i = -j)
  | .str i, .Constant (.str j) _ _ => decide (i = j)
  | .bl i, .Constant (.bool j) _ _ => decide (i = j)
  | .non, .Constant .none _ _ => true
  | p, .Name x _ => cstB gi sc x p
  | _, _ => false
def sameLine (a b : Pos) : Bool := a.endLine == b.line
def tysB (sc : Scope) : List String → List Expr → Bool
  | [], [] => true
  | t :: ts, .Name x _ :: es => tyB gi sc x t && tysB sc ts es
  | _, _ => false
def chG (d : Bool) (sc : Scope) : Nat → Tg → Expr → Bool
  | 0, _, _ => false
  | n + 1, .nm i _, .Name x _ => decide (N[i]? = some x) && locB sc d x
  | n + 1, .tp gs, .Tuple es _ _ => es.all notStar && decide (gs.length = es.length) && (gs.zip es).all fun p => chG d sc n p.1 p.2
  | _, _, _ => false
mutual
def chE : Nat → Scope → T → Expr → Bool
  | 0 => fun _ _ _ => false
  | n + 1 => fun sc t e => match t with
    | .var i => (match e with | .Name x _ => varB N sc i x | _ => false)
    | .pk i => (match e with | .Name x _ => varB N sc i x | _ => false)
    | .lit p => litB gi sc p e
    | .tup ts => (match e with | .Tuple es _ _ => decide (ts.length ≤ 1000) && ts.all npB && chA n sc ts es | _ => false)
    | .lst ts => (match e with | .List es _ => decide (ts.length ≤ 1000) && ts.all npB && chA n sc ts es | _ => false)
    | .bin op a b => (match e with | .BinOp ea op' eb _ => decide (op = op') && chE n sc a ea && chE n sc b eb | _ => false)
    | .cmp op a b => (match e with | .Compare ea [op'] [eb] _ => decide (op = op') && notSet eb && chE n sc a ea && chE n sc b eb | _ => false)
    | .chn o1 o2 a b c => (match e with | .Compare ea [o1', o2'] [eb, ec] _ => decide (o1 = o1') && decide (o2 = o2') && notSet ec && chE n sc a ea && chE n sc b eb && chE n sc c ec | _ => false)
    | .and a b => (match e with
      | .BoolOp .And [ea, eb] _ => npB b && chE n sc a ea && chE n sc b eb
      | .BoolOp .And (ea :: eb :: er :: rest) p => npB b && chE n sc a ea && chE n sc b (.BoolOp .And (eb :: er :: rest) p)
      | _ => false)
    | .or a b => (match e with
      | .BoolOp .Or [ea, eb] _ => npB b && chE n sc a ea && chE n sc b eb
      | .BoolOp .Or (ea :: eb :: er :: rest) p => npB b && chE n sc a ea && chE n sc b (.BoolOp .Or (eb :: er :: rest) p)
      | _ => false)
    | .not a => (match e with | .UnaryOp .Not ea _ => chE n sc a ea | _ => false)
    | .ife c a b => (match e with | .IfExp ec ea eb _ => npB a && npB b && chT n sc c ec && chE n sc a ea && chE n sc b eb | _ => false)
    | .idx a i => (match e with | .Subscript ea ei _ => notSlice ei && chE n sc a ea && chE n sc i ei | _ => false)
    | .slc a lo hi => (match e with | .Subscript ea (.Slice el eh none _) _ => chE n sc a ea && chO n sc lo el && chO n sc hi eh | _ => false)
    | .call f as => (match e with
      | .Call (.Name f' _) (e1 :: es) [] _ => decide (f = f') && fnB gi sc f as.length && (e1 :: es).all notStar && chA n sc as (e1 :: es)
      | .Call (.Name f' _) [] (k1 :: ks) _ => decide (f = f') && fnKB gi sc f ((k1 :: ks).filterMap (·.arg)) && (k1 :: ks).all (·.arg.isSome) && chA n sc as ((k1 :: ks).map (·.value))
      | _ => false)
    | .blt f as => (match e with
      | .Call (.Name f' _) (e1 :: es) [] _ => decide (f = f') && (match bltN f with
          | some (.inl id) => bltB gi sc f id
          | some (.inr id) => tyB gi sc f id
          | none => false) && (e1 :: es).all notStar && chA n sc as (e1 :: es)
      | _ => false)
    | .isi a tys => (match e with
      | .Call (.Name f _) [ea, .Name x _] [] _ => decide (f = "isinstance") && bltB gi sc f "isinstance" && notStar ea && (match tys with
          | [t] => tyB gi sc x t
          | _ => false) && chE n sc a ea
      | .Call (.Name f _) [ea, .Tuple nes _ _] [] _ => decide (f = "isinstance") && bltB gi sc f "isinstance" && notStar ea && decide (tys.length ≤ 1000) && tysB gi sc tys nes && chE n sc a ea
      | _ => false)
    | .comp elt g it cond own => (match e with
      | .ListComp ea [⟨tg, ei, ifs, as⟩] scope _ => decide (as = 0) && npB elt && notSet ei && chI n sc tg it ei && blkC N sc scope (own.map fun i => (N.getD i "", i)) && chG N false (relS scope sc) n g tg && chC n (relS scope sc) cond ifs && chE n (relS scope sc) elt ea
      | _ => false)
    | .pop i => (match e with | .Call (.Attribute (.Name x _) f apos) [] [] pos => decide (f = "pop") && varB N sc i x && sameLine apos pos | _ => false)
    | .join a b => (match e with | .Call (.Attribute ea f apos) [eb] [] pos => decide (f = "join") && notCall ea && notStar eb && sameLine apos pos && chE n sc a ea && chE n sc b eb | _ => false)
    | .word _ _ t => (match e with
      | .Call (.Name f _) [.Lambda ⟨[], [], none, [], [], none, []⟩ body scope _] [] _ => decide (f = "_law_word") && glB sc f && LamX.lamSB sc scope && npB t && (match gi f with
        | some (.word wb) => wb scope t body
        | _ => false)
      | _ => false)
    | .late f i t => (match e with
      | .Call (.Name f' _) [.Name x xp, e2] [] _ => decide (f = f') && fnB gi sc f 2 && varB N sc i x && notStar e2 && npB t && chE n sc t e2
      | _ => false)
    | .dead => true
    | .range _ => false
    | .enum _ => false
    | .rev _ => false
    | .lln => (match e with | .List [] _ => true | _ => false)
    | .popt i => (match e with | .Call (.Name f _) [.Call (.Attribute (.Name x _) g apos) [] [] p2] [] _ => decide (f = "tuple") && decide (g = "pop") && tyB gi sc f "tuple" && varB N sc i x && sameLine apos p2 | _ => false)
    | .srest i => (match e with | .Subscript (.Name x _) (.Constant (.str k) _ _) _ => decide (k = "rest") && varB N sc i x | _ => false)
    | .sturn i => (match e with | .Subscript (.Name x _) (.Constant (.str k) _ _) _ => decide (k = "turn") && varB N sc i x | _ => false)
    | .scells i => (match e with | .Subscript (.Name x _) (.Constant (.str k) _ _) _ => decide (k = "cells") && varB N sc i x | _ => false)
    | .sgne i => (match e with | .Compare (.Subscript (.Name x _) (.Constant (.str k) _ _) _) [.NotEq] [.List [] _] _ => decide (k = "great") && varB N sc i x | _ => false)
    | .spop i => (match e with | .Call (.Attribute (.Subscript (.Name x _) (.Constant (.str k) _ _) _) f apos) [.Constant (.int z) _ _] [] pos => decide (k = "great") && decide (f = "pop") && decide (z = 0) && varB N sc i x && sameLine apos pos | _ => false)
    | .smk ts => (match e with
      | .Dict [some (.Constant (.str k1) _ _), some (.Constant (.str k2) _ _), some (.Constant (.str k3) _ _), some (.Constant (.str k4) _ _)] [e1, e2, e3, e4] _ => decide (k1 = "great") && decide (k2 = "cells") && decide (k3 = "rest") && decide (k4 = "turn") && ts.all npB && (match ts with
        | [t1, t2, t3, t4] => chE n sc t1 e1 && chE n sc t2 e2 && chE n sc t3 e3 && chE n sc t4 e4
        | _ => false)
      | _ => false)
def chA : Nat → Scope → List T → List Expr → Bool
  | 0 => fun _ _ _ => false
  | n + 1 => fun sc ts es => match ts, es with
    | [], [] => true
    | t :: ts, e :: es => notStar e && chE n sc t e && chA n sc ts es
    | _, _ => false
def chO : Nat → Scope → Option T → Option Expr → Bool
  | 0 => fun _ _ _ => false
  | n + 1 => fun sc t e => match t, e with
    | none, none => true
    | some t, some e => chE n sc t e
    | _, _ => false
def chC : Nat → Scope → Option T → List Expr → Bool
  | 0 => fun _ _ _ => false
  | n + 1 => fun sc t e => match t, e with
    | none, [] => true
    | some t, [e] => chT n sc t e
    | _, _ => false
def chT : Nat → Scope → T → Expr → Bool
  | 0 => fun _ _ _ => false
  | n + 1 => fun sc t e => match t with
    | .pk i => (match e with | .Name x _ => varB N sc i x | _ => false)
    | .not a => (match e with | .UnaryOp .Not ea _ => chT n sc a ea | _ => false)
    | .sgne i => (match e with | .Compare (.Subscript (.Name x _) (.Constant (.str k) _ _) _) [.NotEq] [.List [] _] _ => decide (k = "great") && varB N sc i x | _ => false)
    | .and a b => chW n sc (.and a b) e
    | .or a b => chW n sc (.or a b) e
    | .cmp op a b => (match e with | .Compare ea [op'] [eb] _ => decide (op = op') && notSet eb && chE n sc a ea && chE n sc b eb | _ => false)
    | .chn o1 o2 a b c => (match e with | .Compare ea [o1', o2'] [eb, ec] _ => decide (o1 = o1') && decide (o2 = o2') && notSet ec && chE n sc a ea && chE n sc b eb && chE n sc c ec | _ => false)
    | t => npB t && plainTest e && chE n sc t e
def chW : Nat → Scope → T → Expr → Bool
  | 0 => fun _ _ _ => false
  | n + 1 => fun sc t e => match e with
    | .BoolOp _ [ea] _ => chT n sc t ea
    | .BoolOp .And (ea :: eb :: rest) p => (match t with | .and a b => npB b && chT n sc a ea && chW n sc b (.BoolOp .And (eb :: rest) p) | _ => false)
    | .BoolOp .Or (ea :: eb :: rest) p => (match t with | .or a b => npB b && chT n sc a ea && chW n sc b (.BoolOp .Or (eb :: rest) p) | _ => false)
    | _ => false
def chI : Nat → Scope → Expr → T → Expr → Bool
  | 0 => fun _ _ _ _ => false
  | n + 1 => fun sc tg it e => match it with
    | .range a => (match e with | .Call (.Name f _) [ea] [] _ => decide (f = "range") && tyB gi sc f "range" && notStar ea && chE n sc a ea | _ => false)
    | .enum (.rev a) => (match tg, e with
      | .Tuple _ _ _, .Call (.Name f _) [.Call (.Name g _) [ea] [] _] [] _ => decide (f = "enumerate") && decide (g = "reversed") && tyB gi sc f "enumerate" && tyB gi sc g "reversed" && notStar ea && chE n sc a ea
      | _, _ => false)
    | t => valIt t && chE n sc t e
end
end
end Ev
end

section
set_option Elab.async false
set_option linter.all false
/-! Ev24: the check is sound. -/
namespace Ev
open PySem L2
def GlOk (X : L2.Cx) (j : J) (k : Nat) (x : Str) : GI → Prop
  | .fn ps => ∃ fa fd, X.mg x = some (.ref fa) ∧ PySem.W.keepIn X.K (.ref fa) = true ∧ Binds X.K fd ps [] ∧ BindsK X.K fd ps ∧ FnG X.prog X.w X.K X.mg X.base k fa fd ps (spE j x)
  | .cst p => ∃ u v, X.mg x = some u ∧ L2.RelV v u ∧ ∀ Z, RepP j.K Z p v
  | .blt id => X.mg x = none ∧ bootBuiltins x = some (.builtin id) ∧ x ≠ "__name__" ∧ (x == ("__debug__" : Str)) = false
  | .ty n => X.mg x = none ∧ bootBuiltins x = some (.type n) ∧ x ≠ "__name__" ∧ (x == ("__debug__" : Str)) = false
  | .exc => ∃ C fI fd fld kk, j.ca x = some C ∧ excF x = some (some fld) ∧ X.mg x = some (.ref C) ∧ (x == ("__debug__" : Str)) = false ∧ FnOk X.prog X.w X.K X.mg X.base C8.CX0 kk fI fd ["self", "text", fld] (spInit C fld) ∧ OexC X.K C ∧
      PySem.W.findIn X.K (.ref C) "__init__" = some (some (.ref fI)) ∧ PySem.W.typeIn X.K (.ref fI) = some (.type "function") ∧ kk + 1 ≤ k ∧ Binds X.K fd ["self", "text", fld] []
  | .word wb => x = "_law_word" ∧ ∃ (kw : Nat) (PL PW cL CO CU CT CN : Addr), Room (kw + 4) X.A ∧ Wd.WordDef X.K X.mg X.base CO CU CT CN PW ∧ LamX.TabB X.base X.mg cL PL ∧ X.env.code = .ref cL ∧ j.ca "NoText" = some CN ∧
      (∀ d1 d2 o ds, j.Γ "%tab" [d1, d2] = .ok o ds → d1 = .tab PL (X.env.qual ++ "<lambda>") ∧ d2 = .tab PW "_law_word.<locals>.<lambda>") ∧
      ∀ (Y : L2.Cx) (scope : Scope) (t : T) (e : Expr) (A : Around) (outer : List PySem.Env) (s1 : Shared) (HZ : Hp) (E : XK) (f c' : Addr), Y.prog = X.prog → Y.w = X.w → Y.K = X.K → Y.mg = X.mg → Y.base = X.base → Y.N = X.N → wb scope t e = true →
        Room kw (LamX.lamCx Y A outer s1 HZ E scope f c').A → A.guards = some [] → PE (LamX.lamCx Y A outer s1 HZ E scope f c') e (tE ⟨j.K, j.ca, fun cls d _ H => E cls d H, j.Γ⟩ t)
structure CtxE (gi : Str → Option GI) (k : Nat) (N : List Str) (sc : Scope) (d : Bool) (X : L2.Cx) (j : J) : Prop where
  K : X.K = j.K
  N : X.N = N
  nd : X.N.Nodup
  sc : X.env.scope = sc
  calm : X.calm = true
  room : Room k X.A
  gd : X.A.guards = some []
  tk : Takes X j.W
  dn : d = true → ∀ y, X.fn y = true
  gl : ∀ x g, gi x = some g → GlOk X j k x g
variable {gi : Str → Option GI} {k : Nat} {N : List Str} {sc : Scope} {d : Bool} {X : L2.Cx} {j : J}
theorem GlOk.noX {x : Str} {g : GI} (h : GlOk X j k x g) : GlOk X j.noX k x g := by
  cases g with
  | fn ps =>
    obtain ⟨fa, fd, h1, h2, h3, h4, h5⟩ := h
    refine ⟨fa, fd, h1, h2, h3, h4, ?_⟩
    have e : spE j.noX x = spE j x := by
      funext vs H Q E
      apply propext
      constructor
      · rintro ⟨Z, ds, fps, G, h⟩
        refine ⟨Z, ds, fps, G, ?_⟩
        have e2 : j.noX.Γ x ds = j.Γ x ds := rfl
        rw [e2] at h
        revert h
        cases j.Γ x ds <;> exact id
      · rintro ⟨Z, ds, fps, G, h⟩
        refine ⟨Z, ds, fps, G, ?_⟩
        have e2 : j.noX.Γ x ds = j.Γ x ds := rfl
        rw [e2]
        revert h
        cases j.Γ x ds <;> exact id
    rw [e]
    exact h5
  | cst p => exact h
  | blt id => exact h
  | ty n => exact h
  | exc => exact h
  | word wb => exact h
theorem GlOk.blk {x : Str} {g : GI} (h : GlOk X j k x g) (s : Shared) (H : Hp) (scope : Scope) (cenv : PySem.Env) (fp : List Addr) (hc : cenv.code = X.env.code) (hq : cenv.qual = X.env.qual) : GlOk (X.blk s H scope cenv fp) j k x g := by
  cases g with
  | word wb =>
    obtain ⟨h0, kw, PL, PW, cL, CO, CU, CT, CN, h1, h2, h3, h4, h5, h6, h7⟩ := h
    refine ⟨h0, kw, PL, PW, cL, CO, CU, CT, CN, h1, h2, h3, hc.trans h4, h5, ?_, h7⟩
    show ∀ d1 d2 o ds, j.Γ "%tab" [d1, d2] = .ok o ds → d1 = .tab PL (cenv.qual ++ "<lambda>") ∧ _
    rw [hq]
    exact h6
  | _ => exact h
theorem CtxE.blk (c : CtxE gi k N sc d X j) (s : Shared) (H : Hp) (scope : Scope) (C : Addr) (cl : List (Str × Addr)) (fp : List Addr) : CtxE gi k N (relS scope sc) false (X.blk s H scope (compEnvC scope cl C X.env) fp) j.noX :=
  ⟨c.K, c.N, c.nd, by rw [← c.sc]; rfl, c.calm, c.room, c.gd, LamX.takes0, (fun h => nomatch h), fun x g hx => (c.gl x g hx).noX.blk s H scope _ fp rfl rfl⟩
theorem nameOk_ok {x : Str} (h : nameOk x = true) : (x == ("__debug__" : Str)) = false ∧ (x == ("__classdict__" : Str)) = false := by
  unfold nameOk at h
  simpa using h
theorem visB_ok {x : Str} (h : visB sc x = true) : Vis sc x := by
  unfold visB at h
  simp only [Bool.or_eq_true, decide_eq_true_eq, or_assoc] at h
  exact h
theorem varB_ok {i : Nat} {x : Str} (c : CtxE gi k N sc d X j) (h : varB N sc i x = true) : X.N[i]? = some x ∧ Vis X.env.scope x ∧ (x == ("__debug__" : Str)) = false ∧ (x == ("__classdict__" : Str)) = false := by
  unfold varB at h
  simp only [Bool.and_eq_true, decide_eq_true_eq] at h
  rw [c.N, c.sc]
  exact ⟨h.1.1, visB_ok h.1.2, nameOk_ok h.2⟩
theorem glB_ok {x : Str} (c : CtxE gi k N sc d X j) (h : glB sc x = true) : Gl X x := by
  unfold glB at h
  have h := of_decide_eq_true h
  rw [← c.sc] at h
  exact h
theorem bltB_ok {x : Str} {id : String} (c : CtxE gi k N sc d X j) (h : bltB gi sc x id = true) : BName X x (.builtin id) := by
  unfold bltB at h
  rw [Bool.and_eq_true] at h
  obtain ⟨h1, h2⟩ := h
  split at h2
  · rename_i i e
    have := of_decide_eq_true h2
    subst this
    exact ⟨glB_ok c h1, c.gl x _ e⟩
  · cases h2
theorem tyB_ok {x : Str} {id : String} (c : CtxE gi k N sc d X j) (h : tyB gi sc x id = true) : BName X x (.type id) := by
  unfold tyB at h
  rw [Bool.and_eq_true] at h
  obtain ⟨h1, h2⟩ := h
  split at h2
  · rename_i i e
    have := of_decide_eq_true h2
    subst this
    exact ⟨glB_ok c h1, c.gl x _ e⟩
  · cases h2
theorem lit_ok {p : P} {e : Expr} (c : CtxE gi k N sc d X j) (h : litB gi sc p e = true) : EOk X j (.lit p) e := by
  unfold litB at h
  split at h
  · have := of_decide_eq_true h; subst this; exact ok_lit pe_int fun Z => .int _
  · have := of_decide_eq_true h; subst this; exact ok_lit (pe_neg1 (kk := 0) (p2 := ⟨0, 0, 0, 0⟩) pe_int) fun Z => .int _
  · have := of_decide_eq_true h; subst this; exact ok_lit pe_str fun Z => .str _
  · have := of_decide_eq_true h; subst this; exact ok_lit pe_bl fun Z => .bl _
  · exact ok_lit pe_non fun Z => .non
  · rename_i x p'
    unfold cstB at h
    simp only [Bool.and_eq_true] at h
    obtain ⟨⟨h1, h2⟩, h3⟩ := h
    have key : ∀ p, gi x = some (.cst p) → EOk X j (.lit p) (.Name x p') := fun p e => by
      obtain ⟨u, v, e1, e2, e3⟩ := c.gl x _ e
      exact ok_lit (pe_glob (glB_ok c h1) e1 e2 (nameOk_ok h2).1) e3
    split at h3
    · rename_i e; have := of_decide_eq_true h3; subst this; exact key _ e
    · rename_i e; have := of_decide_eq_true h3; subst this; exact key _ e
    · rename_i e; have := of_decide_eq_true h3; subst this; exact key _ e
    · cases h3
  · cases h
theorem blt_rule {f : Str} (c : CtxE gi k N sc d X j) : (∀ id, bltN f = some (.inl id) → CallR X (.builtin id) (rOp X.K (bltop f))) ∧ (∀ id, bltN f = some (.inr id) → CallR X (.type id) (rOp X.K (bltop f))) := by
  unfold bltN bltop
  refine ⟨fun id h => ?_, fun id h => ?_⟩
  · split at h
    · rename_i e; cases h; rw [if_pos e]; exact lenR
    · rename_i n1
      split at h
      · rename_i e; cases h; rw [if_neg n1, if_pos e]; exact absR
      · rename_i n2
        split at h
        · rename_i e; cases h; rw [if_neg n1, if_neg n2, if_pos e]; exact minR c.calm
        · rename_i n3
          split at h
          · rename_i e; cases h; subst e; rw [if_neg n1, if_neg n2, if_neg n3, if_neg (by decide), if_neg (by decide), if_pos rfl]; exact reprR c.room c.gd
          · split at h
            · rename_i e; cases h; subst e; rw [if_neg n1, if_neg n2, if_neg n3, if_neg (by decide), if_neg (by decide), if_neg (by decide), if_neg (by decide), if_pos rfl]; exact allR c.calm
            · split at h
              · cases h
              · split at h
                · cases h
                · split at h <;> cases h
  · split at h
    · cases h
    · rename_i n1
      split at h
      · cases h
      · rename_i n2
        split at h
        · cases h
        · rename_i n3
          split at h
          · cases h
          · split at h
            · cases h
            · split at h
              · rename_i e; cases h; subst e; rw [if_neg n1, if_neg n2, if_neg n3, if_pos rfl]; exact intR
              · split at h
                · rename_i e; cases h; subst e; rw [if_neg n1, if_neg n2, if_neg n3, if_neg (by decide), if_pos rfl]; exact strR
                · split at h
                  · rename_i e; cases h; subst e; rw [if_neg n1, if_neg n2, if_neg n3, if_neg (by decide), if_neg (by decide), if_neg (by decide), if_pos rfl]; exact tupR
                  · cases h
theorem tysB_ok (c : CtxE gi k N sc d X j) : ∀ {ts : List String} {es : List Expr}, tysB gi sc ts es = true → TyNs X es ts
  | [], [], _ => .nil
  | [], _ :: _, h => by simp [tysB] at h
  | t :: ts, [], h => by simp [tysB] at h
  | t :: ts, e :: es, h => by
    cases e <;> simp only [tysB, Bool.and_eq_true] at h <;> try cases h
    exact .cons (tyB_ok c (by assumption)) (star_cons rfl) (tysB_ok c (by assumption))
theorem lastMarks_two {o1 o2 : CmpOp} {eb ec : Expr} (h : notSet ec = true) : lastMarks [o1, o2] [eb, ec] = false := by
  show behindInMarks o2 ec = false
  exact marks_of h
theorem kw_all : ∀ {kws : List Keyword} {pos : Pos} {env : PySem.Env}, kws.all (·.arg.isSome) = true → (backToKw pos (keywordEach kws env)).all (·.1.isSome) = true ∧ (backToKw pos (keywordEach kws env)).filterMap (·.1) = kws.filterMap (·.arg) ∧ (backToKw pos (keywordEach kws env)).any (·.1.isNone) = false
  | [], _, _, _ => ⟨rfl, rfl, rfl⟩
  | ⟨nm, e, p⟩ :: ks, pos, env, h => by
    rw [List.all_cons, Bool.and_eq_true] at h
    obtain ⟨h1, h2, h3⟩ := kw_all (pos := pos) (env := env) h.2
    cases nm with
    | none => cases h.1
    | some x =>
      refine ⟨?_, ?_, ?_⟩
      · show (true && (backToKw pos (keywordEach ks env)).all _) = true
        rw [h1]; rfl
      · show x :: (backToKw pos (keywordEach ks env)).filterMap _ = x :: ks.filterMap _
        rw [h2]
      · show (false || (backToKw pos (keywordEach ks env)).any _) = false
        rw [h3]; rfl
mutual
theorem chG_ok {d : Bool} {prot : List Nat} {K : PySem.W.Frag} (hK : X.K = K) (hNN : X.N = N) (hnd : X.N.Nodup) (hc : X.calm = true) (hs : X.env.scope = sc) (hd : d = true → ∀ y, X.fn y = true) : ∀ (n : Nat) (g : Tg) (e : Expr), chG N d sc n g e = true → GOk X K prot g e
  | 0, _, _, h => by simp [chG] at h
  | n + 1, g, e, h => by
    unfold chG at h
    split at h
    · rename_i hh; cases hh
    · rename_i n' i kp x p hh
      simp only [Bool.and_eq_true, decide_eq_true_eq] at h
      obtain ⟨h1, h2⟩ := h
      unfold locB at h2
      simp only [Bool.or_eq_true, Bool.and_eq_true, decide_eq_true_eq] at h2
      have hloc : Loc X.env.scope x := by
        rw [hs]
        rcases h2 with h2 | h2
        · exact .inl h2
        · exact .inr h2.2
      refine go_nm (j := ⟨K, fun _ => none, fun _ _ _ _ => False, fun _ _ => .bad⟩) hnd (by rw [hNN]; exact h1) hloc ?_
      rcases h2 with h2 | h2
      · exact .inr (by rw [hs]; exact h2)
      · exact .inl (hd h2.1 x)
    · rename_i n' gs es kk p hh
      cases hh
      simp only [Bool.and_eq_true, decide_eq_true_eq] at h
      obtain ⟨⟨h1, h2⟩, h3⟩ := h
      exact go_tp (j := ⟨K, fun _ => none, fun _ _ _ _ => False, fun _ _ => .bad⟩) hc hK (chGs_ok hK hNN hnd hc hs hd n gs es h2 h1 h3) h1 h2
    · cases h
theorem chGs_ok {d : Bool} {prot : List Nat} {K : PySem.W.Frag} (hK : X.K = K) (hNN : X.N = N) (hnd : X.N.Nodup) (hc : X.calm = true) (hs : X.env.scope = sc) (hd : d = true → ∀ y, X.fn y = true) : ∀ (n : Nat) (gs : List Tg) (es : List Expr), gs.length = es.length → es.all notStar = true → ((gs.zip es).all fun p => chG N d sc n p.1 p.2) = true → GsOk X K prot gs es
  | n, [], [], _, _, _ => gso_nil (j := ⟨K, fun _ => none, fun _ _ _ _ => False, fun _ _ => .bad⟩)
  | n, [], _ :: _, h, _, _ => by simp at h
  | n, _ :: _, [], h, _, _ => by simp at h
  | n, g :: gs, e :: es, h, h1, h2 => by
    rw [List.zip_cons_cons, List.all_cons, Bool.and_eq_true] at h2
    rw [List.all_cons, Bool.and_eq_true] at h1
    exact gso_cons (j := ⟨K, fun _ => none, fun _ _ _ _ => False, fun _ _ => .bad⟩) (chG_ok hK hNN hnd hc hs hd n g e h2.1) (chGs_ok hK hNN hnd hc hs hd n gs es (by simpa using h) h1.2 h2.2) h1.1
end
end Ev
end

section
set_option Elab.async false
set_option linter.all false
/-! EvW: _law_word(lambda: ..). -/
namespace Ev
open PySem L2 LamX Wd
section
variable {K : PySem.W.Frag} {Z H Z1 H1 H2 : Hp} {F fp : List Addr} {env : Env} {σ : St} {fps : List (List Addr)}
/-- a lambda is made: its table grows -/
theorem Post.lam {i : Nat} {P c' : Addr} {q : Str} {ps : Array Value} (p : Post K Z H F Z1 H1 env σ fps fp) (he : getE env i = some (.tab P q)) (hps : H1 P = some (.tbl ps)) (l : LamH H1 P q ps c' H2) :
    ∃ Z2, Ex Z1 Z2 ∧ Post K Z H F Z2 H2 env σ fps fp ∧ Z2 c' = some (CodeO c' q) := by
  obtain ⟨v, f, h1, h2, h3⟩ := p.good.rep.at he
  cases h3 with
  | @tab _ _ ps' hP ok co =>
    rw [hps] at hP
    cases hP
    cases l with
    | hit hc =>
      obtain ⟨pos, e⟩ := hc
      obtain ⟨c, ec, hz⟩ := co pos _ e
      cases ec
      exact ⟨Z1, Evl.Ex.refl _, p, hz⟩
    | new more n ok' am =>
      have nP : c' ≠ P := fun e => by subst e; rw [hps] at n; cases n
      have n' : L2.upd H1 P (.tbl (ps ++ more)) c' = none := by rw [upd_ne nP]; exact n
      have q1 := (p.takeH h2).touch (x := P) (by simp) (.tbl (ps ++ more))
      have nz : Z1 c' = none := Evl.fresh_back q1.good.zle n'
      have q3 := q1.grow (stp_newZ (o := CodeO c' q) q1.good.zle n') (ex_upd2 q1.good.zle) (x := .non) (v := .non) .non
      have ex : Ex Z1 (L2.upd Z1 c' (CodeO c' q)) := Evl.Ex.new nz
      have hl : i < fps.length := (List.getElem?_eq_some_iff.mp h2).1
      have q4 := q3.put (i := i) (d := .tab P q) (f := [P]) (by simp [hl]) (by
        have := q3.good.rep.setD (i := i) h1 (RepD.tab (K := K) (P := P) (q := q) (ps := ps ++ more) (by rw [upd_ne (Ne.symm nP), upd_same]) ok' fun pos cv hc => by
          rcases am pos cv hc with z | z
          · obtain ⟨c, e1, e2⟩ := co pos cv z
            exact ⟨c, e1, ex _ _ e2⟩
          · exact ⟨c', z, upd_same⟩)
        simpa using this)
      have e1 : (fps.set i []).set i [P] = fps := by simp; exact set_get_self h2
      have e2 : (env.set i none).set i (some (.tab P q)) = env := by
        simp
        apply set_get_self
        unfold getE at he
        cases e : env[i]? with
        | none => rw [e] at he; cases he
        | some d => rw [e] at he; dsimp only at he; rw [he]
      rw [e1, e2] at q4
      exact ⟨_, ex, by simpa using q4, upd_same⟩
theorem Post.tab {i : Nat} {P : Addr} {q : Str} (p : Post K Z H F Z1 H1 env σ fps fp) (he : getE env i = some (.tab P q)) : ∃ ps, TabK H1 P q ps := by
  obtain ⟨v, f, h1, h2, h3⟩ := p.good.rep.at he
  cases h3 with
  | tab hP ok co => exact ⟨_, hP, ok, fun pos cv hc => (co pos cv hc).elim fun c z => ⟨c, z.1, p.good.zle _ _ z.2⟩⟩
/-- a new list in hand -/
theorem Post.newL {a : Addr} (p : Post K Z H F Z1 H1 env σ fps fp) (n : H1 a = none) (vs : List V) : Post K Z H F Z1 (L2.upd H1 a (.lst vs)) env σ fps (fp ++ [a]) := by
  have := Post.mk1 (j := ⟨K, fun _ => none, fun _ _ _ _ => False, fun _ _ => .bad⟩) p.good.start (stp_new (o := .lst []) p.good.zle n) (fun x u h => by rw [upd_ne (ne_of_none (p.good.zle x u h) n)]; exact p.good.zle x u h) (RepD.pl upd_same RepPs.nil) (fun x h => by simp at h; rw [h]; exact Evl.fresh_back p.good.zle n)
  have q := (p.comp this).touch (x := a) (by simp) (.lst vs)
  have e : L2.upd (L2.upd H1 a (.lst [])) a (.lst vs) = L2.upd H1 a (.lst vs) := by
    funext x
    by_cases e : x = a
    · subst e; rw [upd_same, upd_same]
    · rw [upd_ne e, upd_ne e, upd_ne e]
  rwa [e] at q
/-- something new that is shared -/
theorem Post.newZ {a : Addr} (p : Post K Z H F Z1 H1 env σ fps fp) (n : H1 a = none) (o : HO) : Ex Z1 (L2.upd Z1 a o) ∧ Post K Z H F (L2.upd Z1 a o) (L2.upd H1 a o) env σ fps fp :=
  ⟨Evl.Ex.new (Evl.fresh_back p.good.zle n), p.grow (stp_newZ p.good.zle n) (ex_upd2 p.good.zle) (x := .non) (v := .non) .non⟩
end
section
variable {X : L2.Cx} {j : J} {t : T} {a b : Nat} {PL PW cL CO CU CT CN : Addr} {k : Nat} {body : Expr} {scope : Scope} {lpos p pos : Pos}
theorem ok_word (n : NP t) (D : WordDef X.K X.mg X.base CO CU CT CN PW) (TBL : TabB X.base X.mg cL PL) (hcode : X.env.code = .ref cL) (hr : Room (k + 4) X.A) (hgd : X.A.guards = some []) (L : LamS X.env.scope scope) (hgl : Gl X "_law_word") (hca : j.ca "NoText" = some CN)
    (hΓ : ∀ d1 d2 o ds, j.Γ "%tab" [d1, d2] = .ok o ds → d1 = .tab PL (X.env.qual ++ "<lambda>") ∧ d2 = .tab PW "_law_word.<locals>.<lambda>")
    (hbody : ∀ (A : Around) (outer : List PySem.Env) (s1 : Shared) (HZ : Hp) (E : XK) (f c' : Addr), Room k (A.deeper (lamEnv X scope s1.heap.objs.size f c')) → A.guards = some [] → PE (lamCx X A outer s1 HZ E scope f c') body (tE ⟨j.K, j.ca, fun cls d _ H => E cls d H, j.Γ⟩ t)) :
    EOk X j (.word a b t) (.Call (.Name "_law_word" p) [.Lambda noParams body scope lpos] [] pos) := by
  refine imp (pe_word (t := fun E => tE ⟨j.K, j.ca, fun cls d _ H => E cls d H, j.Γ⟩ t) D TBL hcode hr hgd L hgl hbody (fun {σ E E' H Q Q'} hE hQ ⟨Z, env, fps, G, h⟩ => ⟨Z, env, fps, G, ?_⟩)) fun σ H Q ⟨Z, env, fps, G, h⟩ => ?_
  · dsimp only at h ⊢
    cases e : evT j.Γ t env with
    | ok d e2 =>
      rw [e] at h
      exact fun Z' H' fps' fp v q r => hQ v H' (h Z' H' fps' fp v q r)
    | exc c fs e2 =>
      rw [e] at h
      exact fun Z' H' fps' cls dx q x => hE cls dx H' (h Z' H' fps' cls dx q x)
    | bad =>
      rw [e] at h
      exact h
  · unfold evT at h
    split at h
    · rename_i d1 d2 ea eb
      split at h
      · rename_i od ods eΓ
        obtain ⟨rfl, rfl⟩ := hΓ _ _ _ _ eΓ
        have p0 := G.start
        obtain ⟨ps, tk⟩ := p0.tab ea
        refine ⟨ps, tk, fun c1 H1 lh => ?_⟩
        obtain ⟨Z1, x1, p1, hc1⟩ := p0.lam ea tk.at_ lh
        obtain ⟨ps2, tk2⟩ := p1.tab eb
        refine ⟨ps2, tk2, p1.good.zle _ _ hc1, fun t0 c2 H3 a0 nt lh2 na => ?_⟩
        have p2 := p1.newL nt []
        obtain ⟨Z3, x3, p3, hc3⟩ := p2.lam eb (tk2.upd nt).at_ lh2
        have p4 := p3.newL na []
        refine ⟨Z3, env, fps, p4.good, ?_⟩
        have ntt : t0 ≠ a0 := fun e => by
          subst e
          obtain ⟨o, eo⟩ := p3.al t0 (by simp)
          rw [na] at eo; cases eo
        have ht3 : H3 t0 = some (.lst []) := lh2.lst (tk2.upd nt).at_ upd_same
        have ht4 : L2.upd H3 a0 (.lst []) t0 = some (.lst []) := by rw [upd_ne ntt]; exact ht3
        have ha4 : L2.upd H3 a0 (.lst []) a0 = some (.lst []) := upd_same
        have kept : ∀ {Z5 H5 : Hp} {e5 : Env} {fps5 : List (List Addr)} {fp5 : List Addr}, Post j.K Z3 (L2.upd H3 a0 (.lst [])) fps.flatten Z5 H5 e5 σ fps5 fp5 → H5 t0 = some (.lst []) ∧ H5 a0 = some (.lst []) := fun q =>
          ⟨q.stp.fr t0 _ ht4 (p4.dj t0 (by simp)), q.stp.fr a0 _ ha4 (p4.dj a0 (by simp))⟩
        show PostO ⟨j.K, j.ca, fun cls d _ H => EWord CN t0 a0 Q cls d H, j.Γ⟩ Z3 _ _ σ t (QWord t0 a0 Q) (evT j.Γ t env)
        cases e : evT j.Γ t env with
        | ok d e5 =>
          rw [e] at h
          dsimp only at h
          intro Z5 H5 fps5 fp5 v q r
          obtain ⟨k1, k2⟩ := kept q
          refine ⟨k1, k2, fun b0 nb => ?_⟩
          have q5 := p4.comp q
          unfold optP at h
          split at h
          · rename_i x ef
            have q6 : Post j.K Z H fps.flatten Z5 H5 e5 σ fps5 (fp5 ++ [t0, a0]) := q5.sub (fun x hx => by
              simp only [List.mem_append, List.mem_cons, List.not_mem_nil, or_false] at hx ⊢
              rcases hx with hx | hx | hx
              · exact .inr hx
              · exact .inl (.inl (.inr hx))
              · exact .inl (.inr hx)) (by
              have := q5.nd
              simp only [List.nil_append] at this
              exact (List.perm_append_comm.nodup this))
            obtain ⟨Z6, x6, q7, rx⟩ := q6.share (RO.rep r n) ef
            have q8 := q7.touch (x := t0) (by simp) (.lst [v])
            have q9 := (q8.newL nb []).drop
            exact h Z6 _ fps5 [] v q9 (RO.of (.p rx) (by simp))
          · exact h.elim
        | exc c fs e5 =>
          rw [e] at h
          dsimp only at h
          intro Z5 H5 fps5 cls dx q x
          obtain ⟨k1, k2⟩ := kept q
          unfold optP at h
          split at h
          · rename_i w ew
            unfold wordOf at ew
            split at ew
            · rename_i ec
              subst ec
              split at ew
              · rename_i fl xl
                split at ew
                · rename_i efl
                  subst efl
                  cases ew
                  obtain ⟨C, hC, rfl, dd, v, rfl, hz, rv⟩ := x
                  rw [show j.ca "NoText" = _ from hca] at hC
                  cases hC
                  refine ⟨rfl, dd, v, rfl, q.good.zle _ _ hz, k2, fun a b0 tt na' nb nt' => ?_⟩
                  have q5 := (p4.comp q).touch (x := a0) (by simp) (.lst [.ref a])
                  have na2 : L2.upd H5 a0 (.lst [.ref a]) a = none := by
                    rw [upd_ne (ne_of_none k2 na').symm]; exact na'
                  obtain ⟨y1, r1⟩ := q5.newZ na2 (exK a (.ref CN) (some dd))
                  obtain ⟨y2, r2⟩ := r1.newZ nb (.lst [])
                  obtain ⟨y3, r3⟩ := r2.newZ nt' (.tup [.str "text", v])
                  refine h _ _ fps5 [] _ r3.drop (RO.of (.p (.tup (SqT.of upd_same) (.cons (.str _) (.cons (rv.mono ?_) .nil)))) (by simp))
                  exact (y1.trans y2).trans y3
                · cases ew
              · cases ew
            · cases ew
          · exact h.elim
        | bad =>
          rw [e] at h
          exact h
      · exact h.elim
    · exact h.elim
end
end Ev
end

section
set_option Elab.async false
set_option linter.all false
/-! Ev25: the check of expressions is sound. -/
namespace Ev
open PySem L2
structure Snd (gi : Str → Option GI) (k : Nat) (N : List Str) (n : Nat) : Prop where
  E : ∀ {sc d X j t e}, CtxE gi k N sc d X j → chE gi N n sc t e = true → EOk X j t e
  A : ∀ {sc d X j ts es}, CtxE gi k N sc d X j → chA gi N n sc ts es = true → AOk X j ts es
  As : ∀ {sc d X j ts es}, CtxE gi k N sc d X j → chA gi N n sc ts es = true → AsOk X j ts es
  Kw : ∀ {sc d X j ts} {kws : List Keyword}, CtxE gi k N sc d X j → chA gi N n sc ts (kws.map (·.value)) = true → KwOk X j ts kws
  O : ∀ {sc d X j t e}, CtxE gi k N sc d X j → chO gi N n sc t e = true → OOk X j t e
  C : ∀ {sc d X j t e}, CtxE gi k N sc d X j → chC gi N n sc t e = true → COk X j t e
  T : ∀ {sc d X j t e}, CtxE gi k N sc d X j → chT gi N n sc t e = true → TOk X j t e
  W : ∀ {sc d X j t e}, CtxE gi k N sc d X j → chW gi N n sc t e = true → WOk X j t e
  I : ∀ {sc d X j tg t e}, CtxE gi k N sc d X j → chI gi N n sc tg t e = true → IOk X j tg t e
section
variable {gi : Str → Option GI} {k : Nat} {N : List Str} {n : Nat} {sc : Scope} {d : Bool} {X : L2.Cx} {j : J} {t : T} {e : Expr}
theorem own_map (own : List Nat) : (own.map fun i => (N.getD i "", i)).map (·.2) = own := by
  rw [List.map_map]
  exact (List.map_congr_left fun i _ => rfl).trans (List.map_id own)
theorem all_np {ts : List T} (h : ts.all npB = true) : ∀ t ∈ ts, NP t := fun t ht => npB_ok (List.all_eq_true.mp h t ht)
theorem len_lim {m : Nat} (h : m ≤ 1000) : m ≤ lim := Nat.le_trans h (by decide)
theorem call_fn {f : Str} {m : Nat} (c : CtxE gi k N sc d X j) (h : fnB gi sc f m = true) : ∃ fa fd ps, Gl X f ∧ nameOk f = true ∧ X.mg f = some (.ref fa) ∧ PySem.W.keepIn X.K (.ref fa) = true ∧ Binds X.K fd ps [] ∧ FnG X.prog X.w X.K X.mg X.base k fa fd ps (spE j f) := by
  unfold fnB at h
  simp only [Bool.and_eq_true] at h
  obtain ⟨⟨h1, h2⟩, h3⟩ := h
  split at h3
  · rename_i ps e
    obtain ⟨fa, fd, g1, g2, g3, g4, g5⟩ := c.gl f _ e
    exact ⟨fa, fd, ps, glB_ok c h1, h2, g1, g2, g3, g5⟩
  · cases h3
theorem call_fnk {f : Str} {ks : List Str} (c : CtxE gi k N sc d X j) (h : fnKB gi sc f ks = true) : ∃ fa fd, Gl X f ∧ nameOk f = true ∧ X.mg f = some (.ref fa) ∧ PySem.W.keepIn X.K (.ref fa) = true ∧ BindsK X.K fd ks ∧ FnG X.prog X.w X.K X.mg X.base k fa fd ks (spE j f) := by
  unfold fnKB at h
  simp only [Bool.and_eq_true] at h
  obtain ⟨⟨h1, h2⟩, h3⟩ := h
  split at h3
  · rename_i ps e
    have := of_decide_eq_true h3
    subst this
    obtain ⟨fa, fd, g1, g2, g3, g4, g5⟩ := c.gl f _ e
    exact ⟨fa, fd, glB_ok c h1, h2, g1, g2, g4, g5⟩
  · cases h3
theorem snd_E (S : Snd gi k N n) (c : CtxE gi k N sc d X j) (h : chE gi N (n + 1) sc t e = true) : EOk X j t e := by
  have hu : X.A.units + 1 < cLine := by have := c.room.units; omega
  unfold chE at h
  cases t with
  | var i =>
    dsimp only at h
    split at h
    · obtain ⟨h1, h2, h3, h4⟩ := varB_ok c h; exact ok_var h1 h2 h3 h4
    · cases h
  | pk i =>
    dsimp only at h
    split at h
    · obtain ⟨h1, h2, h3, h4⟩ := varB_ok c h; exact ok_pk h1 h2 h3 h4
    · cases h
  | lit p => exact lit_ok c h
  | tup ts =>
    dsimp only at h
    split at h
    · simp only [Bool.and_eq_true, decide_eq_true_eq] at h
      exact ok_tup (all_np h.1.2) (len_lim h.1.1) (S.A c h.2)
    · cases h
  | lst ts =>
    dsimp only at h
    split at h
    · simp only [Bool.and_eq_true, decide_eq_true_eq] at h
      exact ok_lst (all_np h.1.2) (len_lim h.1.1) (S.A c h.2)
    · cases h
  | bin op a b =>
    dsimp only at h
    split at h
    · simp only [Bool.and_eq_true, decide_eq_true_eq] at h
      obtain ⟨⟨h1, h2⟩, h3⟩ := h
      subst h1
      exact ok_bin c.K (S.E c h2) (S.E c h3)
    · cases h
  | cmp op a b =>
    dsimp only at h
    split at h
    · simp only [Bool.and_eq_true, decide_eq_true_eq] at h
      obtain ⟨⟨⟨h1, h2⟩, h3⟩, h4⟩ := h
      subst h1
      exact ok_cmp c.K c.room (S.E c h3) (S.E c h4) (marks_of h2)
    · cases h
  | chn o1 o2 a b c' =>
    dsimp only at h
    split at h
    · simp only [Bool.and_eq_true, decide_eq_true_eq] at h
      obtain ⟨⟨⟨⟨⟨h1, h2⟩, h3⟩, h4⟩, h5⟩, h6⟩ := h
      subst h1 h2
      exact ok_chn c.K c.room (S.E c h4) (S.E c h5) (S.E c h6) (lastMarks_two h3)
    · cases h
  | and a b =>
    dsimp only at h
    split at h
    · simp only [Bool.and_eq_true] at h
      exact ok_and (npB_ok h.1.1) (S.E c h.1.2) (ok_one (S.E c h.2))
    · simp only [Bool.and_eq_true] at h
      exact ok_and (npB_ok h.1.1) (S.E c h.1.2) (S.E c h.2)
    · cases h
  | or a b =>
    dsimp only at h
    split at h
    · simp only [Bool.and_eq_true] at h
      exact ok_or (npB_ok h.1.1) (S.E c h.1.2) (ok_one (S.E c h.2))
    · simp only [Bool.and_eq_true] at h
      exact ok_or (npB_ok h.1.1) (S.E c h.1.2) (S.E c h.2)
    · cases h
  | not a =>
    dsimp only at h
    split at h
    · exact ok_not (S.E c h)
    · cases h
  | ife c' a b =>
    dsimp only at h
    split at h
    · simp only [Bool.and_eq_true] at h
      obtain ⟨⟨⟨⟨h1, h2⟩, h3⟩, h4⟩, h5⟩ := h
      exact ok_ife (npB_ok h1) (npB_ok h2) (S.T c h3) (S.E c h4) (S.E c h5)
    · cases h
  | idx a i =>
    dsimp only at h
    split at h
    · simp only [Bool.and_eq_true] at h
      exact ok_idx c.K (plainIx h.1.1) (S.E c h.1.2) (S.E c h.2)
    · cases h
  | slc a lo hi =>
    dsimp only at h
    split at h
    · simp only [Bool.and_eq_true] at h
      exact ok_slc c.K (S.E c h.1.1) (S.O c h.1.2) (S.O c h.2)
    · cases h
  | call f as =>
    dsimp only at h
    split at h
    · simp only [Bool.and_eq_true, decide_eq_true_eq] at h
      obtain ⟨⟨⟨h1, h2⟩, h3⟩, h4⟩ := h
      subst h1
      obtain ⟨fa, fd, ps, g1, g2, g3, g4, g5, g6⟩ := call_fn c h2
      exact ok_call g6 c.room c.gd g1 g3 g4 g5 c.tk (S.As c h4) (nameOk_ok g2).1 h3
    · simp only [Bool.and_eq_true, decide_eq_true_eq] at h
      obtain ⟨⟨⟨h1, h2⟩, h3⟩, h4⟩ := h
      subst h1
      obtain ⟨fa, fd, g1, g2, g3, g4, g5, g6⟩ := call_fnk c h2
      obtain ⟨q1, q2, q3⟩ := kw_all (pos := by assumption) (env := X.env) h3
      exact ok_callk g6 c.room c.gd g1 g3 g4 g5 c.tk (S.Kw c h4) (nameOk_ok g2).1 q1 q2 (by rw [q3]; rfl)
    · cases h
  | blt f as =>
    dsimp only at h
    split at h
    · simp only [Bool.and_eq_true, decide_eq_true_eq] at h
      obtain ⟨⟨⟨h1, h2⟩, h3⟩, h4⟩ := h
      subst h1
      split at h2
      · rename_i id e
        exact ok_blt c.K (bltB_ok c h2) ((blt_rule c).1 id e) (S.A c h4) h3
      · rename_i id e
        exact ok_blty c.K (tyB_ok c h2) ((blt_rule c).2 id e) (S.A c h4) h3
      · cases h2
    · cases h
  | isi a tys =>
    dsimp only at h
    split at h
    · simp only [Bool.and_eq_true, decide_eq_true_eq] at h
      obtain ⟨⟨⟨⟨h1, h2⟩, h3⟩, h4⟩, h5⟩ := h
      subst h1
      split at h4
      · exact ok_isi1 c.K (bltB_ok c h2) (tyB_ok c h4) (S.E c h5) (star_cons h3) (star_cons rfl) (star_any rfl)
      · cases h4
    · simp only [Bool.and_eq_true, decide_eq_true_eq] at h
      obtain ⟨⟨⟨⟨⟨h1, h2⟩, h3⟩, h4⟩, h5⟩, h6⟩ := h
      subst h1
      exact ok_isiN c.K (bltB_ok c h2) (tysB_ok c h5) (len_lim h4) (S.E c h6) (star_cons h3) (star_cons rfl) (star_any rfl)
    · cases h
  | comp elt g it cond own =>
    dsimp only at h
    split at h
    · simp only [Bool.and_eq_true, decide_eq_true_eq] at h
      obtain ⟨⟨⟨⟨⟨⟨⟨h1, h2⟩, h3⟩, h4⟩, h5⟩, h6⟩, h7⟩, h8⟩ := h
      subst h1
      rename_i e0 ea tg ei ifs scope pos'
      have hb := blkOk_by h5
      rw [← c.sc, ← c.N] at hb
      have q := ok_comp (j := j) (pos := pos') (npB_ok h2) c.calm c.nd (S.I c h4) hb (fun s H C cl fp prot => by
        have cb := c.blk s H scope C cl fp
        have := chG_ok (prot := prot) (K := j.K) cb.K cb.N cb.nd cb.calm cb.sc cb.dn n g _ h6
        exact this) (fun s H C cl fp => S.C (c.blk s H scope C cl fp) h7) (fun s H C cl fp => S.E (c.blk s H scope C cl fp) h8) h3
      rw [own_map] at q
      exact q
    · cases h
  | pop i =>
    dsimp only at h
    split at h
    · simp only [Bool.and_eq_true, decide_eq_true_eq] at h
      obtain ⟨⟨h1, h2⟩, h3⟩ := h
      subst h1
      obtain ⟨g1, g2, g3, g4⟩ := varB_ok c h2
      exact ok_pop g1 g2 g3 g4 h3
    · cases h
  | join a b =>
    dsimp only at h
    split at h
    · simp only [Bool.and_eq_true, decide_eq_true_eq] at h
      obtain ⟨⟨⟨⟨⟨h1, h2⟩, h3⟩, h4⟩, h5⟩, h6⟩ := h
      subst h1
      exact ok_join c.K h2 h3 h4 (S.E c h5) (S.E c h6)
    · cases h
  | word a b t =>
    dsimp only at h
    split at h
    · simp only [Bool.and_eq_true, decide_eq_true_eq] at h
      obtain ⟨⟨⟨⟨h1, h2⟩, h3⟩, h4⟩, h5⟩ := h
      subst h1
      split at h5
      · rename_i wb eg
        obtain ⟨_, kw, PL, PW, cL, CO, CU, CT, CN, g1, g2, g3, g4, g5, g6, g7⟩ := c.gl _ _ eg
        rw [← c.sc] at h3
        exact ok_word (npB_ok h4) g2 g3 g4 g1 c.gd (LamX.lamS_by h3) (glB_ok c h2) g5 g6 fun A outer s1 HZ E f c' hr hg => g7 X _ _ _ A outer s1 HZ E f c' rfl rfl rfl rfl rfl rfl h5 hr hg
      · cases h5
    · cases h
  | late f i t =>
    dsimp only at h
    split at h
    · simp only [Bool.and_eq_true, decide_eq_true_eq] at h
      obtain ⟨⟨⟨⟨⟨h1, h2⟩, h3⟩, h4⟩, h5⟩, h6⟩ := h
      subst h1
      obtain ⟨fa, fd, ps, g1, g2, g3, g4, g5, g6⟩ := call_fn c h2
      obtain ⟨v1, v2, v3, v4⟩ := varB_ok c h3
      exact ok_late (npB_ok h5) g6 c.room c.gd g1 g3 g4 g5 c.tk v1 v2 v3 v4 (S.E c h6) (nameOk_ok g2).1 h4
    · cases h
  | dead => exact ⟨fun p s σ H Q I ⟨Z, env, fps, G, q⟩ => by unfold evT at q; exact q.elim⟩
  | range t => cases h
  | enum t => cases h
  | rev t => cases h
  | lln =>
    dsimp only at h
    split at h
    · exact ok_lln
    · cases h
  | popt i =>
    dsimp only at h
    split at h
    · simp only [Bool.and_eq_true, decide_eq_true_eq] at h
      obtain ⟨⟨⟨⟨h1, h2⟩, h3⟩, h4⟩, h5⟩ := h
      subst h1 h2
      obtain ⟨g1, g2, g3, g4⟩ := varB_ok c h4
      exact ok_popt (tyB_ok c h3) g1 g2 g3 g4 h5
    · cases h
  | srest i =>
    dsimp only at h
    split at h
    · simp only [Bool.and_eq_true, decide_eq_true_eq] at h
      obtain ⟨h1, h2⟩ := h
      subst h1
      obtain ⟨g1, g2, g3, g4⟩ := varB_ok c h2
      exact ok_srest hu g1 g2 g3 g4
    · cases h
  | sturn i =>
    dsimp only at h
    split at h
    · simp only [Bool.and_eq_true, decide_eq_true_eq] at h
      obtain ⟨h1, h2⟩ := h
      subst h1
      obtain ⟨g1, g2, g3, g4⟩ := varB_ok c h2
      exact ok_sturn hu g1 g2 g3 g4
    · cases h
  | scells i =>
    dsimp only at h
    split at h
    · simp only [Bool.and_eq_true, decide_eq_true_eq] at h
      obtain ⟨h1, h2⟩ := h
      subst h1
      obtain ⟨g1, g2, g3, g4⟩ := varB_ok c h2
      exact ok_scells hu g1 g2 g3 g4
    · cases h
  | sgne i =>
    dsimp only at h
    split at h
    · simp only [Bool.and_eq_true, decide_eq_true_eq] at h
      obtain ⟨h1, h2⟩ := h
      subst h1
      obtain ⟨g1, g2, g3, g4⟩ := varB_ok c h2
      exact ok_sgne c.room g1 g2 g3 g4
    · cases h
  | spop i =>
    dsimp only at h
    split at h
    · simp only [Bool.and_eq_true, decide_eq_true_eq] at h
      obtain ⟨⟨⟨⟨h1, h2⟩, h3⟩, h4⟩, h5⟩ := h
      subst h1 h2 h3
      obtain ⟨g1, g2, g3, g4⟩ := varB_ok c h4
      exact ok_spop hu g1 g2 g3 g4 h5
    · cases h
  | smk ts =>
    dsimp only at h
    split at h
    · simp only [Bool.and_eq_true, decide_eq_true_eq] at h
      obtain ⟨⟨⟨⟨⟨h1, h2⟩, h3⟩, h4⟩, h5⟩, h6⟩ := h
      subst h1 h2 h3 h4
      split at h6
      · simp only [Bool.and_eq_true] at h6
        exact ok_smk (all_np h5) (S.E c h6.1.1.1) (S.E c h6.1.1.2) (S.E c h6.1.2) (S.E c h6.2)
      · cases h6
    · cases h
theorem snd_T (S : Snd gi k N n) (c : CtxE gi k N sc d X j) (h : chT gi N (n + 1) sc t e = true) : TOk X j t e := by
  have other : (npB t && plainTest e && chE gi N n sc t e) = true → TOk X j t e := fun h => by
    simp only [Bool.and_eq_true] at h
    exact tk_val (S.E c h.2) (npB_ok h.1.1) (test_of h.1.2)
  unfold chT at h
  cases t with
  | pk i =>
    dsimp only at h
    split at h
    · obtain ⟨h1, h2, h3, h4⟩ := varB_ok c h; exact tk_pk (ok_pk h1 h2 h3 h4)
    · cases h
  | not a =>
    dsimp only at h
    split at h
    · exact tk_not (S.T c h)
    · cases h
  | sgne i =>
    dsimp only at h
    split at h
    · simp only [Bool.and_eq_true, decide_eq_true_eq] at h
      obtain ⟨h1, h2⟩ := h
      subst h1
      obtain ⟨g1, g2, g3, g4⟩ := varB_ok c h2
      exact tk_sgne c.room g1 g2 g3 g4
    · cases h
  | and a b => exact tk_w (S.W c h)
  | or a b => exact tk_w (S.W c h)
  | cmp op a b =>
    dsimp only at h
    split at h
    · simp only [Bool.and_eq_true, decide_eq_true_eq] at h
      obtain ⟨⟨⟨h1, h2⟩, h3⟩, h4⟩ := h
      subst h1
      exact tk_cmp c.K c.room (S.E c h3) (S.E c h4) (marks_of h2)
    · cases h
  | chn o1 o2 a b c' =>
    dsimp only at h
    split at h
    · simp only [Bool.and_eq_true, decide_eq_true_eq] at h
      obtain ⟨⟨⟨⟨⟨h1, h2⟩, h3⟩, h4⟩, h5⟩, h6⟩ := h
      subst h1 h2
      exact tk_chn c.K c.room (S.E c h4) (S.E c h5) (S.E c h6) (lastMarks_two h3)
    · cases h
  | _ => exact other h
theorem snd_W (S : Snd gi k N n) (c : CtxE gi k N sc d X j) (h : chW gi N (n + 1) sc t e = true) : WOk X j t e := by
  unfold chW at h
  split at h
  · rename_i op ea p
    cases op with
    | And => exact wk_and1 (S.T c h)
    | Or => exact wk_or1 (S.T c h)
  · split at h
    · simp only [Bool.and_eq_true] at h
      exact wk_and (npB_ok h.1.1) (S.T c h.1.2) (S.W c h.2)
    · cases h
  · split at h
    · simp only [Bool.and_eq_true] at h
      exact wk_or (npB_ok h.1.1) (S.T c h.1.2) (S.W c h.2)
    · cases h
  · cases h
theorem snd_I {tg : Expr} (S : Snd gi k N n) (c : CtxE gi k N sc d X j) (h : chI gi N (n + 1) sc tg t e = true) : IOk X j tg t e := by
  unfold chI at h
  split at h
  · split at h
    · simp only [Bool.and_eq_true, decide_eq_true_eq] at h
      obtain ⟨⟨⟨h1, h2⟩, h3⟩, h4⟩ := h
      subst h1
      have b := tyB_ok c h2
      exact io_range b.1 b.2.1 h3 (S.E c h4)
    · cases h
  · split at h
    · simp only [Bool.and_eq_true, decide_eq_true_eq] at h
      obtain ⟨⟨⟨⟨⟨h1, h2⟩, h3⟩, h4⟩, h5⟩, h6⟩ := h
      subst h1 h2
      have b1 := tyB_ok c h3
      have b2 := tyB_ok c h4
      exact io_enumRev c.K b1.1 b1.2.1 b2.1 b2.2.1 (S.E c h6) h5
    · cases h
  · simp only [Bool.and_eq_true] at h
    exact io_val c.K h.1 (S.E c h.2)
theorem snd : ∀ n, Snd gi k N n
  | 0 => ⟨fun _ h => by simp [chE] at h, fun _ h => by simp [chA] at h, fun _ h => by simp [chA] at h, fun _ h => by simp [chA] at h, fun _ h => by simp [chO] at h, fun _ h => by simp [chC] at h, fun _ h => by simp [chT] at h, fun _ h => by simp [chW] at h, fun _ h => by simp [chI] at h⟩
  | n + 1 => by
    have S := snd n
    refine ⟨fun c h => snd_E S c h, fun {sc d X j ts es} c h => ?_, fun {sc d X j ts es} c h => ?_, fun {sc d X j ts kws} c h => ?_, fun {sc d X j t e} c h => ?_, fun {sc d X j t e} c h => ?_, fun c h => snd_T S c h, fun c h => snd_W S c h, fun c h => snd_I S c h⟩
    · unfold chA at h
      split at h
      · exact ao_nil
      · simp only [Bool.and_eq_true] at h
        exact ao_cons (S.E c h.1.2) (S.A c h.2) (star_cons h.1.1)
      · cases h
    · unfold chA at h
      split at h
      · exact as_nil
      · simp only [Bool.and_eq_true] at h
        exact as_cons (S.E c h.1.2) (S.As c h.2) h.1.1
      · cases h
    · unfold chA at h
      cases kws with
      | nil =>
        cases ts with
        | nil => exact kw_nil
        | cons t ts => simp at h
      | cons kw kws =>
        cases ts with
        | nil => simp at h
        | cons t ts =>
          simp only [List.map_cons, Bool.and_eq_true] at h
          obtain ⟨nm, ev, kp⟩ := kw
          exact kw_cons (S.E c h.1.2) (S.Kw c h.2)
    · unfold chO at h
      split at h
      · exact oo_none
      · exact oo_some (S.E c h)
      · cases h
    · unfold chC at h
      split at h
      · exact co_none
      · exact co_one (S.T c h)
      · cases h
end
end Ev
end

section
set_option Elab.async false
set_option linter.all false
/-! Ev26: statements: a check, sound. -/
namespace Ev
open PySem L2
section
variable (gi : Str → Option GI) (N : List Str)
def isExc (x : Str) : Bool := match gi x with
  | some .exc => true
  | _ => false
def swapB (scope : Scope) (x : Str) (px pos : Pos) : Bool := (px.line == pos.line) && !(scope.names.any fun (n, k) => n == x && (k == .local || k == .cell))
mutual
def chS : Nat → Scope → S → Stmt → Bool
  | 0 => fun _ _ _ => false
  | n + 1 => fun sc s st => match s with
    | .asg g t => (match st with
      | .Assign [.Name x px] (.ListComp ea [⟨tg, ei, ifs, as⟩] scope pos) _ => (match g, t with
        | .nm i kp, .comp elt g' it cond own => decide (as = 0) && decide (N[i]? = some x) && decide (sc.names.lookup x = some .local) && swapB scope x px pos && npB elt && notSet ei && chI gi N n sc tg it ei && blkC N sc scope (own.map fun i => (N.getD i "", i)) && chG N false (relS scope sc) n g' tg && chC gi N n (relS scope sc) cond ifs && chE gi N n (relS scope sc) elt ea
        | _, _ => false)
      | .Assign [tg] e _ => npB t && !isComp e && (isName tg || (isTuple tg && !isTuple e)) && chG N true sc n g tg && chE gi N n sc t e
      | _ => false)
    | .asg2 g h a b => (match g, h, st with
      | .nm i kp, .nm i' kp', .Assign [.Tuple [.Name x px, .Name y py] kt pt] (.Tuple [ea, eb] k2 pt2) _ => npB a && npB b && decide (N[i]? = some x) && decide (N[i']? = some y) && decide (i ≠ i') && swapC sc x y px py ea eb && chA gi N n sc [a, b] [ea, eb]
      | _, _, _ => false)
    | .aug i op t => (match st with | .AugAssign (.Name x _) .Add e _ => decide (op = .Add) && decide (N[i]? = some x) && locB sc true x && chE gi N n sc t e | _ => false)
    | .app i t => (match st with | .Expr (.Call (.Attribute (.Name x _) f apos) [e] [] pos) _ => decide (f = "append") && npB t && varB N sc i x && notStar e && sameLine apos pos && chE gi N n sc t e | _ => false)
    | .appe i => (match st with | .Expr (.Call (.Attribute (.Name x _) f apos) [.List [] _] [] pos) _ => decide (f = "append") && varB N sc i x && sameLine apos pos | _ => false)
    | .appl i t => (match st with | .Expr (.Call (.Attribute (.Subscript (.Name x _) (.UnaryOp .USub (.Constant (.int z) _ _) _) _) f apos) [e] [] pos) _ => decide (f = "append") && decide (z = 1) && npB t && varB N sc i x && notStar e && sameLine apos pos && chE gi N n sc t e | _ => false)
    | .ext i t => (match st with | .Expr (.Call (.Attribute (.Name x _) f apos) [e] [] pos) _ => decide (f = "extend") && varB N sc i x && notStar e && sameLine apos pos && chE gi N n sc t e | _ => false)
    | .srest i t => (match st with | .Assign [.Subscript (.Name x _) (.Constant (.str k) _ _) _] e _ => decide (k = "rest") && varB N sc i x && !isComp e && chE gi N n sc t e | _ => false)
    | .sturn i t => (match st with | .Assign [.Subscript (.Name x _) (.Constant (.str k) _ _) _] e _ => decide (k = "turn") && varB N sc i x && !isComp e && chE gi N n sc t e | _ => false)
    | .expr t => (match st with | .Expr e _ => !isComp e && chE gi N n sc t e | _ => false)
    | .ret t => (match st with | .Return (some e) _ => npB t && chE gi N n sc t e | _ => false)
    | .retN => (match st with | .Return none _ => true | _ => false)
    | .ife t a b => (match st with | .If e xa xb _ => chT gi N n sc t e && chB n sc a xa && chB n sc b xb | _ => false)
    | .for_ g it body => (match st with | .For tg e xb [] _ => notSet e && chI gi N n sc tg it e && chG N true sc n g tg && chB n sc body xb | _ => false)
    | .whl t body => (match st with | .While e xb [] _ => chT gi N n sc t e && chB n sc body xb | _ => false)
    | .dead => true
    | .brk => (match st with | .Break _ => true | _ => false)
    | .cnt => (match st with | .Continue _ => true | _ => false)
    | .pass => (match st with | .Pass _ => true | _ => false)
    | .raise c as => (match st with | .Raise (some (.Call (.Name c' _) (e :: es) [] _)) none _ => decide (c = c') && glB sc c && isExc gi c && (e :: es).all notStar && chA gi N n sc as (e :: es) | _ => false)
def chB : Nat → Scope → List S → List Stmt → Bool
  | 0 => fun _ _ _ => false
  | n + 1 => fun sc ss sts => match ss, sts with
    | [], [] => true
    | s :: ss, st :: sts => chS n sc s st && chB n sc ss sts
    | _, _ => false
end
end
section
variable {gi : Str → Option GI} {k : Nat} {N : List Str} {n F : Nat} {sc : Scope} {X : L2.Cx} {j : J} {t : T} {e : Expr}
theorem locB_ok {d : Bool} {x : Str} (c : CtxE gi k N sc d X j) (h : locB sc d x = true) : Loc X.env.scope x ∧ (X.fn x = true ∨ X.env.scope.names.lookup x = some .local) := by
  unfold locB at h
  simp only [Bool.or_eq_true, Bool.and_eq_true, decide_eq_true_eq] at h
  rw [c.sc]
  rcases h with h | h
  · exact ⟨.inl h, .inr h⟩
  · exact ⟨.inr h.2, .inl (c.dn h.1 x)⟩
theorem swapB_ok {scope : Scope} {x : Str} {px pos p2 : Pos} {ea : Expr} {gs : List Comprehension} (c : CtxE gi k N sc true X j) (hk : X.env.scope.kind = .function) (hl : sc.names.lookup x = some .local) (h : swapB scope x px pos = true) : swapsWith (.ListComp ea gs scope pos) (some (.Name x px)) p2.line X.env = pure true := by
  unfold swapB at h
  rw [Bool.and_eq_true] at h
  have hb : X.env.blockKind = .function := by unfold Env.blockKind; rw [hk]; rfl
  have hk' : X.env.kindOf x = some .local := by show X.env.scope.names.lookup x = _; rw [c.sc]; exact hl
  unfold swapsWith
  show pure (X.env.blockKind == .function && X.env.kindOf x == some .local && px.line == (Expr.ListComp ea gs scope pos).pos.line && !(scope.names.any fun (n, k) => n == x && (k == .local || k == .cell))) = _
  rw [hb, hk', h.2]
  have h1 : (px.line == (Expr.ListComp ea gs scope pos).pos.line) = true := h.1
  rw [h1]
  rfl
structure SndS (gi : Str → Option GI) (k F : Nat) (N : List Str) (n : Nat) : Prop where
  S : ∀ {sc X j s st}, CtxE gi k N sc true X j → X.env.scope.kind = .function → PassesOwn (model X.prog X.w) X.A X.env X.xe → chS gi N n sc s st = true → ∀ prot, SOk X j F prot s st
  B : ∀ {sc X j ss sts}, CtxE gi k N sc true X j → X.env.scope.kind = .function → PassesOwn (model X.prog X.w) X.A X.env X.xe → chB gi N n sc ss sts = true → ∀ prot, BOk X j F prot ss sts
theorem snd_S {s : S} {st : Stmt} {prot : List Nat} (Y : SndS gi k F N n) (c : CtxE gi k N sc true X j) (hk : X.env.scope.kind = .function) (hp : PassesOwn (model X.prog X.w) X.A X.env X.xe) (h : chS gi N (n + 1) sc s st = true) : SOk X j F prot s st := by
  have hu : X.A.units + 1 < cLine := by have := c.room.units; omega
  have Z : Snd gi k N n := snd n
  have tgt : ∀ {g tg}, chG N true sc n g tg = true → ∀ prot, GOk X j.K prot g tg := fun h prot => chG_ok c.K c.N c.nd c.calm c.sc c.dn n _ _ h
  unfold chS at h
  cases s with
  | asg g t =>
    dsimp only at h
    split at h
    · split at h
      · simp only [Bool.and_eq_true, decide_eq_true_eq] at h
        obtain ⟨⟨⟨⟨⟨⟨⟨⟨⟨⟨h1, h2⟩, h3⟩, h4⟩, h5⟩, h6⟩, h7⟩, h8⟩, h9⟩, h10⟩, h11⟩ := h
        subst h1
        rename_i x px ea tg ei ifs scope pos p2 _ _ i kp elt g' it cond own
        have hb := blkOk_by h8
        rw [← c.sc, ← c.N] at hb
        have q := so_asgc (F := F) (prot := prot) (j := j) (kp := kp) (p2 := p2) (npB_ok h5) c.calm c.nd (by rw [c.N]; exact h2) (by rw [c.sc]; exact h3) (swapB_ok (gs := [⟨tg, ei, ifs, 0⟩]) (ea := ea) c hk h3 h4) (Z.I c h7) hb (fun s H C cl fp prot => by
          have cb := c.blk s H scope C cl fp
          have := chG_ok (prot := prot) (K := j.K) cb.K cb.N cb.nd cb.calm cb.sc cb.dn n g' tg h9
          exact this) (fun s H C cl fp => Z.C (c.blk s H scope C cl fp) h10) (fun s H C cl fp => Z.E (c.blk s H scope C cl fp) h11) h6
        rw [own_map] at q
        exact q
      · cases h
    · simp only [Bool.and_eq_true, Bool.not_eq_true', Bool.or_eq_true] at h
      obtain ⟨⟨⟨⟨h1, h2⟩, h3⟩, h4⟩, h5⟩ := h
      exact so_asg (npB_ok h1) (Z.E c h5) (tgt h4 prot) h2 h3
    · cases h
  | asg2 g g' a b =>
    dsimp only at h
    split at h
    · simp only [Bool.and_eq_true, decide_eq_true_eq] at h
      obtain ⟨⟨⟨⟨⟨⟨h1, h2⟩, h3⟩, h4⟩, h5⟩, h6⟩, h7⟩ := h
      exact so_asg2 (npB_ok h1) (npB_ok h2) c.calm c.nd (by rw [c.N]; exact h3) (by rw [c.N]; exact h4) h5 (by rw [c.sc]; exact h6) (Z.A c h7)
    · cases h
  | aug i op t =>
    dsimp only at h
    split at h
    · simp only [Bool.and_eq_true, decide_eq_true_eq] at h
      obtain ⟨⟨⟨h1, h2⟩, h3⟩, h4⟩ := h
      subst h1
      obtain ⟨g1, g2⟩ := locB_ok c h3
      exact so_aug c.nd (by rw [c.N]; exact h2) g1 g2 (Z.E c h4)
    · cases h
  | app i t =>
    dsimp only at h
    split at h
    · simp only [Bool.and_eq_true, decide_eq_true_eq] at h
      obtain ⟨⟨⟨⟨⟨h1, h2⟩, h3⟩, h4⟩, h5⟩, h6⟩ := h
      subst h1
      obtain ⟨g1, g2, g3, g4⟩ := varB_ok c h3
      exact so_app (npB_ok h2) g1 g2 g3 g4 (Z.E c h6) h4 h5
    · cases h
  | appe i =>
    dsimp only at h
    split at h
    · simp only [Bool.and_eq_true, decide_eq_true_eq] at h
      obtain ⟨⟨h1, h2⟩, h3⟩ := h
      subst h1
      obtain ⟨g1, g2, g3, g4⟩ := varB_ok c h2
      exact so_appe g1 g2 g3 g4 h3
    · cases h
  | appl i t =>
    dsimp only at h
    split at h
    · simp only [Bool.and_eq_true, decide_eq_true_eq] at h
      obtain ⟨⟨⟨⟨⟨⟨h1, h2⟩, h3⟩, h4⟩, h5⟩, h6⟩, h7⟩ := h
      subst h1 h2
      obtain ⟨g1, g2, g3, g4⟩ := varB_ok c h4
      exact so_appl (npB_ok h3) g1 g2 g3 g4 (pe_neg1 (kk := 0) (p2 := ⟨0, 0, 0, 0⟩) pe_int) rfl (Z.E c h7) h5 h6
    · cases h
  | ext i t =>
    dsimp only at h
    split at h
    · simp only [Bool.and_eq_true, decide_eq_true_eq] at h
      obtain ⟨⟨⟨⟨h1, h2⟩, h3⟩, h4⟩, h5⟩ := h
      subst h1
      obtain ⟨g1, g2, g3, g4⟩ := varB_ok c h2
      exact so_ext c.K g1 g2 g3 g4 (Z.E c h5) h3 h4
    · cases h
  | srest i t =>
    dsimp only at h
    split at h
    · simp only [Bool.and_eq_true, decide_eq_true_eq, Bool.not_eq_true'] at h
      obtain ⟨⟨⟨h1, h2⟩, h3⟩, h4⟩ := h
      subst h1
      obtain ⟨g1, g2, g3, g4⟩ := varB_ok c h2
      exact so_srest hu g1 g2 g3 g4 (Z.E c h4) h3
    · cases h
  | sturn i t =>
    dsimp only at h
    split at h
    · simp only [Bool.and_eq_true, decide_eq_true_eq, Bool.not_eq_true'] at h
      obtain ⟨⟨⟨h1, h2⟩, h3⟩, h4⟩ := h
      subst h1
      obtain ⟨g1, g2, g3, g4⟩ := varB_ok c h2
      exact so_sturn hu g1 g2 g3 g4 (Z.E c h4) h3
    · cases h
  | expr t =>
    dsimp only at h
    split at h
    · simp only [Bool.and_eq_true, Bool.not_eq_true'] at h
      exact so_expr (Z.E c h.2) h.1
    · cases h
  | ret t =>
    dsimp only at h
    split at h
    · simp only [Bool.and_eq_true] at h
      exact so_ret (npB_ok h.1) (Z.E c h.2)
    · cases h
  | retN =>
    dsimp only at h
    split at h
    · exact so_retN
    · cases h
  | ife t a b =>
    dsimp only at h
    split at h
    · simp only [Bool.and_eq_true] at h
      exact so_ife (Z.T c h.1.1) (Y.B c hk hp h.1.2 prot) (Y.B c hk hp h.2 prot)
    · cases h
  | for_ g it body =>
    dsimp only at h
    split at h
    · simp only [Bool.and_eq_true] at h
      exact so_for hp c.calm (Z.I c h.1.1.2) (tgt h.1.2) (Y.B c hk hp h.2) h.1.1.1
    · cases h
  | whl t body =>
    dsimp only at h
    split at h
    · simp only [Bool.and_eq_true] at h
      exact so_whl hp (Z.T c h.1) (Y.B c hk hp h.2 prot)
    · cases h
  | dead => exact ⟨fun p s σ H D I ⟨Z, env, fps, G, q⟩ => by unfold evS at q; exact q.elim⟩
  | brk =>
    dsimp only at h
    split at h
    · exact so_brk
    · cases h
  | cnt =>
    dsimp only at h
    split at h
    · exact so_cnt
    · cases h
  | pass =>
    dsimp only at h
    split at h
    · exact so_pass
    · cases h
  | raise cl as =>
    dsimp only at h
    split at h
    · simp only [Bool.and_eq_true, decide_eq_true_eq] at h
      obtain ⟨⟨⟨⟨h1, h2⟩, h3⟩, h4⟩, h5⟩ := h
      subst h1
      unfold isExc at h3
      split at h3
      · rename_i eg
        obtain ⟨C, fI, fd, fld, kk, g1, g2, g3, g4, g5, g6, g7, g8, g9, g10⟩ := c.gl _ _ eg
        exact so_raiseF c.calm c.tk c.K g2 g1 g3 (glB_ok c h2) g4 g5 g6 g7 g8 (c.room.mono g9) g10 (Z.A c h5) h4
      · cases h3
    · cases h
theorem sndS : ∀ n, SndS gi k F N n
  | 0 => ⟨fun _ _ _ h => by simp [chS] at h, fun _ _ _ h => by simp [chB] at h⟩
  | n + 1 => by
    have Y := sndS n
    refine ⟨fun c hk hp h prot => snd_S Y c hk hp h, fun {sc X j ss sts} c hk hp h prot => ?_⟩
    unfold chB at h
    split at h
    · exact bo_nil
    · simp only [Bool.and_eq_true] at h
      exact bo_cons (Y.S c hk hp h.1 prot) (Y.B c hk hp h.2 prot)
    · cases h
end
end Ev
end

section
set_option Elab.async false
set_option linter.all false
/-! Ev27: all defs of a text keep their promises, at each level. -/
namespace Ev
open PySem L2
structure Def where
  st : Stmt
  N : List Str
  ps : List Str
  fn : Fn
abbrev Prog := List (Str × Def)
def Prog.fns (p : Prog) : Str → Option Fn := fun f => (p.lookup f).map (·.fn)
section
variable {P : Program} {w : World} {K : PySem.W.Frag} {mg : Str → Option Value} {base : Heap} {ca : Str → Option Addr} {gi : Str → Option GI} {prog : Prog} {F fuel : Nat}
/-- what is known of a name that is no def -/
def GSt (P : Program) (w : World) (K : PySem.W.Frag) (mg : Str → Option Value) (base : Heap) (ca : Str → Option Addr) (x : Str) : GI → Prop
  | .fn _ => False
  | .word _ => False
  | .cst p => ∃ u v, mg x = some u ∧ L2.RelV v u ∧ ∀ Z, RepP K Z p v
  | .blt id => mg x = none ∧ bootBuiltins x = some (.builtin id) ∧ x ≠ "__name__" ∧ (x == ("__debug__" : Str)) = false
  | .ty n => mg x = none ∧ bootBuiltins x = some (.type n) ∧ x ≠ "__name__" ∧ (x == ("__debug__" : Str)) = false
  | .exc => ∃ C fI fd fld, ca x = some C ∧ excF x = some (some fld) ∧ mg x = some (.ref C) ∧ (x == ("__debug__" : Str)) = false ∧ InitF P K mg C fI fld fd ∧ OexC K C ∧
      PySem.W.findIn K (.ref C) "__init__" = some (some (.ref fI)) ∧ PySem.W.typeIn K (.ref fI) = some (.type "function") ∧ Binds K fd ["self", "text", fld] []
/-- what is known of a def -/
structure DefOk (K : PySem.W.Frag) (mg : Str → Option Value) (gi : Str → Option GI) (fuel : Nat) (f : Str) (D : Def) (fa : Addr) (fd : FuncData) : Prop where
  mg : mg f = some (.ref fa)
  fn : L2.Fun K f f D.st fa fd
  bs : Binds K fd D.ps []
  bk : BindsK K fd D.ps
  sc : FnScope D.N D.ps (defScope D.st)
  ps : D.fn.ps = D.ps.length
  n : D.fn.n = D.N.length
  ch : chB gi D.N fuel (defScope D.st) D.fn.body (defBody D.st) = true
theorem spE_W (W W' : WX) (Γ : Calls) (f : Str) : spE ⟨K, ca, W, Γ⟩ f = spE ⟨K, ca, W', Γ⟩ f := by
  funext vs H Q E
  apply propext
  constructor
  · rintro ⟨Z, ds, fps, G, h⟩
    refine ⟨Z, ds, fps, G, ?_⟩
    dsimp only at h ⊢
    revert h
    cases Γ f ds <;> exact id
  · rintro ⟨Z, ds, fps, G, h⟩
    refine ⟨Z, ds, fps, G, ?_⟩
    dsimp only at h ⊢
    revert h
    cases Γ f ds <;> exact id
theorem prog_ok (hd : ∀ f D, prog.lookup f = some D → ∃ fa fd, DefOk K mg gi fuel f D fa fd) (hg : ∀ x g, gi x = some g → (∃ D, g = .fn D.ps ∧ prog.lookup x = some D) ∨ GSt P w K mg base ca x g) (W0 : WX) :
    ∀ k f D fa fd, prog.lookup f = some D → DefOk K mg gi fuel f D fa fd → FnG P w K mg base (k + 2) fa fd D.ps (spE ⟨K, ca, W0, calls prog.fns F k⟩ f)
  | 0, f, D, fa, fd, hl, ok => ⟨fun vs H Q E ⟨_, _, _, _, h⟩ => h.elim, fun A outer s H args us vs Q E _ _ _ _ _ ⟨_, _, _, _, h⟩ => h.elim⟩
  | k + 1, f, D, fa, fd, hl, ok => by
    have hΓ : ∀ ds, calls prog.fns F (k + 1) f ds = runFn (calls prog.fns F k) F D.fn ds := fun ds => by
      show (match prog.fns f with
        | some fn => runFn (calls prog.fns F k) F fn ds
        | none => .bad) = _
      unfold Prog.fns
      rw [hl]
      rfl
    refine fn_ok (j := ⟨K, ca, W0, calls prog.fns F (k + 1)⟩) (Γ' := calls prog.fns F k) (Fu := F) ok.fn ok.sc ok.ps ok.n hΓ rfl fun X W prot c hfn hpo => ?_
    have ce : CtxE gi (k + 2) D.N (defScope D.st) true X ⟨K, ca, W, calls prog.fns F k⟩ := by
      refine ⟨c.K, c.N, by rw [c.N]; exact ok.sc.nd, c.sc, c.calm, c.room, c.gd, c.tk, fun _ => hfn, fun x g hx => ?_⟩
      rcases hg x g hx with ⟨D', rfl, hl'⟩ | h
      · obtain ⟨fa', fd', ok'⟩ := hd x D' hl'
        have ih := prog_ok hd hg W0 k x D' fa' fd' hl' ok'
        rw [spE_W W0 W] at ih
        refine ⟨fa', fd', by rw [c.mg]; exact ok'.mg, by rw [c.K]; exact ok'.fn.kp, by rw [c.K]; exact ok'.bs, by rw [c.K]; exact ok'.bk, ?_⟩
        rw [c.prog, c.w, c.K, c.mg, c.base]
        exact ih
      · cases g with
        | fn ps => exact h.elim
        | word wb => exact h.elim
        | cst p =>
          obtain ⟨u, v, h1, h2, h3⟩ := h
          exact ⟨u, v, by rw [c.mg]; exact h1, h2, h3⟩
        | blt id =>
          obtain ⟨h1, h2⟩ := h
          exact ⟨by rw [c.mg]; exact h1, h2⟩
        | ty id =>
          obtain ⟨h1, h2⟩ := h
          exact ⟨by rw [c.mg]; exact h1, h2⟩
        | exc =>
          obtain ⟨C, fI, fd, fld, h1, h2, h3, h4, h5, h6, h7, h8, h9⟩ := h
          refine ⟨C, fI, fd, fld, 1, h1, h2, by rw [c.mg]; exact h3, h4, ?_, by rw [c.K]; exact h6, by rw [c.K]; exact h7, by rw [c.K]; exact h8, by omega, by rw [c.K]; exact h9⟩
          rw [c.prog, c.w, c.K, c.mg, c.base]
          exact init_ok (k := 0) h5
    have hk : X.env.scope.kind = .function := by rw [c.sc]; exact ok.sc.kind
    exact (sndS fuel).B ce hk hpo ok.ch prot
end
end Ev
end

section
set_option Elab.async false
set_option linter.all false
/-! EvL: the law's own def: its lambdas' tables stand in two slots of their own. -/
namespace Ev
open PySem L2 LamX Wd
open PyProof.Rows (envOfC)
section
variable {P : Program} {w : World} {K : PySem.W.Frag} {mg : Str → Option Value} {base : Heap} {ca : Str → Option Addr} {gi giL : Str → Option GI} {prog : Prog} {F fuel : Nat}
theorem Inv.slot {X : L2.Cx} {pins : List (Addr × Obj)} {σ : St} {H : Hp} {s : Shared} (I : Inv X pins σ H s) {i : Nat} {y : Str} (hn : X.N[i]? = some y) (hv : ¬ Vis X.env.scope y) (o : Option V) : Inv X pins (σ.set i o) H s := by
  refine ⟨I.ok, I.os, I.bare, I.base, ?_, I.cell, I.free, I.freeC, I.pin, I.hok, by rw [List.length_set]; exact I.len⟩
  obtain ⟨m, h1, h2⟩ := I.loc
  refine ⟨m, h1, fun n x v e1 e2 e3 => ?_⟩
  by_cases e : i = n
  · subst e
    rw [hn] at e1
    cases e1
    exact absurd e3 hv
  · exact h2 n x v e1 (by rw [List.getElem?_set_ne e] at e2; exact e2) e3
theorem spE_Γ {W W' : WX} {Γ Γ' : Calls} {f : Str} (h : ∀ ds, Γ f ds = Γ' f ds) : spE ⟨K, ca, W, Γ⟩ f = spE ⟨K, ca, W', Γ'⟩ f := by
  have e : Γ f = Γ' f := funext h
  funext vs H Q E
  apply propext
  constructor
  · rintro ⟨Z, ds, fps, G, h⟩
    refine ⟨Z, ds, fps, G, ?_⟩
    dsimp only at h ⊢
    rw [← e]
    revert h
    cases Γ f ds <;> exact id
  · rintro ⟨Z, ds, fps, G, h⟩
    refine ⟨Z, ds, fps, G, ?_⟩
    dsimp only at h ⊢
    rw [e]
    revert h
    cases Γ' f ds <;> exact id
/-- the calls, with the two tables told -/
def tabΓ (PL PW : Addr) (qL : Str) (Γ : Calls) : Calls := fun f ds => if f = "%tab" then match ds with
  | [.tab P1 q1, .tab P2 q2] => if P1 = PL ∧ q1 = qL ∧ P2 = PW ∧ q2 = "_law_word.<locals>.<lambda>" then .ok (.p .non) [] else .bad
  | _ => .bad else Γ f ds
theorem tabΓ_ok {PL PW : Addr} {qL : Str} {Γ : Calls} {d1 d2 o : D} {ds : List D} (h : tabΓ PL PW qL Γ "%tab" [d1, d2] = .ok o ds) : d1 = .tab PL qL ∧ d2 = .tab PW "_law_word.<locals>.<lambda>" := by
  unfold tabΓ at h
  rw [if_pos rfl] at h
  split at h
  · rename_i P1 q1 P2 q2 e
    split at h
    · rename_i hh
      obtain ⟨rfl, rfl, rfl, rfl⟩ := hh
      cases e
      exact ⟨rfl, rfl⟩
    · cases h
  · cases h
theorem tabΓ_ne {PL PW : Addr} {qL f : Str} {Γ : Calls} {ds : List D} (h : f ≠ "%tab") : tabΓ PL PW qL Γ f ds = Γ f ds := if_neg h
/-- the facts about globals, in a context -/
theorem gl_of (hd : ∀ f D, prog.lookup f = some D → ∃ fa fd, DefOk K mg gi fuel f D fa fd) (hg : ∀ x g, gi x = some g → (∃ D, g = .fn D.ps ∧ prog.lookup x = some D) ∨ GSt P w K mg base ca x g) (hpt : prog.lookup ("%tab" : Str) = none) {k : Nat} {PL PW : Addr} {qL : Str} {W : WX}
    {X : L2.Cx} (c1 : X.prog = P) (c2 : X.w = w) (c3 : X.K = K) (c4 : X.mg = mg) (c5 : X.base = base) {x : Str} {g : GI} (hx : gi x = some g) : GlOk X ⟨K, ca, W, tabΓ PL PW qL (calls prog.fns F k)⟩ (k + 2) x g := by
  rcases hg x g hx with ⟨D', rfl, hl'⟩ | h
  · obtain ⟨fa', fd', ok'⟩ := hd x D' hl'
    have ih := prog_ok (F := F) hd hg (fun _ _ _ _ => False) k x D' fa' fd' hl' ok'
    have ne : x ≠ "%tab" := fun e => by subst e; rw [hpt] at hl'; cases hl'
    have e : spE ⟨K, ca, fun _ _ _ _ => False, calls prog.fns F k⟩ x = spE ⟨K, ca, W, tabΓ PL PW qL (calls prog.fns F k)⟩ x := spE_Γ fun ds => (tabΓ_ne ne).symm
    rw [e] at ih
    refine ⟨fa', fd', by rw [c4]; exact ok'.mg, by rw [c3]; exact ok'.fn.kp, by rw [c3]; exact ok'.bs, by rw [c3]; exact ok'.bk, ?_⟩
    rw [c1, c2, c3, c4, c5]
    exact ih
  · cases g with
    | fn ps => exact h.elim
    | word wb => exact h.elim
    | cst p =>
      obtain ⟨u, v, h1, h2, h3⟩ := h
      exact ⟨u, v, by rw [c4]; exact h1, h2, h3⟩
    | blt id =>
      obtain ⟨h1, h2⟩ := h
      exact ⟨by rw [c4]; exact h1, h2⟩
    | ty id =>
      obtain ⟨h1, h2⟩ := h
      exact ⟨by rw [c4]; exact h1, h2⟩
    | exc =>
      obtain ⟨C, fI, fd, fld, h1, h2, h3, h4, h5, h6, h7, h8, h9⟩ := h
      refine ⟨C, fI, fd, fld, 1, h1, h2, by rw [c4]; exact h3, h4, ?_, by rw [c3]; exact h6, by rw [c3]; exact h7, by rw [c3]; exact h8, by omega, by rw [c3]; exact h9⟩
      rw [c1, c2, c3, c4, c5]
      exact init_ok (k := 0) h5
/-- what the law's def promises -/
def spL (K : PySem.W.Frag) (Γ : Calls) (F : Nat) (D : Def) (i1 i2 : Nat) (PL PW : Addr) : Sp := fun vs H Q E => vs.length = D.ps.length ∧ ∃ Z env fps e', Good K Z H env (((start D.N vs).set i1 (some (.ref PL))).set i2 (some (.ref PW))) fps ∧ evB Γ F D.fn.body [] env = .ret (.p (.bl true)) e' ∧ ∀ H', Q (.bl true) H'
theorem law_ok {f qual : Str} {D : Def} {cL PL PW CO CU CT CN fa : Addr} {fd : FuncData} {k i1 i2 : Nat} {n1 n2 : Str} (hd : ∀ f D, prog.lookup f = some D → ∃ fa fd, DefOk K mg gi fuel f D fa fd)
    (hg : ∀ x g, gi x = some g → (∃ D, g = .fn D.ps ∧ prog.lookup x = some D) ∨ GSt P w K mg base ca x g) (hpt : prog.lookup ("%tab" : Str) = none) (FC : FunC K f qual D.st fa fd cL) (S : FnScope D.N D.ps (defScope D.st))
    (WD : WordDef K mg base CO CU CT CN PW) (TB : TabB base mg cL PL) (hca : ca "NoText" = some CN) (hgi : ∀ x, giL x = if x = "_law_word" then some (.word fun sc t e => chE gi D.N fuel sc t e) else gi x) (ch : chB giL D.N fuel (defScope D.st) D.fn.body (defBody D.st) = true)
    (h1 : D.N[i1]? = some n1) (h2 : D.N[i2]? = some n2) (v1 : ¬ Vis (defScope D.st) n1) (v2 : ¬ Vis (defScope D.st) n2) :
    FnG P w K mg base (k + 7) fa fd D.ps (spL K (tabΓ PL PW ((qual ++ ".<locals>.") ++ "<lambda>") (calls prog.fns F k)) F D i1 i2 PL PW) := by
  obtain ⟨⟨oc, od, kV, doc, pm, an, ct, osl, rfl, lk, hcd⟩, kp⟩ := FC
  refine ⟨fun vs H Q E h => h.1, fun A outer s H args us vs Q E hr hga e0 hb r h => LamX.run_ofS (k := k + 6) lk hcd S hr e0 hb r h.1 fun hr' => ?_⟩
  obtain ⟨_, Z, env, fps, e', G, hev, hQ⟩ := h
  have gl : ∀ {W : WX} {X : L2.Cx}, X.prog = P → X.w = w → X.K = K → X.mg = mg → X.base = base → ∀ {x : Str} {g : GI}, gi x = some g → GlOk X ⟨K, ca, W, tabΓ PL PW ((qual ++ ".<locals>.") ++ "<lambda>") (calls prog.fns F k)⟩ (k + 2) x g := fun c1 c2 c3 c4 c5 _ _ hx => gl_of hd hg hpt c1 c2 c3 c4 c5 hx
  have ce : CtxE giL (k + 2) D.N (defScope D.st) true (cxOf (L2.CX P w) P w K mg base D.N qual (defScope D.st) fa (.ref cL) A outer s H E) ⟨K, ca, fun cls d _ H' => E cls d H', tabΓ PL PW ((qual ++ ".<locals>.") ++ "<lambda>") (calls prog.fns F k)⟩ := by
    refine ⟨rfl, rfl, S.nd, rfl, rfl, hr'.mono (by omega), hga, takes_of (E := E) rfl rfl rfl rfl, fun _ _ => rfl, fun x g hx => ?_⟩
    rw [hgi] at hx
    split at hx
    · rename_i ex
      subst ex
      cases hx
      refine ⟨rfl, k + 2, PL, PW, cL, CO, CU, CT, CN, hr', WD, TB, rfl, hca, fun d1 d2 o ds e => tabΓ_ok (Γ := calls prog.fns F k) e, fun Y scope t e A2 outer2 s1 HZ E2 f2 c2 y1 y2 y3 y4 y5 y6 hch hr2 hg2 => ?_⟩
      have ce2 : CtxE gi (k + 2) D.N scope false (lamCx Y A2 outer2 s1 HZ E2 scope f2 c2) ⟨K, ca, fun cls d _ H => E2 cls d H, tabΓ PL PW ((qual ++ ".<locals>.") ++ "<lambda>") (calls prog.fns F k)⟩ :=
        ⟨y3, y6, by show Y.N.Nodup; rw [y6]; exact S.nd, rfl, rfl, hr2, hg2, takes_of (E := E2) rfl rfl rfl rfl, (fun z => nomatch z), fun x g hx => gl (X := lamCx Y A2 outer2 s1 HZ E2 scope f2 c2) y1 y2 y3 y4 y5 hx⟩
      exact (snd fuel).E ce2 hch
    · exact gl rfl rfl rfl rfl rfl hx
  have hb := (sndS (F := F) fuel).B ce S.kind PassesOwn.leaving ch []
  refine ⟨fun Y σ H => tB ⟨K, ca, fun cls d _ H' => E cls d H', tabΓ PL PW ((qual ++ ".<locals>.") ++ "<lambda>") (calls prog.fns F k)⟩ F [] D.fn.body Y ((σ.set i1 (some (.ref PL))).set i2 (some (.ref PW))) H, ⟨fun p s σ H Y I q => hb.run p s _ H Y (Inv.slot (Inv.slot I h1 v1 _) h2 v2 _) q⟩, ?_⟩
  refine ⟨Z, env, fps, G, ?_⟩
  dsimp only
  rw [hev]
  intro Z' H' σ' fps' fp v p rd sm
  cases rd with
  | p rp =>
    cases rp
    exact hQ H'
end
end Ev
end

section
set_option Elab.async false
set_option linter.all false
set_option maxRecDepth 100000
namespace Ev.K88
open PySem L2 Ev
def topS (i : Nat) : Stmt := PySem.Challenge.pw_orderbook_k88_values_written.main.body.getD i (.Pass ⟨0, 0, 0, 0⟩)
def ge (x : Str) (i : GI) : Str × GI := (x, i)
def gl : List (Str × GI) := [
  ge "is_word" (.fn ["thing"]),
  ge "is_figure" (.fn ["thing"]),
  ge "is_value" (.fn ["thing"]),
  ge "value_text" (.fn ["value"]),
  ge "pieces_of" (.fn ["text"]),
  ge "plain_of" (.fn ["piece"]),
  ge "value_of" (.fn ["pieces"]),
  ge "read_value" (.fn ["text"]),
  ge "_law_begun" (.fn ["script"]),
  ge "_law_mixed" (.fn ["state"]),
  ge "_law_draw" (.fn ["state", "room"]),
  ge "_law_pick" (.fn ["state", "some"]),
  ge "_law_plain" (.fn ["value"]),
  ge "_law_is" (.fn ["found", "due"]),
  ge "_law_value_text" (.fn ["value"]),
  ge "_law_some_value" (.fn ["state", "deep"]),
  ge "_law_nested" (.fn ["many", "one"]),
  ge "MOST_DEEP" (.cst (.int 60)),
  ge "MOST_FIGURES" (.cst (.int 12)),
  ge "MOST_NUMBER" (.cst (.int 1000000000000)),
  ge "SMALL" (.cst (.str "abcdefghijklmnopqrstuvwxyz")),
  ge "FIGURES" (.cst (.str "0123456789")),
  ge "NoText" (.exc),
  ge "isinstance" (.blt "isinstance"),
  ge "len" (.blt "len"),
  ge "abs" (.blt "abs"),
  ge "all" (.blt "all"),
  ge "repr" (.blt "repr"),
  ge "min" (.blt "min"),
  ge "int" (.ty "int"),
  ge "str" (.ty "str"),
  ge "bool" (.ty "bool"),
  ge "tuple" (.ty "tuple"),
  ge "list" (.ty "list"),
  ge "dict" (.ty "dict"),
  ge "range" (.ty "range"),
  ge "enumerate" (.ty "enumerate"),
  ge "reversed" (.ty "reversed")]
def gi (x : Str) : Option GI := gl.lookup x
def b_is_word : List S := [
  .ret (.and (.isi (.pk 0) ["str"]) (.and (.cmp .NotEq (.pk 0) (.lit (.str ""))) (.blt "all" [(.comp (.cmp .In (.pk 1) (.lit (.str "abcdefghijklmnopqrstuvwxyz"))) (.nm 1 false) (.pk 0) none [1])])))]
abbrev d_is_word : Def := ⟨topS 25, ["thing", "sign"], ["thing"], ⟨1, 2, b_is_word⟩⟩
def b_is_figure : List S := [
  .ret (.and (.isi (.pk 0) ["int"]) (.and (.not (.isi (.pk 0) ["bool"])) (.cmp .Lt (.blt "abs" [(.pk 0)]) (.lit (.int 1000000000000)))))]
abbrev d_is_figure : Def := ⟨topS 26, ["thing"], ["thing"], ⟨1, 1, b_is_figure⟩⟩
def b_is_value : List S := [
  .asg (.nm 1 false) (.lst [(.var 0)]),
  .for_ (.nm 2 false) (.range (.lit (.int 60))) [
    .asg (.nm 3 true) (.lst []),
    .for_ (.nm 4 false) (.pk 1) [
      .ife (.and (.isi (.pk 4) ["tuple"]) (.cmp .Lt (.pk 2) (.bin .Sub (.lit (.int 60)) (.lit (.int 1))))) [
        .ext 3 (.pk 4)] [
        .ife (.and (.cmp .IsNot (.pk 4) (.lit .non)) (.and (.not (.call "is_word" [(.pk 4)])) (.not (.call "is_figure" [(.pk 4)])))) [
          .ret (.lit (.bl false))] []]],
    .ife (.cmp .Eq (.pk 3) (.lst [])) [
      .ret (.lit (.bl true))] [],
    .asg (.nm 1 false) (.var 3)],
  .ret (.lit (.bl false))]
abbrev d_is_value : Def := ⟨topS 27, ["thing", "layer", "deep", "later", "one"], ["thing"], ⟨1, 5, b_is_value⟩⟩
def b_value_text : List S := [
  .ife (.not (.call "is_value" [(.pk 0)])) [
    .raise "NoText" [(.lit (.str "no value")), (.lit (.int 0))]] [],
  .asg2 (.nm 1 true) (.nm 2 true) (.lst []) (.lst [(.var 0)]),
  .whl (.cmp .NotEq (.pk 2) (.lst [])) [
    .asg (.nm 3 false) (.pop 2),
    .ife (.isi (.pk 3) ["list"]) [
      .app 1 (.idx (.pk 3) (.lit (.int 0)))] [
      .ife (.isi (.pk 3) ["tuple"]) [
        .app 2 (.lst [(.lit (.str ")"))]),
        .for_ (.tp [(.nm 4 false), (.nm 5 false)]) (.enum (.rev (.pk 3))) [
          .ext 2 (.ife (.cmp .Eq (.pk 4) (.bin .Sub (.blt "len" [(.pk 3)]) (.lit (.int 1)))) (.lst [(.var 5)]) (.lst [(.var 5), (.lst [(.lit (.str " "))])]))],
        .app 2 (.lst [(.lit (.str "("))])] [
        .app 1 (.ife (.cmp .Is (.pk 3) (.lit .non)) (.lit (.str "-")) (.blt "str" [(.pk 3)]))]]],
  .ret (.join (.lit (.str "")) (.pk 1))]
abbrev d_value_text : Def := ⟨topS 28, ["value", "found", "left", "here", "at", "one"], ["value"], ⟨1, 6, b_value_text⟩⟩
def b_pieces_of : List S := [
  .asg2 (.nm 1 true) (.nm 2 false) (.lst []) (.lit (.int 0)),
  .whl (.cmp .Lt (.pk 2) (.blt "len" [(.pk 0)])) [
    .asg (.nm 3 false) (.bin .Add (.pk 2) (.lit (.int 1))),
    .ife (.cmp .NotIn (.idx (.pk 0) (.pk 2)) (.lit (.str "() "))) [
      .whl (.and (.cmp .Lt (.pk 3) (.blt "len" [(.pk 0)])) (.cmp .NotIn (.idx (.pk 0) (.pk 3)) (.lit (.str "() ")))) [
        .aug 3 .Add (.lit (.int 1))]] [],
    .app 1 (.slc (.pk 0) (some (.pk 2)) (some (.pk 3))),
    .asg (.nm 2 false) (.var 3)],
  .ret (.var 1)]
abbrev d_pieces_of : Def := ⟨topS 29, ["text", "found", "at", "end"], ["text"], ⟨1, 4, b_pieces_of⟩⟩
def b_plain_of : List S := [
  .ife (.cmp .Eq (.pk 0) (.lit (.str "-"))) [
    .ret (.lst [(.lit .non)])] [],
  .ife (.call "is_word" [(.pk 0)]) [
    .ret (.lst [(.var 0)])] [],
  .asg (.nm 1 false) (.ife (.cmp .Eq (.slc (.pk 0) none (some (.lit (.int 1)))) (.lit (.str "-"))) (.slc (.pk 0) (some (.lit (.int 1))) none) (.var 0)),
  .ife (.or (.not (.chn .LtE .LtE (.lit (.int 1)) (.blt "len" [(.pk 1)]) (.lit (.int 12)))) (.not (.blt "all" [(.comp (.cmp .In (.pk 2) (.lit (.str "0123456789"))) (.nm 2 false) (.pk 1) none [2])]))) [
    .ret (.lst [])] [],
  .ret (.ife (.cmp .Eq (.blt "str" [(.blt "int" [(.pk 0)])]) (.pk 0)) (.lst [(.blt "int" [(.pk 0)])]) (.lst []))]
abbrev d_plain_of : Def := ⟨topS 30, ["piece", "bare", "sign"], ["piece"], ⟨1, 3, b_plain_of⟩⟩
def b_value_of : List S := [
  .asg2 (.nm 2 true) (.nm 3 false) .lln (.lst []),
  .for_ (.nm 1 false) (.pk 0) [
    .ife (.cmp .Eq (.pk 1) (.lit (.str "("))) [
      .appe 2,
      .cnt] [],
    .ife (.cmp .Eq (.pk 1) (.lit (.str " "))) [
      .cnt] [],
    .ife (.cmp .Eq (.pk 1) (.lit (.str ")"))) [
      .ife (.cmp .Eq (.pk 2) (.lst [])) [
        .ret (.lst [])] [],
      .asg (.nm 4 false) (.lst [(.popt 2)])] [
      .asg (.nm 4 false) (.call "plain_of" [(.pk 1)])],
    .ife (.or (.cmp .Eq (.pk 4) (.lst [])) (.and (.cmp .Eq (.pk 2) (.lst [])) (.cmp .NotEq (.pk 3) (.lst [])))) [
      .ret (.lst [])] [],
    .ife (.cmp .Eq (.pk 2) (.lst [])) [
      .asg (.nm 3 false) (.var 4)] [
      .appl 2 (.idx (.pk 4) (.lit (.int 0)))]],
  .ret (.ife (.cmp .Eq (.pk 2) (.lst [])) (.var 3) (.lst []))]
abbrev d_value_of : Def := ⟨topS 31, ["pieces", "piece", "open_ones", "done", "one"], ["pieces"], ⟨1, 5, b_value_of⟩⟩
def b_read_value : List S := [
  .ife (.not (.isi (.pk 0) ["str"])) [
    .raise "NoText" [(.lit (.str "no text")), (.lit (.int 0))]] [],
  .asg (.nm 1 false) (.call "value_of" [(.call "pieces_of" [(.pk 0)])]),
  .ife (.or (.cmp .Eq (.pk 1) (.lst [])) (.or (.not (.call "is_value" [(.idx (.pk 1) (.lit (.int 0)))])) (.cmp .NotEq (.call "value_text" [(.idx (.pk 1) (.lit (.int 0)))]) (.pk 0)))) [
    .raise "NoText" [(.lit (.str "no text of a value")), (.lit (.int 0))]] [],
  .ret (.idx (.pk 1) (.lit (.int 0)))]
abbrev d_read_value : Def := ⟨topS 32, ["text", "found"], ["text"], ⟨1, 2, b_read_value⟩⟩
def b__law_begun : List S := [
  .asg (.nm 1 true) (.comp (.bin .Sub (.blt "abs" [(.pk 2)]) (.bin .Pow (.lit (.int 10)) (.lit (.int 18)))) (.nm 2 false) (.pk 0) (some (.cmp .GtE (.blt "abs" [(.pk 2)]) (.bin .Pow (.lit (.int 10)) (.lit (.int 18))))) [2]),
  .ret (.smk [(.var 1), (.comp (.blt "abs" [(.pk 2)]) (.nm 2 false) (.pk 0) none [2]), (.lit (.int 0)), (.lit (.int 0))])]
abbrev d__law_begun : Def := ⟨topS 34, ["script", "great", "cell"], ["script"], ⟨1, 3, b__law_begun⟩⟩
def b__law_mixed : List S := [
  .asg2 (.nm 2 false) (.nm 3 false) (.bin .Add (.sturn 0) (.lit (.int 1))) (.lit (.int 0)),
  .sturn 0 (.pk 2),
  .for_ (.nm 1 false) (.lst [(.lit (.int 2147483629)), (.lit (.int 2147483587)), (.lit (.int 2147483579)), (.lit (.int 2147483563))]) [
    .asg (.nm 4 false) (.bin .Add (.bin .Mult (.lit (.int 69621)) (.pk 2)) (.bin .FloorDiv (.pk 1) (.lit (.int 41)))),
    .for_ (.nm 5 false) (.scells 0) [
      .asg (.nm 4 false) (.bin .Mod (.blt "int" [(.bin .Add (.bin .Add (.bin .Mult (.pk 4) (.lit (.int 48271))) (.pk 5)) (.pk 2))]) (.pk 1))],
    .asg (.nm 3 false) (.bin .Add (.bin .Mult (.pk 3) (.lit (.int 2147483659))) (.bin .Mod (.blt "int" [(.bin .Pow (.pk 4) (.lit (.int 5)))]) (.pk 1)))],
  .ret (.var 3)]
abbrev d__law_mixed : Def := ⟨topS 35, ["state", "prime", "turn", "found", "blend", "cell"], ["state"], ⟨1, 6, b__law_mixed⟩⟩
def b__law_draw : List S := [
  .ife (.cmp .Eq (.srest 0) (.lit (.int 0))) [
    .srest 0 (.ife (.sgne 0) (.spop 0) (.call "_law_mixed" [(.pk 0)]))] [],
  .asg (.nm 2 false) (.bin .Mod (.blt "int" [(.srest 0)]) (.pk 1)),
  .srest 0 (.bin .FloorDiv (.srest 0) (.pk 1)),
  .ret (.var 2)]
abbrev d__law_draw : Def := ⟨topS 36, ["state", "room", "found"], ["state", "room"], ⟨2, 3, b__law_draw⟩⟩
def b__law_pick : List S := [
  .ret (.idx (.pk 1) (.call "_law_draw" [(.pk 0), (.blt "len" [(.pk 1)])]))]
abbrev d__law_pick : Def := ⟨topS 37, ["state", "some"], ["state", "some"], ⟨2, 2, b__law_pick⟩⟩
def b__law_plain : List S := [
  .ife (.isi (.pk 0) ["list", "tuple"]) [
    .ret (.cmp .Eq (.comp (.lit (.int 1)) (.nm 1 false) (.pk 0) (some (.not (.call "_law_plain" [(.pk 1)]))) [1]) (.lst []))] [],
  .ife (.isi (.pk 0) ["dict"]) [
    .dead] [],
  .ret (.or (.cmp .Is (.pk 0) (.lit .non)) (.isi (.pk 0) ["int", "str"]))]
abbrev d__law_plain : Def := ⟨topS 38, ["value", "one"], ["value"], ⟨1, 2, b__law_plain⟩⟩
def b__law_is : List S := [
  .ret (.and (.call "_law_plain" [(.pk 0)]) (.and (.cmp .Eq (.pk 0) (.pk 1)) (.and (.cmp .Eq (.pk 1) (.pk 0)) (.cmp .Eq (.blt "repr" [(.pk 0)]) (.blt "repr" [(.pk 1)])))))]
abbrev d__law_is : Def := ⟨topS 39, ["found", "due"], ["found", "due"], ⟨2, 2, b__law_is⟩⟩
def b__law_value_text : List S := [
  .ife (.isi (.pk 0) ["tuple"]) [
    .ret (.bin .Add (.bin .Add (.lit (.str "(")) (.join (.lit (.str " ")) (.comp (.call "_law_value_text" [(.pk 1)]) (.nm 1 false) (.pk 0) none [1]))) (.lit (.str ")")))] [],
  .ret (.ife (.cmp .Is (.pk 0) (.lit .non)) (.lit (.str "-")) (.blt "str" [(.pk 0)]))]
abbrev d__law_value_text : Def := ⟨topS 40, ["value", "one"], ["value"], ⟨1, 2, b__law_value_text⟩⟩
def b__law_some_value : List S := [
  .asg (.nm 2 false) (.ife (.cmp .Gt (.pk 1) (.lit (.int 0))) (.call "_law_draw" [(.pk 0), (.lit (.int 6))]) (.call "_law_draw" [(.pk 0), (.lit (.int 3))])),
  .ife (.cmp .Eq (.pk 2) (.lit (.int 0))) [
    .ret (.call "_law_pick" [(.pk 0), (.lst [(.lit (.str "a")), (.lit (.str "on")), (.lit (.str "zz")), (.lit (.str "entry")), (.lit (.str "abcdefghijklm"))])])] [],
  .ife (.cmp .Eq (.pk 2) (.lit (.int 1))) [
    .ret (.call "_law_pick" [(.pk 0), (.lst [(.lit (.int 0)), (.lit (.int 1)), (.bin .Sub (.lit (.int 0)) (.lit (.int 1))), (.lit (.int 7)), (.bin .Sub (.lit (.int 0)) (.lit (.int 42))), (.lit (.int 999999999999)), (.bin .Sub (.lit (.int 0)) (.lit (.int 999999999999)))])])] [],
  .ife (.cmp .Eq (.pk 2) (.lit (.int 2))) [
    .ret (.lit .non)] [],
  .ret (.blt "tuple" [(.comp (.call "_law_some_value" [(.pk 0), (.bin .Sub (.pk 1) (.lit (.int 1)))]) (.nm 3 false) (.range (.call "_law_draw" [(.pk 0), (.lit (.int 4))])) none [3])])]
abbrev d__law_some_value : Def := ⟨topS 43, ["state", "deep", "way", "lap"], ["state", "deep"], ⟨2, 4, b__law_some_value⟩⟩
def b__law_nested : List S := [
  .for_ (.nm 2 false) (.range (.pk 0)) [
    .asg (.nm 1 false) (.tup [(.var 1)])],
  .ret (.var 1)]
abbrev d__law_nested : Def := ⟨topS 44, ["many", "one", "lap"], ["many", "one"], ⟨2, 3, b__law_nested⟩⟩
theorem c_is_word : chB gi d_is_word.N 40 (defScope d_is_word.st) d_is_word.fn.body (defBody d_is_word.st) = true := by decide +kernel
theorem c_is_figure : chB gi d_is_figure.N 40 (defScope d_is_figure.st) d_is_figure.fn.body (defBody d_is_figure.st) = true := by decide +kernel
theorem c_is_value : chB gi d_is_value.N 40 (defScope d_is_value.st) d_is_value.fn.body (defBody d_is_value.st) = true := by decide +kernel
theorem c_value_text : chB gi d_value_text.N 40 (defScope d_value_text.st) d_value_text.fn.body (defBody d_value_text.st) = true := by decide +kernel
theorem c_pieces_of : chB gi d_pieces_of.N 40 (defScope d_pieces_of.st) d_pieces_of.fn.body (defBody d_pieces_of.st) = true := by decide +kernel
theorem c_plain_of : chB gi d_plain_of.N 40 (defScope d_plain_of.st) d_plain_of.fn.body (defBody d_plain_of.st) = true := by decide +kernel
theorem c_value_of : chB gi d_value_of.N 40 (defScope d_value_of.st) d_value_of.fn.body (defBody d_value_of.st) = true := by decide +kernel
theorem c_read_value : chB gi d_read_value.N 40 (defScope d_read_value.st) d_read_value.fn.body (defBody d_read_value.st) = true := by decide +kernel
theorem c__law_begun : chB gi d__law_begun.N 40 (defScope d__law_begun.st) d__law_begun.fn.body (defBody d__law_begun.st) = true := by decide +kernel
theorem c__law_mixed : chB gi d__law_mixed.N 40 (defScope d__law_mixed.st) d__law_mixed.fn.body (defBody d__law_mixed.st) = true := by decide +kernel
theorem c__law_draw : chB gi d__law_draw.N 40 (defScope d__law_draw.st) d__law_draw.fn.body (defBody d__law_draw.st) = true := by decide +kernel
theorem c__law_pick : chB gi d__law_pick.N 40 (defScope d__law_pick.st) d__law_pick.fn.body (defBody d__law_pick.st) = true := by decide +kernel
theorem c__law_plain : chB gi d__law_plain.N 40 (defScope d__law_plain.st) d__law_plain.fn.body (defBody d__law_plain.st) = true := by decide +kernel
theorem c__law_is : chB gi d__law_is.N 40 (defScope d__law_is.st) d__law_is.fn.body (defBody d__law_is.st) = true := by decide +kernel
theorem c__law_value_text : chB gi d__law_value_text.N 40 (defScope d__law_value_text.st) d__law_value_text.fn.body (defBody d__law_value_text.st) = true := by decide +kernel
theorem c__law_some_value : chB gi d__law_some_value.N 40 (defScope d__law_some_value.st) d__law_some_value.fn.body (defBody d__law_some_value.st) = true := by decide +kernel
theorem c__law_nested : chB gi d__law_nested.N 40 (defScope d__law_nested.st) d__law_nested.fn.body (defBody d__law_nested.st) = true := by decide +kernel
def prog : Prog := [("is_word", d_is_word), ("is_figure", d_is_figure), ("is_value", d_is_value), ("value_text", d_value_text), ("pieces_of", d_pieces_of), ("plain_of", d_plain_of), ("value_of", d_value_of), ("read_value", d_read_value),
  ("_law_begun", d__law_begun), ("_law_mixed", d__law_mixed), ("_law_draw", d__law_draw), ("_law_pick", d__law_pick), ("_law_plain", d__law_plain), ("_law_is", d__law_is), ("_law_value_text", d__law_value_text), ("_law_some_value", d__law_some_value), ("_law_nested", d__law_nested)]
end Ev.K88
end

section
set_option Elab.async false
set_option linter.all false
set_option maxRecDepth 100000
/-! M88a: what is_word and is_figure compute. -/
namespace Ev.K88
open PySem L2 Ev
theorem compLoop_map {Γ : Calls} {elt : Env → Out} {prot : List Nat} {i : Nat} {e : Env} {h : P → P} (hp : i ∉ prot) (hi : e[i]? = some none) : ∀ {xs acc : List P}, (∀ x ∈ xs, elt (e.set i (some (.p x))) = .ok (.p (h x)) (e.set i (some (.p x)))) → acc.length + xs.length ≤ lim →
    compLoop elt (evC Γ none) (asgT prot (.nm i false)) [i] xs e acc = .ok (.pl (acc ++ xs.map h)) e
  | [], acc, _, _ => by simp [compLoop]
  | x :: xs, acc, he, hl => by
    have hlt : i < e.length := (List.getElem?_eq_some_iff.mp hi).1
    have back : (e.set i (some (.p x))).set i none = e := by
      rw [List.set_set]
      exact set_get_self hi
    have ih := compLoop_map (Γ := Γ) (elt := elt) hp hi (xs := xs) (acc := acc ++ [h x]) (fun y hy => he y (List.mem_cons_of_mem _ hy)) (by simp at hl ⊢; omega)
    have hal : acc.length < lim := by simp at hl; omega
    unfold compLoop
    have hg : asgT prot (.nm i false) (.p x) e = some (e.set i (some (.p x))) := by
      unfold asgT
      rw [if_neg hp, if_pos hlt]
      rfl
    rw [hg]
    dsimp only
    have hc : evC Γ none (e.set i (some (.p x))) = .ok (.p (.bl true)) (e.set i (some (.p x))) := by unfold evC; rfl
    rw [hc]
    dsimp only
    rw [he x (by simp)]
    dsimp only [D.frz]
    rw [if_pos hal]
    show compLoop elt (evC Γ none) (asgT prot (.nm i false)) [i] xs ((e.set i (some (.p x))).set i none) (acc ++ [h x]) = _
    rw [back, ih]
    simp
theorem allB_map {α : Type} (f : α → Bool) : ∀ (xs : List α), allB (xs.map fun x => P.bl (f x)) = some (xs.all f)
  | [] => rfl
  | x :: xs => by
    simp only [List.map_cons, allB, allB_map f xs, List.all_cons]
theorem ev_and_t {Γ : Calls} {a b : T} {e e' : Env} {d : D} (h : evT Γ a e = .ok d e') (hf : fin a d e' = some (.p (.bl true))) : evT Γ (.and a b) e = evT Γ b e' := by
  simp only [evT, h, Out.bind, hf, onB, if_true]
theorem ev_and_f {Γ : Calls} {a b : T} {e e' : Env} {d : D} (h : evT Γ a e = .ok d e') (hf : fin a d e' = some (.p (.bl false))) : evT Γ (.and a b) e = .ok (.p (.bl false)) e' := by
  simp only [evT, h, Out.bind, hf, onB, Bool.false_eq_true, if_false]
def signs (s : Str) : List P := s.cps.toList.map fun c => .str ⟨#[c]⟩
def small : Str := "abcdefghijklmnopqrstuvwxyz"
def isWord : P → Bool
  | .str s => decide (s ≠ "") && s.cps.toList.all fun c => decide (c ∈ small.cps.toList)
  | _ => false
variable {F k : Nat}
theorem lk_word (ds : List D) : calls prog.fns F (k + 1) "is_word" ds = runFn (calls prog.fns F k) F d_is_word.fn ds := rfl
theorem m_word_non : calls prog.fns F (k + 1) "is_word" [.p .non] = .ok (.p (.bl false)) [.p .non] := by kernel_rfl
theorem m_word_bl (b : Bool) : calls prog.fns F (k + 1) "is_word" [.p (.bl b)] = .ok (.p (.bl false)) [.p (.bl b)] := by kernel_rfl
theorem m_word_int (b : Int) : calls prog.fns F (k + 1) "is_word" [.p (.int b)] = .ok (.p (.bl false)) [.p (.int b)] := by kernel_rfl
theorem m_word_tup (b : List P) : calls prog.fns F (k + 1) "is_word" [.p (.tup b)] = .ok (.p (.bl false)) [.p (.tup b)] := by kernel_rfl
theorem m_word_fl (b : List P) : calls prog.fns F (k + 1) "is_word" [.p (.fl b)] = .ok (.p (.bl false)) [.p (.fl b)] := by kernel_rfl
theorem small_one (c : Nat) : strIn ⟨#[c]⟩ small = decide (c ∈ small.cps.toList) := by
  unfold strIn
  exact StrLaws.found_one small c
def inSmall (x : P) : P := match x with
  | .str c => .bl (strIn c small)
  | _ => .non
theorem all_small (s : Str) : allB ((signs s).map inSmall) = some (s.cps.toList.all fun c => decide (c ∈ small.cps.toList)) := by
  have : (signs s).map inSmall = s.cps.toList.map fun c => P.bl (decide (c ∈ small.cps.toList)) := by
    unfold signs
    rw [List.map_map]
    refine List.map_congr_left fun c _ => ?_
    show P.bl (strIn ⟨#[c]⟩ small) = _
    rw [small_one]
  rw [this, allB_map]
theorem strBeq (x y : Str) : (x == y) = decide (x = y) := by
  rw [← Str.beq_eq_lists]
  cases x with | mk a => cases y with | mk b =>
  rw [Bool.eq_iff_iff]
  constructor
  · intro h
    simp at h
    obtain ⟨_, h⟩ := h
    simpa using h
  · intro h
    simp at h
    subst h
    simp
theorem m_word_str (s : Str) (h : PyData.strOk s = true) (hl : s.length ≤ lim) : calls prog.fns F (k + 1) "is_word" [.p (.str s)] = .ok (.p (.bl (isWord (.str s)))) [.p (.str s)] := by
  have key : evT (calls prog.fns F k) (.comp (.cmp .In (.pk 1) (.lit (.str small))) (.nm 1 false) (.pk 0) none [1]) [some (.p (.str s)), none] = .ok (.pl ((signs s).map inSmall)) [some (.p (.str s)), none] := by
    rw [evT_comp]
    have e1 : evI (calls prog.fns F k) (.pk 0) [some (.p (.str s)), none] = .ok (signs s) [some (.p (.str s)), none] := by
      rw [evI_val rfl, show evT (calls prog.fns F k) (.pk 0) [some (.p (.str s)), none] = .ok (.p .non) [some (.p (.str s)), none] from by rw [evT]; rfl]
      unfold OutI.ofOut
      show (match iterOf (.p (.str s)) with
        | some xs => OutI.ok xs _
        | none => .bad) = _
      unfold iterOf
      simp only [hl, if_true]
      rfl
    rw [e1]
    show (if ownOk [1] [some (.p (.str s)), none] then lcEnd (.pk 0) [1] [some (.p (.str s)), none] (compLoop _ _ (asgT (notOwn [1] [some (.p (.str s)), none]) (.nm 1 false)) [1] (signs s) [some (.p (.str s)), none] []) else .bad) = _
    rw [if_pos (show ownOk [1] [some (.p (.str s)), none] = true from rfl), compLoop_map (h := inSmall) (by simp [notOwn]) rfl]
    · rfl
    · intro x hx
      unfold signs at hx
      obtain ⟨c, _, rfl⟩ := List.mem_map.mp hx
      rfl
    · simp [signs]
      exact hl
  have hne : eqD (.p (.str s)) (.p (.str "")) = some (decide (s = "")) := by
    unfold eqD
    show (if SeqAt.shaped (.str s) && SeqAt.shaped (.str "") then some (PyData.eqv (.str s) (.str "")) else none) = _
    have : SeqAt.shaped (.str s) = true := by unfold SeqAt.shaped; simp [PyData.canLay0, PyData.depth, h]
    rw [this]
    have h2 : SeqAt.shaped (.str "") = true := by decide +kernel
    rw [h2]
    simp only [PyData.eqv, Bool.and_self, if_true]
    exact congrArg some (strBeq _ _)
  have t1 : evT (calls prog.fns F k) (.isi (.pk 0) ["str"]) [some (.p (.str s)), none] = .ok (.p (.bl true)) [some (.p (.str s)), none] := rfl
  have t2 : evT (calls prog.fns F k) (.cmp .NotEq (.pk 0) (.lit (.str ""))) [some (.p (.str s)), none] = .ok (.p (.bl (!decide (s = "")))) [some (.p (.str s)), none] := by
    show optB ((eqD (.p (.str s)) (.p (.str ""))).map not) _ = _
    rw [hne]
    rfl
  have t3 : evT (calls prog.fns F k) (.blt "all" [.comp (.cmp .In (.pk 1) (.lit (.str small))) (.nm 1 false) (.pk 0) none [1]]) [some (.p (.str s)), none] = .ok (.p (.bl (s.cps.toList.all fun c => decide (c ∈ small.cps.toList)))) [some (.p (.str s)), none] := by
    have e0 : evTs (calls prog.fns F k) [.comp (.cmp .In (.pk 1) (.lit (.str small))) (.nm 1 false) (.pk 0) none [1]] [some (.p (.str s)), none] = .ok [.pl ((signs s).map inSmall)] [some (.p (.str s)), none] := by
      simp only [evTs]
      rw [key]
    simp only [evT]
    rw [e0]
    show opt ((allB ((signs s).map inSmall)).map fun b => .p (.bl b)) _ = _
    rw [all_small]
    rfl
  have t4 : evT (calls prog.fns F k) (.and (.isi (.pk 0) ["str"]) (.and (.cmp .NotEq (.pk 0) (.lit (.str ""))) (.blt "all" [.comp (.cmp .In (.pk 1) (.lit (.str small))) (.nm 1 false) (.pk 0) none [1]]))) [some (.p (.str s)), none] = .ok (.p (.bl (isWord (.str s)))) [some (.p (.str s)), none] := by
    rw [ev_and_t t1 rfl]
    by_cases e : s = ""
    · rw [ev_and_f (by rw [t2]; simp [e]; rfl) rfl]
      simp [e, isWord]
    · rw [ev_and_t (by rw [t2]; simp [e]; rfl) rfl, t3]
      simp [isWord, e]
  rw [lk_word]
  have tB : evB (calls prog.fns F k) F b_is_word [] [some (.p (.str s)), none] = .ret (.p (.bl (isWord (.str s)))) [some (.p (.str s)), none] := by
    unfold b_is_word
    rw [evB, evS]
    show ((evT _ (.and (.isi (.pk 0) ["str"]) (.and (.cmp .NotEq (.pk 0) (.lit (.str ""))) (.blt "all" [.comp (.cmp .In (.pk 1) (.lit (.str small))) (.nm 1 false) (.pk 0) none [1]]))) _).thn _).seq _ = _
    rw [t4]
    rfl
  unfold runFn
  rw [if_pos ⟨rfl, by decide⟩]
  show (match evB (calls prog.fns F k) F b_is_word [] [some (.p (.str s)), none] with
    | .ret d e => _
    | .nx e => _
    | .exc c fs e => _
    | _ => _) = _
  rw [tB]
  rfl
end Ev.K88
end

section
set_option Elab.async false
set_option linter.all false
set_option maxRecDepth 100000
/-! M88b: is_figure, is_value. -/
namespace Ev.K88
open PySem L2 Ev
variable {F k : Nat}
def absI (i : Int) : Int := if i < 0 then -i else i
theorem m_fig_int (i : Int) : calls prog.fns F (k + 1) "is_figure" [.p (.int i)] = .ok (.p (.bl (decide (absI i < 1000000000000)))) [.p (.int i)] := by kernel_rfl
mutual
/-- a value -/
def good : P → Bool
  | .non => true
  | .str s => isWord (.str s) && PyData.strOk s && decide (s.length ≤ 10000)
  | .int i => decide (absI i < 1000000000000)
  | .tup xs => goods xs
  | _ => false
def goods : List P → Bool
  | [] => true
  | x :: xs => good x && goods xs
end
mutual
def dep : P → Nat
  | .tup xs => deps xs + 1
  | _ => 0
def deps : List P → Nat
  | [] => 0
  | x :: xs => max (dep x) (deps xs)
end
mutual
def siz : P → Nat
  | .tup xs => sizs xs + 1
  | _ => 1
def sizs : List P → Nat
  | [] => 0
  | x :: xs => siz x + sizs xs
end
def kids : P → List P
  | .tup xs => xs
  | _ => []
theorem goods_app : ∀ {xs ys : List P}, goods (xs ++ ys) = (goods xs && goods ys)
  | [], ys => by simp [goods]
  | x :: xs, ys => by simp [goods, goods_app, Bool.and_assoc]
theorem deps_app : ∀ {xs ys : List P}, deps (xs ++ ys) = max (deps xs) (deps ys)
  | [], ys => by simp [deps]
  | x :: xs, ys => by simp [deps, deps_app, Nat.max_assoc]
theorem sizs_app : ∀ {xs ys : List P}, sizs (xs ++ ys) = sizs xs + sizs ys
  | [], ys => by simp [sizs]
  | x :: xs, ys => by simp [sizs, sizs_app, Nat.add_assoc]
theorem goods_kids {x : P} (h : good x = true) : goods (kids x) = true := by
  cases x <;> simp_all [kids, good, goods]
theorem goods_flat : ∀ {xs : List P}, goods xs = true → goods (xs.flatMap kids) = true
  | [], _ => rfl
  | x :: xs, h => by
    simp [goods] at h
    rw [List.flatMap_cons, goods_app, goods_kids h.1, goods_flat h.2]
    rfl
theorem deps_kids (x : P) : deps (kids x) = dep x - 1 := by
  cases x <;> simp [kids, dep, deps]
theorem deps_flat : ∀ (xs : List P), deps (xs.flatMap kids) = deps xs - 1
  | [] => rfl
  | x :: xs => by
    rw [List.flatMap_cons, deps_app, deps_kids, deps_flat xs, deps]
    omega
theorem siz_pos (x : P) : 1 ≤ siz x := by cases x <;> simp [siz]
theorem sizs_len : ∀ (xs : List P), xs.length ≤ sizs xs
  | [] => by simp
  | x :: xs => by
    have := sizs_len xs
    have := siz_pos x
    simp [sizs]
    omega
theorem sizs_kids (x : P) : sizs (kids x) ≤ siz x := by
  cases x <;> simp [kids, siz, sizs]
theorem sizs_flat : ∀ (xs : List P), sizs (xs.flatMap kids) ≤ sizs xs
  | [] => by simp
  | x :: xs => by
    have := sizs_flat xs
    have := sizs_kids x
    rw [List.flatMap_cons, sizs_app, sizs]
    omega
/-- the inner turn -/
def iv_in : List S := [
      .ife (.and (.isi (.pk 4) ["tuple"]) (.cmp .Lt (.pk 2) (.bin .Sub (.lit (.int 60)) (.lit (.int 1))))) [
        .ext 3 (.pk 4)] [
        .ife (.and (.cmp .IsNot (.pk 4) (.lit .non)) (.and (.not (.call "is_word" [(.pk 4)])) (.not (.call "is_figure" [(.pk 4)])))) [
          .ret (.lit (.bl false))] []]]
theorem ev_call {Γ : Calls} {f : Str} {as : List T} {e e' e2 : Env} {ds ds' : List D} {d : D} (ha : evAs Γ as e = .ok ds e') (hc : Γ f ds = .ok d ds') (hb : backs as ds ds' e' = e2) : evT Γ (.call f as) e = .ok d e2 := by
  simp only [evT, ha, OutL.bind, hc, hb]
theorem ev_not {Γ : Calls} {a : T} {e e' : Env} {d : D} {b : Bool} (h : evT Γ a e = .ok d e') (hf : fin a d e' = some (.p (.bl b))) : evT Γ (.not a) e = .ok (.p (.bl (!b))) e' := by
  simp only [evT, h, Out.bind, hf, onB]
theorem ev_ife_t {Γ : Calls} {F : Nat} {t : T} {a b : List S} {prot : List Nat} {e e' : Env} {d : D} (h : evT Γ t e = .ok d e') (hf : fin t d e' = some (.p (.bl true))) : evS Γ F (.ife t a b) prot e = evB Γ F a prot e' := by
  simp only [evS, h, Out.thn, hf, if_true]
theorem ev_ife_f {Γ : Calls} {F : Nat} {t : T} {a b : List S} {prot : List Nat} {e e' : Env} {d : D} (h : evT Γ t e = .ok d e') (hf : fin t d e' = some (.p (.bl false))) : evS Γ F (.ife t a b) prot e = evB Γ F b prot e' := by
  simp only [evS, h, Out.thn, hf, Bool.false_eq_true, if_false]
theorem evB_nx {Γ : Calls} {F : Nat} {s : S} {ss : List S} {prot : List Nat} {e e' : Env} (h : evS Γ F s prot e = .nx e') : evB Γ F (s :: ss) prot e = evB Γ F ss prot e' := by
  simp only [evB, h, SO.seq]
theorem evB_ret {Γ : Calls} {F : Nat} {s : S} {ss : List S} {prot : List Nat} {e e' : Env} {d : D} (h : evS Γ F s prot e = .ret d e') : evB Γ F (s :: ss) prot e = .ret d e' := by
  simp only [evB, h, SO.seq]
theorem iv_one {v L : D} {n : Nat} (hn : n < 59) {prot : List Nat} {acc : List P} {x : P} (hx : good x = true) (hl : acc.length + (kids x).length ≤ lim) :
    evB (calls prog.fns F (k + 1)) F iv_in prot [some v, some L, some (.p (.int n)), some (.pl acc), some (.p x)] = .nx [some v, some L, some (.p (.int n)), some (.pl (acc ++ kids x)), some (.p x)] := by
  unfold iv_in
  have hfall : ∀ {x : P}, evT (calls prog.fns F (k + 1)) (.isi (.pk 4) ["tuple"]) [some v, some L, some (.p (.int n)), some (.pl acc), some (.p x)] = .ok (.p (.bl false)) [some v, some L, some (.p (.int n)), some (.pl acc), some (.p x)] →
      evT (calls prog.fns F (k + 1)) (.and (.cmp .IsNot (.pk 4) (.lit .non)) (.and (.not (.call "is_word" [(.pk 4)])) (.not (.call "is_figure" [(.pk 4)])))) [some v, some L, some (.p (.int n)), some (.pl acc), some (.p x)] = .ok (.p (.bl false)) [some v, some L, some (.p (.int n)), some (.pl acc), some (.p x)] → kids x = [] →
      evB (calls prog.fns F (k + 1)) F iv_in prot [some v, some L, some (.p (.int n)), some (.pl acc), some (.p x)] = .nx [some v, some L, some (.p (.int n)), some (.pl (acc ++ kids x)), some (.p x)] := fun {x} h1 h2 h3 => by
    rw [h3, List.append_nil]
    refine evB_nx ((ev_ife_f (ev_and_f h1 rfl) rfl).trans (evB_nx (ev_ife_f h2 rfl)))
  cases x with
  | non => exact hfall rfl rfl rfl
  | str s =>
    simp [good] at hx
    have h1 : s.length ≤ lim := by unfold lim; omega
    refine hfall rfl ?_ rfl
    rw [ev_and_t rfl rfl]
    have := m_word_str (F := F) (k := k) s hx.1.2 h1
    rw [hx.1.1] at this
    exact ev_and_f (ev_not (ev_call rfl this rfl) rfl) rfl
  | int i =>
    simp [good] at hx
    refine hfall rfl ?_ rfl
    rw [ev_and_t rfl rfl]
    have h2 := m_fig_int (F := F) (k := k) i
    rw [decide_eq_true hx] at h2
    rw [ev_and_t (ev_not (ev_call rfl (m_word_int i) rfl) rfl) rfl]
    exact ev_not (ev_call rfl h2 rfl) rfl
  | tup xs =>
    have h1 : evT (calls prog.fns F (k + 1)) (.cmp .Lt (.pk 2) (.bin .Sub (.lit (.int 60)) (.lit (.int 1)))) [some v, some L, some (.p (.int n)), some (.pl acc), some (.p (.tup xs))] = .ok (.p (.bl true)) [some v, some L, some (.p (.int n)), some (.pl acc), some (.p (.tup xs))] := by
      show optB (some (decide ((n : Int) < 60 - 1))) _ = _
      rw [decide_eq_true (by omega)]
      rfl
    refine evB_nx ((ev_ife_t ((ev_and_t rfl rfl).trans h1) rfl).trans (evB_nx ?_))
    show (if acc.length + xs.length ≤ lim then SO.nx _ else .bad) = _
    rw [if_pos (show acc.length + xs.length ≤ lim from hl)]
    rfl
  | _ => simp [good] at hx
theorem iv_layer {v L : D} {n : Nat} (hn : n < 59) {prot : List Nat} (hp : 4 ∉ prot) : ∀ {xs acc : List P} {o : Option D}, goods xs = true → acc.length + (xs.flatMap kids).length ≤ lim →
    ∃ o', forL prot (.nm 4 false) (evB (calls prog.fns F (k + 1)) F iv_in prot) xs [some v, some L, some (.p (.int n)), some (.pl acc), o] = .nx [some v, some L, some (.p (.int n)), some (.pl (acc ++ xs.flatMap kids)), o']
  | [], acc, o, _, _ => ⟨o, by simp [forL]⟩
  | x :: xs, acc, o, h, hl => by
    simp [goods] at h
    simp only [List.flatMap_cons, List.length_append] at hl
    obtain ⟨o', ih⟩ := iv_layer (v := v) (L := L) hn hp (xs := xs) (acc := acc ++ kids x) (o := some (.p x)) h.2 (by simp only [List.length_append]; omega)
    refine ⟨o', ?_⟩
    unfold forL
    have hg : asgT prot (.nm 4 false) (.p x) [some v, some L, some (.p (.int n)), some (.pl acc), o] = some [some v, some L, some (.p (.int n)), some (.pl acc), some (.p x)] := by
      unfold asgT
      rw [if_neg hp]
      rfl
    rw [hg]
    dsimp only
    rw [iv_one hn h.1 (by omega)]
    dsimp only
    rw [ih, List.flatMap_cons, List.append_assoc]
end Ev.K88
end

section
set_option Elab.async false
set_option linter.all false
set_option maxRecDepth 100000
/-! M88c: shared values as data; comparing. -/
namespace Ev.K88
open PySem L2 Ev
variable {F k : Nat}
mutual
/-- data without truths and dicts, all strings well -/
def okv : P → Bool
  | .non => true
  | .str s => PyData.strOk s
  | .int i => true
  | .tup xs => okvs xs
  | .fl xs => okvs xs
  | _ => false
def okvs : List P → Bool
  | [] => true
  | x :: xs => okv x && okvs xs
end
mutual
def dp : P → Nat
  | .tup xs => dps xs + 1
  | .fl xs => dps xs + 1
  | _ => 0
def dps : List P → Nat
  | [] => 0
  | x :: xs => max (dp x) (dps xs)
end
mutual
def toD : P → PyData
  | .int i => .int i
  | .str s => .str s
  | .tup xs => .tuple (toDs xs)
  | .fl xs => .list (toDs xs)
  | _ => .none
def toDs : List P → List PyData
  | [] => []
  | x :: xs => toD x :: toDs xs
end
mutual
theorem okv_data : ∀ {x : P}, okv x = true → x.data = some (toD x) ∧ (toD x).canLay0 = true ∧ (toD x).depth = dp x
  | .non, _ => ⟨rfl, by simp [toD, PyData.canLay0], by simp [toD, PyData.depth, dp]⟩
  | .int i, _ => ⟨rfl, by simp [toD, PyData.canLay0], by simp [toD, PyData.depth, dp]⟩
  | .str s, h => ⟨rfl, by simp [toD, PyData.canLay0]; simpa [okv] using h, by simp [toD, PyData.depth, dp]⟩
  | .tup xs, h => by
    obtain ⟨h1, h2, h3⟩ := okvs_data (xs := xs) (by simpa [okv] using h)
    exact ⟨by simp [P.data, h1, toD], by simp [toD, PyData.canLay0, h2], by simp [toD, PyData.depth, dp, h3]⟩
  | .fl xs, h => by
    obtain ⟨h1, h2, h3⟩ := okvs_data (xs := xs) (by simpa [okv] using h)
    exact ⟨by simp [P.data, h1, toD], by simp [toD, PyData.canLay0, h2], by simp [toD, PyData.depth, dp, h3]⟩
  | .bl _, h => by simp [okv] at h
  | .fd _, h => by simp [okv] at h
  | .ins _ _, h => by simp [okv] at h
  | .exc _ _, h => by simp [okv] at h
  | .fn _, h => by simp [okv] at h
theorem okvs_data : ∀ {xs : List P}, okvs xs = true → P.datas xs = some (toDs xs) ∧ PyData.canLayAll0 (toDs xs) = true ∧ PyData.depthAll (toDs xs) = dps xs
  | [], _ => ⟨rfl, by simp [toDs, PyData.canLayAll0], by simp [toDs, PyData.depthAll, dps]⟩
  | x :: xs, h => by
    simp [okvs] at h
    obtain ⟨h1, h2, h3⟩ := okv_data (x := x) h.1
    obtain ⟨h4, h5, h6⟩ := okvs_data (xs := xs) h.2
    exact ⟨by simp [P.datas, h1, h4, toDs], by simp [toDs, PyData.canLayAll0, h2, h5], by simp [toDs, PyData.depthAll, dps, h3, h6]⟩
end
mutual
theorem eqv_toD : ∀ {x y : P}, okv x = true → okv y = true → (PyData.eqv (toD x) (toD y) = true ↔ x = y)
  | .non, y, _, h => by cases y <;> simp_all [toD, PyData.eqv, okv]
  | .int i, y, _, h => by cases y <;> simp_all [toD, PyData.eqv, okv]
  | .str i, y, _, h => by cases y <;> simp_all [toD, PyData.eqv, okv, strBeq]
  | .tup xs, y, hx, h => by
    cases y with
    | tup ys =>
      have := eqvs_toD (xs := xs) (ys := ys) (by simpa [okv] using hx) (by simpa [okv] using h)
      simp [toD, PyData.eqv, this]
    | _ => simp_all [toD, PyData.eqv, okv]
  | .fl xs, y, hx, h => by
    cases y with
    | fl ys =>
      have := eqvs_toD (xs := xs) (ys := ys) (by simpa [okv] using hx) (by simpa [okv] using h)
      simp [toD, PyData.eqv, this]
    | _ => simp_all [toD, PyData.eqv, okv]
  | .bl _, _, h, _ => by simp [okv] at h
  | .fd _, _, h, _ => by simp [okv] at h
  | .ins _ _, _, h, _ => by simp [okv] at h
  | .exc _ _, _, h, _ => by simp [okv] at h
  | .fn _, _, h, _ => by simp [okv] at h
theorem eqvs_toD : ∀ {xs ys : List P}, okvs xs = true → okvs ys = true → (PyData.eqvAll (toDs xs) (toDs ys) = true ↔ xs = ys)
  | [], [], _, _ => by simp [toDs, PyData.eqvAll]
  | [], _ :: _, _, _ => by simp [toDs, PyData.eqvAll]
  | _ :: _, [], _, _ => by simp [toDs, PyData.eqvAll]
  | x :: xs, y :: ys, h, g => by
    simp [okvs] at h g
    have h1 := eqv_toD (x := x) (y := y) h.1 g.1
    have h2 := eqvs_toD (xs := xs) (ys := ys) h.2 g.2
    simp [toDs, PyData.eqvAll, h1, h2]
end
noncomputable instance : DecidableEq P := fun a b => Classical.propDecidable _
theorem eqD_p {x y : P} (hx : okv x = true) (hy : okv y = true) (dx : dp x ≤ 64) (dy : dp y ≤ 64) : eqD (.p x) (.p y) = some (decide (x = y)) := by
  obtain ⟨h1, h2, h3⟩ := okv_data hx
  obtain ⟨g1, g2, g3⟩ := okv_data hy
  unfold eqD
  simp only [D.data, h1, g1, SeqAt.shaped, h2, g2, h3, g3, dx, dy, decide_true, Bool.and_self, if_true]
  congr 1
  rw [Bool.eq_iff_iff]
  simp [eqv_toD hx hy]
theorem eqD_pl {xs ys : List P} (hx : okvs xs = true) (hy : okvs ys = true) (dx : dps xs < 64) (dy : dps ys < 64) : eqD (.pl xs) (.pl ys) = some (decide (xs = ys)) := by
  obtain ⟨h1, h2, h3⟩ := okvs_data hx
  obtain ⟨g1, g2, g3⟩ := okvs_data hy
  unfold eqD
  simp only [D.data, h1, g1, Option.map, SeqAt.shaped, PyData.canLay0, PyData.depth, h2, g2, h3, g3, (show dps xs + 1 ≤ 64 from dx), (show dps ys + 1 ≤ 64 from dy), decide_true, Bool.and_self, if_true]
  congr 1
  rw [Bool.eq_iff_iff]
  simp only [PyData.eqv, decide_eq_true_eq]
  exact eqvs_toD hx hy
mutual
theorem good_okv : ∀ {x : P}, good x = true → okv x = true ∧ dp x = dep x
  | .non, _ => ⟨rfl, by simp [dp, dep]⟩
  | .int i, _ => ⟨rfl, by simp [dp, dep]⟩
  | .str s, h => by
    simp [good] at h
    exact ⟨h.1.2, by simp [dp, dep]⟩
  | .tup xs, h => by
    obtain ⟨h1, h2⟩ := goods_okvs (xs := xs) (by simpa [good] using h)
    exact ⟨by simp [okv, h1], by simp [dp, dep, h2]⟩
  | .fl _, h => by simp [good] at h
  | .bl _, h => by simp [good] at h
  | .fd _, h => by simp [good] at h
  | .ins _ _, h => by simp [good] at h
  | .exc _ _, h => by simp [good] at h
  | .fn _, h => by simp [good] at h
theorem goods_okvs : ∀ {xs : List P}, goods xs = true → okvs xs = true ∧ dps xs = deps xs
  | [], _ => ⟨rfl, by simp [dps, deps]⟩
  | x :: xs, h => by
    simp [goods] at h
    obtain ⟨h1, h2⟩ := good_okv (x := x) h.1
    obtain ⟨h3, h4⟩ := goods_okvs (xs := xs) h.2
    exact ⟨by simp [okvs, h1, h3], by simp [dps, deps, h2, h4]⟩
end
end Ev.K88
end

section
set_option Elab.async false
set_option linter.all false
set_option maxRecDepth 100000
/-! M88d: is_value at good values. -/
namespace Ev.K88
open PySem L2 Ev
variable {F k : Nat}
def iv_out : List S := [
    .asg (.nm 3 true) (.lst []),
    .for_ (.nm 4 false) (.pk 1) iv_in,
    .ife (.cmp .Eq (.pk 3) (.lst [])) [
      .ret (.lit (.bl true))] [],
    .asg (.nm 1 false) (.var 3)]
theorem flat_nil : ∀ {xs : List P}, deps xs = 0 → xs.flatMap kids = []
  | [], _ => rfl
  | x :: xs, h => by
    simp only [deps] at h
    have h1 : dep x = 0 := by omega
    have h2 : deps xs = 0 := by omega
    rw [List.flatMap_cons, flat_nil h2]
    cases x with
    | tup ys => simp [dep] at h1
    | _ => rfl
theorem ev_eq_nil {Γ : Calls} {i : Nat} {e : Env} {xs : List P} (hg : getE e i = some (.pl xs)) (hx : okvs xs = true) (dx : dps xs < 64) : evT Γ (.cmp .Eq (.pk i) (.lst [])) e = .ok (.p (.bl (decide (xs = [])))) e := by
  simp only [evT, hg, Out.bind, evTs, OutL.bind, frzAll, Option.map, opt, fin, cmpop]
  rw [eqD_pl hx rfl dx (by decide)]
  rfl
theorem iv_turn {v : D} {o2 o4 : Option D} {n : Nat} (hn : n < 59) {xs : List P} (hx : goods xs = true) (hd : deps xs ≤ 50) (hs : sizs xs ≤ lim) :
    ∃ o', evB (calls prog.fns F (k + 1)) F iv_out [] [some v, some (.p (.fl xs)), some (.p (.int n)), none, o4] =
      (if xs.flatMap kids = [] then .ret (.p (.bl true)) [some v, some (.p (.fl xs)), some (.p (.int n)), some (.pl []), o'] else .nx [some v, some (.p (.fl (xs.flatMap kids))), some (.p (.int n)), none, o']) := by
  have hfl := goods_flat hx
  obtain ⟨hok, hdp⟩ := goods_okvs hfl
  have hdf := deps_flat xs
  have hsl : (xs.flatMap kids).length ≤ lim := Nat.le_trans (Nat.le_trans (sizs_len _) (sizs_flat xs)) hs
  obtain ⟨o', h⟩ := iv_layer (F := F) (k := k) (v := v) (L := .p (.fl xs)) hn (prot := []) (by simp) (xs := xs) (acc := []) (o := o4) hx (by simpa using hsl)
  refine ⟨o', ?_⟩
  unfold iv_out
  rw [evB_nx (e' := [some v, some (.p (.fl xs)), some (.p (.int n)), some (.pl []), o4]) rfl]
  rw [evB_nx (e' := [some v, some (.p (.fl xs)), some (.p (.int n)), some (.pl (xs.flatMap kids)), o']) (by
    simp only [evS]
    rw [show evI (calls prog.fns F (k + 1)) (.pk 1) [some v, some (.p (.fl xs)), some (.p (.int n)), some (.pl []), o4] = .ok xs [some v, some (.p (.fl xs)), some (.p (.int n)), some (.pl []), o4] from rfl]
    show SO.map _ (forL [] (.nm 4 false) (evB (calls prog.fns F (k + 1)) F iv_in []) xs [some v, some (.p (.fl xs)), some (.p (.int n)), some (.pl []), o4]) = _
    rw [h]
    rfl)]
  have he := ev_eq_nil (Γ := calls prog.fns F (k + 1)) (i := 3) (e := [some v, some (.p (.fl xs)), some (.p (.int n)), some (.pl (xs.flatMap kids)), o']) rfl hok (by omega)
  by_cases hnil : xs.flatMap kids = []
  · rw [if_pos hnil]
    rw [hnil] at he ⊢
    exact evB_ret ((ev_ife_t he (by simp; rfl)).trans rfl)
  · rw [if_neg hnil]
    rw [evB_nx ((ev_ife_f he (by simp [hnil]; rfl)).trans rfl)]
    rfl
theorem iv_loop {v : D} : ∀ {ms : List Nat} {rest : List P} {xs : List P} {o2 o4 : Option D}, (∀ n ∈ ms, n < 59) → goods xs = true → deps xs ≤ 50 → deps xs < ms.length → sizs xs ≤ lim →
    ∃ e, forL [] (.nm 2 false) (evB (calls prog.fns F (k + 1)) F iv_out []) ((ms.map fun n => P.int (n : Nat)) ++ rest) [some v, some (.p (.fl xs)), o2, none, o4] = .ret (.p (.bl true)) (some v :: e)
  | [], _, xs, _, _, _, _, _, h, _ => by simp at h
  | n :: ms, rest, xs, o2, o4, hm, hx, hd, hl, hs => by
    obtain ⟨o', h⟩ := iv_turn (F := F) (k := k) (v := v) (o2 := o2) (o4 := o4) (n := n) (hm n (by simp)) hx hd hs
    have hgo : forL [] (.nm 2 false) (evB (calls prog.fns F (k + 1)) F iv_out []) (((n :: ms).map fun n => P.int (n : Nat)) ++ rest) [some v, some (.p (.fl xs)), o2, none, o4] =
        match evB (calls prog.fns F (k + 1)) F iv_out [] [some v, some (.p (.fl xs)), some (.p (.int n)), none, o4] with
          | .nx e2 => forL [] (.nm 2 false) (evB (calls prog.fns F (k + 1)) F iv_out []) ((ms.map fun n => P.int (n : Nat)) ++ rest) e2
          | .ct e2 => forL [] (.nm 2 false) (evB (calls prog.fns F (k + 1)) F iv_out []) ((ms.map fun n => P.int (n : Nat)) ++ rest) e2
          | .bk e2 => .nx e2
          | .ret d e2 => .ret d e2
          | .exc c fs e2 => .exc c fs e2
          | .bad => .bad := rfl
    rw [hgo, h]
    by_cases hnil : xs.flatMap kids = []
    · rw [if_pos hnil]
      exact ⟨_, rfl⟩
    · rw [if_neg hnil]
      dsimp only
      have h0 : deps xs ≠ 0 := fun h => hnil (flat_nil h)
      refine iv_loop (fun m h => hm m (by simp [h])) (goods_flat hx) ?_ ?_ (Nat.le_trans (sizs_flat xs) hs)
      · rw [deps_flat]; omega
      · rw [deps_flat]
        simp only [List.length_cons] at hl
        omega
theorem m_is_value {v : P} (hv : good v = true) (hd : dep v ≤ 50) (hs : siz v ≤ lim) : calls prog.fns F (k + 2) "is_value" [.p v] = .ok (.p (.bl true)) [.p v] := by
  have hg : goods [v] = true := by simp [goods, hv]
  obtain ⟨e, h⟩ := iv_loop (F := F) (k := k) (v := .p v) (ms := List.range 59) (rest := [.int 59]) (xs := [v]) (o2 := none) (o4 := none) (fun n h => by simpa using h) hg (by simpa [deps] using hd) (by simp [deps]; omega) (by simpa [sizs] using hs)
  have hb : evB (calls prog.fns F (k + 1)) F b_is_value [] [some (.p v), none, none, none, none] = .ret (.p (.bl true)) (some (.p v) :: e) := by
    show evB (calls prog.fns F (k + 1)) F [.asg (.nm 1 false) (.lst [(.var 0)]), .for_ (.nm 2 false) (.range (.lit (.int 60))) iv_out, .ret (.lit (.bl false))] [] [some (.p v), none, none, none, none] = _
    rw [evB_nx (e' := [some (.p v), some (.p (.fl [v])), none, none, none]) rfl]
    refine evB_ret ?_
    simp only [evS]
    rw [show evI (calls prog.fns F (k + 1)) (.range (.lit (.int 60))) [some (.p v), some (.p (.fl [v])), none, none, none] = .ok (((List.range 59).map fun n => P.int (n : Nat)) ++ [.int 59]) [some (.p v), some (.p (.fl [v])), none, none, none] from rfl]
    show SO.map _ (forL [] (.nm 2 false) (evB (calls prog.fns F (k + 1)) F iv_out []) _ [some (.p v), some (.p (.fl [v])), none, none, none]) = _
    rw [h]
    rfl
  have lk : calls prog.fns F (k + 2) "is_value" [.p v] = runFn (calls prog.fns F (k + 1)) F d_is_value.fn [.p v] := rfl
  rw [lk]
  unfold runFn
  rw [if_pos ⟨rfl, by decide⟩]
  show (match evB (calls prog.fns F (k + 1)) F b_is_value [] [some (.p v), none, none, none, none] with
    | .ret d e => _
    | .nx e => _
    | .exc c fs e => _
    | _ => _) = _
  rw [hb]
  rfl
end Ev.K88
end

section
set_option Elab.async false
set_option linter.all false
set_option maxRecDepth 100000
/-! M88e: value_text at good values. -/
namespace Ev.K88
open PySem L2 Ev
variable {F k : Nat}
def leaf : P → Str
  | .non => "-"
  | .str s => s
  | .int i => toString i
  | _ => ""
def sp : P := .fl [.str " "]
def seqs : List P → List P
  | [] => []
  | [x] => [x]
  | x :: xs => x :: sp :: seqs xs
mutual
def toks : P → List Str
  | .tup xs => "(" :: (tokS xs ++ [(")" : Str)])
  | x => [leaf x]
def tokS : List P → List Str
  | [] => []
  | x :: xs => toks x ++ (match xs with
    | [] => []
    | _ => " " :: tokS xs)
end
mutual
def wt : P → Nat
  | .tup xs => wts xs + 4
  | _ => 1
def wts : List P → Nat
  | [] => 0
  | x :: xs => wt x + 2 + wts xs
end
mutual
/-- turns of the while -/
def cn : P → Nat
  | .tup xs => cns xs + 3
  | _ => 1
def cns : List P → Nat
  | [] => 0
  | x :: xs => cn x + (match xs with
    | [] => 0
    | _ => 1 + cns xs)
end
theorem seqs_len : ∀ (xs : List P), (seqs xs).length ≤ wts xs
  | [] => by simp [seqs]
  | [x] => by simp [seqs, wts]
  | x :: y :: r => by
    have := seqs_len (y :: r)
    simp only [seqs, List.length_cons]
    simp only [wts] at this ⊢
    omega
theorem seqs_app {y : P} : ∀ {xs : List P} (_ : xs ≠ []), seqs (xs ++ [y]) = seqs xs ++ [sp, y]
  | [], h => by simp at h
  | [x], _ => rfl
  | x :: z :: r, _ => by
    show x :: sp :: seqs ((z :: r) ++ [y]) = x :: sp :: seqs (z :: r) ++ [sp, y]
    rw [seqs_app (xs := z :: r) (by simp)]
    simp
theorem seqs_rev : ∀ (xs : List P), seqs xs.reverse = (seqs xs).reverse
  | [] => rfl
  | [x] => rfl
  | x :: y :: r => by
    rw [List.reverse_cons, seqs_app (by simp), seqs_rev (y :: r)]
    show _ = (x :: sp :: seqs (y :: r)).reverse
    simp
theorem okvs_app : ∀ {xs ys : List P}, okvs (xs ++ ys) = (okvs xs && okvs ys)
  | [], ys => by simp [okvs]
  | x :: xs, ys => by simp [okvs, okvs_app, Bool.and_assoc]
theorem dps_app : ∀ {xs ys : List P}, dps (xs ++ ys) = max (dps xs) (dps ys)
  | [], ys => by simp [dps]
  | x :: xs, ys => by simp [dps, dps_app, Nat.max_assoc]
theorem okvs_rev : ∀ {xs : List P}, okvs xs.reverse = okvs xs
  | [] => rfl
  | x :: xs => by simp [okvs_app, okvs, okvs_rev (xs := xs), Bool.and_comm]
theorem dps_rev : ∀ {xs : List P}, dps xs.reverse = dps xs
  | [] => rfl
  | x :: xs => by simp [dps_app, dps, dps_rev (xs := xs), Nat.max_comm]
theorem seqs_okv : ∀ {xs : List P}, okvs xs = true → okvs (seqs xs) = true ∧ dps (seqs xs) ≤ max 1 (dps xs)
  | [], _ => by simp [seqs, okvs, dps]
  | [x], h => ⟨h, by simp [seqs]; omega⟩
  | x :: y :: r, h => by
    simp only [okvs, Bool.and_eq_true] at h
    have ih := seqs_okv (xs := y :: r) (by simp [okvs, h.2.1, h.2.2])
    have hs : okv sp = true := by decide +kernel
    have hd : dp sp = 1 := by decide +kernel
    refine ⟨by simp [seqs, okvs, h.1, hs, ih.1], ?_⟩
    have := ih.2
    simp only [seqs, dps, hd] at this ⊢
    omega
def vt_in : List S := [.ext 2 (.ife (.cmp .Eq (.pk 4) (.bin .Sub (.blt "len" [(.pk 3)]) (.lit (.int 1)))) (.lst [(.var 5)]) (.lst [(.var 5), (.lst [(.lit (.str " "))])]))]
def vt_b : List S := [
    .asg (.nm 3 false) (.pop 2),
    .ife (.isi (.pk 3) ["list"]) [
      .app 1 (.idx (.pk 3) (.lit (.int 0)))] [
      .ife (.isi (.pk 3) ["tuple"]) [
        .app 2 (.lst [(.lit (.str ")"))]),
        .for_ (.tp [(.nm 4 false), (.nm 5 false)]) (.enum (.rev (.pk 3))) vt_in,
        .app 2 (.lst [(.lit (.str "("))])] [
        .app 1 (.ife (.cmp .Is (.pk 3) (.lit .non)) (.lit (.str "-")) (.blt "str" [(.pk 3)]))]]]
def vt_t : T := .cmp .NotEq (.pk 2) (.lst [])
theorem vt_for {Γ : Calls} {v f : D} {xs : List P} : ∀ {n : Nat} {ys acc : List P} {o4 o5 : Option D}, n + ys.length = xs.length → acc.length + (seqs ys).length ≤ lim →
    ∃ o4' o5', forL [] (.tp [(.nm 4 false), (.nm 5 false)]) (evB Γ F vt_in []) (enumP n ys) [some v, some f, some (.pl acc), some (.p (.tup xs)), o4, o5] = .nx [some v, some f, some (.pl (acc ++ seqs ys)), some (.p (.tup xs)), o4', o5']
  | n, [], acc, o4, o5, _, _ => ⟨o4, o5, by simp [forL, enumP, seqs]⟩
  | n, y :: ys, acc, o4, o5, hn, hl => by
    have hb : ∀ zs, (if ((n : Int) = (xs.length : Int) - 1) then [y] else [y, sp]) = zs → acc.length + zs.length ≤ lim → evB Γ F vt_in [] [some v, some f, some (.pl acc), some (.p (.tup xs)), some (.p (.int n)), some (.p y)] = .nx [some v, some f, some (.pl (acc ++ zs)), some (.p (.tup xs)), some (.p (.int n)), some (.p y)] := by
      intro zs hz hl
      unfold vt_in
      have ht : evT Γ (.cmp .Eq (.pk 4) (.bin .Sub (.blt "len" [(.pk 3)]) (.lit (.int 1)))) [some v, some f, some (.pl acc), some (.p (.tup xs)), some (.p (.int n)), some (.p y)] = .ok (.p (.bl (decide ((n : Int) = (xs.length : Int) - 1)))) [some v, some f, some (.pl acc), some (.p (.tup xs)), some (.p (.int n)), some (.p y)] := by
        show optB (eqD (.p (.int n)) (.p (.int ((xs.length : Int) - 1)))) _ = _
        rw [eqD_p rfl rfl (by simp [dp]) (by simp [dp])]
        simp [optB]
      have hi : evT Γ (.ife (.cmp .Eq (.pk 4) (.bin .Sub (.blt "len" [(.pk 3)]) (.lit (.int 1)))) (.lst [(.var 5)]) (.lst [(.var 5), (.lst [(.lit (.str " "))])])) [some v, some f, some (.pl acc), some (.p (.tup xs)), some (.p (.int n)), some (.p y)] = .ok (.pl zs) [some v, some f, some (.pl acc), some (.p (.tup xs)), some (.p (.int n)), some (.p y)] := by
        rw [evT]
        simp only [ht, Out.bind, fin, onB]
        subst hz
        by_cases e : (n : Int) = (xs.length : Int) - 1
        · simp only [e, decide_true, if_true]
          rfl
        · simp only [e, decide_false, if_false, Bool.false_eq_true]
          rfl
      refine evB_nx (ss := []) ?_
      simp only [evS, hi, Out.thn]
      show (if acc.length + zs.length ≤ lim then SO.nx _ else .bad) = _
      rw [if_pos hl]
      rfl
    have hgo : forL [] (.tp [(.nm 4 false), (.nm 5 false)]) (evB Γ F vt_in []) (enumP n (y :: ys)) [some v, some f, some (.pl acc), some (.p (.tup xs)), o4, o5] =
        match evB Γ F vt_in [] [some v, some f, some (.pl acc), some (.p (.tup xs)), some (.p (.int n)), some (.p y)] with
          | .nx e2 => forL [] (.tp [(.nm 4 false), (.nm 5 false)]) (evB Γ F vt_in []) (enumP (n + 1) ys) e2
          | .ct e2 => forL [] (.tp [(.nm 4 false), (.nm 5 false)]) (evB Γ F vt_in []) (enumP (n + 1) ys) e2
          | .bk e2 => .nx e2
          | .ret d e2 => .ret d e2
          | .exc c fs e2 => .exc c fs e2
          | .bad => .bad := rfl
    rw [hgo]
    cases ys with
    | nil =>
      have e : (n : Int) = (xs.length : Int) - 1 := by simp at hn; omega
      rw [hb [y] (by rw [if_pos e]) (by simpa [seqs] using hl)]
      exact ⟨_, _, rfl⟩
    | cons z r =>
      have e : ¬ (n : Int) = (xs.length : Int) - 1 := by simp at hn; omega
      have hl' : acc.length + ((seqs (z :: r)).length + 2) ≤ lim := by simpa [seqs] using hl
      rw [hb [y, sp] (by rw [if_neg e]) (by simp; omega)]
      dsimp only
      obtain ⟨o4', o5', ih⟩ := vt_for (Γ := Γ) (v := v) (f := f) (n := n + 1) (ys := z :: r) (xs := xs) (acc := acc ++ [y, sp]) (o4 := some (.p (.int n))) (o5 := some (.p y)) (by simp at hn ⊢; omega) (by simp; omega)
      refine ⟨o4', o5', ?_⟩
      rw [ih]
      simp [seqs]
end Ev.K88
end

section
set_option Elab.async false
set_option linter.all false
set_option maxRecDepth 100000
/-! M88f: the while of value_text. -/
namespace Ev.K88
open PySem L2 Ev
variable {F k : Nat} {Γ : Calls}
def strP (ss : List Str) : List P := ss.map .str
def VW (Γ : Calls) (F n : Nat) (e : Env) : SO := whileL (evC Γ (some vt_t)) (evB Γ F vt_b []) n e
theorem ev_ne_nil {i : Nat} {e : Env} {xs : List P} (hg : getE e i = some (.pl xs)) (hx : okvs xs = true) (dx : dps xs < 64) : evC Γ (some (.cmp .NotEq (.pk i) (.lst []))) e = .ok (.p (.bl (!decide (xs = [])))) e := by
  simp only [evC, evT, hg, Out.bind, evTs, OutL.bind, frzAll, Option.map, opt, fin, cmpop]
  rw [eqD_pl hx rfl dx (by decide)]
  rfl
theorem vw_step {v : D} {found left : List P} {x : P} {o3 o4 o5 : Option D} {e' : Env} {m : Nat} (hx : okvs (left ++ [x]) = true) (hd : dps (left ++ [x]) < 64)
    (h : evB Γ F vt_b [] [some v, some (.pl found), some (.pl (left ++ [x])), o3, o4, o5] = .nx e') : VW Γ F (m + 1) [some v, some (.pl found), some (.pl (left ++ [x])), o3, o4, o5] = VW Γ F m e' := by
  unfold VW
  rw [whileL]
  have := ev_ne_nil (Γ := Γ) (i := 2) (e := [some v, some (.pl found), some (.pl (left ++ [x])), o3, o4, o5]) rfl hx hd
  unfold vt_t
  rw [this]
  simp only [List.append_eq_nil_iff, List.cons_ne_self, and_false, decide_false, Bool.not_false]
  rw [h]
theorem vw_end {v : D} {found : List P} {o3 o4 o5 : Option D} {m : Nat} : VW Γ F (m + 1) [some v, some (.pl found), some (.pl []), o3, o4, o5] = .nx [some v, some (.pl found), some (.pl []), o3, o4, o5] := by
  unfold VW
  rw [whileL]
  have := ev_ne_nil (Γ := Γ) (i := 2) (e := [some v, some (.pl found), some (.pl []), o3, o4, o5]) rfl rfl (by decide)
  unfold vt_t
  rw [this]
  rfl
theorem vt_pop {v : D} {found left : List P} {x : P} {o3 o4 o5 : Option D} : evS Γ F (.asg (.nm 3 false) (.pop 2)) [] [some v, some (.pl found), some (.pl (left ++ [x])), o3, o4, o5] = .nx [some v, some (.pl found), some (.pl left), some (.p x), o4, o5] := by
  have h : evT Γ (.pop 2) [some v, some (.pl found), some (.pl (left ++ [x])), o3, o4, o5] = .ok (.p x) [some v, some (.pl found), some (.pl left), o3, o4, o5] := by
    rw [evT]
    show (match (left ++ [x]).getLast? with
      | some y => Out.ok (.p y) (List.set _ 2 (some (.pl (left ++ [x]).dropLast)))
      | none => .bad) = _
    rw [List.getLast?_concat, List.dropLast_concat]
    rfl
  simp only [evS, h, Out.thn]
  rfl
/-- one that is kept as it is -/
theorem vt_mark {v : D} {found left : List P} {s : Str} {o3 o4 o5 : Option D} {m : Nat} (hx : okvs left = true) (hs : PyData.strOk s = true) (hd : dps left ≤ 60) (hl : found.length < lim) :
    VW Γ F (m + 1) [some v, some (.pl found), some (.pl (left ++ [.fl [.str s]])), o3, o4, o5] = VW Γ F m [some v, some (.pl (found ++ [.str s])), some (.pl left), some (.p (.fl [.str s])), o4, o5] := by
  refine vw_step (by simp [okvs_app, hx, okvs, okv, hs]) (by simp [dps_app, dps, dp]; omega) ?_
  unfold vt_b
  rw [evB_nx vt_pop]
  refine evB_nx ((ev_ife_t (d := .p (.bl true)) rfl rfl).trans (evB_nx ?_))
  show (if found.length < lim then SO.nx _ else .bad) = _
  rw [if_pos hl]
  rfl
theorem log_small {i : Int} (h : absI i < 1000000000000) : i.natAbs.log2 < 1920 := by
  unfold absI at h
  have : i.natAbs < 1000000000000 := by split at h <;> omega
  by_cases h0 : i.natAbs = 0
  · rw [h0]; decide
  · exact Nat.lt_of_lt_of_le ((Nat.log2_lt h0).mpr (show i.natAbs < 2 ^ 40 by omega)) (by decide)
theorem vt_leaf {v : D} {found left : List P} {x : P} {o3 o4 o5 : Option D} {m : Nat} (hg : good x = true) (ht : ∀ xs, x ≠ .tup xs) (hx : okvs left = true) (hd : dps left ≤ 60) (hl : found.length < lim) :
    VW Γ F (m + 1) [some v, some (.pl found), some (.pl (left ++ [x])), o3, o4, o5] = VW Γ F m [some v, some (.pl (found ++ [.str (leaf x)])), some (.pl left), some (.p x), o4, o5] := by
  obtain ⟨h1, h2⟩ := good_okv hg
  refine vw_step (by simp [okvs_app, hx, okvs, h1]) (by
    have h0 : dp x = 0 := by
      cases x with
      | tup xs => exact (ht xs rfl).elim
      | fl _ => simp [good] at hg
      | _ => simp [dp]
    simp only [dps_app, dps, h0]
    omega) ?_
  unfold vt_b
  rw [evB_nx vt_pop]
  have fin1 : ∀ {x : P}, evT Γ (.isi (.pk 3) ["list"]) [some v, some (.pl found), some (.pl left), some (.p x), o4, o5] = .ok (.p (.bl false)) [some v, some (.pl found), some (.pl left), some (.p x), o4, o5] →
      evT Γ (.isi (.pk 3) ["tuple"]) [some v, some (.pl found), some (.pl left), some (.p x), o4, o5] = .ok (.p (.bl false)) [some v, some (.pl found), some (.pl left), some (.p x), o4, o5] →
      evT Γ (.ife (.cmp .Is (.pk 3) (.lit .non)) (.lit (.str "-")) (.blt "str" [(.pk 3)])) [some v, some (.pl found), some (.pl left), some (.p x), o4, o5] = .ok (.p (.str (leaf x))) [some v, some (.pl found), some (.pl left), some (.p x), o4, o5] →
      evB Γ F [.ife (.isi (.pk 3) ["list"]) [
      .app 1 (.idx (.pk 3) (.lit (.int 0)))] [
      .ife (.isi (.pk 3) ["tuple"]) [
        .app 2 (.lst [(.lit (.str ")"))]),
        .for_ (.tp [(.nm 4 false), (.nm 5 false)]) (.enum (.rev (.pk 3))) vt_in,
        .app 2 (.lst [(.lit (.str "("))])] [
        .app 1 (.ife (.cmp .Is (.pk 3) (.lit .non)) (.lit (.str "-")) (.blt "str" [(.pk 3)]))]]] [] [some v, some (.pl found), some (.pl left), some (.p x), o4, o5] = .nx [some v, some (.pl (found ++ [.str (leaf x)])), some (.pl left), some (.p x), o4, o5] := fun {x} a b c => by
    refine evB_nx ((ev_ife_f a rfl).trans (evB_nx ((ev_ife_f b rfl).trans (evB_nx ?_))))
    simp only [evS, c, Out.thn]
    show (if found.length < lim then SO.nx _ else .bad) = _
    rw [if_pos hl]
    rfl
  cases x with
  | non => exact fin1 rfl rfl rfl
  | str s => exact fin1 rfl rfl rfl
  | int i =>
    refine fin1 rfl rfl ?_
    have hi : absI i < 1000000000000 := by simpa [good] using hg
    have hb : bltop "str" [D.p (.int i)] = some (.p (.str (toString i))) := by
      show (if i.natAbs.log2 < 1920 then some (D.p (.str (toString i))) else none) = _
      rw [if_pos (log_small hi)]
    have : evT Γ (.ife (.cmp .Is (.pk 3) (.lit .non)) (.lit (.str "-")) (.blt "str" [(.pk 3)])) [some v, some (.pl found), some (.pl left), some (.p (.int i)), o4, o5] = opt (bltop "str" [D.p (.int i)]) [some v, some (.pl found), some (.pl left), some (.p (.int i)), o4, o5] := rfl
    rw [this, hb]
    rfl
  | tup xs => exact (ht xs rfl).elim
  | _ => simp [good] at hg
theorem vt_tup {v : D} {found left xs : List P} {o3 o4 o5 : Option D} {m : Nat} (hg : goods xs = true) (hd2 : deps xs ≤ 54) (hx : okvs left = true) (hd : dps left ≤ 60) (hl : left.length + (seqs xs).length + 2 ≤ lim) :
    ∃ o4' o5', VW Γ F (m + 1) [some v, some (.pl found), some (.pl (left ++ [.tup xs])), o3, o4, o5] = VW Γ F m [some v, some (.pl found), some (.pl (left ++ [.fl [.str ")"]] ++ (seqs xs).reverse ++ [.fl [.str "("]])), some (.p (.tup xs)), o4', o5'] := by
  obtain ⟨h1, h2⟩ := goods_okvs hg
  have hlr : (seqs xs.reverse).length = (seqs xs).length := by rw [seqs_rev, List.length_reverse]
  obtain ⟨o4', o5', h⟩ := vt_for (F := F) (Γ := Γ) (v := v) (f := .pl found) (xs := xs) (n := 0) (ys := xs.reverse) (acc := left ++ [.fl [.str ")"]]) (o4 := o4) (o5 := o5) (by simp) (by rw [hlr]; simp; omega)
  refine ⟨o4', o5', vw_step (by simp [okvs_app, hx, okvs, okv, h1]) (by simp [dps_app, dps, dp, h2]; omega) ?_⟩
  unfold vt_b
  rw [evB_nx vt_pop]
  refine evB_nx ((ev_ife_f (d := .p (.bl false)) rfl rfl).trans (evB_nx ((ev_ife_t (d := .p (.bl true)) rfl rfl).trans ?_)))
  have a1 : evS Γ F (.app 2 (.lst [(.lit (.str ")"))])) [] [some v, some (.pl found), some (.pl left), some (.p (.tup xs)), o4, o5] = .nx [some v, some (.pl found), some (.pl (left ++ [.fl [.str ")"]])), some (.p (.tup xs)), o4, o5] := by
    show (if left.length < lim then SO.nx _ else .bad) = _
    rw [if_pos (by omega)]
    rfl
  have a2 : evS Γ F (.for_ (.tp [(.nm 4 false), (.nm 5 false)]) (.enum (.rev (.pk 3))) vt_in) [] [some v, some (.pl found), some (.pl (left ++ [.fl [.str ")"]])), some (.p (.tup xs)), o4, o5] = .nx [some v, some (.pl found), some (.pl (left ++ [.fl [.str ")"]] ++ seqs xs.reverse)), some (.p (.tup xs)), o4', o5'] := by
    simp only [evS]
    rw [show evI Γ (.enum (.rev (.pk 3))) [some v, some (.pl found), some (.pl (left ++ [.fl [.str ")"]])), some (.p (.tup xs)), o4, o5] = .ok (enumP 0 xs.reverse) [some v, some (.pl found), some (.pl (left ++ [.fl [.str ")"]])), some (.p (.tup xs)), o4, o5] from rfl]
    show SO.map _ (forL [] (.tp [(.nm 4 false), (.nm 5 false)]) (evB Γ F vt_in []) (enumP 0 xs.reverse) [some v, some (.pl found), some (.pl (left ++ [.fl [.str ")"]])), some (.p (.tup xs)), o4, o5]) = _
    rw [h]
    rfl
  have a3 : evS Γ F (.app 2 (.lst [(.lit (.str "("))])) [] [some v, some (.pl found), some (.pl (left ++ [.fl [.str ")"]] ++ seqs xs.reverse)), some (.p (.tup xs)), o4', o5'] = .nx [some v, some (.pl found), some (.pl (left ++ [.fl [.str ")"]] ++ (seqs xs).reverse ++ [.fl [.str "("]])), some (.p (.tup xs)), o4', o5'] := by
    show (if (left ++ [P.fl [.str ")"]] ++ seqs xs.reverse).length < lim then SO.nx _ else .bad) = _
    rw [if_pos (by simp [hlr]; omega), seqs_rev]
    rfl
  rw [evB_nx a1, evB_nx a2, evB_nx a3]
  rfl
end Ev.K88
end

section
set_option Elab.async false
set_option linter.all false
set_option maxRecDepth 100000
/-! M88g: value_text at good values: the joined marks. -/
namespace Ev.K88
open PySem L2 Ev
variable {F k : Nat} {Γ : Calls}
theorem tokS_cons (x y : P) (r : List P) : tokS (x :: y :: r) = toks x ++ (" " : Str) :: tokS (y :: r) := by
  rw [tokS]
  intro h
  cases h
theorem cns_cons (x y : P) (r : List P) : cns (x :: y :: r) = cn x + (1 + cns (y :: r)) := by
  rw [cns]
  intro h
  cases h
theorem strP_app (a b : List Str) : strP (a ++ b) = strP a ++ strP b := by simp [strP]
theorem seqs_bounds {xs : List P} {left : List P} (hg : goods xs = true) (hd2 : deps xs ≤ 54) (hx : okvs left = true) (hd : dps left ≤ 60) : okvs (left ++ (seqs xs).reverse) = true ∧ dps (left ++ (seqs xs).reverse) ≤ 60 := by
  obtain ⟨h1, h2⟩ := goods_okvs hg
  obtain ⟨h3, h4⟩ := seqs_okv h1
  exact ⟨by rw [okvs_app, okvs_rev, hx, h3]; rfl, by rw [dps_app, dps_rev]; omega⟩
mutual
theorem vt_one {v : D} : ∀ (x : P) {found left : List P} {o3 o4 o5 : Option D} {m : Nat}, good x = true → dep x ≤ 55 → okvs left = true → dps left ≤ 60 → left.length + wt x + 2 ≤ lim → found.length + (toks x).length ≤ lim →
    ∃ o3' o4' o5', VW Γ F (m + cn x) [some v, some (.pl found), some (.pl (left ++ [x])), o3, o4, o5] = VW Γ F m [some v, some (.pl (found ++ strP (toks x))), some (.pl left), o3', o4', o5']
  | .tup xs, found, left, o3, o4, o5, m, hg, hdx, hx, hd, hl, hf => by
    have hg' : goods xs = true := by simpa [good] using hg
    simp only [dep, wt, toks, cn, List.length_cons, List.length_append, List.length_nil] at hdx hl hf ⊢
    have hsl := seqs_len xs
    obtain ⟨a4, a5, e1⟩ := vt_tup (Γ := Γ) (F := F) (v := v) (found := found) (left := left) (xs := xs) (o3 := o3) (o4 := o4) (o5 := o5) (m := m + 1 + cns xs + 1) hg' (by omega) hx hd (by omega)
    have m1 : okv (.fl [.str ")"]) = true := by decide +kernel
    have m2 : dp (.fl [.str ")"]) = 1 := by decide +kernel
    have hL : okvs (left ++ [.fl [.str ")"]]) = true := by simp [okvs_app, hx, okvs, m1]
    have hLd : dps (left ++ [.fl [.str ")"]]) ≤ 60 := by
      rw [dps_app]
      simp only [dps, m2]
      by_cases h : dps left ≤ 1
      · omega
      · omega
    obtain ⟨b1, b2⟩ := seqs_bounds hg' (by omega) hL hLd
    have e2 := vt_mark (Γ := Γ) (F := F) (v := v) (found := found) (left := left ++ [.fl [.str ")"]] ++ (seqs xs).reverse) (s := "(") (o3 := some (.p (.tup xs))) (o4 := a4) (o5 := a5) (m := m + 1 + cns xs) b1 (by decide +kernel) b2 (by omega)
    obtain ⟨c3, c4, c5, e3⟩ := vt_seq (v := v) xs (found := found ++ [.str "("]) (left := left ++ [.fl [.str ")"]]) (o3 := some (.p (.fl [.str "("]))) (o4 := a4) (o5 := a5) (m := m + 1) hg' (by omega) hL hLd (by simp; omega) (by simp; omega)
    have e4 := vt_mark (Γ := Γ) (F := F) (v := v) (found := found ++ [.str "("] ++ strP (tokS xs)) (left := left) (s := ")") (o3 := c3) (o4 := c4) (o5 := c5) (m := m) hx (by decide +kernel) hd (by simp [strP]; omega)
    refine ⟨some (.p (.fl [.str ")"])), c4, c5, ?_⟩
    rw [show m + (cns xs + 3) = m + 1 + cns xs + 1 + 1 by omega, e1, e2, e3, e4]
    simp [strP]
  | .non, found, left, o3, o4, o5, m, hg, hdx, hx, hd, hl, hf => by
    have := vt_leaf (Γ := Γ) (F := F) (v := v) (found := found) (left := left) (x := .non) (o3 := o3) (o4 := o4) (o5 := o5) (m := m) hg (by simp) hx hd (by simp [toks] at hf; omega)
    exact ⟨_, _, _, by simp only [cn, toks]; exact this⟩
  | .str s, found, left, o3, o4, o5, m, hg, hdx, hx, hd, hl, hf => by
    have := vt_leaf (Γ := Γ) (F := F) (v := v) (found := found) (left := left) (x := .str s) (o3 := o3) (o4 := o4) (o5 := o5) (m := m) hg (by simp) hx hd (by simp [toks] at hf; omega)
    exact ⟨_, _, _, by simp only [cn, toks]; exact this⟩
  | .int s, found, left, o3, o4, o5, m, hg, hdx, hx, hd, hl, hf => by
    have := vt_leaf (Γ := Γ) (F := F) (v := v) (found := found) (left := left) (x := .int s) (o3 := o3) (o4 := o4) (o5 := o5) (m := m) hg (by simp) hx hd (by simp [toks] at hf; omega)
    exact ⟨_, _, _, by simp only [cn, toks]; exact this⟩
  | .fl _, _, _, _, _, _, _, h, _, _, _, _, _ => by simp [good] at h
  | .bl _, _, _, _, _, _, _, h, _, _, _, _, _ => by simp [good] at h
  | .fd _, _, _, _, _, _, _, h, _, _, _, _, _ => by simp [good] at h
  | .ins _ _, _, _, _, _, _, _, h, _, _, _, _, _ => by simp [good] at h
  | .exc _ _, _, _, _, _, _, _, h, _, _, _, _, _ => by simp [good] at h
  | .fn _, _, _, _, _, _, _, h, _, _, _, _, _ => by simp [good] at h
theorem vt_seq {v : D} : ∀ (xs : List P) {found left : List P} {o3 o4 o5 : Option D} {m : Nat}, goods xs = true → deps xs ≤ 54 → okvs left = true → dps left ≤ 60 → left.length + wts xs + 2 ≤ lim → found.length + (tokS xs).length ≤ lim →
    ∃ o3' o4' o5', VW Γ F (m + cns xs) [some v, some (.pl found), some (.pl (left ++ (seqs xs).reverse)), o3, o4, o5] = VW Γ F m [some v, some (.pl (found ++ strP (tokS xs))), some (.pl left), o3', o4', o5']
  | [], found, left, o3, o4, o5, m, _, _, _, _, _, _ => ⟨o3, o4, o5, by simp [cns, seqs, tokS, strP]⟩
  | [x], found, left, o3, o4, o5, m, hg, hd2, hx, hd, hl, hf => by
    simp only [goods, deps, wts, tokS, List.append_nil, Bool.and_true] at hg hd2 hl hf
    obtain ⟨c3, c4, c5, e⟩ := vt_one (v := v) x (found := found) (left := left) (o3 := o3) (o4 := o4) (o5 := o5) (m := m) hg (by omega) hx hd (by omega) hf
    exact ⟨c3, c4, c5, by simpa [cns, seqs, tokS] using e⟩
  | x :: y :: r, found, left, o3, o4, o5, m, hg, hd2, hx, hd, hl, hf => by
    have hg2 : good x = true ∧ goods (y :: r) = true := by simpa [goods] using hg
    have hd3 : dep x ≤ 54 ∧ deps (y :: r) ≤ 54 := by simp only [deps] at hd2 ⊢; omega
    have hl2 : left.length + (wt x + 2 + wts (y :: r)) + 2 ≤ lim := by simpa [wts] using hl
    have hf2 : found.length + ((toks x).length + (1 + (tokS (y :: r)).length)) ≤ lim := by
      rw [tokS_cons] at hf
      simp only [List.length_append, List.length_cons] at hf
      omega
    have hsl := seqs_len (y :: r)
    obtain ⟨b1, b2⟩ := seqs_bounds hg2.2 (by omega) hx hd
    have m1 : okv sp = true := by decide +kernel
    have m2 : dp sp = 1 := by decide +kernel
    have b3 : okvs (left ++ (seqs (y :: r)).reverse ++ [sp]) = true := by rw [okvs_app, b1]; simp [okvs, m1]
    have b4 : dps (left ++ (seqs (y :: r)).reverse ++ [sp]) ≤ 60 := by
      rw [dps_app]
      simp only [dps, m2]
      omega
    obtain ⟨c3, c4, c5, e1⟩ := vt_one (v := v) x (found := found) (left := left ++ (seqs (y :: r)).reverse ++ [sp]) (o3 := o3) (o4 := o4) (o5 := o5) (m := m + cns (y :: r) + 1) hg2.1 (by omega) b3 b4 (by simp; omega) (by omega)
    have e2 := vt_mark (Γ := Γ) (F := F) (v := v) (found := found ++ strP (toks x)) (left := left ++ (seqs (y :: r)).reverse) (s := " ") (o3 := c3) (o4 := c4) (o5 := c5) (m := m + cns (y :: r)) b1 (by decide +kernel) b2 (by simp [strP]; omega)
    obtain ⟨d3, d4, d5, e3⟩ := vt_seq (v := v) (y :: r) (found := found ++ strP (toks x) ++ [.str " "]) (left := left) (o3 := some (.p (.fl [.str " "]))) (o4 := c4) (o5 := c5) (m := m) hg2.2 hd3.2 hx hd (by omega) (by simp [strP]; omega)
    refine ⟨d3, d4, d5, ?_⟩
    have h1 := cns_cons x y r
    have h2 : left ++ (seqs (x :: y :: r)).reverse = left ++ (seqs (y :: r)).reverse ++ [sp] ++ [x] := by
      show left ++ (x :: sp :: seqs (y :: r)).reverse = _
      simp
    have h3 := tokS_cons x y r
    rw [h1, h2, h3, show m + (cn x + (1 + cns (y :: r))) = m + cns (y :: r) + 1 + cn x by omega, e1]
    refine e2.trans (e3.trans ?_)
    simp [strP]
end
/-- the text of a value -/
def textOf (v : P) : Str := Txt.join "" (toks v)
theorem strsOf_strP : ∀ (ss : List Str), strsOf (strP ss) = some ss
  | [] => rfl
  | s :: ss => by
    show (match strsOf (strP ss) with
      | some r => some (s :: r)
      | none => none) = _
    rw [strsOf_strP ss]
theorem m_value_text {v : P} (hv : good v = true) (hd : dep v ≤ 50) (hs : siz v ≤ lim) (hw : wt v + 2 ≤ lim) (ht : (toks v).length ≤ lim) (hj : ((toks v).map (·.length)).sum ≤ lim) (hF : cn v < F) :
    calls prog.fns F (k + 3) "value_text" [.p v] = .ok (.p (.str (textOf v))) [.p v] := by
  obtain ⟨m, rfl⟩ : ∃ m, F = m + 1 + cn v := ⟨F - cn v - 1, by omega⟩
  generalize hF' : m + 1 + cn v = F
  have iv := m_is_value (F := F) (k := k) hv hd hs
  obtain ⟨o3, o4, o5, e⟩ := vt_one (Γ := calls prog.fns F (k + 2)) (F := F) (v := .p v) v (found := []) (left := []) (o3 := none) (o4 := none) (o5 := none) (m := m + 1) hv (by omega) rfl (by decide) (by simpa using hw) (by simpa using ht)
  have hb : evB (calls prog.fns F (k + 2)) F b_value_text [] [some (.p v), none, none, none, none, none] = .ret (.p (.str (textOf v))) [some (.p v), some (.pl (strP (toks v))), some (.pl []), o3, o4, o5] := by
    show evB (calls prog.fns F (k + 2)) F [.ife (.not (.call "is_value" [(.pk 0)])) [.raise "NoText" [(.lit (.str "no value")), (.lit (.int 0))]] [],
      .asg2 (.nm 1 true) (.nm 2 true) (.lst []) (.lst [(.var 0)]), .whl vt_t vt_b, .ret (.join (.lit (.str "")) (.pk 1))] [] [some (.p v), none, none, none, none, none] = _
    rw [evB_nx ((ev_ife_f (ev_not (ev_call rfl iv rfl) rfl) rfl).trans rfl)]
    rw [evB_nx (e' := [some (.p v), some (.pl []), some (.pl [v]), none, none, none]) rfl]
    rw [evB_nx (e' := [some (.p v), some (.pl (strP (toks v))), some (.pl []), o3, o4, o5]) (by
      simp only [evS]
      show VW _ F F _ = _
      rw [hF'] at e
      refine e.trans ?_
      rw [vw_end]
      rfl)]
    refine evB_ret ?_
    have hj2 : evT (calls prog.fns F (k + 2)) (.join (.lit (.str "")) (.pk 1)) [some (.p v), some (.pl (strP (toks v))), some (.pl []), o3, o4, o5] = optP (joinP "" (strP (toks v))) [some (.p v), some (.pl (strP (toks v))), some (.pl []), o3, o4, o5] := rfl
    simp only [evS, hj2]
    unfold joinP
    rw [strsOf_strP]
    dsimp only
    rw [if_pos (by
      show ((toks v).map (·.length)).sum + (toks v).length * 0 ≤ lim
      omega)]
    rfl
  have lk : calls prog.fns F (k + 3) "value_text" [.p v] = runFn (calls prog.fns F (k + 2)) F d_value_text.fn [.p v] := rfl
  rw [lk]
  unfold runFn
  rw [if_pos ⟨rfl, by decide⟩]
  show (match evB (calls prog.fns F (k + 2)) F b_value_text [] [some (.p v), none, none, none, none, none] with
    | .ret d e => _
    | .nx e => _
    | .exc c fs e => _
    | _ => _) = _
  rw [hb]
  rfl
end Ev.K88
end

section
set_option Elab.async false
set_option linter.all false
set_option maxRecDepth 100000
/-! M88h: pieces_of. -/
namespace Ev.K88
open PySem L2 Ev
variable {F k : Nat} {Γ : Calls}
def mkS (l : List Nat) : Str := ⟨l.toArray⟩
theorem mkS_tl (l : List Nat) : (mkS l).cps.toList = l := rfl
theorem mkS_len (l : List Nat) : (mkS l).length = l.length := by simp [mkS, Str.length]
theorem mkS_of (s : Str) : s = mkS s.cps.toList := by cases s; rfl
def sepc (c : Nat) : Bool := decide (c ∈ [40, 41, 32])
def pcs : List Nat → List (List Nat)
  | [] => []
  | c :: cs => if sepc c then [c] :: pcs cs else match pcs cs with
    | (d :: ds) :: r => if sepc d then [c] :: (d :: ds) :: r else (c :: d :: ds) :: r
    | r => [c] :: r
theorem pcs_sep {c : Nat} {cs : List Nat} (h : sepc c = true) : pcs (c :: cs) = [c] :: pcs cs := by
  rw [pcs, if_pos h]
theorem pcs_run : ∀ {cs : List Nat} {c : Nat} (ws rest : List Nat), sepc c = false → (∀ w ∈ ws, sepc w = false) → (∀ d r, rest = d :: r → sepc d = true) → pcs (c :: (ws ++ rest)) = (c :: ws) :: pcs rest
  | cs, c, [], [], h, _, _ => by simp [pcs, h]
  | cs, c, [], d :: r, h, _, hr => by
    have hd := hr d r rfl
    rw [List.nil_append, pcs, if_neg (by simp [h]), pcs_sep hd]
    simp [hd]
  | cs, c, w :: ws, rest, h, hw, hr => by
    have ih := pcs_run (cs := cs) (c := w) ws rest (hw w (by simp)) (fun x hx => hw x (by simp [hx])) hr
    rw [pcs, if_neg (by simp [h]), List.cons_append, ih]
    simp [hw w (by simp)]
theorem pcs_flat : ∀ (l : List Nat), (pcs l).flatten = l
  | [] => rfl
  | c :: cs => by
    have ih := pcs_flat cs
    rw [pcs]
    split
    · simp [ih]
    · split
      · rename_i d ds r e
        rw [e] at ih
        split
        · simpa using ih
        · simpa using ih
      · simp [ih]
theorem pcs_len (l : List Nat) : (pcs l).length ≤ l.length := by
  induction l with
  | nil => simp [pcs]
  | cons c cs ih =>
    rw [pcs]
    split
    · simpa using ih
    · split
      · rename_i d ds r e
        rw [e] at ih
        split
        · simpa using ih
        · simp at ih ⊢; omega
      · simpa using ih
theorem atI_pre {pre post : List Nat} {c : Nat} : atI (pre ++ c :: post) (pre.length : Int) = some c := by
  unfold atI ixN
  rw [if_pos (by omega), if_pos (by simp; omega)]
  simp
theorem cut_mid {pre ws post : List Nat} : cutS (mkS (pre ++ (ws ++ post))) (some (pre.length : Int)) (some ((pre.length + ws.length : Nat) : Int)) = mkS ws := by
  unfold cutS
  rw [HT.sIx_nat, HT.sIx_nat, mkS_len, mkS_tl]
  simp only [List.length_append]
  rw [Nat.min_eq_left (by omega), Nat.min_eq_left (by omega)]
  simp [mkS]
theorem strIn_sep (c : Nat) : strIn ⟨#[c]⟩ "() " = sepc c := by
  unfold strIn
  exact StrLaws.found_one "() " c
theorem ev_pk {i : Nat} {e : Env} {d : D} (h : getE e i = some d) : evT Γ (.pk i) e = .ok (.p .non) e := by
  simp only [evT, h]
theorem ev_cmp {op : CmpOp} {a b : T} {e e1 e2 : Env} {x y x' y' : D} {r : Bool} (h1 : evT Γ a e = .ok x e1) (h2 : evT Γ b e1 = .ok y e2) (f1 : fin a x e2 = some x') (f2 : fin b y e2 = some y') (h : cmpop op x' y' = some r) : evT Γ (.cmp op a b) e = .ok (.p (.bl r)) e2 := by
  simp only [evT, h1, h2, Out.bind, f1, f2, h, optB]
theorem ev_idx {a b : T} {e e1 e2 : Env} {x y x' y' : D} {r : P} (h1 : evT Γ a e = .ok x e1) (h2 : evT Γ b e1 = .ok y e2) (f1 : fin a x e2 = some x') (f2 : fin b y e2 = some y') (h : idxop x' y' = some r) : evT Γ (.idx a b) e = .ok (.p r) e2 := by
  simp only [evT, h1, h2, Out.bind, f1, f2, h, optP]
theorem ev_bin {op : Operator} {a b : T} {e e1 e2 : Env} {x y x' y' : D} {r : D} (h1 : evT Γ a e = .ok x e1) (h2 : evT Γ b e1 = .ok y e2) (f1 : fin a x e2 = some x') (f2 : fin b y e2 = some y') (h : binop op x' y' = some r) : evT Γ (.bin op a b) e = .ok r e2 := by
  simp only [evT, h1, h2, Out.bind, f1, f2, h, opt]
def p_tst : T := .and (.cmp .Lt (.pk 3) (.blt "len" [(.pk 0)])) (.cmp .NotIn (.idx (.pk 0) (.pk 3)) (.lit (.str "() ")))
def p_bin : List S := [.aug 3 .Add (.lit (.int 1))]
def p_body : List S := [
    .asg (.nm 3 false) (.bin .Add (.pk 2) (.lit (.int 1))),
    .ife (.cmp .NotIn (.idx (.pk 0) (.pk 2)) (.lit (.str "() "))) [
      .whl p_tst p_bin] [],
    .app 1 (.slc (.pk 0) (some (.pk 2)) (some (.pk 3))),
    .asg (.nm 2 false) (.var 3)]
def p_env (l : List Nat) (found : List P) (at_ : Nat) (e3 : Option D) : Env := [some (.p (.str (mkS l))), some (.pl found), some (.p (.int at_)), e3]
theorem p_notin {l : List Nat} {found : List P} {at_ : Nat} {e3 : Option D} {i : Nat} {pre post : List Nat} {c : Nat} (hl : l = pre ++ c :: post) (hm : l.length ≤ lim) (hi : getE (p_env l found at_ e3) i = some (.p (.int (pre.length : Int)))) :
    evT Γ (.cmp .NotIn (.idx (.pk 0) (.pk i)) (.lit (.str "() "))) (p_env l found at_ e3) = .ok (.p (.bl (!sepc c))) (p_env l found at_ e3) := by
  have hx : evT Γ (.idx (.pk 0) (.pk i)) (p_env l found at_ e3) = .ok (.p (.str ⟨#[c]⟩)) (p_env l found at_ e3) := by
    refine ev_idx (ev_pk rfl) (ev_pk hi) rfl hi ?_
    show (if (mkS l).length ≤ lim then (atI (mkS l).cps.toList (pre.length : Int)).map fun c => P.str ⟨#[c]⟩ else none) = _
    rw [mkS_len, if_pos hm, mkS_tl, hl, atI_pre]
    rfl
  refine ev_cmp hx rfl rfl rfl ?_
  show some (!strIn ⟨#[c]⟩ "() ") = _
  rw [strIn_sep]
theorem p_lt {l : List Nat} {found : List P} {at_ : Nat} {e3 : Option D} {i n : Nat} (hm : l.length ≤ lim) (hi : getE (p_env l found at_ e3) i = some (.p (.int (n : Int)))) :
    evT Γ (.cmp .Lt (.pk i) (.blt "len" [(.pk 0)])) (p_env l found at_ e3) = .ok (.p (.bl (decide (n < l.length)))) (p_env l found at_ e3) := by
  have hx : evT Γ (.blt "len" [(.pk 0)]) (p_env l found at_ e3) = .ok (.p (.int l.length)) (p_env l found at_ e3) := by
    show opt (if (mkS l).length ≤ lim then some (D.p (.int ((mkS l).length : Nat))) else none) _ = _
    rw [mkS_len, if_pos hm]
    rfl
  refine ev_cmp (ev_pk hi) hx hi rfl ?_
  show some (decide ((n : Int) < (l.length : Int))) = _
  congr 2
  simp
/-- the inner while -/
theorem p_inner {l : List Nat} {found : List P} {at_ m : Nat} (hm : l.length ≤ lim) : ∀ {ws pre post : List Nat}, l = pre ++ (ws ++ post) → (∀ w ∈ ws, sepc w = false) → (∀ d r, post = d :: r → sepc d = true) →
    whileL (evC Γ (some p_tst)) (evB Γ F p_bin []) (m + 1 + ws.length) (p_env l found at_ (some (.p (.int (pre.length : Int))))) = .nx (p_env l found at_ (some (.p (.int ((pre.length + ws.length : Nat) : Int)))))
  | [], pre, post, hl, hw, hr => by
    rw [show m + 1 + ([] : List Nat).length = m + 1 from rfl, whileL]
    have h1 := p_lt (Γ := Γ) (l := l) (found := found) (at_ := at_) (e3 := some (.p (.int (pre.length : Int)))) (i := 3) (n := pre.length) hm rfl
    have : evT Γ p_tst (p_env l found at_ (some (.p (.int (pre.length : Int))))) = .ok (.p (.bl false)) (p_env l found at_ (some (.p (.int (pre.length : Int))))) := by
      cases post with
      | nil =>
        refine ev_and_f h1 ?_
        rw [hl]
        simp [fin]
      | cons d r =>
        unfold p_tst
        rw [ev_and_t h1 (by rw [hl]; simp [fin]), p_notin (pre := pre) (post := r) (c := d) (by simpa using hl) hm rfl, hr d r rfl]
        rfl
    have h2 : evC Γ (some p_tst) (p_env l found at_ (some (.p (.int (pre.length : Int))))) = .ok (.p (.bl false)) (p_env l found at_ (some (.p (.int (pre.length : Int))))) := by
      simp only [evC, this, Out.bind]
      rfl
    rw [h2]
    rfl
  | w :: ws, pre, post, hl, hw, hr => by
    rw [show m + 1 + (w :: ws).length = (m + 1 + ws.length) + 1 by simp; omega, whileL]
    have h1 := p_lt (Γ := Γ) (l := l) (found := found) (at_ := at_) (e3 := some (.p (.int (pre.length : Int)))) (i := 3) (n := pre.length) hm rfl
    have : evT Γ p_tst (p_env l found at_ (some (.p (.int (pre.length : Int))))) = .ok (.p (.bl true)) (p_env l found at_ (some (.p (.int (pre.length : Int))))) := by
      unfold p_tst
      rw [ev_and_t h1 (by rw [hl]; simp [fin]), p_notin (pre := pre) (post := ws ++ post) (c := w) (by simpa using hl) hm rfl, hw w (by simp)]
      rfl
    have h2 : evC Γ (some p_tst) (p_env l found at_ (some (.p (.int (pre.length : Int))))) = .ok (.p (.bl true)) (p_env l found at_ (some (.p (.int (pre.length : Int))))) := by
      simp only [evC, this, Out.bind]
      rfl
    rw [h2]
    dsimp only
    have h3 : evB Γ F p_bin [] (p_env l found at_ (some (.p (.int (pre.length : Int))))) = .nx (p_env l found at_ (some (.p (.int ((pre.length : Int) + 1))))) := rfl
    rw [h3]
    dsimp only
    have ih := p_inner (m := m) (found := found) (at_ := at_) hm (ws := ws) (pre := pre ++ [w]) (post := post) (by simpa using hl) (fun x hx => hw x (by simp [hx])) hr
    simp only [List.length_append, List.length_cons, List.length_nil] at ih
    rw [show ((pre.length : Int) + 1) = ((pre.length + (0 + 1) : Nat) : Int) by omega, ih, show pre.length + (0 + 1) + ws.length = pre.length + (w :: ws).length by simp; omega]
end Ev.K88
end

section
set_option Elab.async false
set_option linter.all false
set_option maxRecDepth 100000
/-! M88i: pieces_of, end. -/
namespace Ev.K88
open PySem L2 Ev
variable {F k : Nat} {Γ : Calls}
def p_out : T := .cmp .Lt (.pk 2) (.blt "len" [(.pk 0)])
def pieces (l : List Nat) : List P := (pcs l).map fun w => .str (mkS w)
theorem pieces_len (l : List Nat) : (pieces l).length = (pcs l).length := by simp [pieces]
theorem p_end {l pre ws post : List Nat} {found : List P} (hl : l = pre ++ (ws ++ post)) (hm : l.length ≤ lim) (hf : found.length < lim) :
    evB Γ F [.app 1 (.slc (.pk 0) (some (.pk 2)) (some (.pk 3))), .asg (.nm 2 false) (.var 3)] [] (p_env l found pre.length (some (.p (.int ((pre.length + ws.length : Nat) : Int))))) =
      .nx (p_env l (found ++ [.str (mkS ws)]) (pre.length + ws.length) (some (.p (.int ((pre.length + ws.length : Nat) : Int))))) := by
  have h1 : evT Γ (.slc (.pk 0) (some (.pk 2)) (some (.pk 3))) (p_env l found pre.length (some (.p (.int ((pre.length + ws.length : Nat) : Int))))) = .ok (.p (.str (mkS ws))) (p_env l found pre.length (some (.p (.int ((pre.length + ws.length : Nat) : Int))))) := by
    show opt (if (mkS l).length ≤ lim then some (D.p (.str (cutS (mkS l) (some (pre.length : Int)) (some ((pre.length + ws.length : Nat) : Int))))) else none) _ = _
    rw [mkS_len, if_pos hm, hl, cut_mid]
    rfl
  have h2 : evS Γ F (.app 1 (.slc (.pk 0) (some (.pk 2)) (some (.pk 3)))) [] (p_env l found pre.length (some (.p (.int ((pre.length + ws.length : Nat) : Int))))) = .nx (p_env l (found ++ [.str (mkS ws)]) pre.length (some (.p (.int ((pre.length + ws.length : Nat) : Int))))) := by
    simp only [evS, h1, Out.thn]
    show (if found.length < lim then SO.nx _ else .bad) = _
    rw [if_pos hf]
    rfl
  rw [evB_nx h2]
  rfl
theorem p_turn {l pre cur : List Nat} {c : Nat} {found : List P} {e3 : Option D} (hl : l = pre ++ c :: cur) (hm : l.length ≤ lim) (hf : found.length < lim) (hF : l.length < F) :
    ∃ ws post e3', cur = ws ++ post ∧ pcs (c :: cur) = (c :: ws) :: pcs post ∧ evB Γ F p_body [] (p_env l found pre.length e3) = .nx (p_env l (found ++ [.str (mkS (c :: ws))]) (pre.length + (ws.length + 1)) e3') := by
  have a1 : evS Γ F (.asg (.nm 3 false) (.bin .Add (.pk 2) (.lit (.int 1)))) [] (p_env l found pre.length e3) = .nx (p_env l found pre.length (some (.p (.int ((pre.length : Int) + 1))))) := rfl
  have hn := p_notin (Γ := Γ) (l := l) (found := found) (at_ := pre.length) (e3 := some (.p (.int ((pre.length : Int) + 1)))) (i := 2) (pre := pre) (post := cur) (c := c) hl hm rfl
  by_cases h : sepc c = true
  · refine ⟨[], cur, some (.p (.int ((pre.length + 1 : Nat) : Int))), rfl, pcs_sep h, ?_⟩
    unfold p_body
    rw [evB_nx a1]
    rw [h] at hn
    rw [evB_nx ((ev_ife_f hn rfl).trans rfl)]
    exact p_end (ws := [c]) (post := cur) (by simpa using hl) hm hf
  · have h' : sepc c = false := by simpa using h
    have hsplit : cur = cur.takeWhile (fun x => !sepc x) ++ cur.dropWhile (fun x => !sepc x) := (List.takeWhile_append_dropWhile ..).symm
    have hw : ∀ w ∈ cur.takeWhile (fun x => !sepc x), sepc w = false := fun w hw => by
      have := List.all_takeWhile (l := cur) (p := fun x => !sepc x)
      rw [List.all_eq_true] at this
      simpa using this w hw
    have hr : ∀ d r, cur.dropWhile (fun x => !sepc x) = d :: r → sepc d = true := fun d r e => by
      have := List.head?_dropWhile_not (fun x => !sepc x) cur
      rw [e] at this
      simpa using this
    generalize cur.takeWhile (fun x => !sepc x) = ws at hsplit hw
    generalize cur.dropWhile (fun x => !sepc x) = post at hsplit hr
    subst hsplit
    refine ⟨ws, post, some (.p (.int ((pre.length + (ws.length + 1) : Nat) : Int))), rfl, pcs_run (cs := []) ws post h' hw hr, ?_⟩
    unfold p_body
    rw [evB_nx a1]
    rw [h'] at hn
    have hlen : l.length = pre.length + (ws.length + post.length + 1) := by rw [hl]; simp
    obtain ⟨m, hm'⟩ : ∃ m, F = m + 1 + ws.length := ⟨F - ws.length - 1, by omega⟩
    have hi := p_inner (Γ := Γ) (F := F) (l := l) (found := found) (at_ := pre.length) (m := m) hm (ws := ws) (pre := pre ++ [c]) (post := post) (by simpa using hl) hw hr
    rw [← hm'] at hi
    simp only [List.length_append, List.length_cons, List.length_nil] at hi
    have a2 : evS Γ F (.ife (.cmp .NotIn (.idx (.pk 0) (.pk 2)) (.lit (.str "() "))) [.whl p_tst p_bin] []) [] (p_env l found pre.length (some (.p (.int ((pre.length : Int) + 1))))) = .nx (p_env l found pre.length (some (.p (.int ((pre.length + (ws.length + 1) : Nat) : Int))))) := by
      refine (ev_ife_t hn rfl).trans (evB_nx ?_)
      simp only [evS]
      rw [show ((pre.length : Int) + 1) = ((pre.length + (0 + 1) : Nat) : Int) by omega, hi, show pre.length + (0 + 1) + ws.length = pre.length + (ws.length + 1) by omega]
    rw [evB_nx a2]
    have := p_end (Γ := Γ) (F := F) (l := l) (pre := pre) (ws := c :: ws) (post := post) (found := found) (by simpa using hl) hm hf
    simpa using this
theorem p_loop {l : List Nat} (hm : l.length ≤ lim) (hF : l.length < F) {m : Nat} : ∀ (n : Nat) {pre cur : List Nat} {found : List P} {e3 : Option D}, cur.length ≤ n → l = pre ++ cur → found.length + (pcs cur).length ≤ lim →
    ∃ e3', whileL (evC Γ (some p_out)) (evB Γ F p_body []) (m + 1 + (pcs cur).length) (p_env l found pre.length e3) = .nx (p_env l (found ++ pieces cur) l.length e3')
  | n, pre, [], found, e3, _, hl, hf => by
    refine ⟨e3, ?_⟩
    rw [show m + 1 + (pcs []).length = m + 1 from rfl, whileL]
    have h1 := p_lt (Γ := Γ) (l := l) (found := found) (at_ := pre.length) (e3 := e3) (i := 2) (n := pre.length) hm rfl
    have hp : l = pre := by simpa using hl
    have h2 : evC Γ (some p_out) (p_env l found pre.length e3) = .ok (.p (.bl false)) (p_env l found pre.length e3) := by
      simp only [evC, p_out, h1, Out.bind]
      rw [← hp]
      simp [fin, onB]
    rw [h2, hp]
    simp [pieces, pcs]
  | 0, pre, c :: cur, found, e3, h, _, _ => by simp at h
  | n + 1, pre, c :: cur, found, e3, hn, hl, hf => by
    have hpos : 1 ≤ (pcs (c :: cur)).length := by
      rw [pcs]
      split
      · simp
      · split
        · split <;> simp
        · simp
    obtain ⟨ws, post, e3', h1, h2, h3⟩ := p_turn (Γ := Γ) (F := F) (e3 := e3) hl hm (found := found) (by omega) hF
    have h4 := p_lt (Γ := Γ) (l := l) (found := found) (at_ := pre.length) (e3 := e3) (i := 2) (n := pre.length) hm rfl
    have h5 : evC Γ (some p_out) (p_env l found pre.length e3) = .ok (.p (.bl true)) (p_env l found pre.length e3) := by
      simp only [evC, p_out, h4, Out.bind]
      have : pre.length < l.length := by rw [hl]; simp
      simp [fin, onB, this]
    rw [h2] at hf ⊢
    simp only [List.length_cons] at hf ⊢
    have hlen := hn
    rw [h1] at hlen
    simp only [List.length_cons, List.length_append] at hlen
    obtain ⟨e4, ih⟩ := p_loop hm hF (m := m) n (pre := pre ++ (c :: ws)) (cur := post) (found := found ++ [.str (mkS (c :: ws))]) (e3 := e3') (by omega) (by rw [hl, h1]; simp) (by simp; omega)
    refine ⟨e4, ?_⟩
    rw [show m + 1 + ((pcs post).length + 1) = (m + 1 + (pcs post).length) + 1 by omega, whileL, h5]
    dsimp only
    rw [h3]
    dsimp only
    simp only [List.length_append, List.length_cons] at ih
    rw [ih]
    congr 2
    unfold pieces
    rw [h2]
    simp
theorem m_pieces {l : List Nat} (hm : l.length ≤ lim) (hF : l.length + 1 < F) : calls prog.fns F (k + 1) "pieces_of" [.p (.str (mkS l))] = .ok (.pl (pieces l)) [.p (.str (mkS l))] := by
  have hp := pcs_len l
  obtain ⟨m, hm'⟩ : ∃ m, F = m + 1 + (pcs l).length := ⟨F - (pcs l).length - 1, by omega⟩
  obtain ⟨e3, h⟩ := p_loop (Γ := calls prog.fns F k) (F := F) hm (by omega) (m := m) l.length (pre := []) (cur := l) (found := []) (e3 := none) (Nat.le_refl _) rfl (by simp; omega)
  rw [← hm'] at h
  have hb : evB (calls prog.fns F k) F b_pieces_of [] [some (.p (.str (mkS l))), none, none, none] = .ret (.pl (pieces l)) [some (.p (.str (mkS l))), none, some (.p (.int l.length)), e3] := by
    show evB (calls prog.fns F k) F [.asg2 (.nm 1 true) (.nm 2 false) (.lst []) (.lit (.int 0)), .whl p_out p_body, .ret (.var 1)] [] [some (.p (.str (mkS l))), none, none, none] = _
    rw [evB_nx (e' := p_env l [] 0 none) rfl, evB_nx (e' := p_env l (pieces l) l.length e3) (by simp only [evS]; exact h)]
    rfl
  have lk : calls prog.fns F (k + 1) "pieces_of" [.p (.str (mkS l))] = runFn (calls prog.fns F k) F d_pieces_of.fn [.p (.str (mkS l))] := rfl
  rw [lk]
  unfold runFn
  rw [if_pos ⟨rfl, by decide⟩]
  show (match evB (calls prog.fns F k) F b_pieces_of [] [some (.p (.str (mkS l))), none, none, none] with
    | .ret d e => _
    | .nx e => _
    | .exc c fs e => _
    | _ => _) = _
  rw [hb]
  rfl
end Ev.K88
end

section
set_option Elab.async false
set_option linter.all false
set_option maxRecDepth 100000
/-! M88j: plain_of. -/
namespace Ev.K88
open PySem L2 Ev
variable {F k : Nat} {Γ : Calls}
def figs : Str := "0123456789"
def inFigs (x : P) : P := match x with
  | .str c => .bl (strIn c figs)
  | _ => .non
theorem all_figs (s : Str) : allB ((signs s).map inFigs) = some (s.cps.toList.all fun c => decide (c ∈ figs.cps.toList)) := by
  have : (signs s).map inFigs = s.cps.toList.map fun c => P.bl (decide (c ∈ figs.cps.toList)) := by
    unfold signs
    rw [List.map_map]
    refine List.map_congr_left fun c _ => ?_
    show P.bl (strIn ⟨#[c]⟩ figs) = _
    unfold strIn
    rw [show (!(Builtin.Str.occurrences figs ⟨#[c]⟩ 0 figs.length 1).isEmpty) = decide (c ∈ figs.cps.toList) from StrLaws.found_one figs c]
  rw [this, allB_map]
theorem figs_iff (c : Nat) : c ∈ figs.cps.toList ↔ 48 ≤ c ∧ c ≤ 57 := by
  have : figs.cps.toList = [48, 49, 50, 51, 52, 53, 54, 55, 56, 57] := by decide +kernel
  rw [this]
  simp
  omega
def bareL (l : List Nat) : List Nat := if l.take 1 = [45] then l.drop 1 else l
def valL (l : List Nat) : Int := if l.take 1 = [45] then -((NumText.digitsVal (l.drop 1) : Nat) : Int) else ((NumText.digitsVal l : Nat) : Int)
def figL (l : List Nat) : Bool := decide (1 ≤ (bareL l).length) && decide ((bareL l).length ≤ 12) && (bareL l).all fun c => decide (c ∈ figs.cps.toList)
def plainM (l : List Nat) : List P :=
  if l = [45] then [.non] else if isWord (.str (mkS l)) then [.str (mkS l)] else
  if figL l then (if toString (valL l) = mkS l then [.int (valL l)] else []) else []
theorem cut_head (l : List Nat) : cutS (mkS l) none (some 1) = mkS (l.take 1) := by
  unfold cutS
  have h1 : HT.sIx (mkS l).length 0 none = 0 := rfl
  have h2 : HT.sIx (mkS l).length (mkS l).length (some 1) = min 1 (mkS l).length := HT.sIx_nat _ _ 1
  rw [h1, h2, mkS_len, mkS_tl]
  unfold mkS
  congr 2
  simp
theorem cut_tail (l : List Nat) : cutS (mkS l) (some 1) none = mkS (l.drop 1) := by
  unfold cutS
  have h1 : HT.sIx (mkS l).length 0 (some 1) = min 1 (mkS l).length := HT.sIx_nat _ _ 1
  have h2 : HT.sIx (mkS l).length (mkS l).length none = (mkS l).length := rfl
  rw [h1, h2, mkS_len, mkS_tl]
  unfold mkS
  congr 2
  cases l with
  | nil => rfl
  | cons c l => simp
theorem mkS_inj {a b : List Nat} : mkS a = mkS b ↔ a = b := by
  constructor
  · intro h
    have := congrArg (fun s : Str => s.cps.toList) h
    exact this
  · intro h; rw [h]
theorem okS {l : List Nat} (h : ∀ c ∈ l, c < 1114112) : PyData.strOk (mkS l) = true := by
  unfold PyData.strOk mkS
  rw [← Array.all_toList]
  simp only [List.all_eq_true, decide_eq_true_eq]
  exact h
theorem dig_lt : ∀ (l : List Nat) (a : Nat), NumText.AllDigits l → l.foldl (fun acc c => acc * 10 + (c - 48)) a < (a + 1) * 10 ^ l.length
  | [], a, _ => by simp
  | c :: r, a, h => by
    have ih := dig_lt r (a * 10 + (c - 48)) h.tail
    have hc := h.head
    rw [List.foldl_cons]
    refine Nat.lt_of_lt_of_le ih ?_
    rw [List.length_cons, Nat.pow_succ, Nat.mul_comm (10 ^ r.length) 10, ← Nat.mul_assoc]
    exact Nat.mul_le_mul_right _ (by omega)
theorem val_lt {l : List Nat} (h : NumText.AllDigits l) (hl : l.length ≤ 12) : NumText.digitsVal l < 1000000000000 := by
  have := dig_lt l 0 h
  refine Nat.lt_of_lt_of_le this ?_
  rw [Nat.zero_add, Nat.one_mul]
  exact Nat.pow_le_pow_right (by decide) hl
theorem figL_all {l : List Nat} (h : figL l = true) : NumText.AllDigits (bareL l) ∧ bareL l ≠ [] ∧ (bareL l).length ≤ 12 := by
  unfold figL at h
  simp only [Bool.and_eq_true, decide_eq_true_eq, List.all_eq_true] at h
  refine ⟨fun c hc => (figs_iff c).mp (h.2 c hc), fun e => ?_, h.1.2⟩
  rw [e] at h
  simp at h
theorem figL_val {l : List Nat} (h : figL l = true) : intText? (mkS l) = some (valL l) ∧ absI (valL l) < 1000000000000 := by
  obtain ⟨h1, h2, h3⟩ := figL_all h
  unfold bareL at h1 h2 h3
  unfold valL
  by_cases e : l.take 1 = [45]
  · rw [if_pos e] at h1 h2 h3 ⊢
    have hl : l = 45 :: l.drop 1 := by
      cases l with
      | nil => simp at e
      | cons c r => simp at e; simp [e]
    refine ⟨intText_neg (x := mkS l) (cs := l.drop 1) hl h1 h2 ?_, ?_⟩
    · rw [mkS_len, hl, List.length_cons]; omega
    · have := val_lt h1 h3
      unfold absI
      split <;> omega
  · rw [if_neg e] at h1 h2 h3 ⊢
    refine ⟨intText_digits (x := mkS l) h1 h2 ?_, ?_⟩
    · rw [mkS_len]; omega
    · have := val_lt h1 h3
      unfold absI
      split <;> omega
theorem figL_len {l : List Nat} (h : figL l = true) : l.length ≤ 13 := by
  obtain ⟨h1, h2, h3⟩ := figL_all h
  unfold bareL at h3
  split at h3
  · rw [List.length_drop] at h3; omega
  · omega
theorem strOk_of (s : String) : PyData.strOk (Str.ofString s) = true := by
  rw [show Str.ofString s = Str.ofStringByList s from congrFun Str.ofString_eq_byList s]
  unfold PyData.strOk Str.ofStringByList
  rw [← Array.all_toList]
  simp only [List.all_eq_true, List.mem_map, decide_eq_true_eq]
  rintro c ⟨d, _, rfl⟩
  have := d.valid
  unfold UInt32.isValidChar Nat.isValidChar at this
  unfold Char.toNat
  omega
def q_env (l : List Nat) (b : Option D) : Env := [some (.p (.str (mkS l))), b, none]
theorem ev_ife_tt {t a b : T} {e e' : Env} {d : D} (h : evT Γ t e = .ok d e') (hf : fin t d e' = some (.p (.bl true))) : evT Γ (.ife t a b) e = evT Γ a e' := by
  simp only [evT, h, Out.bind, hf, onB, if_true]
theorem ev_ife_ff {t a b : T} {e e' : Env} {d : D} (h : evT Γ t e = .ok d e') (hf : fin t d e' = some (.p (.bl false))) : evT Γ (.ife t a b) e = evT Γ b e' := by
  simp only [evT, h, Out.bind, hf, onB, Bool.false_eq_true, if_false]
theorem ev_or_t {a b : T} {e e' : Env} {d : D} (h : evT Γ a e = .ok d e') (hf : fin a d e' = some (.p (.bl true))) : evT Γ (.or a b) e = .ok (.p (.bl true)) e' := by
  simp only [evT, h, Out.bind, hf, onB, if_true]
theorem ev_or_f {a b : T} {e e' : Env} {d : D} (h : evT Γ a e = .ok d e') (hf : fin a d e' = some (.p (.bl false))) : evT Γ (.or a b) e = evT Γ b e' := by
  simp only [evT, h, Out.bind, hf, onB, Bool.false_eq_true, if_false]
theorem m_plain {l : List Nat} (hc : ∀ c ∈ l, c < 1114112) (hm : l.length ≤ lim) : calls prog.fns F (k + 2) "plain_of" [.p (.str (mkS l))] = .ok (.pl (plainM l)) [.p (.str (mkS l))] := by
  have so : okv (.str (mkS l)) = true := okS hc
  have eqs : ∀ (a b : List Nat), (∀ c ∈ a, c < 1114112) → (∀ c ∈ b, c < 1114112) → eqD (.p (.str (mkS a))) (.p (.str (mkS b))) = some (decide (a = b)) := fun a b ha hb => by
    rw [eqD_p (x := .str (mkS a)) (y := .str (mkS b)) (okS ha) (okS hb) (by simp [dp]) (by simp [dp])]
    congr 1
    rw [decide_eq_decide]
    constructor
    · intro h; injection h with h; exact mkS_inj.mp h
    · intro h; rw [h]
  have dash : ∀ c ∈ [45], c < 1114112 := by simp
  have lk : calls prog.fns F (k + 2) "plain_of" [.p (.str (mkS l))] = runFn (calls prog.fns F (k + 1)) F d_plain_of.fn [.p (.str (mkS l))] := rfl
  rw [lk]
  generalize hΓ : calls prog.fns F (k + 1) = Γ
  have hw : Γ "is_word" [.p (.str (mkS l))] = .ok (.p (.bl (isWord (.str (mkS l))))) [.p (.str (mkS l))] := by
    rw [← hΓ]
    exact m_word_str (mkS l) (okS hc) (by rw [mkS_len]; exact hm)
  suffices hb : ∃ e, evB Γ F b_plain_of [] (q_env l none) = .ret (.pl (plainM l)) (some (.p (.str (mkS l))) :: e) by
    obtain ⟨e, hb⟩ := hb
    unfold runFn
    rw [if_pos ⟨rfl, by decide⟩]
    show (match evB Γ F b_plain_of [] (q_env l none) with
      | .ret d e => _
      | .nx e => _
      | .exc c fs e => _
      | _ => _) = _
    rw [hb]
    rfl
  unfold b_plain_of plainM
  have t1 : evT Γ (.cmp .Eq (.pk 0) (.lit (.str "-"))) (q_env l none) = .ok (.p (.bl (decide (l = [45])))) (q_env l none) :=
    ev_cmp (ev_pk rfl) rfl rfl rfl (eqs l [45] hc dash)
  by_cases e1 : l = [45]
  · rw [if_pos e1]
    subst e1
    exact ⟨_, evB_ret ((ev_ife_t t1 rfl).trans rfl)⟩
  rw [if_neg e1]
  rw [evB_nx ((ev_ife_f t1 (by simp [e1]; rfl)).trans rfl)]
  have t2 : evT Γ (.call "is_word" [(.pk 0)]) (q_env l none) = .ok (.p (.bl (isWord (.str (mkS l))))) (q_env l none) := ev_call rfl hw rfl
  by_cases e2 : isWord (.str (mkS l)) = true
  · rw [if_pos e2]
    rw [e2] at t2
    exact ⟨_, evB_ret ((ev_ife_t t2 rfl).trans rfl)⟩
  rw [if_neg e2]
  have e2' : isWord (.str (mkS l)) = false := by simpa using e2
  rw [e2'] at t2
  rw [evB_nx ((ev_ife_f t2 rfl).trans rfl)]
  have sl1 : evT Γ (.slc (.pk 0) none (some (.lit (.int 1)))) (q_env l none) = .ok (.p (.str (mkS (l.take 1)))) (q_env l none) := by
    show opt (if (mkS l).length ≤ lim then some (D.p (.str (cutS (mkS l) none (some 1)))) else none) _ = _
    rw [mkS_len, if_pos hm, cut_head]
    rfl
  have sl2 : evT Γ (.slc (.pk 0) (some (.lit (.int 1))) none) (q_env l none) = .ok (.p (.str (mkS (l.drop 1)))) (q_env l none) := by
    show opt (if (mkS l).length ≤ lim then some (D.p (.str (cutS (mkS l) (some 1) none))) else none) _ = _
    rw [mkS_len, if_pos hm, cut_tail]
    rfl
  have t3 : evT Γ (.cmp .Eq (.slc (.pk 0) none (some (.lit (.int 1)))) (.lit (.str "-"))) (q_env l none) = .ok (.p (.bl (decide (l.take 1 = [45])))) (q_env l none) :=
    ev_cmp sl1 rfl rfl rfl (eqs (l.take 1) [45] (fun c h => hc c (List.mem_of_mem_take h)) dash)
  have t4 : evT Γ (.ife (.cmp .Eq (.slc (.pk 0) none (some (.lit (.int 1)))) (.lit (.str "-"))) (.slc (.pk 0) (some (.lit (.int 1))) none) (.var 0)) (q_env l none) = .ok (.p (.str (mkS (bareL l)))) (q_env l none) := by
    unfold bareL
    by_cases e : l.take 1 = [45]
    · rw [ev_ife_tt t3 (by simp [e]; rfl), sl2, if_pos e]
    · rw [ev_ife_ff t3 (by simp [e]; rfl), if_neg e]
      rfl
  rw [evB_nx (e' := q_env l (some (.p (.str (mkS (bareL l)))))) (by
    simp only [evS, t4, Out.thn]
    rfl)]
  have bl : (bareL l).length ≤ lim := by
    unfold bareL
    split
    · rw [List.length_drop]; omega
    · exact hm
  have t5 : evT Γ (.blt "len" [(.pk 1)]) (q_env l (some (.p (.str (mkS (bareL l)))))) = .ok (.p (.int (bareL l).length)) (q_env l (some (.p (.str (mkS (bareL l)))))) := by
    show opt (if (mkS (bareL l)).length ≤ lim then some (D.p (.int ((mkS (bareL l)).length : Nat))) else none) _ = _
    rw [mkS_len, if_pos bl]
    rfl
  have t6 : evT Γ (.chn .LtE .LtE (.lit (.int 1)) (.blt "len" [(.pk 1)]) (.lit (.int 12))) (q_env l (some (.p (.str (mkS (bareL l)))))) = .ok (.p (.bl (decide (1 ≤ (bareL l).length) && decide ((bareL l).length ≤ 12)))) (q_env l (some (.p (.str (mkS (bareL l)))))) := by
    rw [evT]
    have l1 : evT Γ (.lit (.int 1)) (q_env l (some (.p (.str (mkS (bareL l)))))) = .ok (.p (.int 1)) (q_env l (some (.p (.str (mkS (bareL l)))))) := rfl
    have l2 : evT Γ (.lit (.int 12)) (q_env l (some (.p (.str (mkS (bareL l)))))) = .ok (.p (.int 12)) (q_env l (some (.p (.str (mkS (bareL l)))))) := rfl
    simp only [l1, l2, t5, Out.bind, fin, cmpop]
    by_cases e : 1 ≤ (bareL l).length
    · have : decide ((1 : Int) ≤ ((bareL l).length : Int)) = true := by simp; omega
      rw [this]
      simp [e, optB]
      omega
    · have : decide ((1 : Int) ≤ ((bareL l).length : Int)) = false := by simp; omega
      rw [this]
      simp [e]
  have t7 : evT Γ (.comp (.cmp .In (.pk 2) (.lit (.str "0123456789"))) (.nm 2 false) (.pk 1) none [2]) (q_env l (some (.p (.str (mkS (bareL l)))))) = .ok (.pl ((signs (mkS (bareL l))).map inFigs)) (q_env l (some (.p (.str (mkS (bareL l)))))) := by
    rw [evT_comp]
    have e1 : evI Γ (.pk 1) (q_env l (some (.p (.str (mkS (bareL l)))))) = .ok (signs (mkS (bareL l))) (q_env l (some (.p (.str (mkS (bareL l)))))) := by
      rw [evI_val rfl, show evT Γ (.pk 1) (q_env l (some (.p (.str (mkS (bareL l)))))) = .ok (.p .non) (q_env l (some (.p (.str (mkS (bareL l)))))) from by rw [evT]; rfl]
      unfold OutI.ofOut
      show (match iterOf (.p (.str (mkS (bareL l)))) with
        | some xs => OutI.ok xs _
        | none => .bad) = _
      unfold iterOf
      simp only [mkS_len, bl, if_true]
      rfl
    rw [e1]
    show (if ownOk [2] (q_env l (some (.p (.str (mkS (bareL l)))))) then lcEnd (.pk 1) [2] (q_env l (some (.p (.str (mkS (bareL l)))))) (compLoop _ _ (asgT (notOwn [2] (q_env l (some (.p (.str (mkS (bareL l))))))) (.nm 2 false)) [2] (signs (mkS (bareL l))) (q_env l (some (.p (.str (mkS (bareL l)))))) []) else .bad) = _
    rw [if_pos (show ownOk [2] (q_env l (some (.p (.str (mkS (bareL l)))))) = true from rfl), compLoop_map (h := inFigs) (by simp [notOwn]) rfl]
    · rfl
    · intro x hx
      unfold signs at hx
      obtain ⟨c, _, rfl⟩ := List.mem_map.mp hx
      rfl
    · simp [signs, mkS_tl]
      exact bl
  have t8 : evT Γ (.blt "all" [(.comp (.cmp .In (.pk 2) (.lit (.str "0123456789"))) (.nm 2 false) (.pk 1) none [2])]) (q_env l (some (.p (.str (mkS (bareL l)))))) = .ok (.p (.bl ((bareL l).all fun c => decide (c ∈ figs.cps.toList)))) (q_env l (some (.p (.str (mkS (bareL l)))))) := by
    have e0 : evTs Γ [.comp (.cmp .In (.pk 2) (.lit (.str "0123456789"))) (.nm 2 false) (.pk 1) none [2]] (q_env l (some (.p (.str (mkS (bareL l)))))) = .ok [.pl ((signs (mkS (bareL l))).map inFigs)] (q_env l (some (.p (.str (mkS (bareL l)))))) := by
      simp only [evTs]
      rw [t7]
    simp only [evT]
    rw [e0]
    show opt ((allB ((signs (mkS (bareL l))).map inFigs)).map fun b => .p (.bl b)) _ = _
    rw [all_figs]
    rfl
  have t9 : evT Γ (.or (.not (.chn .LtE .LtE (.lit (.int 1)) (.blt "len" [(.pk 1)]) (.lit (.int 12)))) (.not (.blt "all" [(.comp (.cmp .In (.pk 2) (.lit (.str "0123456789"))) (.nm 2 false) (.pk 1) none [2])]))) (q_env l (some (.p (.str (mkS (bareL l)))))) = .ok (.p (.bl (!figL l))) (q_env l (some (.p (.str (mkS (bareL l)))))) := by
    have n6 := ev_not t6 rfl
    unfold figL
    cases e : (decide (1 ≤ (bareL l).length) && decide ((bareL l).length ≤ 12)) with
    | true =>
      rw [e] at n6
      rw [ev_or_f n6 rfl]
      have n8 := ev_not t8 rfl
      rw [n8]
      simp
    | false =>
      rw [e] at n6
      rw [ev_or_t n6 rfl]
      simp
  by_cases e3 : figL l = true
  · rw [if_pos e3]
    rw [e3] at t9
    rw [evB_nx ((ev_ife_f t9 rfl).trans rfl)]
    obtain ⟨v1, v2⟩ := figL_val e3
    have b1 : bltop "int" [D.p (.str (mkS l))] = some (.p (.int (valL l))) := by
      show ((if (mkS l).length ≤ 640 then intText? (mkS l) else none).map fun i => D.p (.int i)) = _
      have := figL_len e3
      rw [mkS_len, if_pos (by omega), v1]
      rfl
    have b2 : bltop "str" [D.p (.int (valL l))] = some (.p (.str (toString (valL l)))) := by
      show (if (valL l).natAbs.log2 < 1920 then some (D.p (.str (toString (valL l)))) else none) = _
      rw [if_pos (log_small v2)]
    have s1 : evT Γ (.blt "int" [(.pk 0)]) (q_env l (some (.p (.str (mkS (bareL l)))))) = .ok (.p (.int (valL l))) (q_env l (some (.p (.str (mkS (bareL l)))))) := by
      show opt (bltop "int" [D.p (.str (mkS l))]) _ = _
      rw [b1]
      rfl
    have s2 : evT Γ (.blt "str" [(.blt "int" [(.pk 0)])]) (q_env l (some (.p (.str (mkS (bareL l)))))) = .ok (.p (.str (toString (valL l)))) (q_env l (some (.p (.str (mkS (bareL l)))))) := by
      have e0 : evTs Γ [.blt "int" [(.pk 0)]] (q_env l (some (.p (.str (mkS (bareL l)))))) = .ok [.p (.int (valL l))] (q_env l (some (.p (.str (mkS (bareL l)))))) := by
        simp only [evTs]
        rw [s1]
      simp only [evT]
      rw [e0]
      show opt (bltop "str" [D.p (.int (valL l))]) _ = _
      rw [b2]
      rfl
    have okT : okv (.str (toString (valL l))) = true := strOk_of _
    have s3 : evT Γ (.cmp .Eq (.blt "str" [(.blt "int" [(.pk 0)])]) (.pk 0)) (q_env l (some (.p (.str (mkS (bareL l)))))) = .ok (.p (.bl (decide (toString (valL l) = mkS l)))) (q_env l (some (.p (.str (mkS (bareL l)))))) := by
      refine ev_cmp s2 (ev_pk rfl) rfl rfl ?_
      show eqD (.p (.str (toString (valL l)))) (.p (.str (mkS l))) = _
      rw [eqD_p okT so (by simp [dp]) (by simp [dp])]
      congr 1
      rw [decide_eq_decide]
      constructor
      · intro h; injection h
      · intro h; rw [h]
    refine ⟨[some (.p (.str (mkS (bareL l)))), none], evB_ret ?_⟩
    by_cases e4 : toString (valL l) = mkS l
    · rw [if_pos e4]
      simp only [evS]
      rw [ev_ife_tt s3 (by rw [decide_eq_true e4]; rfl)]
      have e0 : evTs Γ [.blt "int" [(.pk 0)]] (q_env l (some (.p (.str (mkS (bareL l)))))) = .ok [.p (.int (valL l))] (q_env l (some (.p (.str (mkS (bareL l)))))) := by
        simp only [evTs]
        rw [s1]
      simp only [evT]
      rw [e0]
      rfl
    · rw [if_neg e4]
      simp only [evS]
      rw [ev_ife_ff s3 (by rw [decide_eq_false e4]; rfl)]
      rfl
  · rw [if_neg e3]
    have e3' : figL l = false := by simpa using e3
    rw [e3'] at t9
    exact ⟨_, evB_ret ((ev_ife_t t9 rfl).trans rfl)⟩
end Ev.K88
end

section
set_option Elab.async false
set_option linter.all false
set_option maxRecDepth 100000
/-! M88k: value_of: its mirror, and a step. -/
namespace Ev.K88
open PySem L2 Ev
variable {F k : Nat} {Γ : Calls}
/-! ### the mirror -/
abbrev VS := List (List P) × List P
def vplace : List (List P) → List P → P → Option VS
  | [], dn, x => if dn = [] then some ([], [x]) else none
  | t :: st, dn, x => some ((t ++ [x]) :: st, dn)
def vstep (s : VS) (w : List Nat) : Option VS :=
  if w = [40] then some ([] :: s.1, s.2) else if w = [32] then some s else if w = [41] then (match s.1 with
    | [] => none
    | t :: st => vplace st s.2 (.tup t))
  else match plainM w with
    | [x] => vplace s.1 s.2 x
    | _ => none
def vrun : VS → List (List Nat) → Option VS
  | s, [] => some s
  | s, w :: ws => match vstep s w with
    | some s' => vrun s' ws
    | none => none
def vof (ws : List (List Nat)) : List P := match vrun ([], []) ws with
  | some ([], dn) => dn
  | _ => []
/-! ### bounds -/
mutual
def W : P → Nat
  | .tup xs => Ws xs + 3
  | x => (leaf x).length + 1
def Ws : List P → Nat
  | [] => 0
  | x :: xs => W x + Ws xs
end
theorem Ws_app : ∀ {xs ys : List P}, Ws (xs ++ ys) = Ws xs + Ws ys
  | [], ys => by simp [Ws]
  | x :: xs, ys => by simp [Ws, Ws_app, Nat.add_assoc]
theorem W_pos (x : P) : 1 ≤ W x := by cases x <;> simp [W]
theorem Ws_len : ∀ (xs : List P), xs.length ≤ Ws xs
  | [] => by simp
  | x :: xs => by
    have := Ws_len xs
    have := W_pos x
    simp [Ws]
    omega
def sW : List (List P) → Nat
  | [] => 0
  | t :: st => Ws t + 3 + sW st
def sD : List (List P) → Nat
  | [] => 0
  | t :: st => max (deps t + st.length + 1) (sD st)
theorem sD_len : ∀ (st : List (List P)), st.length ≤ sD st
  | [] => by simp
  | t :: st => by
    simp only [sD, List.length_cons]
    omega
def sG : List (List P) → Bool
  | [] => true
  | t :: st => goods t && sG st
structure VI (s : VS) (n c : Nat) : Prop where
  g : sG s.1 = true
  gd : goods s.2 = true
  w : sW s.1 + Ws s.2 ≤ n
  d : sD s.1 ≤ c
  dd : deps s.2 ≤ c
theorem VI.place {st : List (List P)} {dn : List P} {x : P} {n c : Nat} {s' : VS} (g : sG st = true) (gd : goods dn = true) (gx : good x = true) (w : sW st + Ws dn + W x ≤ n) (d : sD st ≤ c) (dd : deps dn ≤ c) (dx : dep x + st.length ≤ c) (h : vplace st dn x = some s') : VI s' n c := by
  cases st with
  | nil =>
    simp only [vplace] at h
    split at h
    · cases h
      simp only [sW] at w
      exact ⟨rfl, by simp [goods, gx], by simp [sW, Ws]; omega, by simp [sD], by simp [deps]; simpa using dx⟩
    · cases h
  | cons t st =>
    simp only [vplace] at h
    cases h
    simp only [sG, Bool.and_eq_true] at g
    simp only [sW] at w
    simp only [sD, List.length_cons] at d dx
    exact ⟨by simp [sG, goods_app, goods, g.1, g.2, gx], gd, by simp [sW, Ws_app, Ws]; omega, by simp only [sD, deps_app, deps]; omega, dd⟩
theorem plain_one {l : List Nat} (hc : ∀ c ∈ l, c < 1114112) (hm : l.length ≤ 10000) : plainM l = [] ∨ ∃ x, plainM l = [x] ∧ good x = true ∧ dep x = 0 ∧ W x = l.length + 1 := by
  unfold plainM
  split
  · rename_i h
    subst h
    exact .inr ⟨_, rfl, rfl, by simp [dep], by simp [W, leaf]; rfl⟩
  · split
    · rename_i h
      exact .inr ⟨_, rfl, by
        simp only [good, Bool.and_eq_true, decide_eq_true_eq]
        exact ⟨⟨h, okS hc⟩, by rw [mkS_len]; exact hm⟩, by simp [dep], by simp [W, leaf, mkS_len]⟩
    · split
      · rename_i h
        split
        · rename_i h2
          exact .inr ⟨_, rfl, by simp [good]; exact (figL_val h).2, by simp [dep], by simp only [W, leaf]; rw [h2, mkS_len]⟩
        · exact .inl rfl
      · exact .inl rfl
theorem VI.step {s s' : VS} {w : List Nat} {n c : Nat} (i : VI s n c) (hc : ∀ c ∈ w, c < 1114112) (hm : w.length ≤ 10000) (hw : 1 ≤ w.length) (h : vstep s w = some s') : VI s' (n + w.length + 2) (c + if w = [40] then 1 else 0) := by
  obtain ⟨g, gd, iw, d, dd⟩ := i
  obtain ⟨st, dn⟩ := s
  dsimp only at g gd iw d dd
  unfold vstep at h
  dsimp only at h
  split at h
  · rename_i e
    cases h
    rw [if_pos e]
    have := sD_len st
    exact ⟨by simp [sG, goods, g], gd, by simp [sW, Ws]; omega, by simp only [sD, deps]; omega, by dsimp only; omega⟩
  · rename_i e
    rw [if_neg e]
    split at h
    · cases h
      exact ⟨g, gd, by dsimp only; omega, d, dd⟩
    · split at h
      · cases st with
        | nil => cases h
        | cons t st =>
          simp only [sG, Bool.and_eq_true] at g
          simp only [sW] at iw
          simp only [sD] at d
          exact VI.place (n := n + w.length + 2) g.2 gd (by simpa [good] using g.1) (by simp [W]; omega) (by omega) dd (by simp only [dep]; omega) h
      · rcases plain_one hc hm with e0 | ⟨x, e0, e1, e2, e3⟩
        · rw [e0] at h
          cases h
        · rw [e0] at h
          have := sD_len st
          exact VI.place (n := n + w.length + 2) g gd e1 (by omega) (by omega) dd (by omega) h
end Ev.K88
end

section
set_option Elab.async false
set_option linter.all false
set_option maxRecDepth 100000
/-! M88l: value_of: a turn. -/
namespace Ev.K88
open PySem L2 Ev
variable {F k : Nat} {Γ : Calls}
def v_c1 : S := .ife (.cmp .Eq (.pk 1) (.lit (.str "("))) [
      .appe 2,
      .cnt] []
def v_c2 : S := .ife (.cmp .Eq (.pk 1) (.lit (.str " "))) [
      .cnt] []
def v_c3 : S := .ife (.cmp .Eq (.pk 1) (.lit (.str ")"))) [
      .ife (.cmp .Eq (.pk 2) (.lst [])) [
        .ret (.lst [])] [],
      .asg (.nm 4 false) (.lst [(.popt 2)])] [
      .asg (.nm 4 false) (.call "plain_of" [(.pk 1)])]
def v_c4 : S := .ife (.or (.cmp .Eq (.pk 4) (.lst [])) (.and (.cmp .Eq (.pk 2) (.lst [])) (.cmp .NotEq (.pk 3) (.lst [])))) [
      .ret (.lst [])] []
def v_c5 : S := .ife (.cmp .Eq (.pk 2) (.lst [])) [
      .asg (.nm 3 false) (.var 4)] [
      .appl 2 (.idx (.pk 4) (.lit (.int 0)))]
def v_body : List S := [v_c1, v_c2, v_c3, v_c4, v_c5]
abbrev v_env (pc : P) (op : List (List P)) (dn : List P) (o4 : Option D) : Env := [none, some (.p pc), some (.pll op), some (.p (.fl dn)), o4]
theorem sG_okvs : ∀ {st : List (List P)}, sG st = true → ∀ t ∈ st, okvs t = true ∧ dps t = deps t
  | [], _, t, h => by simp at h
  | a :: st, g, t, h => by
    simp only [sG, Bool.and_eq_true] at g
    rcases List.mem_cons.mp h with rfl | h
    · exact goods_okvs g.1
    · exact sG_okvs g.2 t h
theorem sD_mem : ∀ {st : List (List P)} {c : Nat}, sD st ≤ c → ∀ t ∈ st, deps t + 1 ≤ c
  | [], _, _, t, h => by simp at h
  | a :: st, c, g, t, h => by
    simp only [sD] at g
    rcases List.mem_cons.mp h with rfl | h
    · omega
    · exact sD_mem (by omega) t h
theorem datass_ok : ∀ {st : List (List P)} {m : Nat}, (∀ t ∈ st, okvs t = true ∧ dps t ≤ m) → ∃ ds, P.datass st = some ds ∧ PyData.canLayAll0 ds = true ∧ PyData.depthAll ds ≤ m + 1 ∧ (ds = [] ↔ st = [])
  | [], m, _ => ⟨[], rfl, by simp [PyData.canLayAll0], by simp [PyData.depthAll], by simp⟩
  | t :: st, m, h => by
    obtain ⟨ds, h1, h2, h3, h4⟩ := datass_ok (st := st) (m := m) fun t ht => h t (by simp [ht])
    obtain ⟨g1, g2⟩ := h t (by simp)
    obtain ⟨e1, e2, e3⟩ := okvs_data g1
    exact ⟨.list (toDs t) :: ds, by simp [P.datass, e1, h1], by simp [PyData.canLayAll0, PyData.canLay0, e2, h2], by simp only [PyData.depthAll, PyData.depth, e3]; omega, by simp⟩
theorem eqD_pll {op : List (List P)} (h : ∀ t ∈ op, okvs t = true ∧ dps t ≤ 60) : eqD (.pll op) (.pl []) = some (decide (op = [])) := by
  obtain ⟨ds, h1, h2, h3, h4⟩ := datass_ok h
  unfold eqD
  have d1 : (D.pll op).data = some (.list ds) := by
    show (P.datass op).map PyData.list = _
    rw [h1]
    rfl
  have d2 : (D.pl []).data = some (.list []) := rfl
  rw [d1, d2]
  have s1 : SeqAt.shaped (.list ds) = true := by
    simp only [SeqAt.shaped, PyData.canLay0, h2, PyData.depth, Bool.true_and, decide_eq_true_eq]
    exact decide_eq_true (show PyData.depthAll ds + 1 ≤ 64 by omega)
  have s2 : SeqAt.shaped (.list []) = true := by decide +kernel
  dsimp only
  rw [s1, s2]
  simp only [Bool.and_self, if_true]
  congr 1
  cases ds with
  | nil => simp [PyData.eqv, PyData.eqvAll, h4.mp rfl]
  | cons d ds =>
    have : op ≠ [] := fun e => by
      have := h4.mpr e
      cases this
    simp [PyData.eqv, PyData.eqvAll, this]
theorem eqD_fl {xs ys : List P} (hx : okvs xs = true) (hy : okvs ys = true) (dx : dps xs < 64) (dy : dps ys < 64) : eqD (.p (.fl xs)) (.pl ys) = some (decide (xs = ys)) := by
  have : eqD (.p (.fl xs)) (.pl ys) = eqD (.pl xs) (.pl ys) := by
    unfold eqD
    rfl
  rw [this, eqD_pl hx hy dx dy]
theorem v_opNil {pc : P} {op : List (List P)} {dn : List P} {o4 : Option D} (h : ∀ t ∈ op, okvs t = true ∧ dps t ≤ 60) : evT Γ (.cmp .Eq (.pk 2) (.lst [])) (v_env pc op dn o4) = .ok (.p (.bl (decide (op = [])))) (v_env pc op dn o4) :=
  ev_cmp (ev_pk rfl) rfl rfl rfl (eqD_pll h)
theorem v_fl {pc : P} {op : List (List P)} {dn xs : List P} {o4 : Option D} {i : Nat} (hi : getE (v_env pc op dn o4) i = some (.p (.fl xs))) (hx : okvs xs = true) (dx : dps xs < 64) : evT Γ (.cmp .Eq (.pk i) (.lst [])) (v_env pc op dn o4) = .ok (.p (.bl (decide (xs = [])))) (v_env pc op dn o4) :=
  ev_cmp (ev_pk hi) rfl hi rfl (eqD_fl hx rfl dx (by decide))
theorem v_flN {pc : P} {op : List (List P)} {dn xs : List P} {o4 : Option D} {i : Nat} (hi : getE (v_env pc op dn o4) i = some (.p (.fl xs))) (hx : okvs xs = true) (dx : dps xs < 64) : evT Γ (.cmp .NotEq (.pk i) (.lst [])) (v_env pc op dn o4) = .ok (.p (.bl (!decide (xs = [])))) (v_env pc op dn o4) := by
  refine ev_cmp (ev_pk hi) rfl hi rfl ?_
  show (eqD (.p (.fl xs)) (.pl [])).map not = _
  rw [eqD_fl hx rfl dx (by decide)]
  rfl
theorem asg_nm {prot : List Nat} {i : Nat} {d : D} {x : P} {e : Env} (hp : i ∉ prot) (hl : i < e.length) (hd : d.frz = some x) (hn : frzIf false d = some (.p x)) : asgT prot (.nm i false) d e = some (e.set i (some (.p x))) := by
  unfold asgT
  rw [if_neg hp, if_pos hl, hn]
theorem evB_rt {F : Nat} {s : S} {ss : List S} {prot : List Nat} {e e' : Env} {d : D} (h : evS Γ F s prot e = .ret d e') : evB Γ F (s :: ss) prot e = .ret d e' := by
  simp only [evB, h, SO.seq]
theorem evB_ct {F : Nat} {s : S} {ss : List S} {prot : List Nat} {e e' : Env} (h : evS Γ F s prot e = .ct e') : evB Γ F (s :: ss) prot e = .ct e' := by
  simp only [evB, h, SO.seq]
/-- what an outcome of a turn says -/
def VO (pc : P) (s' : Option VS) (o : SO) : Prop := match s' with
  | some (st, dn) => ∃ o4, o = .nx (v_env pc st.reverse dn o4) ∨ o = .ct (v_env pc st.reverse dn o4)
  | none => ∃ e, o = .ret (.pl []) (none :: e)
theorem v_place {pc x : P} {st : List (List P)} {dn : List P} {prot : List Nat} (hp : ∀ i ∈ [1, 2, 3, 4], i ∉ prot) (g : sG st = true) (gd : goods dn = true) (gx : good x = true) (d : sD st ≤ 60) (dd : deps dn ≤ 60) (dx : dep x ≤ 60) (w : sW st < lim) :
    VO pc (vplace st dn x) (evB Γ F [v_c4, v_c5] prot (v_env pc st.reverse dn (some (.p (.fl [x]))))) := by
  have hop : ∀ t ∈ st.reverse, okvs t = true ∧ dps t ≤ 60 := fun t ht => by
    have ht := List.mem_reverse.mp ht
    obtain ⟨h1, h2⟩ := sG_okvs g t ht
    have := sD_mem d t ht
    exact ⟨h1, by omega⟩
  obtain ⟨x1, x2⟩ := good_okv gx
  obtain ⟨n1, n2⟩ := goods_okvs gd
  have a4 : evT Γ (.cmp .Eq (.pk 4) (.lst [])) (v_env pc st.reverse dn (some (.p (.fl [x])))) = .ok (.p (.bl false)) (v_env pc st.reverse dn (some (.p (.fl [x])))) := by
    have := v_fl (Γ := Γ) (pc := pc) (op := st.reverse) (dn := dn) (xs := [x]) (o4 := some (.p (.fl [x]))) (i := 4) rfl (by simp [okvs, x1]) (by simp [dps]; omega)
    simpa using this
  have a2 := v_opNil (Γ := Γ) (pc := pc) (dn := dn) (o4 := some (.p (.fl [x]))) hop
  have a3 := v_flN (Γ := Γ) (pc := pc) (op := st.reverse) (dn := dn) (xs := dn) (o4 := some (.p (.fl [x]))) (i := 3) rfl n1 (by omega)
  cases st with
  | nil =>
    rw [List.reverse_nil] at a2 a3 a4
    have a2' : evT Γ (.cmp .Eq (.pk 2) (.lst [])) (v_env pc [] dn (some (.p (.fl [x])))) = .ok (.p (.bl true)) (v_env pc [] dn (some (.p (.fl [x])))) := by simpa using a2
    have c4 : evT Γ (.or (.cmp .Eq (.pk 4) (.lst [])) (.and (.cmp .Eq (.pk 2) (.lst [])) (.cmp .NotEq (.pk 3) (.lst [])))) (v_env pc [] dn (some (.p (.fl [x])))) = .ok (.p (.bl (!decide (dn = [])))) (v_env pc [] dn (some (.p (.fl [x])))) := by
      rw [ev_or_f a4 rfl, ev_and_t a2' rfl]
      exact a3
    by_cases e : dn = []
    · have r5 : evS Γ F v_c5 prot (v_env pc [] dn (some (.p (.fl [x])))) = .nx (v_env pc [] [x] (some (.p (.fl [x])))) := by
        refine (ev_ife_t a2' rfl).trans (evB_nx ?_)
        simp only [evS]
        rw [show evT Γ (.var 4) (v_env pc [] dn (some (.p (.fl [x])))) = .ok (.p (.fl [x])) (v_env pc [] dn (some (.p (.fl [x])))) from by rw [evT]; rfl]
        simp only [Out.thn]
        rw [asg_nm (x := .fl [x]) (hp 3 (by simp)) (by simp) rfl rfl]
        rfl
      have r4 : evS Γ F v_c4 prot (v_env pc [] dn (some (.p (.fl [x])))) = .nx (v_env pc [] dn (some (.p (.fl [x])))) := (ev_ife_f c4 (by simp [e]; rfl)).trans rfl
      simp only [vplace, if_pos e]
      refine ⟨some (.p (.fl [x])), .inl ?_⟩
      show evB Γ F [v_c4, v_c5] prot (v_env pc [] dn (some (.p (.fl [x])))) = _
      rw [evB_nx r4, evB_nx r5]
      rfl
    · have r4 : evS Γ F v_c4 prot (v_env pc [] dn (some (.p (.fl [x])))) = .ret (.pl []) (v_env pc [] dn (some (.p (.fl [x])))) := (ev_ife_t c4 (by simp [e]; rfl)).trans rfl
      simp only [vplace, if_neg e]
      exact ⟨_, evB_rt r4⟩
  | cons t st =>
    have hne : (t :: st).reverse ≠ [] := by simp
    have a2' : evT Γ (.cmp .Eq (.pk 2) (.lst [])) (v_env pc (t :: st).reverse dn (some (.p (.fl [x])))) = .ok (.p (.bl false)) (v_env pc (t :: st).reverse dn (some (.p (.fl [x])))) := by
      rw [decide_eq_false hne] at a2
      exact a2
    have c4 : evT Γ (.or (.cmp .Eq (.pk 4) (.lst [])) (.and (.cmp .Eq (.pk 2) (.lst [])) (.cmp .NotEq (.pk 3) (.lst [])))) (v_env pc (t :: st).reverse dn (some (.p (.fl [x])))) = .ok (.p (.bl false)) (v_env pc (t :: st).reverse dn (some (.p (.fl [x])))) := by
      rw [ev_or_f a4 rfl, ev_and_f a2' rfl]
    have r4 : evS Γ F v_c4 prot (v_env pc (t :: st).reverse dn (some (.p (.fl [x])))) = .nx (v_env pc (t :: st).reverse dn (some (.p (.fl [x])))) := (ev_ife_f c4 rfl).trans rfl
    have tl : t.length < lim := by
      have := Ws_len t
      simp only [sW] at w
      omega
    have r5 : evS Γ F v_c5 prot (v_env pc (t :: st).reverse dn (some (.p (.fl [x])))) = .nx (v_env pc ((t ++ [x]) :: st).reverse dn (some (.p (.fl [x])))) := by
      refine (ev_ife_f a2' rfl).trans (evB_nx ?_)
      rw [List.reverse_cons, List.reverse_cons]
      simp only [evS]
      show (match (st.reverse ++ [t]).getLast? with
        | some xs => _
        | none => _) = _
      rw [List.getLast?_concat]
      dsimp only
      show ((evT Γ (.idx (.pk 4) (.lit (.int 0))) [none, some (.p pc), none, some (.p (.fl dn)), some (.p (.fl [x]))]).thn _) = _
      rw [show evT Γ (.idx (.pk 4) (.lit (.int 0))) [none, some (.p pc), none, some (.p (.fl dn)), some (.p (.fl [x]))] = .ok (.p x) [none, some (.p pc), none, some (.p (.fl dn)), some (.p (.fl [x]))] from rfl]
      simp only [Out.thn, D.frz, if_pos tl, List.dropLast_concat]
      rfl
    simp only [vplace]
    refine ⟨some (.p (.fl [x])), .inl ?_⟩
    rw [evB_nx r4, evB_nx r5]
    rfl
end Ev.K88
end

section
set_option Elab.async false
set_option linter.all false
set_option maxRecDepth 100000
/-! M88m: value_of. -/
namespace Ev.K88
open PySem L2 Ev
variable {F k : Nat} {Γ : Calls}
theorem eqS (a b : List Nat) (ha : ∀ c ∈ a, c < 1114112) (hb : ∀ c ∈ b, c < 1114112) : eqD (.p (.str (mkS a))) (.p (.str (mkS b))) = some (decide (a = b)) := by
  rw [eqD_p (x := .str (mkS a)) (y := .str (mkS b)) (okS ha) (okS hb) (by simp [dp]) (by simp [dp])]
  congr 1
  rw [decide_eq_decide]
  constructor
  · intro h; injection h with h; exact mkS_inj.mp h
  · intro h; rw [h]
theorem v_turn {s : VS} {w : List Nat} {prot : List Nat} {o4 : Option D} {n c : Nat} (hp : ∀ i ∈ [1, 2, 3, 4], i ∉ prot) (i : VI s n c) (hn : n < 100000) (hcc : c ≤ 58) (hc : ∀ c ∈ w, c < 1114112) (hm : w.length ≤ 10000) (hw : 1 ≤ w.length)
    (hΓ : Γ "plain_of" [.p (.str (mkS w))] = .ok (.pl (plainM w)) [.p (.str (mkS w))]) :
    VO (.str (mkS w)) (vstep s w) (evB Γ F v_body prot (v_env (.str (mkS w)) s.1.reverse s.2 o4)) := by
  obtain ⟨st, dn⟩ := s
  have g := i.g
  have gd := i.gd
  have d := i.d
  have dd := i.dd
  have iw := i.w
  dsimp only at g gd d dd iw ⊢
  have hlim : (100000 : Nat) < lim := by decide
  have hop : ∀ t ∈ st.reverse, okvs t = true ∧ dps t ≤ 60 := fun t ht => by
    have ht := List.mem_reverse.mp ht
    obtain ⟨h1, h2⟩ := sG_okvs g t ht
    have := sD_mem d t ht
    exact ⟨h1, by omega⟩
  have slen : st.length ≤ sW st := by
    have : ∀ st : List (List P), st.length ≤ sW st := by
      intro st
      induction st with
      | nil => simp
      | cons t st ih => simp only [sW, List.length_cons]; omega
    exact this st
  have t1 : evT Γ (.cmp .Eq (.pk 1) (.lit (.str "("))) (v_env (.str (mkS w)) st.reverse dn o4) = .ok (.p (.bl (decide (w = [40])))) (v_env (.str (mkS w)) st.reverse dn o4) := ev_cmp (ev_pk rfl) rfl rfl rfl (eqS w [40] hc (by simp))
  have t2 : evT Γ (.cmp .Eq (.pk 1) (.lit (.str " "))) (v_env (.str (mkS w)) st.reverse dn o4) = .ok (.p (.bl (decide (w = [32])))) (v_env (.str (mkS w)) st.reverse dn o4) := ev_cmp (ev_pk rfl) rfl rfl rfl (eqS w [32] hc (by simp))
  have t3 : evT Γ (.cmp .Eq (.pk 1) (.lit (.str ")"))) (v_env (.str (mkS w)) st.reverse dn o4) = .ok (.p (.bl (decide (w = [41])))) (v_env (.str (mkS w)) st.reverse dn o4) := ev_cmp (ev_pk rfl) rfl rfl rfl (eqS w [41] hc (by simp))
  unfold vstep v_body
  dsimp only
  by_cases e1 : w = [40]
  · rw [if_pos e1]
    rw [decide_eq_true e1] at t1
    refine ⟨o4, .inr (evB_ct ((ev_ife_t t1 rfl).trans ?_))⟩
    have : evS Γ F (.appe 2) prot (v_env (.str (mkS w)) st.reverse dn o4) = .nx (v_env (.str (mkS w)) ([] :: st).reverse dn o4) := by
      show (if st.reverse.length < lim then SO.nx _ else .bad) = _
      rw [if_pos (by rw [List.length_reverse]; omega)]
      simp
    rw [evB_nx this]
    rfl
  rw [if_neg e1]
  rw [decide_eq_false e1] at t1
  have r1 : evS Γ F v_c1 prot (v_env (.str (mkS w)) st.reverse dn o4) = .nx (v_env (.str (mkS w)) st.reverse dn o4) := (ev_ife_f t1 rfl).trans rfl
  rw [evB_nx r1]
  by_cases e2 : w = [32]
  · rw [if_pos e2]
    rw [decide_eq_true e2] at t2
    exact ⟨o4, .inr (evB_ct ((ev_ife_t t2 rfl).trans rfl))⟩
  rw [if_neg e2]
  rw [decide_eq_false e2] at t2
  have r2 : evS Γ F v_c2 prot (v_env (.str (mkS w)) st.reverse dn o4) = .nx (v_env (.str (mkS w)) st.reverse dn o4) := (ev_ife_f t2 rfl).trans rfl
  rw [evB_nx r2]
  by_cases e3 : w = [41]
  · rw [if_pos e3]
    rw [decide_eq_true e3] at t3
    have a2 := v_opNil (Γ := Γ) (pc := .str (mkS w)) (dn := dn) (o4 := o4) hop
    cases st with
    | nil =>
      have a2' : evT Γ (.cmp .Eq (.pk 2) (.lst [])) (v_env (.str (mkS w)) ([] : List (List P)).reverse dn o4) = .ok (.p (.bl true)) (v_env (.str (mkS w)) ([] : List (List P)).reverse dn o4) := by simpa using a2
      exact ⟨_, evB_rt ((ev_ife_t t3 rfl).trans (evB_rt ((ev_ife_t a2' rfl).trans rfl)))⟩
    | cons t st =>
      rw [decide_eq_false (show (t :: st).reverse ≠ [] by simp)] at a2
      have r3 : evS Γ F v_c3 prot (v_env (.str (mkS w)) (t :: st).reverse dn o4) = .nx (v_env (.str (mkS w)) st.reverse dn (some (.p (.fl [.tup t])))) := by
        refine (ev_ife_t t3 rfl).trans ?_
        rw [evB_nx ((ev_ife_f a2 rfl).trans rfl)]
        refine evB_nx (ss := []) ?_
        have pp : evT Γ (.popt 2) (v_env (.str (mkS w)) (t :: st).reverse dn o4) = .ok (.p (.tup t)) (v_env (.str (mkS w)) st.reverse dn o4) := by
          rw [List.reverse_cons, evT]
          show (match (st.reverse ++ [t]).getLast? with
            | some xs => Out.ok (.p (.tup xs)) (List.set _ 2 (some (.pll (st.reverse ++ [t]).dropLast)))
            | none => .bad) = _
          rw [List.getLast?_concat, List.dropLast_concat]
          rfl
        have pl : evT Γ (.lst [(.popt 2)]) (v_env (.str (mkS w)) (t :: st).reverse dn o4) = .ok (.pl [.tup t]) (v_env (.str (mkS w)) st.reverse dn o4) := by
          have e0 : evTs Γ [.popt 2] (v_env (.str (mkS w)) (t :: st).reverse dn o4) = .ok [.p (.tup t)] (v_env (.str (mkS w)) st.reverse dn o4) := by
            simp only [evTs]
            rw [pp]
          simp only [evT]
          rw [e0]
          rfl
        simp only [evS]
        rw [pl]
        simp only [Out.thn]
        rw [asg_nm (x := .fl [.tup t]) (hp 4 (by simp)) (by simp) rfl rfl]
        rfl
      rw [evB_nx r3]
      simp only [sG, Bool.and_eq_true] at g
      simp only [sW] at iw
      simp only [sD] at d
      exact v_place hp g.2 gd (by simpa [good] using g.1) (by omega) (by omega) (by simp only [dep]; omega) (by omega)
  · rw [if_neg e3]
    rw [decide_eq_false e3] at t3
    have r3 : evS Γ F v_c3 prot (v_env (.str (mkS w)) st.reverse dn o4) = .nx (v_env (.str (mkS w)) st.reverse dn (some (.p (.fl (plainM w))))) := by
      refine (ev_ife_f t3 rfl).trans (evB_nx ?_)
      have pl : evT Γ (.call "plain_of" [(.pk 1)]) (v_env (.str (mkS w)) st.reverse dn o4) = .ok (.pl (plainM w)) (v_env (.str (mkS w)) st.reverse dn o4) := ev_call rfl hΓ rfl
      simp only [evS]
      rw [pl]
      simp only [Out.thn]
      rw [asg_nm (x := .fl (plainM w)) (hp 4 (by simp)) (by simp) rfl rfl]
      rfl
    rw [evB_nx r3]
    rcases plain_one hc hm with e0 | ⟨x, e0, g1, g2, g3⟩
    · rw [e0]
      have a4 : evT Γ (.cmp .Eq (.pk 4) (.lst [])) (v_env (.str (mkS w)) st.reverse dn (some (.p (.fl [])))) = .ok (.p (.bl true)) (v_env (.str (mkS w)) st.reverse dn (some (.p (.fl [])))) := by
        have := v_fl (Γ := Γ) (pc := .str (mkS w)) (op := st.reverse) (dn := dn) (xs := []) (o4 := some (.p (.fl []))) (i := 4) rfl rfl (by decide)
        simpa using this
      exact ⟨_, evB_rt ((ev_ife_t (ev_or_t a4 rfl) rfl).trans rfl)⟩
    · rw [e0]
      exact v_place hp g gd g1 (by omega) (by omega) (by omega) (by omega)
/-- how many open brackets -/
def opens : List (List Nat) → Nat
  | [] => 0
  | w :: ws => (if w = [40] then 1 else 0) + opens ws
def wsum : List (List Nat) → Nat
  | [] => 0
  | w :: ws => w.length + 2 + wsum ws
theorem v_loop {prot : List Nat} (hp : ∀ i ∈ [1, 2, 3, 4], i ∉ prot) (hΓ : ∀ w : List Nat, (∀ c ∈ w, c < 1114112) → w.length ≤ 10000 → Γ "plain_of" [.p (.str (mkS w))] = .ok (.pl (plainM w)) [.p (.str (mkS w))]) :
    ∀ {ws : List (List Nat)} {s : VS} {n c : Nat} {o1 o4 : Option D}, VI s n c → n + wsum ws < 100000 → c + opens ws ≤ 58 → (∀ w ∈ ws, (∀ c ∈ w, c < 1114112) ∧ w.length ≤ 10000 ∧ 1 ≤ w.length) →
    match vrun s ws with
    | some s' => VI s' (n + wsum ws) (c + opens ws) ∧ ∃ o1' o4', forL prot (.nm 1 false) (evB Γ F v_body prot) (ws.map fun w => .str (mkS w)) [none, o1, some (.pll s.1.reverse), some (.p (.fl s.2)), o4] = .nx [none, o1', some (.pll s'.1.reverse), some (.p (.fl s'.2)), o4']
    | none => ∃ e, forL prot (.nm 1 false) (evB Γ F v_body prot) (ws.map fun w => .str (mkS w)) [none, o1, some (.pll s.1.reverse), some (.p (.fl s.2)), o4] = .ret (.pl []) (none :: e)
  | [], s, n, c, o1, o4, i, _, _, _ => by
    show VI s (n + wsum []) (c + opens []) ∧ _
    exact ⟨by simpa [wsum, opens] using i, o1, o4, rfl⟩
  | w :: ws, s, n, c, o1, o4, i, hn, ho, hw => by
    obtain ⟨h1, h2, h3⟩ := hw w (by simp)
    simp only [wsum, opens] at hn ho
    have hv := v_turn (F := F) (o4 := o4) hp i (by omega) (by omega) h1 h2 h3 (hΓ w h1 h2)
    have hgo : ∀ o : SO, evB Γ F v_body prot (v_env (.str (mkS w)) s.1.reverse s.2 o4) = o → forL prot (.nm 1 false) (evB Γ F v_body prot) ((w :: ws).map fun w => .str (mkS w)) [none, o1, some (.pll s.1.reverse), some (.p (.fl s.2)), o4] =
        match o with
          | .nx e2 => forL prot (.nm 1 false) (evB Γ F v_body prot) (ws.map fun w => .str (mkS w)) e2
          | .ct e2 => forL prot (.nm 1 false) (evB Γ F v_body prot) (ws.map fun w => .str (mkS w)) e2
          | .bk e2 => .nx e2
          | .ret d e2 => .ret d e2
          | .exc c fs e2 => .exc c fs e2
          | .bad => .bad := fun o ho => by
      rw [List.map_cons, forL, asg_nm (x := .str (mkS w)) (hp 1 (by simp)) (by simp) rfl rfl]
      dsimp only
      rw [show ([none, o1, some (.pll s.1.reverse), some (.p (.fl s.2)), o4] : Env).set 1 (some (.p (.str (mkS w)))) = v_env (.str (mkS w)) s.1.reverse s.2 o4 from rfl, ho]
      try (cases o <;> rfl)
    unfold vrun
    cases es : vstep s w with
    | none =>
      rw [es] at hv
      obtain ⟨e, he⟩ := hv
      dsimp only
      exact ⟨e, by rw [hgo _ he]⟩
    | some s' =>
      rw [es] at hv
      have i' := i.step h1 h2 h3 es
      obtain ⟨o4', he⟩ := hv
      dsimp only
      have ih := v_loop hp hΓ (ws := ws) (s := s') (o1 := some (.p (.str (mkS w)))) (o4 := o4') i' (by omega) (by omega) fun x hx => hw x (by simp [hx])
      have hsame : forL prot (.nm 1 false) (evB Γ F v_body prot) ((w :: ws).map fun w => .str (mkS w)) [none, o1, some (.pll s.1.reverse), some (.p (.fl s.2)), o4] = forL prot (.nm 1 false) (evB Γ F v_body prot) (ws.map fun w => .str (mkS w)) [none, some (.p (.str (mkS w))), some (.pll s'.1.reverse), some (.p (.fl s'.2)), o4'] := by
        rcases he with he | he
        · rw [hgo _ he]
        · rw [hgo _ he]
      rw [hsame]
      cases er : vrun s' ws with
      | none =>
        rw [er] at ih
        exact ih
      | some s2 =>
        rw [er] at ih
        obtain ⟨j, o1', o4'', hf⟩ := ih
        refine ⟨?_, o1', o4'', hf⟩
        rw [show n + wsum (w :: ws) = n + w.length + 2 + wsum ws by simp [wsum]; omega, show c + opens (w :: ws) = (c + if w = [40] then 1 else 0) + opens ws by simp [opens]; omega]
        exact j
theorem vplace_len {st : List (List P)} {dn : List P} {x : P} {s' : VS} (h : vplace st dn x = some s') (hd : dn.length ≤ 1) : s'.2.length ≤ 1 := by
  cases st with
  | nil =>
    simp only [vplace] at h
    split at h
    · cases h; simp
    · cases h
  | cons t st =>
    simp only [vplace] at h
    cases h
    exact hd
theorem vstep_len {s s' : VS} {w : List Nat} (h : vstep s w = some s') (hd : s.2.length ≤ 1) : s'.2.length ≤ 1 := by
  unfold vstep at h
  split at h
  · cases h; exact hd
  · split at h
    · cases h; exact hd
    · split at h
      · split at h
        · cases h
        · exact vplace_len h hd
      · split at h
        · exact vplace_len h hd
        · cases h
theorem vrun_len : ∀ {ws : List (List Nat)} {s s' : VS}, vrun s ws = some s' → s.2.length ≤ 1 → s'.2.length ≤ 1
  | [], s, s', h, hd => by
    cases h
    exact hd
  | w :: ws, s, s', h, hd => by
    unfold vrun at h
    cases es : vstep s w with
    | none => rw [es] at h; cases h
    | some s1 =>
      rw [es] at h
      exact vrun_len h (vstep_len es hd)
theorem m_value_of {ws : List (List Nat)} (hn : wsum ws < 100000) (ho : opens ws ≤ 58) (hw : ∀ w ∈ ws, (∀ c ∈ w, c < 1114112) ∧ w.length ≤ 10000 ∧ 1 ≤ w.length) :
    (∃ d, calls prog.fns F (k + 3) "value_of" [.pl (ws.map fun w => .str (mkS w))] = .ok d [.pl (ws.map fun w => .str (mkS w))] ∧ d.frz = some (.fl (vof ws))) ∧
      (vof ws = [] ∨ ∃ x, vof ws = [x] ∧ good x = true ∧ W x ≤ wsum ws ∧ dep x ≤ opens ws) := by
  have lk : ∀ ds, calls prog.fns F (k + 3) "value_of" ds = runFn (calls prog.fns F (k + 2)) F d_value_of.fn ds := fun _ => rfl
  have i0 : VI ([], []) 0 0 := ⟨rfl, rfl, by simp [sW, Ws], by simp [sD], by simp [deps]⟩
  have L := v_loop (Γ := calls prog.fns F (k + 2)) (F := F) (prot := [0, 0]) (by simp) (fun w h1 h2 => m_plain h1 (Nat.le_trans h2 (by decide))) (ws := ws) (o1 := none) (o4 := none) i0 (by omega) (by omega) hw
  have L' : ∀ o : SO, forL [0, 0] (.nm 1 false) (evB (calls prog.fns F (k + 2)) F v_body [0, 0]) (ws.map fun w => .str (mkS w)) [none, none, some (.pll ([] : List (List P)).reverse), some (.p (.fl [])), none] = o →
      evB (calls prog.fns F (k + 2)) F b_value_of [0] [some (.pl (ws.map fun w => .str (mkS w))), none, none, none, none] = (o.map (unhide (.pk 0) [some (.pl (ws.map fun w => .str (mkS w))), none, some (.pll []), some (.p (.fl [])), none])).seq (evB (calls prog.fns F (k + 2)) F [.ret (.ife (.cmp .Eq (.pk 2) (.lst [])) (.var 3) (.lst []))] [0]) := fun o h => by
    show evB (calls prog.fns F (k + 2)) F [.asg2 (.nm 2 true) (.nm 3 false) .lln (.lst []), .for_ (.nm 1 false) (.pk 0) v_body, .ret (.ife (.cmp .Eq (.pk 2) (.lst [])) (.var 3) (.lst []))] [0] [some (.pl (ws.map fun w => .str (mkS w))), none, none, none, none] = _
    rw [evB_nx (e' := [some (.pl (ws.map fun w => .str (mkS w))), none, some (.pll []), some (.p (.fl [])), none]) rfl]
    rw [evB]
    simp only [evS]
    rw [show evI (calls prog.fns F (k + 2)) (.pk 0) [some (.pl (ws.map fun w => .str (mkS w))), none, some (.pll []), some (.p (.fl [])), none] = .ok (ws.map fun w => .str (mkS w)) [some (.pl (ws.map fun w => .str (mkS w))), none, some (.pll []), some (.p (.fl [])), none] from rfl]
    dsimp only
    rw [← h]
    rfl
  have fin : ∀ (r : D) (e : Env), evB (calls prog.fns F (k + 2)) F b_value_of [0] [some (.pl (ws.map fun w => .str (mkS w))), none, none, none, none] = .ret r (some (.pl (ws.map fun w => .str (mkS w))) :: e) →
      calls prog.fns F (k + 3) "value_of" [.pl (ws.map fun w => .str (mkS w))] = .ok r [.pl (ws.map fun w => .str (mkS w))] := fun r e h => by
    rw [lk]
    unfold runFn
    rw [if_pos ⟨rfl, by decide⟩]
    show (match evB (calls prog.fns F (k + 2)) F b_value_of [0] [some (.pl (ws.map fun w => .str (mkS w))), none, none, none, none] with
      | .ret d e => _
      | .nx e => _
      | .exc c fs e => _
      | _ => _) = _
    rw [h]
    rfl
  unfold vof
  cases er : vrun ([], []) ws with
  | none =>
    rw [er] at L
    obtain ⟨e, he⟩ := L
    refine ⟨⟨.pl [], fin _ e ?_, rfl⟩, .inl rfl⟩
    rw [L' _ he]
    rfl
  | some s' =>
    rw [er] at L
    obtain ⟨j, o1, o4, he⟩ := L
    have hl := vrun_len er (by simp)
    obtain ⟨st, dn⟩ := s'
    have g := j.g
    have gd := j.gd
    have d := j.d
    have dd := j.dd
    have iw := j.w
    dsimp only at g gd d dd iw hl he
    have hop : ∀ t ∈ st.reverse, okvs t = true ∧ dps t ≤ 60 := fun t ht => by
      have ht := List.mem_reverse.mp ht
      obtain ⟨h1, h2⟩ := sG_okvs g t ht
      have := sD_mem d t ht
      exact ⟨h1, by omega⟩
    have e1 := L' _ he
    have a2 : evT (calls prog.fns F (k + 2)) (.cmp .Eq (.pk 2) (.lst [])) [some (.pl (ws.map fun w => .str (mkS w))), o1, some (.pll st.reverse), some (.p (.fl dn)), o4] = .ok (.p (.bl (decide (st.reverse = [])))) [some (.pl (ws.map fun w => .str (mkS w))), o1, some (.pll st.reverse), some (.p (.fl dn)), o4] :=
      ev_cmp (ev_pk rfl) rfl rfl rfl (eqD_pll hop)
    have e2 : evB (calls prog.fns F (k + 2)) F b_value_of [0] [some (.pl (ws.map fun w => .str (mkS w))), none, none, none, none] = evB (calls prog.fns F (k + 2)) F [.ret (.ife (.cmp .Eq (.pk 2) (.lst [])) (.var 3) (.lst []))] [0] [some (.pl (ws.map fun w => .str (mkS w))), o1, some (.pll st.reverse), some (.p (.fl dn)), o4] := by
      rw [e1]
      rfl
    cases st with
    | nil =>
      refine ⟨⟨.p (.fl dn), fin _ [o1, some (.pll []), some (.p (.fl dn)), o4] ?_, rfl⟩, ?_⟩
      · rw [e2]
        refine evB_rt ?_
        simp only [evS]
        rw [ev_ife_tt a2 rfl]
        rfl
      · cases dn with
        | nil => exact .inl rfl
        | cons x dn =>
          cases dn with
          | nil =>
            refine .inr ⟨x, rfl, by simpa [goods] using gd, ?_, ?_⟩
            · simp only [sW, Ws] at iw; omega
            · simp only [deps] at dd; omega
          | cons y dn => simp at hl
    | cons t st =>
      refine ⟨⟨.pl [], fin _ [o1, some (.pll (t :: st).reverse), some (.p (.fl dn)), o4] ?_, rfl⟩, .inl rfl⟩
      rw [e2]
      refine evB_rt ?_
      simp only [evS]
      rw [ev_ife_ff a2 (by rw [decide_eq_false (show (t :: st).reverse ≠ [] by simp)]; rfl)]
      rfl
end Ev.K88
end

section
set_option Elab.async false
set_option linter.all false
set_option maxRecDepth 100000
/-! M88n: read_value at any text. -/
namespace Ev.K88
open PySem L2 Ev
variable {F k : Nat} {Γ : Calls}
/-! ### bounds of a value by its weight -/
mutual
theorem W_siz : ∀ (x : P), siz x ≤ W x
  | .tup xs => by
    have := Ws_siz xs
    simp only [siz, W]
    omega
  | .non => by simp [siz, W]
  | .str _ => by simp [siz, W]
  | .int _ => by simp [siz, W]
  | .fl _ => by simp [siz, W]
  | .bl _ => by simp [siz, W]
  | .fd _ => by simp [siz, W]
  | .ins _ _ => by simp [siz, W]
  | .exc _ _ => by simp [siz, W]
  | .fn _ => by simp [siz, W]
theorem Ws_siz : ∀ (xs : List P), sizs xs ≤ Ws xs
  | [] => by simp [sizs, Ws]
  | x :: xs => by
    have := W_siz x
    have := Ws_siz xs
    simp only [sizs, Ws]
    omega
end
mutual
theorem W_wt : ∀ (x : P), wt x + 2 ≤ 3 * W x
  | .tup xs => by
    have := Ws_wt xs
    simp only [wt, W]
    omega
  | .non => by simp [wt, W]; omega
  | .str _ => by simp [wt, W]; omega
  | .int _ => by simp [wt, W]; omega
  | .fl _ => by simp [wt, W]; omega
  | .bl _ => by simp [wt, W]; omega
  | .fd _ => by simp [wt, W]; omega
  | .ins _ _ => by simp [wt, W]; omega
  | .exc _ _ => by simp [wt, W]; omega
  | .fn _ => by simp [wt, W]; omega
theorem Ws_wt : ∀ (xs : List P), wts xs ≤ 3 * Ws xs
  | [] => by simp [wts, Ws]
  | x :: xs => by
    have := W_wt x
    have := Ws_wt xs
    simp only [wts, Ws]
    omega
end
mutual
theorem W_cn : ∀ (x : P), cn x + 1 ≤ 3 * W x
  | .tup xs => by
    have := Ws_cn xs
    simp only [cn, W]
    omega
  | .non => by simp [cn, W]; omega
  | .str _ => by simp [cn, W]; omega
  | .int _ => by simp [cn, W]; omega
  | .fl _ => by simp [cn, W]; omega
  | .bl _ => by simp [cn, W]; omega
  | .fd _ => by simp [cn, W]; omega
  | .ins _ _ => by simp [cn, W]; omega
  | .exc _ _ => by simp [cn, W]; omega
  | .fn _ => by simp [cn, W]; omega
theorem Ws_cn : ∀ (xs : List P), cns xs ≤ 3 * Ws xs
  | [] => by simp [cns, Ws]
  | [x] => by
    have := W_cn x
    simp only [cns, Ws]
    omega
  | x :: y :: r => by
    have := W_cn x
    have := Ws_cn (y :: r)
    rw [cns_cons]
    simp only [Ws] at this ⊢
    omega
end
def chs (ss : List Str) : Nat := (ss.map (·.length)).sum
theorem chs_app (a b : List Str) : chs (a ++ b) = chs a + chs b := by simp [chs]
theorem chs_cons (a : Str) (b : List Str) : chs (a :: b) = a.length + chs b := by simp [chs]
mutual
theorem W_tok : ∀ (x : P), (toks x).length + 1 ≤ 3 * W x ∧ chs (toks x) + 1 ≤ W x
  | .tup xs => by
    obtain ⟨h1, h2⟩ := Ws_tok xs
    have e1 : ("(" : Str).length = 1 := rfl
    have e2 : (")" : Str).length = 1 := rfl
    simp only [toks, W, chs_cons, chs_app, List.length_cons, List.length_append, List.length_nil, e1, e2]
    have : chs [] = 0 := rfl
    omega
  | .non => by simp [toks, W, chs]; omega
  | .str _ => by simp [toks, W, chs]; omega
  | .int _ => by simp [toks, W, chs]; omega
  | .fl _ => by simp [toks, W, chs]; omega
  | .bl _ => by simp [toks, W, chs]; omega
  | .fd _ => by simp [toks, W, chs]; omega
  | .ins _ _ => by simp [toks, W, chs]; omega
  | .exc _ _ => by simp [toks, W, chs]; omega
  | .fn _ => by simp [toks, W, chs]; omega
theorem Ws_tok : ∀ (xs : List P), (tokS xs).length ≤ 3 * Ws xs ∧ chs (tokS xs) ≤ Ws xs
  | [] => by simp [tokS, Ws, chs]
  | [x] => by
    obtain ⟨h1, h2⟩ := W_tok x
    simp only [tokS, Ws, List.append_nil]
    omega
  | x :: y :: r => by
    obtain ⟨h1, h2⟩ := W_tok x
    obtain ⟨h3, h4⟩ := Ws_tok (y :: r)
    have e1 : (" " : Str).length = 1 := rfl
    rw [tokS_cons]
    simp only [chs_app, chs_cons, List.length_append, List.length_cons, e1]
    simp only [Ws] at h3 h4 ⊢
    omega
end
theorem m_text {v : P} (hv : good v = true) (hd : dep v ≤ 50) (hw : W v ≤ 30000) (hF : 99999 < F) : calls prog.fns F (k + 3) "value_text" [.p v] = .ok (.p (.str (textOf v))) [.p v] := by
  have h1 := W_siz v
  have h2 := W_wt v
  have h3 := W_cn v
  obtain ⟨h4, h5⟩ := W_tok v
  have hl : lim = 1000000 := rfl
  exact m_value_text hv hd (by omega) (by omega) (by omega) (by unfold chs at h5; omega) (by omega)
/-! ### pieces -/
theorem pcs_mem : ∀ {l : List Nat} {w : List Nat}, w ∈ pcs l → 1 ≤ w.length ∧ ∀ c ∈ w, c ∈ l := by
  intro l
  induction l with
  | nil => intro w h; simp [pcs] at h
  | cons c cs ih =>
    intro w h
    rw [pcs] at h
    split at h
    · rcases List.mem_cons.mp h with rfl | h
      · simp
      · obtain ⟨h1, h2⟩ := ih h
        exact ⟨h1, fun x hx => List.mem_cons_of_mem _ (h2 x hx)⟩
    · split at h
      · rename_i d ds r e
        have ih' : ∀ {w}, w ∈ (d :: ds) :: r → 1 ≤ w.length ∧ ∀ c ∈ w, c ∈ cs := fun {w} hw => ih (by rw [e]; exact hw)
        split at h
        · rcases List.mem_cons.mp h with rfl | h
          · simp
          · obtain ⟨h1, h2⟩ := ih' h
            exact ⟨h1, fun x hx => List.mem_cons_of_mem _ (h2 x hx)⟩
        · rcases List.mem_cons.mp h with rfl | h
          · refine ⟨by simp, fun x hx => ?_⟩
            rcases List.mem_cons.mp hx with rfl | hx
            · simp
            · exact List.mem_cons_of_mem _ ((ih' (List.mem_cons_self ..)).2 x hx)
          · obtain ⟨h1, h2⟩ := ih' (List.mem_cons_of_mem _ h)
            exact ⟨h1, fun x hx => List.mem_cons_of_mem _ (h2 x hx)⟩
      · rcases List.mem_cons.mp h with rfl | h
        · simp
        · obtain ⟨h1, h2⟩ := ih h
          exact ⟨h1, fun x hx => List.mem_cons_of_mem _ (h2 x hx)⟩
theorem wsum_flat : ∀ (ws : List (List Nat)), wsum ws = ws.flatten.length + 2 * ws.length
  | [] => rfl
  | w :: ws => by
    have := wsum_flat ws
    simp only [wsum, List.flatten_cons, List.length_append, List.length_cons]
    omega
theorem wsum_pcs (l : List Nat) : wsum (pcs l) ≤ 3 * l.length := by
  have := wsum_flat (pcs l)
  rw [pcs_flat] at this
  have := pcs_len l
  omega
theorem opens_flat : ∀ (ws : List (List Nat)), opens ws ≤ ws.flatten.count 40
  | [] => by simp [opens]
  | w :: ws => by
    have := opens_flat ws
    simp only [opens, List.flatten_cons, List.count_append]
    split
    · rename_i e
      subst e
      simp
      omega
    · omega
theorem opens_pcs (l : List Nat) : opens (pcs l) ≤ l.count 40 := by
  have := opens_flat (pcs l)
  rwa [pcs_flat] at this
/-! ### read_value -/
noncomputable def readM (l : List Nat) : Option P := match vof (pcs l) with
  | [x] => if textOf x = mkS l then some x else none
  | _ => none
theorem frzIf_of {d : D} {x : P} (h : d.frz = some x) : frzIf false d = some (.p x) := by
  cases d <;> simp_all [D.frz, frzIf]
theorem joinL_nil : ∀ (ys : List (List Nat)), TL.joinL [] ys = ys.flatten
  | [] => rfl
  | [p] => by simp [TL.joinL]
  | p :: q :: r => by
    have := joinL_nil (q :: r)
    simp only [TL.joinL, List.nil_append, List.flatten_cons] at this ⊢
    rw [this]
theorem map_S : ∀ (ss : List Str), (ss.map fun s => s.cps.toList).map SX.S = ss
  | [] => rfl
  | s :: ss => by
    rw [List.map_cons, List.map_cons, map_S ss] <;> rfl
theorem textOf_eq (v : P) : textOf v = mkS ((toks v).map fun s => s.cps.toList).flatten := by
  unfold textOf
  have h := SX.join_S [] ((toks v).map fun s => s.cps.toList)
  rw [map_S, joinL_nil] at h
  exact h
theorem strOk_iff {s : Str} : PyData.strOk s = true ↔ ∀ c ∈ s.cps.toList, c < 1114112 := by
  unfold PyData.strOk
  rw [← Array.all_toList, List.all_eq_true]
  simp only [decide_eq_true_eq]
theorem toks_leaf {x : P} (h : good x = true) (n : ∀ xs, x ≠ .tup xs) : ∀ c ∈ (leaf x).cps.toList, c < 1114112 := by
  apply strOk_iff.mp
  cases x with
  | tup xs => exact absurd rfl (n xs)
  | non => decide +kernel
  | int i => exact strOk_of _
  | str s => simp [good] at h; exact h.1.2
  | _ => simp [good] at h
mutual
theorem toks_ok : ∀ (x : P), good x = true → ∀ s ∈ toks x, ∀ c ∈ s.cps.toList, c < 1114112
  | .tup xs, h => by
    have ih := tokS_ok xs (by simpa [good] using h)
    intro s hs
    have p1 : ∀ c ∈ ("(" : Str).cps.toList, c < 1114112 := by decide +kernel
    have p2 : ∀ c ∈ (")" : Str).cps.toList, c < 1114112 := by decide +kernel
    simp only [toks, List.mem_cons, List.mem_append, List.not_mem_nil, or_false] at hs
    rcases hs with rfl | hs | rfl
    · exact p1
    · exact ih s hs
    · exact p2
  | .non, h => by intro s hs; simp only [toks, List.mem_singleton] at hs; subst hs; exact toks_leaf h (by simp)
  | .str _, h => by intro s hs; simp only [toks, List.mem_singleton] at hs; subst hs; exact toks_leaf h (by simp)
  | .int _, h => by intro s hs; simp only [toks, List.mem_singleton] at hs; subst hs; exact toks_leaf h (by simp)
  | .fl _, h => by simp [good] at h
  | .bl _, h => by simp [good] at h
  | .fd _, h => by simp [good] at h
  | .ins _ _, h => by simp [good] at h
  | .exc _ _, h => by simp [good] at h
  | .fn _, h => by simp [good] at h
theorem tokS_ok : ∀ (xs : List P), goods xs = true → ∀ s ∈ tokS xs, ∀ c ∈ s.cps.toList, c < 1114112
  | [], _ => by simp [tokS]
  | [x], h => by
    simp only [goods, Bool.and_true] at h
    simp only [tokS, List.append_nil]
    exact toks_ok x h
  | x :: y :: r, h => by
    have h' : good x = true ∧ goods (y :: r) = true := by simpa [goods] using h
    have p1 : ∀ c ∈ (" " : Str).cps.toList, c < 1114112 := by decide +kernel
    intro s hs
    rw [tokS_cons] at hs
    simp only [List.mem_append, List.mem_cons] at hs
    rcases hs with hs | rfl | hs
    · exact toks_ok x h'.1 s hs
    · exact p1
    · exact tokS_ok (y :: r) h'.2 s hs
end
theorem textOf_ok {v : P} (h : good v = true) : okv (.str (textOf v)) = true := by
  show PyData.strOk (textOf v) = true
  rw [strOk_iff, textOf_eq, mkS_tl]
  intro c hc
  obtain ⟨l, hl, hc⟩ := List.mem_flatten.mp hc
  obtain ⟨s, hs, rfl⟩ := List.mem_map.mp hl
  exact toks_ok v h s hs c hc
def outR (l : List Nat) : Option P → COut
  | some x => .ok (.p x) [.p (.str (mkS l))]
  | none => .exc "NoText" [("line", .int 0)] [.p (.str (mkS l))]
def r_tst : T := .or (.cmp .Eq (.pk 1) (.lst [])) (.or (.not (.call "is_value" [(.idx (.pk 1) (.lit (.int 0)))])) (.cmp .NotEq (.call "value_text" [(.idx (.pk 1) (.lit (.int 0)))]) (.pk 0)))
theorem m_read {l : List Nat} (hc : ∀ c ∈ l, c < 1114112) (hm : l.length ≤ 5000) (ho : l.count 40 ≤ 40) (hF : 99999 < F) : calls prog.fns F (k + 4) "read_value" [.p (.str (mkS l))] = outR l (readM l) := by
  have hlim : lim = 1000000 := rfl
  have hws := wsum_pcs l
  have hop := opens_pcs l
  obtain ⟨⟨d, v1, v2⟩, v3⟩ := m_value_of (F := F) (k := k) (ws := pcs l) (by omega) (by omega) fun w hw => by
    obtain ⟨h1, h2⟩ := pcs_mem hw
    have h3 : w.length ≤ l.length := by
      have := pcs_flat l
      rw [← this]
      have : ∀ ls : List (List Nat), w ∈ ls → w.length ≤ ls.flatten.length := by
        intro ls
        induction ls with
        | nil => simp
        | cons a ls ih =>
          intro h
          rw [List.flatten_cons, List.length_append]
          rcases List.mem_cons.mp h with rfl | h
          · omega
          · have := ih h; omega
      exact this _ hw
    exact ⟨fun c h => hc c (h2 c h), by omega, h1⟩
  have pc := m_pieces (F := F) (k := k + 2) (l := l) (by omega) (by omega)
  have lk : calls prog.fns F (k + 4) "read_value" [.p (.str (mkS l))] = runFn (calls prog.fns F (k + 3)) F d_read_value.fn [.p (.str (mkS l))] := rfl
  rw [lk]
  have c1 : evT (calls prog.fns F (k + 3)) (.call "value_of" [(.call "pieces_of" [(.pk 0)])]) [some (.p (.str (mkS l))), none] = .ok d [some (.p (.str (mkS l))), none] := by
    have a1 : evT (calls prog.fns F (k + 3)) (.call "pieces_of" [(.pk 0)]) [some (.p (.str (mkS l))), none] = .ok (.pl (pieces l)) [some (.p (.str (mkS l))), none] := ev_call rfl pc rfl
    have a2 : evAs (calls prog.fns F (k + 3)) [.call "pieces_of" [(.pk 0)]] [some (.p (.str (mkS l))), none] = .ok [.pl (pieces l)] [some (.p (.str (mkS l))), none] := by
      simp only [evAs]
      rw [a1]
      rfl
    exact ev_call a2 v1 rfl
  generalize hr : vof (pcs l) = r at v2 v3
  have b0 : evB (calls prog.fns F (k + 3)) F b_read_value [] [some (.p (.str (mkS l))), none] = evB (calls prog.fns F (k + 3)) F [.ife r_tst [.raise "NoText" [(.lit (.str "no text of a value")), (.lit (.int 0))]] [], .ret (.idx (.pk 1) (.lit (.int 0)))] [] [some (.p (.str (mkS l))), some (.p (.fl r))] := by
    unfold b_read_value
    rw [evB_nx (e' := [some (.p (.str (mkS l))), none]) ((ev_ife_f (d := .p (.bl false)) rfl rfl).trans rfl)]
    rw [evB_nx (e' := [some (.p (.str (mkS l))), some (.p (.fl r))]) (by
      simp only [evS]
      rw [c1]
      simp only [Out.thn]
      unfold asgT
      rw [frzIf_of v2]
      rfl)]
    rfl
  have raise_ : ∀ e, evT (calls prog.fns F (k + 3)) r_tst e = .ok (.p (.bl true)) e → evB (calls prog.fns F (k + 3)) F [.ife r_tst [.raise "NoText" [(.lit (.str "no text of a value")), (.lit (.int 0))]] [], .ret (.idx (.pk 1) (.lit (.int 0)))] [] e = .exc "NoText" [("line", .int 0)] e := fun e h => by
    have := ev_ife_t (F := F) (a := [.raise "NoText" [(.lit (.str "no text of a value")), (.lit (.int 0))]]) (b := []) (prot := []) h rfl
    simp only [evB]
    rw [this]
    rfl
  have fin1 : ∀ o, evB (calls prog.fns F (k + 3)) F b_read_value [] [some (.p (.str (mkS l))), none] = o → ∀ e, (o = .exc "NoText" [("line", .int 0)] e → runFn (calls prog.fns F (k + 3)) F d_read_value.fn [.p (.str (mkS l))] = outR l none) ∧ (∀ x, o = .ret (.p x) e → runFn (calls prog.fns F (k + 3)) F d_read_value.fn [.p (.str (mkS l))] = outR l (some x)) := fun o h e => by
    have h0 : runFn (calls prog.fns F (k + 3)) F d_read_value.fn [.p (.str (mkS l))] = (match evB (calls prog.fns F (k + 3)) F b_read_value [] [some (.p (.str (mkS l))), none] with
      | .ret d e => match leftOf 0 [.p (.str (mkS l))] e with
        | some r => .ok d r
        | none => .bad
      | .nx e => match leftOf 0 [.p (.str (mkS l))] e with
        | some r => .ok (.p .non) r
        | none => .bad
      | .exc c fs e => match leftOf 0 [.p (.str (mkS l))] e with
        | some r => .exc c fs r
        | none => .bad
      | _ => .bad) := by
      unfold runFn
      rw [if_pos ⟨rfl, by decide⟩]
      rfl
    rw [h0, h]
    refine ⟨fun ho => ?_, fun x ho => ?_⟩
    · rw [ho]; rfl
    · rw [ho]; rfl
  have rd : readM l = (fun r : List P => match r with
      | [x] => if textOf x = mkS l then some x else none
      | _ => none) r := by
    unfold readM
    rw [hr]
  rcases v3 with rfl | ⟨x, rfl, g1, g2, g3⟩
  · have t1 : evT (calls prog.fns F (k + 3)) (.cmp .Eq (.pk 1) (.lst [])) [some (.p (.str (mkS l))), some (.p (.fl []))] = .ok (.p (.bl true)) [some (.p (.str (mkS l))), some (.p (.fl []))] := by
      refine ev_cmp (ev_pk rfl) rfl rfl rfl ?_
      show eqD (.p (.fl [])) (.pl []) = _
      rw [eqD_fl rfl rfl (by decide) (by decide)]
      rfl
    have := raise_ _ (ev_or_t t1 rfl)
    rw [rd]
    exact (fin1 _ (b0.trans this) _).1 rfl
  · have gk := good_okv g1
    have t1 : evT (calls prog.fns F (k + 3)) (.cmp .Eq (.pk 1) (.lst [])) [some (.p (.str (mkS l))), some (.p (.fl [x]))] = .ok (.p (.bl false)) [some (.p (.str (mkS l))), some (.p (.fl [x]))] := by
      refine ev_cmp (ev_pk rfl) rfl rfl rfl ?_
      show eqD (.p (.fl [x])) (.pl []) = _
      rw [eqD_fl (by simp [okvs, gk.1]) rfl (by simp [dps]; omega) (by decide)]
      simp
    have i1 : evT (calls prog.fns F (k + 3)) (.idx (.pk 1) (.lit (.int 0))) [some (.p (.str (mkS l))), some (.p (.fl [x]))] = .ok (.p x) [some (.p (.str (mkS l))), some (.p (.fl [x]))] := rfl
    have as1 : evAs (calls prog.fns F (k + 3)) [.idx (.pk 1) (.lit (.int 0))] [some (.p (.str (mkS l))), some (.p (.fl [x]))] = .ok [.p x] [some (.p (.str (mkS l))), some (.p (.fl [x]))] := by
      simp only [evAs]
      rw [i1]
      rfl
    have iv := m_is_value (F := F) (k := k + 1) g1 (by omega) (by have := W_siz x; omega)
    have tx := m_text (F := F) (k := k) g1 (by omega) (by omega) hF
    have t2 : evT (calls prog.fns F (k + 3)) (.call "is_value" [(.idx (.pk 1) (.lit (.int 0)))]) [some (.p (.str (mkS l))), some (.p (.fl [x]))] = .ok (.p (.bl true)) [some (.p (.str (mkS l))), some (.p (.fl [x]))] := ev_call as1 iv rfl
    have t3 : evT (calls prog.fns F (k + 3)) (.call "value_text" [(.idx (.pk 1) (.lit (.int 0)))]) [some (.p (.str (mkS l))), some (.p (.fl [x]))] = .ok (.p (.str (textOf x))) [some (.p (.str (mkS l))), some (.p (.fl [x]))] := ev_call as1 tx rfl
    have t4 : evT (calls prog.fns F (k + 3)) (.cmp .NotEq (.call "value_text" [(.idx (.pk 1) (.lit (.int 0)))]) (.pk 0)) [some (.p (.str (mkS l))), some (.p (.fl [x]))] = .ok (.p (.bl (!decide (textOf x = mkS l)))) [some (.p (.str (mkS l))), some (.p (.fl [x]))] := by
      refine ev_cmp t3 (ev_pk rfl) rfl rfl ?_
      show (eqD (.p (.str (textOf x))) (.p (.str (mkS l)))).map not = _
      rw [eqD_p (x := .str (textOf x)) (y := .str (mkS l)) (textOf_ok g1) (okS hc) (by simp [dp]) (by simp [dp])]
      simp
    have t5 : evT (calls prog.fns F (k + 3)) r_tst [some (.p (.str (mkS l))), some (.p (.fl [x]))] = .ok (.p (.bl (!decide (textOf x = mkS l)))) [some (.p (.str (mkS l))), some (.p (.fl [x]))] := by
      unfold r_tst
      rw [ev_or_f t1 rfl, ev_or_f (ev_not t2 rfl) rfl, t4]
    rw [rd]
    dsimp only
    by_cases e : textOf x = mkS l
    · rw [if_pos e]
      rw [decide_eq_true e] at t5
      refine (fin1 (.ret (.p x) [some (.p (.str (mkS l))), some (.p (.fl [x]))]) (b0.trans ?_) [some (.p (.str (mkS l))), some (.p (.fl [x]))]).2 x rfl
      rw [evB_nx ((ev_ife_f t5 rfl).trans rfl)]
      rfl
    · rw [if_neg e]
      rw [decide_eq_false e] at t5
      exact (fin1 _ (b0.trans (raise_ _ t5)) _).1 rfl
end Ev.K88
end

section
set_option Elab.async false
set_option linter.all false
set_option maxRecDepth 100000
/-! M88o: a value's text is read as the value. -/
namespace Ev.K88
open PySem L2 Ev
variable {F k : Nat} {Γ : Calls}
def cs (s : Str) : List Nat := s.cps.toList
structure LeafOk (x : P) : Prop where
  pl : plainM (cs (leaf x)) = [x]
  ne : cs (leaf x) ≠ []
  sp : ∀ c ∈ cs (leaf x), sepc c = false
mutual
def lv : P → Prop
  | .tup xs => lvs xs
  | x => LeafOk x
def lvs : List P → Prop
  | [] => True
  | x :: xs => lv x ∧ lvs xs
end
def tk (v : P) : List (List Nat) := (toks v).map cs
def tks (xs : List P) : List (List Nat) := (tokS xs).map cs
theorem tk_tup (xs : List P) : tk (.tup xs) = [40] :: (tks xs ++ [[41]]) := by
  have e1 : cs ("(" : Str) = [40] := rfl
  have e2 : cs (")" : Str) = [41] := rfl
  simp [tk, tks, toks, e1, e2]
theorem tk_leaf {x : P} (n : ∀ xs, x ≠ .tup xs) : tk x = [cs (leaf x)] := by
  cases x with
  | tup xs => exact absurd rfl (n xs)
  | _ => simp [tk, toks]
theorem tks_nil : tks [] = [] := rfl
theorem tks_one (x : P) : tks [x] = tk x := by simp [tks, tokS, tk]
theorem tks_cons (x y : P) (r : List P) : tks (x :: y :: r) = tk x ++ [32] :: tks (y :: r) := by
  have e1 : cs (" " : Str) = [32] := rfl
  unfold tks
  rw [tokS_cons]
  simp [tk, e1]
theorem textOf_tk (v : P) : textOf v = mkS (tk v).flatten := textOf_eq v
/-- what may stand behind a piece -/
def Sepd (r : List Nat) : Prop := r = [] ∨ ∃ d r', r = d :: r' ∧ sepc d = true
theorem pcs_one {w r : List Nat} (hn : w ≠ []) (hs : ∀ c ∈ w, sepc c = false) (hr : Sepd r) : pcs (w ++ r) = w :: pcs r := by
  cases w with
  | nil => exact absurd rfl hn
  | cons c ws =>
    rw [List.cons_append]
    refine pcs_run (cs := []) ws r (hs c (by simp)) (fun x hx => hs x (by simp [hx])) fun d r' e => ?_
    rcases hr with h | ⟨d', r'', h, h2⟩
    · rw [e] at h; cases h
    · rw [e] at h; cases h; exact h2
mutual
theorem pcs_tk : ∀ (v : P), lv v → ∀ r, Sepd r → pcs ((tk v).flatten ++ r) = tk v ++ pcs r
  | .tup xs, h, r, hr => by
    rw [tk_tup]
    have s1 : sepc 40 = true := by decide
    have s2 : sepc 41 = true := by decide
    simp only [List.flatten_cons, List.flatten_append, List.flatten_nil, List.append_nil, List.cons_append, List.nil_append, List.append_assoc]
    rw [pcs_sep s1, pcs_tks xs (by simpa [lv] using h) _ (.inr ⟨41, r, rfl, s2⟩), pcs_sep s2]
  | .non, h, r, hr => by rw [tk_leaf (by simp)]; simpa using pcs_one h.ne h.sp hr
  | .str _, h, r, hr => by rw [tk_leaf (by simp)]; simpa using pcs_one h.ne h.sp hr
  | .int _, h, r, hr => by rw [tk_leaf (by simp)]; simpa using pcs_one h.ne h.sp hr
  | .fl _, h, r, hr => by rw [tk_leaf (by simp)]; simpa using pcs_one h.ne h.sp hr
  | .bl _, h, r, hr => by rw [tk_leaf (by simp)]; simpa using pcs_one h.ne h.sp hr
  | .fd _, h, r, hr => by rw [tk_leaf (by simp)]; simpa using pcs_one h.ne h.sp hr
  | .ins _ _, h, r, hr => by rw [tk_leaf (by simp)]; simpa using pcs_one h.ne h.sp hr
  | .exc _ _, h, r, hr => by rw [tk_leaf (by simp)]; simpa using pcs_one h.ne h.sp hr
  | .fn _, h, r, hr => by rw [tk_leaf (by simp)]; simpa using pcs_one h.ne h.sp hr
theorem pcs_tks : ∀ (xs : List P), lvs xs → ∀ r, Sepd r → pcs ((tks xs).flatten ++ r) = tks xs ++ pcs r
  | [], _, r, _ => by simp [tks_nil]
  | [x], h, r, hr => by
    rw [tks_one]
    exact pcs_tk x h.1 r hr
  | x :: y :: l, h, r, hr => by
    have s1 : sepc 32 = true := by decide
    rw [tks_cons]
    simp only [List.flatten_cons, List.flatten_append, List.cons_append, List.nil_append, List.append_assoc]
    rw [pcs_tk x h.1 _ (.inr ⟨32, _, rfl, s1⟩), pcs_sep s1, pcs_tks (y :: l) h.2 r hr]
end
theorem vrun_cons {s s' : VS} {w : List Nat} {ws : List (List Nat)} (h : vstep s w = some s') : vrun s (w :: ws) = vrun s' ws := by
  simp only [vrun, h]
theorem leaf_step {x : P} (h : LeafOk x) (s s' : VS) (hp : vplace s.1 s.2 x = some s') : vstep s (cs (leaf x)) = some s' := by
  have nsep : ∀ c, sepc c = true → cs (leaf x) ≠ [c] := fun c hc e => by
    have := h.sp c (by rw [e]; simp)
    rw [hc] at this
    cases this
  unfold vstep
  rw [if_neg (nsep 40 (by decide)), if_neg (nsep 32 (by decide)), if_neg (nsep 41 (by decide)), h.pl]
  exact hp
mutual
theorem vrun_tk : ∀ (v : P), lv v → ∀ (s s' : VS) ws, vplace s.1 s.2 v = some s' → vrun s (tk v ++ ws) = vrun s' ws
  | .tup xs, h, s, s', ws, hp => by
    rw [tk_tup, List.cons_append, List.append_assoc]
    have e1 : vstep s [40] = some ([] :: s.1, s.2) := by unfold vstep; rw [if_pos rfl]
    have e2 : vstep (([] ++ xs) :: s.1, s.2) [41] = some s' := by
      unfold vstep
      rw [if_neg (by decide), if_neg (by decide), if_pos rfl]
      simpa using hp
    rw [vrun_cons e1, vrun_tks xs (by simpa [lv] using h) [] s.1 s.2, List.singleton_append, vrun_cons e2]
  | .non, h, s, s', ws, hp => by rw [tk_leaf (by simp), List.singleton_append, vrun_cons (leaf_step h s s' hp)]
  | .str _, h, s, s', ws, hp => by rw [tk_leaf (by simp), List.singleton_append, vrun_cons (leaf_step h s s' hp)]
  | .int _, h, s, s', ws, hp => by rw [tk_leaf (by simp), List.singleton_append, vrun_cons (leaf_step h s s' hp)]
  | .fl _, h, s, s', ws, hp => by rw [tk_leaf (by simp), List.singleton_append, vrun_cons (leaf_step h s s' hp)]
  | .bl _, h, s, s', ws, hp => by rw [tk_leaf (by simp), List.singleton_append, vrun_cons (leaf_step h s s' hp)]
  | .fd _, h, s, s', ws, hp => by rw [tk_leaf (by simp), List.singleton_append, vrun_cons (leaf_step h s s' hp)]
  | .ins _ _, h, s, s', ws, hp => by rw [tk_leaf (by simp), List.singleton_append, vrun_cons (leaf_step h s s' hp)]
  | .exc _ _, h, s, s', ws, hp => by rw [tk_leaf (by simp), List.singleton_append, vrun_cons (leaf_step h s s' hp)]
  | .fn _, h, s, s', ws, hp => by rw [tk_leaf (by simp), List.singleton_append, vrun_cons (leaf_step h s s' hp)]
theorem vrun_tks : ∀ (xs : List P), lvs xs → ∀ (t : List P) (st : List (List P)) (dn : List P) ws, vrun (t :: st, dn) (tks xs ++ ws) = vrun ((t ++ xs) :: st, dn) ws
  | [], _, t, st, dn, ws => by simp [tks_nil]
  | [x], h, t, st, dn, ws => by
    rw [tks_one]
    exact vrun_tk x h.1 _ _ ws rfl
  | x :: y :: l, h, t, st, dn, ws => by
    have e2 : vstep ((t ++ [x]) :: st, dn) [32] = some ((t ++ [x]) :: st, dn) := by
      unfold vstep
      rw [if_neg (by decide), if_pos rfl]
    rw [tks_cons, List.append_assoc, vrun_tk x h.1 (t :: st, dn) ((t ++ [x]) :: st, dn) _ rfl, List.cons_append, vrun_cons e2, vrun_tks (y :: l) h.2]
    simp
end
/-- its text's characters -/
def chars (v : P) : List Nat := (tk v).flatten
theorem read_text {v : P} (h : lv v) : readM (chars v) = some v := by
  have e1 := pcs_tk v h [] (.inl rfl)
  have e2 : pcs [] = [] := rfl
  rw [List.append_nil, e2, List.append_nil] at e1
  have e3 := vrun_tk v h ([], []) ([], [v]) [] rfl
  rw [List.append_nil] at e3
  unfold readM vof chars
  rw [e1, e3]
  show (if textOf v = mkS (tk v).flatten then some v else none) = some v
  rw [if_pos (textOf_tk v)]
theorem text_inj {v w : P} (h : lv v) (g : lv w) (e : textOf v = textOf w) : v = w := by
  have h1 := read_text h
  have h2 := read_text g
  rw [textOf_tk, textOf_tk, mkS_inj] at e
  unfold chars at h1 h2
  rw [e, h2] at h1
  cases h1
  rfl
/-! ### the drawn leaves -/
def words : List P := [.str "a", .str "on", .str "zz", .str "entry", .str "abcdefghijklm"]
def wholes : List P := [.int 0, .int 1, .int (-1), .int 7, .int (-42), .int 999999999999, .int (-999999999999)]
theorem leafOk_of {x : P} (h1 : plainM (cs (leaf x)) = [x]) (h2 : (cs (leaf x) ≠ [] && (cs (leaf x)).all fun c => !sepc c) = true) : LeafOk x := by
  simp only [Bool.and_eq_true, decide_eq_true_eq, List.all_eq_true, Bool.not_eq_true'] at h2
  exact ⟨h1, h2.1, h2.2⟩
theorem ok_word {x : P} (h : x ∈ words) : LeafOk x := by
  simp only [words, List.mem_cons, List.not_mem_nil, or_false] at h
  rcases h with rfl | rfl | rfl | rfl | rfl <;> exact leafOk_of (by kernel_rfl) (by decide +kernel)
theorem ok_whole {x : P} (h : x ∈ wholes) : LeafOk x := by
  simp only [wholes, List.mem_cons, List.not_mem_nil, or_false] at h
  rcases h with rfl | rfl | rfl | rfl | rfl | rfl | rfl <;> exact leafOk_of (by kernel_rfl) (by decide +kernel)
theorem ok_non : LeafOk .non := leafOk_of (by kernel_rfl) (by decide +kernel)
end Ev.K88
end

section
set_option Elab.async false
set_option linter.all false
set_option maxRecDepth 100000
/-! M88p: repr of values; _law_plain, _law_is. -/
namespace Ev.K88
open PySem L2 Ev
variable {F k : Nat} {Γ : Calls}
theorem char_lt (d : Char) : d.toNat < 1114112 := by
  have := d.valid
  unfold UInt32.isValidChar Nat.isValidChar at this
  unfold Char.toNat
  omega
theorem reprChar_ok {q c : Nat} (hq : q < 1114112) (hc : c < 1114112) : ∀ d ∈ Builtin.Str.reprChar q c, d < 1114112 := by
  intro d hd
  unfold Builtin.Str.reprChar at hd
  dsimp only at hd
  have hx : ∀ n, ∀ d ∈ List.replicate n 48 ++ (Nat.toDigits 16 c).map Char.toNat, d < 1114112 := fun n d hd => by
    rcases List.mem_append.mp hd with h | h
    · rw [List.eq_of_mem_replicate h]; decide
    · obtain ⟨e, _, rfl⟩ := List.mem_map.mp h
      exact char_lt e
  repeat' split at hd
  all_goals simp only [List.mem_cons, List.mem_append, List.not_mem_nil, or_false] at hd
  all_goals first
    | omega
    | (rcases hd with (h | h) | h
       · omega
       · omega
       · exact hx _ d (List.mem_append.mpr h))
theorem fold_ok {q : Nat} (hq : q < 1114112) : ∀ (l : List Nat) (acc : Array Nat), (∀ c ∈ l, c < 1114112) → (∀ c ∈ acc.toList, c < 1114112) → ∀ c ∈ (l.foldl (fun out c => out ++ (Builtin.Str.reprChar q c).toArray) acc).toList, c < 1114112
  | [], acc, _, ha => ha
  | c :: r, acc, h, ha => by
    rw [List.foldl_cons]
    refine fold_ok hq r _ (fun d hd => h d (List.mem_cons_of_mem _ hd)) fun d hd => ?_
    rw [Array.toList_append] at hd
    rcases List.mem_append.mp hd with hd | hd
    · exact ha d hd
    · exact reprChar_ok hq (h c (by simp)) d (by simpa using hd)
theorem quote_lt (x : Str) : reprQuote x < 1114112 := by
  unfold reprQuote
  split <;> decide
theorem reprText_ok {x : Str} (h : PyData.strOk x = true) : PyData.strOk (reprText x) = true := by
  rw [strOk_iff] at h ⊢
  intro c hc
  have e : (reprText x).cps.toList = (x.cps.toList.foldl (fun out c => out ++ (Builtin.Str.reprChar (reprQuote x) c).toArray) #[reprQuote x]).toList ++ [reprQuote x] := by
    unfold reprText
    rw [Array.toList_push, ← Array.foldl_toList]
  rw [e] at hc
  rcases List.mem_append.mp hc with hc | hc
  · exact fold_ok (quote_lt x) _ _ h (fun d hd => by
      have : d = reprQuote x := by simpa using hd
      rw [this]
      exact quote_lt x) c hc
  · rw [List.mem_singleton.mp hc]
    exact quote_lt x
theorem ok_app {a b : Str} (ha : PyData.strOk a = true) (hb : PyData.strOk b = true) : PyData.strOk (a ++ b) = true := by
  rw [strOk_iff] at ha hb ⊢
  intro c hc
  have e : (a ++ b).cps.toList = a.cps.toList ++ b.cps.toList := by
    show (a.cps ++ b.cps).toList = _
    simp
  rw [e] at hc
  rcases List.mem_append.mp hc with h | h
  · exact ha c h
  · exact hb c h
theorem ok_join {sep : Str} (hs : PyData.strOk sep = true) : ∀ (ts : List Str), (∀ t ∈ ts, PyData.strOk t = true) → PyData.strOk (Str.join sep ts) = true
  | [], _ => (by decide +kernel : PyData.strOk Str.empty = true)
  | [t], h => h t (by simp)
  | t :: u :: r, h => ok_app (ok_app (h t (by simp)) hs) (ok_join hs (u :: r) fun x hx => h x (by simp at hx ⊢; exact .inr hx))
theorem len_app (a b : Str) : (a ++ b).length = a.length + b.length := by
  show (a.cps ++ b.cps).size = _
  simp [Str.length]
theorem len_join (ts : List Str) : (Str.join ", " ts).length ≤ (ts.map fun t => t.length + 2).sum := by
  induction ts with
  | nil => exact Nat.zero_le _
  | cons t r ih =>
    cases r with
    | nil => simp [Str.join]
    | cons u r =>
      have e : (Str.join ", " (t :: u :: r)).length = t.length + 2 + (Str.join ", " (u :: r)).length := by
        show (t ++ ", " ++ Str.join ", " (u :: r)).length = _
        rw [len_app, len_app]
        rfl
      rw [e, List.map_cons, List.sum_cons]
      omega
theorem tuple_len (ts : List Str) : (tupleText ts).length ≤ (ts.map fun t => t.length + 2).sum + 3 := by
  unfold tupleText
  have := len_join ts
  have e1 : ("(" : Str).length = 1 := rfl
  rw [len_app, len_app]
  split
  · have e2 : (Str.ofString ",)").length = 2 := rfl
    omega
  · have e2 : (Str.ofString ")").length = 1 := rfl
    omega
theorem tuple_ok (ts : List Str) (h : ∀ t ∈ ts, PyData.strOk t = true) : PyData.strOk (tupleText ts) = true := by
  unfold tupleText
  refine ok_app (ok_app (by decide +kernel) (ok_join (by decide +kernel) ts h)) ?_
  split <;> decide +kernel
mutual
theorem shown_ok : ∀ (x : P), good x = true → (toD x).showable = true ∧ PyData.strOk (toD x).shown = true ∧ (toD x).shown.length + 2 ≤ 10 * W x
  | .tup xs, h => by
    obtain ⟨h1, h2, h3⟩ := showns_ok xs (by simpa [good] using h)
    have := tuple_len (PyData.shownAll (toDs xs))
    refine ⟨by simpa [toD, PyData.showable] using h1, by simpa [toD, PyData.shown] using tuple_ok _ h2, ?_⟩
    simp only [toD, PyData.shown, W]
    omega
  | .non, _ => ⟨rfl, by decide +kernel, by decide +kernel⟩
  | .str s, h => by
    simp [good] at h
    refine ⟨rfl, by simpa [toD, PyData.shown] using reprText_ok h.1.2, ?_⟩
    have := StrLaws.reprText_len s (fun c hc => Nat.lt_of_lt_of_le (strOk_iff.mp h.1.2 c hc) (by decide))
    simp only [toD, PyData.shown, W, leaf]
    omega
  | .int i, h => by
    have hi : absI i < 1000000000000 := by simpa [good] using h
    refine ⟨by simpa [toD, PyData.showable] using log_small hi, by simpa [toD, PyData.shown] using strOk_of _, ?_⟩
    simp only [toD, PyData.shown, W, leaf]
    omega
  | .fl _, h => by simp [good] at h
  | .bl _, h => by simp [good] at h
  | .fd _, h => by simp [good] at h
  | .ins _ _, h => by simp [good] at h
  | .exc _ _, h => by simp [good] at h
  | .fn _, h => by simp [good] at h
theorem showns_ok : ∀ (xs : List P), goods xs = true → PyData.showableAll (toDs xs) = true ∧ (∀ t ∈ PyData.shownAll (toDs xs), PyData.strOk t = true) ∧ ((PyData.shownAll (toDs xs)).map fun t => t.length + 2).sum ≤ 10 * Ws xs
  | [], _ => ⟨rfl, by simp [toDs, PyData.shownAll], by simp [toDs, PyData.shownAll]⟩
  | x :: xs, h => by
    simp only [goods, Bool.and_eq_true] at h
    obtain ⟨h1, h2, h3⟩ := shown_ok x h.1
    obtain ⟨g1, g2, g3⟩ := showns_ok xs h.2
    refine ⟨by simp [toDs, PyData.showableAll, h1, g1], fun t ht => ?_, ?_⟩
    · simp only [toDs, PyData.shownAll, List.mem_cons] at ht
      rcases ht with rfl | ht
      · exact h2
      · exact g2 t ht
    · simp only [toDs, PyData.shownAll, List.map_cons, List.sum_cons, Ws]
      omega
end
/-- what _law_is is asked of -/
structure Sh (x : P) : Prop where
  ok : okv x = true
  dp : dp x ≤ 60
  sa : (toD x).showable = true
  so : PyData.strOk (toD x).shown = true
  sl : (toD x).shown.length ≤ lim
theorem Sh.good {x : P} (h : good x = true) (hd : dep x ≤ 50) (hw : W x ≤ 30000) : Sh x := by
  obtain ⟨h1, h2, h3⟩ := shown_ok x h
  obtain ⟨g1, g2⟩ := good_okv h
  have hl : lim = 1000000 := rfl
  exact ⟨g1, by omega, h1, h2, by omega⟩
theorem Sh.str {s : Str} (h : PyData.strOk s = true) (hl : s.length ≤ 90000) : Sh (.str s) := by
  have := StrLaws.reprText_len s (fun c hc => Nat.lt_of_lt_of_le (strOk_iff.mp h c hc) (by decide))
  have hlim : lim = 1000000 := rfl
  refine ⟨h, by simp [Ev.K88.dp], rfl, by simpa [toD, PyData.shown] using reprText_ok h, ?_⟩
  show (reprText s).length ≤ lim
  omega
theorem repr_sh {x : P} (h : Sh x) : reprP (.p x) = some (.str (toD x).shown) := by
  obtain ⟨h1, h2, h3⟩ := okv_data h.ok
  unfold reprP
  show (match x.data with
    | some a => if (a.showable && decide (a.shown.length ≤ lim) && decide (a.depth ≤ 100)) = true then some (P.str a.shown) else none
    | none => none) = _
  rw [h1]
  dsimp only
  have := h.dp
  rw [h.sa, decide_eq_true h.sl, decide_eq_true (show (toD x).depth ≤ 100 by omega)]
  rfl
end Ev.K88
end

section
set_option Elab.async false
set_option linter.all false
set_option maxRecDepth 100000
/-! M88q: _law_plain, _law_is, _law_value_text. -/
namespace Ev.K88
open PySem L2 Ev
variable {F k : Nat} {Γ : Calls}
theorem compLoop_none {elt cond : Env → Out} {prot : List Nat} {i : Nat} {e : Env} (hp : i ∉ prot) (hi : e[i]? = some none) : ∀ {xs acc : List P}, (∀ x ∈ xs, cond (e.set i (some (.p x))) = .ok (.p (.bl false)) (e.set i (some (.p x)))) →
    compLoop elt cond (asgT prot (.nm i false)) [i] xs e acc = .ok (.pl acc) e
  | [], acc, _ => by simp [compLoop]
  | x :: xs, acc, hc => by
    have hlt : i < e.length := (List.getElem?_eq_some_iff.mp hi).1
    have back : (e.set i (some (.p x))).set i none = e := by
      rw [List.set_set]
      exact set_get_self hi
    have ih := compLoop_none (elt := elt) (cond := cond) hp hi (xs := xs) (acc := acc) (fun y hy => hc y (List.mem_cons_of_mem _ hy))
    unfold compLoop
    have hg : asgT prot (.nm i false) (.p x) e = some (e.set i (some (.p x))) := by
      unfold asgT
      rw [if_neg hp, if_pos hlt]
      rfl
    rw [hg]
    dsimp only
    rw [hc x (by simp)]
    dsimp only
    show compLoop elt cond (asgT prot (.nm i false)) [i] xs ((e.set i (some (.p x))).set i none) acc = _
    rw [back, ih]
theorem okvs_mem : ∀ {xs : List P}, okvs xs = true → ∀ x ∈ xs, okv x = true ∧ dp x ≤ dps xs
  | [], _, x, h => by simp at h
  | y :: ys, h, x, hx => by
    simp only [okvs, Bool.and_eq_true] at h
    rcases List.mem_cons.mp hx with rfl | hx
    · exact ⟨h.1, by simp only [dps]; omega⟩
    · obtain ⟨h1, h2⟩ := okvs_mem h.2 x hx
      exact ⟨h1, by simp only [dps]; omega⟩
def lp_c : T := .comp (.lit (.int 1)) (.nm 1 false) (.pk 0) (some (.not (.call "_law_plain" [(.pk 1)]))) [1]
theorem lp_comp {v : P} {xs : List P} (hv : iterOf (.p v) = some xs) (hΓ : ∀ x ∈ xs, Γ "_law_plain" [.p x] = .ok (.p (.bl true)) [.p x]) : evT Γ lp_c [some (.p v), none] = .ok (.pl []) [some (.p v), none] := by
  unfold lp_c
  rw [evT_comp]
  have e1 : evI Γ (.pk 0) [some (.p v), none] = .ok xs [some (.p v), none] := by
    rw [evI_val rfl, show evT Γ (.pk 0) [some (.p v), none] = .ok (.p .non) [some (.p v), none] from by rw [evT]; rfl]
    unfold OutI.ofOut
    show (match iterOf (.p v) with
      | some xs => OutI.ok xs _
      | none => .bad) = _
    rw [hv]
  rw [e1]
  show (if ownOk [1] [some (.p v), none] then lcEnd (.pk 0) [1] [some (.p v), none] (compLoop _ _ (asgT (notOwn [1] [some (.p v), none]) (.nm 1 false)) [1] xs [some (.p v), none] []) else .bad) = _
  rw [if_pos (show ownOk [1] [some (.p v), none] = true from rfl), compLoop_none (by simp [notOwn]) rfl]
  · rfl
  · intro x hx
    have t1 : evT Γ (.not (.call "_law_plain" [(.pk 1)])) [some (.p v), some (.p x)] = .ok (.p (.bl false)) [some (.p v), some (.p x)] := ev_not (ev_call rfl (hΓ x hx) rfl) rfl
    show evC Γ (some (.not (.call "_law_plain" [(.pk 1)]))) [some (.p v), some (.p x)] = _
    simp only [evC, t1, Out.bind]
    rfl
theorem m_law_plain : ∀ {d : Nat} {x : P}, okv x = true → dp x ≤ d → calls prog.fns F (k + d + 1) "_law_plain" [.p x] = .ok (.p (.bl true)) [.p x]
  | d, .non, _, _ => by kernel_rfl
  | d, .str _, _, _ => by kernel_rfl
  | d, .int _, _, _ => by kernel_rfl
  | 0, .tup xs, h, hd => by simp [dp] at hd
  | 0, .fl xs, h, hd => by simp [dp] at hd
  | d + 1, .tup xs, h, hd => by
    have h' : okvs xs = true := by simpa [okv] using h
    simp only [dp] at hd
    have c := lp_comp (Γ := calls prog.fns F (k + d + 1)) (v := .tup xs) (xs := xs) rfl fun x hx => by
      obtain ⟨h1, h2⟩ := okvs_mem h' x hx
      exact m_law_plain (d := d) h1 (by omega)
    have lk : calls prog.fns F (k + (d + 1) + 1) "_law_plain" [.p (.tup xs)] = runFn (calls prog.fns F (k + d + 1)) F d__law_plain.fn [.p (.tup xs)] := rfl
    rw [lk]
    have t : evT (calls prog.fns F (k + d + 1)) (.cmp .Eq lp_c (.lst [])) [some (.p (.tup xs)), none] = .ok (.p (.bl true)) [some (.p (.tup xs)), none] := ev_cmp c rfl rfl rfl (by decide +kernel)
    have hb : evB (calls prog.fns F (k + d + 1)) F b__law_plain [] [some (.p (.tup xs)), none] = .ret (.p (.bl true)) [some (.p (.tup xs)), none] := by
      refine evB_rt ((ev_ife_t (d := .p (.bl true)) rfl rfl).trans (evB_rt ?_))
      simp only [evS]
      rw [show T.cmp CmpOp.Eq (.comp (.lit (.int 1)) (.nm 1 false) (.pk 0) (some (.not (.call "_law_plain" [(.pk 1)]))) [1]) (.lst []) = .cmp .Eq lp_c (.lst []) from rfl, t]
      rfl
    unfold runFn
    rw [if_pos ⟨rfl, by decide⟩]
    show (match evB (calls prog.fns F (k + d + 1)) F b__law_plain [] [some (.p (.tup xs)), none] with
      | .ret d e => _
      | .nx e => _
      | .exc c fs e => _
      | _ => _) = _
    rw [hb]
    rfl
  | d + 1, .fl xs, h, hd => by
    have h' : okvs xs = true := by simpa [okv] using h
    simp only [dp] at hd
    have c := lp_comp (Γ := calls prog.fns F (k + d + 1)) (v := .fl xs) (xs := xs) rfl fun x hx => by
      obtain ⟨h1, h2⟩ := okvs_mem h' x hx
      exact m_law_plain (d := d) h1 (by omega)
    have lk : calls prog.fns F (k + (d + 1) + 1) "_law_plain" [.p (.fl xs)] = runFn (calls prog.fns F (k + d + 1)) F d__law_plain.fn [.p (.fl xs)] := rfl
    rw [lk]
    have t : evT (calls prog.fns F (k + d + 1)) (.cmp .Eq lp_c (.lst [])) [some (.p (.fl xs)), none] = .ok (.p (.bl true)) [some (.p (.fl xs)), none] := ev_cmp c rfl rfl rfl (by decide +kernel)
    have hb : evB (calls prog.fns F (k + d + 1)) F b__law_plain [] [some (.p (.fl xs)), none] = .ret (.p (.bl true)) [some (.p (.fl xs)), none] := by
      refine evB_rt ((ev_ife_t (d := .p (.bl true)) rfl rfl).trans (evB_rt ?_))
      simp only [evS]
      rw [show T.cmp CmpOp.Eq (.comp (.lit (.int 1)) (.nm 1 false) (.pk 0) (some (.not (.call "_law_plain" [(.pk 1)]))) [1]) (.lst []) = .cmp .Eq lp_c (.lst []) from rfl, t]
      rfl
    unfold runFn
    rw [if_pos ⟨rfl, by decide⟩]
    show (match evB (calls prog.fns F (k + d + 1)) F b__law_plain [] [some (.p (.fl xs)), none] with
      | .ret d e => _
      | .nx e => _
      | .exc c fs e => _
      | _ => _) = _
    rw [hb]
    rfl
  | _, .bl _, h, _ => by simp [okv] at h
  | _, .fd _, h, _ => by simp [okv] at h
  | _, .ins _ _, h, _ => by simp [okv] at h
  | _, .exc _ _, h, _ => by simp [okv] at h
  | _, .fn _, h, _ => by simp [okv] at h
theorem m_law_is {x : P} (h : Sh x) : calls prog.fns F (k + 62) "_law_is" [.p x, .p x] = .ok (.p (.bl true)) [.p x, .p x] := by
  have lp := m_law_plain (F := F) (k := k) (d := 60) h.ok h.dp
  have lk : calls prog.fns F (k + 62) "_law_is" [.p x, .p x] = runFn (calls prog.fns F (k + 61)) F d__law_is.fn [.p x, .p x] := rfl
  rw [lk]
  have hd := h.dp
  have t1 : evT (calls prog.fns F (k + 61)) (.call "_law_plain" [(.pk 0)]) [some (.p x), some (.p x)] = .ok (.p (.bl true)) [some (.p x), some (.p x)] := ev_call rfl lp rfl
  have q : eqD (.p x) (.p x) = some true := by
    rw [eqD_p h.ok h.ok (by omega) (by omega)]
    simp
  have t2 : evT (calls prog.fns F (k + 61)) (.cmp .Eq (.pk 0) (.pk 1)) [some (.p x), some (.p x)] = .ok (.p (.bl true)) [some (.p x), some (.p x)] := ev_cmp (ev_pk rfl) (ev_pk rfl) rfl rfl q
  have t3 : evT (calls prog.fns F (k + 61)) (.cmp .Eq (.pk 1) (.pk 0)) [some (.p x), some (.p x)] = .ok (.p (.bl true)) [some (.p x), some (.p x)] := ev_cmp (ev_pk rfl) (ev_pk rfl) rfl rfl q
  have r0 : ∀ i, getE [some (.p x), some (.p x)] i = some (.p x) → evT (calls prog.fns F (k + 61)) (.blt "repr" [(.pk i)]) [some (.p x), some (.p x)] = .ok (.p (.str (toD x).shown)) [some (.p x), some (.p x)] := fun i hi => by
    have e0 : evTs (calls prog.fns F (k + 61)) [.pk i] [some (.p x), some (.p x)] = .ok [.p .non] [some (.p x), some (.p x)] := by
      simp only [evTs]
      rw [ev_pk hi]
    simp only [evT]
    rw [e0]
    simp only [OutL.bind, fins]
    rw [show fin (.pk i) (.p .non) [some (.p x), some (.p x)] = some (.p x) from hi]
    show opt ((reprP (.p x)).map .p) _ = _
    rw [repr_sh h]
    rfl
  have q2 : eqD (.p (.str (toD x).shown)) (.p (.str (toD x).shown)) = some true := by
    rw [eqD_p (x := .str (toD x).shown) (y := .str (toD x).shown) h.so h.so (by simp [dp]) (by simp [dp])]
    simp
  have t4 : evT (calls prog.fns F (k + 61)) (.cmp .Eq (.blt "repr" [(.pk 0)]) (.blt "repr" [(.pk 1)])) [some (.p x), some (.p x)] = .ok (.p (.bl true)) [some (.p x), some (.p x)] := ev_cmp (r0 0 rfl) (r0 1 rfl) rfl rfl q2
  have hb : evB (calls prog.fns F (k + 61)) F b__law_is [] [some (.p x), some (.p x)] = .ret (.p (.bl true)) [some (.p x), some (.p x)] := by
    refine evB_rt ?_
    simp only [evS]
    rw [ev_and_t t1 rfl, ev_and_t t2 rfl, ev_and_t t3 rfl, t4]
    rfl
  unfold runFn
  rw [if_pos ⟨rfl, by decide⟩]
  show (match evB (calls prog.fns F (k + 61)) F b__law_is [] [some (.p x), some (.p x)] with
    | .ret d e => _
    | .nx e => _
    | .exc c fs e => _
    | _ => _) = _
  rw [hb]
  rfl
end Ev.K88
end

section
set_option Elab.async false
set_option linter.all false
set_option maxRecDepth 100000
/-! M88r: _law_value_text. -/
namespace Ev.K88
open PySem L2 Ev
variable {F k : Nat} {Γ : Calls}
theorem goods_mem : ∀ {xs : List P}, goods xs = true → ∀ x ∈ xs, good x = true ∧ dep x ≤ deps xs ∧ W x ≤ Ws xs
  | [], _, x, h => by simp at h
  | y :: ys, h, x, hx => by
    simp only [goods, Bool.and_eq_true] at h
    rcases List.mem_cons.mp hx with rfl | hx
    · exact ⟨h.1, by simp only [deps]; omega, by simp only [Ws]; omega⟩
    · obtain ⟨h1, h2, h3⟩ := goods_mem h.2 x hx
      exact ⟨h1, by simp only [deps]; omega, by simp only [Ws]; omega⟩
theorem chars_len (v : P) : (chars v).length + 1 ≤ W v := by
  obtain ⟨_, h⟩ := W_tok v
  have : ∀ ss : List Str, ((ss.map cs).flatten).length = chs ss := by
    intro ss
    induction ss with
    | nil => rfl
    | cons s ss ih =>
      rw [List.map_cons, List.flatten_cons, List.length_append, ih, chs_cons]
      rfl
  show ((toks v).map cs).flatten.length + 1 ≤ _
  rw [this]
  exact h
theorem text_len (v : P) : (textOf v).length + 1 ≤ W v := by
  rw [textOf_tk, mkS_len]
  exact chars_len v
theorem join_tks : ∀ (xs : List P), TL.joinL [32] (xs.map chars) = (tks xs).flatten
  | [] => rfl
  | [x] => by rw [tks_one]; rfl
  | x :: y :: r => by
    have ih := join_tks (y :: r)
    rw [tks_cons]
    simp only [List.map_cons, TL.joinL, List.flatten_append, List.flatten_cons] at ih ⊢
    rw [ih]
    rfl
theorem text_tup (xs : List P) : ("(" : Str) ++ Txt.join " " (xs.map textOf) ++ ")" = textOf (.tup xs) := by
  have h1 : xs.map textOf = (xs.map chars).map SX.S := by
    rw [List.map_map]
    refine List.map_congr_left fun x _ => ?_
    exact textOf_tk x
  have h2 := SX.join_S [32] (xs.map chars)
  have h3 : (" " : Str) = SX.S [32] := rfl
  rw [h1, h3, h2, join_tks, textOf_tk, tk_tup]
  simp only [List.flatten_cons, List.flatten_append, List.flatten_nil, List.append_nil]
  have app : ∀ a b : List Nat, mkS a ++ mkS b = mkS (a ++ b) := fun a b => by
    show (⟨(mkS a).cps ++ (mkS b).cps⟩ : Str) = _
    unfold mkS
    simp
  rw [show ("(" : Str) = mkS [40] from rfl, show (")" : Str) = mkS [41] from rfl, show SX.S (tks xs).flatten = mkS (tks xs).flatten from rfl, app, app]
  simp
theorem strsOf_map {α : Type} (f : α → Str) : ∀ (xs : List α), strsOf (xs.map fun x => .str (f x)) = some (xs.map f)
  | [] => rfl
  | x :: xs => by
    simp only [List.map_cons, strsOf, strsOf_map f xs]
theorem sum_text : ∀ (xs : List P), ((xs.map textOf).map (·.length)).sum + xs.length ≤ Ws xs
  | [] => by simp [Ws]
  | x :: xs => by
    have := sum_text xs
    have := text_len x
    simp only [List.map_cons, List.sum_cons, List.length_cons, Ws]
    omega
def lt_c : T := .comp (.call "_law_value_text" [(.pk 1)]) (.nm 1 false) (.pk 0) none [1]
theorem m_law_text : ∀ {d : Nat} {v : P}, good v = true → dep v ≤ d → W v ≤ 30000 → calls prog.fns F (k + d + 1) "_law_value_text" [.p v] = .ok (.p (.str (textOf v))) [.p v]
  | d, .non, _, _, _ => by
    have : textOf .non = ("-" : Str) := by unfold textOf; kernel_rfl
    rw [this]
    kernel_rfl
  | d, .str s, _, _, _ => by
    have : textOf (.str s) = s := by
      rw [textOf_tk, tk_leaf (by simp)]
      simp [leaf, cs]
      exact (mkS_of s).symm
    rw [this]
    kernel_rfl
  | d, .int i, h, _, _ => by
    have hi : absI i < 1000000000000 := by simpa [good] using h
    have e : textOf (.int i) = toString i := by
      rw [textOf_tk, tk_leaf (by simp)]
      simp only [leaf, List.flatten_cons, List.flatten_nil, List.append_nil]
      exact (mkS_of _).symm
    rw [e]
    have lk : calls prog.fns F (k + d + 1) "_law_value_text" [.p (.int i)] = runFn (calls prog.fns F (k + d)) F d__law_value_text.fn [.p (.int i)] := rfl
    rw [lk]
    have b2 : bltop "str" [D.p (.int i)] = some (.p (.str (toString i))) := by
      show (if i.natAbs.log2 < 1920 then some (D.p (.str (toString i))) else none) = _
      rw [if_pos (log_small hi)]
    have hb : evB (calls prog.fns F (k + d)) F b__law_value_text [] [some (.p (.int i)), none] = .ret (.p (.str (toString i))) [some (.p (.int i)), none] := by
      unfold b__law_value_text
      rw [evB_nx ((ev_ife_f (d := .p (.bl false)) rfl rfl).trans rfl)]
      refine evB_rt ?_
      simp only [evS]
      rw [ev_ife_ff (d := .p (.bl false)) rfl rfl]
      rw [show evT (calls prog.fns F (k + d)) (.blt "str" [(.pk 0)]) [some (.p (.int i)), none] = opt (bltop "str" [D.p (.int i)]) [some (.p (.int i)), none] from rfl, b2]
      rfl
    unfold runFn
    rw [if_pos ⟨rfl, by decide⟩]
    show (match evB (calls prog.fns F (k + d)) F b__law_value_text [] [some (.p (.int i)), none] with
      | .ret d e => _
      | .nx e => _
      | .exc c fs e => _
      | _ => _) = _
    rw [hb]
    rfl
  | 0, .tup xs, h, hd, _ => by simp [dep] at hd
  | d + 1, .tup xs, h, hd, hw => by
    have h' : goods xs = true := by simpa [good] using h
    simp only [dep] at hd
    simp only [W] at hw
    have hlim : lim = 1000000 := rfl
    have lk : calls prog.fns F (k + (d + 1) + 1) "_law_value_text" [.p (.tup xs)] = runFn (calls prog.fns F (k + d + 1)) F d__law_value_text.fn [.p (.tup xs)] := rfl
    rw [lk]
    have hxs := Ws_len xs
    have c : evT (calls prog.fns F (k + d + 1)) lt_c [some (.p (.tup xs)), none] = .ok (.pl (xs.map fun x => .str (textOf x))) [some (.p (.tup xs)), none] := by
      unfold lt_c
      rw [evT_comp]
      have e1 : evI (calls prog.fns F (k + d + 1)) (.pk 0) [some (.p (.tup xs)), none] = .ok xs [some (.p (.tup xs)), none] := by
        rw [evI_val rfl, show evT (calls prog.fns F (k + d + 1)) (.pk 0) [some (.p (.tup xs)), none] = .ok (.p .non) [some (.p (.tup xs)), none] from by rw [evT]; rfl]
        rfl
      rw [e1]
      show (if ownOk [1] [some (.p (.tup xs)), none] then lcEnd (.pk 0) [1] [some (.p (.tup xs)), none] (compLoop _ _ (asgT (notOwn [1] [some (.p (.tup xs)), none]) (.nm 1 false)) [1] xs [some (.p (.tup xs)), none] []) else .bad) = _
      rw [if_pos (show ownOk [1] [some (.p (.tup xs)), none] = true from rfl), compLoop_map (h := fun x => .str (textOf x)) (by simp [notOwn]) rfl]
      · rfl
      · intro x hx
        obtain ⟨h1, h2, h3⟩ := goods_mem h' x hx
        exact ev_call rfl (m_law_text (d := d) h1 (by omega) (by omega)) rfl
      · simp; omega
    have j1 : evT (calls prog.fns F (k + d + 1)) (.join (.lit (.str " ")) lt_c) [some (.p (.tup xs)), none] = .ok (.p (.str (Txt.join " " (xs.map textOf)))) [some (.p (.tup xs)), none] := by
      have l0 : evT (calls prog.fns F (k + d + 1)) (.lit (.str " ")) [some (.p (.tup xs)), none] = .ok (.p (.str " ")) [some (.p (.tup xs)), none] := rfl
      rw [evT]
      dsimp only
      rw [l0]
      simp only [Out.bind, fin]
      rw [c]
      simp only [Out.bind]
      show optP (joinP " " (xs.map fun x => .str (textOf x))) _ = _
      unfold joinP
      rw [strsOf_map]
      dsimp only
      have := sum_text xs
      have e1 : (" " : Str).length = 1 := rfl
      rw [if_pos (by rw [e1, List.length_map]; omega)]
      rfl
    have tl := text_len (.tup xs)
    rw [← text_tup] at tl
    simp only [len_app, W] at tl
    have a1 : evT (calls prog.fns F (k + d + 1)) (.bin .Add (.lit (.str "(")) (.join (.lit (.str " ")) lt_c)) [some (.p (.tup xs)), none] = .ok (.p (.str (("(" : Str) ++ Txt.join " " (xs.map textOf)))) [some (.p (.tup xs)), none] := by
      refine ev_bin rfl j1 rfl rfl ?_
      show (if ("(" : Str).length + (Txt.join " " (xs.map textOf)).length ≤ lim then some (D.p (.str (("(" : Str) ++ Txt.join " " (xs.map textOf)))) else none) = _
      rw [if_pos (by omega)]
    have a2 : evT (calls prog.fns F (k + d + 1)) (.bin .Add (.bin .Add (.lit (.str "(")) (.join (.lit (.str " ")) lt_c)) (.lit (.str ")"))) [some (.p (.tup xs)), none] = .ok (.p (.str (textOf (.tup xs)))) [some (.p (.tup xs)), none] := by
      rw [← text_tup]
      refine ev_bin a1 rfl rfl rfl ?_
      show (if (("(" : Str) ++ Txt.join " " (xs.map textOf)).length + (")" : Str).length ≤ lim then some (D.p (.str ((("(" : Str) ++ Txt.join " " (xs.map textOf)) ++ (")" : Str)))) else none) = _
      rw [if_pos (by rw [len_app]; omega)]
    have hb : evB (calls prog.fns F (k + d + 1)) F b__law_value_text [] [some (.p (.tup xs)), none] = .ret (.p (.str (textOf (.tup xs)))) [some (.p (.tup xs)), none] := by
      refine evB_rt ((ev_ife_t (d := .p (.bl true)) rfl rfl).trans (evB_rt ?_))
      simp only [evS]
      rw [show T.comp (.call "_law_value_text" [(.pk 1)]) (.nm 1 false) (.pk 0) none [1] = lt_c from rfl, a2]
      rfl
    unfold runFn
    rw [if_pos ⟨rfl, by decide⟩]
    show (match evB (calls prog.fns F (k + d + 1)) F b__law_value_text [] [some (.p (.tup xs)), none] with
      | .ret d e => _
      | .nx e => _
      | .exc c fs e => _
      | _ => _) = _
    rw [hb]
    rfl
  | _, .fl _, h, _, _ => by simp [good] at h
  | _, .bl _, h, _, _ => by simp [good] at h
  | _, .fd _, h, _, _ => by simp [good] at h
  | _, .ins _ _, h, _, _ => by simp [good] at h
  | _, .exc _ _, h, _, _ => by simp [good] at h
  | _, .fn _, h, _, _ => by simp [good] at h
end Ev.K88
end

section
set_option Elab.async false
set_option linter.all false
set_option maxRecDepth 100000
/-! M88s: draws. -/
namespace Ev.K88
open PySem L2 Ev
variable {F k : Nat} {Γ : Calls}
structure SI (T : Nat) (s : DSt) : Prop where
  r : 0 ≤ s.rest
  g : ∀ x ∈ s.great, 0 ≤ x
  c : ∀ x ∈ s.cells, 0 ≤ x
  t0 : 0 ≤ s.turn
  t1 : s.turn ≤ T
theorem SI.mono {T T' : Nat} {s : DSt} (h : SI T s) (le : T ≤ T') : SI T' s := ⟨h.r, h.g, h.c, h.t0, by have := h.t1; omega⟩
theorem ev_blt1 {f : Str} {t : T} {e e' : Env} {d d' r : D} (h : evT Γ t e = .ok d e') (hf : fin t d e' = some d') (hb : bltop f [d'] = some r) : evT Γ (.blt f [t]) e = .ok r e' := by
  have e0 : evTs Γ [t] e = .ok [d] e' := by
    simp only [evTs]
    rw [h]
  simp only [evT]
  rw [e0]
  simp only [OutL.bind, fins, hf, hb, opt]
theorem evB_one {s : S} {prot : List Nat} {e e' : Env} (h : evS Γ F s prot e = .nx e') : evB Γ F [s] prot e = .nx e' := by
  rw [evB_nx h]
  rfl
theorem asg_int {prot : List Nat} {i : Nat} {t : T} {e e' : Env} {n : Int} (hp : i ∉ prot) (h : evT Γ t e = .ok (.p (.int n)) e') (hl : i < e'.length) : evS Γ F (.asg (.nm i false) t) prot e = .nx (e'.set i (some (.p (.int n)))) := by
  simp only [evS, h, Out.thn]
  rw [asg_nm (x := .int n) hp hl rfl rfl]
abbrev x_env (s : DSt) (o1 : Option D) (t f : Int) (o4 o5 : Option D) : Env := [some (.st s), o1, some (.p (.int t)), some (.p (.int f)), o4, o5]
def x_in : List S := [.asg (.nm 4 false) (.bin .Mod (.blt "int" [(.bin .Add (.bin .Add (.bin .Mult (.pk 4) (.lit (.int 48271))) (.pk 5)) (.pk 2))]) (.pk 1))]
theorem x_one {s : DSt} {p t f b c : Int} {prot : List Nat} (hp : 4 ∉ prot) (h0 : 0 < p) : evB Γ F x_in prot (x_env s (some (.p (.int p))) t f (some (.p (.int b))) (some (.p (.int c)))) = .nx (x_env s (some (.p (.int p))) t f (some (.p (.int ((b * 48271 + c + t) % p)))) (some (.p (.int c)))) := by
  have m : binop .Mult (.p (.int b)) (.p (.int 48271)) = some (.p (.int (b * 48271))) := by
    show (if (smallI b || smallI 48271) = true then some (D.p (.int (b * 48271))) else none) = _
    rw [show smallI 48271 = true from by decide +kernel, Bool.or_true]
    rfl
  have a1 : evT Γ (.bin .Mult (.pk 4) (.lit (.int 48271))) (x_env s (some (.p (.int p))) t f (some (.p (.int b))) (some (.p (.int c)))) = .ok (.p (.int (b * 48271))) _ := ev_bin (ev_pk rfl) rfl rfl rfl m
  have a2 : evT Γ (.bin .Add (.bin .Mult (.pk 4) (.lit (.int 48271))) (.pk 5)) (x_env s (some (.p (.int p))) t f (some (.p (.int b))) (some (.p (.int c)))) = .ok (.p (.int (b * 48271 + c))) _ := ev_bin a1 (ev_pk rfl) rfl rfl rfl
  have a3 : evT Γ (.bin .Add (.bin .Add (.bin .Mult (.pk 4) (.lit (.int 48271))) (.pk 5)) (.pk 2)) (x_env s (some (.p (.int p))) t f (some (.p (.int b))) (some (.p (.int c)))) = .ok (.p (.int (b * 48271 + c + t))) _ := ev_bin a2 (ev_pk rfl) rfl rfl rfl
  have a4 := ev_blt1 (f := "int") a3 rfl (r := .p (.int (b * 48271 + c + t))) rfl
  have m5 : binop .Mod (.p (.int (b * 48271 + c + t))) (.p (.int p)) = some (.p (.int ((b * 48271 + c + t) % p))) := by
    show (if 0 < p then some (D.p (.int ((b * 48271 + c + t) % p))) else none) = _
    rw [if_pos h0]
  have a5 := ev_bin a4 (ev_pk (i := 1) (d := .p (.int p)) rfl) rfl rfl m5
  exact evB_one (asg_int hp a5 (by simp))
theorem x_inner {s : DSt} {p t f : Int} {prot : List Nat} (hp : 4 ∉ prot) (hp5 : 5 ∉ prot) (h0 : 0 < p) : ∀ {cs : List Int} {b : Int} {o5 : Option D},
    ∃ o5', forL prot (.nm 5 false) (evB Γ F x_in prot) (cs.map .int) (x_env s (some (.p (.int p))) t f (some (.p (.int b))) o5) = .nx (x_env s (some (.p (.int p))) t f (some (.p (.int (cs.foldl (fun b c => (b * 48271 + c + t) % p) b)))) o5')
  | [], b, o5 => ⟨o5, rfl⟩
  | c :: cs, b, o5 => by
    obtain ⟨o5', ih⟩ := x_inner (s := s) (t := t) (f := f) hp hp5 h0 (cs := cs) (b := (b * 48271 + c + t) % p) (o5 := some (.p (.int c)))
    refine ⟨o5', ?_⟩
    rw [List.map_cons, forL, asg_nm (x := .int c) hp5 (by simp) rfl rfl]
    dsimp only
    rw [show (x_env s (some (.p (.int p))) t f (some (.p (.int b))) o5).set 5 (some (.p (.int c))) = x_env s (some (.p (.int p))) t f (some (.p (.int b))) (some (.p (.int c))) from rfl, x_one hp h0]
    dsimp only
    rw [ih]
    rfl
def x_out : List S := [
    .asg (.nm 4 false) (.bin .Add (.bin .Mult (.lit (.int 69621)) (.pk 2)) (.bin .FloorDiv (.pk 1) (.lit (.int 41)))),
    .for_ (.nm 5 false) (.scells 0) x_in,
    .asg (.nm 3 false) (.bin .Add (.bin .Mult (.pk 3) (.lit (.int 2147483659))) (.bin .Mod (.blt "int" [(.bin .Pow (.pk 4) (.lit (.int 5)))]) (.pk 1)))]
theorem blend_small {t p : Int} (ht : 0 ≤ t) (ht1 : t ≤ 1000000000) (h0 : 0 < p) (h1 : p < 2147483648) : ∀ (cs : List Int) (b : Int), (∀ c ∈ cs, 0 ≤ c) → 0 ≤ b → b < 100000000000000 → 0 ≤ cs.foldl (fun b c => (b * 48271 + c + t) % p) b ∧ cs.foldl (fun b c => (b * 48271 + c + t) % p) b < 100000000000000
  | [], b, _, h, h' => ⟨h, h'⟩
  | c :: cs, b, hc, h, h' => by
    have e1 := Int.emod_nonneg (b * 48271 + c + t) (show p ≠ 0 by omega)
    have e2 := Int.emod_lt_of_pos (b * 48271 + c + t) h0
    exact blend_small ht ht1 h0 h1 cs _ (fun x hx => hc x (by simp [hx])) e1 (show (b * 48271 + c + t) % p < 100000000000000 by omega)
theorem x_turn {s : DSt} {p f : Int} {o4 o5 : Option D} {T : Nat} (si : SI T s) (hT : T ≤ 1000000) (h0 : 0 < p) (h1 : p < 2147483648) :
    ∃ o4' o5', evB Γ F x_out [0] (x_env s (some (.p (.int p))) s.turn f o4 o5) = .nx (x_env s (some (.p (.int p))) s.turn (f * 2147483659 + blendOf s.turn p s.cells ^ 5 % p) o4' o5') := by
  have t0 := si.t0
  have t1 := si.t1
  have m1 : binop .Mult (.p (.int 69621)) (.p (.int s.turn)) = some (.p (.int (69621 * s.turn))) := by
    show (if (smallI 69621 || smallI s.turn) = true then some (D.p (.int (69621 * s.turn))) else none) = _
    rw [show smallI 69621 = true from by decide +kernel, Bool.true_or]
    rfl
  have a1 : evT Γ (.bin .Mult (.lit (.int 69621)) (.pk 2)) (x_env s (some (.p (.int p))) s.turn f o4 o5) = .ok (.p (.int (69621 * s.turn))) (x_env s (some (.p (.int p))) s.turn f o4 o5) := ev_bin rfl (ev_pk rfl) rfl rfl m1
  have a2 : evT Γ (.bin .FloorDiv (.pk 1) (.lit (.int 41))) (x_env s (some (.p (.int p))) s.turn f o4 o5) = .ok (.p (.int (p / 41))) (x_env s (some (.p (.int p))) s.turn f o4 o5) := ev_bin (ev_pk rfl) rfl rfl rfl rfl
  have a3 := ev_bin (op := .Add) a1 a2 rfl rfl rfl
  have r1 : evS Γ F (.asg (.nm 4 false) (.bin .Add (.bin .Mult (.lit (.int 69621)) (.pk 2)) (.bin .FloorDiv (.pk 1) (.lit (.int 41))))) [0] (x_env s (some (.p (.int p))) s.turn f o4 o5) = .nx (x_env s (some (.p (.int p))) s.turn f (some (.p (.int (69621 * s.turn + p / 41)))) o5) := asg_int (by simp) a3 (by simp)
  obtain ⟨o5', hi⟩ := x_inner (Γ := Γ) (F := F) (s := s) (p := p) (t := s.turn) (f := f) (prot := [0]) (by simp) (by simp) h0 (cs := s.cells) (b := 69621 * s.turn + p / 41) (o5 := o5)
  have r2 : evS Γ F (.for_ (.nm 5 false) (.scells 0) x_in) [0] (x_env s (some (.p (.int p))) s.turn f (some (.p (.int (69621 * s.turn + p / 41)))) o5) = .nx (x_env s (some (.p (.int p))) s.turn f (some (.p (.int (blendOf s.turn p s.cells)))) o5') := by
    simp only [evS]
    rw [show evI Γ (.scells 0) (x_env s (some (.p (.int p))) s.turn f (some (.p (.int (69621 * s.turn + p / 41)))) o5) = .ok (s.cells.map .int) (x_env s (some (.p (.int p))) s.turn f (some (.p (.int (69621 * s.turn + p / 41)))) o5) from rfl]
    dsimp only
    show (forL [0] (.nm 5 false) (evB Γ F x_in [0]) (s.cells.map .int) (x_env s (some (.p (.int p))) s.turn f (some (.p (.int (69621 * s.turn + p / 41)))) o5)).map _ = _
    rw [hi]
    rfl
  have bs := blend_small (t := s.turn) (p := p) t0 (by omega) h0 h1 s.cells (69621 * s.turn + p / 41) si.c (by omega) (by omega)
  generalize hb : blendOf s.turn p s.cells = b at r2 ⊢
  have hb' : s.cells.foldl (fun b c => (b * 48271 + c + s.turn) % p) (69621 * s.turn + p / 41) = b := hb
  rw [hb'] at bs
  have m3 : binop .Mult (.p (.int f)) (.p (.int 2147483659)) = some (.p (.int (f * 2147483659))) := by
    show (if (smallI f || smallI 2147483659) = true then some (D.p (.int (f * 2147483659))) else none) = _
    rw [show smallI 2147483659 = true from by decide +kernel, Bool.or_true]
    rfl
  have m4 : binop .Pow (.p (.int b)) (.p (.int 5)) = some (.p (.int (b ^ 5))) := by
    show (if 0 ≤ (5 : Int) ∧ (5 : Int) ≤ 1000000 ∧ b.natAbs < 2 ^ 64 then some (D.p (.int (b ^ (5 : Int).toNat))) else none) = _
    rw [if_pos ⟨by decide, by decide, by omega⟩]
    rfl
  have m5 : binop .Mod (.p (.int (b ^ 5))) (.p (.int p)) = some (.p (.int (b ^ 5 % p))) := by
    show (if 0 < p then some (D.p (.int (b ^ 5 % p))) else none) = _
    rw [if_pos h0]
  have b1 : evT Γ (.bin .Mult (.pk 3) (.lit (.int 2147483659))) (x_env s (some (.p (.int p))) s.turn f (some (.p (.int b))) o5') = .ok (.p (.int (f * 2147483659))) (x_env s (some (.p (.int p))) s.turn f (some (.p (.int b))) o5') := ev_bin (ev_pk rfl) rfl rfl rfl m3
  have b2 : evT Γ (.bin .Pow (.pk 4) (.lit (.int 5))) (x_env s (some (.p (.int p))) s.turn f (some (.p (.int b))) o5') = .ok (.p (.int (b ^ 5))) (x_env s (some (.p (.int p))) s.turn f (some (.p (.int b))) o5') := ev_bin (ev_pk rfl) rfl rfl rfl m4
  have b3 := ev_blt1 (f := "int") b2 rfl (r := .p (.int (b ^ 5))) rfl
  have b4 := ev_bin b3 (ev_pk (i := 1) (d := .p (.int p)) rfl) rfl rfl m5
  have b5 := ev_bin (op := .Add) b1 b4 rfl rfl rfl
  have r3 : evS Γ F (.asg (.nm 3 false) (.bin .Add (.bin .Mult (.pk 3) (.lit (.int 2147483659))) (.bin .Mod (.blt "int" [(.bin .Pow (.pk 4) (.lit (.int 5)))]) (.pk 1)))) [0] (x_env s (some (.p (.int p))) s.turn f (some (.p (.int b))) o5') = .nx (x_env s (some (.p (.int p))) s.turn (f * 2147483659 + b ^ 5 % p) (some (.p (.int b))) o5') := asg_int (by simp) b5 (by simp)
  refine ⟨some (.p (.int b)), o5', ?_⟩
  unfold x_out
  rw [evB_nx r1, evB_nx r2, evB_nx r3]
  rfl
theorem x_loop {s : DSt} {T : Nat} (si : SI T s) (hT : T ≤ 1000000) : ∀ {ps : List Int} {f : Int} {o1 o4 o5 : Option D}, (∀ p ∈ ps, 0 < p ∧ p < 2147483648) →
    ∃ o1' o4' o5', forL [0] (.nm 1 false) (evB Γ F x_out [0]) (ps.map .int) (x_env s o1 s.turn f o4 o5) = .nx (x_env s o1' s.turn (ps.foldl (fun f p => f * 2147483659 + blendOf s.turn p s.cells ^ 5 % p) f) o4' o5')
  | [], f, o1, o4, o5, _ => ⟨o1, o4, o5, rfl⟩
  | p :: ps, f, o1, o4, o5, hp => by
    obtain ⟨h0, h1⟩ := hp p (by simp)
    obtain ⟨o4', o5', ht⟩ := x_turn (Γ := Γ) (F := F) (f := f) (o4 := o4) (o5 := o5) si hT h0 h1
    obtain ⟨a1, a4, a5, ih⟩ := x_loop si hT (ps := ps) (f := f * 2147483659 + blendOf s.turn p s.cells ^ 5 % p) (o1 := some (.p (.int p))) (o4 := o4') (o5 := o5') fun q hq => hp q (by simp [hq])
    refine ⟨a1, a4, a5, ?_⟩
    rw [List.map_cons, forL, asg_nm (x := .int p) (by simp) (by simp) rfl rfl]
    dsimp only
    rw [show (x_env s o1 s.turn f o4 o5).set 1 (some (.p (.int p))) = x_env s (some (.p (.int p))) s.turn f o4 o5 from rfl, ht]
    dsimp only
    rw [ih]
    rfl
theorem m_mixed {s : DSt} {T : Nat} (si : SI T s) (hT : T < 1000000) : calls prog.fns F (k + 1) "_law_mixed" [.st s] = .ok (.p (.int (mixOf (s.turn + 1) s.cells))) [.st { s with turn := s.turn + 1 }] := by
  have lk : calls prog.fns F (k + 1) "_law_mixed" [.st s] = runFn (calls prog.fns F k) F d__law_mixed.fn [.st s] := rfl
  rw [lk]
  have si' : SI (T + 1) { s with turn := s.turn + 1 } := ⟨si.r, si.g, si.c, by have := si.t0; show 0 ≤ s.turn + 1; omega, by have := si.t1; show s.turn + 1 ≤ ((T + 1 : Nat) : Int); omega⟩
  obtain ⟨a1, a4, a5, hl⟩ := x_loop (Γ := calls prog.fns F k) (F := F) si' (by omega) (ps := primes) (f := 0) (o1 := none) (o4 := none) (o5 := none) (by unfold primes; simp)
  have hb : evB (calls prog.fns F k) F b__law_mixed [0] [some (.st s), none, none, none, none, none] = .ret (.p (.int (mixOf (s.turn + 1) s.cells))) (x_env { s with turn := s.turn + 1 } a1 (s.turn + 1) (mixOf (s.turn + 1) s.cells) a4 a5) := by
    show evB (calls prog.fns F k) F [.asg2 (.nm 2 false) (.nm 3 false) (.bin .Add (.sturn 0) (.lit (.int 1))) (.lit (.int 0)), .sturn 0 (.pk 2),
      .for_ (.nm 1 false) (.lst [(.lit (.int 2147483629)), (.lit (.int 2147483587)), (.lit (.int 2147483579)), (.lit (.int 2147483563))]) x_out, .ret (.var 3)] [0] [some (.st s), none, none, none, none, none] = _
    rw [evB_nx (e' := x_env s none (s.turn + 1) 0 none none) rfl]
    rw [evB_nx (e' := x_env { s with turn := s.turn + 1 } none (s.turn + 1) 0 none none) rfl]
    rw [evB_nx (e' := x_env { s with turn := s.turn + 1 } a1 (s.turn + 1) (mixOf (s.turn + 1) s.cells) a4 a5) (by
      simp only [evS]
      rw [show evI (calls prog.fns F k) (.lst [(.lit (.int 2147483629)), (.lit (.int 2147483587)), (.lit (.int 2147483579)), (.lit (.int 2147483563))]) (x_env { s with turn := s.turn + 1 } none (s.turn + 1) 0 none none) = .ok (primes.map .int) (x_env { s with turn := s.turn + 1 } none (s.turn + 1) 0 none none) from rfl]
      dsimp only
      show (forL [0] (.nm 1 false) (evB (calls prog.fns F k) F x_out [0]) (primes.map .int) (x_env { s with turn := s.turn + 1 } none (s.turn + 1) 0 none none)).map _ = _
      rw [hl]
      rfl)]
    rfl
  unfold runFn
  rw [if_pos ⟨rfl, by decide⟩]
  show (match evB (calls prog.fns F k) F b__law_mixed [0] [some (.st s), none, none, none, none, none] with
    | .ret d e => _
    | .nx e => _
    | .exc c fs e => _
    | _ => _) = _
  rw [hb]
  rfl
end Ev.K88
end

section
set_option Elab.async false
set_option linter.all false
set_option maxRecDepth 100000
/-! M88t: draw, pick. -/
namespace Ev.K88
open PySem L2 Ev
variable {F k : Nat} {Γ : Calls}
theorem mix_nn {t : Int} : ∀ {ps : List Int} {f : Int} {cs : List Int}, (∀ p ∈ ps, 0 < p) → 0 ≤ f → 0 ≤ ps.foldl (fun f p => f * 2147483659 + blendOf t p cs ^ 5 % p) f
  | [], f, cs, _, h => h
  | p :: ps, f, cs, hp, h => by
    have := Int.emod_nonneg (blendOf t p cs ^ 5) (show p ≠ 0 by have := hp p (by simp); omega)
    exact mix_nn (ps := ps) (f := f * 2147483659 + blendOf t p cs ^ 5 % p) (fun q hq => hp q (by simp [hq])) (by omega)
theorem SI.refill {T : Nat} {s : DSt} (h : SI T s) : SI (T + 1) s.refill := by
  unfold DSt.refill
  split
  · split
    · rename_i g gs e
      have hg := h.g
      rw [e] at hg
      exact ⟨hg g (by simp), fun x hx => hg x (by simp [hx]), h.c, h.t0, by have := h.t1; show s.turn ≤ ((T + 1 : Nat) : Int); omega⟩
    · rename_i e
      refine ⟨?_, fun x hx => by rw [e] at hx; simp at hx, h.c, by have := h.t0; show 0 ≤ s.turn + 1; omega, by have := h.t1; show s.turn + 1 ≤ ((T + 1 : Nat) : Int); omega⟩
      exact mix_nn (by unfold primes; simp) (by decide)
  · exact h.mono (by omega)
theorem SI.draw {T : Nat} {s : DSt} {n : Int} (h : SI T s) (hn : 0 < n) : SI (T + 1) (s.draw n).2 ∧ 0 ≤ (s.draw n).1 ∧ (s.draw n).1 < n := by
  have r := h.refill
  refine ⟨⟨?_, r.g, r.c, r.t0, r.t1⟩, Int.emod_nonneg _ (by omega), Int.emod_lt_of_pos _ hn⟩
  exact Int.ediv_nonneg r.r (by omega)
def dr_c : S := .ife (.cmp .Eq (.srest 0) (.lit (.int 0))) [
    .srest 0 (.ife (.sgne 0) (.spop 0) (.call "_law_mixed" [(.pk 0)]))] []
theorem eqI (a b : Int) : eqD (.p (.int a)) (.p (.int b)) = some (decide (a = b)) := by
  rw [eqD_p (x := .int a) (y := .int b) rfl rfl (by simp [dp]) (by simp [dp])]
  simp
theorem dr_refill {s : DSt} {T : Nat} (si : SI T s) (hT : T < 1000000) {n : P} {prot : List Nat} {o2 : Option D} : evS (calls prog.fns F (k + 1)) F dr_c prot [some (.st s), some (.p n), o2] = .nx [some (.st s.refill), some (.p n), o2] := by
  have t1 : evT (calls prog.fns F (k + 1)) (.cmp .Eq (.srest 0) (.lit (.int 0))) [some (.st s), some (.p n), o2] = .ok (.p (.bl (decide (s.rest = 0)))) [some (.st s), some (.p n), o2] :=
    ev_cmp (x := .p (.int s.rest)) rfl rfl rfl rfl (eqI _ _)
  unfold dr_c DSt.refill
  by_cases e : s.rest = 0
  · rw [if_pos e]
    rw [decide_eq_true e] at t1
    refine (ev_ife_t t1 rfl).trans (evB_one ?_)
    cases eg : s.great with
    | cons g gs =>
      have a1 : evT (calls prog.fns F (k + 1)) (.sgne 0) [some (.st s), some (.p n), o2] = .ok (.p (.bl true)) [some (.st s), some (.p n), o2] := by
        show Out.ok (.p (.bl (!s.great.isEmpty))) _ = _
        rw [eg]
        rfl
      have a2 : evT (calls prog.fns F (k + 1)) (.spop 0) [some (.st s), some (.p n), o2] = .ok (.p (.int g)) [some (.st { s with great := gs }), some (.p n), o2] := by
        show (match s.great with
          | g :: gs => Out.ok (.p (.int g)) (List.set _ 0 (some (.st { s with great := gs })))
          | [] => .bad) = _
        rw [eg]
        rfl
      have a3 : evT (calls prog.fns F (k + 1)) (.ife (.sgne 0) (.spop 0) (.call "_law_mixed" [(.pk 0)])) [some (.st s), some (.p n), o2] = .ok (.p (.int g)) [some (.st { s with great := gs }), some (.p n), o2] := by
        rw [ev_ife_tt a1 rfl, a2]
      simp only [evS]
      rw [a3]
      rfl
    | nil =>
      have a1 : evT (calls prog.fns F (k + 1)) (.sgne 0) [some (.st s), some (.p n), o2] = .ok (.p (.bl false)) [some (.st s), some (.p n), o2] := by
        show Out.ok (.p (.bl (!s.great.isEmpty))) _ = _
        rw [eg]
        rfl
      have mx := m_mixed (F := F) (k := k) si hT
      have a2 : evT (calls prog.fns F (k + 1)) (.call "_law_mixed" [(.pk 0)]) [some (.st s), some (.p n), o2] = .ok (.p (.int (mixOf (s.turn + 1) s.cells))) [some (.st { s with turn := s.turn + 1 }), some (.p n), o2] := ev_call rfl mx rfl
      have a3 : evT (calls prog.fns F (k + 1)) (.ife (.sgne 0) (.spop 0) (.call "_law_mixed" [(.pk 0)])) [some (.st s), some (.p n), o2] = .ok (.p (.int (mixOf (s.turn + 1) s.cells))) [some (.st { s with turn := s.turn + 1 }), some (.p n), o2] := by
        rw [ev_ife_ff a1 rfl, a2]
      simp only [evS]
      rw [a3]
      rw [← eg]
      rfl
  · rw [if_neg e]
    rw [decide_eq_false e] at t1
    exact (ev_ife_f t1 rfl).trans rfl
theorem m_draw {s : DSt} {T : Nat} {n : Int} (si : SI T s) (hT : T < 1000000) (h0 : 0 < n) (h1 : n < 1073741824) : calls prog.fns F (k + 2) "_law_draw" [.st s, .p (.int n)] = .ok (.p (.int (s.draw n).1)) [.st (s.draw n).2, .p (.int n)] := by
  have lk : calls prog.fns F (k + 2) "_law_draw" [.st s, .p (.int n)] = runFn (calls prog.fns F (k + 1)) F d__law_draw.fn [.st s, .p (.int n)] := rfl
  rw [lk]
  have r1 := dr_refill (F := F) (k := k) si hT (n := .int n) (prot := [0]) (o2 := none)
  have m1 : binop .Mod (.p (.int s.refill.rest)) (.p (.int n)) = some (.p (.int (s.refill.rest % n))) := by
    show (if 0 < n then some (D.p (.int (s.refill.rest % n))) else none) = _
    rw [if_pos h0]
  have m2 : binop .FloorDiv (.p (.int s.refill.rest)) (.p (.int n)) = some (.p (.int (s.refill.rest / n))) := by
    show (if 0 < n ∧ n < 1073741824 then some (D.p (.int (s.refill.rest / n))) else none) = _
    rw [if_pos ⟨h0, h1⟩]
  have a1 : evT (calls prog.fns F (k + 1)) (.blt "int" [(.srest 0)]) [some (.st s.refill), some (.p (.int n)), none] = .ok (.p (.int s.refill.rest)) [some (.st s.refill), some (.p (.int n)), none] := ev_blt1 (d := .p (.int s.refill.rest)) rfl rfl rfl
  have a2 := ev_bin a1 (ev_pk (i := 1) (d := .p (.int n)) rfl) rfl rfl m1
  have r2 : evS (calls prog.fns F (k + 1)) F (.asg (.nm 2 false) (.bin .Mod (.blt "int" [(.srest 0)]) (.pk 1))) [0] [some (.st s.refill), some (.p (.int n)), none] = .nx [some (.st s.refill), some (.p (.int n)), some (.p (.int (s.refill.rest % n)))] := asg_int (by simp) a2 (by simp)
  have a3 : evT (calls prog.fns F (k + 1)) (.bin .FloorDiv (.srest 0) (.pk 1)) [some (.st s.refill), some (.p (.int n)), some (.p (.int (s.refill.rest % n)))] = .ok (.p (.int (s.refill.rest / n))) [some (.st s.refill), some (.p (.int n)), some (.p (.int (s.refill.rest % n)))] :=
    ev_bin (x := .p (.int s.refill.rest)) rfl (ev_pk rfl) rfl rfl m2
  have r3 : evS (calls prog.fns F (k + 1)) F (.srest 0 (.bin .FloorDiv (.srest 0) (.pk 1))) [0] [some (.st s.refill), some (.p (.int n)), some (.p (.int (s.refill.rest % n)))] = .nx [some (.st (s.draw n).2), some (.p (.int n)), some (.p (.int (s.refill.rest % n)))] := by
    simp only [evS]
    rw [a3]
    rfl
  have hb : evB (calls prog.fns F (k + 1)) F b__law_draw [0] [some (.st s), some (.p (.int n)), none] = .ret (.p (.int (s.draw n).1)) [some (.st (s.draw n).2), some (.p (.int n)), some (.p (.int (s.refill.rest % n)))] := by
    show evB (calls prog.fns F (k + 1)) F [dr_c, .asg (.nm 2 false) (.bin .Mod (.blt "int" [(.srest 0)]) (.pk 1)), .srest 0 (.bin .FloorDiv (.srest 0) (.pk 1)), .ret (.var 2)] [0] [some (.st s), some (.p (.int n)), none] = _
    rw [evB_nx r1, evB_nx r2, evB_nx r3]
    rfl
  unfold runFn
  rw [if_pos ⟨rfl, by decide⟩]
  show (match evB (calls prog.fns F (k + 1)) F b__law_draw [0] [some (.st s), some (.p (.int n)), none] with
    | .ret d e => _
    | .nx e => _
    | .exc c fs e => _
    | _ => _) = _
  rw [hb]
  rfl
theorem evAs_cons {t : T} {ts : List T} {e e1 e2 : Env} {d0 d : D} {ds : List D} (h1 : evT Γ t e = .ok d0 e1) (hf : fin t d0 e1 = some d) (h2 : evAs Γ ts (take1 t e1 d) = .ok ds e2) : evAs Γ (t :: ts) e = .ok (d :: ds) e2 := by
  simp only [evAs, h1, hf, h2]
theorem m_pick {s : DSt} {T : Nat} {xs : List P} (si : SI T s) (hT : T < 1000000) (hx : xs ≠ []) (hl : xs.length < 1000000) : ∃ x ∈ xs, ∃ s', SI (T + 1) s' ∧ calls prog.fns F (k + 3) "_law_pick" [.st s, .pl xs] = .ok (.p x) [.st s', .pl xs] := by
  have h0 : 0 < (xs.length : Int) := by
    have := List.length_pos_iff.mpr hx
    omega
  obtain ⟨d1, d2, d3⟩ := si.draw (n := xs.length) h0
  have hd := m_draw (F := F) (k := k) (n := xs.length) si hT h0 (by omega)
  generalize hs : s.draw xs.length = w at d1 d2 d3 hd
  obtain ⟨i, s'⟩ := w
  dsimp only at d1 d2 d3 hd
  obtain ⟨j, rfl⟩ : ∃ j : Nat, i = j := ⟨i.toNat, by omega⟩
  have hj : j < xs.length := by omega
  refine ⟨xs[j], List.getElem_mem hj, s', d1, ?_⟩
  have lk : calls prog.fns F (k + 3) "_law_pick" [.st s, .pl xs] = runFn (calls prog.fns F (k + 2)) F d__law_pick.fn [.st s, .pl xs] := rfl
  rw [lk]
  have a0 : evT (calls prog.fns F (k + 2)) (.blt "len" [(.pk 1)]) [none, some (.pl xs)] = .ok (.p (.int xs.length)) [none, some (.pl xs)] := ev_blt1 (d := .p .non) (d' := .pl xs) rfl rfl rfl
  have a1 : evAs (calls prog.fns F (k + 2)) [(.pk 0), (.blt "len" [(.pk 1)])] [some (.st s), some (.pl xs)] = .ok [.st s, .p (.int xs.length)] [none, some (.pl xs)] := by
    exact evAs_cons (ev_pk (d := .st s) rfl) rfl (evAs_cons a0 rfl rfl)
  have a2 : evT (calls prog.fns F (k + 2)) (.call "_law_draw" [(.pk 0), (.blt "len" [(.pk 1)])]) [some (.st s), some (.pl xs)] = .ok (.p (.int j)) [some (.st s'), some (.pl xs)] := ev_call a1 hd rfl
  have ix : idxop (.pl xs) (.p (.int j)) = some xs[j] := by
    show atI xs (j : Int) = _
    rw [L2.atI_nat (List.getElem?_eq_getElem hj)]
  have a3 : evT (calls prog.fns F (k + 2)) (.idx (.pk 1) (.call "_law_draw" [(.pk 0), (.blt "len" [(.pk 1)])])) [some (.st s), some (.pl xs)] = .ok (.p xs[j]) [some (.st s'), some (.pl xs)] := ev_idx (ev_pk rfl) a2 rfl rfl ix
  have hb : evB (calls prog.fns F (k + 2)) F b__law_pick [0, 1] [some (.st s), some (.pl xs)] = .ret (.p xs[j]) [some (.st s'), some (.pl xs)] := by
    refine evB_rt ?_
    simp only [evS]
    rw [a3]
    rfl
  unfold runFn
  rw [if_pos ⟨rfl, by decide⟩]
  show (match evB (calls prog.fns F (k + 2)) F b__law_pick [0, 1] [some (.st s), some (.pl xs)] with
    | .ret d e => _
    | .nx e => _
    | .exc c fs e => _
    | _ => _) = _
  rw [hb]
  rfl
end Ev.K88
end

section
set_option Elab.async false
set_option linter.all false
set_option maxRecDepth 100000
/-! M88u: drawn values. -/
namespace Ev.K88
open PySem L2 Ev
variable {F k : Nat} {Γ : Calls}
mutual
def opn : P → Nat
  | .tup xs => opns xs + 1
  | _ => 0
def opns : List P → Nat
  | [] => 0
  | x :: xs => opn x + opns xs
end
def cost : Nat → Nat
  | 0 => 2
  | d + 1 => 2 + 3 * cost d
def wb : Nat → Nat
  | 0 => 14
  | d + 1 => 3 * wb d + 3
def ob : Nat → Nat
  | 0 => 0
  | d + 1 => 3 * ob d + 1
structure Dr (d : Nat) (v : P) : Prop where
  l : lv v
  g : good v = true
  e : dep v ≤ d
  w : W v ≤ wb d
  o : opn v ≤ ob d
theorem wb_ge : ∀ d, 14 ≤ wb d
  | 0 => by simp [wb]
  | d + 1 => by have := wb_ge d; simp only [wb]; omega
theorem dr_leaf {d : Nat} {x : P} (h : LeafOk x) (g : good x = true) (n : ∀ xs, x ≠ .tup xs) (w : W x ≤ 14) : Dr d x := by
  have := wb_ge d
  cases x with
  | tup xs => exact absurd rfl (n xs)
  | _ => exact ⟨h, g, by simp [dep], by omega, by simp [opn]⟩
theorem dr_word {d : Nat} {x : P} (h : x ∈ words) : Dr d x := by
  refine dr_leaf (ok_word h) ?_ ?_ ?_
  · simp only [words, List.mem_cons, List.not_mem_nil, or_false] at h
    rcases h with rfl | rfl | rfl | rfl | rfl <;> decide +kernel
  · simp only [words, List.mem_cons, List.not_mem_nil, or_false] at h
    rcases h with rfl | rfl | rfl | rfl | rfl <;> simp
  · simp only [words, List.mem_cons, List.not_mem_nil, or_false] at h
    rcases h with rfl | rfl | rfl | rfl | rfl <;> decide +kernel
theorem dr_whole {d : Nat} {x : P} (h : x ∈ wholes) : Dr d x := by
  refine dr_leaf (ok_whole h) ?_ ?_ ?_
  · simp only [wholes, List.mem_cons, List.not_mem_nil, or_false] at h
    rcases h with rfl | rfl | rfl | rfl | rfl | rfl | rfl <;> decide +kernel
  · simp only [wholes, List.mem_cons, List.not_mem_nil, or_false] at h
    rcases h with rfl | rfl | rfl | rfl | rfl | rfl | rfl <;> simp
  · simp only [wholes, List.mem_cons, List.not_mem_nil, or_false] at h
    rcases h with rfl | rfl | rfl | rfl | rfl | rfl | rfl <;> decide +kernel
theorem dr_non {d : Nat} : Dr d .non := dr_leaf ok_non rfl (by simp) (by decide +kernel)
structure Drs (d : Nat) (n : Nat) (vs : List P) : Prop where
  l : lvs vs
  g : goods vs = true
  e : deps vs ≤ d
  w : Ws vs ≤ n * wb d
  o : opns vs ≤ n * ob d
  len : vs.length = n
theorem Drs.nil {d : Nat} : Drs d 0 [] := ⟨True.intro, rfl, by simp [deps], by simp [Ws], by simp [opns], rfl⟩
theorem Drs.cons {d n : Nat} {v : P} {vs : List P} (h : Dr d v) (t : Drs d n vs) : Drs d (n + 1) (v :: vs) :=
  ⟨⟨h.l, t.l⟩, by simp [goods, h.g, t.g], by have := h.e; have := t.e; simp only [deps]; omega, by have := h.w; have := t.w; simp only [Ws, Nat.add_mul]; omega, by have := h.o; have := t.o; simp only [opns, Nat.add_mul]; omega, by simp [t.len]⟩
theorem Drs.tup {d n : Nat} {vs : List P} (t : Drs d n vs) (hn : n ≤ 3) : Dr (d + 1) (.tup vs) := by
  have w := Nat.mul_le_mul_right (wb d) hn
  have o := Nat.mul_le_mul_right (ob d) hn
  exact ⟨by simp only [lv]; exact t.l, by simp [good, t.g], by have := t.e; simp only [dep]; omega, by have := t.w; simp only [W, wb]; omega, by have := t.o; simp only [opn, ob]; omega⟩
/-- what a call of _law_some_value does -/
def SVal (Γ : Calls) (d : Nat) : Prop := ∀ (s : DSt) (T : Nat), SI T s → T + cost d ≤ 900000 → ∃ v s', Γ "_law_some_value" [.st s, .p (.int d)] = .ok (.p v) [.st s', .p (.int d)] ∧ SI (T + cost d) s' ∧ Dr d v
abbrev s_env (s : DSt) (d w : Int) (o : Option D) : Env := [some (.st s), some (.p (.int d)), some (.p (.int w)), o]
def s_el : T := .call "_law_some_value" [(.pk 0), (.bin .Sub (.pk 1) (.lit (.int 1)))]
theorem s_elt {d : Nat} {w : Int} {o : Option D} {s s' : DSt} {v : P} (h : Γ "_law_some_value" [.st s, .p (.int d)] = .ok (.p v) [.st s', .p (.int d)]) : evT Γ s_el (s_env s ((d : Int) + 1) w o) = .ok (.p v) (s_env s' ((d : Int) + 1) w o) := by
  have a0 : evT Γ (.bin .Sub (.pk 1) (.lit (.int 1))) [none, some (.p (.int ((d : Int) + 1))), some (.p (.int w)), o] = .ok (.p (.int d)) [none, some (.p (.int ((d : Int) + 1))), some (.p (.int w)), o] := by
    refine ev_bin (ev_pk rfl) rfl rfl rfl ?_
    show some (D.p (.int ((d : Int) + 1 - 1))) = _
    rw [show (d : Int) + 1 - 1 = d by omega]
  exact ev_call (evAs_cons (ev_pk (d := .st s) rfl) rfl (evAs_cons a0 rfl rfl)) h rfl
theorem s_loop {d : Nat} {w : Int} {prot : List Nat} (hp : 3 ∉ prot) (hΓ : SVal Γ d) : ∀ {n : Nat} {xs acc : List P} {s : DSt} {T : Nat}, xs.length = n → SI T s → T + n * cost d ≤ 900000 → acc.length + n ≤ 1000 →
    ∃ vs s', compLoop (evT Γ s_el) (evC Γ none) (asgT prot (.nm 3 false)) [3] xs (s_env s ((d : Int) + 1) w none) acc = .ok (.pl (acc ++ vs)) (s_env s' ((d : Int) + 1) w none) ∧ SI (T + n * cost d) s' ∧ Drs d n vs
  | 0, [], acc, s, T, _, si, _, _ => ⟨[], s, by simp [compLoop], by simpa using si, .nil⟩
  | 0, x :: xs, acc, s, T, h, _, _, _ => by simp at h
  | n + 1, [], acc, s, T, h, _, _, _ => by simp at h
  | n + 1, x :: xs, acc, s, T, h, si, hT, hl => by
    simp only [Nat.add_mul, Nat.one_mul] at hT ⊢
    have hlim : lim = 1000000 := rfl
    obtain ⟨v, s1, h1, h2, h3⟩ := hΓ s T si (by omega)
    obtain ⟨vs, s2, h4, h5, h6⟩ := s_loop hp hΓ (w := w) (n := n) (xs := xs) (acc := acc ++ [v]) (s := s1) (T := T + cost d) (by simpa using h) h2 (by omega) (by simp; omega)
    refine ⟨v :: vs, s2, ?_, by rw [show T + (n * cost d + cost d) = T + cost d + n * cost d by omega]; exact h5, .cons h3 h6⟩
    unfold compLoop
    have hg : asgT prot (.nm 3 false) (.p x) (s_env s ((d : Int) + 1) w none) = some (s_env s ((d : Int) + 1) w (some (.p x))) := asg_nm hp (by simp) rfl rfl
    rw [hg]
    dsimp only
    rw [show evC Γ none (s_env s ((d : Int) + 1) w (some (.p x))) = .ok (.p (.bl true)) (s_env s ((d : Int) + 1) w (some (.p x))) from by unfold evC; rfl]
    dsimp only
    rw [s_elt h1]
    dsimp only [D.frz]
    rw [if_pos (show acc.length < lim by omega)]
    show compLoop (evT Γ s_el) (evC Γ none) (asgT prot (.nm 3 false)) [3] xs (s_env s1 ((d : Int) + 1) w none) (acc ++ [v]) = _
    rw [h4]
    simp
def s_t0 : T := .ife (.cmp .Gt (.pk 1) (.lit (.int 0))) (.call "_law_draw" [(.pk 0), (.lit (.int 6))]) (.call "_law_draw" [(.pk 0), (.lit (.int 3))])
def s_rest : List S := [
  .ife (.cmp .Eq (.pk 2) (.lit (.int 0))) [
    .ret (.call "_law_pick" [(.pk 0), (.lst [(.lit (.str "a")), (.lit (.str "on")), (.lit (.str "zz")), (.lit (.str "entry")), (.lit (.str "abcdefghijklm"))])])] [],
  .ife (.cmp .Eq (.pk 2) (.lit (.int 1))) [
    .ret (.call "_law_pick" [(.pk 0), (.lst [(.lit (.int 0)), (.lit (.int 1)), (.bin .Sub (.lit (.int 0)) (.lit (.int 1))), (.lit (.int 7)), (.bin .Sub (.lit (.int 0)) (.lit (.int 42))), (.lit (.int 999999999999)), (.bin .Sub (.lit (.int 0)) (.lit (.int 999999999999)))])])] [],
  .ife (.cmp .Eq (.pk 2) (.lit (.int 2))) [
    .ret (.lit .non)] [],
  .ret (.blt "tuple" [(.comp s_el (.nm 3 false) (.range (.call "_law_draw" [(.pk 0), (.lit (.int 4))])) none [3])])]
theorem s_draw {s : DSt} {T : Nat} {n d : Int} {o2 o3 : Option D} (si : SI T s) (hT : T < 1000000) (h0 : 0 < n) (h1 : n < 1073741824) : evT (calls prog.fns F (k + 2)) (.call "_law_draw" [(.pk 0), (.lit (.int n))]) [some (.st s), some (.p (.int d)), o2, o3] = .ok (.p (.int (s.draw n).1)) [some (.st (s.draw n).2), some (.p (.int d)), o2, o3] :=
  ev_call (evAs_cons (ev_pk (d := .st s) rfl) rfl (evAs_cons (d0 := .p (.int n)) rfl rfl rfl)) (m_draw si hT h0 h1) rfl
theorem s_pick {s : DSt} {T : Nat} {d w : Int} {ts : List Ev.T} {xs : List P} (si : SI T s) (hT : T < 1000000) (hx : xs ≠ []) (hl : xs.length < 1000000)
    (ht : evT (calls prog.fns F (k + 3)) (.lst ts) [none, some (.p (.int d)), some (.p (.int w)), none] = .ok (.pl xs) [none, some (.p (.int d)), some (.p (.int w)), none]) :
    ∃ x ∈ xs, ∃ s', SI (T + 1) s' ∧ evT (calls prog.fns F (k + 3)) (.call "_law_pick" [(.pk 0), (.lst ts)]) (s_env s d w none) = .ok (.p x) (s_env s' d w none) := by
  obtain ⟨x, hx, s', h1, h2⟩ := m_pick (F := F) (k := k) si hT hx hl
  exact ⟨x, hx, s', h1, ev_call (evAs_cons (ev_pk (d := .st s) rfl) rfl (evAs_cons (d := .pl xs) ht rfl rfl)) h2 rfl⟩
theorem draw_pos {s : DSt} {T : Nat} (si : SI T s) {n : Int} (h : 0 < n) : ∃ (m : Nat) (s' : DSt), s.draw n = ((m : Int), s') ∧ (m : Int) < n ∧ SI (T + 1) s' := by
  obtain ⟨a, b, c⟩ := si.draw h
  refine ⟨(s.draw n).1.toNat, (s.draw n).2, ?_, by omega, a⟩
  ext1
  · show (s.draw n).1 = ((s.draw n).1.toNat : Int); omega
  · rfl
theorem cost_ge : ∀ d, 2 ≤ cost d
  | 0 => by simp [cost]
  | d + 1 => by simp only [cost]; omega
theorem evI_range {t : Ev.T} {e e' : Env} {d d' : D} {xs : List P} (h : evT Γ t e = .ok d e') (hf : fin t d e' = some d') (hr : rangeOf d' = some xs) : evI Γ (.range t) e = .ok xs e' := by
  simp only [evI, h, OutI.ofOut, hf, hr]
theorem range_nat {n : Nat} (h : n < 1000000) : rangeOf (.p (.int (n : Int))) = some ((List.range n).map fun i => .int (i : Nat)) := by
  unfold rangeOf
  simp only [Int.toNat_natCast]
  split
  · rfl
  · omega
theorem s_end {d m : Nat} {s : DSt} {T : Nat} (si : SI (T + 1) s) (hT : T + cost d ≤ 900000) (h : m < 3 ∨ ∃ d', d = d' + 1 ∧ SVal (calls prog.fns F (k + 3)) d') :
    ∃ v s' e, evB (calls prog.fns F (k + 3)) F s_rest [0] (s_env s d m none) = .ret (.p v) (some (.st s') :: some (.p (.int d)) :: e) ∧ SI (T + cost d) s' ∧ Dr d v := by
  have hc := cost_ge d
  have t0 : ∀ j : Int, evT (calls prog.fns F (k + 3)) (.cmp .Eq (.pk 2) (.lit (.int j))) (s_env s d m none) = .ok (.p (.bl (decide ((m : Int) = j)))) (s_env s d m none) := fun j => ev_cmp (ev_pk rfl) rfl rfl rfl (eqI _ _)
  by_cases e0 : m = 0
  · obtain ⟨x, hx, s', h1, h2⟩ := s_pick (F := F) (k := k) (d := d) (w := m) (ts := [(.lit (.str "a")), (.lit (.str "on")), (.lit (.str "zz")), (.lit (.str "entry")), (.lit (.str "abcdefghijklm"))]) (xs := words) si (by omega) (by simp [words]) (by simp [words]) rfl
    refine ⟨x, s', [some (.p (.int m)), none], ?_, h1.mono (by omega), dr_word hx⟩
    refine evB_rt ((ev_ife_t (t0 0) (by simp [e0]; rfl)).trans (evB_rt ?_))
    simp only [evS]
    rw [h2]
    rfl
  have f0 : evS (calls prog.fns F (k + 3)) F (.ife (.cmp .Eq (.pk 2) (.lit (.int 0))) [
    .ret (.call "_law_pick" [(.pk 0), (.lst [(.lit (.str "a")), (.lit (.str "on")), (.lit (.str "zz")), (.lit (.str "entry")), (.lit (.str "abcdefghijklm"))])])] []) [0] (s_env s d m none) = .nx (s_env s d m none) := (ev_ife_f (t0 0) (by rw [decide_eq_false (by omega)]; rfl)).trans rfl
  by_cases e1 : m = 1
  · obtain ⟨x, hx, s', h1, h2⟩ := s_pick (F := F) (k := k) (d := d) (w := m) (ts := [(.lit (.int 0)), (.lit (.int 1)), (.bin .Sub (.lit (.int 0)) (.lit (.int 1))), (.lit (.int 7)), (.bin .Sub (.lit (.int 0)) (.lit (.int 42))), (.lit (.int 999999999999)), (.bin .Sub (.lit (.int 0)) (.lit (.int 999999999999)))]) (xs := wholes) si (by omega) (by simp [wholes]) (by simp [wholes]) rfl
    refine ⟨x, s', [some (.p (.int m)), none], ?_, h1.mono (by omega), dr_whole hx⟩
    unfold s_rest
    rw [evB_nx f0]
    refine evB_rt ((ev_ife_t (t0 1) (by simp [e1]; rfl)).trans (evB_rt ?_))
    simp only [evS]
    rw [h2]
    rfl
  have f1 : evS (calls prog.fns F (k + 3)) F (.ife (.cmp .Eq (.pk 2) (.lit (.int 1))) [
    .ret (.call "_law_pick" [(.pk 0), (.lst [(.lit (.int 0)), (.lit (.int 1)), (.bin .Sub (.lit (.int 0)) (.lit (.int 1))), (.lit (.int 7)), (.bin .Sub (.lit (.int 0)) (.lit (.int 42))), (.lit (.int 999999999999)), (.bin .Sub (.lit (.int 0)) (.lit (.int 999999999999)))])])] []) [0] (s_env s d m none) = .nx (s_env s d m none) := (ev_ife_f (t0 1) (by rw [decide_eq_false (by omega)]; rfl)).trans rfl
  by_cases e2 : m = 2
  · refine ⟨.non, s, [some (.p (.int m)), none], ?_, si.mono (by omega), dr_non⟩
    unfold s_rest
    rw [evB_nx f0, evB_nx f1]
    exact evB_rt ((ev_ife_t (t0 2) (by simp [e2]; rfl)).trans rfl)
  have f2 : evS (calls prog.fns F (k + 3)) F (.ife (.cmp .Eq (.pk 2) (.lit (.int 2))) [
    .ret (.lit .non)] []) [0] (s_env s d m none) = .nx (s_env s d m none) := (ev_ife_f (t0 2) (by rw [decide_eq_false (by omega)]; rfl)).trans rfl
  obtain ⟨d', rfl, hΓ⟩ := h.resolve_left (by omega)
  simp only [cost] at hT hc ⊢
  obtain ⟨n, s1, g1, g2, g3⟩ := draw_pos si (n := 4) (by decide)
  have hn : n ≤ 3 := by omega
  have hmul := Nat.mul_le_mul_right (cost d') hn
  have dd := s_draw (F := F) (k := k + 1) (d := ((d' + 1 : Nat) : Int)) (o2 := some (.p (.int m))) (o3 := none) si (by omega) (n := 4) (by omega) (by omega)
  rw [g1] at dd
  dsimp only at dd
  obtain ⟨vs, s2, h4, h5, h6⟩ := s_loop (w := m) (prot := notOwn [3] (s_env s1 ((d' + 1 : Nat) : Int) m none)) (by simp [notOwn]) hΓ (n := n) (xs := (List.range n).map fun i => .int (i : Nat)) (acc := []) (s := s1) (T := T + 1 + 1) (by simp) g3 (by omega) (by simp; omega)
  refine ⟨.tup vs, s2, [some (.p (.int m)), none], ?_, h5.mono (by omega), h6.tup hn⟩
  unfold s_rest
  rw [evB_nx f0, evB_nx f1, evB_nx f2]
  refine evB_rt ?_
  have c1 : evT (calls prog.fns F (k + 3)) (.comp s_el (.nm 3 false) (.range (.call "_law_draw" [(.pk 0), (.lit (.int 4))])) none [3]) (s_env s ((d' + 1 : Nat) : Int) m none) = .ok (.pl vs) (s_env s2 ((d' + 1 : Nat) : Int) m none) := by
    rw [evT_comp]
    have e1 : evI (calls prog.fns F (k + 3)) (.range (.call "_law_draw" [(.pk 0), (.lit (.int 4))])) (s_env s ((d' + 1 : Nat) : Int) m none) = .ok ((List.range n).map fun i => .int (i : Nat)) (s_env s1 ((d' + 1 : Nat) : Int) m none) := by
      have hr := range_nat (n := n) (by omega)
      exact evI_range dd rfl hr
    rw [e1]
    show (if ownOk [3] (s_env s1 ((d' + 1 : Nat) : Int) m none) then lcEnd _ [3] (s_env s1 ((d' + 1 : Nat) : Int) m none) (compLoop _ _ (asgT (notOwn [3] (s_env s1 ((d' + 1 : Nat) : Int) m none)) (.nm 3 false)) [3] _ (s_env s1 ((d' + 1 : Nat) : Int) m none) []) else .bad) = _
    rw [if_pos (show ownOk [3] (s_env s1 ((d' + 1 : Nat) : Int) m none) = true from rfl)]
    rw [show ((d' + 1 : Nat) : Int) = (d' : Int) + 1 by omega] at h4 ⊢
    rw [h4]
    rfl
  have c2 := ev_blt1 (f := "tuple") c1 rfl (r := .p (.tup vs)) rfl
  simp only [evS]
  rw [c2]
  rfl
theorem m_some : ∀ d K, 4 + d ≤ K → SVal (calls prog.fns F K) d := by
  intro d
  induction d with
  | zero =>
    intro K hK s T si hT
    obtain ⟨k, rfl⟩ : ∃ k, K = k + 4 := ⟨K - 4, by omega⟩
    simp only [cost] at hT
    obtain ⟨m, s1, g1, g2, g3⟩ := draw_pos si (n := 3) (by decide)
    have dd := s_draw (F := F) (k := k + 1) (d := ((0 : Nat) : Int)) (o2 := none) (o3 := none) si (by omega) (n := 3) (by omega) (by omega)
    rw [g1] at dd
    dsimp only at dd
    have t0 : evT (calls prog.fns F (k + 3)) s_t0 [some (.st s), some (.p (.int (0 : Nat))), none, none] = .ok (.p (.int m)) [some (.st s1), some (.p (.int (0 : Nat))), none, none] := by
      unfold s_t0
      rw [ev_ife_ff (d := .p (.bl false)) rfl rfl]
      exact dd
    obtain ⟨v, s', e, h1, h2, h3⟩ := s_end (F := F) (k := k) (d := 0) (m := m) g3 (by simp only [cost]; omega) (.inl (by omega))
    refine ⟨v, s', ?_, h2, h3⟩
    have lk : calls prog.fns F (k + 4) "_law_some_value" [.st s, .p (.int (0 : Nat))] = runFn (calls prog.fns F (k + 3)) F d__law_some_value.fn [.st s, .p (.int (0 : Nat))] := rfl
    rw [lk]
    have hb : evB (calls prog.fns F (k + 3)) F b__law_some_value [0] [some (.st s), some (.p (.int (0 : Nat))), none, none] = .ret (.p v) (some (.st s') :: some (.p (.int (0 : Nat))) :: e) := by
      show evB (calls prog.fns F (k + 3)) F (.asg (.nm 2 false) s_t0 :: s_rest) [0] [some (.st s), some (.p (.int (0 : Nat))), none, none] = _
      rw [evB_nx (asg_int (by simp) t0 (by simp))]
      exact h1
    unfold runFn
    rw [if_pos ⟨rfl, by decide⟩]
    show (match evB (calls prog.fns F (k + 3)) F b__law_some_value [0] [some (.st s), some (.p (.int (0 : Nat))), none, none] with
      | .ret d e => _
      | .nx e => _
      | .exc c fs e => _
      | _ => _) = _
    rw [hb]
    rfl
  | succ d ih =>
    intro K hK s T si hT
    obtain ⟨k, rfl⟩ : ∃ k, K = k + 4 := ⟨K - 4, by omega⟩
    have hc := cost_ge (d + 1)
    obtain ⟨m, s1, g1, g2, g3⟩ := draw_pos si (n := 6) (by decide)
    have dd := s_draw (F := F) (k := k + 1) (d := ((d + 1 : Nat) : Int)) (o2 := none) (o3 := none) si (by omega) (n := 6) (by omega) (by omega)
    rw [g1] at dd
    dsimp only at dd
    have t0 : evT (calls prog.fns F (k + 3)) s_t0 [some (.st s), some (.p (.int (d + 1 : Nat))), none, none] = .ok (.p (.int m)) [some (.st s1), some (.p (.int (d + 1 : Nat))), none, none] := by
      have t1 : evT (calls prog.fns F (k + 3)) (.cmp .Gt (.pk 1) (.lit (.int 0))) [some (.st s), some (.p (.int (d + 1 : Nat))), none, none] = .ok (.p (.bl true)) [some (.st s), some (.p (.int (d + 1 : Nat))), none, none] := by
        refine ev_cmp (ev_pk rfl) rfl rfl rfl ?_
        show some (decide ((0 : Int) < ((d + 1 : Nat) : Int))) = _
        rw [decide_eq_true (by omega)]
      unfold s_t0
      rw [ev_ife_tt t1 rfl]
      exact dd
    obtain ⟨v, s', e, h1, h2, h3⟩ := s_end (F := F) (k := k) (d := d + 1) (m := m) g3 hT (.inr ⟨d, rfl, ih (k + 3) (by omega)⟩)
    refine ⟨v, s', ?_, h2, h3⟩
    have lk : calls prog.fns F (k + 4) "_law_some_value" [.st s, .p (.int (d + 1 : Nat))] = runFn (calls prog.fns F (k + 3)) F d__law_some_value.fn [.st s, .p (.int (d + 1 : Nat))] := rfl
    rw [lk]
    have hb : evB (calls prog.fns F (k + 3)) F b__law_some_value [0] [some (.st s), some (.p (.int (d + 1 : Nat))), none, none] = .ret (.p v) (some (.st s') :: some (.p (.int (d + 1 : Nat))) :: e) := by
      show evB (calls prog.fns F (k + 3)) F (.asg (.nm 2 false) s_t0 :: s_rest) [0] [some (.st s), some (.p (.int (d + 1 : Nat))), none, none] = _
      rw [evB_nx (asg_int (by simp) t0 (by simp))]
      exact h1
    unfold runFn
    rw [if_pos ⟨rfl, by decide⟩]
    show (match evB (calls prog.fns F (k + 3)) F b__law_some_value [0] [some (.st s), some (.p (.int (d + 1 : Nat))), none, none] with
      | .ret d e => _
      | .nx e => _
      | .exc c fs e => _
      | _ => _) = _
    rw [hb]
    rfl
end Ev.K88
end

section
set_option Elab.async false
set_option linter.all false
set_option maxRecDepth 100000
namespace Ev.K88
open PySem L2 Ev
def b_law : List S := [
  .asg (.nm 1 false) (.call "_law_begun" [(.pk 0)]),
  .for_ (.nm 2 false) (.lst [(.lit (.str "A")), (.lit (.str "")), (.lit (.str "a b")), (.lit (.str "a1")), (.lit (.str "-")), (.bin .Pow (.lit (.int 10)) (.lit (.int 12))), (.bin .Sub (.lit (.int 0)) (.bin .Pow (.lit (.int 10)) (.lit (.int 12)))), (.lit (.bl true)), (.lst [(.lit (.str "a"))]), (.tup [(.lit (.str "a")), (.lst [(.lit (.str "b"))])]), (.tup [(.lit (.str "a")), (.lit (.str "B"))]), (.call "_law_nested" [(.lit (.int 60)), (.lit (.str "a"))]), (.tup [(.lit (.str "a")), (.lit (.bl true))])]) [
    .ife (.cmp .NotEq (.word 11 12 (.call "value_text" [(.pk 2)])) (.tup [(.lit (.str "text")), (.lit (.int 0))])) [
      .ret (.lit (.bl false))] []],
  .asg (.nm 3 false) (.call "_law_nested" [(.lit (.int 59)), (.lit (.str "a"))]),
  .ife (.or (.not (.call "_law_is" [(.call "value_text" [(.pk 3)]), (.bin .Add (.bin .Add (.bin .Mult (.lit (.str "(")) (.lit (.int 59))) (.lit (.str "a"))) (.bin .Mult (.lit (.str ")")) (.lit (.int 59))))])) (.or (.cmp .NotEq (.call "read_value" [(.bin .Add (.bin .Add (.bin .Mult (.lit (.str "(")) (.lit (.int 59))) (.lit (.str "a"))) (.bin .Mult (.lit (.str ")")) (.lit (.int 59))))]) (.pk 3)) (.cmp .NotEq (.word 11 12 (.call "read_value" [(.bin .Add (.bin .Add (.bin .Mult (.lit (.str "(")) (.lit (.int 60))) (.lit (.str "a"))) (.bin .Mult (.lit (.str ")")) (.lit (.int 60))))])) (.tup [(.lit (.str "text")), (.lit (.int 0))])))) [
    .ret (.lit (.bl false))] [],
  .for_ (.nm 2 false) (.lst [(.lit .non), (.lit (.int 5)), (.lit (.str "")), (.lit (.str " ")), (.lit (.str "A")), (.lit (.str "a b")), (.lit (.str "01")), (.lit (.str "-0")), (.lit (.str "--1")), (.lit (.str "+1")), (.lit (.str "1000000000000")), (.lit (.str "(")), (.lit (.str ")")), (.lit (.str "(a")), (.lit (.str "a)")), (.lit (.str "(a))")), (.lit (.str "( a)")), (.lit (.str "(a )")), (.lit (.str "(a  b)")), (.lit (.str "()()")), (.lit (.str "(a)(b)")), (.lit (.str "a()")), (.lit (.str "1a")), (.lit (.str "a1")), (.lit (.str "- 1")), (.lit (.str "(-)-")), (.lit (.str "(a\nb)")), (.lit (.str "1/2"))]) [
    .ife (.cmp .NotEq (.word 11 12 (.call "read_value" [(.pk 2)])) (.tup [(.lit (.str "text")), (.lit (.int 0))])) [
      .ret (.lit (.bl false))] []],
  .for_ (.nm 4 false) (.range (.bin .Add (.lit (.int 8)) (.blt "min" [(.blt "len" [(.pk 0)]), (.lit (.int 10))]))) [
    .asg2 (.nm 9 false) (.nm 10 false) (.call "_law_some_value" [(.pk 1), (.lit (.int 3))]) (.call "_law_some_value" [(.pk 1), (.lit (.int 3))]),
    .asg (.nm 5 false) (.call "_law_value_text" [(.pk 9)]),
    .ife (.or (.not (.call "_law_is" [(.call "value_text" [(.pk 9)]), (.pk 5)])) (.or (.not (.call "_law_is" [(.call "read_value" [(.pk 5)]), (.pk 9)])) (.or (.not (.call "_law_is" [(.call "read_value" [(.pk 5)]), (.pk 9)])) (.not (.call "_law_is" [(.call "value_text" [(.pk 9)]), (.pk 5)]))))) [
      .ret (.lit (.bl false))] [],
    .ife (.cmp .NotEq (.cmp .Eq (.call "value_text" [(.pk 9)]) (.call "value_text" [(.pk 10)])) (.cmp .Eq (.pk 9) (.pk 10))) [
      .ret (.lit (.bl false))] [],
    .asg (.nm 6 false) (.call "_law_draw" [(.pk 1), (.bin .Add (.blt "len" [(.pk 5)]) (.lit (.int 1)))]),
    .asg (.nm 7 false) (.late "_law_pick" 1 (.lst [(.bin .Add (.bin .Add (.slc (.pk 5) none (some (.pk 6))) (.call "_law_pick" [(.pk 1), (.lst [(.lit (.str "(")), (.lit (.str ")")), (.lit (.str " ")), (.lit (.str "A"))])])) (.slc (.pk 5) (some (.pk 6)) none)), (.bin .Add (.slc (.pk 5) none (some (.pk 6))) (.slc (.pk 5) (some (.bin .Add (.pk 6) (.lit (.int 1)))) none))])),
    .asg (.nm 8 false) (.word 11 12 (.call "read_value" [(.pk 7)])),
    .ife (.and (.cmp .NotEq (.pk 8) (.tup [(.lit (.str "text")), (.lit (.int 0))])) (.or (.not (.call "_law_plain" [(.pk 8)])) (.cmp .NotEq (.call "_law_value_text" [(.pk 8)]) (.pk 7)))) [
      .ret (.lit (.bl false))] []],
  .ret (.lit (.bl true))]
abbrev d_law : Def := ⟨topS 45, ["script", "state", "thing", "deepest", "turn", "text", "at", "bent", "told", "one", "other", "%1", "%2"], ["script"], ⟨1, 13, b_law⟩⟩
def giL (x : Str) : Option GI := if x = "_law_word" then some (.word fun sc t e => chE gi d_law.N 40 sc t e) else gi x
theorem c_law : chB giL d_law.N 40 (defScope d_law.st) d_law.fn.body (defBody d_law.st) = true := by decide +kernel
end Ev.K88
end

section
set_option Elab.async false
set_option linter.all false
set_option maxRecDepth 100000
/-! Lw2: small things for the law's turns. -/
namespace Ev.K88
open PySem L2 Ev
variable {F k : Nat} {Γ : Calls}
theorem cnt_leaf {x : P} (h : LeafOk x) (n : ∀ xs, x ≠ .tup xs) : (tk x).flatten.count 40 = 0 := by
  rw [tk_leaf n]
  simp only [List.flatten_cons, List.flatten_nil, List.append_nil]
  refine List.count_eq_zero.mpr fun hm => ?_
  have := h.sp 40 hm
  revert this
  decide
mutual
theorem cnt_tk : ∀ (v : P), lv v → (tk v).flatten.count 40 ≤ opn v
  | .tup xs, h => by
    have := cnt_tks xs (by simpa only [lv] using h)
    rw [tk_tup]
    simp [opn]
    omega
  | .non, h => by have := cnt_leaf (x := .non) h (by simp); omega
  | .bl b, h => by have := cnt_leaf (x := .bl b) h (by simp); omega
  | .int i, h => by have := cnt_leaf (x := .int i) h (by simp); omega
  | .str s, h => by have := cnt_leaf (x := .str s) h (by simp); omega
  | .fl xs, h => by have := cnt_leaf (x := .fl xs) h (by simp); omega
  | .fd xs, h => by have := cnt_leaf (x := .fd xs) h (by simp); omega
  | .ins c xs, h => by have := cnt_leaf (x := .ins c xs) h (by simp); omega
  | .exc c xs, h => by have := cnt_leaf (x := .exc c xs) h (by simp); omega
  | .fn f, h => by have := cnt_leaf (x := .fn f) h (by simp); omega
theorem cnt_tks : ∀ (xs : List P), lvs xs → (tks xs).flatten.count 40 ≤ opns xs
  | [], _ => by simp [tks_nil]
  | [x], h => by
    have := cnt_tk x h.1
    rw [tks_one]
    simp [opns]
    omega
  | x :: y :: r, h => by
    have h1 := cnt_tk x h.1
    have h2 := cnt_tks (y :: r) h.2
    rw [tks_cons]
    simp only [List.flatten_append, List.flatten_cons, List.count_append]
    have e : List.count 40 [32] = 0 := by decide
    rw [e]
    simp only [opns] at h2 ⊢
    omega
end
theorem count_chars {v : P} (h : lv v) : (chars v).count 40 ≤ opn v := cnt_tk v h
theorem read_good {l : List Nat} (hc : ∀ c ∈ l, c < 1114112) (hm : l.length ≤ 5000) (ho : l.count 40 ≤ 40) {x : P} (h : readM l = some x) : good x = true ∧ dep x ≤ 50 ∧ W x ≤ 30000 ∧ textOf x = mkS l := by
  have hws := wsum_pcs l
  have hop := opens_pcs l
  obtain ⟨_, v3⟩ := m_value_of (F := 0) (k := 0) (ws := pcs l) (by omega) (by omega) fun w hw => by
    obtain ⟨h1, h2⟩ := pcs_mem hw
    have h3 : w.length ≤ l.length := by
      have := pcs_flat l
      rw [← this]
      exact (List.sublist_flatten_of_mem hw).length_le
    exact ⟨fun c h => hc c (h2 c h), by omega, h1⟩
  unfold readM at h
  rcases v3 with e | ⟨y, e, g1, g2, g3⟩
  · rw [e] at h; cases h
  · rw [e] at h
    dsimp only at h
    split at h
    · rename_i et
      cases h
      exact ⟨g1, by omega, by omega, et⟩
    · cases h
theorem mkS_app (a b : List Nat) : mkS a ++ mkS b = mkS (a ++ b) := by
  unfold mkS
  show Str.mk (a.toArray ++ b.toArray) = _
  simp
theorem cut_take (l : List Nat) (m : Nat) : cutS (mkS l) none (some (m : Int)) = mkS (l.take m) := by
  unfold cutS
  have h1 : HT.sIx (mkS l).length 0 none = 0 := rfl
  have h2 : HT.sIx (mkS l).length (mkS l).length (some (m : Int)) = min m (mkS l).length := HT.sIx_nat _ _ m
  rw [h1, h2, mkS_len, mkS_tl]
  unfold mkS
  congr 2
  simp
theorem cut_drop (l : List Nat) (m : Nat) : cutS (mkS l) (some (m : Int)) none = mkS (l.drop m) := by
  unfold cutS
  have h1 : HT.sIx (mkS l).length (mkS l).length none = (mkS l).length := rfl
  have h2 : HT.sIx (mkS l).length 0 (some (m : Int)) = min m (mkS l).length := HT.sIx_nat _ _ m
  rw [h1, h2, mkS_len, mkS_tl]
  unfold mkS
  congr 2
  rw [List.take_of_length_le (by simp)]
  by_cases h : m ≤ l.length
  · rw [Nat.min_eq_left h]
  · rw [Nat.min_eq_right (by omega), List.drop_of_length_le (by omega), List.drop_of_length_le (by omega)]
theorem ev_two {a b : T} {e e1 e2 : Env} {d d' : D} (h1 : evT Γ a e = .ok d e1) (h2 : evT Γ b e1 = .ok d' e2) : evTs Γ [a, b] e = .ok [d, d'] e2 := by simp only [evTs, h1, h2]
theorem ev_word_ok {a b : Nat} {t : T} {e e1 : Env} {d d1 d2 o : D} {r : List D} {x : P} (h1 : getE e a = some d1) (h2 : getE e b = some d2) (hΓ : Γ "%tab" [d1, d2] = .ok o r) (h : evT Γ t e = .ok d e1) (hf : d.frz = some x) : evT Γ (.word a b t) e = .ok (.p x) e1 := by
  simp only [evT, h1, h2, hΓ, h, hf, optP]
theorem ev_word_exc {a b : Nat} {t : T} {e e1 : Env} {d1 d2 o : D} {r : List D} {x : P} (h1 : getE e a = some d1) (h2 : getE e b = some d2) (hΓ : Γ "%tab" [d1, d2] = .ok o r) (h : evT Γ t e = .exc "NoText" [("line", x)] e1) : evT Γ (.word a b t) e = .ok (.p (.tup [.str "text", x])) e1 := by
  have w : wordOf "NoText" [("line", x)] = some (.tup [.str "text", x]) := by
    unfold wordOf
    rw [if_pos rfl]
    show (if ("line" : Str) = "line" then _ else _) = _
    rw [if_pos rfl]
  simp only [evT, h1, h2, hΓ, h, w, optP]
theorem ev_call_exc {f c : Str} {as : List T} {e e' e2 : Env} {ds ds' : List D} {fs : Flds} (ha : evAs Γ as e = .ok ds e') (hc : Γ f ds = .exc c fs ds') (hb : backs as ds ds' e' = e2) : evT Γ (.call f as) e = .exc c fs e2 := by
  simp only [evT, ha, OutL.bind, hc, hb]
theorem ev_late {f : Str} {i : Nat} {t : T} {e e1 : Env} {d0 d r : D} {s s' : DSt} {rest : List D} (h0 : getE e i = some d0) (h1 : evT Γ t e = .ok d e1) (h2 : getE e1 i = some (.st s)) (h3 : Γ f [.st s, d] = .ok r (.st s' :: rest)) : evT Γ (.late f i t) e = .ok r (e1.set i (some (.st s'))) := by
  simp only [evT, h0, h1, Out.bind, h2, h3]
  rfl
theorem ev_slc {a : T} {lo hi : Option T} {e e1 e2 e3 : Env} {x x' r : D} {l h : Option Int} (h1 : evT Γ a e = .ok x e1) (h2 : evO Γ lo e1 = (some l, e2)) (h3 : evO Γ hi e2 = (some h, e3)) (hf : fin a x e3 = some x') (hs : slcop x' l h = some r) : evT Γ (.slc a lo hi) e = .ok r e3 := by
  simp only [evT, h1, Out.bind, h2, h3, hf, hs, opt]
theorem evO_no {e : Env} : evO Γ none e = (some none, e) := by simp only [evO]
theorem evO_so {t : T} {e e' : Env} {d : D} {i : Int} (h : evT Γ t e = .ok d e') (hf : fin t d e' = some (.p (.int i))) : evO Γ (some t) e = (some (some i), e') := by simp only [evO, h, hf]
theorem eqP {x y : P} (hx : okv x = true) (hy : okv y = true) (dx : dp x ≤ 64) (dy : dp y ≤ 64) : eqD (.p x) (.p y) = some (decide (x = y)) := eqD_p hx hy dx dy
theorem neP {x y : P} (hx : okv x = true) (hy : okv y = true) (dx : dp x ≤ 64) (dy : dp y ≤ 64) : cmpop .NotEq (.p x) (.p y) = some (!decide (x = y)) := by
  show (eqD (.p x) (.p y)).map not = _
  rw [eqD_p hx hy dx dy]
  rfl
end Ev.K88
end

section
set_option Elab.async false
set_option linter.all false
set_option maxRecDepth 100000
/-! Lw3: one turn of the law's walk. -/
namespace Ev.K88
open PySem L2 Ev
/-- what the law's turns ask of the calls -/
structure LG (Γ : Calls) (d1 d2 : D) : Prop where
  some_ : SVal Γ 3
  vtext : ∀ v, good v = true → dep v ≤ 50 → W v ≤ 30000 → Γ "value_text" [.p v] = .ok (.p (.str (textOf v))) [.p v]
  ltext : ∀ v, good v = true → dep v ≤ 50 → W v ≤ 30000 → Γ "_law_value_text" [.p v] = .ok (.p (.str (textOf v))) [.p v]
  is_ : ∀ x, Sh x → Γ "_law_is" [.p x, .p x] = .ok (.p (.bl true)) [.p x, .p x]
  read : ∀ l : List Nat, (∀ c ∈ l, c < 1114112) → l.length ≤ 5000 → l.count 40 ≤ 40 → Γ "read_value" [.p (.str (mkS l))] = outR l (readM l)
  draw : ∀ (s : DSt) (T : Nat) (n : Int), SI T s → T < 1000000 → 0 < n → n < 1073741824 → Γ "_law_draw" [.st s, .p (.int n)] = .ok (.p (.int (s.draw n).1)) [.st (s.draw n).2, .p (.int n)]
  pick : ∀ (s : DSt) (T : Nat) (xs : List P), SI T s → T < 1000000 → xs ≠ [] → xs.length < 1000000 → ∃ x ∈ xs, ∃ s', SI (T + 1) s' ∧ Γ "_law_pick" [.st s, .pl xs] = .ok (.p x) [.st s', .pl xs]
  plain : ∀ x, okv x = true → dp x ≤ 60 → Γ "_law_plain" [.p x] = .ok (.p (.bl true)) [.p x]
  tab : ∃ o r, Γ "%tab" [d1, d2] = .ok o r
abbrev lE (sc : P) (s : DSt) (d1 d2 : D) (o2 o3 o4 o5 o6 o7 o8 o9 o10 : Option D) : Env := [some (.p sc), some (.st s), o2, o3, o4, o5, o6, o7, o8, o9, o10, some d1, some d2]
def u1 : S := .asg2 (.nm 9 false) (.nm 10 false) (.call "_law_some_value" [(.pk 1), (.lit (.int 3))]) (.call "_law_some_value" [(.pk 1), (.lit (.int 3))])
def u2 : S := .asg (.nm 5 false) (.call "_law_value_text" [(.pk 9)])
def u3 : S := .ife (.or (.not (.call "_law_is" [(.call "value_text" [(.pk 9)]), (.pk 5)])) (.or (.not (.call "_law_is" [(.call "read_value" [(.pk 5)]), (.pk 9)])) (.or (.not (.call "_law_is" [(.call "read_value" [(.pk 5)]), (.pk 9)])) (.not (.call "_law_is" [(.call "value_text" [(.pk 9)]), (.pk 5)]))))) [
      .ret (.lit (.bl false))] []
def u4 : S := .ife (.cmp .NotEq (.cmp .Eq (.call "value_text" [(.pk 9)]) (.call "value_text" [(.pk 10)])) (.cmp .Eq (.pk 9) (.pk 10))) [
      .ret (.lit (.bl false))] []
def u5 : S := .asg (.nm 6 false) (.call "_law_draw" [(.pk 1), (.bin .Add (.blt "len" [(.pk 5)]) (.lit (.int 1)))])
def u6t : T := .lst [(.bin .Add (.bin .Add (.slc (.pk 5) none (some (.pk 6))) (.call "_law_pick" [(.pk 1), (.lst [(.lit (.str "(")), (.lit (.str ")")), (.lit (.str " ")), (.lit (.str "A"))])])) (.slc (.pk 5) (some (.pk 6)) none)), (.bin .Add (.slc (.pk 5) none (some (.pk 6))) (.slc (.pk 5) (some (.bin .Add (.pk 6) (.lit (.int 1)))) none))]
def u6 : S := .asg (.nm 7 false) (.late "_law_pick" 1 u6t)
def u7 : S := .asg (.nm 8 false) (.word 11 12 (.call "read_value" [(.pk 7)]))
def u8 : S := .ife (.and (.cmp .NotEq (.pk 8) (.tup [(.lit (.str "text")), (.lit (.int 0))])) (.or (.not (.call "_law_plain" [(.pk 8)])) (.cmp .NotEq (.call "_law_value_text" [(.pk 8)]) (.pk 7)))) [
      .ret (.lit (.bl false))] []
def lbody : List S := [u1, u2, u3, u4, u5, u6, u7, u8]
section
variable {F : Nat} {Γ : Calls} {sc : P} {s : DSt} {d1 d2 : D} {o2 o3 o4 o5 o6 o7 o8 o9 o10 : Option D}
theorem asg_p {prot : List Nat} {i : Nat} {t : T} {e e' : Env} {d : D} {x : P} (hp : i ∉ prot) (h : evT Γ t e = .ok d e') (hd : d.frz = some x) (hl : i < e'.length) : evS Γ F (.asg (.nm i false) t) prot e = .nx (e'.set i (some (.p x))) := by
  simp only [evS]
  rw [h]
  simp only [Out.thn]
  rw [asg_nm hp hl hd (frzIf_of hd)]
theorem l_some {v : P} {s' : DSt} (h : Γ "_law_some_value" [.st s, .p (.int (3 : Nat))] = .ok (.p v) [.st s', .p (.int (3 : Nat))]) :
    evT Γ (.call "_law_some_value" [(.pk 1), (.lit (.int 3))]) (lE sc s d1 d2 o2 o3 o4 o5 o6 o7 o8 o9 o10) = .ok (.p v) (lE sc s' d1 d2 o2 o3 o4 o5 o6 o7 o8 o9 o10) :=
  ev_call (evAs_cons (ev_pk (d := .st s) rfl) rfl (evAs_cons (d0 := .p (.int 3)) rfl rfl rfl)) h rfl
theorem l_u1 (G : LG Γ d1 d2) {T : Nat} (si : SI T s) (hT : T + 160 ≤ 900000) : ∃ v w s', evS Γ F u1 [] (lE sc s d1 d2 o2 o3 o4 o5 o6 o7 o8 o9 o10) = .nx (lE sc s' d1 d2 o2 o3 o4 o5 o6 o7 o8 (some (.p v)) (some (.p w))) ∧ SI (T + 160) s' ∧ Dr 3 v ∧ Dr 3 w := by
  have c3 : cost 3 = 80 := by decide
  obtain ⟨v, s1, h1, h2, h3⟩ := G.some_ s T si (by omega)
  obtain ⟨w, s2, g1, g2, g3⟩ := G.some_ s1 (T + cost 3) h2 (by omega)
  refine ⟨v, w, s2, ?_, by rw [show T + 160 = T + cost 3 + cost 3 by omega]; exact g2, h3, g3⟩
  have t := ev_two (l_some (sc := sc) (d1 := d1) (d2 := d2) (o2 := o2) (o3 := o3) (o4 := o4) (o5 := o5) (o6 := o6) (o7 := o7) (o8 := o8) (o9 := o9) (o10 := o10) h1) (l_some g1)
  unfold u1
  simp only [evS]
  rw [t]
  dsimp only
  rw [asg_nm (x := v) (by simp) (by simp) rfl rfl]
  dsimp only
  rw [asg_nm (x := w) (by simp) (by simp) rfl rfl]
  rfl
theorem wb3 : wb 3 = 417 := by decide
theorem ob3 : ob 3 = 13 := by decide
theorem chars_ok {v : P} (g : good v = true) : ∀ c ∈ chars v, c < 1114112 := by
  have := textOf_ok g
  rw [textOf_tk] at this
  exact strOk_iff.mp this
theorem read_dr {v : P} (D : Dr 3 v) (G : LG Γ d1 d2) : Γ "read_value" [.p (.str (textOf v))] = .ok (.p v) [.p (.str (textOf v))] := by
  have h1 := chars_len v
  have h2 := count_chars D.l
  have h3 := D.w
  have h4 := D.o
  rw [wb3] at h3
  rw [ob3] at h4
  rw [textOf_tk]
  show Γ "read_value" [.p (.str (mkS (chars v)))] = .ok (.p v) [.p (.str (mkS (chars v)))]
  rw [G.read (chars v) (chars_ok D.g) (by omega) (by omega), read_text D.l]
  rfl
theorem sh_text {v : P} (D : Dr 3 v) : Sh (.str (textOf v)) := by
  have h1 := text_len v
  have h3 := D.w
  rw [wb3] at h3
  exact Sh.str (textOf_ok D.g) (by omega)
theorem l_c1 {f : Str} {i : Nat} {e : Env} {x : P} {r : D} (hg : getE e i = some (.p x)) (h : Γ f [.p x] = .ok r [.p x]) : evT Γ (.call f [(.pk i)]) e = .ok r e :=
  ev_call (evAs_cons (ev_pk hg) hg rfl) h rfl
theorem l_is {t : T} {i : Nat} {e : Env} {x : P} (n : ∀ j, t ≠ .pk j) (ht : evT Γ t e = .ok (.p x) e) (hi : getE e i = some (.p x)) (h : Γ "_law_is" [.p x, .p x] = .ok (.p (.bl true)) [.p x, .p x]) : evT Γ (.not (.call "_law_is" [t, (.pk i)])) e = .ok (.p (.bl false)) e := by
  have hf : fin t (.p x) e = some (.p x) := by
    unfold Ev.fin
    split
    · exact absurd rfl (n _)
    · rfl
  have tk1 : take1 t e (.p x) = e := by
    unfold take1
    split <;> first | rfl | (rename_i h1 h2; exact absurd rfl (h1 _))
  have h2 : evAs Γ [(.pk i)] e = .ok [.p x] e := evAs_cons (ev_pk hi) hi rfl
  have b1 : back1 t (.p x) (.p x) e = e := by
    unfold back1
    split <;> first | rfl | (rename_i h1 h2; exact absurd rfl (h1 _))
  refine ev_not (ev_call (evAs_cons ht hf (by rw [tk1]; exact h2)) h ?_) rfl
  simp only [Ev.backs, b1]
  rfl
end
end Ev.K88
end

section
set_option Elab.async false
set_option linter.all false
set_option maxRecDepth 100000
/-! Lw4: one turn of the law's walk, on. -/
namespace Ev.K88
open PySem L2 Ev
section
variable {F : Nat} {Γ : Calls} {sc : P} {s : DSt} {d1 d2 : D} {o2 o3 o4 o5 o6 o7 o8 o9 o10 : Option D}
theorem ne_bl : ∀ b : Bool, cmpop .NotEq (.p (.bl b)) (.p (.bl b)) = some false
  | true => by decide +kernel
  | false => by decide +kernel
theorem text_chars (v : P) : textOf v = mkS (chars v) := textOf_tk v
theorem l_u2 (G : LG Γ d1 d2) {v : P} (D : Dr 3 v) : evS Γ F u2 [] (lE sc s d1 d2 o2 o3 o4 o5 o6 o7 o8 (some (.p v)) o10) = .nx (lE sc s d1 d2 o2 o3 o4 (some (.p (.str (textOf v)))) o6 o7 o8 (some (.p v)) o10) := by
  have h3 := D.w
  rw [wb3] at h3
  have h4 := D.e
  exact asg_p (d := .p (.str (textOf v))) (by simp) (l_c1 (i := 9) rfl (G.ltext v D.g (by omega) (by omega))) rfl (by simp)
theorem l_u3 (G : LG Γ d1 d2) {v : P} (D : Dr 3 v) : evS Γ F u3 [] (lE sc s d1 d2 o2 o3 o4 (some (.p (.str (textOf v)))) o6 o7 o8 (some (.p v)) o10) = .nx (lE sc s d1 d2 o2 o3 o4 (some (.p (.str (textOf v)))) o6 o7 o8 (some (.p v)) o10) := by
  have h3 := D.w
  rw [wb3] at h3
  have h4 := D.e
  have a1 : evT Γ (.call "value_text" [(.pk 9)]) (lE sc s d1 d2 o2 o3 o4 (some (.p (.str (textOf v)))) o6 o7 o8 (some (.p v)) o10) = .ok (.p (.str (textOf v))) (lE sc s d1 d2 o2 o3 o4 (some (.p (.str (textOf v)))) o6 o7 o8 (some (.p v)) o10) := l_c1 rfl (G.vtext v D.g (by omega) (by omega))
  have a2 : evT Γ (.call "read_value" [(.pk 5)]) (lE sc s d1 d2 o2 o3 o4 (some (.p (.str (textOf v)))) o6 o7 o8 (some (.p v)) o10) = .ok (.p v) (lE sc s d1 d2 o2 o3 o4 (some (.p (.str (textOf v)))) o6 o7 o8 (some (.p v)) o10) := l_c1 rfl (read_dr D G)
  have b1 := l_is (i := 5) (by simp) a1 rfl (G.is_ _ (sh_text D))
  have b2 := l_is (i := 9) (by simp) a2 rfl (G.is_ _ (Sh.good D.g (by omega) (by omega)))
  unfold u3
  refine (ev_ife_f ((ev_or_f b1 rfl).trans ((ev_or_f b2 rfl).trans ((ev_or_f b2 rfl).trans b1))) rfl).trans rfl
theorem l_u4 (G : LG Γ d1 d2) {v w : P} (D : Dr 3 v) (E : Dr 3 w) : evS Γ F u4 [] (lE sc s d1 d2 o2 o3 o4 o5 o6 o7 o8 (some (.p v)) (some (.p w))) = .nx (lE sc s d1 d2 o2 o3 o4 o5 o6 o7 o8 (some (.p v)) (some (.p w))) := by
  have h3 := D.w
  have g3 := E.w
  rw [wb3] at h3 g3
  have h4 := D.e
  have g4 := E.e
  obtain ⟨h5, h6⟩ := good_okv D.g
  obtain ⟨g5, g6⟩ := good_okv E.g
  have a1 : evT Γ (.call "value_text" [(.pk 9)]) (lE sc s d1 d2 o2 o3 o4 o5 o6 o7 o8 (some (.p v)) (some (.p w))) = .ok (.p (.str (textOf v))) (lE sc s d1 d2 o2 o3 o4 o5 o6 o7 o8 (some (.p v)) (some (.p w))) := l_c1 rfl (G.vtext v D.g (by omega) (by omega))
  have a2 : evT Γ (.call "value_text" [(.pk 10)]) (lE sc s d1 d2 o2 o3 o4 o5 o6 o7 o8 (some (.p v)) (some (.p w))) = .ok (.p (.str (textOf w))) (lE sc s d1 d2 o2 o3 o4 o5 o6 o7 o8 (some (.p v)) (some (.p w))) := l_c1 rfl (G.vtext w E.g (by omega) (by omega))
  have b1 := ev_cmp (op := .Eq) a1 a2 rfl rfl (eqP (textOf_ok D.g) (textOf_ok E.g) (by simp [dp]) (by simp [dp]))
  have b2 : evT Γ (.cmp .Eq (.pk 9) (.pk 10)) (lE sc s d1 d2 o2 o3 o4 o5 o6 o7 o8 (some (.p v)) (some (.p w))) = .ok (.p (.bl (decide (v = w)))) (lE sc s d1 d2 o2 o3 o4 o5 o6 o7 o8 (some (.p v)) (some (.p w))) :=
    ev_cmp (ev_pk rfl) (ev_pk rfl) rfl rfl (eqP h5 g5 (by omega) (by omega))
  have e : decide (P.str (textOf v) = P.str (textOf w)) = decide (v = w) := by
    by_cases hv : v = w
    · subst hv
      simp
    · rw [decide_eq_false hv]
      refine decide_eq_false fun z => hv (text_inj D.l E.l ?_)
      injection z
  rw [e] at b1
  have b3 := ev_cmp (op := .NotEq) b1 b2 rfl rfl (ne_bl _)
  unfold u4
  exact (ev_ife_f b3 rfl).trans rfl
theorem l_u5 (G : LG Γ d1 d2) {l : List Nat} (hl : l.length ≤ 4000) {T : Nat} (si : SI T s) (hT : T < 900000) : ∃ (m : Nat) (s' : DSt), m ≤ l.length ∧ SI (T + 1) s' ∧
    evS Γ F u5 [] (lE sc s d1 d2 o2 o3 o4 (some (.p (.str (mkS l)))) o6 o7 o8 o9 o10) = .nx (lE sc s' d1 d2 o2 o3 o4 (some (.p (.str (mkS l)))) (some (.p (.int m))) o7 o8 o9 o10) := by
  have hlim : lim = 1000000 := rfl
  obtain ⟨m, s', g1, g2, g3⟩ := draw_pos si (n := (l.length : Int) + 1) (by omega)
  refine ⟨m, s', by omega, g3, ?_⟩
  have dd := G.draw s T ((l.length : Int) + 1) si (by omega) (by omega) (by omega)
  rw [g1] at dd
  dsimp only at dd
  have a1 : evT Γ (.blt "len" [(.pk 5)]) [some (.p sc), none, o2, o3, o4, (some (.p (.str (mkS l)))), o6, o7, o8, o9, o10, some d1, some d2] = .ok (.p (.int (l.length : Int))) [some (.p sc), none, o2, o3, o4, (some (.p (.str (mkS l)))), o6, o7, o8, o9, o10, some d1, some d2] := by
    refine ev_blt1 (d' := .p (.str (mkS l))) (ev_pk rfl) rfl ?_
    show (if (mkS l).length ≤ lim then some (D.p (.int (mkS l).length)) else none) = _
    rw [if_pos (by rw [mkS_len]; omega), mkS_len]
  have a2 : evT Γ (.bin .Add (.blt "len" [(.pk 5)]) (.lit (.int 1))) [some (.p sc), none, o2, o3, o4, (some (.p (.str (mkS l)))), o6, o7, o8, o9, o10, some d1, some d2] = .ok (.p (.int ((l.length : Int) + 1))) [some (.p sc), none, o2, o3, o4, (some (.p (.str (mkS l)))), o6, o7, o8, o9, o10, some d1, some d2] :=
    ev_bin a1 (y := .p (.int 1)) rfl rfl rfl rfl
  have a3 : evAs Γ [(.pk 1), (.bin .Add (.blt "len" [(.pk 5)]) (.lit (.int 1)))] (lE sc s d1 d2 o2 o3 o4 (some (.p (.str (mkS l)))) o6 o7 o8 o9 o10) = .ok [.st s, .p (.int ((l.length : Int) + 1))] [some (.p sc), none, o2, o3, o4, (some (.p (.str (mkS l)))), o6, o7, o8, o9, o10, some d1, some d2] :=
    evAs_cons (ev_pk (d := .st s) rfl) rfl (evAs_cons a2 rfl rfl)
  have a4 : evT Γ (.call "_law_draw" [(.pk 1), (.bin .Add (.blt "len" [(.pk 5)]) (.lit (.int 1)))]) (lE sc s d1 d2 o2 o3 o4 (some (.p (.str (mkS l)))) o6 o7 o8 o9 o10) = .ok (.p (.int m)) (lE sc s' d1 d2 o2 o3 o4 (some (.p (.str (mkS l)))) o6 o7 o8 o9 o10) := ev_call a3 dd rfl
  exact asg_p (d := .p (.int m)) (by simp) a4 rfl (by simp)
theorem l_take {e : Env} {l : List Nat} {m : Nat} (hl : l.length ≤ 4000) (h5 : getE e 5 = some (.p (.str (mkS l)))) (h6 : getE e 6 = some (.p (.int m))) : evT Γ (.slc (.pk 5) none (some (.pk 6))) e = .ok (.p (.str (mkS (l.take m)))) e := by
  have hlim : lim = 1000000 := rfl
  refine ev_slc (ev_pk h5) evO_no (evO_so (ev_pk h6) h6) h5 ?_
  show (if (mkS l).length ≤ lim then some (D.p (.str (cutS (mkS l) none (some (m : Int))))) else none) = _
  rw [if_pos (by rw [mkS_len]; omega), cut_take]
theorem l_drop {e : Env} {l : List Nat} {m : Nat} {t : T} {d : D} (hl : l.length ≤ 4000) (h5 : getE e 5 = some (.p (.str (mkS l)))) (ht : evT Γ t e = .ok d e) (hf : fin t d e = some (.p (.int m))) : evT Γ (.slc (.pk 5) (some t) none) e = .ok (.p (.str (mkS (l.drop m)))) e := by
  have hlim : lim = 1000000 := rfl
  refine ev_slc (ev_pk h5) (evO_so ht hf) evO_no h5 ?_
  show (if (mkS l).length ≤ lim then some (D.p (.str (cutS (mkS l) (some (m : Int)) none))) else none) = _
  rw [if_pos (by rw [mkS_len]; omega), cut_drop]
theorem add_s {a b : List Nat} (h : a.length + b.length ≤ 9000) : binop .Add (.p (.str (mkS a))) (.p (.str (mkS b))) = some (.p (.str (mkS (a ++ b)))) := by
  have hlim : lim = 1000000 := rfl
  show (if (mkS a).length + (mkS b).length ≤ lim then some (D.p (.str (mkS a ++ mkS b))) else none) = _
  rw [if_pos (by rw [mkS_len, mkS_len]; omega), mkS_app]
def four : List P := [.str (mkS [40]), .str (mkS [41]), .str (mkS [32]), .str (mkS [65])]
theorem four_lit : ([.str "(", .str ")", .str " ", .str "A"] : List P) = four := by kernel_rfl
theorem l_u6 (G : LG Γ d1 d2) {l : List Nat} {m : Nat} (hl : l.length ≤ 4000) (hm : m ≤ l.length) {T : Nat} (si : SI T s) (hT : T < 900000) : ∃ (b : List Nat) (s' : DSt), SI (T + 2) s' ∧ (∀ c ∈ b, c ∈ l ∨ c ∈ [40, 41, 32, 65]) ∧ b.length ≤ l.length + 1 ∧ b.count 40 ≤ l.count 40 + 1 ∧
    evS Γ F u6 [] (lE sc s d1 d2 o2 o3 o4 (some (.p (.str (mkS l)))) (some (.p (.int m))) o7 o8 o9 o10) = .nx (lE sc s' d1 d2 o2 o3 o4 (some (.p (.str (mkS l)))) (some (.p (.int m))) (some (.p (.str (mkS b)))) o8 o9 o10) := by
  obtain ⟨x, hx, s1, g1, g2⟩ := G.pick s T four si (by omega) (by simp [four]) (by simp [four])
  obtain ⟨c, hc, rfl⟩ : ∃ c ∈ [40, 41, 32, 65], x = .str (mkS [c]) := by
    simp only [four, List.mem_cons, List.not_mem_nil, or_false] at hx
    rcases hx with rfl | rfl | rfl | rfl
    · exact ⟨40, by simp, rfl⟩
    · exact ⟨41, by simp, rfl⟩
    · exact ⟨32, by simp, rfl⟩
    · exact ⟨65, by simp, rfl⟩
  obtain ⟨y, hy, s2, k1, k2⟩ := G.pick s1 (T + 1) [.str (mkS (l.take m ++ [c] ++ l.drop m)), .str (mkS (l.take m ++ l.drop (m + 1)))] g1 (by omega) (by simp) (by simp)
  have ltk : (l.take m).length ≤ l.length := by rw [List.length_take]; omega
  have ldr : ∀ n, (l.drop n).length ≤ l.length := fun n => by rw [List.length_drop]; omega
  have p1 : evT Γ (.call "_law_pick" [(.pk 1), (.lst [(.lit (.str "(")), (.lit (.str ")")), (.lit (.str " ")), (.lit (.str "A"))])]) (lE sc s d1 d2 o2 o3 o4 (some (.p (.str (mkS l)))) (some (.p (.int m))) o7 o8 o9 o10) = .ok (.p (.str (mkS [c]))) (lE sc s1 d1 d2 o2 o3 o4 (some (.p (.str (mkS l)))) (some (.p (.int m))) o7 o8 o9 o10) := by
    have q : evT Γ (.lst [(.lit (.str "(")), (.lit (.str ")")), (.lit (.str " ")), (.lit (.str "A"))]) [some (.p sc), none, o2, o3, o4, (some (.p (.str (mkS l)))), (some (.p (.int m))), o7, o8, o9, o10, some d1, some d2] = .ok (.pl four) [some (.p sc), none, o2, o3, o4, (some (.p (.str (mkS l)))), (some (.p (.int m))), o7, o8, o9, o10, some d1, some d2] := by
      rw [← four_lit]
      rfl
    have q2 : evAs Γ [(.pk 1), (.lst [(.lit (.str "(")), (.lit (.str ")")), (.lit (.str " ")), (.lit (.str "A"))])] (lE sc s d1 d2 o2 o3 o4 (some (.p (.str (mkS l)))) (some (.p (.int m))) o7 o8 o9 o10) = .ok [.st s, .pl four] [some (.p sc), none, o2, o3, o4, (some (.p (.str (mkS l)))), (some (.p (.int m))), o7, o8, o9, o10, some d1, some d2] :=
      evAs_cons (ev_pk (d := .st s) rfl) rfl (evAs_cons q rfl rfl)
    exact ev_call q2 g2 rfl
  have a1 := ev_bin (op := .Add) (ev_bin (op := .Add) (l_take (Γ := Γ) (e := lE sc s d1 d2 o2 o3 o4 (some (.p (.str (mkS l)))) (some (.p (.int m))) o7 o8 o9 o10) hl rfl rfl) p1 rfl rfl (add_s (by simp; omega))) (l_drop (m := m) hl rfl (ev_pk (i := 6) (d := .p (.int m)) rfl) rfl) rfl rfl (add_s (by have := ldr m; simp; omega))
  have a2 : evT Γ (.bin .Add (.pk 6) (.lit (.int 1))) (lE sc s1 d1 d2 o2 o3 o4 (some (.p (.str (mkS l)))) (some (.p (.int m))) o7 o8 o9 o10) = .ok (.p (.int ((m + 1 : Nat) : Int))) (lE sc s1 d1 d2 o2 o3 o4 (some (.p (.str (mkS l)))) (some (.p (.int m))) o7 o8 o9 o10) :=
    ev_bin (ev_pk rfl) (y := .p (.int 1)) rfl rfl rfl rfl
  have a3 := ev_bin (op := .Add) (l_take (Γ := Γ) (e := lE sc s1 d1 d2 o2 o3 o4 (some (.p (.str (mkS l)))) (some (.p (.int m))) o7 o8 o9 o10) hl rfl rfl) (l_drop (m := m + 1) hl rfl a2 rfl) rfl rfl (add_s (by have := ldr (m + 1); omega))
  have a4 : evT Γ u6t (lE sc s d1 d2 o2 o3 o4 (some (.p (.str (mkS l)))) (some (.p (.int m))) o7 o8 o9 o10) = .ok (.pl [.str (mkS (l.take m ++ [c] ++ l.drop m)), .str (mkS (l.take m ++ l.drop (m + 1)))]) (lE sc s1 d1 d2 o2 o3 o4 (some (.p (.str (mkS l)))) (some (.p (.int m))) o7 o8 o9 o10) := by
    unfold u6t
    simp only [evT, ev_two a1 a3, OutL.bind]
    rfl
  have a5 := ev_late (f := "_law_pick") (i := 1) (d0 := .st s) (s := s1) (s' := s2) rfl a4 rfl k2
  have md : ∀ n, ∀ z ∈ l.drop n, z ∈ l := fun n z hz => List.mem_of_mem_drop hz
  have mt : ∀ z ∈ l.take m, z ∈ l := fun z hz => List.mem_of_mem_take hz
  have cnt : (l.take m).count 40 + (l.drop m).count 40 = l.count 40 := by
    rw [← List.count_append, List.take_append_drop]
  have fin : ∀ b : List Nat, y = .str (mkS b) → (∀ c ∈ b, c ∈ l ∨ c ∈ [40, 41, 32, 65]) → b.length ≤ l.length + 1 → b.count 40 ≤ l.count 40 + 1 → ∃ (b : List Nat) (s' : DSt), SI (T + 2) s' ∧ (∀ c ∈ b, c ∈ l ∨ c ∈ [40, 41, 32, 65]) ∧ b.length ≤ l.length + 1 ∧ b.count 40 ≤ l.count 40 + 1 ∧
    evS Γ F u6 [] (lE sc s d1 d2 o2 o3 o4 (some (.p (.str (mkS l)))) (some (.p (.int m))) o7 o8 o9 o10) = .nx (lE sc s' d1 d2 o2 o3 o4 (some (.p (.str (mkS l)))) (some (.p (.int m))) (some (.p (.str (mkS b)))) o8 o9 o10) := fun b e q1 q2 q3 => by
    subst e
    exact ⟨b, s2, k1, q1, q2, q3, asg_p (d := .p (.str (mkS b))) (by simp) a5 rfl (by simp)⟩
  simp only [List.mem_cons, List.not_mem_nil, or_false] at hy
  rcases hy with rfl | rfl
  · refine fin _ rfl (fun z hz => ?_) (by simp; omega) ?_
    · rw [List.append_assoc, List.mem_append, List.mem_append] at hz
      rcases hz with hz | hz | hz
      · exact .inl (mt z hz)
      · exact .inr (by rw [List.mem_singleton.mp hz]; exact hc)
      · exact .inl (md m z hz)
    · rw [List.count_append, List.count_append]
      have : List.count 40 [c] ≤ 1 := by have := List.count_le_length (a := 40) (l := [c]); simpa using this
      omega
  · refine fin _ rfl (fun z hz => ?_) (by simp; omega) ?_
    · rcases List.mem_append.mp hz with hz | hz
      · exact .inl (mt z hz)
      · exact .inl (md (m + 1) z hz)
    · rw [List.count_append]
      have : (l.drop (m + 1)).count 40 ≤ (l.drop m).count 40 := by
        rw [← List.drop_drop]
        exact (List.drop_sublist 1 (l.drop m)).count_le 40
      omega
end
end Ev.K88
end

section
set_option Elab.async false
set_option linter.all false
set_option maxRecDepth 100000
/-! Lw5: the turns of the law's walk. -/
namespace Ev.K88
open PySem L2 Ev
def told0 : P := .tup [.str "text", .int 0]
theorem told0_ok : okv told0 = true ∧ dp told0 = 1 := by decide +kernel
section
variable {F : Nat} {Γ : Calls} {sc : P} {s : DSt} {d1 d2 : D} {o2 o3 o4 o5 o6 o7 o8 o9 o10 : Option D}
theorem l_u7 (G : LG Γ d1 d2) {b : List Nat} (hc : ∀ c ∈ b, c < 1114112) (hm : b.length ≤ 5000) (ho : b.count 40 ≤ 40) : ∃ x, evS Γ F u7 [] (lE sc s d1 d2 o2 o3 o4 o5 o6 (some (.p (.str (mkS b)))) o8 o9 o10) = .nx (lE sc s d1 d2 o2 o3 o4 o5 o6 (some (.p (.str (mkS b)))) (some (.p x)) o9 o10) ∧
    (x = told0 ∨ (good x = true ∧ dep x ≤ 50 ∧ W x ≤ 30000 ∧ textOf x = mkS b)) := by
  obtain ⟨o, r, ht⟩ := G.tab
  have hr := G.read b hc hm ho
  have as1 : evAs Γ [(.pk 7)] (lE sc s d1 d2 o2 o3 o4 o5 o6 (some (.p (.str (mkS b)))) o8 o9 o10) = .ok [.p (.str (mkS b))] (lE sc s d1 d2 o2 o3 o4 o5 o6 (some (.p (.str (mkS b)))) o8 o9 o10) := evAs_cons (ev_pk rfl) rfl rfl
  cases e : readM b with
  | none =>
    rw [e] at hr
    refine ⟨told0, ?_, .inl rfl⟩
    have c1 : evT Γ (.call "read_value" [(.pk 7)]) (lE sc s d1 d2 o2 o3 o4 o5 o6 (some (.p (.str (mkS b)))) o8 o9 o10) = .exc "NoText" [("line", .int 0)] (lE sc s d1 d2 o2 o3 o4 o5 o6 (some (.p (.str (mkS b)))) o8 o9 o10) := ev_call_exc as1 hr rfl
    have c2 := ev_word_exc (a := 11) (b := 12) (d1 := d1) (d2 := d2) rfl rfl ht c1
    exact asg_p (x := told0) (by simp) c2 rfl (by simp)
  | some x =>
    rw [e] at hr
    refine ⟨x, ?_, .inr (read_good hc hm ho e)⟩
    have c1 : evT Γ (.call "read_value" [(.pk 7)]) (lE sc s d1 d2 o2 o3 o4 o5 o6 (some (.p (.str (mkS b)))) o8 o9 o10) = .ok (.p x) (lE sc s d1 d2 o2 o3 o4 o5 o6 (some (.p (.str (mkS b)))) o8 o9 o10) := ev_call as1 hr rfl
    have c2 := ev_word_ok (a := 11) (b := 12) (d1 := d1) (d2 := d2) rfl rfl ht c1 rfl
    exact asg_p (x := x) (by simp) c2 rfl (by simp)
theorem l_u8 (G : LG Γ d1 d2) {b : List Nat} (hc : ∀ c ∈ b, c < 1114112) {x : P} (h : x = told0 ∨ (good x = true ∧ dep x ≤ 50 ∧ W x ≤ 30000 ∧ textOf x = mkS b)) :
    evS Γ F u8 [] (lE sc s d1 d2 o2 o3 o4 o5 o6 (some (.p (.str (mkS b)))) (some (.p x)) o9 o10) = .nx (lE sc s d1 d2 o2 o3 o4 o5 o6 (some (.p (.str (mkS b)))) (some (.p x)) o9 o10) := by
  have hx : okv x = true ∧ dp x ≤ 50 := by
    rcases h with rfl | ⟨g, d, _, _⟩
    · have := told0_ok; exact ⟨this.1, by omega⟩
    · have := good_okv g; exact ⟨this.1, by omega⟩
  have t0 := told0_ok
  have a1 : evT Γ (.cmp .NotEq (.pk 8) (.tup [(.lit (.str "text")), (.lit (.int 0))])) (lE sc s d1 d2 o2 o3 o4 o5 o6 (some (.p (.str (mkS b)))) (some (.p x)) o9 o10) = .ok (.p (.bl (!decide (x = told0)))) (lE sc s d1 d2 o2 o3 o4 o5 o6 (some (.p (.str (mkS b)))) (some (.p x)) o9 o10) :=
    ev_cmp (ev_pk (d := .p x) rfl) (y := .p told0) rfl rfl rfl (neP hx.1 t0.1 (by omega) (by omega))
  unfold u8
  by_cases e : x = told0
  · rw [decide_eq_true e] at a1
    exact (ev_ife_f (ev_and_f a1 rfl) rfl).trans rfl
  · rw [decide_eq_false e] at a1
    obtain ⟨g, d, w, t⟩ := h.resolve_left e
    have b1 : evT Γ (.not (.call "_law_plain" [(.pk 8)])) (lE sc s d1 d2 o2 o3 o4 o5 o6 (some (.p (.str (mkS b)))) (some (.p x)) o9 o10) = .ok (.p (.bl false)) (lE sc s d1 d2 o2 o3 o4 o5 o6 (some (.p (.str (mkS b)))) (some (.p x)) o9 o10) :=
      ev_not (l_c1 rfl (G.plain x hx.1 (by omega))) rfl
    have b2 : evT Γ (.cmp .NotEq (.call "_law_value_text" [(.pk 8)]) (.pk 7)) (lE sc s d1 d2 o2 o3 o4 o5 o6 (some (.p (.str (mkS b)))) (some (.p x)) o9 o10) = .ok (.p (.bl false)) (lE sc s d1 d2 o2 o3 o4 o5 o6 (some (.p (.str (mkS b)))) (some (.p x)) o9 o10) := by
      refine ev_cmp (l_c1 (i := 8) rfl (G.ltext x g d w)) (ev_pk rfl) rfl rfl ?_
      have := neP (x := .str (textOf x)) (y := .str (mkS b)) (textOf_ok g) (okS hc) (by simp [dp]) (by simp [dp])
      rw [decide_eq_true (by rw [t])] at this
      exact this
    exact (ev_ife_f ((ev_and_t a1 rfl).trans ((ev_or_f b1 rfl).trans b2)) rfl).trans rfl
theorem l_turn (G : LG Γ d1 d2) {T : Nat} (si : SI T s) (hT : T + 200 ≤ 900000) : ∃ s' p5 p6 p7 p8 p9 p10, SI (T + 200) s' ∧ evB Γ F lbody [] (lE sc s d1 d2 o2 o3 o4 o5 o6 o7 o8 o9 o10) = .nx (lE sc s' d1 d2 o2 o3 o4 p5 p6 p7 p8 p9 p10) := by
  obtain ⟨v, w, s1, e1, i1, D, E⟩ := l_u1 (F := F) (sc := sc) (o2 := o2) (o3 := o3) (o4 := o4) (o5 := o5) (o6 := o6) (o7 := o7) (o8 := o8) (o9 := o9) (o10 := o10) G si (by omega)
  have e2 := l_u2 (F := F) (sc := sc) (s := s1) (o2 := o2) (o3 := o3) (o4 := o4) (o5 := o5) (o6 := o6) (o7 := o7) (o8 := o8) (o10 := some (.p w)) G D
  have e3 := l_u3 (F := F) (sc := sc) (s := s1) (o2 := o2) (o3 := o3) (o4 := o4) (o6 := o6) (o7 := o7) (o8 := o8) (o10 := some (.p w)) G D
  have e4 := l_u4 (F := F) (sc := sc) (s := s1) (o2 := o2) (o3 := o3) (o4 := o4) (o5 := some (.p (.str (textOf v)))) (o6 := o6) (o7 := o7) (o8 := o8) G D E
  have h1 := chars_len v
  have h2 := count_chars D.l
  have h3 := D.w
  have h4 := D.o
  rw [wb3] at h3
  rw [ob3] at h4
  have hc := chars_ok D.g
  rw [text_chars] at e2 e3 e4
  obtain ⟨m, s2, hm, i2, e5⟩ := l_u5 (F := F) (sc := sc) (o2 := o2) (o3 := o3) (o4 := o4) (o6 := o6) (o7 := o7) (o8 := o8) (o9 := some (.p v)) (o10 := some (.p w)) (l := chars v) G (by omega) i1 (by omega)
  obtain ⟨b, s3, i3, b1, b2, b3, e6⟩ := l_u6 (F := F) (sc := sc) (o2 := o2) (o3 := o3) (o4 := o4) (o7 := o7) (o8 := o8) (o9 := some (.p v)) (o10 := some (.p w)) (l := chars v) G (by omega) hm i2 (by omega)
  have hb : ∀ c ∈ b, c < 1114112 := fun c hc' => by
    rcases b1 c hc' with z | z
    · exact hc c z
    · simp only [List.mem_cons, List.not_mem_nil, or_false] at z
      omega
  obtain ⟨x, e7, hx⟩ := l_u7 (F := F) (sc := sc) (s := s3) (o2 := o2) (o3 := o3) (o4 := o4) (o5 := some (.p (.str (mkS (chars v))))) (o6 := some (.p (.int m))) (o8 := o8) (o9 := some (.p v)) (o10 := some (.p w)) G hb (by omega) (by omega)
  have e8 := l_u8 (F := F) (sc := sc) (s := s3) (o2 := o2) (o3 := o3) (o4 := o4) (o5 := some (.p (.str (mkS (chars v))))) (o6 := some (.p (.int m))) (o9 := some (.p v)) (o10 := some (.p w)) G hb hx
  refine ⟨s3, some (.p (.str (mkS (chars v)))), some (.p (.int m)), some (.p (.str (mkS b))), some (.p x), some (.p v), some (.p w), i3.mono (by omega), ?_⟩
  unfold lbody
  rw [evB_nx e1, evB_nx e2, evB_nx e3, evB_nx e4, evB_nx e5, evB_nx e6, evB_nx e7]
  exact evB_one e8
theorem l_loop (G : LG Γ d1 d2) : ∀ {xs : List P} {s : DSt} {T : Nat} {o4 o5 o6 o7 o8 o9 o10 : Option D}, SI T s → T + xs.length * 200 ≤ 900000 → ∃ s' p4 p5 p6 p7 p8 p9 p10, forL [] (.nm 4 false) (evB Γ F lbody []) xs (lE sc s d1 d2 o2 o3 o4 o5 o6 o7 o8 o9 o10) = .nx (lE sc s' d1 d2 o2 o3 p4 p5 p6 p7 p8 p9 p10)
  | [], s, T, o4, o5, o6, o7, o8, o9, o10, si, _ => ⟨s, o4, o5, o6, o7, o8, o9, o10, by unfold forL; rfl⟩
  | x :: xs, s, T, o4, o5, o6, o7, o8, o9, o10, si, hT => by
    rw [List.length_cons, Nat.add_mul, Nat.one_mul] at hT
    obtain ⟨s1, p5, p6, p7, p8, p9, p10, i1, e1⟩ := l_turn (F := F) (sc := sc) (o2 := o2) (o3 := o3) (o4 := some (.p x)) (o5 := o5) (o6 := o6) (o7 := o7) (o8 := o8) (o9 := o9) (o10 := o10) G si (by omega)
    obtain ⟨s2, q4, q5, q6, q7, q8, q9, q10, e2⟩ := l_loop G (xs := xs) (s := s1) (T := T + 200) (o4 := some (.p x)) (o5 := p5) (o6 := p6) (o7 := p7) (o8 := p8) (o9 := p9) (o10 := p10) i1 (by omega)
    refine ⟨s2, q4, q5, q6, q7, q8, q9, q10, ?_⟩
    unfold forL
    rw [asg_nm (x := x) (by simp) (by simp) rfl rfl]
    show (match evB Γ F lbody [] (lE sc s d1 d2 o2 o3 (some (.p x)) o5 o6 o7 o8 o9 o10) with
      | .nx e2 => forL [] (.nm 4 false) (evB Γ F lbody []) xs e2
      | .ct e2 => forL [] (.nm 4 false) (evB Γ F lbody []) xs e2
      | .bk e2 => .nx e2
      | .ret d e2 => .ret d e2
      | .exc c fs e2 => .exc c fs e2
      | .bad => .bad) = _
    rw [e1]
    exact e2
end
end Ev.K88
end

section
set_option Elab.async false
set_option linter.all false
set_option maxRecDepth 100000
/-! Lw6: _law_begun. -/
namespace Ev.K88
open PySem L2 Ev
variable {F k : Nat} {Γ : Calls}
theorem intsOf_map : ∀ (ns : List Int), intsOf (ns.map P.int) = some ns
  | [] => rfl
  | n :: ns => by
    show (match intsOf (ns.map P.int) with
      | some r => some (n :: r)
      | none => none) = _
    rw [intsOf_map ns]
def b_elt : T := .bin .Sub (.blt "abs" [(.pk 2)]) (.bin .Pow (.lit (.int 10)) (.lit (.int 18)))
def b_cnd : T := .cmp .GtE (.blt "abs" [(.pk 2)]) (.bin .Pow (.lit (.int 10)) (.lit (.int 18)))
theorem b_pow (e : Env) : evT Γ (.bin .Pow (.lit (.int 10)) (.lit (.int 18))) e = .ok (.p (.int 1000000000000000000)) e := by kernel_rfl
theorem b_abs {e : Env} {n : Int} (h : getE e 2 = some (.p (.int n))) : evT Γ (.blt "abs" [(.pk 2)]) e = .ok (.p (.int (absI n))) e := ev_blt1 (ev_pk h) h rfl
theorem b_e {e : Env} {n : Int} (h : getE e 2 = some (.p (.int n))) : evT Γ b_elt e = .ok (.p (.int (absI n - 1000000000000000000))) e := ev_bin (b_abs h) (b_pow e) rfl rfl rfl
theorem b_c {e : Env} {n : Int} (h : getE e 2 = some (.p (.int n))) : evC Γ (some b_cnd) e = .ok (.p (.bl (decide (1000000000000000000 ≤ absI n)))) e := by
  have := ev_cmp (op := .GtE) (b_abs (Γ := Γ) h) (b_pow e) rfl rfl rfl
  simp only [evC]
  unfold b_cnd
  rw [this]
  rfl
def greats : List Int → List Int
  | [] => []
  | n :: ns => if 1000000000000000000 ≤ absI n then (absI n - 1000000000000000000) :: greats ns else greats ns
theorem greats_nn : ∀ {ns : List Int}, ∀ x ∈ greats ns, 0 ≤ x
  | [], x, h => by simp [greats] at h
  | n :: ns, x, h => by
    unfold greats at h
    split at h
    · rcases List.mem_cons.mp h with rfl | h
      · omega
      · exact greats_nn x h
    · exact greats_nn x h
theorem absI_nn (n : Int) : 0 ≤ absI n := by
  unfold absI
  split <;> omega
theorem b_loop1 {sc : P} {prot : List Nat} (hp : 2 ∉ prot) : ∀ {ns : List Int} {acc : List P}, acc.length + ns.length ≤ 900000 →
    compLoop (evT Γ b_elt) (evC Γ (some b_cnd)) (asgT prot (.nm 2 false)) [2] (ns.map P.int) [some (.p sc), none, none] acc = .ok (.pl (acc ++ (greats ns).map P.int)) [some (.p sc), none, none]
  | [], acc, _ => by simp [compLoop, greats]
  | n :: ns, acc, h => by
    rw [List.length_cons] at h
    have hlim : lim = 1000000 := rfl
    rw [List.map_cons]
    unfold compLoop
    rw [asg_nm (x := .int n) hp (by simp) rfl rfl]
    dsimp only
    rw [b_c (n := n) rfl]
    unfold greats
    by_cases e : 1000000000000000000 ≤ absI n
    · rw [decide_eq_true e, if_pos e]
      dsimp only
      rw [b_e (n := n) rfl]
      dsimp only [D.frz]
      rw [if_pos (by omega)]
      have := b_loop1 (sc := sc) hp (ns := ns) (acc := acc ++ [.int (absI n - 1000000000000000000)]) (by simp; omega)
      refine this.trans ?_
      simp
    · rw [decide_eq_false e, if_neg e]
      exact b_loop1 (sc := sc) hp (ns := ns) (acc := acc) (by omega)
theorem b_loop2 {sc : P} {prot : List Nat} (hp : 2 ∉ prot) : ∀ {ns : List Int} {acc : List P}, acc.length + ns.length ≤ 900000 →
    compLoop (evT Γ (.blt "abs" [(.pk 2)])) (evC Γ none) (asgT prot (.nm 2 false)) [2] (ns.map P.int) [some (.p sc), none, none] acc = .ok (.pl (acc ++ (ns.map absI).map P.int)) [some (.p sc), none, none]
  | [], acc, _ => by simp [compLoop]
  | n :: ns, acc, h => by
    rw [List.length_cons] at h
    have hlim : lim = 1000000 := rfl
    rw [List.map_cons]
    unfold compLoop
    rw [asg_nm (x := .int n) hp (by simp) rfl rfl]
    dsimp only
    have e0 : ∀ e : Env, evC Γ none e = .ok (.p (.bl true)) e := fun e => by simp only [evC]
    rw [e0]
    dsimp only
    rw [b_abs (n := n) rfl]
    dsimp only [D.frz]
    rw [if_pos (by omega)]
    have := b_loop2 (sc := sc) hp (ns := ns) (acc := acc ++ [.int (absI n)]) (by simp; omega)
    refine this.trans ?_
    simp
theorem m_begun {ns : List Int} (hl : ns.length ≤ 900000) : calls prog.fns F (k + 1) "_law_begun" [.p (.fl (ns.map P.int))] = .ok (.st ⟨greats ns, ns.map absI, 0, 0⟩) [.p (.fl (ns.map P.int))] := by
  have lk : calls prog.fns F (k + 1) "_law_begun" [.p (.fl (ns.map P.int))] = runFn (calls prog.fns F k) F d__law_begun.fn [.p (.fl (ns.map P.int))] := rfl
  rw [lk]
  have c1 : evT (calls prog.fns F k) (.comp b_elt (.nm 2 false) (.pk 0) (some b_cnd) [2]) [some (.p (.fl (ns.map P.int))), none, none] = .ok (.pl ((greats ns).map P.int)) [some (.p (.fl (ns.map P.int))), none, none] := by
    rw [evT_comp]
    show (if ownOk [2] [some (.p (.fl (ns.map P.int))), none, none] then lcEnd (.pk 0) [2] [some (.p (.fl (ns.map P.int))), none, none] (compLoop (evT (calls prog.fns F k) b_elt) (evC (calls prog.fns F k) (some b_cnd)) (asgT (notOwn [2] [some (.p (.fl (ns.map P.int))), none, none]) (.nm 2 false)) [2] (ns.map P.int) [some (.p (.fl (ns.map P.int))), none, none] []) else .bad) = _
    rw [if_pos (show ownOk [2] [some (.p (.fl (ns.map P.int))), none, none] = true from rfl), b_loop1 (by simp [notOwn]) (by simpa using hl)]
    rfl
  have c2 : evT (calls prog.fns F k) (.comp (.blt "abs" [(.pk 2)]) (.nm 2 false) (.pk 0) none [2]) [some (.p (.fl (ns.map P.int))), none, none] = .ok (.pl ((ns.map absI).map P.int)) [some (.p (.fl (ns.map P.int))), none, none] := by
    rw [evT_comp]
    show (if ownOk [2] [some (.p (.fl (ns.map P.int))), none, none] then lcEnd (.pk 0) [2] [some (.p (.fl (ns.map P.int))), none, none] (compLoop (evT (calls prog.fns F k) (.blt "abs" [(.pk 2)])) (evC (calls prog.fns F k) none) (asgT (notOwn [2] [some (.p (.fl (ns.map P.int))), none, none]) (.nm 2 false)) [2] (ns.map P.int) [some (.p (.fl (ns.map P.int))), none, none] []) else .bad) = _
    rw [if_pos (show ownOk [2] [some (.p (.fl (ns.map P.int))), none, none] = true from rfl), b_loop2 (by simp [notOwn]) (by simpa using hl)]
    rfl
  have mk : mkSt [.pl ((greats ns).map P.int), .pl ((ns.map absI).map P.int), .p (.int 0), .p (.int 0)] = some (.st ⟨greats ns, ns.map absI, 0, 0⟩) := by
    show (match intsOf ((greats ns).map P.int), intsOf ((ns.map absI).map P.int) with
      | some g, some c => some (D.st ⟨g, c, 0, 0⟩)
      | _, _ => none) = _
    rw [intsOf_map, intsOf_map]
  have e1 : evS (calls prog.fns F k) F (.asg (.nm 1 true) (.comp b_elt (.nm 2 false) (.pk 0) (some b_cnd) [2])) [] [some (.p (.fl (ns.map P.int))), none, none] = .nx [some (.p (.fl (ns.map P.int))), some (.pl ((greats ns).map P.int)), none] := by
    simp only [evS]
    rw [c1]
    rfl
  have e3 : evTs (calls prog.fns F k) [(.var 1), (.comp (.blt "abs" [(.pk 2)]) (.nm 2 false) (.pk 0) none [2]), (.lit (.int 0)), (.lit (.int 0))] [some (.p (.fl (ns.map P.int))), some (.pl ((greats ns).map P.int)), none] = .ok [.pl ((greats ns).map P.int), .pl ((ns.map absI).map P.int), .p (.int 0), .p (.int 0)] [some (.p (.fl (ns.map P.int))), none, none] := by
    have v1 : evT (calls prog.fns F k) (.var 1) [some (.p (.fl (ns.map P.int))), some (.pl ((greats ns).map P.int)), none] = .ok (.pl ((greats ns).map P.int)) [some (.p (.fl (ns.map P.int))), none, none] := rfl
    unfold evTs
    rw [v1]
    dsimp only
    unfold evTs
    rw [c2]
    rfl
  have e2 : evT (calls prog.fns F k) (.smk [(.var 1), (.comp (.blt "abs" [(.pk 2)]) (.nm 2 false) (.pk 0) none [2]), (.lit (.int 0)), (.lit (.int 0))]) [some (.p (.fl (ns.map P.int))), some (.pl ((greats ns).map P.int)), none] = .ok (.st ⟨greats ns, ns.map absI, 0, 0⟩) [some (.p (.fl (ns.map P.int))), none, none] := by
    unfold evT
    rw [e3]
    simp only [OutL.bind]
    rw [mk]
    rfl
  have hb : evB (calls prog.fns F k) F b__law_begun [] [some (.p (.fl (ns.map P.int))), none, none] = .ret (.st ⟨greats ns, ns.map absI, 0, 0⟩) [some (.p (.fl (ns.map P.int))), none, none] := by
    show evB (calls prog.fns F k) F [.asg (.nm 1 true) (.comp b_elt (.nm 2 false) (.pk 0) (some b_cnd) [2]), .ret (.smk [(.var 1), (.comp (.blt "abs" [(.pk 2)]) (.nm 2 false) (.pk 0) none [2]), (.lit (.int 0)), (.lit (.int 0))])] [] _ = _
    rw [evB_nx e1]
    refine evB_rt ?_
    simp only [evS]
    rw [e2]
    rfl
  unfold runFn
  rw [if_pos ⟨rfl, by decide⟩]
  show (match evB (calls prog.fns F k) F b__law_begun [] [some (.p (.fl (ns.map P.int))), none, none] with
    | .ret d e => _
    | .nx e => _
    | .exc c fs e => _
    | _ => _) = _
  rw [hb]
  rfl
theorem si_begun (ns : List Int) : SI 0 ⟨greats ns, ns.map absI, 0, 0⟩ := by
  refine ⟨by simp, fun x hx => greats_nn x hx, fun x hx => ?_, by simp, by simp⟩
  obtain ⟨n, _, rfl⟩ := List.mem_map.mp hx
  exact absI_nn n
end Ev.K88
end

section
set_option Elab.async false
set_option linter.all false
set_option maxRecDepth 100000
/-! Lw7: the fixed things. -/
namespace Ev.K88
open PySem L2 Ev
def nest : Nat → P → P
  | 0, x => x
  | n + 1, x => .tup [nest n x]
abbrev Γc : Calls := calls prog.fns 100000 70
def things : List P := [.str "A", .str "", .str "a b", .str "a1", .str "-", .int 1000000000000, .int (-1000000000000), .bl true, .fl [.str "a"], .tup [.str "a", .fl [.str "b"]], .tup [.str "a", .str "B"], nest 60 (.str "a"), .tup [.str "a", .bl true]]
def texts : List P := [.non, .int 5, .str "", .str " ", .str "A", .str "a b", .str "01", .str "-0", .str "--1", .str "+1", .str "1000000000000", .str "(", .str ")", .str "(a", .str "a)", .str "(a))", .str "( a)", .str "(a )", .str "(a  b)", .str "()()", .str "(a)(b)", .str "a()", .str "1a", .str "a1", .str "- 1", .str "(-)-", .str "(a\nb)", .str "1/2"]
theorem f_nest60 : Γc "_law_nested" [.p (.int 60), .p (.str "a")] = .ok (.p (nest 60 (.str "a"))) [.p (.int 60), .p (.str "a")] := by kernel_rfl
theorem f_nest59 : Γc "_law_nested" [.p (.int 59), .p (.str "a")] = .ok (.p (nest 59 (.str "a"))) [.p (.int 59), .p (.str "a")] := by kernel_rfl
def no (x : P) : COut := .exc "NoText" [("line", .int 0)] [.p x]
theorem f_t0 : Γc "value_text" [.p (.str "A")] = no (.str "A") := by kernel_rfl
theorem f_t1 : Γc "value_text" [.p (.str "")] = no (.str "") := by kernel_rfl
theorem f_t2 : Γc "value_text" [.p (.str "a b")] = no (.str "a b") := by kernel_rfl
theorem f_t3 : Γc "value_text" [.p (.str "a1")] = no (.str "a1") := by kernel_rfl
theorem f_t4 : Γc "value_text" [.p (.str "-")] = no (.str "-") := by kernel_rfl
theorem f_t5 : Γc "value_text" [.p (.int 1000000000000)] = no (.int 1000000000000) := by kernel_rfl
theorem f_t6 : Γc "value_text" [.p (.int (-1000000000000))] = no (.int (-1000000000000)) := by kernel_rfl
theorem f_t7 : Γc "value_text" [.p (.bl true)] = no (.bl true) := by kernel_rfl
theorem f_t8 : Γc "value_text" [.p (.fl [.str "a"])] = no (.fl [.str "a"]) := by kernel_rfl
theorem f_t9 : Γc "value_text" [.p (.tup [.str "a", .fl [.str "b"]])] = no (.tup [.str "a", .fl [.str "b"]]) := by kernel_rfl
theorem f_t10 : Γc "value_text" [.p (.tup [.str "a", .str "B"])] = no (.tup [.str "a", .str "B"]) := by kernel_rfl
theorem f_t11 : Γc "value_text" [.p (nest 60 (.str "a"))] = no (nest 60 (.str "a")) := by kernel_rfl
theorem f_t12 : Γc "value_text" [.p (.tup [.str "a", .bl true])] = no (.tup [.str "a", .bl true]) := by kernel_rfl
theorem f_r0 : Γc "read_value" [.p (.non)] = no (.non) := by kernel_rfl
theorem f_r1 : Γc "read_value" [.p (.int 5)] = no (.int 5) := by kernel_rfl
theorem f_r2 : Γc "read_value" [.p (.str "")] = no (.str "") := by kernel_rfl
theorem f_r3 : Γc "read_value" [.p (.str " ")] = no (.str " ") := by kernel_rfl
theorem f_r4 : Γc "read_value" [.p (.str "A")] = no (.str "A") := by kernel_rfl
theorem f_r5 : Γc "read_value" [.p (.str "a b")] = no (.str "a b") := by kernel_rfl
theorem f_r6 : Γc "read_value" [.p (.str "01")] = no (.str "01") := by kernel_rfl
theorem f_r7 : Γc "read_value" [.p (.str "-0")] = no (.str "-0") := by kernel_rfl
theorem f_r8 : Γc "read_value" [.p (.str "--1")] = no (.str "--1") := by kernel_rfl
theorem f_r9 : Γc "read_value" [.p (.str "+1")] = no (.str "+1") := by kernel_rfl
theorem f_r10 : Γc "read_value" [.p (.str "1000000000000")] = no (.str "1000000000000") := by kernel_rfl
theorem f_r11 : Γc "read_value" [.p (.str "(")] = no (.str "(") := by kernel_rfl
theorem f_r12 : Γc "read_value" [.p (.str ")")] = no (.str ")") := by kernel_rfl
theorem f_r13 : Γc "read_value" [.p (.str "(a")] = no (.str "(a") := by kernel_rfl
theorem f_r14 : Γc "read_value" [.p (.str "a)")] = no (.str "a)") := by kernel_rfl
theorem f_r15 : Γc "read_value" [.p (.str "(a))")] = no (.str "(a))") := by kernel_rfl
theorem f_r16 : Γc "read_value" [.p (.str "( a)")] = no (.str "( a)") := by kernel_rfl
theorem f_r17 : Γc "read_value" [.p (.str "(a )")] = no (.str "(a )") := by kernel_rfl
theorem f_r18 : Γc "read_value" [.p (.str "(a  b)")] = no (.str "(a  b)") := by kernel_rfl
theorem f_r19 : Γc "read_value" [.p (.str "()()")] = no (.str "()()") := by kernel_rfl
theorem f_r20 : Γc "read_value" [.p (.str "(a)(b)")] = no (.str "(a)(b)") := by kernel_rfl
theorem f_r21 : Γc "read_value" [.p (.str "a()")] = no (.str "a()") := by kernel_rfl
theorem f_r22 : Γc "read_value" [.p (.str "1a")] = no (.str "1a") := by kernel_rfl
theorem f_r23 : Γc "read_value" [.p (.str "a1")] = no (.str "a1") := by kernel_rfl
theorem f_r24 : Γc "read_value" [.p (.str "- 1")] = no (.str "- 1") := by kernel_rfl
theorem f_r25 : Γc "read_value" [.p (.str "(-)-")] = no (.str "(-)-") := by kernel_rfl
theorem f_r26 : Γc "read_value" [.p (.str "(a\nb)")] = no (.str "(a\nb)") := by kernel_rfl
theorem f_r27 : Γc "read_value" [.p (.str "1/2")] = no (.str "1/2") := by kernel_rfl
theorem f_things : ∀ x ∈ things, Γc "value_text" [.p x] = no x := by
  intro x hx
  simp only [things, List.mem_cons, List.not_mem_nil, or_false] at hx
  rcases hx with rfl | rfl | rfl | rfl | rfl | rfl | rfl | rfl | rfl | rfl | rfl | rfl | rfl
  · exact f_t0
  · exact f_t1
  · exact f_t2
  · exact f_t3
  · exact f_t4
  · exact f_t5
  · exact f_t6
  · exact f_t7
  · exact f_t8
  · exact f_t9
  · exact f_t10
  · exact f_t11
  · exact f_t12
theorem f_texts : ∀ x ∈ texts, Γc "read_value" [.p x] = no x := by
  intro x hx
  simp only [texts, List.mem_cons, List.not_mem_nil, or_false] at hx
  rcases hx with rfl | rfl | rfl | rfl | rfl | rfl | rfl | rfl | rfl | rfl | rfl | rfl | rfl | rfl | rfl | rfl | rfl | rfl | rfl | rfl | rfl | rfl | rfl | rfl | rfl | rfl | rfl | rfl
  · exact f_r0
  · exact f_r1
  · exact f_r2
  · exact f_r3
  · exact f_r4
  · exact f_r5
  · exact f_r6
  · exact f_r7
  · exact f_r8
  · exact f_r9
  · exact f_r10
  · exact f_r11
  · exact f_r12
  · exact f_r13
  · exact f_r14
  · exact f_r15
  · exact f_r16
  · exact f_r17
  · exact f_r18
  · exact f_r19
  · exact f_r20
  · exact f_r21
  · exact f_r22
  · exact f_r23
  · exact f_r24
  · exact f_r25
  · exact f_r26
  · exact f_r27
def D59 : Str := repS 59 "(" ++ "a" ++ repS 59 ")"
def D60 : Str := repS 60 "(" ++ "a" ++ repS 60 ")"
def t59 : T := .bin .Add (.bin .Add (.bin .Mult (.lit (.str "(")) (.lit (.int 59))) (.lit (.str "a"))) (.bin .Mult (.lit (.str ")")) (.lit (.int 59)))
def t60 : T := .bin .Add (.bin .Add (.bin .Mult (.lit (.str "(")) (.lit (.int 60))) (.lit (.str "a"))) (.bin .Mult (.lit (.str ")")) (.lit (.int 60)))
theorem f_d59 (Γ : Calls) (e : Env) : evT Γ t59 e = .ok (.p (.str D59)) e := by kernel_rfl
theorem f_d60 (Γ : Calls) (e : Env) : evT Γ t60 e = .ok (.p (.str D60)) e := by kernel_rfl
theorem f_text : Γc "value_text" [.p (nest 59 (.str "a"))] = .ok (.p (.str D59)) [.p (nest 59 (.str "a"))] := by kernel_rfl
theorem f_read : Γc "read_value" [.p (.str D59)] = .ok (.p (nest 59 (.str "a"))) [.p (.str D59)] := by kernel_rfl
theorem f_read60 : Γc "read_value" [.p (.str D60)] = no (.str D60) := by kernel_rfl
theorem f_sh : PyData.strOk D59 = true ∧ D59.length ≤ 90000 := by decide +kernel
theorem f_ok59 : okv (nest 59 (.str "a")) = true ∧ dp (nest 59 (.str "a")) ≤ 60 := by decide +kernel
end Ev.K88
end

section
set_option Elab.async false
set_option linter.all false
set_option maxRecDepth 100000
/-! Lw8: the law answers True. -/
namespace Ev.K88
open PySem L2 Ev
abbrev qL : Str := ("law" ++ ".<locals>.") ++ "<lambda>"
abbrev ΓL (PL PW : Addr) : Calls := tabΓ PL PW qL Γc
abbrev dL (PL : Addr) : D := .tab PL qL
abbrev dW (PW : Addr) : D := .tab PW "_law_word.<locals>.<lambda>"
section
variable {PL PW : Addr}
theorem g_ne {f : Str} {ds : List D} {o : COut} (h : f ≠ "%tab") (e : Γc f ds = o) : ΓL PL PW f ds = o := (tabΓ_ne h).trans e
theorem lg : LG (ΓL PL PW) (dL PL) (dW PW) where
  some_ := fun s T si hT => by
    obtain ⟨v, s', h1, h2⟩ := m_some (F := 100000) 3 70 (by decide) s T si hT
    exact ⟨v, s', g_ne (by decide) h1, h2⟩
  vtext := fun v h1 h2 h3 => g_ne (by decide) (m_text (F := 100000) (k := 67) h1 h2 h3 (by decide))
  ltext := fun v h1 h2 h3 => g_ne (by decide) (m_law_text (F := 100000) (k := 19) (d := 50) h1 h2 h3)
  is_ := fun x h => g_ne (by decide) (m_law_is (F := 100000) (k := 8) h)
  read := fun l h1 h2 h3 => g_ne (by decide) (m_read (F := 100000) (k := 66) h1 h2 h3 (by decide))
  draw := fun s T n si hT h0 h1 => g_ne (by decide) (m_draw (F := 100000) (k := 68) si hT h0 h1)
  pick := fun s T xs si hT hx hl => by
    obtain ⟨x, hx, s', h1, h2⟩ := m_pick (F := 100000) (k := 67) si hT hx hl
    exact ⟨x, hx, s', h1, g_ne (by decide) h2⟩
  plain := fun x h1 h2 => g_ne (by decide) (m_law_plain (F := 100000) (k := 9) (d := 60) h1 h2)
  tab := ⟨.p .non, [], by
    unfold ΓL tabΓ
    rw [if_pos rfl]
    dsimp only
    rw [if_pos ⟨rfl, rfl, rfl, rfl⟩]⟩
def w_turn (f : Str) : List S := [.ife (.cmp .NotEq (.word 11 12 (.call f [(.pk 2)])) (.tup [(.lit (.str "text")), (.lit (.int 0))])) [
      .ret (.lit (.bl false))] []]
theorem told_ne (e : Env) : cmpop .NotEq (.p told0) (.p told0) = some false := by decide +kernel
variable {F : Nat} {Γ : Calls} {sc : P} {s : DSt} {d1 d2 : D} {o2 o3 o4 o5 o6 o7 o8 o9 o10 : Option D}
theorem w_one {f : Str} {x : P} {o : D} {r : List D} (ht : Γ "%tab" [d1, d2] = .ok o r) (h : Γ f [.p x] = no x) : evB Γ F (w_turn f) [] (lE sc s d1 d2 (some (.p x)) o3 o4 o5 o6 o7 o8 o9 o10) = .nx (lE sc s d1 d2 (some (.p x)) o3 o4 o5 o6 o7 o8 o9 o10) := by
  have as1 : evAs Γ [(.pk 2)] (lE sc s d1 d2 (some (.p x)) o3 o4 o5 o6 o7 o8 o9 o10) = .ok [.p x] (lE sc s d1 d2 (some (.p x)) o3 o4 o5 o6 o7 o8 o9 o10) := evAs_cons (ev_pk rfl) rfl rfl
  have c1 : evT Γ (.call f [(.pk 2)]) (lE sc s d1 d2 (some (.p x)) o3 o4 o5 o6 o7 o8 o9 o10) = .exc "NoText" [("line", .int 0)] (lE sc s d1 d2 (some (.p x)) o3 o4 o5 o6 o7 o8 o9 o10) := ev_call_exc as1 h rfl
  have c2 := ev_word_exc (a := 11) (b := 12) (d1 := d1) (d2 := d2) rfl rfl ht c1
  have c3 := ev_cmp (op := .NotEq) (b := .tup [(.lit (.str "text")), (.lit (.int 0))]) c2 (y := .p told0) rfl rfl rfl (told_ne [])
  exact evB_one ((ev_ife_f c3 rfl).trans rfl)
theorem w_loop {f : Str} {o : D} {r : List D} (ht : Γ "%tab" [d1, d2] = .ok o r) : ∀ {xs : List P} {o2 : Option D}, (∀ x ∈ xs, Γ f [.p x] = no x) → ∃ p2, forL [] (.nm 2 false) (evB Γ F (w_turn f) []) xs (lE sc s d1 d2 o2 o3 o4 o5 o6 o7 o8 o9 o10) = .nx (lE sc s d1 d2 p2 o3 o4 o5 o6 o7 o8 o9 o10)
  | [], o2, _ => ⟨o2, by unfold forL; rfl⟩
  | x :: xs, o2, h => by
    obtain ⟨p2, e⟩ := w_loop ht (xs := xs) (o2 := some (.p x)) fun y hy => h y (by simp [hy])
    refine ⟨p2, ?_⟩
    unfold forL
    rw [asg_nm (x := x) (by simp) (by simp) rfl rfl]
    show (match evB Γ F (w_turn f) [] (lE sc s d1 d2 (some (.p x)) o3 o4 o5 o6 o7 o8 o9 o10) with
      | .nx e2 => forL [] (.nm 2 false) (evB Γ F (w_turn f) []) xs e2
      | .ct e2 => forL [] (.nm 2 false) (evB Γ F (w_turn f) []) xs e2
      | .bk e2 => .nx e2
      | .ret d e2 => .ret d e2
      | .exc c fs e2 => .exc c fs e2
      | .bad => .bad) = _
    rw [w_one ht (h x (by simp))]
    exact e
def a1 : S := .asg (.nm 1 false) (.call "_law_begun" [(.pk 0)])
def thT : T := .lst [(.lit (.str "A")), (.lit (.str "")), (.lit (.str "a b")), (.lit (.str "a1")), (.lit (.str "-")), (.bin .Pow (.lit (.int 10)) (.lit (.int 12))), (.bin .Sub (.lit (.int 0)) (.bin .Pow (.lit (.int 10)) (.lit (.int 12)))), (.lit (.bl true)), (.lst [(.lit (.str "a"))]), (.tup [(.lit (.str "a")), (.lst [(.lit (.str "b"))])]), (.tup [(.lit (.str "a")), (.lit (.str "B"))]), (.call "_law_nested" [(.lit (.int 60)), (.lit (.str "a"))]), (.tup [(.lit (.str "a")), (.lit (.bl true))])]
def txT : T := .lst [(.lit .non), (.lit (.int 5)), (.lit (.str "")), (.lit (.str " ")), (.lit (.str "A")), (.lit (.str "a b")), (.lit (.str "01")), (.lit (.str "-0")), (.lit (.str "--1")), (.lit (.str "+1")), (.lit (.str "1000000000000")), (.lit (.str "(")), (.lit (.str ")")), (.lit (.str "(a")), (.lit (.str "a)")), (.lit (.str "(a))")), (.lit (.str "( a)")), (.lit (.str "(a )")), (.lit (.str "(a  b)")), (.lit (.str "()()")), (.lit (.str "(a)(b)")), (.lit (.str "a()")), (.lit (.str "1a")), (.lit (.str "a1")), (.lit (.str "- 1")), (.lit (.str "(-)-")), (.lit (.str "(a\nb)")), (.lit (.str "1/2"))]
def a3 : S := .asg (.nm 3 false) (.call "_law_nested" [(.lit (.int 59)), (.lit (.str "a"))])
def a4 : S := .ife (.or (.not (.call "_law_is" [(.call "value_text" [(.pk 3)]), t59])) (.or (.cmp .NotEq (.call "read_value" [t59]) (.pk 3)) (.cmp .NotEq (.word 11 12 (.call "read_value" [t60])) (.tup [(.lit (.str "text")), (.lit (.int 0))])))) [
    .ret (.lit (.bl false))] []
def rgT : T := .bin .Add (.lit (.int 8)) (.blt "min" [(.blt "len" [(.pk 0)]), (.lit (.int 10))])
theorem b_law_is : b_law = [a1, .for_ (.nm 2 false) thT (w_turn "value_text"), a3, a4, .for_ (.nm 2 false) txT (w_turn "read_value"), .for_ (.nm 4 false) (.range rgT) lbody, .ret (.lit (.bl true))] := rfl
theorem i_th : evI (ΓL PL PW) thT (lE sc s d1 d2 o2 o3 o4 o5 o6 o7 o8 o9 o10) = .ok things (lE sc s d1 d2 o2 o3 o4 o5 o6 o7 o8 o9 o10) := by kernel_rfl
theorem i_tx : evI Γ txT (lE sc s d1 d2 o2 o3 o4 o5 o6 o7 o8 o9 o10) = .ok texts (lE sc s d1 d2 o2 o3 o4 o5 o6 o7 o8 o9 o10) := by kernel_rfl
theorem ev_for_l {t : List T} {body : List S} {i : Nat} {e e' : Env} {xs : List P} (h : evI Γ (.lst t) e = .ok xs e) (hb : forL [] (.nm i false) (evB Γ F body []) xs e = .nx e') : evS Γ F (.for_ (.nm i false) (.lst t) body) [] e = .nx e' := by
  simp only [evS]
  rw [h]
  dsimp only
  show SO.map (fun x => x) (forL [] (.nm i false) (evB Γ F body []) xs e) = _
  rw [hb]
  rfl
theorem ev_for_r {t : T} {body : List S} {i : Nat} {e e' : Env} {xs : List P} (h : evI Γ (.range t) e = .ok xs e) (hb : forL [] (.nm i false) (evB Γ F body []) xs e = .nx e') : evS Γ F (.for_ (.nm i false) (.range t) body) [] e = .nx e' := by
  simp only [evS]
  rw [h]
  dsimp only
  show SO.map (fun x => x) (forL [] (.nm i false) (evB Γ F body []) xs e) = _
  rw [hb]
  rfl
theorem s_a3 : evS (ΓL PL PW) F a3 [] (lE sc s d1 d2 o2 o3 o4 o5 o6 o7 o8 o9 o10) = .nx (lE sc s d1 d2 o2 (some (.p (nest 59 (.str "a")))) o4 o5 o6 o7 o8 o9 o10) := by
  have c : evT (ΓL PL PW) (.call "_law_nested" [(.lit (.int 59)), (.lit (.str "a"))]) (lE sc s d1 d2 o2 o3 o4 o5 o6 o7 o8 o9 o10) = .ok (.p (nest 59 (.str "a"))) (lE sc s d1 d2 o2 o3 o4 o5 o6 o7 o8 o9 o10) := ev_call (ds := [.p (.int 59), .p (.str "a")]) rfl (g_ne (by decide) f_nest59) rfl
  exact asg_p (d := .p (nest 59 (.str "a"))) (by simp) c rfl (by simp)
theorem s_a4 : evS (ΓL PL PW) F a4 [] (lE sc s (dL PL) (dW PW) o2 (some (.p (nest 59 (.str "a")))) o4 o5 o6 o7 o8 o9 o10) = .nx (lE sc s (dL PL) (dW PW) o2 (some (.p (nest 59 (.str "a")))) o4 o5 o6 o7 o8 o9 o10) := by
  obtain ⟨o, r, ht⟩ := (lg (PL := PL) (PW := PW)).tab
  have c1 : evT (ΓL PL PW) (.call "value_text" [(.pk 3)]) (lE sc s (dL PL) (dW PW) o2 (some (.p (nest 59 (.str "a")))) o4 o5 o6 o7 o8 o9 o10) = .ok (.p (.str D59)) (lE sc s (dL PL) (dW PW) o2 (some (.p (nest 59 (.str "a")))) o4 o5 o6 o7 o8 o9 o10) := l_c1 rfl (g_ne (by decide) f_text)
  have c2 := f_d59 (ΓL PL PW) (lE sc s (dL PL) (dW PW) o2 (some (.p (nest 59 (.str "a")))) o4 o5 o6 o7 o8 o9 o10)
  have c3 := f_d60 (ΓL PL PW) (lE sc s (dL PL) (dW PW) o2 (some (.p (nest 59 (.str "a")))) o4 o5 o6 o7 o8 o9 o10)
  have k1 : evT (ΓL PL PW) (.not (.call "_law_is" [(.call "value_text" [(.pk 3)]), t59])) (lE sc s (dL PL) (dW PW) o2 (some (.p (nest 59 (.str "a")))) o4 o5 o6 o7 o8 o9 o10) = .ok (.p (.bl false)) (lE sc s (dL PL) (dW PW) o2 (some (.p (nest 59 (.str "a")))) o4 o5 o6 o7 o8 o9 o10) := by
    refine ev_not (ev_call (ds := [.p (.str D59), .p (.str D59)]) (evAs_cons c1 rfl (evAs_cons c2 rfl rfl)) (lg.is_ _ (Sh.str f_sh.1 f_sh.2)) rfl) rfl
  have k2 : evT (ΓL PL PW) (.cmp .NotEq (.call "read_value" [t59]) (.pk 3)) (lE sc s (dL PL) (dW PW) o2 (some (.p (nest 59 (.str "a")))) o4 o5 o6 o7 o8 o9 o10) = .ok (.p (.bl false)) (lE sc s (dL PL) (dW PW) o2 (some (.p (nest 59 (.str "a")))) o4 o5 o6 o7 o8 o9 o10) := by
    refine ev_cmp (x := .p (nest 59 (.str "a"))) (ev_call (ds := [.p (.str D59)]) (evAs_cons c2 rfl rfl) (g_ne (by decide) f_read) rfl) (ev_pk rfl) rfl rfl ?_
    have := neP (x := nest 59 (.str "a")) (y := nest 59 (.str "a")) f_ok59.1 f_ok59.1 (by have := f_ok59.2; omega) (by have := f_ok59.2; omega)
    rw [decide_eq_true rfl] at this
    exact this
  have k3 : evT (ΓL PL PW) (.cmp .NotEq (.word 11 12 (.call "read_value" [t60])) (.tup [(.lit (.str "text")), (.lit (.int 0))])) (lE sc s (dL PL) (dW PW) o2 (some (.p (nest 59 (.str "a")))) o4 o5 o6 o7 o8 o9 o10) = .ok (.p (.bl false)) (lE sc s (dL PL) (dW PW) o2 (some (.p (nest 59 (.str "a")))) o4 o5 o6 o7 o8 o9 o10) := by
    have w1 : evT (ΓL PL PW) (.call "read_value" [t60]) (lE sc s (dL PL) (dW PW) o2 (some (.p (nest 59 (.str "a")))) o4 o5 o6 o7 o8 o9 o10) = .exc "NoText" [("line", .int 0)] (lE sc s (dL PL) (dW PW) o2 (some (.p (nest 59 (.str "a")))) o4 o5 o6 o7 o8 o9 o10) :=
      ev_call_exc (ds := [.p (.str D60)]) (evAs_cons c3 rfl rfl) (g_ne (by decide) f_read60) rfl
    have w2 := ev_word_exc (a := 11) (b := 12) (d1 := dL PL) (d2 := dW PW) rfl rfl ht w1
    exact ev_cmp w2 (y := .p told0) rfl rfl rfl (told_ne [])
  unfold a4
  exact (ev_ife_f ((ev_or_f k1 rfl).trans ((ev_or_f k2 rfl).trans k3)) rfl).trans rfl
theorem law_ev {ns : List Int} (hl : ns.length ≤ 1000) : ∃ e', evB (ΓL PL PW) 100000 b_law [] [some (.p (.fl (ns.map P.int))), none, none, none, none, none, none, none, none, none, none, some (dL PL), some (dW PW)] = .ret (.p (.bl true)) e' := by
  obtain ⟨o, r, ht⟩ := (lg (PL := PL) (PW := PW)).tab
  have hlim : lim = 1000000 := rfl
  have e1 : evS (ΓL PL PW) 100000 a1 [] [some (.p (.fl (ns.map P.int))), none, none, none, none, none, none, none, none, none, none, some (dL PL), some (dW PW)] = .nx (lE (.fl (ns.map P.int)) ⟨greats ns, ns.map absI, 0, 0⟩ (dL PL) (dW PW) none none none none none none none none none) := by
    have c1 : evT (ΓL PL PW) (.call "_law_begun" [(.pk 0)]) [some (.p (.fl (ns.map P.int))), none, none, none, none, none, none, none, none, none, none, some (dL PL), some (dW PW)] = .ok (.st ⟨greats ns, ns.map absI, 0, 0⟩) [some (.p (.fl (ns.map P.int))), none, none, none, none, none, none, none, none, none, none, some (dL PL), some (dW PW)] :=
      ev_call (evAs_cons (ev_pk rfl) rfl rfl) (g_ne (by decide) (m_begun (F := 100000) (k := 69) (by omega))) rfl
    unfold a1
    simp only [evS]
    rw [c1]
    rfl
  have si := si_begun ns
  generalize (⟨greats ns, ns.map absI, 0, 0⟩ : DSt) = s0 at e1 si
  obtain ⟨p2, l2⟩ := w_loop (F := 100000) (sc := .fl (ns.map P.int)) (s := s0) (o3 := none) (o4 := none) (o5 := none) (o6 := none) (o7 := none) (o8 := none) (o9 := none) (o10 := none) (f := "value_text") ht (xs := things) (o2 := none) fun x hx => g_ne (by decide) (f_things x hx)
  have e2 : evS (ΓL PL PW) 100000 (.for_ (.nm 2 false) thT (w_turn "value_text")) [] (lE (.fl (ns.map P.int)) s0 (dL PL) (dW PW) none none none none none none none none none) = .nx (lE (.fl (ns.map P.int)) s0 (dL PL) (dW PW) p2 none none none none none none none none) := ev_for_l i_th l2
  have e3 := s_a3 (F := 100000) (PL := PL) (PW := PW) (sc := .fl (ns.map P.int)) (s := s0) (d1 := dL PL) (d2 := dW PW) (o2 := p2) (o3 := none) (o4 := none) (o5 := none) (o6 := none) (o7 := none) (o8 := none) (o9 := none) (o10 := none)
  have e4 := s_a4 (F := 100000) (PL := PL) (PW := PW) (sc := .fl (ns.map P.int)) (s := s0) (o2 := p2) (o4 := none) (o5 := none) (o6 := none) (o7 := none) (o8 := none) (o9 := none) (o10 := none)
  obtain ⟨q2, l5⟩ := w_loop (F := 100000) (sc := .fl (ns.map P.int)) (s := s0) (o3 := some (.p (nest 59 (.str "a")))) (o4 := none) (o5 := none) (o6 := none) (o7 := none) (o8 := none) (o9 := none) (o10 := none) (f := "read_value") ht (xs := texts) (o2 := p2) fun x hx => g_ne (by decide) (f_texts x hx)
  have e5 : evS (ΓL PL PW) 100000 (.for_ (.nm 2 false) txT (w_turn "read_value")) [] (lE (.fl (ns.map P.int)) s0 (dL PL) (dW PW) p2 (some (.p (nest 59 (.str "a")))) none none none none none none none) = .nx (lE (.fl (ns.map P.int)) s0 (dL PL) (dW PW) q2 (some (.p (nest 59 (.str "a")))) none none none none none none none) := ev_for_l i_tx l5
  -- the turns
  obtain ⟨n, hn, hn2⟩ : ∃ n : Nat, n ≤ 18 ∧ evT (ΓL PL PW) rgT (lE (.fl (ns.map P.int)) s0 (dL PL) (dW PW) q2 (some (.p (nest 59 (.str "a")))) none none none none none none none) = .ok (.p (.int (n : Int))) (lE (.fl (ns.map P.int)) s0 (dL PL) (dW PW) q2 (some (.p (nest 59 (.str "a")))) none none none none none none none) := by
    have b1 : evT (ΓL PL PW) (.blt "len" [(.pk 0)]) (lE (.fl (ns.map P.int)) s0 (dL PL) (dW PW) q2 (some (.p (nest 59 (.str "a")))) none none none none none none none) = .ok (.p (.int ((ns.map P.int).length : Nat))) (lE (.fl (ns.map P.int)) s0 (dL PL) (dW PW) q2 (some (.p (nest 59 (.str "a")))) none none none none none none none) := ev_blt1 (ev_pk rfl) rfl rfl
    rw [List.length_map] at b1
    have b2 : evT (ΓL PL PW) (.blt "min" [(.blt "len" [(.pk 0)]), (.lit (.int 10))]) (lE (.fl (ns.map P.int)) s0 (dL PL) (dW PW) q2 (some (.p (nest 59 (.str "a")))) none none none none none none none) = .ok (.p (.int (if (10 : Int) < (ns.length : Int) then 10 else (ns.length : Int)))) (lE (.fl (ns.map P.int)) s0 (dL PL) (dW PW) q2 (some (.p (nest 59 (.str "a")))) none none none none none none none) := by
      have := ev_two b1 (b := .lit (.int 10)) (d' := .p (.int 10)) (e2 := lE (.fl (ns.map P.int)) s0 (dL PL) (dW PW) q2 (some (.p (nest 59 (.str "a")))) none none none none none none none) rfl
      unfold evT
      rw [this]
      rfl
    have b3 := ev_bin (op := .Add) (a := .lit (.int 8)) (x := .p (.int 8)) rfl b2 rfl rfl rfl
    by_cases h : (10 : Int) < (ns.length : Int)
    · rw [if_pos h] at b3
      exact ⟨18, by omega, b3⟩
    · rw [if_neg h] at b3
      refine ⟨8 + ns.length, by omega, ?_⟩
      rw [show ((8 + ns.length : Nat) : Int) = 8 + (ns.length : Int) by omega]
      exact b3
  have hr := range_nat (n := n) (by omega)
  have i6 := evI_range hn2 rfl hr
  obtain ⟨s', q4, q5, q6, q7, q8, q9, q10, l6⟩ := l_loop (F := 100000) (sc := .fl (ns.map P.int)) (o2 := q2) (o3 := some (.p (nest 59 (.str "a")))) (lg (PL := PL) (PW := PW)) (xs := (List.range n).map fun i => .int (i : Nat)) (s := s0) (T := 0) (o4 := none) (o5 := none) (o6 := none) (o7 := none) (o8 := none) (o9 := none) (o10 := none) si (by simp; omega)
  have e6 := ev_for_r i6 l6
  rw [b_law_is, evB_nx e1, evB_nx e2, evB_nx e3, evB_nx e4, evB_nx e5, evB_nx e6]
  exact ⟨_, rfl⟩
end
end Ev.K88
end

section
set_option Elab.async false
set_option linter.all false
set_option maxRecDepth 100000
/-! Hd1: what the head tells of the exceptions, as Bools. -/
namespace Hd
open PySem PySem.Spec PyProof.Rows L2 He
section
variable {K : PySem.W.Frag} {C : Addr}
def clsB (K : PySem.W.Frag) (C : Addr) : Bool := match K.lookup C with
  | some ⟨.type t, _, .cls ⟨_, _, m, _, _, hd, _, _, _, _, dl⟩, sl⟩ => (match m, sl.toList with
    | .ref c :: bm, [_, _, _, _, some (.builtin n), _] => decide (t = "type") && (decide (c = C) && (decide (n = "ValueError.__new__") && (PySem.HandSPX.refsVE bm && (hd && !dl))))
    | _, _ => false)
  | _ => false
theorem clsB_ok (h : clsB K C = true) : ∃ nm q N bs bm sn sub ab col dd k0 k1 k2 k3 k5, K.lookup C = some (excClassObj nm q C N bs bm true sn sub ab col dd k0 k1 k2 k3 k5 "ValueError.__new__") ∧ PySem.HandSPX.refsVE bm = true := by
  unfold clsB at h
  split at h
  · rename_i t od nm bs m ns qn hd sn sub ab col dl sl hl
    split at h
    · rename_i c bm k0 k1 k2 k3 n k5 hs
      obtain ⟨h1, h⟩ := ba h
      obtain ⟨h2, h⟩ := ba h
      obtain ⟨h3, h⟩ := ba h
      obtain ⟨h4, h⟩ := ba h
      obtain ⟨h5, h6⟩ := ba h
      have e1 := of_decide_eq_true h1
      have e2 := of_decide_eq_true h2
      have e3 := of_decide_eq_true h3
      have e6 : dl = false := by cases dl <;> first | rfl | cases h6
      subst e1 e2 e3 h5 e6
      have hsl : sl = #[k0, k1, k2, k3, some (.builtin "ValueError.__new__"), k5] := by
        obtain ⟨l⟩ := sl
        simp only at hs
        rw [hs]
      subst hsl
      exact ⟨nm, qn, ns, bs, bm, sn, sub, ab, col, od, k0, k1, k2, k3, k5, hl, h4⟩
    · cases h
  · cases h
def oexB (K : PySem.W.Frag) (C : Addr) : Bool := clsB K C && (eqO (PySem.W.findIn K (.ref C) "__setattr__") (some (some (.builtin "object.__setattr__"))) && (decide (PySem.W.subIn K (.ref C) (.type "BaseException") = some true) && (decide (PySem.W.typeIn K (.ref C) = some (.type "type")) && PySem.W.keepIn K (.ref C))))
theorem oexB_ok (h : oexB K C = true) : OexC K C := by
  obtain ⟨h1, h⟩ := ba h
  obtain ⟨h2, h⟩ := ba h
  obtain ⟨h3, h⟩ := ba h
  obtain ⟨h4, h5⟩ := ba h
  exact ⟨clsB_ok h1, eqO_ok h2, of_decide_eq_true h3, of_decide_eq_true h4, h5⟩
def excB (K : PySem.W.Frag) (D : Addr) : Bool := eqO (PySem.W.findIn K (.ref D) "__getattribute__") (some (some (.builtin "BaseException.__getattribute__"))) && (eqO (PySem.W.findIn K (.ref D) "__getattr__") (some none) && (decide (PySem.W.subIn K (.ref D) (.type "BaseException") = some true) && (PySem.W.hasDictIn K D &&
  (eqO (PySem.W.findIn K (.ref D) "__class__") (some (some (.builtin "object.__class__"))) && (eqO (PySem.W.specialIn K (.builtin "object.__class__") "__get__") (some (some (.builtin "getset_descriptor.__get__"))) && (decide (PySem.W.takesIn K (.builtin "object.__class__") = some true) && decide (PySem.W.mroIn K D (.type "object") = some true)))))))
theorem excB_ok {D : Addr} (h : excB K D = true) : ExcC K D := by
  obtain ⟨h1, h⟩ := ba h
  obtain ⟨h2, h⟩ := ba h
  obtain ⟨h3, h⟩ := ba h
  obtain ⟨h4, h⟩ := ba h
  obtain ⟨h5, h⟩ := ba h
  obtain ⟨h6, h⟩ := ba h
  obtain ⟨h7, h8⟩ := ba h
  exact ⟨eqO_ok h1, eqO_ok h2, of_decide_eq_true h3, h4, eqO_ok h5, eqO_ok h6, of_decide_eq_true h7, of_decide_eq_true h8⟩
/-- the classes that _law_word asks for -/
def wordB (K : PySem.W.Frag) (CO CU CT CN : Addr) : Bool := excB K CN && (xfB K CN && (eqO (PySem.W.findIn K (.ref CN) "line") (some none) && (decide (PySem.W.exmOne K (.ref CN) (.ref CO) = some true) && (decide (PySem.W.kitOne K (.ref CN) (.ref CU) = some false) && (decide (PySem.W.kitOne K (.ref CN) (.ref CT) = some false) && decide (PySem.W.kitOne K (.ref CN) (.ref CN) = some true))))))
theorem wordB_ok {mg : Str → Option Value} {CO CU CT CN : Addr} (h : wordB K CO CU CT CN = true) (mU : mg "Used" = some (.ref CU)) (mT : mg "TooMany" = some (.ref CT)) (mN : mg "NoText" = some (.ref CN)) (mi : mg "isinstance" = none) (bi : bootBuiltins "isinstance" = some (.builtin "isinstance")) : Wd.WordK K mg CO CU CT CN := by
  obtain ⟨h1, h⟩ := ba h
  obtain ⟨h2, h⟩ := ba h
  obtain ⟨h3, h⟩ := ba h
  obtain ⟨h4, h⟩ := ba h
  obtain ⟨h5, h⟩ := ba h
  obtain ⟨h6, h7⟩ := ba h
  exact ⟨mU, mT, mN, mi, bi, excB_ok h1, xfB_ok h2, eqO_ok h3, of_decide_eq_true h4, of_decide_eq_true h5, of_decide_eq_true h6, of_decide_eq_true h7⟩
/-! ### an own __init__ with super() -/
abbrev InW : Type := Option (Str × Str × Arguments × FuncBody × Scope × Addr × List Str × Addr)
def initW (K : PySem.W.Frag) (f : Addr) : InW := match K.lookup f with
  | some ⟨_, _, .func fd, _⟩ => some (fd.name, fd.qualname, fd.params, fd.body, fd.scope, fd.globals, fd.closure.map (·.1), fd.builtins)
  | _ => none
/-- its cell, its code -/
def initB (file : Str) (K : PySem.W.Frag) (C f : Addr) (qual : Str) : Bool := match K.lookup f with
  | some ⟨_, _, .func fd, _⟩ => (dflB K fd.defaults [.non] && PySem.W.codeIn K fd.code qual) && ((match fd.closure with
    | [(_, cc)] => (match K.lookup cc with
      | some ⟨_, _, .cell (some (.ref D)), _⟩ => decide (D = C)
      | _ => false)
    | _ => false) && (match fd.code with
    | .ref kc => (match K.lookup kc with
      | some ⟨_, _, .fields vs, _⟩ => (match (vs[2]? : Option Value) with
        | some (.str z _) => decide (z = file)
        | _ => false)
      | _ => false)
    | _ => false))
  | _ => false
def mroB (K : PySem.W.Frag) (C : Addr) : Bool := match PySem.W.clsIn K C with
  | some cd => decide (PySem.W.alongIn K "__init__" ((cd.mro.dropWhile (· != .ref C)).drop 1) = some (some (.builtin "ValueError.__init__")))
  | none => false
def oneB (K : PySem.W.Frag) (C f : Addr) (fld : Str) : Bool := eqO (PySem.W.findIn K (.ref C) "__init__") (some (some (.ref f))) && (decide (PySem.W.typeIn K (.ref f) = some (.type "function")) && (eqO (PySem.W.findIn K (.ref C) fld) (some none) && (eqO (PySem.W.nsIn K cStatics "thirdparty.any") (some none) && (decide (PySem.W.subIn K (.ref C) (.type "ValueError") = some true) && (decide (PySem.W.subIn K (.ref C) (.ref C) = some true) && mroB K C)))))
theorem init_of {P : Program} {mg : Str → Option Value} {fI : Addr} {fld name qual file : Str} {params : Arguments} {body : List Stmt} {scope : Scope} (hw : initW K fI = (some (name, qual, params, .stmts body, scope, mainGlobals, ["__class__"], builtinsNs) : InW)) (hi : initB file K C fI qual = true) (ho : oneB K C fI fld = true) (hx : oexB K C = true)
    (hf : P.main.file = file) (hb : ∃ a1 a2 a3 a4 a5 a6 a7 a8 a9 a10 : Pos, body = Ev.initBody fld a1 a2 a3 a4 a5 a6 a7 a8 a9 a10 ∧ (a3.endLine == a5.line) = true) (har : ∃ ar, (params.posonlyargs ++ params.args).head? = some ar ∧ ar.arg = "self") (S : NdefX.NScope ["self", "text", fld, "__class__"] ["self", "text", fld] ["__class__"] scope)
    (ks : scope.names.lookup ("super" : Str) = some .globalImplicit) (nm : fld ≠ "__debug__" ∧ fld ≠ "__classdict__") (sup : mg "super" = none) (top : (P.main.scope.names.lookup ("super" : Str)).isSome = false) :
    ∃ fd : FuncData, Ev.InitF P K mg C fI fld fd ∧ (∃ (dV kV doc pm ct : Value) (an : Option Addr) (cc kc : Addr), DflV K dV [.non] ∧ fd = { name := name, qualname := qual, params := params, body := .stmts body, scope := scope, globals := mainGlobals, closure := [("__class__", cc)], defaults := dV, kwdefaults := kV, doc := doc, pyModule := pm, annotations := an, code := .ref kc, closureTuple := ct, builtins := builtinsNs }) ∧
      PySem.W.findIn K (.ref C) "__init__" = some (some (.ref fI)) ∧ PySem.W.typeIn K (.ref fI) = some (.type "function") := by
  obtain ⟨o1, h⟩ := ba ho
  obtain ⟨o2, h⟩ := ba h
  obtain ⟨o3, h⟩ := ba h
  obtain ⟨o4, h⟩ := ba h
  obtain ⟨o5, h⟩ := ba h
  obtain ⟨o6, o7⟩ := ba h
  have mro : ∃ cd, PySem.W.clsIn K C = some cd ∧ PySem.W.alongIn K "__init__" ((cd.mro.dropWhile (· != .ref C)).drop 1) = some (some (.builtin "ValueError.__init__")) := by
    unfold mroB at o7
    split at o7
    · rename_i cd e
      exact ⟨cd, e, of_decide_eq_true o7⟩
    · cases o7
  unfold initW at hw
  unfold initB at hi
  cases q : K.lookup fI with
  | none => rw [q] at hw; cases hw
  | some o =>
    obtain ⟨oc, od, dt, osl⟩ := o
    rw [q] at hw hi
    cases dt with
    | func fd =>
      obtain ⟨n1, n2, n3, n4, n5, n6, n7, n8, n9, n10, n11, n12, n13, n14, n15⟩ := fd
      have e2 : (some (n1, n2, n3, n4, n5, n6, n7.map (·.1), n15) : InW) = (some (name, qual, params, .stmts body, scope, mainGlobals, ["__class__"], builtinsNs) : InW) := hw
      simp only [Option.some.injEq, Prod.mk.injEq] at e2
      obtain ⟨h1, h2, h3, h4, h5, h6, h7, h8⟩ := e2
      subst h1 h2 h3 h4 h5 h6 h8
      dsimp only at hi
      obtain ⟨i0, hi⟩ := ba hi
      obtain ⟨i2, i3⟩ := ba hi
      obtain ⟨id, i1⟩ := ba i0
      cases n7 with
      | nil => cases h7
      | cons p r =>
        cases r with
        | cons _ _ => simp at h7
        | nil =>
          obtain ⟨y, cc⟩ := p
          have ey : y = "__class__" := by simpa using h7
          subst ey
          dsimp only at i2
          have cell : ∃ oC, K.lookup cc = some oC ∧ oC.data = .cell (some (.ref C)) := by
            split at i2
            · rename_i D sl e
              have := of_decide_eq_true i2
              subst this
              exact ⟨_, e, rfl⟩
            · cases i2
          cases n13 with
          | ref kc =>
            dsimp only at i3
            have code : ∃ ok vs tf, K.lookup kc = some ok ∧ ok.data = .fields vs ∧ vs[2]? = some (.str P.main.file tf) := by
              split at i3
              · rename_i vs sl e
                split at i3
                · rename_i z tf ez
                  have := of_decide_eq_true i3
                  subst this
                  exact ⟨_, vs, tf, e, rfl, by rw [hf]; exact ez⟩
                · cases i3
              · cases i3
            obtain ⟨a1, a2, a3, a4, a5, a6, a7, a8, a9, a10, eb, el⟩ := hb
            subst eb
            exact ⟨_, ⟨⟨oc, od, osl, n1, n2, n3, n5, cc, kc, n8, n9, n10, n11, n14, n12, a1, a2, a3, a4, a5, a6, a7, a8, a9, a10, rfl, q, i1, cell, code, har, S, ks, el⟩, nm, sup, top, oexB_ok hx, eqO_ok o3, eqO_ok o4, of_decide_eq_true o5, of_decide_eq_true o6, mro⟩,
              ⟨n8, n9, n10, n11, n14, n12, cc, kc, dflB_ok id, rfl⟩, eqO_ok o1, of_decide_eq_true o2⟩
          | _ => cases i3
    | _ => cases hw
end
/-! ### the Hook -/
def asN (g : Addr → Option Obj) (n : Nat) : List Addr := asD g n ++ [cStatics]
def frN (g : Addr → Option Obj) (n : Nat) : PySem.W.Frag := frT g (asN g n)
abbrev AlN : Type := AlD × InW × Bool
def obsN (n : Nat) (fa : List Fa) (fn : List DefD) (tf : List Defn) (ini : PySem.W.Frag → Addr) (ex : PySem.W.Frag → Bool) (g : Addr → Option Obj) : AlN := (obsD fa fn (frN g n), initW (frN g n) (ini (frN g n)), ex (frN g n) && tabsB g tf (frN g n))
/-- what is told -/
structure SaysN (fa : List Fa) (fn : List DefD) (tf : List Defn) (ini : PySem.W.Frag → Addr) (iv : InW) (ex : PySem.W.Frag → Bool) (h : Heap) (K : PySem.W.Frag) : Prop where
  d : SaysD fa fn K
  i : initW K (ini K) = iv
  more : ex K = true
  hd : ∀ p ∈ tf, PySem.W.codeHdIn K (cT K p).1 (cT K p).2 = true
  out : ∀ p ∈ tf, K.lookup (cT K p).2 = none
  empty : ∀ p ∈ tf, h.get? (cT K p).2 = some { cls := .none, data := .fields #[] }
theorem saysN_of {n : Nat} {fa : List Fa} {fn : List DefD} {tf : List Defn} {ini : PySem.W.Frag → Addr} {iv : InW} {ex : PySem.W.Frag → Bool} {h : Heap} (e : obsN n fa fn tf ini ex h.get? = (valD fn, iv, true)) : SaysN fa fn tf ini iv ex h (frN h.get? n) := by
  have e2 : (ex (frN h.get? n) && tabsB h.get? tf (frN h.get? n)) = true := congrArg (fun z : AlN => z.2.2) e
  obtain ⟨q1, q2⟩ := ba e2
  have one : ∀ p ∈ tf, PySem.W.codeHdIn (frN h.get? n) (cT (frN h.get? n) p).1 (cT (frN h.get? n) p).2 = true ∧ ∃ o, h.get? (cT (frN h.get? n) p).2 = some o ∧ emptyTab o = true := fun p hp => by
    have z := List.all_eq_true.mp q2 p hp
    obtain ⟨z1, z2⟩ := ba z
    refine ⟨z1, ?_⟩
    split at z2
    · exact ⟨_, by assumption, z2⟩
    · cases z2
  refine ⟨congrArg (fun z : AlN => z.1) e, congrArg (fun z : AlN => z.2.1) e, q1, fun p hp => (one p hp).1, fun p hp => ?_, fun p hp => ?_⟩
  · obtain ⟨o, z1, z2⟩ := (one p hp).2
    exact frT_none z1 z2
  · obtain ⟨o, z1, z2⟩ := (one p hp).2
    rw [z1, emptyTab_eq z2]
def hookN (n : Nat) (fa : List Fa) (fn : List DefD) (tf : List Defn) (ini : PySem.W.Frag → Addr) (iv : InW) (ex : PySem.W.Frag → Bool) : PySem.W.Hook where
  α := AlN
  obs := fun s => obsN n fa fn tf ini ex s.heap.get?
  val := fun _ => (valD fn, iv, true)
  says := fun _ h => ∃ K : PySem.W.Frag, K.In h ∧ SaysN fa fn tf ini iv ex h K
  of := fun _ _ e => ⟨_, frT_in, saysN_of e⟩
  keeps := fun _ _ _ ⟨K, hK, c⟩ k => ⟨K, PySem.W.Frag.In.keeps hK k, c.d, c.i, c.more, c.hd, c.out, fun p hp => k _ _ (c.empty p hp)⟩
end Hd
end

section
set_option Elab.async false
set_option linter.all false
set_option maxRecDepth 100000
set_option maxHeartbeats 0
/-! Hd2: the head's run. -/
namespace Hd
open PySem PySem.Spec PyProof.Rows L2 He Ev.K88
abbrev R : PySem.W.OpenRow := PySem.W.OpenLaw.row PySem.Challenge.rw_orderbook_k88_values_written
def dd (x : Str) (i : Nat) : DefD := ⟨(x, none), x, x, defArgs (topS i), defBody (topS i), defScope (topS i), [], []⟩
def defs1 : List (Str × Nat) := [("is_word", 25), ("is_figure", 26), ("is_value", 27), ("value_text", 28), ("pieces_of", 29), ("plain_of", 30), ("value_of", 31), ("read_value", 32), ("_law_begun", 34), ("_law_mixed", 35), ("_law_draw", 36), ("_law_pick", 37), ("_law_plain", 38), ("_law_is", 39), ("_law_value_text", 40), ("_law_caught", 41), ("_law_word", 42), ("_law_some_value", 43), ("_law_nested", 44), ("law", 45)]
def fn : List DefD := defs1.map fun p => dd p.1 p.2
def frees : List Str := ["isinstance", "len", "abs", "all", "repr", "min", "int", "str", "bool", "tuple", "list", "dict", "range", "enumerate", "reversed", "super"]
def fa : List Fa := defs1.map (fun p => Fa.glo p.1) ++ [.glo "NoText", .glo "Used", .glo "TooMany", .glo "OrderError"] ++ frees.map Fa.free ++ [.int "MOST_DEEP" 60, .int "MOST_FIGURES" 12, .int "MOST_NUMBER" 1000000000000, .str "SMALL" "abcdefghijklmnopqrstuvwxyz", .str "FIGURES" "0123456789"]
def tf : List Defn := [("_law_word", none), ("law", none)]
def ini (K : PySem.W.Frag) : Addr := ma K (ga K "NoText") "__init__"
def sInit : Stmt := match topS 16 with
  | .ClassDef _ _ _ b _ _ _ _ _ _ _ => b.getD 0 (.Pass ⟨0, 0, 0, 0⟩)
  | s => s
def iv : InW := some ("__init__", "NoText.__init__", defArgs sInit, .stmts (defBody sInit), defScope sInit, mainGlobals, ["__class__"], builtinsNs)
def file : Str := "/claim/cut.py"
def ex (K : PySem.W.Frag) : Bool := oexB K (ga K "NoText") && (initB file K (ga K "NoText") (ini K) "NoText.__init__" && (oneB K (ga K "NoText") (ini K) "line" && wordB K (ga K "OrderError") (ga K "Used") (ga K "TooMany") (ga K "NoText") && !decide ((cT K ("law", none)).2 = (cT K ("_law_word", none)).2)))
abbrev hk : PySem.W.Hook := hookN 4 fa fn tf ini iv ex
def ob (s : PySem.W.SharedT) : AlN := obsN 4 fa fn tf ini ex (HandSHeadRun.getT s)
theorem ob_eq (s : PySem.W.SharedT) : ob s = hk.obs s.abs := by
  have e : HandSHeadRun.getT s = s.abs.heap.get? := funext (HandSHeadRun.getT_eq s)
  show obsN 4 fa fn tf ini ex (HandSHeadRun.getT s) = obsN 4 fa fn tf ini ex s.abs.heap.get?
  rw [e]
def loose1 : List Str := ["__name__", "OrderError", "NoName", "NoNumber", "NoPlace", "NoOrder", "NoTie", "NoTable", "NoKind", "NoBook", "NoState", "NoExpression", "NoLaw", "NoDeed", "NoPast", "Twice", "NoText", "Used", "TooMany", "MOST_DEEP", "MOST_FIGURES", "MOST_NUMBER", "SMALL", "FIGURES"]
def loose2 : List Str := ["is_word", "is_figure", "is_value", "value_text", "pieces_of", "plain_of", "value_of", "read_value", "_law_begun", "_law_mixed", "_law_draw", "_law_pick", "_law_plain", "_law_is", "_law_value_text", "_law_caught", "_law_word", "_law_some_value", "_law_nested"]
def loose : List Str := loose1 ++ loose2
theorem run (w : World) : HandSHeadRun.RunEq R (PySem.W.view R.prog [45]) hk ob 20000 loose w := by
  intro os
  kernel_rfl
end Hd
end

section
set_option Elab.async false
set_option linter.all false
set_option maxRecDepth 100000
/-! LwE: the harness calls the law: a def's promise where nothing is being shown. -/
namespace Ev
open PySem PySem.Spec PyProof.Rows L2 LamX
section
variable {P : Program} {w : World} {K : PySem.W.Frag} {mg mb : Str → Option Value} {k : Nat} {fa a : Addr} {cs : List (Addr × Addr)} {fd : FuncData} {x : Str} {sp : Sp} {s₁ : Shared} {vs : List Value} {ns : List Int}
/-- an empty table -/
abbrev noRows : Obj := { cls := .none, data := .fields #[] }
/-- what is told at the start: the tables, and the script unless it is written -/
def told (K : PySem.W.Frag) (cs : List (Addr × Addr)) (a : Addr) (vs : List Value) (ns : List Int) : Hp := fun b =>
  if b ∈ cs.map (·.2) then some (.tbl #[]) else if b = a ∧ K.lookup a = none then some (.frz { cls := .type "list", data := .seq vs.toArray } (.lst (ns.map V.int))) else none
theorem told_tab {p : Addr × Addr} (hp : p ∈ cs) : told K cs a vs ns p.2 = some (.tbl #[]) := if_pos (List.mem_map.mpr ⟨p, hp, rfl⟩)
theorem told_cases {b : Addr} {u : HO} (h : told K cs a vs ns b = some u) : (b ∈ cs.map (·.2) ∧ u = .tbl #[]) ∨ (b ∉ cs.map (·.2) ∧ b = a ∧ K.lookup a = none ∧ u = .frz { cls := .type "list", data := .seq vs.toArray } (.lst (ns.map V.int))) := by
  unfold told at h
  split at h
  · rename_i m
    exact .inl ⟨m, (Option.some.inj h).symm⟩
  · rename_i m
    split at h
    · rename_i c
      exact .inr ⟨m, c.1, c.2, (Option.some.inj h).symm⟩
    · cases h
theorem callG (kin : K.In s₁.heap) (gl : s₁.heap.Ns mainGlobals mg) (bl : s₁.heap.Ns builtinsNs mb) (blt : ∀ x : Str, x ≠ "__name__" → mb x = bootBuiltins x) (lim : s₁.heap.NoLimit) (gn : s₁.gens = #[])
    (empty : ∀ p ∈ cs, s₁.heap.get? p.2 = some noRows) (out : ∀ p ∈ cs, K.lookup p.2 = none) (code : ∀ p ∈ cs, PySem.W.CodeHd s₁.heap p.1 p.2)
    (bm : ∃ (m : Addr) (ob : Obj), mg "__builtins__" = some (.ref m) ∧ m ≠ builtinsNs ∧ s₁.heap.get? m = some ob ∧ ob.cls = .type "module" ∧ ob.dict = some builtinsNs ∧ ob.data = .plain)
    (obj : s₁.heap.get? a = some { cls := .type "list", data := .seq vs.toArray }) (hi : IntsAre vs ns) (len : ns.length ≤ sizeLine) (room : Room k callerA)
    (F : ∀ base : Heap, K.In base → base.Ns mainGlobals mg → (∀ p ∈ cs, TabB base mg p.1 p.2) → FnG P w K mg base k fa fd [x] sp) (bind : ∀ (s : Shared) (u : Value), BindsTo s fd ⟨[u], []⟩ [(x, u)])
    (asked : ∀ H : Hp, (∀ p ∈ cs, H p.2 = some (.tbl #[])) → SqL K H a (ns.map V.int) → sp [.ref a] H (fun v _ => v = .bl true) fun _ _ _ => False) :
    codeAny (model P w) callerA (.call (.ref fa) ⟨[.ref a], []⟩) (fun r s' => r = .ok (.ret (.bool true)) ∧ OldK s₁.heap s'.heap ∧ s'.os = s₁.os ∧ AllBare s'.gens) s₁ := by
  have vals := vals_ints hi
  have lens := hi.length
  have isT : ∀ {b : Addr}, b ∈ cs.map (·.2) → s₁.heap.get? b = some noRows := fun {b} m => by
    obtain ⟨p, hp, e⟩ := List.mem_map.mp m
    subst e
    exact empty p hp
  have aT : a ∉ cs.map (·.2) := fun m => by
    have q := isT m
    rw [obj] at q
    injection q with q
    injection q with _ _ q
    cases q
  -- nothing else is told
  have free : ∀ {b : Addr} {o : Obj}, s₁.heap.get? b = some o → (∀ xs n, o.data ≠ .seq xs n) → o.data ≠ .fields #[] → told K cs a vs ns b = none := fun {b o} e n1 n2 => by
    cases q : told K cs a vs ns b with
    | none => rfl
    | some u =>
      rcases told_cases q with ⟨m, _⟩ | ⟨_, rfl, _, _⟩
      · rw [isT m] at e
        cases e
        exact absurd rfl n2
      · rw [obj] at e
        cases e
        exact absurd rfl (n1 _ _)
  have keptK : ∀ {b : Addr} {o : Obj}, K.lookup b = some o → told K cs a vs ns b = none := fun {b o} e => by
    cases q : told K cs a vs ns b with
    | none => rfl
    | some u =>
      rcases told_cases q with ⟨m, _⟩ | ⟨_, rfl, z, _⟩
      · obtain ⟨p, hp, ep⟩ := List.mem_map.mp m
        rw [← ep, out p hp] at e
        cases e
      · rw [z] at e
        cases e
  have nsK : ∀ {b : Addr} {m : Str → Option Value}, s₁.heap.Ns b m → (hidT s₁.heap (told K cs a vs ns)).Ns b m := fun {b m} h => by
    obtain ⟨o, es, ep, e, d, r⟩ := h
    refine ⟨o, es, ep, hidT_get e (free e (fun xs n z => ?_) fun z => ?_), d, r⟩ <;> rw [d] at z <;> cases z
  have kinB : K.In (hidT s₁.heap (told K cs a vs ns)) := fun b o e => hidT_get (kin b o e) (keptK e)
  have md : L2.Mod K mg (hidT s₁.heap (told K cs a vs ns)) := by
    obtain ⟨mc, l1, l2⟩ := lim
    exact ⟨kinB, nsK gl, ⟨mb, nsK bl, blt⟩, mc, nsK l1, l2⟩
  have tabs : ∀ p ∈ cs, TabB (hidT s₁.heap (told K cs a vs ns)) mg p.1 p.2 := fun p hp => by
    have et := empty p hp
    refine ⟨?_, ?_, fun z => ?_⟩
    · obtain ⟨o, us, fl, tf, fg, tg, inF, tx, tt, e1, r1, r2, r3, r4, r5, r6, r7, r8, hne⟩ := code p hp
      refine ⟨o, us, fl, tf, fg, tg, inF, tx, tt, hidT_get e1 (free e1 (fun xs n z => ?_) fun z => ?_), r1, r2, r3, r4, r5, r6, r7, r8, hne⟩
      · rw [r2] at z; cases z
      · rw [r2] at z; cases z; simp at r3
    · obtain ⟨m, ob, b1, b2, b3, b4, b5, b6⟩ := bm
      refine ⟨m, ob, b1, b2, fun q => ?_, fun q => ?_, hidT_get b3 (free b3 (fun xs n z => ?_) fun z => ?_), b4, b5, b6⟩
      · obtain ⟨o, es, ep, e, d, _⟩ := gl
        rw [q, e] at b3
        cases b3
        rw [d] at b6
        cases b6
      · rw [q, et] at b3
        cases b3
        cases b6
      · rw [b6] at z; cases z
      · rw [b6] at z; cases z
    · obtain ⟨o, es, ep, e, d, _⟩ := gl
      rw [z, et] at e
      cases e
      cases d
  have allOk : HOk P w (told K cs a vs ns) s₁.heap := fun b u q => by
    rcases told_cases q with ⟨m, rfl⟩ | ⟨_, rfl, _, rfl⟩
    · exact isT m
    · exact ⟨obj, by rw [List.length_map]; exact len, vs, _, vals, obj⟩
  have seq : SqL K (told K cs a vs ns) a (ns.map V.int) := by
    cases q : K.lookup a with
    | none => exact .inl (.inr ⟨_, (if_neg aT).trans (if_pos ⟨rfl, q⟩)⟩)
    | some o =>
      have e := kin a o q
      rw [obj] at e
      cases e
      exact .inr ⟨_, vs.toArray, _, q, rfl, rfl, rfl, by rw [List.size_toArray, lens]; exact len, by simpa using vals⟩
  have e0 : Env0 P w K mg (hidT s₁.heap (told K cs a vs ns)) callerA [] s₁ (told K cs a vs ns) :=
    ⟨rfl, md, fun b o e => of_hidT e, Nat.le_of_eq (hidT_size _ _), trivial, fun b m => absurd (show b ∈ ([] : List Addr) from m) (by simp), allOk, .of_eq gn⟩
  have go := (F _ kinB (nsK gl) tabs).go callerA [] s₁ (told K cs a vs ns) ⟨[.ref a], []⟩ [.ref a] [.ref a] (fun v _ => v = .bl true) (fun _ _ _ => False) room rfl e0 (bind s₁ (.ref a)) (.cons rfl .nil) (asked _ (fun p hp => told_tab hp) seq)
  refine codeAny_mono go fun r s' h => ?_
  cases r with
  | error e =>
    obtain ⟨_, _, _, _, _, _, _, _, _, _, hh⟩ := h
    exact False.elim hh.2.2
  | ok fl =>
    cases fl with
    | next => exact False.elim h
    | brk => exact False.elim h
    | cont => exact False.elim h
    | ret u =>
      obtain ⟨v, H', os, bare, un, ok', rv, q⟩ := h
      obtain rfl : v = V.bl true := q
      obtain rfl : u = Value.bool true := rv
      have same : ∀ b o, b ∉ cs.map (·.2) → s₁.heap.get? b = some o → s'.heap.get? b = some o := fun b o nb e => by
        cases q : told K cs a vs ns b with
        | none => exact un.keep b o e q (fun z => absurd (show b ∈ ([] : List Addr) from z) (by simp)) (by simp)
        | some u =>
          rcases told_cases q with ⟨m, _⟩ | ⟨_, rfl, _, rfl⟩
          · exact absurd m nb
          · obtain ⟨g, _⟩ := ok' _ _ (un.frzs _ _ _ q)
            rw [obj] at e
            cases e
            exact g
      have rows : ∀ p ∈ cs, ∃ more : Array Value, s'.heap.get? p.2 = some { cls := .none, data := .fields more } := fun p hp => by
        obtain ⟨more, z⟩ := un.tbls p.2 #[] (told_tab hp)
        exact ⟨_, ok' p.2 _ z⟩
      refine ⟨rfl, ⟨fun b o e => ?_, fun b o e => ?_⟩, os, bare⟩ <;> by_cases hb : b ∈ cs.map (·.2)
      · obtain ⟨p, hp, ep⟩ := List.mem_map.mp hb
        subst ep
        obtain ⟨more, hm⟩ := rows p hp
        rw [empty p hp] at e
        cases e
        exact .inr (.inl ⟨((code p hp).tab (empty p hp)).isCodeTable, rfl, #[], more, rfl, by rw [Array.empty_append]; exact hm⟩)
      · exact .inl (same b o hb e)
      · obtain ⟨p, hp, ep⟩ := List.mem_map.mp hb
        subst ep
        obtain ⟨more, hm⟩ := rows p hp
        exact ⟨_, hm⟩
      · exact ⟨o, same b o hb e⟩
end
end Ev
end

section
set_option Elab.async false
set_option linter.all false
set_option maxRecDepth 100000
/-! LwF1: the defs' facts. -/
namespace Ev.K88
open PySem PySem.Spec PyProof.Rows L2 Ev Hd He
abbrev fnv (x : Str) (i : Nat) (kV doc pm : Value) (an : Option Addr) (cdv ct : Value) : FuncData := PySem.W.fnOf x x (defArgs (topS i)) (defBody (topS i)) (defScope (topS i)) .none kV doc pm an cdv ct
section
variable {kV doc pm cdv ct u v : Value} {an : Option Addr}
theorem p_is_word : bindArgs (fnv "is_word" 25 kV doc pm an cdv ct) ⟨[u], []⟩ = pure [(("thing" : Str), u)] := by kernel_rfl
theorem k_is_word : bindArgs (fnv "is_word" 25 kV doc pm an cdv ct) ⟨[], [(("thing" : Str), u)]⟩ = pure [(("thing" : Str), u)] := by kernel_rfl
theorem p_is_figure : bindArgs (fnv "is_figure" 26 kV doc pm an cdv ct) ⟨[u], []⟩ = pure [(("thing" : Str), u)] := by kernel_rfl
theorem k_is_figure : bindArgs (fnv "is_figure" 26 kV doc pm an cdv ct) ⟨[], [(("thing" : Str), u)]⟩ = pure [(("thing" : Str), u)] := by kernel_rfl
theorem p_is_value : bindArgs (fnv "is_value" 27 kV doc pm an cdv ct) ⟨[u], []⟩ = pure [(("thing" : Str), u)] := by kernel_rfl
theorem k_is_value : bindArgs (fnv "is_value" 27 kV doc pm an cdv ct) ⟨[], [(("thing" : Str), u)]⟩ = pure [(("thing" : Str), u)] := by kernel_rfl
theorem p_value_text : bindArgs (fnv "value_text" 28 kV doc pm an cdv ct) ⟨[u], []⟩ = pure [(("value" : Str), u)] := by kernel_rfl
theorem k_value_text : bindArgs (fnv "value_text" 28 kV doc pm an cdv ct) ⟨[], [(("value" : Str), u)]⟩ = pure [(("value" : Str), u)] := by kernel_rfl
theorem p_pieces_of : bindArgs (fnv "pieces_of" 29 kV doc pm an cdv ct) ⟨[u], []⟩ = pure [(("text" : Str), u)] := by kernel_rfl
theorem k_pieces_of : bindArgs (fnv "pieces_of" 29 kV doc pm an cdv ct) ⟨[], [(("text" : Str), u)]⟩ = pure [(("text" : Str), u)] := by kernel_rfl
theorem p_plain_of : bindArgs (fnv "plain_of" 30 kV doc pm an cdv ct) ⟨[u], []⟩ = pure [(("piece" : Str), u)] := by kernel_rfl
theorem k_plain_of : bindArgs (fnv "plain_of" 30 kV doc pm an cdv ct) ⟨[], [(("piece" : Str), u)]⟩ = pure [(("piece" : Str), u)] := by kernel_rfl
theorem p_value_of : bindArgs (fnv "value_of" 31 kV doc pm an cdv ct) ⟨[u], []⟩ = pure [(("pieces" : Str), u)] := by kernel_rfl
theorem k_value_of : bindArgs (fnv "value_of" 31 kV doc pm an cdv ct) ⟨[], [(("pieces" : Str), u)]⟩ = pure [(("pieces" : Str), u)] := by kernel_rfl
theorem p_read_value : bindArgs (fnv "read_value" 32 kV doc pm an cdv ct) ⟨[u], []⟩ = pure [(("text" : Str), u)] := by kernel_rfl
theorem k_read_value : bindArgs (fnv "read_value" 32 kV doc pm an cdv ct) ⟨[], [(("text" : Str), u)]⟩ = pure [(("text" : Str), u)] := by kernel_rfl
theorem p__law_begun : bindArgs (fnv "_law_begun" 34 kV doc pm an cdv ct) ⟨[u], []⟩ = pure [(("script" : Str), u)] := by kernel_rfl
theorem k__law_begun : bindArgs (fnv "_law_begun" 34 kV doc pm an cdv ct) ⟨[], [(("script" : Str), u)]⟩ = pure [(("script" : Str), u)] := by kernel_rfl
theorem p__law_mixed : bindArgs (fnv "_law_mixed" 35 kV doc pm an cdv ct) ⟨[u], []⟩ = pure [(("state" : Str), u)] := by kernel_rfl
theorem k__law_mixed : bindArgs (fnv "_law_mixed" 35 kV doc pm an cdv ct) ⟨[], [(("state" : Str), u)]⟩ = pure [(("state" : Str), u)] := by kernel_rfl
theorem p__law_draw : bindArgs (fnv "_law_draw" 36 kV doc pm an cdv ct) ⟨[u, v], []⟩ = pure [(("state" : Str), u), (("room" : Str), v)] := by kernel_rfl
theorem k__law_draw : bindArgs (fnv "_law_draw" 36 kV doc pm an cdv ct) ⟨[], [(("state" : Str), u), (("room" : Str), v)]⟩ = pure [(("state" : Str), u), (("room" : Str), v)] := by kernel_rfl
theorem p__law_pick : bindArgs (fnv "_law_pick" 37 kV doc pm an cdv ct) ⟨[u, v], []⟩ = pure [(("state" : Str), u), (("some" : Str), v)] := by kernel_rfl
theorem k__law_pick : bindArgs (fnv "_law_pick" 37 kV doc pm an cdv ct) ⟨[], [(("state" : Str), u), (("some" : Str), v)]⟩ = pure [(("state" : Str), u), (("some" : Str), v)] := by kernel_rfl
theorem p__law_plain : bindArgs (fnv "_law_plain" 38 kV doc pm an cdv ct) ⟨[u], []⟩ = pure [(("value" : Str), u)] := by kernel_rfl
theorem k__law_plain : bindArgs (fnv "_law_plain" 38 kV doc pm an cdv ct) ⟨[], [(("value" : Str), u)]⟩ = pure [(("value" : Str), u)] := by kernel_rfl
theorem p__law_is : bindArgs (fnv "_law_is" 39 kV doc pm an cdv ct) ⟨[u, v], []⟩ = pure [(("found" : Str), u), (("due" : Str), v)] := by kernel_rfl
theorem k__law_is : bindArgs (fnv "_law_is" 39 kV doc pm an cdv ct) ⟨[], [(("found" : Str), u), (("due" : Str), v)]⟩ = pure [(("found" : Str), u), (("due" : Str), v)] := by kernel_rfl
theorem p__law_value_text : bindArgs (fnv "_law_value_text" 40 kV doc pm an cdv ct) ⟨[u], []⟩ = pure [(("value" : Str), u)] := by kernel_rfl
theorem k__law_value_text : bindArgs (fnv "_law_value_text" 40 kV doc pm an cdv ct) ⟨[], [(("value" : Str), u)]⟩ = pure [(("value" : Str), u)] := by kernel_rfl
theorem p__law_some_value : bindArgs (fnv "_law_some_value" 43 kV doc pm an cdv ct) ⟨[u, v], []⟩ = pure [(("state" : Str), u), (("deep" : Str), v)] := by kernel_rfl
theorem k__law_some_value : bindArgs (fnv "_law_some_value" 43 kV doc pm an cdv ct) ⟨[], [(("state" : Str), u), (("deep" : Str), v)]⟩ = pure [(("state" : Str), u), (("deep" : Str), v)] := by kernel_rfl
theorem p__law_nested : bindArgs (fnv "_law_nested" 44 kV doc pm an cdv ct) ⟨[u, v], []⟩ = pure [(("many" : Str), u), (("one" : Str), v)] := by kernel_rfl
theorem k__law_nested : bindArgs (fnv "_law_nested" 44 kV doc pm an cdv ct) ⟨[], [(("many" : Str), u), (("one" : Str), v)]⟩ = pure [(("many" : Str), u), (("one" : Str), v)] := by kernel_rfl
theorem p__law_caught : bindArgs (fnv "_law_caught" 41 kV doc pm an cdv ct) ⟨[u], []⟩ = pure [(("action" : Str), u)] := by kernel_rfl
theorem p__law_word : bindArgs (fnv "_law_word" 42 kV doc pm an cdv ct) ⟨[u], []⟩ = pure [(("action" : Str), u)] := by kernel_rfl
theorem p_law : bindArgs (fnv "law" 45 kV doc pm an cdv ct) ⟨[u], []⟩ = pure [(("script" : Str), u)] := by kernel_rfl
theorem s_is_word : FnScope d_is_word.N d_is_word.ps (defScope d_is_word.st) := C8.fnScope_by (by decide +kernel)
theorem s_is_figure : FnScope d_is_figure.N d_is_figure.ps (defScope d_is_figure.st) := C8.fnScope_by (by decide +kernel)
theorem s_is_value : FnScope d_is_value.N d_is_value.ps (defScope d_is_value.st) := C8.fnScope_by (by decide +kernel)
theorem s_value_text : FnScope d_value_text.N d_value_text.ps (defScope d_value_text.st) := C8.fnScope_by (by decide +kernel)
theorem s_pieces_of : FnScope d_pieces_of.N d_pieces_of.ps (defScope d_pieces_of.st) := C8.fnScope_by (by decide +kernel)
theorem s_plain_of : FnScope d_plain_of.N d_plain_of.ps (defScope d_plain_of.st) := C8.fnScope_by (by decide +kernel)
theorem s_value_of : FnScope d_value_of.N d_value_of.ps (defScope d_value_of.st) := C8.fnScope_by (by decide +kernel)
theorem s_read_value : FnScope d_read_value.N d_read_value.ps (defScope d_read_value.st) := C8.fnScope_by (by decide +kernel)
theorem s__law_begun : FnScope d__law_begun.N d__law_begun.ps (defScope d__law_begun.st) := C8.fnScope_by (by decide +kernel)
theorem s__law_mixed : FnScope d__law_mixed.N d__law_mixed.ps (defScope d__law_mixed.st) := C8.fnScope_by (by decide +kernel)
theorem s__law_draw : FnScope d__law_draw.N d__law_draw.ps (defScope d__law_draw.st) := C8.fnScope_by (by decide +kernel)
theorem s__law_pick : FnScope d__law_pick.N d__law_pick.ps (defScope d__law_pick.st) := C8.fnScope_by (by decide +kernel)
theorem s__law_plain : FnScope d__law_plain.N d__law_plain.ps (defScope d__law_plain.st) := C8.fnScope_by (by decide +kernel)
theorem s__law_is : FnScope d__law_is.N d__law_is.ps (defScope d__law_is.st) := C8.fnScope_by (by decide +kernel)
theorem s__law_value_text : FnScope d__law_value_text.N d__law_value_text.ps (defScope d__law_value_text.st) := C8.fnScope_by (by decide +kernel)
theorem s__law_some_value : FnScope d__law_some_value.N d__law_some_value.ps (defScope d__law_some_value.st) := C8.fnScope_by (by decide +kernel)
theorem s__law_nested : FnScope d__law_nested.N d__law_nested.ps (defScope d__law_nested.st) := C8.fnScope_by (by decide +kernel)
theorem s_law : FnScope d_law.N d_law.ps (defScope d_law.st) := C8.fnScope_by (by decide +kernel)
end
section
variable {K : PySem.W.Frag} {mg : Str → Option Value} {f : Str} {D : Def} {fa : Addr} {fd : FuncData}
theorem defOk (F : FunD K f f (defArgs D.st) (defBody D.st) (defScope D.st) [] [] fa fd) (hm : mg f = some (.ref fa))
    (p : ∀ (kV doc pm : Value) (an : Option Addr) (cdv ct : Value) (us : List Value), us.length = D.ps.length → bindArgs (PySem.W.fnOf f f (defArgs D.st) (defBody D.st) (defScope D.st) .none kV doc pm an cdv ct) ⟨us, []⟩ = pure (D.ps.zip us) ∧ bindArgs (PySem.W.fnOf f f (defArgs D.st) (defBody D.st) (defScope D.st) .none kV doc pm an cdv ct) ⟨[], D.ps.zip us⟩ = pure (D.ps.zip us))
    (S : FnScope D.N D.ps (defScope D.st)) (h1 : D.fn.ps = D.ps.length) (h2 : D.fn.n = D.N.length) (ch : chB gi D.N 40 (defScope D.st) D.fn.body (defBody D.st) = true) : DefOk K mg gi 40 f D fa fd := by
  have bk : BindsK K fd D.ps := by
    obtain ⟨oc, od, dV, kV, doc, pm, an, cdv, ct, osl, rfl, lk, hcd, hD, hK⟩ := F.ex
    rcases hD with ⟨_, rfl⟩ | ⟨e, _⟩
    · exact fun s us _ hl => .of_eq (p kV doc pm an cdv ct us hl).2
    · exact absurd rfl e
  exact ⟨hm, He5.fun_of F, F.bindsN fun kV doc pm an cdv ct us hl => (p kV doc pm an cdv ct us hl).1, bk, S, h1, h2, ch⟩
theorem o_is_word (F : FunD K "is_word" "is_word" (defArgs (topS 25)) (defBody (topS 25)) (defScope (topS 25)) [] [] fa fd) (hm : mg "is_word" = some (.ref fa)) : DefOk K mg gi 40 "is_word" d_is_word fa fd :=
  defOk (D := d_is_word) F hm (fun _ _ _ _ _ _ us hl => match us, hl with
    | [_], _ => ⟨p_is_word, k_is_word⟩) s_is_word rfl rfl c_is_word
theorem o_is_figure (F : FunD K "is_figure" "is_figure" (defArgs (topS 26)) (defBody (topS 26)) (defScope (topS 26)) [] [] fa fd) (hm : mg "is_figure" = some (.ref fa)) : DefOk K mg gi 40 "is_figure" d_is_figure fa fd :=
  defOk (D := d_is_figure) F hm (fun _ _ _ _ _ _ us hl => match us, hl with
    | [_], _ => ⟨p_is_figure, k_is_figure⟩) s_is_figure rfl rfl c_is_figure
theorem o_is_value (F : FunD K "is_value" "is_value" (defArgs (topS 27)) (defBody (topS 27)) (defScope (topS 27)) [] [] fa fd) (hm : mg "is_value" = some (.ref fa)) : DefOk K mg gi 40 "is_value" d_is_value fa fd :=
  defOk (D := d_is_value) F hm (fun _ _ _ _ _ _ us hl => match us, hl with
    | [_], _ => ⟨p_is_value, k_is_value⟩) s_is_value rfl rfl c_is_value
theorem o_value_text (F : FunD K "value_text" "value_text" (defArgs (topS 28)) (defBody (topS 28)) (defScope (topS 28)) [] [] fa fd) (hm : mg "value_text" = some (.ref fa)) : DefOk K mg gi 40 "value_text" d_value_text fa fd :=
  defOk (D := d_value_text) F hm (fun _ _ _ _ _ _ us hl => match us, hl with
    | [_], _ => ⟨p_value_text, k_value_text⟩) s_value_text rfl rfl c_value_text
theorem o_pieces_of (F : FunD K "pieces_of" "pieces_of" (defArgs (topS 29)) (defBody (topS 29)) (defScope (topS 29)) [] [] fa fd) (hm : mg "pieces_of" = some (.ref fa)) : DefOk K mg gi 40 "pieces_of" d_pieces_of fa fd :=
  defOk (D := d_pieces_of) F hm (fun _ _ _ _ _ _ us hl => match us, hl with
    | [_], _ => ⟨p_pieces_of, k_pieces_of⟩) s_pieces_of rfl rfl c_pieces_of
theorem o_plain_of (F : FunD K "plain_of" "plain_of" (defArgs (topS 30)) (defBody (topS 30)) (defScope (topS 30)) [] [] fa fd) (hm : mg "plain_of" = some (.ref fa)) : DefOk K mg gi 40 "plain_of" d_plain_of fa fd :=
  defOk (D := d_plain_of) F hm (fun _ _ _ _ _ _ us hl => match us, hl with
    | [_], _ => ⟨p_plain_of, k_plain_of⟩) s_plain_of rfl rfl c_plain_of
theorem o_value_of (F : FunD K "value_of" "value_of" (defArgs (topS 31)) (defBody (topS 31)) (defScope (topS 31)) [] [] fa fd) (hm : mg "value_of" = some (.ref fa)) : DefOk K mg gi 40 "value_of" d_value_of fa fd :=
  defOk (D := d_value_of) F hm (fun _ _ _ _ _ _ us hl => match us, hl with
    | [_], _ => ⟨p_value_of, k_value_of⟩) s_value_of rfl rfl c_value_of
theorem o_read_value (F : FunD K "read_value" "read_value" (defArgs (topS 32)) (defBody (topS 32)) (defScope (topS 32)) [] [] fa fd) (hm : mg "read_value" = some (.ref fa)) : DefOk K mg gi 40 "read_value" d_read_value fa fd :=
  defOk (D := d_read_value) F hm (fun _ _ _ _ _ _ us hl => match us, hl with
    | [_], _ => ⟨p_read_value, k_read_value⟩) s_read_value rfl rfl c_read_value
theorem o__law_begun (F : FunD K "_law_begun" "_law_begun" (defArgs (topS 34)) (defBody (topS 34)) (defScope (topS 34)) [] [] fa fd) (hm : mg "_law_begun" = some (.ref fa)) : DefOk K mg gi 40 "_law_begun" d__law_begun fa fd :=
  defOk (D := d__law_begun) F hm (fun _ _ _ _ _ _ us hl => match us, hl with
    | [_], _ => ⟨p__law_begun, k__law_begun⟩) s__law_begun rfl rfl c__law_begun
theorem o__law_mixed (F : FunD K "_law_mixed" "_law_mixed" (defArgs (topS 35)) (defBody (topS 35)) (defScope (topS 35)) [] [] fa fd) (hm : mg "_law_mixed" = some (.ref fa)) : DefOk K mg gi 40 "_law_mixed" d__law_mixed fa fd :=
  defOk (D := d__law_mixed) F hm (fun _ _ _ _ _ _ us hl => match us, hl with
    | [_], _ => ⟨p__law_mixed, k__law_mixed⟩) s__law_mixed rfl rfl c__law_mixed
theorem o__law_draw (F : FunD K "_law_draw" "_law_draw" (defArgs (topS 36)) (defBody (topS 36)) (defScope (topS 36)) [] [] fa fd) (hm : mg "_law_draw" = some (.ref fa)) : DefOk K mg gi 40 "_law_draw" d__law_draw fa fd :=
  defOk (D := d__law_draw) F hm (fun _ _ _ _ _ _ us hl => match us, hl with
    | [_, _], _ => ⟨p__law_draw, k__law_draw⟩) s__law_draw rfl rfl c__law_draw
theorem o__law_pick (F : FunD K "_law_pick" "_law_pick" (defArgs (topS 37)) (defBody (topS 37)) (defScope (topS 37)) [] [] fa fd) (hm : mg "_law_pick" = some (.ref fa)) : DefOk K mg gi 40 "_law_pick" d__law_pick fa fd :=
  defOk (D := d__law_pick) F hm (fun _ _ _ _ _ _ us hl => match us, hl with
    | [_, _], _ => ⟨p__law_pick, k__law_pick⟩) s__law_pick rfl rfl c__law_pick
theorem o__law_plain (F : FunD K "_law_plain" "_law_plain" (defArgs (topS 38)) (defBody (topS 38)) (defScope (topS 38)) [] [] fa fd) (hm : mg "_law_plain" = some (.ref fa)) : DefOk K mg gi 40 "_law_plain" d__law_plain fa fd :=
  defOk (D := d__law_plain) F hm (fun _ _ _ _ _ _ us hl => match us, hl with
    | [_], _ => ⟨p__law_plain, k__law_plain⟩) s__law_plain rfl rfl c__law_plain
theorem o__law_is (F : FunD K "_law_is" "_law_is" (defArgs (topS 39)) (defBody (topS 39)) (defScope (topS 39)) [] [] fa fd) (hm : mg "_law_is" = some (.ref fa)) : DefOk K mg gi 40 "_law_is" d__law_is fa fd :=
  defOk (D := d__law_is) F hm (fun _ _ _ _ _ _ us hl => match us, hl with
    | [_, _], _ => ⟨p__law_is, k__law_is⟩) s__law_is rfl rfl c__law_is
theorem o__law_value_text (F : FunD K "_law_value_text" "_law_value_text" (defArgs (topS 40)) (defBody (topS 40)) (defScope (topS 40)) [] [] fa fd) (hm : mg "_law_value_text" = some (.ref fa)) : DefOk K mg gi 40 "_law_value_text" d__law_value_text fa fd :=
  defOk (D := d__law_value_text) F hm (fun _ _ _ _ _ _ us hl => match us, hl with
    | [_], _ => ⟨p__law_value_text, k__law_value_text⟩) s__law_value_text rfl rfl c__law_value_text
theorem o__law_some_value (F : FunD K "_law_some_value" "_law_some_value" (defArgs (topS 43)) (defBody (topS 43)) (defScope (topS 43)) [] [] fa fd) (hm : mg "_law_some_value" = some (.ref fa)) : DefOk K mg gi 40 "_law_some_value" d__law_some_value fa fd :=
  defOk (D := d__law_some_value) F hm (fun _ _ _ _ _ _ us hl => match us, hl with
    | [_, _], _ => ⟨p__law_some_value, k__law_some_value⟩) s__law_some_value rfl rfl c__law_some_value
theorem o__law_nested (F : FunD K "_law_nested" "_law_nested" (defArgs (topS 44)) (defBody (topS 44)) (defScope (topS 44)) [] [] fa fd) (hm : mg "_law_nested" = some (.ref fa)) : DefOk K mg gi 40 "_law_nested" d__law_nested fa fd :=
  defOk (D := d__law_nested) F hm (fun _ _ _ _ _ _ us hl => match us, hl with
    | [_, _], _ => ⟨p__law_nested, k__law_nested⟩) s__law_nested rfl rfl c__law_nested
end
end Ev.K88
end

section
set_option Elab.async false
set_option linter.all false
set_option maxRecDepth 100000
set_option maxHeartbeats 2000000
/-! LwF2: what the head tells, for the law. -/
namespace Ev.K88
open PySem PySem.Spec PyProof.Rows L2 Ev Hd He LamX
abbrev Pk : Program := PySem.Challenge.pw_orderbook_k88_values_written
section
variable {K : PySem.W.Frag} {h : Heap} {mg : Str → Option Value} {w : World} {base : Heap}
abbrev Says (K : PySem.W.Frag) (h : Heap) : Prop := SaysN fa fn tf ini iv ex h K
theorem all_defs (X : K.In h) (G : h.Ns mainGlobals mg) (c : Says K h) : ∀ f D, prog.lookup f = some D → ∃ fa fd, DefOk K mg gi 40 f D fa fd := by
  intro f D hl
  have hm := PySem.mem_of_lookup hl
  simp only [prog, List.mem_cons, List.not_mem_nil, or_false, Prod.mk.injEq] at hm
  rcases hm with ⟨rfl, rfl⟩ | ⟨rfl, rfl⟩ | ⟨rfl, rfl⟩ | ⟨rfl, rfl⟩ | ⟨rfl, rfl⟩ | ⟨rfl, rfl⟩ | ⟨rfl, rfl⟩ | ⟨rfl, rfl⟩ | ⟨rfl, rfl⟩ | ⟨rfl, rfl⟩ | ⟨rfl, rfl⟩ | ⟨rfl, rfl⟩ | ⟨rfl, rfl⟩ | ⟨rfl, rfl⟩ | ⟨rfl, rfl⟩ | ⟨rfl, rfl⟩ | ⟨rfl, rfl⟩
  · obtain ⟨fd, F⟩ := c.d.def_ 0 (d := dd "is_word" 25) rfl
    exact ⟨_, fd, o_is_word F (glo_ok X G (c.d.fact 0 (f := .glo "is_word") rfl))⟩
  · obtain ⟨fd, F⟩ := c.d.def_ 1 (d := dd "is_figure" 26) rfl
    exact ⟨_, fd, o_is_figure F (glo_ok X G (c.d.fact 1 (f := .glo "is_figure") rfl))⟩
  · obtain ⟨fd, F⟩ := c.d.def_ 2 (d := dd "is_value" 27) rfl
    exact ⟨_, fd, o_is_value F (glo_ok X G (c.d.fact 2 (f := .glo "is_value") rfl))⟩
  · obtain ⟨fd, F⟩ := c.d.def_ 3 (d := dd "value_text" 28) rfl
    exact ⟨_, fd, o_value_text F (glo_ok X G (c.d.fact 3 (f := .glo "value_text") rfl))⟩
  · obtain ⟨fd, F⟩ := c.d.def_ 4 (d := dd "pieces_of" 29) rfl
    exact ⟨_, fd, o_pieces_of F (glo_ok X G (c.d.fact 4 (f := .glo "pieces_of") rfl))⟩
  · obtain ⟨fd, F⟩ := c.d.def_ 5 (d := dd "plain_of" 30) rfl
    exact ⟨_, fd, o_plain_of F (glo_ok X G (c.d.fact 5 (f := .glo "plain_of") rfl))⟩
  · obtain ⟨fd, F⟩ := c.d.def_ 6 (d := dd "value_of" 31) rfl
    exact ⟨_, fd, o_value_of F (glo_ok X G (c.d.fact 6 (f := .glo "value_of") rfl))⟩
  · obtain ⟨fd, F⟩ := c.d.def_ 7 (d := dd "read_value" 32) rfl
    exact ⟨_, fd, o_read_value F (glo_ok X G (c.d.fact 7 (f := .glo "read_value") rfl))⟩
  · obtain ⟨fd, F⟩ := c.d.def_ 8 (d := dd "_law_begun" 34) rfl
    exact ⟨_, fd, o__law_begun F (glo_ok X G (c.d.fact 8 (f := .glo "_law_begun") rfl))⟩
  · obtain ⟨fd, F⟩ := c.d.def_ 9 (d := dd "_law_mixed" 35) rfl
    exact ⟨_, fd, o__law_mixed F (glo_ok X G (c.d.fact 9 (f := .glo "_law_mixed") rfl))⟩
  · obtain ⟨fd, F⟩ := c.d.def_ 10 (d := dd "_law_draw" 36) rfl
    exact ⟨_, fd, o__law_draw F (glo_ok X G (c.d.fact 10 (f := .glo "_law_draw") rfl))⟩
  · obtain ⟨fd, F⟩ := c.d.def_ 11 (d := dd "_law_pick" 37) rfl
    exact ⟨_, fd, o__law_pick F (glo_ok X G (c.d.fact 11 (f := .glo "_law_pick") rfl))⟩
  · obtain ⟨fd, F⟩ := c.d.def_ 12 (d := dd "_law_plain" 38) rfl
    exact ⟨_, fd, o__law_plain F (glo_ok X G (c.d.fact 12 (f := .glo "_law_plain") rfl))⟩
  · obtain ⟨fd, F⟩ := c.d.def_ 13 (d := dd "_law_is" 39) rfl
    exact ⟨_, fd, o__law_is F (glo_ok X G (c.d.fact 13 (f := .glo "_law_is") rfl))⟩
  · obtain ⟨fd, F⟩ := c.d.def_ 14 (d := dd "_law_value_text" 40) rfl
    exact ⟨_, fd, o__law_value_text F (glo_ok X G (c.d.fact 14 (f := .glo "_law_value_text") rfl))⟩
  · obtain ⟨fd, F⟩ := c.d.def_ 17 (d := dd "_law_some_value" 43) rfl
    exact ⟨_, fd, o__law_some_value F (glo_ok X G (c.d.fact 17 (f := .glo "_law_some_value") rfl))⟩
  · obtain ⟨fd, F⟩ := c.d.def_ 18 (d := dd "_law_nested" 44) rfl
    exact ⟨_, fd, o__law_nested F (glo_ok X G (c.d.fact 18 (f := .glo "_law_nested") rfl))⟩
/-- NoText's __init__ -/
theorem init_txt : ∃ a1 a2 a3 a4 a5 a6 a7 a8 a9 a10 : Pos, defBody sInit = Ev.initBody "line" a1 a2 a3 a4 a5 a6 a7 a8 a9 a10 ∧ (a3.endLine == a5.line) = true := by
  refine ⟨_, _, _, _, _, _, _, _, _, _, rfl, ?_⟩
  decide +kernel
theorem init_arg : ∃ ar, ((defArgs sInit).posonlyargs ++ (defArgs sInit).args).head? = some ar ∧ ar.arg = "self" := ⟨_, rfl, by decide +kernel⟩
theorem more_parts (c : Says K h) : oexB K (ga K "NoText") = true ∧ initB file K (ga K "NoText") (ini K) "NoText.__init__" = true ∧ oneB K (ga K "NoText") (ini K) "line" = true ∧ wordB K (ga K "OrderError") (ga K "Used") (ga K "TooMany") (ga K "NoText") = true ∧ (cT K ("law", none)).2 ≠ (cT K ("_law_word", none)).2 := by
  have q := c.more
  unfold ex at q
  simp only [Bool.and_eq_true, Bool.not_eq_true', decide_eq_false_iff_not] at q
  obtain ⟨q1, q2, q3, q4⟩ := q
  first
    | exact ⟨q1, q2, q3.1, q3.2, q4⟩
    | exact ⟨q1, q2, q3, q4.1, q4.2⟩
theorem init_says (X : K.In h) (G : h.Ns mainGlobals mg) (c : Says K h) : ∃ fd : FuncData, Ev.InitF Pk K mg (ga K "NoText") (ini K) "line" fd ∧ Binds K fd ["self", "text", "line"] [] ∧ PySem.W.findIn K (.ref (ga K "NoText")) "__init__" = some (some (.ref (ini K))) ∧ PySem.W.typeIn K (.ref (ini K)) = some (.type "function") := by
  obtain ⟨q1, q2, q3, _, _⟩ := more_parts c
  obtain ⟨fd, h1, ⟨dV, kV, doc, pm, ct, an, cc, kc, hD, e⟩, h3, h4⟩ := init_of (P := Pk) (mg := mg) (fld := "line") c.i q2 q3 q1 (by kernel_rfl) init_txt init_arg (NdefX.nscope_by (by decide +kernel)) (by decide +kernel) (by decide +kernel) (free_ok X G (c.d.fact 39 (f := .free "super") rfl)) (by decide +kernel)
  refine ⟨fd, h1, ?_, h3, h4⟩
  rcases hD with ⟨z, _⟩ | ⟨_, T, o, its, m, rfl, lT, oT, rT⟩
  · cases z
  · intro s us X hl
    have l1 : its.length = 1 := rT.length.symm
    obtain ⟨a, b, d, rfl⟩ : ∃ a b d, us = [a, b, d] := match us, (show us.length = 3 by simpa using hl) with
      | [a, b, d], _ => ⟨a, b, d, rfl⟩
    obtain ⟨i, rfl⟩ : ∃ i, its = [i] := match its, l1 with
      | [i], _ => ⟨i, rfl⟩
    refine BindsTo.of_looks fun M => ?_
    obtain ⟨k, e1, e2⟩ : ∃ k, bindArgs fd ⟨[a, b, d], []⟩ = seqItems? (.ref T) >>= k ∧ k (some [i].toArray) = pure ((["self", "text", "line"] : List Str).zip ([a, b, d] ++ [])) := by
      rw [e]
      exact ⟨_, rfl, rfl⟩
    rw [e1]
    exact looks_items X lT oT (.of_pure e2)
def ca (K : PySem.W.Frag) (x : Str) : Option Addr := if x = "NoText" then some (ga K "NoText") else none
theorem all_names (X : K.In h) (G : h.Ns mainGlobals mg) (c : Says K h) : ∀ x g, gi x = some g → (∃ D, g = .fn D.ps ∧ prog.lookup x = some D) ∨ GSt Pk w K mg base (ca K) x g := by
  intro x g hl
  have hm := PySem.mem_of_lookup (show gl.lookup x = some g from hl)
  simp only [gl, ge, List.mem_cons, List.not_mem_nil, or_false, Prod.mk.injEq] at hm
  rcases hm with ⟨rfl, rfl⟩ | ⟨rfl, rfl⟩ | ⟨rfl, rfl⟩ | ⟨rfl, rfl⟩ | ⟨rfl, rfl⟩ | ⟨rfl, rfl⟩ | ⟨rfl, rfl⟩ | ⟨rfl, rfl⟩ | ⟨rfl, rfl⟩ | ⟨rfl, rfl⟩ | ⟨rfl, rfl⟩ | ⟨rfl, rfl⟩ | ⟨rfl, rfl⟩ | ⟨rfl, rfl⟩ | ⟨rfl, rfl⟩ | ⟨rfl, rfl⟩ | ⟨rfl, rfl⟩ | ⟨rfl, rfl⟩ | ⟨rfl, rfl⟩ | ⟨rfl, rfl⟩ | ⟨rfl, rfl⟩ | ⟨rfl, rfl⟩ | ⟨rfl, rfl⟩ | ⟨rfl, rfl⟩ | ⟨rfl, rfl⟩ | ⟨rfl, rfl⟩ | ⟨rfl, rfl⟩ | ⟨rfl, rfl⟩ | ⟨rfl, rfl⟩ | ⟨rfl, rfl⟩ | ⟨rfl, rfl⟩ | ⟨rfl, rfl⟩ | ⟨rfl, rfl⟩ | ⟨rfl, rfl⟩ | ⟨rfl, rfl⟩ | ⟨rfl, rfl⟩ | ⟨rfl, rfl⟩ | ⟨rfl, rfl⟩
  · exact .inl ⟨d_is_word, rfl, by kernel_rfl⟩
  · exact .inl ⟨d_is_figure, rfl, by kernel_rfl⟩
  · exact .inl ⟨d_is_value, rfl, by kernel_rfl⟩
  · exact .inl ⟨d_value_text, rfl, by kernel_rfl⟩
  · exact .inl ⟨d_pieces_of, rfl, by kernel_rfl⟩
  · exact .inl ⟨d_plain_of, rfl, by kernel_rfl⟩
  · exact .inl ⟨d_value_of, rfl, by kernel_rfl⟩
  · exact .inl ⟨d_read_value, rfl, by kernel_rfl⟩
  · exact .inl ⟨d__law_begun, rfl, by kernel_rfl⟩
  · exact .inl ⟨d__law_mixed, rfl, by kernel_rfl⟩
  · exact .inl ⟨d__law_draw, rfl, by kernel_rfl⟩
  · exact .inl ⟨d__law_pick, rfl, by kernel_rfl⟩
  · exact .inl ⟨d__law_plain, rfl, by kernel_rfl⟩
  · exact .inl ⟨d__law_is, rfl, by kernel_rfl⟩
  · exact .inl ⟨d__law_value_text, rfl, by kernel_rfl⟩
  · exact .inl ⟨d__law_some_value, rfl, by kernel_rfl⟩
  · exact .inl ⟨d__law_nested, rfl, by kernel_rfl⟩
  · obtain ⟨t, e⟩ := int_ok X G (c.d.fact 40 (f := .int "MOST_DEEP" 60) rfl)
    exact .inr ⟨_, .int 60, e, ⟨t, rfl⟩, fun _ => .int _⟩
  · obtain ⟨t, e⟩ := int_ok X G (c.d.fact 41 (f := .int "MOST_FIGURES" 12) rfl)
    exact .inr ⟨_, .int 12, e, ⟨t, rfl⟩, fun _ => .int _⟩
  · obtain ⟨t, e⟩ := int_ok X G (c.d.fact 42 (f := .int "MOST_NUMBER" 1000000000000) rfl)
    exact .inr ⟨_, .int 1000000000000, e, ⟨t, rfl⟩, fun _ => .int _⟩
  · obtain ⟨t, e⟩ := str_ok X G (c.d.fact 43 (f := .str "SMALL" "abcdefghijklmnopqrstuvwxyz") rfl)
    exact .inr ⟨_, .str "abcdefghijklmnopqrstuvwxyz", e, ⟨t, rfl⟩, fun _ => .str _⟩
  · obtain ⟨t, e⟩ := str_ok X G (c.d.fact 44 (f := .str "FIGURES" "0123456789") rfl)
    exact .inr ⟨_, .str "0123456789", e, ⟨t, rfl⟩, fun _ => .str _⟩
  · obtain ⟨q1, _⟩ := more_parts c
    obtain ⟨fd, h1, h2, h3, h4⟩ := init_says X G c
    exact .inr ⟨ga K "NoText", ini K, fd, "line", if_pos rfl, by kernel_rfl, glo_ok X G (c.d.fact 20 (f := .glo "NoText") rfl), by decide, h1, oexB_ok q1, h3, h4, h2⟩
  · exact .inr ⟨free_ok X G (c.d.fact 24 (f := .free "isinstance") rfl), by decide +kernel, by decide, by decide⟩
  · exact .inr ⟨free_ok X G (c.d.fact 25 (f := .free "len") rfl), by decide +kernel, by decide, by decide⟩
  · exact .inr ⟨free_ok X G (c.d.fact 26 (f := .free "abs") rfl), by decide +kernel, by decide, by decide⟩
  · exact .inr ⟨free_ok X G (c.d.fact 27 (f := .free "all") rfl), by decide +kernel, by decide, by decide⟩
  · exact .inr ⟨free_ok X G (c.d.fact 28 (f := .free "repr") rfl), by decide +kernel, by decide, by decide⟩
  · exact .inr ⟨free_ok X G (c.d.fact 29 (f := .free "min") rfl), by decide +kernel, by decide, by decide⟩
  · exact .inr ⟨free_ok X G (c.d.fact 30 (f := .free "int") rfl), by decide +kernel, by decide, by decide⟩
  · exact .inr ⟨free_ok X G (c.d.fact 31 (f := .free "str") rfl), by decide +kernel, by decide, by decide⟩
  · exact .inr ⟨free_ok X G (c.d.fact 32 (f := .free "bool") rfl), by decide +kernel, by decide, by decide⟩
  · exact .inr ⟨free_ok X G (c.d.fact 33 (f := .free "tuple") rfl), by decide +kernel, by decide, by decide⟩
  · exact .inr ⟨free_ok X G (c.d.fact 34 (f := .free "list") rfl), by decide +kernel, by decide, by decide⟩
  · exact .inr ⟨free_ok X G (c.d.fact 35 (f := .free "dict") rfl), by decide +kernel, by decide, by decide⟩
  · exact .inr ⟨free_ok X G (c.d.fact 36 (f := .free "range") rfl), by decide +kernel, by decide, by decide⟩
  · exact .inr ⟨free_ok X G (c.d.fact 37 (f := .free "enumerate") rfl), by decide +kernel, by decide, by decide⟩
  · exact .inr ⟨free_ok X G (c.d.fact 38 (f := .free "reversed") rfl), by decide +kernel, by decide, by decide⟩
theorem funC {x : Str} {st : Stmt} {fd : FuncData} (F : FunD K x x (defArgs st) (defBody st) (defScope st) [] [] (fAd K (x, none)) fd) : Wd.FunC K x x st (fAd K (x, none)) fd (cT K (x, none)).1 := by
  obtain ⟨oc, od, dV, kV, doc, pm, an, cdv, ct, osl, rfl, lk, hcd, hD, hK⟩ := F.ex
  obtain ⟨cA, rfl⟩ := codeIn_ref hcd
  have e : (cT K (x, none)).1 = cA := codeOf_eq lk rfl
  rw [e]
  rcases hD with ⟨_, rfl⟩ | ⟨e, _⟩
  · exact ⟨⟨oc, od, kV, doc, pm, an, ct, osl, rfl, lk, hcd⟩, F.kp⟩
  · exact absurd rfl e
theorem caught_txt : Wd.CaughtTxt "_law_caught" (defScope (topS 41)) (defBody (topS 41)) := by
  refine ⟨⟨_, _, _, _, _, _, _, _, _, _, _, _, _, _, _, _, _, _, _, _, _, _, _, _, _, ?_, rfl⟩, C8.fnScope_by (by decide +kernel), by decide +kernel, by decide +kernel, by decide +kernel⟩
  decide +kernel
theorem word_txt : Wd.WordTxt (defScope (topS 42)) (defBody (topS 42)) := by
  refine ⟨⟨C8.fnScope_by (by decide +kernel), by decide +kernel, by decide +kernel, by decide +kernel, by decide +kernel, by decide +kernel, by decide +kernel, by decide +kernel⟩, _, _, _, _, _, _, _, _, _, _, _, _, _, _, _, _, _, _, _, _, _, _, _, _, _, _, _, _, _, _, _, _, _, _, _, _, _, _, _, _, _, _, _, _, _, _, _, _, _, _, _, rfl, ?_, ?_, ?_, ?_, ?_⟩
  · decide +kernel
  · exact lamS_by (by decide +kernel)
  · rfl
  · exact .inr (.inr (by decide +kernel))
  · exact .inr (.inr (by decide +kernel))
theorem caught_says (X : K.In h) (G : h.Ns mainGlobals mg) (c : Says K h) : Wd.CaughtDef K mg (ga K "OrderError") := by
  obtain ⟨fd, F⟩ := c.d.def_ 15 (d := dd "_law_caught" 41) rfl
  refine ⟨⟨topS 41, _, fd, He5.fun_of F, F.bindsN fun _ _ _ _ _ _ us hl => match us, hl with
    | [_], _ => p__law_caught, glo_ok X G (c.d.fact 15 (f := .glo "_law_caught") rfl), caught_txt⟩, glo_ok X G (c.d.fact 23 (f := .glo "OrderError") rfl)⟩
theorem word_says (X : K.In h) (G : h.Ns mainGlobals mg) (c : Says K h) (T : TabB base mg (cT K ("_law_word", none)).1 (cT K ("_law_word", none)).2) : Wd.WordDef K mg base (ga K "OrderError") (ga K "Used") (ga K "TooMany") (ga K "NoText") (cT K ("_law_word", none)).2 := by
  obtain ⟨_, _, _, q, _⟩ := more_parts c
  obtain ⟨fd, F⟩ := c.d.def_ 16 (d := dd "_law_word" 42) rfl
  refine ⟨wordB_ok q (glo_ok X G (c.d.fact 21 (f := .glo "Used") rfl)) (glo_ok X G (c.d.fact 22 (f := .glo "TooMany") rfl)) (glo_ok X G (c.d.fact 20 (f := .glo "NoText") rfl)) (free_ok X G (c.d.fact 24 (f := .free "isinstance") rfl)) (by decide +kernel), caught_says X G c,
    topS 42, _, _, fd, funC F, F.bindsN fun _ _ _ _ _ _ us hl => match us, hl with
    | [_], _ => p__law_word, glo_ok X G (c.d.fact 16 (f := .glo "_law_word") rfl), word_txt, T⟩
end
end Ev.K88
end

section
set_option Elab.async false
set_option linter.all false
set_option maxRecDepth 100000
set_option maxHeartbeats 2000000
/-! LwF3: the law's promise, from the head's facts. -/
namespace Ev.K88
open PySem PySem.Spec PyProof.Rows L2 Ev Hd He LamX
section
variable {K : PySem.W.Frag} {h : Heap} {mg : Str → Option Value} {w : World} {base : Heap} {PL PW : Addr}
abbrev spK (K : PySem.W.Frag) (PL PW : Addr) : Sp := spL K (ΓL PL PW) 100000 d_law 11 12 PL PW
theorem pt : prog.lookup ("%tab" : Str) = none := by decide +kernel
theorem reps_ints {Z : Hp} (ns : List Int) : RepPs K Z (ns.map P.int) (ns.map V.int) := RepPs.ints ns
theorem asked {H : Hp} {a : Addr} {ns : List Int} (hl : ns.length ≤ 1000) (n : PL ≠ PW) (h1 : H PL = some (.tbl #[])) (h2 : H PW = some (.tbl #[])) (S : SqL K H a (ns.map V.int)) (kP : K.lookup a = none ∨ True) :
    spK K PL PW [.ref a] H (fun v _ => v = .bl true) fun _ _ _ => False := by
  obtain ⟨e', hev⟩ := law_ev (PL := PL) (PW := PW) hl
  let Z : Hp := fun b => if b = PL ∨ b = PW then none else H b
  have zH : ∀ {b : Addr} {o : HO}, H b = some o → o ≠ .tbl #[] → Z b = some o := fun {b o} e hn => by
    show (if b = PL ∨ b = PW then none else H b) = some o
    rw [if_neg]
    · exact e
    · rintro (rfl | rfl)
      · rw [h1] at e; cases e; exact hn rfl
      · rw [h2] at e; cases e; exact hn rfl
  have ex : Ex Z H := fun b o e => by
    have e : (if b = PL ∨ b = PW then none else H b) = some o := e
    split at e
    · cases e
    · exact e
  have SZ : SqL K Z a (ns.map V.int) := by
    rcases S with (e | ⟨o, e⟩) | e
    · exact .inl (.inl (zH e (by simp)))
    · exact .inl (.inr ⟨o, zH e (by simp)⟩)
    · exact .inr e
  have tb : ∀ {P : Addr} {q : Str}, H P = some (.tbl #[]) → RepD K Z H (.tab P q) (.ref P) [P] := fun {P q} e => .tab e trivial fun pos cv hc => by cases hc
  refine ⟨rfl, Z, [some (.p (.fl (ns.map P.int))), none, none, none, none, none, none, none, none, none, none, some (dL PL), some (dW PW)], [[], [], [], [], [], [], [], [], [], [], [], [PL], [PW]], e', ⟨ex, ?_, ?_, ?_⟩, hev, fun _ => rfl⟩
  · exact .so (.p (.fl SZ (reps_ints ns))) (.no _ (.no _ (.no _ (.no _ (.no _ (.no _ (.no _ (.no _ (.no _ (.no _ (.so (tb h1) (.so (tb h2) .nil))))))))))))
  · simp [n]
  · intro b hb
    simp only [List.flatten_cons, List.flatten_nil, List.nil_append, List.mem_append, List.mem_cons, List.not_mem_nil, or_false] at hb
    exact if_pos hb
theorem no1 : ¬ Vis (defScope d_law.st) "%1" := by
  rintro (e | e | e)
  · exact absurd e (by decide +kernel)
  · exact absurd e (by decide +kernel)
  · exact absurd e (by decide +kernel)
theorem no2 : ¬ Vis (defScope d_law.st) "%2" := by
  rintro (e | e | e)
  · exact absurd e (by decide +kernel)
  · exact absurd e (by decide +kernel)
  · exact absurd e (by decide +kernel)
theorem law_says (X : K.In h) (G : h.Ns mainGlobals mg) (c : Says K h) :
    ∃ fd : FuncData, (∀ (s : Shared) (u : Value), BindsTo s fd ⟨[u], []⟩ [("script", u)]) ∧
      ∀ base : Heap, (∀ p ∈ [cT K ("law", none), cT K ("_law_word", none)], TabB base mg p.1 p.2) → FnG Pk w K mg base 77 (ga K "law") fd ["script"] (spK K (cT K ("law", none)).2 (cT K ("_law_word", none)).2) := by
  obtain ⟨fd, F⟩ := c.d.def_ 19 (d := dd "law" 45) rfl
  have b := FunD.bindsA (ps := ["script"]) F fun _ _ _ _ _ _ us hl => match us, hl with
    | [_], _ => p_law
  refine ⟨fd, fun s u => b s [u] rfl, fun base tabs => ?_⟩
  have Tl := tabs (cT K ("law", none)) (by simp)
  have Tw := tabs (cT K ("_law_word", none)) (by simp)
  exact law_ok (k := 70) (F := 100000) (giL := giL) (n1 := "%1") (n2 := "%2") (all_defs X G c) (all_names (base := base) X G c) pt (D := d_law) (f := "law") (qual := "law") (funC F) s_law (word_says X G c Tw) Tl (if_pos rfl) (fun x => rfl) c_law rfl rfl no1 no2
end
open PySem.W in
theorem law_walks : PySem.W.WalkO (view Hd.R.prog [45]) Hd.loose (XL (view Hd.R.prog [45]) []) Hd.hk.says (PySem.Challenge.rw_orderbook_k88_values_written).row.toRowW (HandSHeadRun.topDef Hd.R.prog 45) [] (fun f vs => PySem.call f vs) := by
  refine Att.attach_callB (l := PySem.Challenge.rw_orderbook_k88_values_written) (n := 63) rfl (by kernel_rfl) fun w s₀ s₁ mg mb fa o pm cd doc a vs ns G Y ho hd hcd hmg0 hobj hints hlen hbits hg => ?_
  obtain ⟨K, KX, c⟩ := Y
  have hmg : mg ("law" : PySem.Str) = some (.ref fa) := by
    have e : (HandSHeadRun.topDef Hd.R.prog 45).name = ("law" : PySem.Str) := by kernel_rfl
    rw [← e]
    exact hmg0
  have ea := hmg.symm.trans (He.glo_ok KX G.T.g (c.d.fact 19 (f := .glo "law") rfl))
  cases ea
  obtain ⟨_, _, _, _, hne⟩ := more_parts c
  obtain ⟨fd, hb, hF⟩ := law_says (w := w) KX G.T.g c
  have mem : ∀ p ∈ [cT K ("law", none), cT K ("_law_word", none)], ∃ q ∈ Hd.tf, p = cT K q := fun p hp => by
    simp only [List.mem_cons, List.not_mem_nil, or_false] at hp
    rcases hp with rfl | rfl
    · exact ⟨("law", none), by simp [Hd.tf], rfl⟩
    · exact ⟨("_law_word", none), by simp [Hd.tf], rfl⟩
  refine callG (cs := [cT K ("law", none), cT K ("_law_word", none)]) (k := 77) KX G.T.g G.T.b G.T.builtins G.T.nolimit hg (fun p hp => ?_) (fun p hp => ?_) (fun p hp => ?_) G.T.bmain hobj hints (Nat.le_trans hlen (by decide)) ⟨rfl, by decide, by decide⟩ (fun base _ _ tabs => hF base tabs) hb fun H hT hS => ?_
  · obtain ⟨q, hq, rfl⟩ := mem p hp
    exact c.empty q hq
  · obtain ⟨q, hq, rfl⟩ := mem p hp
    exact c.out q hq
  · obtain ⟨q, hq, rfl⟩ := mem p hp
    exact codeHd_of_K KX (c.hd q hq)
  · exact asked (Nat.le_trans hlen (by decide)) hne (hT _ (by simp)) (hT _ (by simp)) hS (.inr trivial)
end Ev.K88
end

section
set_option Elab.async false
set_option linter.all false
set_option maxRecDepth 100000
set_option maxHeartbeats 0
/-! LwG: the law holds. -/
open PySem PySem.W PySem.Calls PyProof.Rows
theorem PySem.Challenge.cw_orderbook_k88_values_written_holds : PySem.Challenge.rw_orderbook_k88_values_written.Holds := by
  w_on; o_law
  refine HandSHeadRun.head_any (r := Hd.R) (q := view Hd.R.prog [45]) (H := Hd.hk) (ob := Hd.ob) (M := 20000) (loose := Hd.loose) (d := HandSHeadRun.topDef Hd.R.prog 45) (kwd := []) Hd.ob_eq
    (by kernel_rfl) (fun s => by kernel_rfl) Hd.run (by kernel_rfl) (by kernel_rfl) (by kernel_rfl) (by rfl) (by first | assumption | decide +kernel) (by decide +kernel) ⟨rfl, rfl, rfl, rfl, rfl, by decide +kernel⟩ ?hw ?hc
  case hw => w_witness2
  case hc => exact Ev.K88.law_walks
end
